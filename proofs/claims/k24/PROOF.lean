import PyProof.Rows.All
import Wide.All
import OpenK.AllK
import Wide.FinOn
import KE.KStateDown
import Lean
import HandS.ForExc
import HandS.Defaults
import HandS.Head0
import HandS.Head1
import HandS.Head2
import HandS.HeadEnd
import HandS.HeadHook1
import HandS.HeadHook2
import HandS.ForMost
import HandS.Exc
import HandS.TryOnly
import HandS.ExcOwn
import HandS.WordsExc
import HandS.Wide
import HandS.Conv
import HandS.Flow
import HandS.Style
import HandS.Deep
import HandS.IsInst
import HandS.SortInts
import HandS.TupAny
import HandS.SortRule
import HandS.Star
import HandS.TupLen
import HandS.WordsDict
import HandS.Zip
import HandS.Rev
import HandS.RevRange
import KE.SortData
import KE.KRevSl
import HandS.TryMany
import HandS.DictComp
import KE.DataMinMax
import PySem.Challenge.RW_hillballots_k24_middle_ballots
set_option Elab.async false
set_option linter.all false
set_option maxRecDepth 100000
set_option exponentiation.threshold 3000
set_option maxHeartbeats 0
namespace Hb
open PySem PySem.Spec PyProof.Rows L2
def kD : Key → PyData
  | .inl i => .int i
  | .inr x => .str x
/-- a list that may be read: tracked, locked, or one of the module's own in the plain form -/
def SqX (K : PySem.W.Frag) (H : Hp) (a : Addr) (xs : List V) : Prop :=
  Rd H a (.lst xs) ∨ ∃ (its : List Value) (n : Nat), K.lookup a = some { cls := .type "list", data := .seq its.toArray n } ∧ its.length ≤ sizeLine ∧ Vals xs its
theorem SqX.of {K : PySem.W.Frag} {H : Hp} {a : Addr} {xs : List V} (h : H a = some (.lst xs)) : SqX K H a xs := .inl (.inl h)
theorem SqX.sq {K : PySem.W.Frag} {H : Hp} {a : Addr} {xs : List V} (h : SqX K H a xs) : SqL K H a xs := by
  rcases h with h | ⟨its, n, h1, h2, h3⟩
  · exact .inl h
  · exact .inr ⟨_, its.toArray, n, h1, rfl, rfl, rfl, by simpa using h2, by simpa using h3⟩
theorem inv_lstX {X : Cx} {pins : List (Addr × Obj)} {σ : L2.St} {H : Hp} {s : Shared} {a : Addr} {xs : List V} (I : Inv X pins σ H s) (h : SqX X.K H a xs) :
    ∃ (its : List Value) (n : Nat), Vals xs its ∧ s.heap.get? a = some { cls := .type "list", data := .seq its.toArray n } ∧ xs.length ≤ sizeLine := by
  rcases h with h | ⟨its, n, h1, h2, h3⟩
  · obtain ⟨z, its, n, r, e⟩ := h.ok I.hok
    exact ⟨its, n, r, e, z⟩
  · exact ⟨its, n, h3, I.kIn a _ h1, by rw [h3.length]; exact h2⟩
mutual
/-- the value v stands, in the heap H, for the tree d -/
inductive Rp (K : PySem.W.Frag) (H : Hp) : V → PyData → Prop
  | non : Rp K H .non .none
  | bl (b : Bool) : Rp K H (.bl b) (.bool b)
  | int (i : Int) : Rp K H (.int i) (.int i)
  | str (x : Str) : Rp K H (.str x) (.str x)
  | lst {a : Addr} {xs : List V} {ds : List PyData} : SqX K H a xs → RpL K H xs ds → Rp K H (.ref a) (.list ds)
  | tup {a : Addr} {xs : List V} {ds : List PyData} : H a = some (.tup xs) → RpL K H xs ds → Rp K H (.ref a) (.tuple ds)
  | dK {a : Addr} {kvs : List (Key × V)} {ds : List (PyData × PyData)} : H a = some (.dK kvs) → RpK K H kvs ds → Rp K H (.ref a) (.dict ds)
  | dT {a : Addr} {kvs : List (List Key × V)} {ds : List (PyData × PyData)} : H a = some (.dT kvs) → RpT K H kvs ds → Rp K H (.ref a) (.dict ds)
inductive RpL (K : PySem.W.Frag) (H : Hp) : List V → List PyData → Prop
  | nil : RpL K H [] []
  | cons {v : V} {vs : List V} {d : PyData} {ds : List PyData} : Rp K H v d → RpL K H vs ds → RpL K H (v :: vs) (d :: ds)
inductive RpK (K : PySem.W.Frag) (H : Hp) : List (Key × V) → List (PyData × PyData) → Prop
  | nil : RpK K H [] []
  | cons {k : Key} {v : V} {vs : List (Key × V)} {d : PyData} {ds : List (PyData × PyData)} : Rp K H v d → RpK K H vs ds → RpK K H ((k, v) :: vs) ((kD k, d) :: ds)
inductive RpT (K : PySem.W.Frag) (H : Hp) : List (List Key × V) → List (PyData × PyData) → Prop
  | nil : RpT K H [] []
  | cons {k : List Key} {v : V} {vs : List (List Key × V)} {d : PyData} {ds : List (PyData × PyData)} : Rp K H v d → RpT K H vs ds → RpT K H ((k, v) :: vs) ((.tuple (k.map kD), d) :: ds)
end
theorem same_sqT {K : PySem.W.Frag} {H H' : Hp} {a : Addr} {xs : List V} (e : Same H H') (h : SqT K H a xs) : SqT K H' a xs := by
  rcases h with (h | ⟨o, h⟩) | h
  · exact .inl (.inl (e _ _ h))
  · exact .inl (.inr ⟨o, e _ _ h⟩)
  · exact .inr h
theorem same_rd {H H' : Hp} {a : Addr} {u : HO} (e : Same H H') (h : Rd H a u) : Rd H' a u := by
  rcases h with h | ⟨o, h⟩
  · exact .inl (e _ _ h)
  · exact .inr ⟨o, e _ _ h⟩
theorem same_sqX {K : PySem.W.Frag} {H H' : Hp} {a : Addr} {xs : List V} (e : Same H H') (h : SqX K H a xs) : SqX K H' a xs := by
  rcases h with h | h
  · exact .inl (same_rd e h)
  · exact .inr h
section
variable {K : PySem.W.Frag} {H H' : Hp} (e : Same H H')
include e
mutual
theorem Rp.mono : ∀ {v : V} {d : PyData}, Rp K H v d → Rp K H' v d
  | _, _, .non => .non
  | _, _, .bl b => .bl b
  | _, _, .int i => .int i
  | _, _, .str x => .str x
  | _, _, .lst h1 h2 => .lst (same_sqX e h1) (RpL.mono h2)
  | _, _, .tup h1 h2 => .tup (e _ _ h1) (RpL.mono h2)
  | _, _, .dK h1 h2 => .dK (e _ _ h1) (RpK.mono h2)
  | _, _, .dT h1 h2 => .dT (e _ _ h1) (RpT.mono h2)
theorem RpL.mono : ∀ {vs : List V} {ds : List PyData}, RpL K H vs ds → RpL K H' vs ds
  | _, _, .nil => .nil
  | _, _, .cons h1 h2 => .cons (Rp.mono h1) (RpL.mono h2)
theorem RpK.mono : ∀ {vs : List (Key × V)} {ds : List (PyData × PyData)}, RpK K H vs ds → RpK K H' vs ds
  | _, _, .nil => .nil
  | _, _, .cons h1 h2 => .cons (Rp.mono h1) (RpK.mono h2)
theorem RpT.mono : ∀ {vs : List (List Key × V)} {ds : List (PyData × PyData)}, RpT K H vs ds → RpT K H' vs ds
  | _, _, .nil => .nil
  | _, _, .cons h1 h2 => .cons (Rp.mono h1) (RpT.mono h2)
end
end
section
variable {K : PySem.W.Frag} {H : Hp}
theorem RpL.len : ∀ {vs : List V} {ds : List PyData}, RpL K H vs ds → vs.length = ds.length
  | _, _, .nil => rfl
  | _, _, .cons _ t => by simp [RpL.len t]
theorem RpL.get : ∀ {vs : List V} {ds : List PyData} {i : Nat} {d : PyData}, RpL K H vs ds → ds[i]? = some d → ∃ v, vs[i]? = some v ∧ Rp K H v d
  | _, _, _, _, .nil, e => by simp at e
  | _, _, 0, _, .cons r _, e => by simp at e; subst e; exact ⟨_, rfl, r⟩
  | _, _, i + 1, d, .cons _ t, e => by
    obtain ⟨u, h1, h2⟩ := RpL.get (i := i) (d := d) t (by simpa using e)
    exact ⟨u, by simpa using h1, h2⟩
theorem RpL.getV : ∀ {vs : List V} {ds : List PyData} {i : Nat} {v : V}, RpL K H vs ds → vs[i]? = some v → ∃ d, ds[i]? = some d ∧ Rp K H v d
  | _, _, _, _, .nil, e => by simp at e
  | _, _, 0, _, .cons r _, e => by simp at e; subst e; exact ⟨_, rfl, r⟩
  | _, _, i + 1, d, .cons _ t, e => by
    obtain ⟨u, h1, h2⟩ := RpL.getV (i := i) (v := d) t (by simpa using e)
    exact ⟨u, by simpa using h1, h2⟩
theorem RpL.append : ∀ {vs ws : List V} {ds es : List PyData}, RpL K H vs ds → RpL K H ws es → RpL K H (vs ++ ws) (ds ++ es)
  | _, _, _, _, .nil, s => s
  | _, _, _, _, .cons r t, s => .cons r (RpL.append t s)
theorem RpL.one {v : V} {d : PyData} (h : Rp K H v d) : RpL K H [v] [d] := .cons h .nil
theorem RpL.take : ∀ {vs : List V} {ds : List PyData} (n : Nat), RpL K H vs ds → RpL K H (vs.take n) (ds.take n)
  | _, _, 0, _ => by simp; exact .nil
  | _, _, n + 1, .nil => by simp; exact .nil
  | _, _, n + 1, .cons r t => .cons r (RpL.take n t)
theorem RpL.drop : ∀ {vs : List V} {ds : List PyData} (n : Nat), RpL K H vs ds → RpL K H (vs.drop n) (ds.drop n)
  | _, _, 0, h => h
  | _, _, n + 1, .nil => by simp; exact .nil
  | _, _, n + 1, .cons _ t => RpL.drop n t
theorem RpL.set {v : V} {d : PyData} (h : Rp K H v d) : ∀ {vs : List V} {ds : List PyData} (n : Nat), RpL K H vs ds → RpL K H (vs.set n v) (ds.set n d)
  | _, _, _, .nil => .nil
  | _, _, 0, .cons _ t => .cons h t
  | _, _, n + 1, .cons r t => .cons r (RpL.set h n t)
theorem RpL.eraseIdx : ∀ {vs : List V} {ds : List PyData} (n : Nat), RpL K H vs ds → RpL K H (vs.eraseIdx n) (ds.eraseIdx n)
  | _, _, _, .nil => .nil
  | _, _, 0, .cons _ t => t
  | _, _, n + 1, .cons r t => .cons r (RpL.eraseIdx n t)
theorem RpL.ints : ∀ {vs : List V} {ns : List Int}, RpL K H vs (ns.map .int) → vs = ns.map V.int
  | _, [], .nil => rfl
  | _, n :: ns, .cons r t => by
    cases r
    rw [RpL.ints t]
    rfl
theorem RpL.mem {vs : List V} {ds : List PyData} (h : RpL K H vs ds) {v : V} (hv : v ∈ vs) : ∃ d ∈ ds, Rp K H v d := by
  obtain ⟨i, hi, e⟩ := List.mem_iff_getElem.mp hv
  obtain ⟨d, e1, r⟩ := h.getV (i := i) (v := v) (by rw [← e]; exact List.getElem?_eq_getElem hi)
  exact ⟨d, List.mem_of_getElem? e1, r⟩
end
/-- an item of a list that is one's own: a tree that stands still, or a list of one's own -/
inductive El where
  | fz (d : PyData) | ow (xs : List PyData)
def El.d : El → PyData
  | .fz d => d
  | .ow xs => .list xs
/-- a name: nothing is known; a tree that stands still; a list of one's own; a dict of one's own; the item j of the list of slot x -/
inductive Sl where
  | no | fz (d : PyData) | ol (xs : List El) | od (kvs : List (PyData × PyData)) | al (x j : Nat)
def ElR (K : PySem.W.Frag) (Fz H : Hp) (f : List Addr) (v : V) : El → Prop
  | .fz d => f = [] ∧ Rp K Fz v d
  | .ow xs => ∃ a vs, v = .ref a ∧ f = [a] ∧ H a = some (.lst vs) ∧ RpL K Fz vs xs
inductive ElL (K : PySem.W.Frag) (Fz H : Hp) : List Addr → List V → List El → Prop
  | nil : ElL K Fz H [] [] []
  | cons {f g : List Addr} {v : V} {vs : List V} {e : El} {es : List El} : ElR K Fz H f v e → ElL K Fz H g vs es → ElL K Fz H (f ++ g) (v :: vs) (e :: es)
def DcR (K : PySem.W.Frag) (Fz H : Hp) (a : Addr) (kvs : List (PyData × PyData)) : Prop :=
  (∃ ws, H a = some (.dK ws) ∧ RpK K Fz ws kvs) ∨ (∃ ws, H a = some (.dT ws) ∧ RpT K Fz ws kvs)
def SlH (K : PySem.W.Frag) (Fz H : Hp) (σ : L2.St) (f : List Addr) (o : Option V) : Sl → Prop
  | .no => f = []
  | .fz d => f = [] ∧ ∃ v, o = some v ∧ Rp K Fz v d
  | .ol xs => ∃ a vs g, o = some (.ref a) ∧ f = a :: g ∧ H a = some (.lst vs) ∧ ElL K Fz H g vs xs
  | .od kvs => ∃ a, o = some (.ref a) ∧ f = [a] ∧ DcR K Fz H a kvs
  | .al x j => f = [] ∧ ∃ a b vs, σ[x]? = some (some (.ref a)) ∧ H a = some (.lst vs) ∧ vs[j]? = some (.ref b) ∧ o = some (.ref b)
/-- what stays through a body: the ground B, what of it stands still (F0), the slots that stay (pin, as in so) -/
structure Bk where
  B : Hp
  F0 : Hp
  pin : List Nat
  so : L2.St
structure Rl (K : PySem.W.Frag) (b : Bk) (Fz : Hp) (F : Nat → List Addr) (δ : List Sl) (σ : L2.St) (H : Hp) : Prop where
  le : Same Fz H
  base : Same b.B H
  len : σ.length = δ.length
  slot : ∀ i s, δ[i]? = some s → SlH K Fz H σ (F i) (σ[i]?.join) s
  nd : ∀ i, (F i).Nodup
  dj : ∀ i j a, a ∈ F i → a ∈ F j → i = j
  offF : ∀ i a, a ∈ F i → Fz a = none
  offB : ∀ i a, a ∈ F i → b.B a = none
  on : ∀ i a, a ∈ F i → H a ≠ none
  keep : ∀ a, b.B a ≠ none → Fz a = b.F0 a
  f0 : ∀ a, b.F0 a ≠ none → b.B a ≠ none
  pin : ∀ i ∈ b.pin, σ[i]? = b.so[i]?
  als : ∀ (i x j : Nat), δ[i]? = some (.al x j) → ∃ xs, δ[x]? = some (.ol xs)
theorem ElR.keeps {K : PySem.W.Frag} {Fz Fz' H H' : Hp} {f : List Addr} {v : V} {e : El} (h : ElR K Fz H f v e) (hF : Same Fz Fz') (hH : ∀ a ∈ f, H' a = H a) : ElR K Fz' H' f v e := by
  cases e with
  | fz d => exact ⟨h.1, h.2.mono hF⟩
  | ow xs =>
    obtain ⟨a, vs, e1, e2, e3, e4⟩ := h
    exact ⟨a, vs, e1, e2, (hH a (by simp [e2])).trans e3, e4.mono hF⟩
theorem ElL.keeps {K : PySem.W.Frag} {Fz Fz' H H' : Hp} : ∀ {f : List Addr} {vs : List V} {es : List El}, ElL K Fz H f vs es → Same Fz Fz' → (∀ a ∈ f, H' a = H a) → ElL K Fz' H' f vs es
  | _, _, _, .nil, _, _ => .nil
  | _, _, _, .cons h t, hF, hH => .cons (h.keeps hF fun a ha => hH a (List.mem_append_left _ ha)) (t.keeps hF fun a ha => hH a (List.mem_append_right _ ha))
theorem DcR.keeps {K : PySem.W.Frag} {Fz Fz' H H' : Hp} {a : Addr} {kvs : List (PyData × PyData)} (h : DcR K Fz H a kvs) (hF : Same Fz Fz') (hH : H' a = H a) : DcR K Fz' H' a kvs := by
  rcases h with ⟨ws, h1, h2⟩ | ⟨ws, h1, h2⟩
  · exact .inl ⟨ws, hH.trans h1, h2.mono hF⟩
  · exact .inr ⟨ws, hH.trans h1, h2.mono hF⟩
/-- the slot's own objects, and (for an item of another slot) its list, are as they were -/
theorem SlH.keeps {K : PySem.W.Frag} {Fz Fz' H H' : Hp} {σ : L2.St} {f : List Addr} {o : Option V} {s : Sl} (h : SlH K Fz H σ f o s) (hF : Same Fz Fz') (hH : ∀ a ∈ f, H' a = H a)
    (hA : ∀ x j, s = .al x j → ∀ a, σ[x]? = some (some (.ref a)) → H' a = H a) : SlH K Fz' H' σ f o s := by
  cases s with
  | no => exact h
  | fz d =>
    obtain ⟨e, v, e2, r⟩ := h
    exact ⟨e, v, e2, r.mono hF⟩
  | ol xs =>
    obtain ⟨a, vs, g, e1, e2, e3, e4⟩ := h
    exact ⟨a, vs, g, e1, e2, (hH a (by simp [e2])).trans e3, e4.keeps hF fun c hc => hH c (by simp [e2, hc])⟩
  | od kvs =>
    obtain ⟨a, e1, e2, e3⟩ := h
    exact ⟨a, e1, e2, e3.keeps hF (hH a (by simp [e2]))⟩
  | al x j =>
    obtain ⟨e, a, b, vs, e1, e2, e3, e4⟩ := h
    exact ⟨e, a, b, vs, e1, (hA x j rfl a e1).trans e2, e3, e4⟩
theorem upd_new {H : Hp} {p b : Addr} {o : HO} (n : H p = none) (h : H b ≠ none) : upd H p o b = H b := upd_ne fun e => h (by rw [e]; exact n)
theorem same_new {H : Hp} {p : Addr} {o : HO} (n : H p = none) : Same H (upd H p o) := fun b x e => by
  rw [upd_new n (by rw [e]; simp)]
  exact e
section
variable {K : PySem.W.Frag} {b : Bk} {Fz : Hp} {F : Nat → List Addr} {δ : List Sl} {σ : L2.St} {H : Hp}
/-- the heap grew -/
theorem Rl.grow (R : Rl K b Fz F δ σ H) {H' : Hp} (s : Same H H') : Rl K b Fz F δ σ H' where
  le := R.le.trans s
  base := R.base.trans s
  len := R.len
  slot := fun i s' e => (R.slot i s' e).keeps (Same.refl _) (fun a ha => by
    cases q : H a with
    | none => exact absurd q (R.on i a ha)
    | some o => exact s a o q) fun x j _ a ha => by
      cases q : H a with
      | some o => exact s a o q
      | none =>
        rename_i e2
        subst e2
        obtain ⟨_, a', _, vs, e1, e2, _⟩ := R.slot i _ e
        rw [ha] at e1
        cases e1
        rw [q] at e2
        cases e2
  nd := R.nd
  dj := R.dj
  offF := R.offF
  offB := R.offB
  on := fun i a ha => by
    cases q : H a with
    | none => exact absurd q (R.on i a ha)
    | some o =>
      rw [s a o q]
      simp
  keep := R.keep
  f0 := R.f0
  pin := R.pin
  als := R.als
theorem Rl.new (R : Rl K b Fz F δ σ H) {p : Addr} (n : H p = none) (o : HO) : Rl K b Fz F δ σ (upd H p o) := R.grow (same_new n)
theorem Rl.offN (R : Rl K b Fz F δ σ H) {p : Addr} (n : H p = none) : Fz p = none ∧ b.B p = none ∧ ∀ i, p ∉ F i := by
  refine ⟨?_, ?_, fun i hi => R.on i p hi n⟩
  · cases q : Fz p with
    | none => rfl
    | some o =>
      have := R.le p o q
      rw [n] at this
      cases this
  · cases q : b.B p with
    | none => rfl
    | some o =>
      have := R.base p o q
      rw [n] at this
      cases this
/-- more stands still: objects at hand that nobody owns, outside the ground -/
theorem Rl.freeze (R : Rl K b Fz F δ σ H) {Fz' : Hp} (s : Same Fz Fz') (le : Same Fz' H) (off : ∀ a, Fz a = none → Fz' a ≠ none → b.B a = none ∧ ∀ i, a ∉ F i) : Rl K b Fz' F δ σ H where
  le := le
  base := R.base
  len := R.len
  slot := fun i s' e => (R.slot i s' e).keeps s (fun _ _ => rfl) fun _ _ _ _ _ => rfl
  nd := R.nd
  dj := R.dj
  offF := fun i a ha => by
    cases q : Fz' a with
    | none => rfl
    | some o => exact absurd ha ((off a (R.offF i a ha) (by rw [q]; simp)).2 i)
  offB := R.offB
  on := R.on
  keep := fun a ha => by
    rw [← R.keep a ha]
    cases q : Fz a with
    | some o => exact s a o q
    | none =>
      cases q' : Fz' a with
      | none => rfl
      | some o => exact absurd (off a q (by rw [q']; simp)).1 ha
  f0 := R.f0
  pin := R.pin
  als := R.als
end
end Hb
namespace Hb
open PySem PySem.Spec PyProof.Rows L2
/-- what an expression gives: a tree that stands still; the slot i by reference; a new thing of nobody's -/
inductive AV where
  | val (d : PyData) | ref (i : Nat) | tmp (s : Sl)
/-- an error: its class's name, the field that it bears -/
structure Exn where
  cls : Str
  arg : Option (Str × PyData) := none
inductive Rs (α : Type) where
  | ok (a : α) (δ : List Sl) | er (x : Exn) (δ : List Sl) | bad
def Rs.bind {α β : Type} (r : Rs α) (k : α → List Sl → Rs β) : Rs β := match r with
  | .ok a δ => k a δ
  | .er x δ => .er x δ
  | .bad => .bad
def Sl.tree : Sl → Option PyData
  | .fz d => some d
  | .ol xs => some (.list (xs.map El.d))
  | .od kvs => some (.dict kvs)
  | _ => none
/-- the tree that is read -/
def rdA (δ : List Sl) : AV → Option PyData
  | .val d => some d
  | .ref i => match δ[i]? with
    | some (.al x j) => (match δ[x]? with
      | some (.ol xs) => xs[j]?.map El.d
      | _ => none)
    | some s => s.tree
    | none => none
  | .tmp _ => none
def allFz : List El → Option (List PyData)
  | [] => some []
  | .fz d :: r => (allFz r).map (d :: ·)
  | .ow _ :: _ => none
/-- a list whose items stand still -/
def rdC (δ : List Sl) : AV → Option PyData
  | .val d => some d
  | .ref i => match δ[i]? with
    | some (.al x j) => (match δ[x]? with
      | some (.ol xs) => xs[j]?.map El.d
      | _ => none)
    | some (.fz d) => some d
    | some (.ol xs) => (allFz xs).map .list
    | _ => none
  | .tmp _ => none
def AvS (K : PySem.W.Frag) (Fz : Hp) (σ : L2.St) (v : V) : AV → Prop
  | .val d => Rp K Fz v d
  | .ref i => σ[i]? = some (some v)
  | .tmp _ => False
def AvR (K : PySem.W.Frag) (b : Bk) (Fz : Hp) (F : Nat → List Addr) (H : Hp) (σ : L2.St) (v : V) : AV → Prop
  | .val d => Rp K Fz v d
  | .ref i => σ[i]? = some (some v)
  | .tmp s => s.tree.isSome = true ∧ ∃ g, SlH K Fz H [] g (some v) s ∧ g.Nodup ∧ ∀ a ∈ g, Fz a = none ∧ b.B a = none ∧ H a ≠ none ∧ ∀ i, a ∉ F i
def ExR (K : PySem.W.Frag) (mg : Str → Option Value) (Fz H : Hp) (x : Exn) (c : Value) (dd : Option Addr) : Prop :=
  (∃ C, mg x.cls = some (.ref C) ∧ c = .ref C) ∧ match x.arg with
    | none => dd = none
    | some p => ∃ a v, dd = some a ∧ H a = some (.xd [(p.1, v)]) ∧ Rp K Fz v p.2
section
variable (K : PySem.W.Frag) (mg : Str → Option Value) (W : WX)
def PostX (b : Bk) (Fz : Hp) (σ : L2.St) (x : Exn) (δ : List Sl) : Prop := ∀ c dd H' Fz' F', Same Fz Fz' → Rl K b Fz' F' δ σ H' → ExR K mg Fz' H' x c dd → W c dd σ H'
def Post (b : Bk) (Fz : Hp) (σ : L2.St) (Q : VK) : Rs AV → Prop
  | .ok a δ => ∀ v H' Fz' F', Same Fz Fz' → Rl K b Fz' F' δ σ H' → AvR K b Fz' F' H' σ v a → Q v H'
  | .er x δ => PostX K mg W b Fz σ x δ
  | .bad => False
def rdE (pin : List Nat) (f : List Sl → Rs AV) : TE := fun σ H Q => ∃ b Fz F δ, b.pin = pin ∧ Rl K b Fz F δ σ H ∧ Post K mg W b Fz σ Q (f δ)
/-- a test -/
def PostT (b : Bk) (Fz : Hp) (σ : L2.St) (Q : Bool → Hp → Prop) : Rs Bool → Prop
  | .ok a δ => ∀ H' Fz' F', Same Fz Fz' → Rl K b Fz' F' δ σ H' → Q a H'
  | .er x δ => PostX K mg W b Fz σ x δ
  | .bad => False
def rdT (pin : List Nat) (f : List Sl → Rs Bool) : TT := fun σ H Q => ∃ b Fz F δ, b.pin = pin ∧ Rl K b Fz F δ σ H ∧ PostT K mg W b Fz σ Q (f δ)
end
abbrev SE (X : Cx) (W : WX) (pin : List Nat) (e : Expr) (f : List Sl → Rs AV) : Prop := PE X e (rdE X.K X.mg W pin f)
abbrev ST (X : Cx) (W : WX) (pin : List Nat) (e : Expr) (f : List Sl → Rs Bool) : Prop := PT X e (rdT X.K X.mg W pin f)
theorem pe_mono {X : Cx} {e : Expr} {t t' : TE} (h : PE X e t) (i : ∀ σ H Q, t' σ H Q → t σ H Q) : PE X e t' := ⟨fun pins s σ H Q I q => h.run pins s σ H Q I (i σ H Q q)⟩
theorem pt_mono {X : Cx} {e : Expr} {t t' : TT} (h : PT X e t) (i : ∀ σ H Q, t' σ H Q → t σ H Q) : PT X e t' := ⟨fun pins s σ H Q I q => h.run pins s σ H Q I (i σ H Q q)⟩
section
variable {K : PySem.W.Frag} {mg : Str → Option Value} {W : WX} {b : Bk} {Fz Fz1 : Hp} {F : Nat → List Addr} {δ : List Sl} {σ : L2.St} {H : Hp} {Q : VK}
theorem PostX.le {x : Exn} (s : Same Fz Fz1) (p : PostX K mg W b Fz σ x δ) : PostX K mg W b Fz1 σ x δ := fun c dd H' Fz' F' s' R e => p c dd H' Fz' F' (s.trans s') R e
theorem Post.le {r : Rs AV} (s : Same Fz Fz1) (p : Post K mg W b Fz σ Q r) : Post K mg W b Fz1 σ Q r := by
  cases r with
  | ok a δ => exact fun v H' Fz' F' s' R e => p v H' Fz' F' (s.trans s') R e
  | er x δ => exact PostX.le s p
  | bad => exact p
theorem PostT.le {Q : Bool → Hp → Prop} {r : Rs Bool} (s : Same Fz Fz1) (p : PostT K mg W b Fz σ Q r) : PostT K mg W b Fz1 σ Q r := by
  cases r with
  | ok a δ => exact fun H' Fz' F' s' R => p H' Fz' F' (s.trans s') R
  | er x δ => exact PostX.le s p
  | bad => exact p
theorem AvS.le {v : V} {a : AV} (s : Same Fz Fz1) (p : AvS K Fz σ v a) : AvS K Fz1 σ v a := by
  cases a with
  | val d => exact Rp.mono s p
  | ref i => exact p
  | tmp t => exact p
theorem AvR.of {v : V} {a : AV} (p : AvS K Fz σ v a) : AvR K b Fz F H σ v a := by
  cases a with
  | val d => exact p
  | ref i => exact p
  | tmp t => exact False.elim p
theorem ElL.tree {Fz H : Hp} (le : Same Fz H) : ∀ {f : List Addr} {vs : List V} {es : List El}, ElL K Fz H f vs es → RpL K H vs (es.map El.d)
  | _, _, _, .nil => .nil
  | _, _, _, .cons (e := .fz d) h t => .cons (h.2.mono le) (ElL.tree le t)
  | _, _, _, .cons (e := .ow xs) h t => by
    obtain ⟨a, vs, e1, e2, e3, e4⟩ := h
    subst e1
    exact .cons (.lst (SqX.of e3) (e4.mono le)) (ElL.tree le t)
theorem ElL.at_ {Fz H : Hp} : ∀ {f : List Addr} {vs : List V} {es : List El} {j : Nat} {e : El}, ElL K Fz H f vs es → es[j]? = some e → ∃ v g, vs[j]? = some v ∧ ElR K Fz H g v e ∧ ∀ a ∈ g, a ∈ f
  | _, _, _, _, _, .nil, e => by simp at e
  | _, _, _, 0, _, .cons (f := f) (v := v) h t, e => by
    simp at e
    subst e
    exact ⟨v, f, rfl, h, fun a ha => List.mem_append_left _ ha⟩
  | _, _, _, j + 1, _, .cons h t, e => by
    obtain ⟨v, g, e1, e2, e3⟩ := ElL.at_ t (by simpa using e)
    exact ⟨v, g, by simpa using e1, e2, fun a ha => List.mem_append_right _ (e3 a ha)⟩
theorem ElL.allFz {Fz H : Hp} : ∀ {f : List Addr} {vs : List V} {es : List El} {ds : List PyData}, ElL K Fz H f vs es → Hb.allFz es = some ds → RpL K Fz vs ds
  | _, _, _, _, .nil, e => by cases e; exact .nil
  | _, _, _, ds, .cons (e := .fz d) (es := es) h t, e => by
    cases q : Hb.allFz es with
    | none =>
      rw [Hb.allFz, q] at e
      cases e
    | some ds' =>
      rw [Hb.allFz, q] at e
      cases e
      exact .cons h.2 (ElL.allFz t q)
  | _, _, _, ds, .cons (e := .ow xs) h t, e => by cases e
/-- a value that is read -/
def RpC (K : PySem.W.Frag) (Fz H : Hp) (v : V) (d : PyData) : Prop := Rp K Fz v d ∨ ∃ a vs ds, v = .ref a ∧ d = .list ds ∧ H a = some (.lst vs) ∧ RpL K Fz vs ds
theorem join_some {o : Option (Option V)} {v : V} (h : o.join = some v) : o = some (some v) := by
  cases o with
  | none => cases h
  | some o => exact congrArg some h
theorem Rl.al (R : Rl K b Fz F δ σ H) {i x j : Nat} {xs : List El} {e : El} {v : V} (h : δ[i]? = some (.al x j)) (hx : δ[x]? = some (.ol xs)) (hj : xs[j]? = some e) (hv : σ[i]? = some (some v)) : ∃ g, ElR K Fz H g v e ∧ ∀ a ∈ g, a ∈ F x := by
  obtain ⟨_, a, c, vs, e1, e2, e3, e4⟩ := R.slot i _ h
  obtain ⟨a', vs', g, e5, e6, e7, e8⟩ := R.slot x _ hx
  rw [e1] at e5
  cases e5
  rw [e2] at e7
  cases e7
  obtain ⟨v', g', e9, e10, e11⟩ := e8.at_ hj
  rw [e3] at e9
  cases e9
  rw [hv] at e4
  cases e4
  exact ⟨g', e10, fun a ha => by rw [e6]; exact List.mem_cons_of_mem _ (e11 a ha)⟩
theorem rdA_ok (R : Rl K b Fz F δ σ H) {v : V} {a : AV} {d : PyData} (p : AvS K Fz σ v a) (h : rdA δ a = some d) : Rp K H v d := by
  cases a with
  | val d' =>
    cases h
    exact Rp.mono R.le p
  | tmp t => exact False.elim p
  | ref i =>
    have hv : σ[i]? = some (some v) := p
    cases q : δ[i]? with
    | none =>
      simp only [rdA, q] at h
      cases h
    | some s =>
      have hs := R.slot i s q
      rw [hv] at hs
      cases s with
      | no =>
        simp only [rdA, q] at h
        cases h
      | fz d' =>
        simp only [rdA, q] at h
        cases h
        obtain ⟨_, v', e1, e2⟩ := hs
        cases e1
        exact e2.mono R.le
      | ol xs =>
        simp only [rdA, q] at h
        cases h
        obtain ⟨a, vs, g, e1, e2, e3, e4⟩ := hs
        cases e1
        exact .lst (SqX.of e3) (e4.tree R.le)
      | od kvs =>
        simp only [rdA, q] at h
        cases h
        obtain ⟨a, e1, e2, e3⟩ := hs
        cases e1
        rcases e3 with ⟨ws, h1, h2⟩ | ⟨ws, h1, h2⟩
        · exact .dK h1 (h2.mono R.le)
        · exact .dT h1 (h2.mono R.le)
      | al x j =>
        cases q2 : δ[x]? with
        | none =>
          simp only [rdA, q, q2] at h
          cases h
        | some t =>
          cases t with
          | ol xs =>
            cases q3 : xs[j]? with
            | none =>
              simp only [rdA, q, q2, q3] at h
              cases h
            | some e =>
              simp only [rdA, q, q2, q3] at h
              cases h
              obtain ⟨g, e1, _⟩ := R.al q q2 q3 hv
              cases e with
              | fz d' => exact e1.2.mono R.le
              | ow ys =>
                obtain ⟨a, vs, f1, _, f3, f4⟩ := e1
                subst f1
                exact .lst (SqX.of f3) (f4.mono R.le)
          | _ =>
            simp only [rdA, q, q2] at h
            cases h
theorem rdC_ok (R : Rl K b Fz F δ σ H) {v : V} {a : AV} {d : PyData} (p : AvS K Fz σ v a) (h : rdC δ a = some d) : RpC K Fz H v d := by
  cases a with
  | val d' =>
    cases h
    exact .inl p
  | tmp t => exact False.elim p
  | ref i =>
    have hv : σ[i]? = some (some v) := p
    cases q : δ[i]? with
    | none =>
      simp only [rdC, q] at h
      cases h
    | some s =>
      have hs := R.slot i s q
      rw [hv] at hs
      cases s with
      | no =>
        simp only [rdC, q] at h
        cases h
      | fz d' =>
        simp only [rdC, q] at h
        cases h
        obtain ⟨_, v', e1, e2⟩ := hs
        cases e1
        exact .inl e2
      | ol xs =>
        simp only [rdC, q] at h
        cases q2 : allFz xs with
        | none =>
          rw [q2] at h
          cases h
        | some ds =>
          rw [q2] at h
          cases h
          obtain ⟨a, vs, g, e1, e2, e3, e4⟩ := hs
          cases e1
          exact .inr ⟨a, vs, ds, rfl, rfl, e3, e4.allFz q2⟩
      | od kvs =>
        simp only [rdC, q] at h
        cases h
      | al x j =>
        cases q2 : δ[x]? with
        | none =>
          simp only [rdC, q, q2] at h
          cases h
        | some t =>
          cases t with
          | ol xs =>
            cases q3 : xs[j]? with
            | none =>
              simp only [rdC, q, q2, q3] at h
              cases h
            | some e =>
              simp only [rdC, q, q2, q3] at h
              cases h
              obtain ⟨g, e1, _⟩ := R.al q q2 q3 hv
              cases e with
              | fz d' => exact .inl e1.2
              | ow ys =>
                obtain ⟨a, vs, f1, _, f3, f4⟩ := e1
                subst f1
                exact .inr ⟨a, vs, ys, rfl, rfl, f3, f4⟩
          | _ =>
            simp only [rdC, q, q2] at h
            cases h
theorem RpC.list {v : V} {ds : List PyData} (le : Same Fz H) (h : RpC K Fz H v (.list ds)) : ∃ a vs, v = .ref a ∧ SqX K H a vs ∧ RpL K Fz vs ds := by
  rcases h with h | ⟨a, vs, es, e1, e2, e3, e4⟩
  · cases h with
    | lst h1 h2 => exact ⟨_, _, rfl, same_sqX le h1, h2⟩
  · cases e2
    exact ⟨a, vs, e1, SqX.of e3, e4⟩
theorem RpC.tup {v : V} {ds : List PyData} (le : Same Fz H) (h : RpC K Fz H v (.tuple ds)) : ∃ a vs, v = .ref a ∧ SqT K H a vs ∧ RpL K Fz vs ds := by
  rcases h with h | ⟨a, vs, es, e1, e2, e3, e4⟩
  · cases h with
    | tup h1 h2 => exact ⟨_, _, rfl, SqT.of (le _ _ h1), h2⟩
  · cases e2
theorem RpC.rp {v : V} {d : PyData} (le : Same Fz H) (h : RpC K Fz H v d) : Rp K H v d := by
  rcases h with h | ⟨a, vs, es, e1, e2, e3, e4⟩
  · exact h.mono le
  · subst e1 e2
    exact .lst (SqX.of e3) (e4.mono le)
theorem ElL.ofFz {H : Hp} : ∀ {vs : List V} {ds : List PyData}, RpL K Fz vs ds → ElL K Fz H [] vs (ds.map .fz)
  | _, _, .nil => .nil
  | _, _, .cons h t => .cons (f := []) ⟨rfl, h⟩ (ElL.ofFz t)
theorem post_newL (R : Rl K b Fz F δ σ H) {vs : List V} {ds : List PyData} (h : RpL K Fz vs ds) (P : Post K mg W b Fz σ Q (.ok (.tmp (.ol (ds.map .fz))) δ)) : ∀ p, H p = none → Q (.ref p) (upd H p (.lst vs)) := fun p n => by
  obtain ⟨n1, n2, n3⟩ := R.offN n
  refine P (.ref p) _ Fz F (Same.refl _) (R.new n _) ⟨rfl, [p], ⟨p, vs, [], rfl, rfl, upd_same, ElL.ofFz h⟩, by simp, fun a ha => ?_⟩
  rw [List.mem_singleton] at ha
  subst ha
  exact ⟨n1, n2, by rw [upd_same]; simp, n3⟩
/-- a new thing that stands still at once -/
theorem Rl.newF (R : Rl K b Fz F δ σ H) {p : Addr} (n : H p = none) (o : HO) : Same Fz (upd Fz p o) ∧ Rl K b (upd Fz p o) F δ σ (upd H p o) := by
  obtain ⟨n1, n2, n3⟩ := R.offN n
  refine ⟨same_new n1, (R.new n o).freeze (same_new n1) (fun a x e => ?_) fun a ha hb => ?_⟩
  · by_cases q : a = p
    · subst q
      rw [upd_same] at e ⊢
      exact e
    · rw [upd_ne q] at e ⊢
      exact R.le a x e
  · by_cases q : a = p
    · subst q
      exact ⟨n2, n3⟩
    · rw [upd_ne q] at hb
      exact absurd ha hb
theorem post_newT (R : Rl K b Fz F δ σ H) {vs : List V} {ds : List PyData} (h : RpL K Fz vs ds) (P : Post K mg W b Fz σ Q (.ok (.val (.tuple ds)) δ)) : ∀ p, H p = none → Q (.ref p) (upd H p (.tup vs)) := fun p n => by
  obtain ⟨s, R'⟩ := R.newF n (.tup vs)
  exact P (.ref p) _ _ F s R' (.tup upd_same (h.mono s))
theorem ElL.treeF {H : Hp} {Fz' : Hp} (s : Same Fz Fz') : ∀ {f : List Addr} {vs : List V} {es : List El}, ElL K Fz H f vs es → (∀ a ∈ f, Fz' a = H a) → RpL K Fz' vs (es.map El.d)
  | _, _, _, .nil, _ => .nil
  | _, _, _, .cons (e := .fz d) h t, hg => .cons (h.2.mono s) (ElL.treeF s t fun a ha => hg a (List.mem_append_right _ ha))
  | _, _, _, .cons (e := .ow xs) h t, hg => by
    obtain ⟨a, vs, e1, e2, e3, e4⟩ := h
    subst e1
    have q := hg a (List.mem_append_left _ (by simp [e2]))
    exact .cons (.lst (SqX.of (q.trans e3)) (e4.mono s)) (ElL.treeF s t fun a ha => hg a (List.mem_append_right _ ha))
theorem SlH.treeF {Fz' : Hp} {σ0 : L2.St} {g : List Addr} {v : V} {t : Sl} {d : PyData} (h : SlH K Fz H σ0 g (some v) t) (ht : t.tree = some d) (s : Same Fz Fz') (hg : ∀ a ∈ g, Fz' a = H a) : Rp K Fz' v d := by
  cases t with
  | no => cases ht
  | fz d' =>
    cases ht
    obtain ⟨_, v', e1, e2⟩ := h
    cases e1
    exact e2.mono s
  | ol xs =>
    cases ht
    obtain ⟨a, vs, g', e1, e2, e3, e4⟩ := h
    cases e1
    exact .lst (SqX.of ((hg a (by simp [e2])).trans e3)) (e4.treeF s fun c hc => hg c (by simp [e2, hc]))
  | od kvs =>
    cases ht
    obtain ⟨a, e1, e2, e3⟩ := h
    cases e1
    have q := hg a (by simp [e2])
    rcases e3 with ⟨ws, h1, h2⟩ | ⟨ws, h1, h2⟩
    · exact .dK (q.trans h1) (h2.mono s)
    · exact .dT (q.trans h1) (h2.mono s)
  | al x j => cases ht
/-- Fz with the objects at g as they stand -/
def addF (Fz H : Hp) (g : List Addr) : Hp := fun a => if a ∈ g then H a else Fz a
theorem addF_in {Fz H : Hp} {g : List Addr} {a : Addr} (h : a ∈ g) : addF Fz H g a = H a := if_pos h
theorem addF_out {Fz H : Hp} {g : List Addr} {a : Addr} (h : a ∉ g) : addF Fz H g a = Fz a := if_neg h
theorem addF_same {Fz H : Hp} {g : List Addr} (h : ∀ a ∈ g, Fz a = none) : Same Fz (addF Fz H g) := fun a o e => by
  by_cases q : a ∈ g
  · rw [h a q] at e
    cases e
  · rw [addF_out q]
    exact e
theorem addF_le {Fz H : Hp} {g : List Addr} (le : Same Fz H) : Same (addF Fz H g) H := fun a o e => by
  by_cases q : a ∈ g
  · rw [addF_in q] at e
    exact e
  · rw [addF_out q] at e
    exact le a o e
theorem Rl.addF (R : Rl K b Fz F δ σ H) {g : List Addr} (hg : ∀ a ∈ g, Fz a = none ∧ b.B a = none ∧ ∀ i, a ∉ F i) : Same Fz (addF Fz H g) ∧ Rl K b (Hb.addF Fz H g) F δ σ H := by
  have s := addF_same (H := H) fun a ha => (hg a ha).1
  refine ⟨s, R.freeze s (addF_le R.le) fun a h1 h2 => ?_⟩
  by_cases q : a ∈ g
  · exact ⟨(hg a q).2.1, (hg a q).2.2⟩
  · rw [addF_out q] at h2
    exact absurd h1 h2
/-- aliases of slot i are forgotten -/
def dropAl (i : Nat) (δ : List Sl) : List Sl := δ.map fun s => match s with
  | .al x j => if x = i then .no else .al x j
  | s => s
def upS (i : Nat) (s : Sl) (δ : List Sl) : List Sl := (dropAl i δ).set i s
theorem dropAl_at {i k : Nat} {s : Sl} {δ : List Sl} (h : (dropAl i δ)[k]? = some s) : s = .no ∧ (∃ j, δ[k]? = some (.al i j)) ∨ δ[k]? = some s ∧ ∀ j, s ≠ .al i j := by
  unfold dropAl at h
  rw [List.getElem?_map] at h
  cases q : δ[k]? with
  | none =>
    rw [q] at h
    cases h
  | some t =>
    rw [q] at h
    cases t with
    | al x j =>
      by_cases e : x = i
      · subst e
        have h' : some (if x = x then Sl.no else Sl.al x j) = some s := h
        rw [if_pos rfl] at h'
        cases h'
        exact .inl ⟨rfl, j, rfl⟩
      · have h' : some (if x = i then Sl.no else Sl.al x j) = some s := h
        rw [if_neg e] at h'
        cases h'
        exact .inr ⟨rfl, fun j' z => by cases z; exact e rfl⟩
    | no => cases h; exact .inr ⟨rfl, fun j' z => nomatch z⟩
    | fz d => cases h; exact .inr ⟨rfl, fun j' z => nomatch z⟩
    | ol xs => cases h; exact .inr ⟨rfl, fun j' z => nomatch z⟩
    | od kvs => cases h; exact .inr ⟨rfl, fun j' z => nomatch z⟩
theorem dropAl_len {i : Nat} {δ : List Sl} : (dropAl i δ).length = δ.length := by simp [dropAl]
/-- slot i (not pinned, or its value the same) gets another value, another heap of its own -/
theorem Rl.put (R : Rl K b Fz F δ σ H) {i : Nat} {s : Sl} {g : List Addr} {σ' : L2.St} {H' : Hp} {Fz' : Hp} (sF : Same Fz Fz') (leF : Same Fz' H') (hb : Same b.B H')
    (hl : σ'.length = σ.length) (hσ : ∀ k, k ≠ i → σ'[k]? = σ[k]?) (hp : σ'[i]? = σ[i]? ∨ i ∉ b.pin)
    (hs : i < δ.length → SlH K Fz' H' σ' g (σ'[i]?.join) s) (ns : ∀ x j, s = .al x j → x ≠ i ∧ ∃ xs, δ[x]? = some (.ol xs))
    (hg : g.Nodup) (gF : ∀ a ∈ g, Fz' a = none) (gB : ∀ a ∈ g, b.B a = none) (gO : ∀ a ∈ g, ∀ k, k ≠ i → a ∉ F k) (gH : ∀ a ∈ g, H' a ≠ none)
    (oH : ∀ k, k ≠ i → ∀ a ∈ F k, H' a = H a) (oF : ∀ k, k ≠ i → ∀ a ∈ F k, Fz' a = none) (kF : ∀ a, b.B a ≠ none → Fz' a = Fz a) :
    Rl K b Fz' (fun k => if k = i then g else F k) (upS i s δ) σ' H' where
  le := leF
  base := hb
  len := by rw [hl, R.len, upS, List.length_set, dropAl_len]
  slot := fun k t e => by
    by_cases hk : k = i
    · subst hk
      unfold upS at e
      have hlt : k < δ.length := by
        have := (List.getElem?_eq_some_iff.mp e).1
        rw [List.length_set, dropAl_len] at this
        exact this
      rw [List.getElem?_set_self (by rw [dropAl_len]; exact hlt)] at e
      cases e
      rw [if_pos rfl]
      exact hs hlt
    · unfold upS at e
      rw [List.getElem?_set_ne (Ne.symm hk)] at e
      rw [if_neg hk]
      rcases dropAl_at e with ⟨e1, j, e2⟩ | ⟨e1, e2⟩
      · subst e1
        exact (R.slot k _ e2).1
      · have h0 := R.slot k t e1
        rw [hσ k hk]
        have h1 : SlH K Fz' H' σ (F k) (σ[k]?.join) t := h0.keeps sF (oH k hk) fun x j ej a ha => by
          subst ej
          have hx : x ≠ i := fun z => e2 j (by rw [z])
          obtain ⟨xs, hxs⟩ := R.als k x j e1
          obtain ⟨a2, vs2, g2, p1, p2, _⟩ := R.slot x _ hxs
          rw [ha] at p1
          cases p1
          exact oH x hx a (by rw [p2]; exact List.mem_cons_self)
        cases t with
        | al x j =>
          obtain ⟨f0, a1, c1, vs1, f1, f2, f3, f4⟩ := h1
          exact ⟨f0, a1, c1, vs1, by rw [hσ x (fun z => e2 j (by rw [z]))]; exact f1, f2, f3, f4⟩
        | no => exact h1
        | fz d => exact h1
        | ol xs => exact h1
        | od kvs => exact h1
  nd := fun k => by
    by_cases hk : k = i
    · rw [if_pos hk]; exact hg
    · rw [if_neg hk]; exact R.nd k
  dj := fun k l a h1 h2 => by
    by_cases hk : k = i
    · by_cases hl : l = i
      · rw [hk, hl]
      · rw [if_pos hk] at h1
        rw [if_neg hl] at h2
        exact absurd h2 (gO a h1 l hl)
    · by_cases hl : l = i
      · rw [if_pos hl] at h2
        rw [if_neg hk] at h1
        exact absurd h1 (gO a h2 k hk)
      · rw [if_neg hk] at h1
        rw [if_neg hl] at h2
        exact R.dj k l a h1 h2
  offF := fun k a h => by
    by_cases hk : k = i
    · rw [if_pos hk] at h; exact gF a h
    · rw [if_neg hk] at h; exact oF k hk a h
  offB := fun k a h => by
    by_cases hk : k = i
    · rw [if_pos hk] at h; exact gB a h
    · rw [if_neg hk] at h; exact R.offB k a h
  on := fun k a h => by
    by_cases hk : k = i
    · rw [if_pos hk] at h; exact gH a h
    · rw [if_neg hk] at h
      rw [oH k hk a h]
      exact R.on k a h
  keep := fun a h => (kF a h).trans (R.keep a h)
  f0 := R.f0
  pin := fun k hk => by
    by_cases e : k = i
    · subst e
      rcases hp with z | z
      · exact z.trans (R.pin k hk)
      · exact absurd hk z
    · rw [hσ k e]
      exact R.pin k hk
  als := fun k x j e => by
    unfold upS at e ⊢
    by_cases hk : k = i
    · subst hk
      have hlt : k < δ.length := by
        have := (List.getElem?_eq_some_iff.mp e).1
        rw [List.length_set, dropAl_len] at this
        exact this
      rw [List.getElem?_set_self (by rw [dropAl_len]; exact hlt)] at e
      cases e
      obtain ⟨hx, xs, e1⟩ := ns x j rfl
      refine ⟨xs, ?_⟩
      rw [List.getElem?_set_ne (Ne.symm hx), dropAl, List.getElem?_map, e1]
      rfl
    · rw [List.getElem?_set_ne (Ne.symm hk)] at e
      rcases dropAl_at e with ⟨e1, _⟩ | ⟨e1, e2⟩
      · cases e1
      · obtain ⟨xs, e3⟩ := R.als k x j e1
        refine ⟨xs, ?_⟩
        rw [List.getElem?_set_ne (fun z => e2 j (by rw [z])), dropAl, List.getElem?_map, e3]
        rfl
end
end Hb
namespace Hb
open PySem PySem.Spec PyProof.Rows L2
def sSt (f : List Sl → Rs AV) : List Sl → Rs AV := fun δ => match f δ with
  | .ok (.tmp s) δ' => (match s.tree with
    | some d => .ok (.val d) δ'
    | none => .bad)
  | r => r
/-- the slot i by reference: its tree stands still from now on -/
def takeI (i : Nat) (δ : List Sl) : Rs AV := match δ[i]? with
  | some (.fz d) => .ok (.val d) δ
  | some (.ol xs) => .ok (.val (.list (xs.map El.d))) (upS i (.fz (.list (xs.map El.d))) δ)
  | some (.od kvs) => .ok (.val (.dict kvs)) (upS i (.fz (.dict kvs)) δ)
  | some (.al x j) => (match δ[x]? with
    | some (.ol xs) => (match xs[j]? with
      | some (.fz d) => .ok (.val d) δ
      | _ => .bad)
    | _ => .bad)
  | _ => .bad
def sTk (f : List Sl → Rs AV) : List Sl → Rs AV := fun δ => match sSt f δ with
  | .ok (.ref i) δ' => takeI i δ'
  | r => r
/-- the slot i by reference: its thing is given away -/
def moveI (i : Nat) (δ : List Sl) : Rs AV := match δ[i]? with
  | some (.fz d) => .ok (.val d) δ
  | some (.ol xs) => .ok (.tmp (.ol xs)) (upS i .no δ)
  | some (.od kvs) => .ok (.tmp (.od kvs)) (upS i .no δ)
  | _ => .bad
def sMv (f : List Sl → Rs AV) : List Sl → Rs AV := fun δ => match f δ with
  | .ok (.ref i) δ' => moveI i δ'
  | r => r
section
variable {X : Cx} {W : WX} {pin : List Nat} {e : Expr} {f : List Sl → Rs AV}
theorem se_st (h : SE X W pin e f) : SE X W pin e (sSt f) := pe_mono h fun σ H Q ⟨b, Fz, F, δ, hp, R, P⟩ => by
  refine ⟨b, Fz, F, δ, hp, R, ?_⟩
  unfold sSt at P
  cases q : f δ with
  | bad => rw [q] at P; exact P
  | er x δ' => rw [q] at P; exact P
  | ok a δ' =>
    rw [q] at P
    cases a with
    | val d => exact P
    | ref i => exact P
    | tmp s =>
      intro v H' Fz' F' s1 R' ⟨ht, g, hs, hn, hg⟩
      cases q2 : s.tree with
      | none => rw [q2] at ht; cases ht
      | some d =>
        simp only [q2] at P
        obtain ⟨s2, R2⟩ := R'.addF (g := g) fun a ha => ⟨(hg a ha).1, (hg a ha).2.1, (hg a ha).2.2.2⟩
        exact P v H' _ F' (s1.trans s2) R2 (hs.treeF q2 s2 fun a ha => addF_in ha)
theorem take_ok {K : PySem.W.Frag} {b : Bk} {Fz : Hp} {F : Nat → List Addr} {δ : List Sl} {σ : L2.St} {H : Hp} {i : Nat} {s : Sl} {d : PyData} {v : V} (R : Rl K b Fz F δ σ H) (hs : δ[i]? = some s) (ht : s.tree = some d) (hv : σ[i]? = some (some v)) (na : ∀ x j, s ≠ .al x j) :
    ∃ Fz', Same Fz Fz' ∧ Rl K b Fz' (fun k => if k = i then [] else F k) (upS i (.fz d) δ) σ H ∧ Rp K Fz' v d := by
  have h := R.slot i s hs
  rw [hv] at h
  have sF := addF_same (H := H) (g := F i) fun a ha => R.offF i a ha
  have r : Rp K (addF Fz H (F i)) v d := by
    have h2 : SlH K Fz H [] (F i) (some v) s := by
      cases s with
      | al x j => exact absurd rfl (na x j)
      | _ => exact h
    exact h2.treeF ht sF fun a ha => addF_in ha
  have out : ∀ k, k ≠ i → ∀ a ∈ F k, a ∉ F i := fun k hk a ha hi => hk (R.dj k i a ha hi)
  refine ⟨addF Fz H (F i), sF, R.put sF (addF_le R.le) R.base rfl (fun _ _ => rfl) (.inl rfl) (fun _ => ⟨rfl, v, by rw [hv]; rfl, r⟩) (fun x j z => nomatch z) List.nodup_nil (fun _ z => nomatch z) (fun _ z => nomatch z) (fun _ z => nomatch z) (fun _ z => nomatch z) (fun _ _ _ _ => rfl) (fun k hk a ha => ?_) (fun a ha => ?_), r⟩
  · rw [addF_out (out k hk a ha)]
    exact R.offF k a ha
  · exact addF_out fun hi => ha (R.offB i a hi)
theorem post_take {K : PySem.W.Frag} {mg : Str → Option Value} {W : WX} {b : Bk} {Fz : Hp} {F : Nat → List Addr} {δ : List Sl} {σ : L2.St} {H : Hp} {Q : VK} {i : Nat} {v : V} (R : Rl K b Fz F δ σ H) (hv : σ[i]? = some (some v)) (P : Post K mg W b Fz σ Q (takeI i δ)) : Q v H := by
  unfold takeI at P
  cases q : δ[i]? with
  | none => simp only [q] at P; exact P.elim
  | some s =>
    cases s with
    | no => simp only [q] at P; exact P.elim
    | fz d =>
      simp only [q] at P
      obtain ⟨_, v', e1, e2⟩ := R.slot i _ q
      rw [hv] at e1
      cases e1
      exact P v H Fz F (Same.refl _) R e2
    | ol xs =>
      simp only [q] at P
      obtain ⟨Fz', s1, R', r⟩ := take_ok R q rfl hv (fun _ _ z => nomatch z)
      exact P v H Fz' _ s1 R' r
    | od kvs =>
      simp only [q] at P
      obtain ⟨Fz', s1, R', r⟩ := take_ok R q rfl hv (fun _ _ z => nomatch z)
      exact P v H Fz' _ s1 R' r
    | al x j =>
      simp only [q] at P
      cases q2 : δ[x]? with
      | none => simp only [q2] at P; exact P.elim
      | some t =>
        cases t with
        | ol xs =>
          simp only [q2] at P
          cases q3 : xs[j]? with
          | none => simp only [q3] at P; exact P.elim
          | some el =>
            cases el with
            | ow ys => simp only [q3] at P; exact P.elim
            | fz d =>
              simp only [q3] at P
              obtain ⟨g, e1, _⟩ := R.al q q2 q3 hv
              exact P v H Fz F (Same.refl _) R e1.2
        | _ => simp only [q2] at P; exact P.elim
theorem se_tk (h : SE X W pin e f) : SE X W pin e (sTk f) := pe_mono (se_st h) fun σ H Q ⟨b, Fz, F, δ, hp, R, P⟩ => by
  refine ⟨b, Fz, F, δ, hp, R, ?_⟩
  unfold sTk at P
  cases q : sSt f δ with
  | bad => rw [q] at P; exact P
  | er x δ' => rw [q] at P; exact P
  | ok a δ' =>
    rw [q] at P
    cases a with
    | val d => exact P
    | tmp s => exact P
    | ref i => exact fun v H' Fz' F' s1 R' hv => post_take R' hv (P.le s1)
theorem se_mv (h : SE X W pin e f) : SE X W pin e (sMv f) := pe_mono h fun σ H Q ⟨b, Fz, F, δ, hp, R, P⟩ => by
  refine ⟨b, Fz, F, δ, hp, R, ?_⟩
  unfold sMv at P
  cases q : f δ with
  | bad => rw [q] at P; exact P
  | er x δ' => rw [q] at P; exact P
  | ok a δ' =>
    rw [q] at P
    cases a with
    | val d => exact P
    | tmp s => exact P
    | ref i =>
      intro v H' Fz' F' s1 R' hv
      have hv' : σ[i]? = some (some v) := hv
      have P' := P.le s1
      unfold moveI at P'
      have go : ∀ s : Sl, δ'[i]? = some s → s.tree.isSome = true → (∀ x j, s ≠ .al x j) → (∀ d, s ≠ .fz d) → Post X.K X.mg W b Fz' σ Q (.ok (.tmp s) (upS i .no δ')) → Q v H' := fun s hs ht na nf PP => by
        have h0 := R'.slot i s hs
        rw [hv'] at h0
        have h2 : SlH X.K Fz' H' [] (F' i) (some v) s := by
          cases s with
          | al x j => exact absurd rfl (na x j)
          | _ => exact h0
        have R2 := R'.put (i := i) (s := .no) (g := []) (Same.refl _) R'.le R'.base rfl (fun _ _ => rfl) (.inl rfl) (fun _ => rfl) (fun x j z => nomatch z) List.nodup_nil (fun _ z => nomatch z) (fun _ z => nomatch z) (fun _ z => nomatch z) (fun _ z => nomatch z) (fun _ _ _ _ => rfl) (fun k _ a ha => R'.offF k a ha) (fun _ _ => rfl)
        refine PP v H' Fz' _ (Same.refl _) R2 ⟨ht, F' i, h2, R'.nd i, fun a ha => ⟨R'.offF i a ha, R'.offB i a ha, R'.on i a ha, fun k hk => ?_⟩⟩
        have hk' : a ∈ (if k = i then [] else F' k) := hk
        by_cases e : k = i
        · rw [if_pos e] at hk'
          cases hk'
        · rw [if_neg e] at hk'
          exact e (R'.dj k i a hk' ha)
      cases q2 : δ'[i]? with
      | none => simp only [q2] at P'; exact P'.elim
      | some s =>
        cases s with
        | no => simp only [q2] at P'; exact P'.elim
        | fz d =>
          simp only [q2] at P'
          obtain ⟨_, v', e1, e2⟩ := R'.slot i _ q2
          rw [hv'] at e1
          cases e1
          exact P' v H' Fz' F' (Same.refl _) R' e2
        | ol xs =>
          simp only [q2] at P'
          exact go _ q2 rfl (fun _ _ z => nomatch z) (fun _ z => nomatch z) P'
        | od kvs =>
          simp only [q2] at P'
          exact go _ q2 rfl (fun _ _ z => nomatch z) (fun _ z => nomatch z) P'
        | al x j => simp only [q2] at P'; exact P'.elim
end
def sC (d : PyData) : List Sl → Rs AV := fun δ => .ok (.val d) δ
def sVar (i : Nat) : List Sl → Rs AV := fun δ => match δ[i]? with
  | some (.fz d) => .ok (.val d) δ
  | some (.ol _) => .ok (.ref i) δ
  | some (.od _) => .ok (.ref i) δ
  | some (.al _ _) => .ok (.ref i) δ
  | _ => .bad
section
variable {X : Cx} {W : WX} {pin : List Nat} {pos : Pos}
theorem se_int {i : Int} {j : Nat} : SE X W pin (.Constant (.int i) j pos) (sC (.int i)) := pe_mono pe_int fun σ H Q ⟨b, Fz, F, δ, hp, R, P⟩ => P _ H Fz F (Same.refl _) R (.int i)
theorem se_bl {i : Bool} {j : Nat} : SE X W pin (.Constant (.bool i) j pos) (sC (.bool i)) := pe_mono pe_bl fun σ H Q ⟨b, Fz, F, δ, hp, R, P⟩ => P _ H Fz F (Same.refl _) R (.bl i)
theorem se_non {j : Nat} : SE X W pin (.Constant .none j pos) (sC .none) := pe_mono pe_non fun σ H Q ⟨b, Fz, F, δ, hp, R, P⟩ => P _ H Fz F (Same.refl _) R .non
theorem se_str {x : Str} {j : Nat} : SE X W pin (.Constant (.str x) j pos) (sC (.str x)) := pe_mono pe_str fun σ H Q ⟨b, Fz, F, δ, hp, R, P⟩ => P _ H Fz F (Same.refl _) R (.str x)
theorem se_globI {x : Str} {i : Int} (hg : Gl X x) (hm : ∃ t, X.mg x = some (.int i t)) (hd : (x == ("__debug__" : Str)) = false := by decide) : SE X W pin (.Name x pos) (sC (.int i)) := by
  obtain ⟨t, hm⟩ := hm
  exact pe_mono (pe_glob hg hm (v := .int i) ⟨t, rfl⟩ hd) fun σ H Q ⟨b, Fz, F, δ, hp, R, P⟩ => P _ H Fz F (Same.refl _) R (.int i)
theorem post_var {K : PySem.W.Frag} {mg : Str → Option Value} {b : Bk} {Fz : Hp} {F : Nat → List Addr} {δ : List Sl} {σ : L2.St} {H : Hp} {Q : VK} {i : Nat} (R : Rl K b Fz F δ σ H) (P : Post K mg W b Fz σ Q (sVar i δ)) : ∃ v, σ[i]? = some (some v) ∧ Q v H := by
  unfold sVar at P
  cases q : δ[i]? with
  | none => simp only [q] at P; exact P.elim
  | some s =>
    have h := R.slot i s q
    cases s with
    | no => simp only [q] at P; exact P.elim
    | fz d =>
      simp only [q] at P
      obtain ⟨_, v, e1, e2⟩ := h
      exact ⟨v, join_some e1, P v H Fz F (Same.refl _) R e2⟩
    | ol xs =>
      simp only [q] at P
      obtain ⟨a, vs, g, e1, _⟩ := h
      exact ⟨_, join_some e1, P _ H Fz F (Same.refl _) R (join_some e1)⟩
    | od kvs =>
      simp only [q] at P
      obtain ⟨a, e1, _⟩ := h
      exact ⟨_, join_some e1, P _ H Fz F (Same.refl _) R (join_some e1)⟩
    | al x j =>
      simp only [q] at P
      obtain ⟨_, a, c, vs, _, _, _, e1⟩ := h
      exact ⟨_, join_some e1, P _ H Fz F (Same.refl _) R (join_some e1)⟩
theorem se_var (i : Nat) {x : Str} (hN : X.N[i]? = some x := by rfl) (hv : Vis X.env.scope x := by first | exact Or.inl rfl | exact Or.inr (Or.inl rfl) | exact Or.inr (Or.inr rfl)) (hd : (x == ("__debug__" : Str)) = false := by decide)
    (hcd : (x == ("__classdict__" : Str)) = false := by decide) : SE X W pin (.Name x pos) (sVar i) := pe_mono (pe_var hN hv hd hcd) fun σ H Q ⟨b, Fz, F, δ, hp, R, P⟩ => post_var R P
end
def s2 (g : AV → AV → List Sl → Rs AV) (fa fb : List Sl → Rs AV) : List Sl → Rs AV := fun δ => (sSt fa δ).bind fun x δ1 => (sSt fb δ1).bind fun y δ2 => g x y δ2
def s1 (g : AV → List Sl → Rs AV) (fa : List Sl → Rs AV) : List Sl → Rs AV := fun δ => (sSt fa δ).bind fun x δ1 => g x δ1
section
variable (K : PySem.W.Frag) (mg : Str → Option Value) (W : WX) (pin : List Nat)
def V2 (r : R2) (g : AV → AV → List Sl → Rs AV) : Prop := ∀ b Fz F δ σ H v w x y Q, b.pin = pin → Rl K b Fz F δ σ H → AvS K Fz σ v x → AvS K Fz σ w y → Post K mg W b Fz σ Q (g x y δ) → r v w H Q
def V1 (r : V → Hp → VK → Prop) (g : AV → List Sl → Rs AV) : Prop := ∀ b Fz F δ σ H v x Q, b.pin = pin → Rl K b Fz F δ σ H → AvS K Fz σ v x → Post K mg W b Fz σ Q (g x δ) → r v H Q
end
section
variable {X : Cx} {W : WX} {pin : List Nat} {fa fb : List Sl → Rs AV}
theorem sSt_notmp (f : List Sl → Rs AV) (δ : List Sl) (s : Sl) (δ' : List Sl) : sSt f δ ≠ .ok (.tmp s) δ' := by
  unfold sSt
  cases q : f δ with
  | bad => exact fun z => nomatch z
  | er x δ' => exact fun z => nomatch z
  | ok a δ2 =>
    cases a with
    | val d => exact fun z => nomatch z
    | ref i => exact fun z => nomatch z
    | tmp t =>
      cases q2 : t.tree with
      | none => simp only [q2]; exact fun z => nomatch z
      | some d => simp only [q2]; exact fun z => nomatch z
/-- behind one stable operand -/
theorem rd_bind {K : PySem.W.Frag} {mg : Str → Option Value} {σ : L2.St} {H : Hp} {b : Bk} {Fz : Hp} {F : Nat → List Addr} {δ : List Sl} {k : AV → List Sl → Rs AV} {Q R : VK} (hp : b.pin = pin) (Rr : Rl K b Fz F δ σ H) (P : Post K mg W b Fz σ Q ((sSt fa δ).bind k))
    (h : ∀ v H' Fz' F' x δ', Same Fz Fz' → Rl K b Fz' F' δ' σ H' → AvS K Fz' σ v x → Post K mg W b Fz' σ Q (k x δ') → R v H') : rdE K mg W pin (sSt fa) σ H R := by
  refine ⟨b, Fz, F, δ, hp, Rr, ?_⟩
  cases q : sSt fa δ with
  | bad => rw [q] at P; exact P
  | er x δ' => rw [q] at P; exact P
  | ok a δ' =>
    rw [q] at P
    intro v H' Fz' F' s R' A
    cases a with
    | tmp t => exact absurd q (sSt_notmp _ _ _ _)
    | val d => exact h v H' Fz' F' (.val d) δ' s R' A (Post.le s P)
    | ref i => exact h v H' Fz' F' (.ref i) δ' s R' A (Post.le s P)
theorem t2_ok {a c : Expr} {g : AV → AV → List Sl → Rs AV} {r : R2} (hv : V2 X.K X.mg W pin r g) : ∀ σ H Q, rdE X.K X.mg W pin (s2 g fa fb) σ H Q → tOp r (rdE X.K X.mg W pin (sSt fa)) (rdE X.K X.mg W pin (sSt fb)) σ H Q := fun σ H Q ⟨b, Fz, F, δ, hp, R, P⟩ => by
  refine rd_bind hp R P fun v H1 Fz1 F1 x δ1 s1 R1 A1 P1 => ?_
  refine rd_bind hp R1 P1 fun w H2 Fz2 F2 y δ2 s2 R2 A2 P2 => ?_
  exact hv b Fz2 F2 δ2 σ H2 v w x y Q hp R2 (A1.le s2) A2 P2
theorem t1_ok {g : AV → List Sl → Rs AV} {r : V → Hp → VK → Prop} (hv : V1 X.K X.mg W pin r g) : ∀ σ H Q, rdE X.K X.mg W pin (s1 g fa) σ H Q → tUn r (rdE X.K X.mg W pin (sSt fa)) σ H Q := fun σ H Q ⟨b, Fz, F, δ, hp, R, P⟩ => by
  refine rd_bind hp R P fun v H1 Fz1 F1 x δ1 s1 R1 A1 P1 => ?_
  exact hv b Fz1 F1 δ1 σ H1 v x Q hp R1 A1 P1
theorem se_bin {a c : Expr} {op : Operator} {pos : Pos} {g : AV → AV → List Sl → Rs AV} {r : R2} (ho : OpR X (binaryOp op) r) (hv : V2 X.K X.mg W pin r g) (ha : SE X W pin a fa) (hb : SE X W pin c fb) : SE X W pin (.BinOp a op c pos) (s2 g fa fb) :=
  pe_mono (pe_op ho (se_st ha) (se_st hb)) (t2_ok (a := a) (c := c) hv)
theorem se_cmp {a c : Expr} {op : CmpOp} {pos : Pos} {g : AV → AV → List Sl → Rs AV} {r : R2} (ho : OpR X (compareOp op) r) (hv : V2 X.K X.mg W pin r g) (ha : SE X W pin a fa) (hb : SE X W pin c fb) (hm : behindInMarks op c = false) : SE X W pin (.Compare a [op] [c] pos) (s2 g fa fb) :=
  pe_mono (pe_cmpR ho (se_st ha) (se_st hb) hm) (t2_ok (a := a) (c := c) hv)
theorem se_un {a : Expr} {op : UnaryOp} {pos : Pos} {g : AV → List Sl → Rs AV} {r : V → Hp → VK → Prop} (ho : UnR X (unaryOp op) r) (hv : V1 X.K X.mg W pin r g) (ha : SE X W pin a fa) : SE X W pin (.UnaryOp op a pos) (s1 g fa) :=
  pe_mono (pe_un ho (se_st ha)) (t1_ok hv)
/-- a test by a comparison -/
def sTst (f : List Sl → Rs AV) : List Sl → Rs Bool := fun δ => (f δ).bind fun a δ' => match a with
  | .val (.bool k) => .ok k δ'
  | _ => .bad
theorem tst_ok {K : PySem.W.Frag} {mg : Str → Option Value} {f : List Sl → Rs AV} : ∀ σ H Q, rdT K mg W pin (sTst f) σ H Q → rdE K mg W pin f σ H (fun x H' => ∃ k, x = .bl k ∧ Q k H') := fun σ H Q ⟨b, Fz, F, δ, hp, R, P⟩ => by
  refine ⟨b, Fz, F, δ, hp, R, ?_⟩
  unfold sTst at P
  cases q : f δ with
  | bad => rw [q] at P; exact P
  | er x δ' => rw [q] at P; exact P
  | ok a δ' =>
    rw [q] at P
    cases a with
    | tmp s => exact P.elim
    | ref i => exact P.elim
    | val d =>
      cases d with
      | bool k =>
        intro v H' Fz' F' s R' A
        cases (show Rp K Fz' v (.bool k) from A)
        exact ⟨k, rfl, P H' Fz' F' s R'⟩
      | _ => exact P.elim
theorem st_cmp {a c : Expr} {op : CmpOp} {pos : Pos} {g : AV → AV → List Sl → Rs AV} {r : R2} (ho : OpR X (compareOp op) r) (hv : V2 X.K X.mg W pin r g) (ha : SE X W pin a fa) (hb : SE X W pin c fb) (hm : behindInMarks op c = false) : ST X W pin (.Compare a [op] [c] pos) (sTst (s2 g fa fb)) :=
  pt_mono (pt_cmpR ho (se_st ha) (se_st hb) hm) fun σ H Q h => t2_ok (a := a) (c := c) hv σ H _ (tst_ok σ H Q h)
def truD : PyData → Option Bool
  | .none => some false
  | .bool b => some b
  | .int i => some (i != 0)
  | .list ds => some !ds.isEmpty
  | .tuple ds => some !ds.isEmpty
  | _ => none
theorem RpL.isEmpty {K : PySem.W.Frag} {H : Hp} {vs : List V} {ds : List PyData} (h : RpL K H vs ds) : vs.isEmpty = ds.isEmpty := by
  cases h <;> rfl
theorem truD_ok {K : PySem.W.Frag} {H : Hp} {v : V} {d : PyData} {k : Bool} (r : Rp K H v d) (h : truD d = some k) : TruV K v H k := by
  cases r with
  | non => cases h; rfl
  | bl b => cases h; rfl
  | int i => cases h; rfl
  | str x => cases h
  | lst h1 h2 => cases h; exact .inl ⟨_, h1.sq, by rw [h2.isEmpty]⟩
  | tup h1 h2 => cases h; exact .inr (.inl ⟨_, SqT.of h1, by rw [h2.isEmpty]⟩)
  | dK h1 h2 => cases h
  | dT h1 h2 => cases h
def sTru (f : List Sl → Rs AV) : List Sl → Rs Bool := fun δ => (sSt f δ).bind fun a δ' => match (rdA δ' a).bind truD with
  | some k => .ok k δ'
  | none => .bad
theorem rd_bindT {K : PySem.W.Frag} {mg : Str → Option Value} {σ : L2.St} {H : Hp} {b : Bk} {Fz : Hp} {F : Nat → List Addr} {δ : List Sl} {k : AV → List Sl → Rs Bool} {Q : Bool → Hp → Prop} {R : VK} (hp : b.pin = pin) (Rr : Rl K b Fz F δ σ H) (P : PostT K mg W b Fz σ Q ((sSt fa δ).bind k))
    (h : ∀ v H' Fz' F' x δ', Same Fz Fz' → Rl K b Fz' F' δ' σ H' → AvS K Fz' σ v x → PostT K mg W b Fz' σ Q (k x δ') → R v H') : rdE K mg W pin (sSt fa) σ H R := by
  refine ⟨b, Fz, F, δ, hp, Rr, ?_⟩
  cases q : sSt fa δ with
  | bad => rw [q] at P; exact P
  | er x δ' => rw [q] at P; exact P
  | ok a δ' =>
    rw [q] at P
    intro v H' Fz' F' s R' A
    cases a with
    | tmp t => exact absurd q (sSt_notmp _ _ _ _)
    | val d => exact h v H' Fz' F' (.val d) δ' s R' A (PostT.le s P)
    | ref i => exact h v H' Fz' F' (.ref i) δ' s R' A (PostT.le s P)
theorem tru_mono {K : PySem.W.Frag} {mg : Str → Option Value} : ∀ σ H Q, rdT K mg W pin (sTru fa) σ H Q → rdE K mg W pin (sSt fa) σ H fun x H' => ∃ k, TruV K x H' k ∧ Q k H' := fun σ H Q ⟨b, Fz, F, δ, hp, R, P⟩ => by
  refine rd_bindT hp R P fun v H1 Fz1 F1 x δ1 s1 R1 A1 P1 => ?_
  cases q : rdA δ1 x with
  | none => simp only [q, Option.bind_none] at P1; exact P1.elim
  | some d =>
    cases q2 : truD d with
    | none => simp only [q, Option.bind_some, q2] at P1; exact P1.elim
    | some k =>
      simp only [q, Option.bind_some, q2] at P1
      exact ⟨k, truD_ok (rdA_ok R1 A1 q) q2, P1 H1 Fz1 F1 (Same.refl _) R1⟩
theorem st_tru {a : Expr} (ha : SE X W pin a fa) (he : ∀ whole, isTrue a X.env whole = (do let v ← whole; standAt a.pos; holding [v] (truthy v)) := by intro _; rfl) : ST X W pin a (sTru fa) :=
  pt_mono (pt_truth (se_st ha) he) fun σ H Q h => tru_mono σ H Q h
def sNot (t : List Sl → Rs Bool) : List Sl → Rs Bool := fun δ => (t δ).bind fun k δ' => .ok (!k) δ'
def sOr (t u : List Sl → Rs Bool) : List Sl → Rs Bool := fun δ => (t δ).bind fun k δ' => if k = true then .ok true δ' else u δ'
def sIf (t : List Sl → Rs Bool) (f g : List Sl → Rs AV) : List Sl → Rs AV := fun δ => (t δ).bind fun k δ' => if k = true then f δ' else g δ'
section
variable {K : PySem.W.Frag} {mg : Str → Option Value} {σ : L2.St} {H : Hp} {b : Bk} {Fz : Hp} {F : Nat → List Addr} {δ : List Sl} {t : List Sl → Rs Bool}
theorem rdT_bind {k : Bool → List Sl → Rs Bool} {Q : Bool → Hp → Prop} {R : Bool → Hp → Prop} (hp : b.pin = pin) (Rr : Rl K b Fz F δ σ H) (P : PostT K mg W b Fz σ Q ((t δ).bind k))
    (h : ∀ c H' Fz' F' δ', Same Fz Fz' → Rl K b Fz' F' δ' σ H' → PostT K mg W b Fz' σ Q (k c δ') → R c H') : rdT K mg W pin t σ H R := by
  refine ⟨b, Fz, F, δ, hp, Rr, ?_⟩
  cases q : t δ with
  | bad => rw [q] at P; exact P
  | er x δ' => rw [q] at P; exact P
  | ok a δ' =>
    rw [q] at P
    exact fun H' Fz' F' s R' => h a H' Fz' F' δ' s R' (PostT.le s P)
theorem rdT_bindE {k : Bool → List Sl → Rs AV} {Q : VK} {R : Bool → Hp → Prop} (hp : b.pin = pin) (Rr : Rl K b Fz F δ σ H) (P : Post K mg W b Fz σ Q ((t δ).bind k))
    (h : ∀ c H' Fz' F' δ', Same Fz Fz' → Rl K b Fz' F' δ' σ H' → Post K mg W b Fz' σ Q (k c δ') → R c H') : rdT K mg W pin t σ H R := by
  refine ⟨b, Fz, F, δ, hp, Rr, ?_⟩
  cases q : t δ with
  | bad => rw [q] at P; exact P
  | er x δ' => rw [q] at P; exact P
  | ok a δ' =>
    rw [q] at P
    exact fun H' Fz' F' s R' => h a H' Fz' F' δ' s R' (Post.le s P)
end
variable {a c d : Expr} {rest : List Expr} {pos : Pos} {t u : List Sl → Rs Bool} {f g : List Sl → Rs AV}
theorem st_not (h : ST X W pin a t) : ST X W pin (.UnaryOp .Not a pos) (sNot t) := pt_mono (pt_not h) fun σ H Q ⟨b, Fz, F, δ, hp, R, P⟩ =>
  rdT_bind hp R P fun c H' Fz' F' δ' s R' P' => P' H' Fz' F' (Same.refl _) R'
abbrev SW (X : Cx) (W : WX) (pin : List Nat) (e : Expr) (f : List Sl → Rs Bool) : Prop := PW X e (rdT X.K X.mg W pin f)
theorem pw_mono {e : Expr} {t t' : TT} (h : PW X e t) (i : ∀ σ H Q, t' σ H Q → t σ H Q) : PW X e t' := ⟨fun wh pins s σ H Q I q => h.run wh pins s σ H Q I (i σ H Q q)⟩
theorem sw_or1 (h : ST X W pin a t) : SW X W pin (.BoolOp .Or [a] pos) t := pw_or1 h
theorem sw_or (h : ST X W pin a t) (h2 : SW X W pin (.BoolOp .Or (c :: rest) pos) u) : SW X W pin (.BoolOp .Or (a :: c :: rest) pos) (sOr t u) := pw_mono (pw_or h h2) fun σ H Q ⟨b, Fz, F, δ, hp, R, P⟩ =>
  rdT_bind hp R P fun k H' Fz' F' δ' s R' P' => by
    by_cases e : k = true
    · rw [if_pos e] at P' ⊢
      exact P' H' Fz' F' (Same.refl _) R'
    · rw [if_neg e] at P' ⊢
      exact ⟨b, Fz', F', δ', hp, R', P'⟩
theorem st_w (h : SW X W pin a t) : ST X W pin a t := h.pt
theorem se_if (hc : ST X W pin a t) (ha : SE X W pin c f) (hb : SE X W pin d g) : SE X W pin (.IfExp a c d pos) (sIf t f g) := pe_mono (pe_ifExp hc ha hb) fun σ H Q ⟨b, Fz, F, δ, hp, R, P⟩ =>
  rdT_bindE hp R P fun k H' Fz' F' δ' s R' P' => by
    by_cases e : k = true
    · rw [if_pos e] at P' ⊢
      exact ⟨b, Fz', F', δ', hp, R', P'⟩
    · rw [if_neg e] at P' ⊢
      exact ⟨b, Fz', F', δ', hp, R', P'⟩
/-- and, or, not as values: the value's truth decides -/
def sAndV (f g : List Sl → Rs AV) : List Sl → Rs AV := fun δ => (sSt f δ).bind fun a δ' => match (rdA δ' a).bind truD with
  | some k => if k = true then g δ' else .ok a δ'
  | none => .bad
def sOrV (f g : List Sl → Rs AV) : List Sl → Rs AV := fun δ => (sSt f δ).bind fun a δ' => match (rdA δ' a).bind truD with
  | some k => if k = true then .ok a δ' else g δ'
  | none => .bad
theorem se_and (ha : SE X W pin a f) (hb : SE X W pin (.BoolOp .And (c :: rest) pos) g) : SE X W pin (.BoolOp .And (a :: c :: rest) pos) (sAndV f g) := pe_mono (pe_andT (se_st ha) hb) fun σ H Q ⟨b, Fz, F, δ, hp, R, P⟩ =>
  rd_bind hp R P fun v H1 Fz1 F1 x δ1 s1 R1 A1 P1 => by
    cases q : rdA δ1 x with
    | none => simp only [q, Option.bind_none] at P1; exact P1.elim
    | some d =>
      cases q2 : truD d with
      | none => simp only [q, Option.bind_some, q2] at P1; exact P1.elim
      | some k =>
        simp only [q, Option.bind_some, q2] at P1
        refine ⟨k, truD_ok (rdA_ok R1 A1 q) q2, ?_⟩
        by_cases e : k = true
        · rw [if_pos e] at P1 ⊢
          exact ⟨b, Fz1, F1, δ1, hp, R1, P1⟩
        · rw [if_neg e] at P1 ⊢
          exact P1 v H1 Fz1 F1 (Same.refl _) R1 (AvR.of A1)
theorem se_or (ha : SE X W pin a f) (hb : SE X W pin (.BoolOp .Or (c :: rest) pos) g) : SE X W pin (.BoolOp .Or (a :: c :: rest) pos) (sOrV f g) := pe_mono (pe_orT (se_st ha) hb) fun σ H Q ⟨b, Fz, F, δ, hp, R, P⟩ =>
  rd_bind hp R P fun v H1 Fz1 F1 x δ1 s1 R1 A1 P1 => by
    cases q : rdA δ1 x with
    | none => simp only [q, Option.bind_none] at P1; exact P1.elim
    | some d =>
      cases q2 : truD d with
      | none => simp only [q, Option.bind_some, q2] at P1; exact P1.elim
      | some k =>
        simp only [q, Option.bind_some, q2] at P1
        refine ⟨k, truD_ok (rdA_ok R1 A1 q) q2, ?_⟩
        by_cases e : k = true
        · rw [if_pos e] at P1 ⊢
          exact P1 v H1 Fz1 F1 (Same.refl _) R1 (AvR.of A1)
        · rw [if_neg e] at P1 ⊢
          exact ⟨b, Fz1, F1, δ1, hp, R1, P1⟩
theorem se_oneO (ha : SE X W pin a f) : SE X W pin (.BoolOp .Or [a] pos) f := ha_one ha
where ha_one {X : Cx} {W : WX} {pin : List Nat} {a : Expr} {f : List Sl → Rs AV} {pos : Pos} (ha : SE X W pin a f) : SE X W pin (.BoolOp .Or [a] pos) f := pe_one ha
theorem se_oneA (ha : SE X W pin a f) : SE X W pin (.BoolOp .And [a] pos) f := pe_one ha
end
end Hb
namespace Hb
open PySem PySem.Spec PyProof.Rows L2
abbrev cap : Nat := 1000000
theorem cap_line : cap + cap < sizeLine := by rw [sizeLine_eq]; decide
theorem le_line {n : Nat} (h : n ≤ cap) : n ≤ sizeLine := Nat.le_trans h (by rw [sizeLine_eq]; decide)
theorem lt_line {n : Nat} (h : n ≤ cap) : n < sizeLine := Nat.lt_of_le_of_lt h (by rw [sizeLine_eq]; decide)
def gI (C : Int → Int → Bool) (g : Int → Int → Int) (x y : AV) (δ : List Sl) : Rs AV := match rdC δ x, rdC δ y with
  | some (.int i), some (.int j) => if C i j = true then .ok (.val (.int (g i j))) δ else .bad
  | _, _ => .bad
def gB (g : Int → Int → Bool) (x y : AV) (δ : List Sl) : Rs AV := match rdC δ x, rdC δ y with
  | some (.int i), some (.int j) => .ok (.val (.bool (g i j))) δ
  | _, _ => .bad
def gNeg (x : AV) (δ : List Sl) : Rs AV := match rdC δ x with
  | some (.int i) => .ok (.val (.int (-i))) δ
  | _ => .bad
theorem rpc_int {K : PySem.W.Frag} {Fz H : Hp} {v : V} {i : Int} (h : RpC K Fz H v (.int i)) : v = .int i := by
  rcases h with h | ⟨a, vs, ds, e1, e2, _⟩
  · cases h; rfl
  · cases e2
theorem rpc_str {K : PySem.W.Frag} {Fz H : Hp} {v : V} {i : Str} (h : RpC K Fz H v (.str i)) : v = .str i := by
  rcases h with h | ⟨a, vs, ds, e1, e2, _⟩
  · cases h; rfl
  · cases e2
section
variable {K : PySem.W.Frag} {mg : Str → Option Value} {W : WX} {pin : List Nat}
theorem v2_i {C : Int → Int → Bool} {C' : Int → Int → Prop} {g : Int → Int → Int} (hC : ∀ i j, C i j = true → C' i j) : V2 K mg W pin (rI C' fun i j => .int (g i j)) (gI C g) := by
  intro b Fz F δ σ H v w x y Q hp R A B P
  unfold gI at P
  cases q1 : rdC δ x with
  | none => simp only [q1] at P; exact P.elim
  | some d =>
    cases q2 : rdC δ y with
    | none => cases d <;> (simp only [q1, q2] at P; exact P.elim)
    | some e =>
      cases d with
      | int i =>
        cases e with
        | int j =>
          simp only [q1, q2] at P
          by_cases c : C i j = true
          · rw [if_pos c] at P
            exact ⟨i, j, rpc_int (rdC_ok R A q1), rpc_int (rdC_ok R B q2), hC i j c, P _ H Fz F (Same.refl _) R (.int _)⟩
          · rw [if_neg c] at P
            exact P.elim
        | _ => simp only [q1, q2] at P; exact P.elim
      | _ => simp only [q1, q2] at P; exact P.elim
theorem v2_i0 {C : Int → Int → Bool} {g : Int → Int → Int} : V2 K mg W pin (rI0 fun i j => .int (g i j)) (gI C g) := by
  intro b Fz F δ σ H v w x y Q hp R A B P
  obtain ⟨i, j, h1, h2, _, q⟩ := v2_i (K := K) (mg := mg) (W := W) (C' := fun _ _ => True) (fun _ _ _ => trivial) b Fz F δ σ H v w x y Q hp R A B P
  exact ⟨i, j, h1, h2, q⟩
theorem v2_b {g : Int → Int → Bool} : V2 K mg W pin (rI0 fun i j => .bl (g i j)) (gB g) := by
  intro b Fz F δ σ H v w x y Q hp R A B P
  unfold gB at P
  cases q1 : rdC δ x with
  | none => simp only [q1] at P; exact P.elim
  | some d =>
    cases q2 : rdC δ y with
    | none => cases d <;> (simp only [q1, q2] at P; exact P.elim)
    | some e =>
      cases d with
      | int i =>
        cases e with
        | int j =>
          simp only [q1, q2] at P
          exact ⟨i, j, rpc_int (rdC_ok R A q1), rpc_int (rdC_ok R B q2), P _ H Fz F (Same.refl _) R (.bl _)⟩
        | _ => simp only [q1, q2] at P; exact P.elim
      | _ => simp only [q1, q2] at P; exact P.elim
theorem v1_neg : V1 K mg W pin (rU fun i => .int (-i)) gNeg := by
  intro b Fz F δ σ H v x Q hp R A P
  unfold gNeg at P
  cases q1 : rdC δ x with
  | none => simp only [q1] at P; exact P.elim
  | some d =>
    cases d with
    | int i =>
      simp only [q1] at P
      exact ⟨i, rpc_int (rdC_ok R A q1), P _ H Fz F (Same.refl _) R (.int _)⟩
    | _ => simp only [q1] at P; exact P.elim
end
def yes2 : Int → Int → Bool := fun _ _ => true
abbrev gSub := gI yes2 (· - ·)
abbrev gMod := gI (fun _ j => decide (0 < j)) (· % ·)
abbrev gLt := gB fun i j => decide (i < j)
abbrev gLe := gB fun i j => decide (i ≤ j)
abbrev gGt := gB fun i j => decide (j < i)
section
variable {X : Cx} {W : WX} {pin : List Nat} {fa fb : List Sl → Rs AV} {a c : Expr} {pos : Pos}
theorem se_sub (ha : SE X W pin a fa) (hb : SE X W pin c fb) : SE X W pin (.BinOp a .Sub c pos) (s2 gSub fa fb) := se_bin op_sub v2_i0 ha hb
theorem se_mod (ha : SE X W pin a fa) (hb : SE X W pin c fb) : SE X W pin (.BinOp a .Mod c pos) (s2 gMod fa fb) := se_bin op_mod (v2_i fun _ _ h => of_decide_eq_true h) ha hb
theorem se_neg (ha : SE X W pin a fa) : SE X W pin (.UnaryOp .USub a pos) (s1 gNeg fa) := se_un un_neg v1_neg ha
theorem se_lt (ha : SE X W pin a fa) (hb : SE X W pin c fb) : SE X W pin (.Compare a [.Lt] [c] pos) (s2 gLt fa fb) := se_cmp op_lt v2_b ha hb (nomark _)
theorem se_le (ha : SE X W pin a fa) (hb : SE X W pin c fb) : SE X W pin (.Compare a [.LtE] [c] pos) (s2 gLe fa fb) := se_cmp op_le v2_b ha hb (nomark _)
theorem se_gt (ha : SE X W pin a fa) (hb : SE X W pin c fb) : SE X W pin (.Compare a [.Gt] [c] pos) (s2 gGt fa fb) := se_cmp op_gt v2_b ha hb (nomark _)
theorem st_lt (ha : SE X W pin a fa) (hb : SE X W pin c fb) : ST X W pin (.Compare a [.Lt] [c] pos) (sTst (s2 gLt fa fb)) := st_cmp op_lt v2_b ha hb (nomark _)
theorem st_gt (ha : SE X W pin a fa) (hb : SE X W pin c fb) : ST X W pin (.Compare a [.Gt] [c] pos) (sTst (s2 gGt fa fb)) := st_cmp op_gt v2_b ha hb (nomark _)
end
def rCatX (K : PySem.W.Frag) : R2 := fun x y H Q => ∃ l b xs zs, x = .ref l ∧ y = .ref b ∧ SqX K H l xs ∧ SqX K H b zs ∧ xs.length + zs.length ≤ sizeLine ∧ ∀ p, H p = none → Q (.ref p) (upd H p (.lst (xs ++ zs)))
theorem op_catX {X : Cx} : OpR X (binaryOp .Add) (rCatX X.K) := by
  intro pins s σ H x y v u Q I rx ry h
  obtain ⟨l, b, xs, zs, e1, e2, hX, hZ, hz, q⟩ := h
  subst e1 e2
  cases rx
  cases ry
  obtain ⟨i1, n1, r1, g1, z1⟩ := inv_lstX I hX
  obtain ⟨i2, n2, r2, g2, z2⟩ := inv_lstX I hZ
  have l1 := r1.length
  have l2 := r2.length
  refine PySem.P.add_list g1 g2 ?_ (by rw [List.size_toArray, List.size_toArray, ← l1, ← l2]; exact hz)
  rw [show i1.toArray ++ i2.toArray = (i1 ++ i2).toArray by simp]
  exact ⟨.ref _, _, I.lnew (t' := s.toks) (r1.append r2) (by rw [List.length_append]; exact hz), rfl, q _ I.fresh⟩
def rStrCat : R2 := fun x y H Q => ∃ i j, x = .str i ∧ y = .str j ∧ i.length + j.length ≤ sizeLine ∧ Q (.str (i ++ j)) H
def rAddU (K : PySem.W.Frag) : R2 := fun x y H Q => ((rI0 (fun i j => .int (i + j)) x y H Q ∨ rCatX K x y H Q) ∨ rStrCat x y H Q) ∨ rCatA K x y H Q
theorem op_addU {X : Cx} : OpR X (binaryOp .Add) (rAddU X.K) := OpR.or (OpR.or (OpR.or op_add op_catX) op_add_str) op_catA
def gAdd (x y : AV) (δ : List Sl) : Rs AV := match rdC δ x, rdC δ y with
  | some (.int i), some (.int j) => .ok (.val (.int (i + j))) δ
  | some (.list ds), some (.list es) => if ds.length ≤ cap ∧ es.length ≤ cap then .ok (.tmp (.ol ((ds ++ es).map .fz))) δ else .bad
  | some (.str s), some (.str t) => if s.length ≤ cap ∧ t.length ≤ cap then .ok (.val (.str (s ++ t))) δ else .bad
  | some (.tuple ds), some (.tuple es) => if ds.length ≤ cap ∧ es.length ≤ cap then .ok (.val (.tuple (ds ++ es))) δ else .bad
  | _, _ => .bad
section
variable {K : PySem.W.Frag} {mg : Str → Option Value} {W : WX} {pin : List Nat}
theorem v2_add : V2 K mg W pin (rAddU K) gAdd := by
  intro b Fz F δ σ H v w x y Q hp R A B P
  unfold gAdd at P
  cases q1 : rdC δ x with
  | none => simp only [q1] at P; exact P.elim
  | some d =>
    cases q2 : rdC δ y with
    | none => cases d <;> (simp only [q1, q2] at P; exact P.elim)
    | some e =>
      have h1 := rdC_ok R A q1
      have h2 := rdC_ok R B q2
      have cl := cap_line
      cases d with
      | int i =>
        cases e with
        | int j =>
          simp only [q1, q2] at P
          exact .inl (.inl (.inl ⟨i, j, rpc_int h1, rpc_int h2, P _ H Fz F (Same.refl _) R (.int _)⟩))
        | _ => simp only [q1, q2] at P; exact P.elim
      | str i =>
        cases e with
        | str j =>
          simp only [q1, q2] at P
          by_cases c : i.length ≤ cap ∧ j.length ≤ cap
          · rw [if_pos c] at P
            exact .inl (.inr ⟨i, j, rpc_str h1, rpc_str h2, by omega, P _ H Fz F (Same.refl _) R (.str _)⟩)
          · rw [if_neg c] at P; exact P.elim
        | _ => simp only [q1, q2] at P; exact P.elim
      | list ds =>
        cases e with
        | list es =>
          simp only [q1, q2] at P
          by_cases c : ds.length ≤ cap ∧ es.length ≤ cap
          · rw [if_pos c] at P
            obtain ⟨a1, v1, e1, s1, r1⟩ := h1.list R.le
            obtain ⟨a2, v2, e2, s2, r2⟩ := h2.list R.le
            have l1 := r1.len
            have l2 := r2.len
            exact .inl (.inl (.inr ⟨a1, a2, v1, v2, e1, e2, s1, s2, by omega, post_newL R (r1.append r2) P⟩))
          · rw [if_neg c] at P; exact P.elim
        | _ => simp only [q1, q2] at P; exact P.elim
      | tuple ds =>
        cases e with
        | tuple es =>
          simp only [q1, q2] at P
          by_cases c : ds.length ≤ cap ∧ es.length ≤ cap
          · rw [if_pos c] at P
            have k1 : Rp K Fz v (.tuple ds) := by
              rcases h1 with h | ⟨_, _, _, _, e2, _⟩
              · exact h
              · cases e2
            have k2 : Rp K Fz w (.tuple es) := by
              rcases h2 with h | ⟨_, _, _, _, e2, _⟩
              · exact h
              · cases e2
            obtain ⟨a1, v1, e1, s1, r1⟩ := h1.tup R.le
            obtain ⟨a2, v2, e2, s2, r2⟩ := h2.tup R.le
            have l1 := r1.len
            have l2 := r2.len
            refine .inr ⟨a1, a2, v1, v2, e1, e2, s1, s2, by omega, fun z => ?_, fun _ z => ?_, fun _ _ => post_newT R (r1.append r2) P⟩
            · subst z
              cases r1
              rw [← e2]
              exact P w H Fz F (Same.refl _) R k2
            · subst z
              cases r2
              rw [← e1]
              rw [List.append_nil] at P
              exact P v H Fz F (Same.refl _) R k1
          · rw [if_neg c] at P; exact P.elim
        | _ => simp only [q1, q2] at P; exact P.elim
      | _ => simp only [q1, q2] at P; exact P.elim
end
theorem se_add {X : Cx} {W : WX} {pin : List Nat} {fa fb : List Sl → Rs AV} {a c : Expr} {pos : Pos} (ha : SE X W pin a fa) (hb : SE X W pin c fb) : SE X W pin (.BinOp a .Add c pos) (s2 gAdd fa fb) := se_bin op_addU v2_add ha hb
mutual
theorem Rp.dp {K : PySem.W.Frag} {H : Hp} : ∀ {v : V} {d : PyData}, Rp K H v d → d.canLay0 = true → Dp K H v d
  | _, _, .non, _ => .non
  | _, _, .bl b, _ => .bl b
  | _, _, .int i, _ => .int i
  | _, _, .str x, _ => .str x
  | _, _, .lst (ds := ds) h1 h2, c => .lst h1.sq (RpL.dp h2 (by rw [PyData.canLay0] at c; exact c))
  | _, _, .tup (ds := ds) h1 h2, c => .tup (SqT.of h1) (RpL.dp h2 (by rw [PyData.canLay0] at c; exact c))
  | _, _, .dK h1 h2, c => by rw [PyData.canLay0] at c; cases c
  | _, _, .dT h1 h2, c => by rw [PyData.canLay0] at c; cases c
theorem RpL.dp {K : PySem.W.Frag} {H : Hp} : ∀ {vs : List V} {ds : List PyData}, RpL K H vs ds → PyData.canLayAll0 ds = true → DpAll K H vs ds
  | _, _, .nil, _ => .nil
  | _, _, .cons h t, c => by
    rw [PyData.canLayAll0, Bool.and_eq_true] at c
    exact .cons (Rp.dp h c.1) (RpL.dp t c.2)
end
theorem rp_dp {K : PySem.W.Frag} {H : Hp} {v : V} {d : PyData} (h : Rp K H v d) (c : SeqAt.shaped d = true) : Dp K H v d := h.dp (SeqAt.canLay_of_shaped c)
def eqD (d e : PyData) : Option Bool := if SeqAt.shaped d = true ∧ SeqAt.shaped e = true then some (PyData.eqv d e) else none
def gEq (x y : AV) (δ : List Sl) : Rs AV := match rdA δ x, rdA δ y with
  | some d, some e => (match eqD d e with
    | some k => .ok (.val (.bool k)) δ
    | none => .bad)
  | _, _ => .bad
def gNe (x y : AV) (δ : List Sl) : Rs AV := match rdA δ x, rdA δ y with
  | some d, some e => (match eqD d e with
    | some k => .ok (.val (.bool !k)) δ
    | none => .bad)
  | _, _ => .bad
section
variable {K : PySem.W.Frag} {mg : Str → Option Value} {W : WX} {pin : List Nat}
theorem v2_eq : V2 K mg W pin (rEqD K) gEq := by
  intro b Fz F δ σ H v w x y Q hp R A B P
  unfold gEq at P
  cases q1 : rdA δ x with
  | none => simp only [q1] at P; exact P.elim
  | some d =>
    cases q2 : rdA δ y with
    | none => simp only [q1, q2] at P; exact P.elim
    | some e =>
      simp only [q1, q2, eqD] at P
      by_cases c : SeqAt.shaped d = true ∧ SeqAt.shaped e = true
      · simp only [if_pos c] at P
        exact ⟨d, e, rp_dp (rdA_ok R A q1) c.1, rp_dp (rdA_ok R B q2) c.2, c.1, c.2, P _ H Fz F (Same.refl _) R (.bl _)⟩
      · simp only [if_neg c] at P
        exact P.elim
theorem v2_ne : V2 K mg W pin (rNeD K) gNe := by
  intro b Fz F δ σ H v w x y Q hp R A B P
  unfold gNe at P
  cases q1 : rdA δ x with
  | none => simp only [q1] at P; exact P.elim
  | some d =>
    cases q2 : rdA δ y with
    | none => simp only [q1, q2] at P; exact P.elim
    | some e =>
      simp only [q1, q2, eqD] at P
      by_cases c : SeqAt.shaped d = true ∧ SeqAt.shaped e = true
      · simp only [if_pos c] at P
        exact ⟨d, e, rp_dp (rdA_ok R A q1) c.1, rp_dp (rdA_ok R B q2) c.2, c.1, c.2, P _ H Fz F (Same.refl _) R (.bl _)⟩
      · simp only [if_neg c] at P
        exact P.elim
end
def flatD : PyData → Bool
  | .none | .bool _ | .int _ | .str _ => true
  | _ => false
def rIsU : R2 := fun x y H Q => (y = .non ∧ Q (.bl (decide (x = .non))) H) ∨ rIsB x y H Q
theorem op_isU {X : Cx} : OpR X (compareOp .Is) rIsU := OpR.or op_isN op_isBl
def isD : PyData → PyData → Option Bool
  | .none, .none => some true
  | _, .none => some false
  | .bool a, .bool b => some (a == b)
  | _, _ => none
def gIs (n : Bool) (x y : AV) (δ : List Sl) : Rs AV := match rdA δ x, rdA δ y with
  | some d, some e => (match isD d e with
    | some k => .ok (.val (.bool (if n = true then !k else k))) δ
    | none => .bad)
  | _, _ => .bad
theorem isD_ok {K : PySem.W.Frag} {H : Hp} {v w : V} {d e : PyData} {k : Bool} (h : Rp K H v d) (h2 : Rp K H w e) (i : isD d e = some k) : (w = .non ∧ k = decide (v = .non)) ∨ ∃ a c : Bool, v = .bl a ∧ w = .bl c ∧ k = decide (a = c) := by
  cases h2 with
  | non =>
    refine .inl ⟨rfl, ?_⟩
    cases h <;> (simp only [isD, Option.some.injEq] at i; subst i; simp)
  | bl c =>
    cases h with
    | bl a =>
      simp only [isD, Option.some.injEq] at i
      subst i
      refine .inr ⟨a, c, rfl, rfl, ?_⟩
      cases a <;> cases c <;> rfl
    | _ => simp [isD] at i
  | _ => cases h <;> simp [isD] at i
theorem v2_is {K : PySem.W.Frag} {mg : Str → Option Value} {W : WX} {pin : List Nat} : V2 K mg W pin rIsU (gIs false) := by
  intro b Fz F δ σ H v w x y Q hp R A B P
  unfold gIs at P
  cases q1 : rdA δ x with
  | none => simp only [q1] at P; exact P.elim
  | some d =>
    cases q2 : rdA δ y with
    | none => simp only [q1, q2] at P; exact P.elim
    | some e =>
      cases q3 : isD d e with
      | none => simp only [q1, q2, q3] at P; exact P.elim
      | some k =>
        simp only [q1, q2, q3] at P
        have q := P (.bl k) H Fz F (Same.refl _) R (.bl _)
        rcases isD_ok (rdA_ok R A q1) (rdA_ok R B q2) q3 with ⟨e1, e2⟩ | ⟨a, c, e1, e2, e3⟩
        · subst e2
          exact .inl ⟨e1, q⟩
        · subst e3
          exact .inr ⟨a, c, e1, e2, q⟩
section
variable {X : Cx} {W : WX} {pin : List Nat} {fa fb : List Sl → Rs AV} {a c : Expr} {pos : Pos}
theorem se_eq (hu : X.A.units + 64 < cLine) (ha : SE X W pin a fa) (hb : SE X W pin c fb) : SE X W pin (.Compare a [.Eq] [c] pos) (s2 gEq fa fb) := se_cmp (op_eqD hu) v2_eq ha hb (nomark _)
theorem st_eq (hu : X.A.units + 64 < cLine) (ha : SE X W pin a fa) (hb : SE X W pin c fb) : ST X W pin (.Compare a [.Eq] [c] pos) (sTst (s2 gEq fa fb)) := st_cmp (op_eqD hu) v2_eq ha hb (nomark _)
theorem st_ne (hu : X.A.units + 64 < cLine) (ha : SE X W pin a fa) (hb : SE X W pin c fb) : ST X W pin (.Compare a [.NotEq] [c] pos) (sTst (s2 gNe fa fb)) := st_cmp (op_neD hu) v2_ne ha hb (nomark _)
theorem se_is (ha : SE X W pin a fa) (hb : SE X W pin c fb) : SE X W pin (.Compare a [.Is] [c] pos) (s2 (gIs false) fa fb) := se_cmp op_isU v2_is ha hb (nomark _)
theorem st_is (ha : SE X W pin a fa) (hb : SE X W pin c fb) : ST X W pin (.Compare a [.Is] [c] pos) (sTst (s2 (gIs false) fa fb)) := st_cmp op_isU v2_is ha hb (nomark _)
end
/-- the item at a place, a tree that stands still -/
def itemD : PyData → PyData → Option PyData
  | .list ds, .int i => atI ds i
  | .tuple ds, .int i => atI ds i
  | _, _ => none
def El.fzd : El → Option PyData
  | .fz d => some d
  | .ow _ => none
def itemA (δ : List Sl) (x : AV) (i : PyData) : Option PyData := match x with
  | .val d => itemD d i
  | .ref k => match δ[k]? with
    | some (.fz d) => itemD d i
    | some (.ol xs) => (match i with
      | .int i => (atI xs i).bind El.fzd
      | _ => none)
    | some (.al x j) => (match δ[x]? with
      | some (.ol xs) => (match xs[j]? with
        | some (.ow ys) => itemD (.list ys) i
        | some (.fz d) => itemD d i
        | none => none)
      | _ => none)
    | _ => none
  | .tmp _ => none
def gIx (x y : AV) (δ : List Sl) : Rs AV := match rdC δ y with
  | some i => (match itemA δ x i with
    | some d => .ok (.val d) δ
    | none => .bad)
  | none => .bad
theorem atI_map {α β : Type} {f : α → β} {xs : List α} {i : Int} : atI (xs.map f) i = (atI xs i).map f := by
  unfold atI
  rw [List.length_map]
  cases ixN xs.length i with
  | none => rfl
  | some j => simp
theorem rpl_at {K : PySem.W.Frag} {H : Hp} {vs : List V} {ds : List PyData} {i : Int} {d : PyData} (h : RpL K H vs ds) (e : atI ds i = some d) : ∃ v, atI vs i = some v ∧ Rp K H v d := by
  unfold atI at e ⊢
  rw [h.len]
  cases q : ixN ds.length i with
  | none => rw [q] at e; cases e
  | some j =>
    rw [q] at e
    exact h.get e
def rIxU (K : PySem.W.Frag) : R2 := fun x y H Q => rIxL K x y H Q ∨ rIxT K x y H Q
theorem ix_U {X : Cx} : IxR X (rIxU X.K) := IxR.or ix_list ix_tup
theorem itemD_ok {K : PySem.W.Frag} {Fz H : Hp} {v w : V} {d i r : PyData} {Q : VK} (le : Same Fz H) (h : RpC K Fz H v d) (h2 : RpC K Fz H w i) (e : itemD d i = some r) (q : ∀ u, Rp K Fz u r → Q u H) : rIxU K v w H Q := by
  cases d with
  | list ds =>
    cases i with
    | int i =>
      obtain ⟨a, vs, e1, s1, r1⟩ := h.list le
      obtain ⟨u, e2, r2⟩ := rpl_at r1 (show atI ds i = some r from e)
      exact .inl ⟨a, vs, i, u, e1, rpc_int h2, s1.sq, e2, q u r2⟩
    | _ => cases e
  | tuple ds =>
    cases i with
    | int i =>
      obtain ⟨a, vs, e1, s1, r1⟩ := h.tup le
      obtain ⟨u, e2, r2⟩ := rpl_at r1 (show atI ds i = some r from e)
      exact .inr ⟨a, vs, i, u, e1, rpc_int h2, s1, e2, q u r2⟩
    | _ => cases e
  | _ => cases i <;> cases e
theorem ElL.len {K : PySem.W.Frag} {Fz H : Hp} : ∀ {f : List Addr} {vs : List V} {es : List El}, ElL K Fz H f vs es → vs.length = es.length
  | _, _, _, .nil => rfl
  | _, _, _, .cons _ t => by simp [ElL.len t]
theorem ElL.atI {K : PySem.W.Frag} {Fz H : Hp} {f : List Addr} {vs : List V} {es : List El} {i : Int} {e : El} (h : ElL K Fz H f vs es) (q : L2.atI es i = some e) : ∃ v g, L2.atI vs i = some v ∧ ElR K Fz H g v e := by
  unfold L2.atI at q ⊢
  rw [h.len]
  cases q1 : ixN es.length i with
  | none => rw [q1] at q; cases q
  | some j =>
    rw [q1] at q
    obtain ⟨v, g, e1, e2, _⟩ := h.at_ (j := j) q
    exact ⟨v, g, e1, e2⟩
theorem v2_ix {K : PySem.W.Frag} {mg : Str → Option Value} {W : WX} {pin : List Nat} : V2 K mg W pin (rIxU K) gIx := by
  intro b Fz F δ σ H v w x y Q hp R A B P
  unfold gIx at P
  cases q1 : rdC δ y with
  | none => simp only [q1] at P; exact P.elim
  | some i =>
    cases q2 : itemA δ x i with
    | none => simp only [q1, q2] at P; exact P.elim
    | some r =>
      simp only [q1, q2] at P
      have h2 := rdC_ok R B q1
      have fin : ∀ u, Rp K Fz u r → Q u H := fun u hu => P u H Fz F (Same.refl _) R hu
      cases x with
      | val d => exact itemD_ok R.le (.inl A) h2 q2 fin
      | tmp s => exact False.elim A
      | ref k =>
        have hv : σ[k]? = some (some v) := A
        unfold itemA at q2
        cases q3 : δ[k]? with
        | none => simp only [q3] at q2; cases q2
        | some s =>
          have hs := R.slot k s q3
          rw [hv] at hs
          cases s with
          | no => simp only [q3] at q2; cases q2
          | od kvs => simp only [q3] at q2; cases q2
          | fz d =>
            simp only [q3] at q2
            obtain ⟨_, v', e1, e2⟩ := hs
            cases e1
            exact itemD_ok R.le (.inl e2) h2 q2 fin
          | ol xs =>
            cases i with
            | int n =>
              simp only [q3] at q2
              cases q4 : atI xs n with
              | none => rw [q4] at q2; cases q2
              | some e =>
                rw [q4] at q2
                cases e with
                | ow ys => cases q2
                | fz d =>
                  cases q2
                  obtain ⟨a, vs, g, e1, e2, e3, e4⟩ := hs
                  cases e1
                  obtain ⟨u, g', f1, f2⟩ := e4.atI q4
                  exact .inl ⟨a, vs, n, u, rfl, rpc_int h2, SqL.of e3, f1, fin u f2.2⟩
            | _ => simp only [q3] at q2; cases q2
          | al x j =>
            simp only [q3] at q2
            cases q4 : δ[x]? with
            | none => simp only [q4] at q2; cases q2
            | some t =>
              cases t with
              | ol xs =>
                simp only [q4] at q2
                cases q5 : xs[j]? with
                | none => simp only [q5] at q2; cases q2
                | some e =>
                  obtain ⟨g, e1, _⟩ := R.al q3 q4 q5 hv
                  cases e with
                  | fz d =>
                    simp only [q5] at q2
                    exact itemD_ok R.le (.inl e1.2) h2 q2 fin
                  | ow ys =>
                    simp only [q5] at q2
                    obtain ⟨a, vs, f1, _, f3, f4⟩ := e1
                    exact itemD_ok R.le (.inr ⟨a, vs, ys, f1, rfl, f3, f4⟩) h2 q2 fin
              | _ => simp only [q4] at q2; cases q2
def cutD (ds : List PyData) (lo hi : Option Int) : List PyData := (ds.drop (HT.sIx ds.length 0 lo)).take (HT.sIx ds.length ds.length hi - HT.sIx ds.length 0 lo)
theorem rpl_cut {K : PySem.W.Frag} {H : Hp} {vs : List V} {ds : List PyData} (h : RpL K H vs ds) (lo hi : Option Int) : RpL K H (cutV vs lo hi) (cutD ds lo hi) := by
  unfold cutV cutD
  rw [h.len]
  exact (h.drop _).take _
def gSl (x : AV) (lo hi : Option Int) (δ : List Sl) : Rs AV := match rdC δ x with
  | some (.list ds) => .ok (.tmp (.ol ((cutD ds lo hi).map .fz))) δ
  | some (.tuple ds) => .ok (.val (.tuple (cutD ds lo hi))) δ
  | _ => .bad
end Hb
namespace Hb
open PySem PySem.Spec PyProof.Rows L2
def sPartO : Option (List Sl → Rs AV) → List Sl → Rs (Option Int)
  | none => fun δ => .ok none δ
  | some f => fun δ => (sSt f δ).bind fun a δ' => match rdC δ' a with
    | some (.int i) => .ok (some i) δ'
    | _ => .bad
def rdP (K : PySem.W.Frag) (mg : Str → Option Value) (W : WX) (pin : List Nat) : Option (List Sl → Rs AV) → TO
  | none => tNoPart
  | some f => tPart (rdE K mg W pin (sSt f))
inductive SPO (X : Cx) (W : WX) (pin : List Nat) : Option Expr → Option (List Sl → Rs AV) → Prop
  | no : SPO X W pin none none
  | yes {e : Expr} {f : List Sl → Rs AV} : SE X W pin e f → SPO X W pin (some e) (some f)
theorem SPO.po {X : Cx} {W : WX} {pin : List Nat} {e : Option Expr} {f : Option (List Sl → Rs AV)} (h : SPO X W pin e f) : PO X e (rdP X.K X.mg W pin f) := by
  cases h with
  | no => exact po_none
  | yes h => exact po_some (se_st h)
section
variable {K : PySem.W.Frag} {mg : Str → Option Value} {W : WX} {pin : List Nat}
theorem rdP_bind {o : Option (List Sl → Rs AV)} {σ : L2.St} {H : Hp} {b : Bk} {Fz : Hp} {F : Nat → List Addr} {δ : List Sl} {k : Option Int → List Sl → Rs AV} {Q : VK} {R : Option Int → Hp → Prop} (hp : b.pin = pin) (Rr : Rl K b Fz F δ σ H) (P : Post K mg W b Fz σ Q ((sPartO o δ).bind k))
    (h : ∀ i H' Fz' F' δ', Same Fz Fz' → Rl K b Fz' F' δ' σ H' → Post K mg W b Fz' σ Q (k i δ') → R i H') : rdP K mg W pin o σ H R := by
  cases o with
  | none => exact h none H Fz F δ (Same.refl _) Rr P
  | some f =>
    have P' : Post K mg W b Fz σ Q ((sSt f δ).bind fun a δ' => (match rdC δ' a with
      | some (.int i) => (.ok (some i) δ' : Rs (Option Int))
      | _ => .bad).bind k) := by
      simp only [sPartO] at P
      cases q : sSt f δ with
      | bad => rw [q] at P; exact P
      | er x δ' => rw [q] at P; exact P
      | ok a δ' => rw [q] at P; exact P
    refine rd_bind hp Rr P' fun v H' Fz' F' x δ' s R' A P2 => ?_
    cases q : rdC δ' x with
    | none => simp only [q] at P2; exact P2.elim
    | some d =>
      cases d with
      | int i =>
        simp only [q] at P2
        exact ⟨i, rpc_int (rdC_ok R' A q), h (some i) H' Fz' F' δ' s R' P2⟩
      | _ => simp only [q] at P2; exact P2.elim
def sSl (f : List Sl → Rs AV) (lo hi : Option (List Sl → Rs AV)) : List Sl → Rs AV := fun δ => (sSt f δ).bind fun x δ1 => (sPartO lo δ1).bind fun l δ2 => (sPartO hi δ2).bind fun u δ3 => gSl x l u δ3
def rSlU (K : PySem.W.Frag) : V → Option Int → Option Int → Hp → VK → Prop := fun x lo hi H Q => rSlL K x lo hi H Q ∨ rSlA K x lo hi H Q
theorem sl_U {X : Cx} : SlR X (rSlU X.K) := SlR.or sl_list sl_tupA
theorem gSl_ok {b : Bk} {Fz : Hp} {F : Nat → List Addr} {δ : List Sl} {σ : L2.St} {H : Hp} {Q : VK} {v : V} {x : AV} {lo hi : Option Int} (R : Rl K b Fz F δ σ H) (A : AvS K Fz σ v x) (P : Post K mg W b Fz σ Q (gSl x lo hi δ)) : rSlU K v lo hi H Q := by
  unfold gSl at P
  cases q : rdC δ x with
  | none => simp only [q] at P; exact P.elim
  | some d =>
    have h1 := rdC_ok R A q
    cases d with
    | list ds =>
      simp only [q] at P
      obtain ⟨a, vs, e1, s1, r1⟩ := h1.list R.le
      exact .inl ⟨a, vs, e1, s1.sq, post_newL R (rpl_cut r1 lo hi) P⟩
    | tuple ds =>
      simp only [q] at P
      obtain ⟨a, vs, e1, s1, r1⟩ := h1.tup R.le
      refine .inr ⟨a, vs, e1, s1, fun w => ?_, fun _ => post_newT R (rpl_cut r1 lo hi) P⟩
      have e2 : cutD ds lo hi = ds := by
        have w' := w
        rw [r1.len] at w'
        unfold cutD
        rw [w'.1, w'.2]
        simp
      rw [e2] at P
      rcases h1 with h | ⟨_, _, _, _, e3, _⟩
      · rw [← e1]
        exact P v H Fz F (Same.refl _) R h
      · cases e3
    | _ => simp only [q] at P; exact P.elim
end
theorem se_sl {X : Cx} {W : WX} {pin : List Nat} {fa : List Sl → Rs AV} {a : Expr} {lo hi : Option Expr} {fl fh : Option (List Sl → Rs AV)} {p2 pos : Pos} (ha : SE X W pin a fa) (hl : SPO X W pin lo fl) (hh : SPO X W pin hi fh) :
    SE X W pin (.Subscript a (.Slice lo hi none p2) pos) (sSl fa fl fh) := pe_mono (pe_slice sl_U (se_st ha) hl.po hh.po) fun σ H Q ⟨b, Fz, F, δ, hp, R, P⟩ => by
  refine rd_bind hp R P fun v H1 Fz1 F1 x δ1 s1 R1 A1 P1 => ?_
  refine rdP_bind hp R1 P1 fun l H2 Fz2 F2 δ2 s2 R2 P2 => ?_
  refine rdP_bind hp R2 P2 fun u H3 Fz3 F3 δ3 s3 R3 P3 => ?_
  exact gSl_ok R3 (A1.le (s2.trans s3)) P3
section
variable (K : PySem.W.Frag) (mg : Str → Option Value) (W : WX)
def PostL (b : Bk) (Fz : Hp) (σ : L2.St) (Q : List V → Hp → Prop) : Rs (List PyData) → Prop
  | .ok ds δ => ∀ vs H' Fz' F', Same Fz Fz' → Rl K b Fz' F' δ σ H' → RpL K Fz' vs ds → Q vs H'
  | .er x δ => PostX K mg W b Fz σ x δ
  | .bad => False
def rdL (pin : List Nat) (f : List Sl → Rs (List PyData)) : TA := fun σ H Q => ∃ b Fz F δ, b.pin = pin ∧ Rl K b Fz F δ σ H ∧ PostL K mg W b Fz σ Q (f δ)
end
abbrev SA (X : Cx) (W : WX) (pin : List Nat) (es : List Expr) (f : List Sl → Rs (List PyData)) : Prop := PA X es (rdL X.K X.mg W pin f)
theorem pa_mono {X : Cx} {es : List Expr} {t t' : TA} (h : PA X es t) (i : ∀ σ H Q, t' σ H Q → t σ H Q) : PA X es t' := ⟨fun pos pins s σ H Q I q => h.run pos pins s σ H Q I (i σ H Q q)⟩
/-- a value taken -/
def Rs.val {α : Type} (r : Rs AV) (k : PyData → List Sl → Rs α) : Rs α := r.bind fun a δ => match a with
  | .val d => k d δ
  | _ => .bad
def lNil : List Sl → Rs (List PyData) := fun δ => .ok [] δ
def lCons (f : List Sl → Rs AV) (g : List Sl → Rs (List PyData)) : List Sl → Rs (List PyData) := fun δ => (sTk f δ).val fun d δ1 => (g δ1).bind fun ds δ2 => .ok (d :: ds) δ2
def seqD : PyData → Option (List PyData)
  | .list ds => some ds
  | .tuple ds => some ds
  | _ => none
section
variable {X : Cx} {W : WX} {pin : List Nat} {f : List Sl → Rs AV} {g : List Sl → Rs (List PyData)} {e : Expr} {es : List Expr}
theorem PostL.le {K : PySem.W.Frag} {mg : Str → Option Value} {b : Bk} {Fz Fz1 : Hp} {σ : L2.St} {Q : List V → Hp → Prop} {r : Rs (List PyData)} (s : Same Fz Fz1) (p : PostL K mg W b Fz σ Q r) : PostL K mg W b Fz1 σ Q r := by
  cases r with
  | ok a δ => exact fun v H' Fz' F' s' R e => p v H' Fz' F' (s.trans s') R e
  | er x δ => exact PostX.le s p
  | bad => exact p
/-- behind a taken value -/
theorem rd_valL {K : PySem.W.Frag} {mg : Str → Option Value} {σ : L2.St} {H : Hp} {b : Bk} {Fz : Hp} {F : Nat → List Addr} {δ : List Sl} {k : PyData → List Sl → Rs (List PyData)} {Q : List V → Hp → Prop} {R : VK} (hp : b.pin = pin) (Rr : Rl K b Fz F δ σ H) (P : PostL K mg W b Fz σ Q ((sTk f δ).val k))
    (h : ∀ v H' Fz' F' d δ', Same Fz Fz' → Rl K b Fz' F' δ' σ H' → Rp K Fz' v d → PostL K mg W b Fz' σ Q (k d δ') → R v H') : rdE K mg W pin (sTk f) σ H R := by
  refine ⟨b, Fz, F, δ, hp, Rr, ?_⟩
  cases q : sTk f δ with
  | bad => rw [q] at P; exact P
  | er x δ' => rw [q] at P; exact P
  | ok a δ' =>
    rw [q] at P
    intro v H' Fz' F' s R' A
    cases a with
    | tmp t => exact False.elim P
    | ref i => exact False.elim P
    | val d => exact h v H' Fz' F' d δ' s R' A (PostL.le s P)
/-- behind the values -/
theorem rdL_bindL {K : PySem.W.Frag} {mg : Str → Option Value} {σ : L2.St} {H : Hp} {b : Bk} {Fz : Hp} {F : Nat → List Addr} {δ : List Sl} {k : List PyData → List Sl → Rs (List PyData)} {Q R : List V → Hp → Prop} (hp : b.pin = pin) (Rr : Rl K b Fz F δ σ H) (P : PostL K mg W b Fz σ Q ((g δ).bind k))
    (h : ∀ vs H' Fz' F' ds δ', Same Fz Fz' → Rl K b Fz' F' δ' σ H' → RpL K Fz' vs ds → PostL K mg W b Fz' σ Q (k ds δ') → R vs H') : rdL K mg W pin g σ H R := by
  refine ⟨b, Fz, F, δ, hp, Rr, ?_⟩
  cases q : g δ with
  | bad => rw [q] at P; exact P
  | er x δ' => rw [q] at P; exact P
  | ok a δ' =>
    rw [q] at P
    exact fun v H' Fz' F' s R' A => h v H' Fz' F' a δ' s R' A (PostL.le s P)
theorem rdL_bind {K : PySem.W.Frag} {mg : Str → Option Value} {σ : L2.St} {H : Hp} {b : Bk} {Fz : Hp} {F : Nat → List Addr} {δ : List Sl} {k : List PyData → List Sl → Rs AV} {Q : VK} {R : List V → Hp → Prop} (hp : b.pin = pin) (Rr : Rl K b Fz F δ σ H) (P : Post K mg W b Fz σ Q ((g δ).bind k))
    (h : ∀ vs H' Fz' F' ds δ', Same Fz Fz' → Rl K b Fz' F' δ' σ H' → RpL K Fz' vs ds → Post K mg W b Fz' σ Q (k ds δ') → R vs H') : rdL K mg W pin g σ H R := by
  refine ⟨b, Fz, F, δ, hp, Rr, ?_⟩
  cases q : g δ with
  | bad => rw [q] at P; exact P
  | er x δ' => rw [q] at P; exact P
  | ok a δ' =>
    rw [q] at P
    exact fun v H' Fz' F' s R' A => h v H' Fz' F' a δ' s R' A (Post.le s P)
theorem sa_nil : SA X W pin [] lNil := pa_mono pa_nil fun σ H Q ⟨b, Fz, F, δ, hp, R, P⟩ => P [] H Fz F (Same.refl _) R .nil
theorem sa_cons (h : SE X W pin e f) (h2 : SA X W pin es g) (hs : starEach (e :: es) X.env = (false, eval e X.env) :: starEach es X.env := by rfl) : SA X W pin (e :: es) (lCons f g) := pa_mono (pa_cons (se_tk h) h2 hs) fun σ H Q ⟨b, Fz, F, δ, hp, R, P⟩ => by
  refine rd_valL hp R P fun v H1 Fz1 F1 d δ1 s1 R1 A1 P1 => ?_
  refine rdL_bindL hp R1 P1 fun vs H2 Fz2 F2 ds δ2 s2 R2 A2 P2 => ?_
  exact P2 (v :: vs) H2 Fz2 F2 (Same.refl _) R2 (.cons (A1.mono s2) A2)
def sLst (g : List Sl → Rs (List PyData)) : List Sl → Rs AV := fun δ => (g δ).bind fun ds δ' => if ds.length ≤ cap then .ok (.tmp (.ol (ds.map .fz))) δ' else .bad
def sTup (g : List Sl → Rs (List PyData)) : List Sl → Rs AV := fun δ => (g δ).bind fun ds δ' => if ds.length ≤ cap then .ok (.val (.tuple ds)) δ' else .bad
theorem se_lst {pos : Pos} (h : SA X W pin es g) : SE X W pin (.List es pos) (sLst g) := pe_mono (pe_lst h) fun σ H Q ⟨b, Fz, F, δ, hp, R, P⟩ => by
  refine rdL_bind hp R P fun vs H2 Fz2 F2 ds δ2 s2 R2 A2 P2 => ?_
  by_cases c : ds.length ≤ cap
  · rw [if_pos c] at P2
    exact ⟨by rw [A2.len]; exact le_line c, post_newL R2 A2 P2⟩
  · rw [if_neg c] at P2
    exact P2.elim
theorem se_tup {x1 : Nat} {pos : Pos} (h : SA X W pin es g) : SE X W pin (.Tuple es x1 pos) (sTup g) := pe_mono (pe_tup h) fun σ H Q ⟨b, Fz, F, δ, hp, R, P⟩ => by
  refine rdL_bind hp R P fun vs H2 Fz2 F2 ds δ2 s2 R2 A2 P2 => ?_
  by_cases c : ds.length ≤ cap
  · rw [if_pos c] at P2
    exact ⟨by rw [A2.len]; exact le_line c, post_newT R2 A2 P2⟩
  · rw [if_neg c] at P2
    exact P2.elim
end
section
variable (K : PySem.W.Frag) (mg : Str → Option Value) (W : WX) (pin : List Nat)
def C1 (r : List V → Hp → VK → Prop) (g : AV → List Sl → Rs AV) : Prop := ∀ b Fz F δ σ H v x Q, b.pin = pin → Rl K b Fz F δ σ H → AvS K Fz σ v x → Post K mg W b Fz σ Q (g x δ) → r [v] H Q
def C2 (r : List V → Hp → VK → Prop) (g : AV → AV → List Sl → Rs AV) : Prop := ∀ b Fz F δ σ H v w x y Q, b.pin = pin → Rl K b Fz F δ σ H → AvS K Fz σ v x → AvS K Fz σ w y → Post K mg W b Fz σ Q (g x y δ) → r [v, w] H Q
end
section
variable {X : Cx} {W : WX} {pin : List Nat} {fa fb : List Sl → Rs AV} {a c : Expr} {x : Str} {p pos : Pos} {id T : String} {r : List V → Hp → VK → Prop} {g : AV → List Sl → Rs AV} {g2 : AV → AV → List Sl → Rs AV}
theorem se_b1 (hc : CallR X (.builtin id) r) (hv : C1 X.K X.mg W pin r g) (hg : Gl X x) (hm : X.mg x = none) (hb : bootBuiltins x = some (.builtin id)) (ha : SE X W pin a fa) (hn : x ≠ "__name__" := by decide) (hdb : (x == ("__debug__" : Str)) = false := by decide)
    (he : starEach [a] X.env = (false, eval a X.env) :: starEach [] X.env := by rfl) : SE X W pin (.Call (.Name x p) [a] [] pos) (s1 g fa) := pe_mono (pe_callB hc hg hm hb (pa_cons (se_st ha) pa_nil he) hn hdb he rfl) fun σ H Q ⟨b, Fz, F, δ, hp, R, P⟩ => by
  refine rd_bind hp R P fun v H1 Fz1 F1 x δ1 s1 R1 A1 P1 => ?_
  exact hv b Fz1 F1 δ1 σ H1 v x Q hp R1 A1 P1
theorem se_t1 (hc : CallR X (.type T) r) (hv : C1 X.K X.mg W pin r g) (hg : Gl X x) (hm : X.mg x = none) (hb : bootBuiltins x = some (.type T)) (ha : SE X W pin a fa) (hn : x ≠ "__name__" := by decide) (hdb : (x == ("__debug__" : Str)) = false := by decide)
    (he : starEach [a] X.env = (false, eval a X.env) :: starEach [] X.env := by rfl) : SE X W pin (.Call (.Name x p) [a] [] pos) (s1 g fa) := pe_mono (pe_callTy hc hg hm hb (pa_cons (se_st ha) pa_nil he) hn hdb he rfl) fun σ H Q ⟨b, Fz, F, δ, hp, R, P⟩ => by
  refine rd_bind hp R P fun v H1 Fz1 F1 x δ1 s1 R1 A1 P1 => ?_
  exact hv b Fz1 F1 δ1 σ H1 v x Q hp R1 A1 P1
theorem se_b2 (hc : CallR X (.builtin id) r) (hv : C2 X.K X.mg W pin r g2) (hg : Gl X x) (hm : X.mg x = none) (hb : bootBuiltins x = some (.builtin id)) (ha : SE X W pin a fa) (hcc : SE X W pin c fb) (hn : x ≠ "__name__" := by decide) (hdb : (x == ("__debug__" : Str)) = false := by decide)
    (he : starEach [a, c] X.env = (false, eval a X.env) :: starEach [c] X.env := by rfl) (he2 : starEach [c] X.env = (false, eval c X.env) :: starEach [] X.env := by rfl) (hpl : (backTo pos (starEach [c] X.env)).any (·.1) = false := by rfl) : SE X W pin (.Call (.Name x p) [a, c] [] pos) (s2 g2 fa fb) := pe_mono (pe_callB hc hg hm hb (pa_cons (se_st ha) (pa_cons (se_st hcc) pa_nil he2) he) hn hdb he hpl) fun σ H Q ⟨b, Fz, F, δ, hp, R, P⟩ => by
  refine rd_bind hp R P fun v H1 Fz1 F1 x δ1 s1 R1 A1 P1 => ?_
  refine rd_bind hp R1 P1 fun w H2 Fz2 F2 y δ2 s2 R2 A2 P2 => ?_
  exact hv b Fz2 F2 δ2 σ H2 v w x y Q hp R2 (A1.le s2) A2 P2
end
/-- a look at a tree that gives a number, a truth value, a text -/
def gRd (k : PyData → Option PyData) (x : AV) (δ : List Sl) : Rs AV := match (rdA δ x).bind k with
  | some d => if flatD d = true then .ok (.val d) δ else .bad
  | none => .bad
def dV : PyData → V
  | .none => .non
  | .bool b => .bl b
  | .int i => .int i
  | .str s => .str s
  | _ => .non
theorem rp_flat {K : PySem.W.Frag} {H : Hp} {d : PyData} (h : flatD d = true) : Rp K H (dV d) d := by
  cases d with
  | none => exact .non
  | bool b => exact .bl b
  | int i => exact .int i
  | str s => exact .str s
  | _ => cases h
theorem c1_rd {K : PySem.W.Frag} {mg : Str → Option Value} {W : WX} {pin : List Nat} {k : PyData → Option PyData} {r : List V → Hp → VK → Prop} (h : ∀ v d e H (Q : VK), Rp K H v d → k d = some e → flatD e = true → Q (dV e) H → r [v] H Q) : C1 K mg W pin r (gRd k) := by
  intro b Fz F δ σ H v x Q hp R A P
  unfold gRd at P
  cases q : rdA δ x with
  | none => simp only [q, Option.bind_none] at P; exact P.elim
  | some d =>
    cases q2 : k d with
    | none => simp only [q, Option.bind_some, q2] at P; exact P.elim
    | some e =>
      simp only [q, Option.bind_some, q2] at P
      by_cases c : flatD e = true
      · rw [if_pos c] at P
        exact h v d e H Q (rdA_ok R A q) q2 c (P _ H Fz F (Same.refl _) R (rp_flat c))
      · rw [if_neg c] at P
        exact P.elim
def lenD : PyData → Option PyData
  | .list ds => some (.int ds.length)
  | .tuple ds => some (.int ds.length)
  | .str z => if z.length ≤ cap then some (.int z.length) else none
  | .dict ds => some (.int ds.length)
  | _ => none
theorem RpK.len {K : PySem.W.Frag} {H : Hp} : ∀ {vs : List (Key × V)} {ds : List (PyData × PyData)}, RpK K H vs ds → vs.length = ds.length
  | _, _, .nil => rfl
  | _, _, .cons _ t => by simp [RpK.len t]
theorem RpT.len {K : PySem.W.Frag} {H : Hp} : ∀ {vs : List (List Key × V)} {ds : List (PyData × PyData)}, RpT K H vs ds → vs.length = ds.length
  | _, _, .nil => rfl
  | _, _, .cons _ t => by simp [RpT.len t]
def rLenU (K : PySem.W.Frag) : List V → Hp → VK → Prop := fun xs H Q => ((∃ x n, xs = [x] ∧ LenV K x H n ∧ Q (.int n) H) ∨ ∃ a kvs, xs = [V.ref a] ∧ H a = some (.dK kvs) ∧ Q (.int kvs.length) H) ∨ ∃ a kvs, xs = [V.ref a] ∧ H a = some (.dT kvs) ∧ Q (.int kvs.length) H
theorem call_lenU {X : Cx} : CallR X (.builtin "len") (rLenU X.K) := CallR.or (CallR.or call_len call_lenD) call_len_dT
theorem c1_len {K : PySem.W.Frag} {mg : Str → Option Value} {W : WX} {pin : List Nat} : C1 K mg W pin (rLenU K) (gRd lenD) := c1_rd fun v d e H Q r k f q => by
  cases r with
  | lst h1 h2 =>
    cases k
    exact .inl (.inl ⟨_, _, rfl, .inl ⟨_, h1.sq, rfl⟩, by rw [h2.len]; exact q⟩)
  | tup h1 h2 =>
    cases k
    exact .inl (.inl ⟨_, _, rfl, .inr ⟨_, SqT.of h1, rfl⟩, by rw [h2.len]; exact q⟩)
  | dK h1 h2 =>
    cases k
    exact .inl (.inr ⟨_, _, rfl, h1, by rw [h2.len]; exact q⟩)
  | dT h1 h2 =>
    cases k
    exact .inr ⟨_, _, rfl, h1, by rw [h2.len]; exact q⟩
  | str z =>
    simp only [lenD] at k
    by_cases c : z.length ≤ cap
    · rw [if_pos c] at k
      cases k
      exact .inl (.inl ⟨_, _, rfl, ⟨le_line c, rfl⟩, q⟩)
    · rw [if_neg c] at k
      cases k
  | _ => cases k
def absD : PyData → Option PyData
  | .int i => some (.int (if i < 0 then -i else i))
  | _ => none
theorem c1_abs {K : PySem.W.Frag} {mg : Str → Option Value} {W : WX} {pin : List Nat} : C1 K mg W pin (fun xs H Q => ∃ i, xs = [.int i] ∧ Q (.int (if i < 0 then -i else i)) H) (gRd absD) := c1_rd fun v d e H Q r k f q => by
  cases r with
  | int i =>
    cases k
    exact ⟨i, rfl, q⟩
  | _ => cases k
def intD : PyData → Option PyData
  | .int i => some (.int i)
  | .bool k => some (.int (if k then 1 else 0))
  | _ => none
theorem c1_int {K : PySem.W.Frag} {mg : Str → Option Value} {W : WX} {pin : List Nat} : C1 K mg W pin (fun xs H Q => (∃ i, xs = [.int i] ∧ Q (.int i) H) ∨ ∃ k, xs = [.bl k] ∧ Q (.int (if k then 1 else 0)) H) (gRd intD) := c1_rd fun v d e H Q r k f q => by
  cases r with
  | int i =>
    cases k
    exact .inl ⟨i, rfl, q⟩
  | bl b =>
    cases k
    exact .inr ⟨b, rfl, q⟩
  | _ => cases k
def intsOf : List PyData → Option (List Int)
  | [] => some []
  | .int i :: r => (intsOf r).map (i :: ·)
  | _ :: _ => none
theorem intsOf_eq : ∀ {ds : List PyData} {ns : List Int}, intsOf ds = some ns → ds = ns.map .int
  | [], _, h => by cases h; rfl
  | .int i :: r, ns, h => by
    rw [intsOf] at h
    cases q : intsOf r with
    | none => rw [q] at h; cases h
    | some ms =>
      rw [q] at h
      cases h
      rw [intsOf_eq q]
      rfl
  | .none :: r, _, h => by cases h
  | .bool _ :: r, _, h => by cases h
  | .str _ :: r, _, h => by cases h
  | .list _ :: r, _, h => by cases h
  | .tuple _ :: r, _, h => by cases h
  | .dict _ :: r, _, h => by cases h
theorem intsOf_map : ∀ ns : List Int, intsOf (ns.map .int) = some ns
  | [] => rfl
  | n :: ns => by
    rw [List.map_cons, intsOf, intsOf_map ns]
    rfl
def boolsOf : List PyData → Option (List Bool)
  | [] => some []
  | .bool i :: r => (boolsOf r).map (i :: ·)
  | _ :: _ => none
theorem boolsOf_eq : ∀ {ds : List PyData} {ns : List Bool}, boolsOf ds = some ns → ds = ns.map .bool
  | [], _, h => by cases h; rfl
  | .bool i :: r, ns, h => by
    rw [boolsOf] at h
    cases q : boolsOf r with
    | none => rw [q] at h; cases h
    | some ms =>
      rw [q] at h
      cases h
      rw [boolsOf_eq q]
      rfl
  | .none :: r, _, h => by cases h
  | .int _ :: r, _, h => by cases h
  | .str _ :: r, _, h => by cases h
  | .list _ :: r, _, h => by cases h
  | .tuple _ :: r, _, h => by cases h
  | .dict _ :: r, _, h => by cases h
theorem boolsOf_map : ∀ ns : List Bool, boolsOf (ns.map .bool) = some ns
  | [] => rfl
  | n :: ns => by
    rw [List.map_cons, boolsOf, boolsOf_map ns]
    rfl
theorem RpL.bools {K : PySem.W.Frag} {H : Hp} : ∀ {vs : List V} {ns : List Bool}, RpL K H vs (ns.map .bool) → vs = ns.map V.bl
  | _, [], .nil => rfl
  | _, n :: ns, .cons r t => by
    cases r
    rw [RpL.bools t]
    rfl
def overI (k : List Int → Option PyData) : PyData → Option PyData
  | .list ds => (intsOf ds).bind k
  | _ => none
def overB (k : List Bool → Option PyData) : PyData → Option PyData
  | .list ds => (boolsOf ds).bind k
  | _ => none
theorem c1_overI {K : PySem.W.Frag} {mg : Str → Option Value} {W : WX} {pin : List Nat} {k : List Int → Option PyData} {r : List V → Hp → VK → Prop} (h : ∀ a ns e H (Q : VK), SqL K H a (ns.map V.int) → k ns = some e → Q (dV e) H → r [.ref a] H Q) : C1 K mg W pin r (gRd (overI k)) := c1_rd fun v d e H Q rp ke f q => by
  cases rp with
  | lst h1 h2 =>
    rename_i ds
    simp only [overI] at ke
    cases q1 : intsOf ds with
    | none => rw [q1] at ke; cases ke
    | some ns =>
      rw [q1] at ke
      have e1 := intsOf_eq q1
      subst e1
      have e2 := h2.ints
      subst e2
      exact h _ ns e H Q h1.sq ke q
  | _ => cases ke
theorem c1_overB {K : PySem.W.Frag} {mg : Str → Option Value} {W : WX} {pin : List Nat} {k : List Bool → Option PyData} {r : List V → Hp → VK → Prop} (h : ∀ a ns e H (Q : VK), SqL K H a (ns.map V.bl) → k ns = some e → Q (dV e) H → r [.ref a] H Q) : C1 K mg W pin r (gRd (overB k)) := c1_rd fun v d e H Q rp ke f q => by
  cases rp with
  | lst h1 h2 =>
    rename_i ds
    simp only [overB] at ke
    cases q1 : boolsOf ds with
    | none => rw [q1] at ke; cases ke
    | some ns =>
      rw [q1] at ke
      have e1 := boolsOf_eq q1
      subst e1
      have e2 := h2.bools
      subst e2
      exact h _ ns e H Q h1.sq ke q
  | _ => cases ke
def maxI : List Int → Option PyData
  | [] => none
  | n :: ns => some (.int (ns.foldl max n))
theorem foldl_max : ∀ (ns : List Int) (n : Int), ns.foldl max n ∈ n :: ns ∧ n ≤ ns.foldl max n ∧ ∀ y ∈ ns, y ≤ ns.foldl max n
  | [], n => ⟨by simp, Int.le_refl _, fun y h => by cases h⟩
  | m :: ns, n => by
    obtain ⟨h1, h2, h3⟩ := foldl_max ns (max n m)
    rw [List.foldl_cons]
    refine ⟨?_, by omega, fun y hy => ?_⟩
    · rcases List.mem_cons.mp h1 with e | e
      · rw [e]
        by_cases c : n ≤ m
        · rw [Int.max_eq_right c]; simp
        · rw [Int.max_eq_left (by omega)]; simp
      · simp [e]
    · rcases List.mem_cons.mp hy with e | e
      · subst e; omega
      · exact h3 y e
section
variable {K : PySem.W.Frag} {mg : Str → Option Value} {W : WX} {pin : List Nat}
theorem c1_sum : C1 K mg W pin (rSum K) (gRd (overI fun ns => some (.int ns.sum))) := c1_overI fun a ns e H Q s k q => by
  cases k
  exact ⟨a, ns, rfl, s, q⟩
theorem c1_max : C1 K mg W pin (rMax K) (gRd (overI maxI)) := c1_overI fun a ns e H Q s k q => by
  cases ns with
  | nil => cases k
  | cons n ns =>
    cases k
    obtain ⟨h1, h2, h3⟩ := foldl_max ns n
    refine ⟨a, n :: ns, rfl, s, by simp, fun m hm hle => ?_⟩
    have e1 : m ≤ ns.foldl max n := by
      rcases List.mem_cons.mp hm with e | e
      · omega
      · exact h3 m e
    have e2 := hle _ h1
    rw [show m = ns.foldl max n by omega]
    exact q
theorem c1_all : C1 K mg W pin (rAll K) (gRd (overB fun ns => some (.bool (ns.all id)))) := c1_overB fun a ns e H Q s k q => by
  cases k
  exact ⟨a, ns, rfl, s, q⟩
abbrev gMax2 := gI yes2 fun i j => if j > i then j else i
abbrev gMin2 := gI yes2 fun i j => if j < i then j else i
theorem c2_i {g : Int → Int → Int} : C2 K mg W pin (fun xs H Q => ∃ i j, xs = [.int i, .int j] ∧ Q (.int (g i j)) H) (gI yes2 g) := by
  intro b Fz F δ σ H v w x y Q hp R A B P
  obtain ⟨i, j, h1, h2, _, q⟩ := v2_i (K := K) (mg := mg) (W := W) (C' := fun _ _ => True) (fun _ _ _ => trivial) b Fz F δ σ H v w x y Q hp R A B P
  exact ⟨i, j, by rw [h1, h2], q⟩
/-- list(xs), tuple(xs) -/
def gList (x : AV) (δ : List Sl) : Rs AV := match rdC δ x with
  | some (.list ds) => .ok (.tmp (.ol (ds.map .fz))) δ
  | some (.tuple ds) => .ok (.tmp (.ol (ds.map .fz))) δ
  | _ => .bad
theorem c1_list : C1 K mg W pin (fun xs H Q => ∃ p ys, xs = [.ref p] ∧ (SqL K H p ys ∨ SqT K H p ys) ∧ ∀ l, H l = none → Q (.ref l) (upd H l (.lst ys))) gList := by
  intro b Fz F δ σ H v x Q hp R A P
  unfold gList at P
  cases q : rdC δ x with
  | none => simp only [q] at P; exact P.elim
  | some d =>
    cases d with
    | list ds =>
      simp only [q] at P
      obtain ⟨a, vs, e1, s1, r1⟩ := (rdC_ok R A q).list R.le
      exact ⟨a, vs, by rw [e1], .inl s1.sq, post_newL R r1 P⟩
    | tuple ds =>
      simp only [q] at P
      obtain ⟨a, vs, e1, s1, r1⟩ := (rdC_ok R A q).tup R.le
      exact ⟨a, vs, by rw [e1], .inr s1, post_newL R r1 P⟩
    | _ => simp only [q] at P; exact P.elim
def sortI (ns : List Int) : List Int := ns.mergeSort fun a b => decide (a ≤ b)
theorem sortI_perm (ns : List Int) : (sortI ns).Perm ns := List.mergeSort_perm _ _
theorem sortI_up (ns : List Int) : (sortI ns).Pairwise (· ≤ ·) := by
  have h := List.pairwise_mergeSort (le := fun a b : Int => decide (a ≤ b)) (fun a b c h1 h2 => by simp at *; omega) (fun a b => by simp; omega) ns
  exact h.imp fun {a b} q => of_decide_eq_true q
theorem up_unique : ∀ {xs ys : List Int}, xs.Perm ys → xs.Pairwise (· ≤ ·) → ys.Pairwise (· ≤ ·) → xs = ys
  | [], ys, p, _, _ => by rw [List.Perm.eq_nil (p.symm)]
  | x :: xs, [], p, _, _ => by cases p.eq_nil
  | x :: xs, y :: ys, p, h1, h2 => by
    rw [List.pairwise_cons] at h1 h2
    have e : x = y := by
      have a1 : x ∈ y :: ys := p.mem_iff.mp List.mem_cons_self
      have a2 : y ∈ x :: xs := p.mem_iff.mpr List.mem_cons_self
      rcases List.mem_cons.mp a1 with z | z
      · exact z
      · rcases List.mem_cons.mp a2 with w | w
        · exact w.symm
        · have := h1.1 y w
          have := h2.1 x z
          omega
    subst e
    rw [up_unique (List.Perm.cons_inv p) h1.2 h2.2]
theorem sortI_eq {ns ms : List Int} (p : ms.Perm ns) (h : ms.Pairwise (· ≤ ·)) : ms = sortI ns := up_unique (p.trans (sortI_perm ns).symm) h (sortI_up ns)
end
def tyD : PyData → String
  | .none => "NoneType"
  | .bool _ => "bool"
  | .int _ => "int"
  | .str _ => "str"
  | .list _ => "list"
  | .tuple _ => "tuple"
  | .dict _ => "dict"
def isiB (a b : String) : Bool := a == b || (a == "bool" && b == "int")
def gIsi (T : String) : AV → List Sl → Rs AV := gRd fun d => some (.bool (isiB (tyD d) T))
theorem tyx_of {K : PySem.W.Frag} {H : Hp} {v : V} {d : PyData} (h : Rp K H v d) : TyX K H v (.type (tyD d)) := by
  cases h with
  | non => exact .base .non
  | bl b => exact .base (.bl b)
  | int i => exact .base (.int i)
  | str x => exact .base (.str x)
  | lst h1 h2 =>
    rcases h1 with (h | ⟨o, h⟩) | ⟨its, n, h, _⟩
    · exact .base (.lst h)
    · exact .base (.frz h)
    · exact .kList h rfl
  | tup h1 h2 => exact .base (.tup h1)
  | dK h1 h2 => exact .base (.dK h1)
  | dT h1 h2 => exact .base (.dT h1)
def kitAll (T : String) : Bool := ["NoneType", "bool", "int", "str", "list", "tuple", "dict"].all fun t => decide (kitB t T = some (isiB t T))
theorem se_isi {X : Cx} {W : WX} {pin : List Nat} {fa : List Sl → Rs AV} {a : Expr} {y : Str} {T : String} {p p2 pos : Pos} (hk : kitAll T = true) (hg : Gl X "isinstance") (hm : X.mg "isinstance" = none) (hg2 : Gl X y) (hm2 : X.mg y = none) (hv2 : bootBuiltins y = some (.type T)) (ha : SE X W pin a fa)
    (hn : y ≠ "__name__" := by decide) (hdb : (y == ("__debug__" : Str)) = false := by decide) (he : starEach [a, .Name y p2] X.env = (false, eval a X.env) :: starEach [.Name y p2] X.env := by rfl) : SE X W pin (.Call (.Name "isinstance" p) [a, .Name y p2] [] pos) (s1 (gIsi T) fa) :=
  pe_mono (pe_callB call_isi hg hm PyProof.Rows.boot_isinstance (pa_cons (se_st ha) (pa_cons (pe_bltn (v := .ty T) hg2 hm2 hv2 rfl hn hdb) pa_nil) he) (by decide) (by decide) he) fun σ H Q ⟨b, Fz, F, δ, hp, R, P⟩ => by
    refine rd_bind hp R P fun v H1 Fz1 F1 x δ1 s1 R1 A1 P1 => ?_
    unfold gIsi gRd at P1
    cases q : rdA δ1 x with
    | none => simp only [q, Option.bind_none] at P1; exact P1.elim
    | some d =>
      simp only [q, Option.bind_some, flatD, if_true] at P1
      have r := rdA_ok R1 A1 q
      refine ⟨v, .ty T, .type (tyD d), .type T, isiB (tyD d) T, rfl, .ty T, tyx_of r, kit_ty ?_, P1 _ H1 Fz1 F1 (Same.refl _) R1 (.bl _)⟩
      unfold kitAll at hk
      rw [List.all_eq_true] at hk
      have hin : tyD d ∈ ["NoneType", "bool", "int", "str", "list", "tuple", "dict"] := by cases d <;> simp [tyD]
      exact of_decide_eq_true (hk _ hin)
end Hb
namespace Hb
open PySem PySem.Spec PyProof.Rows L2
theorem Rl.mut {K : PySem.W.Frag} {b : Bk} {Fz : Hp} {F : Nat → List Addr} {δ : List Sl} {σ : L2.St} {H : Hp} (R : Rl K b Fz F δ σ H) {i : Nat} {xs es : List El} {l : Addr} {vs : List V} {g : List Addr}
    (hs : δ[i]? = some (.ol xs)) (hv : σ[i]? = some (some (.ref l))) (hE : ElL K Fz H g vs es) (hg : (l :: g).Nodup) (sub : ∀ a ∈ g, a ∈ F i) :
    Rl K b Fz (fun k => if k = i then l :: g else F k) (upS i (.ol es) δ) σ (upd H l (.lst vs)) := by
  obtain ⟨a, ws, g0, e1, e2, e3, e4⟩ := R.slot i _ hs
  rw [hv] at e1
  cases e1
  have hl : l ∈ F i := by rw [e2]; exact List.mem_cons_self
  have ne : ∀ c, Fz c ≠ none → c ≠ l := fun c hc z => hc (by rw [z]; exact R.offF i l hl)
  have neB : ∀ c, b.B c ≠ none → c ≠ l := fun c hc z => hc (by rw [z]; exact R.offB i l hl)
  have all : ∀ a ∈ l :: g, a ∈ F i := fun a ha => (List.mem_cons.mp ha).elim (fun z => by rw [z]; exact hl) (sub a)
  refine R.put (Same.refl _) (fun c o e => ?_) (fun c o e => ?_) rfl (fun _ _ => rfl) (.inl rfl) (fun _ => ?_) (fun x j z => nomatch z) hg (fun a ha => R.offF i a (all a ha)) (fun a ha => R.offB i a (all a ha)) (fun a ha k hk hin => hk (R.dj k i a hin (all a ha))) (fun a ha => ?_) (fun k hk a ha => ?_) (fun k hk a ha => R.offF k a ha) (fun _ _ => rfl)
  · rw [upd_ne (ne c (by rw [e]; simp))]
    exact R.le c o e
  · rw [upd_ne (neB c (by rw [e]; simp))]
    exact R.base c o e
  · rw [hv]
    refine ⟨l, vs, g, rfl, rfl, upd_same, hE.keeps (Same.refl _) fun c hc => upd_ne fun z => ?_⟩
    subst z
    exact (List.nodup_cons.mp hg).1 hc
  · by_cases z : a = l
    · rw [z, upd_same]; simp
    · rw [upd_ne z]
      exact R.on i a (all a ha)
  · exact upd_ne fun z => hk (R.dj k i a ha (by rw [z]; exact hl))
theorem Rl.own {K : PySem.W.Frag} {b : Bk} {Fz : Hp} {F : Nat → List Addr} {δ : List Sl} {σ : L2.St} {H : Hp} (R : Rl K b Fz F δ σ H) {i : Nat} {xs : List El} {v : V} (hs : δ[i]? = some (.ol xs)) (hv : σ[i]? = some (some v)) :
    ∃ l vs g, v = .ref l ∧ H l = some (.lst vs) ∧ ElL K Fz H g vs xs ∧ F i = l :: g ∧ (l :: g).Nodup := by
  obtain ⟨a, ws, g0, e1, e2, e3, e4⟩ := R.slot i _ hs
  rw [hv] at e1
  cases e1
  exact ⟨a, ws, g0, rfl, e3, e4, e2, by rw [← e2]; exact R.nd i⟩
theorem ElL.app {K : PySem.W.Frag} {Fz H : Hp} : ∀ {f g : List Addr} {vs ws : List V} {es ds : List El}, ElL K Fz H f vs es → ElL K Fz H g ws ds → ElL K Fz H (f ++ g) (vs ++ ws) (es ++ ds)
  | _, _, _, _, _, _, .nil, s => s
  | _, _, _, _, _, _, .cons h t, s => by
    rw [List.append_assoc]
    exact .cons h (t.app s)
def appI (i : Nat) (d : PyData) (δ : List Sl) : Rs AV := match δ[i]? with
  | some (.ol xs) => if xs.length ≤ cap then .ok (.val .none) (upS i (.ol (xs ++ [.fz d])) δ) else .bad
  | _ => .bad
def appA (x : AV) (d : PyData) (δ : List Sl) : Rs AV := match x with
  | .ref i => appI i d δ
  | _ => .bad
def isLst (δ : List Sl) (x : AV) : Bool := match rdA δ x with
  | some (.list _) => true
  | _ => false
def sApp (fo fa : List Sl → Rs AV) : List Sl → Rs AV := fun δ => (sSt fo δ).bind fun x δ1 => if isLst δ1 x = true then (sTk fa δ1).val fun d δ2 => appA x d δ2
  else .bad
theorem isLst_ty {K : PySem.W.Frag} {b : Bk} {Fz : Hp} {F : Nat → List Addr} {δ : List Sl} {σ : L2.St} {H : Hp} {v : V} {x : AV} (R : Rl K b Fz F δ σ H) (A : AvS K Fz σ v x) (h : isLst δ x = true) : tyV K "list" v H := by
  unfold isLst at h
  cases q : rdA δ x with
  | none => rw [q] at h; cases h
  | some d =>
    rw [q] at h
    cases d with
    | list ds =>
      have r := rdA_ok R A q
      cases r with
      | lst h1 h2 => exact .inl ⟨rfl, _, h1.sq⟩
    | _ => cases h
section
variable {K : PySem.W.Frag} {mg : Str → Option Value} {W : WX} {pin : List Nat}
theorem rd_val {f : List Sl → Rs AV} {σ : L2.St} {H : Hp} {b : Bk} {Fz : Hp} {F : Nat → List Addr} {δ : List Sl} {k : PyData → List Sl → Rs AV} {Q : VK} {R : VK} (hp : b.pin = pin) (Rr : Rl K b Fz F δ σ H) (P : Post K mg W b Fz σ Q ((sTk f δ).val k))
    (h : ∀ v H' Fz' F' d δ', Same Fz Fz' → Rl K b Fz' F' δ' σ H' → Rp K Fz' v d → Post K mg W b Fz' σ Q (k d δ') → R v H') : rdE K mg W pin (sTk f) σ H R := by
  refine ⟨b, Fz, F, δ, hp, Rr, ?_⟩
  cases q : sTk f δ with
  | bad => rw [q] at P; exact P
  | er x δ' => rw [q] at P; exact P
  | ok a δ' =>
    rw [q] at P
    intro v H' Fz' F' s R' A
    cases a with
    | tmp t => exact False.elim P
    | ref i => exact False.elim P
    | val d => exact h v H' Fz' F' d δ' s R' A (Post.le s P)
theorem app_ok {b : Bk} {Fz : Hp} {F : Nat → List Addr} {δ : List Sl} {σ : L2.St} {H : Hp} {Q : VK} {v w : V} {x : AV} {d : PyData} (R : Rl K b Fz F δ σ H) (A : AvS K Fz σ v x) (r : Rp K Fz w d) (P : Post K mg W b Fz σ Q (appA x d δ)) : rAppend v [w] H Q := by
  cases x with
  | val e => exact P.elim
  | tmp s => exact P.elim
  | ref i =>
    have hv : σ[i]? = some (some v) := A
    have P : Post K mg W b Fz σ Q (appI i d δ) := P
    unfold appI at P
    cases q : δ[i]? with
    | none => simp only [q] at P; exact P.elim
    | some s =>
      cases s with
      | ol xs =>
        simp only [q] at P
        by_cases c : xs.length ≤ cap
        · rw [if_pos c] at P
          obtain ⟨l, vs, g, e1, e2, e3, e4, e5⟩ := R.own q hv
          subst e1
          have e6 : ElL K Fz H (g ++ ([] ++ [])) (vs ++ [w]) (xs ++ [.fz d]) := e3.app (.cons ⟨rfl, r⟩ .nil)
          rw [List.append_nil, List.append_nil] at e6
          have R' := R.mut q hv e6 e5 (fun a ha => by rw [e4]; exact List.mem_cons_of_mem _ ha)
          exact ⟨l, vs, w, rfl, rfl, e2, by rw [e3.len]; exact lt_line c, P .non _ Fz _ (Same.refl _) R' .non⟩
        · rw [if_neg c] at P
          exact P.elim
      | _ => simp only [q] at P; exact P.elim
end
section
variable {X : Cx} {W : WX} {pin : List Nat} {fo fa : List Sl → Rs AV} {o e : Expr} {apos cpos : Pos}
theorem se_app (ho : SE X W pin o fo) (ha : SE X W pin e fa) (hbase : attributeBase o "append" X.env (eval o X.env) = eval o X.env := by rfl) (hline : (apos.endLine == cpos.line) = true := by rfl)
    (hs : starEach [e] X.env = (false, eval e X.env) :: starEach [] X.env := by rfl) (hfew : ((backTo cpos (starEach [e] X.env)).all (fun x => !x.1) && (backToKw cpos (keywordEach [] X.env)).all (fun x => x.1.isSome)
      && decide ([e].length + ([] : List Keyword).length + (if ([] : List Keyword).isEmpty then 0 else 1) < 30)) = true := by rfl) :
    SE X W pin (.Call (.Attribute o "append" apos) [e] [] cpos) (sApp fo fa) :=
  pe_mono (pe_bm PySem.F.plainAttrs_list PySem.F.slot_list_append PySem.F.type_list_append mt_append (se_st ho) (pa_cons (se_tk ha) pa_nil hs) hbase hfew hline hs rfl) fun σ H Q ⟨b, Fz, F, δ, hp, R, P⟩ => by
    refine rd_bind hp R P fun v H1 Fz1 F1 x δ1 s1 R1 A1 P1 => ?_
    by_cases c : isLst δ1 x = true
    · rw [if_pos c] at P1
      refine ⟨isLst_ty R1 A1 c, ?_⟩
      refine rd_val hp R1 P1 fun w H2 Fz2 F2 d δ2 s2 R2 A2 P2 => ?_
      exact app_ok R2 (A1.le s2) A2 P2
    · rw [if_neg c] at P1
      exact P1.elim
/-- xs.pop(i) -/
def popI (i : Nat) (k : Int) (δ : List Sl) : Rs AV := match δ[i]? with
  | some (.ol xs) => (match allFz xs with
    | some ds => (match ixN ds.length k with
      | some j => (match ds[j]? with
        | some d => if ds.length ≤ cap then .ok (.val d) (upS i (.ol ((ds.eraseIdx j).map .fz)) δ) else .bad
        | none => .bad)
      | none => .bad)
    | none => .bad)
  | _ => .bad
def sPop1 (fo fa : List Sl → Rs AV) : List Sl → Rs AV := fun δ => (sSt fo δ).bind fun x δ1 => if isLst δ1 x = true then (sTk fa δ1).val fun d δ2 => match x, d with
  | .ref i, .int k => popI i k δ2
  | _, _ => .bad
  else .bad
theorem pop_ok {K : PySem.W.Frag} {mg : Str → Option Value} {b : Bk} {Fz : Hp} {F : Nat → List Addr} {δ : List Sl} {σ : L2.St} {H : Hp} {Q : VK} {v : V} {i : Nat} {k : Int} (R : Rl K b Fz F δ σ H) (hv : σ[i]? = some (some v)) (P : Post K mg W b Fz σ Q (popI i k δ)) :
    ∃ l vs j u, v = .ref l ∧ H l = some (.lst vs) ∧ ixN vs.length k = some j ∧ vs[j]? = some u ∧ vs.length ≤ cap ∧ Q u (upd H l (.lst (vs.eraseIdx j))) := by
  unfold popI at P
  cases q : δ[i]? with
  | none => simp only [q] at P; exact P.elim
  | some s =>
    cases s with
    | ol xs =>
      simp only [q] at P
      cases q2 : allFz xs with
      | none => simp only [q2] at P; exact P.elim
      | some ds =>
        simp only [q2] at P
        cases q3 : ixN ds.length k with
        | none => simp only [q3] at P; exact P.elim
        | some j =>
          simp only [q3] at P
          cases q4 : ds[j]? with
          | none => simp only [q4] at P; exact P.elim
          | some d =>
            simp only [q4] at P
            by_cases c : ds.length ≤ cap
            · rw [if_pos c] at P
              obtain ⟨l, vs, g, e1, e2, e3, e4, e5⟩ := R.own q hv
              subst e1
              have rp := e3.allFz q2
              obtain ⟨u, hu, ru⟩ := rp.get q4
              have R' := R.mut (g := []) q hv (ElL.ofFz (rp.eraseIdx j)) (by simp) (fun a ha => nomatch ha)
              exact ⟨l, vs, j, u, rfl, e2, by rw [rp.len]; exact q3, hu, by rw [rp.len]; exact c, P u _ Fz _ (Same.refl _) R' ru⟩
            · rw [if_neg c] at P
              exact P.elim
    | _ => simp only [q] at P; exact P.elim
theorem se_pop1 (ho : SE X W pin o fo) (ha : SE X W pin e fa) (hbase : attributeBase o "pop" X.env (eval o X.env) = eval o X.env := by rfl) (hline : (apos.endLine == cpos.line) = true := by rfl)
    (hs : starEach [e] X.env = (false, eval e X.env) :: starEach [] X.env := by rfl) (hfew : ((backTo cpos (starEach [e] X.env)).all (fun x => !x.1) && (backToKw cpos (keywordEach [] X.env)).all (fun x => x.1.isSome)
      && decide ([e].length + ([] : List Keyword).length + (if ([] : List Keyword).isEmpty then 0 else 1) < 30)) = true := by rfl) :
    SE X W pin (.Call (.Attribute o "pop" apos) [e] [] cpos) (sPop1 fo fa) :=
  pe_mono (pe_bm PySem.F.plainAttrs_list PySem.F.slot_list_pop PySem.F.type_list_pop mt_popAt (se_st ho) (pa_cons (se_tk ha) pa_nil hs) hbase hfew hline hs rfl) fun σ H Q ⟨b, Fz, F, δ, hp, R, P⟩ => by
    refine rd_bind hp R P fun v H1 Fz1 F1 x δ1 s1 R1 A1 P1 => ?_
    by_cases c : isLst δ1 x = true
    · rw [if_pos c] at P1
      refine ⟨isLst_ty R1 A1 c, ?_⟩
      refine rd_val hp R1 P1 fun w H2 Fz2 F2 d δ2 s2 R2 A2 P2 => ?_
      cases x with
      | val e => exact P2.elim
      | tmp s => exact P2.elim
      | ref i =>
        cases d with
        | int k =>
          cases (show Rp X.K Fz2 w (.int k) from A2)
          obtain ⟨l, vs, j, u, e1, e2, e3, e4, e5, e6⟩ := pop_ok R2 (show σ[i]? = some (some v) from A1) P2
          obtain ⟨k1, k2, k3, k4⟩ := ixN_seq e3
          have : vs.length ≤ 1000000 := e5
          exact ⟨l, vs, k, j, u, e1, rfl, e2, by omega, by omega, k1, e4, e6⟩
        | _ => exact P2.elim
    · rw [if_neg c] at P1
      exact P1.elim
end
inductive Ot where
  | nx (δ : List Sl) | rt (s : Sl) (δ : List Sl) | bk (δ : List Sl) | ct (δ : List Sl) | er (x : Exn) (δ : List Sl) | bad
section
variable (K : PySem.W.Frag) (mg : Str → Option Value) (W : WX)
def PostXS (b : Bk) (Fz : Hp) (x : Exn) (δ : List Sl) : Prop := ∀ c dd σ' H' Fz' F', Same Fz Fz' → Rl K b Fz' F' δ σ' H' → ExR K mg Fz' H' x c dd → W c dd σ' H'
def PostS (b : Bk) (Fz : Hp) (D : Ends) : Ot → Prop
  | .nx δ => ∀ σ' H' Fz' F', Same Fz Fz' → Rl K b Fz' F' δ σ' H' → D.nx σ' H'
  | .rt s δ => ∀ v σ' H' Fz' F', Same Fz Fz' → Rl K b Fz' F' δ σ' H' → AvR K b Fz' F' H' σ' v (.tmp s) → D.rt v H'
  | .bk δ => ∀ σ' H' Fz' F', Same Fz Fz' → Rl K b Fz' F' δ σ' H' → D.bk σ' H'
  | .ct δ => ∀ σ' H' Fz' F', Same Fz Fz' → Rl K b Fz' F' δ σ' H' → D.ct σ' H'
  | .er x δ => PostXS K mg W b Fz x δ
  | .bad => False
def rdS (pin : List Nat) (f : List Sl → Ot) : TS := fun D σ H => ∃ b Fz F δ, b.pin = pin ∧ Rl K b Fz F δ σ H ∧ PostS K mg W b Fz D (f δ)
end
abbrev SS (X : Cx) (W : WX) (pin : List Nat) (st : Stmt) (f : List Sl → Ot) : Prop := PS X st (rdS X.K X.mg W pin f)
abbrev SSs (X : Cx) (W : WX) (pin : List Nat) (st : List Stmt) (f : List Sl → Ot) : Prop := PSs X st (rdS X.K X.mg W pin f)
theorem ps_mono {X : Cx} {st : Stmt} {t t' : TS} (h : PS X st t) (i : ∀ D σ H, t' D σ H → t D σ H) : PS X st t' := ⟨fun pins s σ H D I q => h.run pins s σ H D I (i D σ H q)⟩
theorem pss_mono {X : Cx} {st : List Stmt} {t t' : TS} (h : PSs X st t) (i : ∀ D σ H, t' D σ H → t D σ H) : PSs X st t' := ⟨fun pins s σ H D I q => h.run pins s σ H D I (i D σ H q)⟩
def Rs.ot {α : Type} (r : Rs α) (k : α → List Sl → Ot) : Ot := match r with
  | .ok a δ => k a δ
  | .er x δ => .er x δ
  | .bad => .bad
def oNext : List Sl → Ot := fun δ => .nx δ
def oSeq (f g : List Sl → Ot) : List Sl → Ot := fun δ => match f δ with
  | .nx δ' => g δ'
  | r => r
def oIf (t : List Sl → Rs Bool) (f g : List Sl → Ot) : List Sl → Ot := fun δ => (t δ).ot fun k δ' => if k = true then f δ' else g δ'
def oDrop (f : List Sl → Rs AV) : List Sl → Ot := fun δ => (f δ).ot fun _ δ' => .nx δ'
def oRet (f : List Sl → Rs AV) : List Sl → Ot := fun δ => (sMv f δ).ot fun a δ' => match a with
  | .val d => .rt (.fz d) δ'
  | .tmp s => .rt s δ'
  | .ref _ => .bad
section
variable {K : PySem.W.Frag} {mg : Str → Option Value} {W : WX} {pin : List Nat} {b : Bk} {Fz Fz1 : Hp}
theorem PostXS.le {x : Exn} {δ : List Sl} (s : Same Fz Fz1) (p : PostXS K mg W b Fz x δ) : PostXS K mg W b Fz1 x δ := fun c dd σ' H' Fz' F' s' R e => p c dd σ' H' Fz' F' (s.trans s') R e
theorem PostXS.at_ {x : Exn} {δ : List Sl} {σ : L2.St} (p : PostXS K mg W b Fz x δ) : PostX K mg W b Fz σ x δ := fun c dd H' Fz' F' s' R e => p c dd σ H' Fz' F' s' R e
theorem PostS.le {D : Ends} {r : Ot} (s : Same Fz Fz1) (p : PostS K mg W b Fz D r) : PostS K mg W b Fz1 D r := by
  cases r with
  | nx δ => exact fun σ' H' Fz' F' s' R => p σ' H' Fz' F' (s.trans s') R
  | rt t δ => exact fun v σ' H' Fz' F' s' R A => p v σ' H' Fz' F' (s.trans s') R A
  | bk δ => exact fun σ' H' Fz' F' s' R => p σ' H' Fz' F' (s.trans s') R
  | ct δ => exact fun σ' H' Fz' F' s' R => p σ' H' Fz' F' (s.trans s') R
  | er x δ => exact PostXS.le s p
  | bad => exact p
/-- behind an expression -/
theorem rdS_bind {f : List Sl → Rs AV} {σ : L2.St} {H : Hp} {F : Nat → List Addr} {δ : List Sl} {k : AV → List Sl → Ot} {D : Ends} {R : VK} (hp : b.pin = pin) (Rr : Rl K b Fz F δ σ H) (P : PostS K mg W b Fz D ((f δ).ot k))
    (h : ∀ v H' Fz' F' a δ', Same Fz Fz' → Rl K b Fz' F' δ' σ H' → AvR K b Fz' F' H' σ v a → PostS K mg W b Fz' D (k a δ') → R v H') : rdE K mg W pin f σ H R := by
  refine ⟨b, Fz, F, δ, hp, Rr, ?_⟩
  cases q : f δ with
  | bad => rw [q] at P; exact P
  | er x δ' => rw [q] at P; exact PostXS.at_ P
  | ok a δ' =>
    rw [q] at P
    exact fun v H' Fz' F' s R' A => h v H' Fz' F' a δ' s R' A (PostS.le s P)
theorem rdS_bindT {t : List Sl → Rs Bool} {σ : L2.St} {H : Hp} {F : Nat → List Addr} {δ : List Sl} {k : Bool → List Sl → Ot} {D : Ends} {R : Bool → Hp → Prop} (hp : b.pin = pin) (Rr : Rl K b Fz F δ σ H) (P : PostS K mg W b Fz D ((t δ).ot k))
    (h : ∀ c H' Fz' F' δ', Same Fz Fz' → Rl K b Fz' F' δ' σ H' → PostS K mg W b Fz' D (k c δ') → R c H') : rdT K mg W pin t σ H R := by
  refine ⟨b, Fz, F, δ, hp, Rr, ?_⟩
  cases q : t δ with
  | bad => rw [q] at P; exact P
  | er x δ' => rw [q] at P; exact PostXS.at_ P
  | ok a δ' =>
    rw [q] at P
    exact fun H' Fz' F' s R' => h a H' Fz' F' δ' s R' (PostS.le s P)
end
section
variable {X : Cx} {W : WX} {pin : List Nat} {st : Stmt} {rest : List Stmt} {e c : Expr} {pos : Pos} {f : List Sl → Rs AV} {t : List Sl → Rs Bool} {u w : List Sl → Ot}
theorem ss_nil : SSs X W pin [] oNext := pss_mono pss_nil fun D σ H ⟨b, Fz, F, δ, hp, R, P⟩ => P σ H Fz F (Same.refl _) R
theorem seq_ok {K : PySem.W.Frag} {mg : Str → Option Value} : ∀ D σ H, rdS K mg W pin (oSeq u w) D σ H → tSeq (rdS K mg W pin u) (rdS K mg W pin w) D σ H := fun D σ H ⟨b, Fz, F, δ, hp, R, P⟩ => by
  refine ⟨b, Fz, F, δ, hp, R, ?_⟩
  unfold oSeq at P
  cases q : u δ with
  | nx δ' =>
    rw [q] at P
    exact fun σ' H' Fz' F' s R' => ⟨b, Fz', F', δ', hp, R', PostS.le s P⟩
  | rt s δ' => rw [q] at P; exact P
  | bk δ' => rw [q] at P; exact P
  | ct δ' => rw [q] at P; exact P
  | er x δ' => rw [q] at P; exact P
  | bad => rw [q] at P; exact P
theorem ss_cons (h1 : SS X W pin st u) (h2 : SSs X W pin rest w) : SSs X W pin (st :: rest) (oSeq u w) := pss_mono (pss_cons h1 h2) seq_ok
theorem ss_one (h1 : SS X W pin st u) : SSs X W pin [st] u := pss_one h1
theorem ss_expr (h : SE X W pin e f) (hs : swapsWith e none pos.line X.env = pure false := by rfl) : SS X W pin (.Expr e pos) (oDrop f) := ps_mono (ps_expr h hs) fun D σ H ⟨b, Fz, F, δ, hp, R, P⟩ =>
  rdS_bind hp R P fun v H' Fz' F' a δ' s R' A P' => P' σ H' Fz' F' (Same.refl _) R'
theorem ss_ret (h : SE X W pin e f) : SS X W pin (.Return (some e) pos) (oRet f) := ps_mono (ps_ret (se_mv h)) fun D σ H ⟨b, Fz, F, δ, hp, R, P⟩ =>
  rdS_bind hp R P fun v H' Fz' F' a δ' s R' A P' => by
    cases a with
    | val d => exact P' v σ H' Fz' F' (Same.refl _) R' ⟨rfl, [], ⟨rfl, v, rfl, A⟩, List.nodup_nil, fun _ z => nomatch z⟩
    | tmp s => exact P' v σ H' Fz' F' (Same.refl _) R' A
    | ref i => exact P'.elim
theorem ss_if {a d : List Stmt} (hc : ST X W pin c t) (ha : SSs X W pin a u) (hb : SSs X W pin d w) : SS X W pin (.If c a d pos) (oIf t u w) := ps_mono (ps_if hc ha hb) fun D σ H ⟨b, Fz, F, δ, hp, R, P⟩ =>
  rdS_bindT hp R P fun k H' Fz' F' δ' s R' P' => by
    by_cases e : k = true
    · rw [if_pos e] at P' ⊢
      exact ⟨b, Fz', F', δ', hp, R', P'⟩
    · rw [if_neg e] at P' ⊢
      exact ⟨b, Fz', F', δ', hp, R', P'⟩
def oWh (t : List Sl → Rs Bool) (f : List Sl → Ot) : Nat → List Sl → Ot
  | 0, _ => .bad
  | n + 1, δ => (t δ).ot fun k δ1 => if k = true then (match f δ1 with
    | .nx δ2 => oWh t f n δ2
    | .ct δ2 => oWh t f n δ2
    | .bk δ2 => .nx δ2
    | r => r) else .nx δ1
theorem ss_while (n : Nat) {body : List Stmt} (hp : PassesOwn (model X.prog X.w) X.A X.env X.xe) (hc : ST X W pin c t) (hb : SSs X W pin body u) : SS X W pin (.While c body [] pos) (oWh t u n) := ps_mono (ps_while hp hc hb) fun D σ H ⟨b, Fz, F, δ, hpin, R, P⟩ => by
  refine ⟨fun m σ H => ∃ Fz F δ, Rl X.K b Fz F δ σ H ∧ PostS X.K X.mg W b Fz D (oWh t u m δ), ⟨n, Fz, F, δ, R, P⟩, ?_⟩
  rintro m σ1 H1 ⟨Fz1, F1, δ1, R1, P1⟩
  cases m with
  | zero => exact P1.elim
  | succ m =>
    refine rdS_bindT hpin R1 P1 fun k H' Fz' F' δ' s R' P' => ?_
    by_cases e : k = true
    · rw [if_pos e] at P' ⊢
      refine ⟨fun σ H => ∃ Fz F δ, Rl X.K b Fz F δ σ H ∧ PostS X.K X.mg W b Fz D (oWh t u m δ), fun σ2 H2 h => ⟨m, Nat.lt_succ_self m, h⟩, b, Fz', F', δ', hpin, R', ?_⟩
      cases q : u δ' with
      | nx δ2 => rw [q] at P'; exact fun σ3 H3 Fz3 F3 s3 R3 => ⟨Fz3, F3, δ2, R3, PostS.le s3 P'⟩
      | ct δ2 => rw [q] at P'; exact fun σ3 H3 Fz3 F3 s3 R3 => ⟨Fz3, F3, δ2, R3, PostS.le s3 P'⟩
      | bk δ2 => rw [q] at P'; exact P'
      | rt s δ2 => rw [q] at P'; exact P'
      | er x δ2 => rw [q] at P'; exact P'
      | bad => rw [q] at P'; exact P'
    · rw [if_neg e] at P' ⊢
      exact P' σ1 H' Fz' F' (Same.refl _) R'
end
end Hb
namespace Hb
open PySem PySem.Spec PyProof.Rows L2
/-- only the slots ts were stored -/
def Stored (ts : List Nat) (σ σ' : L2.St) : Prop := σ'.length = σ.length ∧ ∀ k, k ∉ ts → σ'[k]? = σ[k]?
theorem Stored.refl (ts : List Nat) (σ : L2.St) : Stored ts σ σ := ⟨rfl, fun _ _ => rfl⟩
section
variable (K : PySem.W.Frag) (mg : Str → Option Value) (W : WX)
def PostG (b : Bk) (Fz : Hp) (ts : List Nat) (σ : L2.St) (Q : L2.St → Hp → Prop) : Rs Unit → Prop
  | .ok _ δ => ∀ σ' H' Fz' F', Same Fz Fz' → Rl K b Fz' F' δ σ' H' → Stored ts σ σ' → Q σ' H'
  | .er x δ => PostXS K mg W b Fz x δ
  | .bad => False
def rdG (pin ts : List Nat) (t : AV → List Sl → Rs Unit) : TG := fun v σ H Q => ∃ b Fz F δ a, b.pin = pin ∧ Rl K b Fz F δ σ H ∧ AvR K b Fz F H σ v a ∧ PostG K mg W b Fz ts σ Q (t a δ)
def rdGs (pin ts : List Nat) (t : List PyData → List Sl → Rs Unit) : TGs := fun vs σ H Q => ∃ b Fz F δ ds, b.pin = pin ∧ Rl K b Fz F δ σ H ∧ RpL K Fz vs ds ∧ PostG K mg W b Fz ts σ Q (t ds δ)
end
abbrev SG (X : Cx) (W : WX) (pin ts : List Nat) (e : Expr) (t : AV → List Sl → Rs Unit) : Prop := PG X e (rdG X.K X.mg W pin ts t)
abbrev SGs (X : Cx) (W : WX) (pin ts : List Nat) (es : List Expr) (t : List PyData → List Sl → Rs Unit) : Prop := PGs X es (rdGs X.K X.mg W pin ts t)
theorem pg_mono {X : Cx} {e : Expr} {t t' : TG} (h : PG X e t) (i : ∀ v σ H Q, t' v σ H Q → t v σ H Q) : PG X e t' := ⟨fun pins s σ H v u Q I r q => h.run pins s σ H v u Q I r (i v σ H Q q)⟩
theorem pgs_mono {X : Cx} {e : List Expr} {t t' : TGs} (h : PGs X e t) (i : ∀ v σ H Q, t' v σ H Q → t v σ H Q) : PGs X e t' := ⟨fun pins s σ H v u Q I r q => h.run pins s σ H v u Q I r (i v σ H Q q)⟩
def tgN (i : Nat) (a : AV) (δ : List Sl) : Rs Unit := match a with
  | .val d => .ok () (upS i (.fz d) δ)
  | .tmp s => .ok () (upS i s δ)
  | .ref _ => .bad
def tgNil (ds : List PyData) (δ : List Sl) : Rs Unit := match ds with
  | [] => .ok () δ
  | _ => .bad
def tgCons (t : AV → List Sl → Rs Unit) (u : List PyData → List Sl → Rs Unit) (ds : List PyData) (δ : List Sl) : Rs Unit := match ds with
  | [] => .bad
  | d :: ds => (t (.val d) δ).bind fun _ δ' => u ds δ'
def tgT (n : Nat) (u : List PyData → List Sl → Rs Unit) (a : AV) (δ : List Sl) : Rs Unit := match a with
  | .val (.tuple ds) => if ds.length = n then u ds δ else .bad
  | _ => .bad
section
variable {K : PySem.W.Frag} {mg : Str → Option Value} {W : WX} {pin ts us : List Nat}
theorem PostG.le {b : Bk} {Fz Fz1 : Hp} {σ : L2.St} {Q : L2.St → Hp → Prop} {r : Rs Unit} (s : Same Fz Fz1) (p : PostG K mg W b Fz ts σ Q r) : PostG K mg W b Fz1 ts σ Q r := by
  cases r with
  | ok a δ => exact fun σ' H' Fz' F' s' R e => p σ' H' Fz' F' (s.trans s') R e
  | er x δ => exact PostXS.le s p
  | bad => exact p
theorem upd_slot {σ : L2.St} {i k : Nat} {v : V} (h : k ≠ i) : (σ.set i (some v))[k]? = σ[k]? := List.getElem?_set_ne (Ne.symm h)
/-- a name gets a value -/
theorem Rl.name {b : Bk} {Fz : Hp} {F : Nat → List Addr} {δ : List Sl} {σ : L2.St} {H : Hp} {i : Nat} {v : V} {s : Sl} {g : List Addr} (R : Rl K b Fz F δ σ H) (hi : i ∉ b.pin) (ht : s.tree.isSome = true) (hs : SlH K Fz H [] g (some v) s) (hn : g.Nodup)
    (hg : ∀ a ∈ g, Fz a = none ∧ b.B a = none ∧ H a ≠ none ∧ ∀ i, a ∉ F i) : Rl K b Fz (fun k => if k = i then g else F k) (upS i s δ) (σ.set i (some v)) H := by
  refine R.put (Same.refl _) R.le R.base (List.length_set) (fun k hk => upd_slot hk) (.inr hi) (fun hlt => ?_) (fun x j z => by subst z; cases ht) hn (fun a ha => (hg a ha).1) (fun a ha => (hg a ha).2.1) (fun a ha k _ => (hg a ha).2.2.2 k) (fun a ha => (hg a ha).2.2.1) (fun _ _ _ _ => rfl) (fun k _ a ha => R.offF k a ha) (fun _ _ => rfl)
  rw [List.getElem?_set_self (by rw [R.len]; exact hlt)]
  cases s with
  | no => cases ht
  | al x j => cases ht
  | fz d => exact hs
  | ol xs => exact hs
  | od kvs => exact hs
theorem tgN_ok {b : Bk} {Fz : Hp} {F : Nat → List Addr} {δ : List Sl} {σ : L2.St} {H : Hp} {i : Nat} {v : V} {a : AV} {Q : L2.St → Hp → Prop} (hi : i ∈ ts) (hpin : i ∉ b.pin) (R : Rl K b Fz F δ σ H) (A : AvR K b Fz F H σ v a) (P : PostG K mg W b Fz ts σ Q (tgN i a δ)) : Q (σ.set i (some v)) H := by
  have fr : Stored ts σ (σ.set i (some v)) := ⟨List.length_set, fun k hk => upd_slot fun z => hk (by rw [z]; exact hi)⟩
  cases a with
  | val d => exact P _ H Fz _ (Same.refl _) (R.name hpin rfl (g := []) ⟨rfl, v, rfl, A⟩ List.nodup_nil fun _ z => nomatch z) fr
  | tmp s =>
    obtain ⟨ht, g, h1, h2, h3⟩ := A
    exact P _ H Fz _ (Same.refl _) (R.name hpin ht h1 h2 h3) fr
  | ref j => exact P.elim
end
section
variable {X : Cx} {W : WX} {pin ts us : List Nat} {pos : Pos}
theorem sg_name (i : Nat) {x : Str} (hN : X.N.Nodup) (hi : X.N[i]? = some x) (hx : Loc X.env.scope x) (hp : i ∉ pin) (hf : X.fn x = true ∨ X.env.scope.names.lookup x = some .local := by first | exact .inl rfl | exact .inr rfl | assumption) : SG X W pin [i] (.Name x pos) (tgN i) :=
  pg_mono (pg_name hN hi hx hf) fun v σ H Q ⟨b, Fz, F, δ, a, hpin, R, A, P⟩ => tgN_ok (List.mem_singleton.mpr rfl) (by rw [hpin]; exact hp) R A P
theorem sgs_nil : SGs X W pin [] [] tgNil := pgs_mono pgs_nil fun vs σ H Q ⟨b, Fz, F, δ, ds, hpin, R, A, P⟩ => by
  cases A with
  | nil => exact ⟨rfl, P σ H Fz F (Same.refl _) R (Stored.refl _ _)⟩
  | cons h t => exact P.elim
theorem sgs_cons {e : Expr} {es : List Expr} {t : AV → List Sl → Rs Unit} {u : List PyData → List Sl → Rs Unit} (h1 : SG X W pin ts e t) (h2 : SGs X W pin us es u)
    (hs : (assignEach (e :: es) X.env).map (·.2) = assign e X.env :: (assignEach es X.env).map (·.2) := by rfl) : SGs X W pin (ts ++ us) (e :: es) (tgCons t u) := pgs_mono (pgs_cons h1 h2 hs) fun vs σ H Q ⟨b, Fz, F, δ, ds, hpin, R, A, P⟩ => by
  cases A with
  | nil => exact P.elim
  | @cons v0 vs0 d ds h r =>
    refine ⟨_, _, rfl, b, Fz, F, δ, .val d, hpin, R, h, ?_⟩
    have P : PostG X.K X.mg W b Fz (ts ++ us) σ Q ((t (.val d) δ).bind fun _ δ' => u ds δ') := P
    cases q : t (.val d) δ with
    | bad => rw [q] at P; exact P
    | er x δ' => rw [q] at P; exact P
    | ok a δ' =>
      rw [q] at P
      have P : PostG X.K X.mg W b Fz (ts ++ us) σ Q (u ds δ') := P
      intro σ1 H1 Fz1 F1 s1 R1 fr1
      refine ⟨b, Fz1, F1, δ', ds, hpin, R1, r.mono s1, ?_⟩
      cases q2 : u ds δ' with
      | bad => rw [q2] at P; exact P
      | er x δ2 => rw [q2] at P; exact PostXS.le s1 P
      | ok a δ2 =>
        rw [q2] at P
        exact fun σ2 H2 Fz2 F2 s2 R2 fr2 => P σ2 H2 Fz2 F2 (s1.trans s2) R2 ⟨fr2.1.trans fr1.1, fun k hk => (fr2.2 k fun z => hk (List.mem_append_right _ z)).trans (fr1.2 k fun z => hk (List.mem_append_left _ z))⟩
theorem sg_tup {es : List Expr} {k n : Nat} {u : List PyData → List Sl → Rs Unit} (hc : X.calm = true) (h : SGs X W pin ts es u)
    (hn : (assignEach es X.env).length = n := by rfl) (hst : (assignEach es X.env).findIdx? (·.1) = none := by rfl) : SG X W pin ts (.Tuple es k pos) (tgT n u) := pg_mono (pg_tup hc h hn hst) fun v σ H Q ⟨b, Fz, F, δ, a, hpin, R, A, P⟩ => by
  cases a with
  | tmp s => exact P.elim
  | ref i => exact P.elim
  | val d =>
    cases d with
    | tuple ds =>
      have P : PostG X.K X.mg W b Fz ts σ Q (if ds.length = n then u ds δ else .bad) := P
      by_cases c : ds.length = n
      · rw [if_pos c] at P
        cases (show Rp X.K Fz v (.tuple ds) from A) with
        | tup h1 h2 => exact ⟨_, _, rfl, SqT.of (R.le _ _ h1), by rw [h2.len]; exact c, b, Fz, F, δ, ds, hpin, R, h2, P⟩
      · rw [if_neg c] at P
        exact P.elim
    | _ => exact P.elim
def Rs.otU (r : Rs Unit) : Ot := match r with
  | .ok _ δ => .nx δ
  | .er x δ => .er x δ
  | .bad => .bad
def oAsg (f : List Sl → Rs AV) (t : AV → List Sl → Rs Unit) : List Sl → Ot := fun δ => (f δ).ot fun a δ' => (t a δ').otU
theorem asg_ok {K : PySem.W.Frag} {mg : Str → Option Value} {f : List Sl → Rs AV} {t : AV → List Sl → Rs Unit} : ∀ D σ H, rdS K mg W pin (oAsg f t) D σ H → tAsg (rdE K mg W pin f) (rdG K mg W pin ts t) D σ H := fun D σ H ⟨b, Fz, F, δ, hp, R, P⟩ => by
  refine rdS_bind hp R P fun v H' Fz' F' a δ' s R' A P' => ?_
  refine ⟨b, Fz', F', δ', a, hp, R', A, ?_⟩
  cases q : t a δ' with
  | bad => rw [q] at P'; exact P'
  | er x δ2 => rw [q] at P'; exact P'
  | ok u δ2 =>
    rw [q] at P'
    exact fun σ2 H2 Fz2 F2 s2 R2 _ => P' σ2 H2 Fz2 F2 s2 R2
theorem ss_set (i : Nat) {x : Str} {e : Expr} {f : List Sl → Rs AV} {pos' : Pos} (hN : X.N.Nodup) (hi : X.N[i]? = some x) (hx : Loc X.env.scope x) (hp : i ∉ pin) (he : SE X W pin e f) (hs : swapsWith e (some (.Name x pos')) pos.line X.env = pure false := by rfl) (hf : X.fn x = true ∨ X.env.scope.names.lookup x = some .local := by first | exact .inl rfl | exact .inr rfl | assumption) :
    SS X W pin (.Assign [.Name x pos'] e pos) (oAsg f (tgN i)) := ps_mono (ps_set hN hi hx he hs hf) fun D σ H h => by
  obtain ⟨b, Fz, F, δ, hpin, R, P⟩ := h
  refine rdS_bind hpin R P fun v H' Fz' F' a δ' s R' A P' => ?_
  refine tgN_ok (K := X.K) (mg := X.mg) (W := W) (b := b) (ts := [i]) (List.mem_singleton.mpr rfl) (by rw [hpin]; exact hp) R' A ?_
  cases q : tgN i a δ' with
  | bad => rw [q] at P'; exact P'
  | er x δ2 => rw [q] at P'; exact P'
  | ok u δ2 =>
    rw [q] at P'
    exact fun σ2 H2 Fz2 F2 s2 R2 _ => P' σ2 H2 Fz2 F2 s2 R2
theorem ss_asg {tg e : Expr} {f : List Sl → Rs AV} {t : AV → List Sl → Rs Unit} (he : SE X W pin e f) (hg : SG X W pin ts tg t) (hs : swapsWithSole [tg] e pos.line X.env = pure false := by rfl) (hw : swappedStores [tg] e X.env = pure none := by rfl)
    (h1 : (assignEach [tg] X.env).map (·.2) = [assign tg X.env] := by rfl) : SS X W pin (.Assign [tg] e pos) (oAsg f t) := ps_mono (ps_asg he hg hs hw h1) asg_ok
/-- x[i] = v -/
def setA (x y : AV) (d : PyData) (δ : List Sl) : Rs Unit := match x, rdC δ y with
  | .ref k, some (.int i) => (match δ[k]? with
    | some (.ol xs) => (match ixN xs.length i with
      | some j => (match allFz xs with
        | some ds => .ok () (upS k (.ol ((ds.set j d).map .fz)) δ)
        | none => .bad)
      | none => .bad)
    | some (.al x j) => (match δ[x]? with
      | some (.ol es) => (match es[j]? with
        | some (.ow ys) => (match ixN ys.length i with
          | some m => .ok () (δ.set x (.ol (es.set j (.ow (ys.set m d)))))
          | none => .bad)
        | _ => .bad)
      | _ => .bad)
    | _ => .bad)
  | _, _ => .bad
def tgS (fo fi : List Sl → Rs AV) (a : AV) (δ : List Sl) : Rs Unit := match a with
  | .val d => (sSt fo δ).bind fun x δ1 => (sSt fi δ1).bind fun y δ2 => setA x y d δ2
  | _ => .bad
theorem ElL.set_ow {K : PySem.W.Frag} {Fz H : Hp} {a : Addr} {ws : List V} {ys : List PyData} (hr : RpL K Fz ws ys) : ∀ {f : List Addr} {vs : List V} {es : List El} {j : Nat} {xs : List PyData}, ElL K Fz H f vs es → f.Nodup → es[j]? = some (.ow xs) → vs[j]? = some (.ref a) →
    a ∈ f ∧ ElL K Fz (upd H a (.lst ws)) f vs (es.set j (.ow ys))
  | _, _, _, _, _, .nil, _, e, _ => by simp at e
  | _, _, _, 0, xs, .cons (f := f) (g := g) (v := v) h t, nd, e, e2 => by
    simp at e e2
    subst e e2
    obtain ⟨a', us, e3, e4, e5, e6⟩ := h
    cases e3
    subst e4
    rw [List.nodup_append] at nd
    refine ⟨by simp, .cons ⟨a, ws, rfl, rfl, upd_same, hr⟩ (t.keeps (Same.refl _) fun c hc => upd_ne fun z => ?_)⟩
    subst z
    exact nd.2.2 c (by simp) c hc rfl
  | _, _, _, j + 1, xs, .cons (f := f) (g := g) (v := v) (e := e0) h t, nd, e, e2 => by
    rw [List.nodup_append] at nd
    obtain ⟨h1, h2⟩ := ElL.set_ow hr t nd.2.1 (by simpa using e) (by simpa using e2)
    refine ⟨List.mem_append_right _ h1, .cons (h.keeps (Same.refl _) fun c hc => upd_ne fun z => ?_) h2⟩
    subst z
    exact nd.2.2 c hc c h1 rfl
/-- a row of a list of one's own changes -/
theorem Rl.row {K : PySem.W.Frag} {b : Bk} {Fz : Hp} {F : Nat → List Addr} {δ : List Sl} {σ : L2.St} {H : Hp} (R : Rl K b Fz F δ σ H) {x j : Nat} {es : List El} {xs ys : List PyData} {l a : Addr} {vs ws : List V}
    (hs : δ[x]? = some (.ol es)) (hv : σ[x]? = some (some (.ref l))) (hl : H l = some (.lst vs)) (hj : es[j]? = some (.ow xs)) (ha : vs[j]? = some (.ref a)) (hr : RpL K Fz ws ys) : Rl K b Fz F (δ.set x (.ol (es.set j (.ow ys)))) σ (upd H a (.lst ws)) := by
  obtain ⟨l', vs', g, e1, e2, e3, e4⟩ := R.slot x _ hs
  rw [hv] at e1
  cases e1
  rw [hl] at e3
  cases e3
  have nd := R.nd x
  rw [e2] at nd
  obtain ⟨nl, ng⟩ := List.nodup_cons.mp nd
  obtain ⟨h1, h2⟩ := ElL.set_ow hr e4 ng hj ha
  have hal : a ≠ l := fun z => nl (by rw [← z]; exact h1)
  have haF : a ∈ F x := by rw [e2]; exact List.mem_cons_of_mem _ h1
  have hlF : l ∈ F x := by rw [e2]; exact List.mem_cons_self
  have xl : x < δ.length := (List.getElem?_eq_some_iff.mp hs).1
  have ne : ∀ c, Fz c ≠ none → c ≠ a := fun c hc z => hc (by rw [z]; exact R.offF x a haF)
  have neB : ∀ c, b.B c ≠ none → c ≠ a := fun c hc z => hc (by rw [z]; exact R.offB x a haF)
  refine ⟨fun c o e => ?_, fun c o e => ?_, by rw [List.length_set]; exact R.len, fun k t e => ?_, R.nd, R.dj, R.offF, R.offB, fun k c hc => ?_, R.keep, R.f0, R.pin, fun k y m e => ?_⟩
  · rw [upd_ne (ne c (by rw [e]; simp))]
    exact R.le c o e
  · rw [upd_ne (neB c (by rw [e]; simp))]
    exact R.base c o e
  · by_cases hk : k = x
    · subst hk
      rw [List.getElem?_set_self xl] at e
      cases e
      rw [hv]
      exact ⟨l, vs, g, rfl, e2, by rw [upd_ne hal.symm]; exact hl, h2⟩
    · rw [List.getElem?_set_ne (Ne.symm hk)] at e
      refine (R.slot k t e).keeps (Same.refl _) (fun c hc => upd_ne fun z => hk (R.dj k x a (by rw [← z]; exact hc) haF)) fun y m ey c hc => upd_ne fun z => ?_
      subst ey
      subst z
      obtain ⟨xs', f1⟩ := R.als k y m e
      obtain ⟨l2, vs2, g2, p1, p2, p3, p4⟩ := R.slot y _ f1
      rw [hc] at p1
      cases p1
      have hyx : y = x := R.dj y x c (by rw [p2]; exact List.mem_cons_self) haF
      subst hyx
      rw [hv] at hc
      cases hc
      exact hal rfl
  · by_cases z : c = a
    · rw [z, upd_same]; simp
    · rw [upd_ne z]; exact R.on k c hc
  · by_cases hk : k = x
    · subst hk
      rw [List.getElem?_set_self xl] at e
      cases e
    · rw [List.getElem?_set_ne (Ne.symm hk)] at e
      obtain ⟨xs', f1⟩ := R.als k y m e
      by_cases hy : y = x
      · subst hy
        exact ⟨_, List.getElem?_set_self xl⟩
      · exact ⟨xs', by rw [List.getElem?_set_ne (Ne.symm hy)]; exact f1⟩
theorem sg_sub {o i : Expr} {fo fi : List Sl → Rs AV} (ho : SE X W pin o fo) (hi : SE X W pin i fi)
    (ha : ∀ v, assign (.Subscript o i pos) X.env v = (do
      let ov ← holding [v] (eval o X.env)
      let iv ← holding [v, ov] (eval i X.env)
      standAt pos
      holding [v, ov, iv] (setItem ov iv v)
      release [v, ov, iv] []) := by intro _; rfl) : SG X W pin [] (.Subscript o i pos) (tgS fo fi) := pg_mono (pg_sub (se_st ho) (se_st hi) set_list ha) fun v σ H Q ⟨b, Fz, F, δ, a, hpin, R, A, P⟩ => by
  cases a with
  | tmp s => exact P.elim
  | ref i => exact P.elim
  | val d =>
    have A : Rp X.K Fz v d := A
    have P : PostG X.K X.mg W b Fz [] σ Q ((sSt fo δ).bind fun x δ1 => (sSt fi δ1).bind fun y δ2 => setA x y d δ2) := P
    -- the two operands
    have two : ∀ (f : List Sl → Rs AV) (Fz1 : Hp) (F1 : Nat → List Addr) (δ1 : List Sl) (H1 : Hp) (k : AV → List Sl → Rs Unit) (R' : VK), Rl X.K b Fz1 F1 δ1 σ H1 → PostG X.K X.mg W b Fz1 [] σ Q ((sSt f δ1).bind k) →
        (∀ v H' Fz' F' x δ', Same Fz1 Fz' → Rl X.K b Fz' F' δ' σ H' → AvS X.K Fz' σ v x → PostG X.K X.mg W b Fz' [] σ Q (k x δ') → R' v H') → rdE X.K X.mg W pin (sSt f) σ H1 R' := fun f Fz1 F1 δ1 H1 k R' Rr PP h => by
      refine ⟨b, Fz1, F1, δ1, hpin, Rr, ?_⟩
      cases q : sSt f δ1 with
      | bad => rw [q] at PP; exact PP
      | er x δ' => rw [q] at PP; exact PostXS.at_ PP
      | ok a δ' =>
        rw [q] at PP
        intro v H' Fz' F' s R2 A2
        cases a with
        | tmp t => exact absurd q (sSt_notmp _ _ _ _)
        | val d => exact h v H' Fz' F' (.val d) δ' s R2 A2 (PostG.le s PP)
        | ref i => exact h v H' Fz' F' (.ref i) δ' s R2 A2 (PostG.le s PP)
    refine two fo Fz F δ H _ _ R P fun ov H1 Fz1 F1 x δ1 s1 R1 A1 P1 => ?_
    refine two fi Fz1 F1 δ1 H1 _ _ R1 P1 fun iv H2 Fz2 F2 y δ2 s2 R2 A2 P2 => ?_
    have A0 : Rp X.K Fz2 v d := (A.mono s1).mono s2
    have A1 := A1.le s2
    unfold setA at P2
    cases x with
    | val e => cases q : rdC δ2 y <;> exact P2.elim
    | tmp e => exact A1.elim
    | ref k =>
      cases q : rdC δ2 y with
      | none => simp only [q] at P2; exact P2.elim
      | some n =>
        cases n with
        | int n =>
          simp only [q] at P2
          have ei := rpc_int (rdC_ok R2 A2 q)
          have hv : σ[k]? = some (some ov) := A1
          cases q2 : δ2[k]? with
          | none => simp only [q2] at P2; exact P2.elim
          | some t =>
            cases t with
            | ol xs =>
              simp only [q2] at P2
              cases q3 : ixN xs.length n with
              | none => simp only [q3] at P2; exact P2.elim
              | some j =>
                simp only [q3] at P2
                cases q4 : allFz xs with
                | none => simp only [q4] at P2; exact P2.elim
                | some ds =>
                  simp only [q4] at P2
                  obtain ⟨l, vs, g, e1, e2, e3, e4, e5⟩ := R2.own q2 hv
                  subst e1
                  have rp := e3.allFz q4
                  have R' := R2.mut (g := []) q2 hv (ElL.ofFz (rp.set A0 j)) (by simp) (fun a ha => nomatch ha)
                  exact ⟨l, vs, n, j, rfl, ei, e2, by rw [e3.len]; exact q3, P2 _ _ Fz2 _ (Same.refl _) R' (Stored.refl _ _)⟩
            | al x j =>
              simp only [q2] at P2
              cases q3 : δ2[x]? with
              | none => simp only [q3] at P2; exact P2.elim
              | some t =>
                cases t with
                | ol es =>
                  simp only [q3] at P2
                  cases q4 : es[j]? with
                  | none => simp only [q4] at P2; exact P2.elim
                  | some el =>
                    cases el with
                    | fz d' => simp only [q4] at P2; exact P2.elim
                    | ow ys =>
                      simp only [q4] at P2
                      cases q5 : ixN ys.length n with
                      | none => simp only [q5] at P2; exact P2.elim
                      | some m =>
                        simp only [q5] at P2
                        obtain ⟨_, l, c, vs, f1, f2, f3, f4⟩ := R2.slot k _ q2
                        rw [hv] at f4
                        cases f4
                        obtain ⟨g, ⟨c', ws, g1, g2, g3, g4⟩, _⟩ := R2.al q2 q3 q4 hv
                        cases g1
                        have R' := R2.row q3 f1 f2 q4 f3 (g4.set A0 m)
                        exact ⟨c, ws, n, m, rfl, ei, g3, by rw [g4.len]; exact q5, P2 _ _ Fz2 _ (Same.refl _) R' (Stored.refl _ _)⟩
                | _ => simp only [q3] at P2; exact P2.elim
            | _ => simp only [q2] at P2; exact P2.elim
        | _ => simp only [q] at P2; exact P2.elim
end
end Hb
namespace Hb
open PySem PySem.Spec PyProof.Rows L2
/-- J gives the trees ds, one a turn -/
def Wk (K : PySem.W.Frag) (Fz0 : Hp) (J : It) (ds : List PyData) : Prop := ∀ b Fz F δ σ H, Same Fz0 Fz → Rl K b Fz F δ σ H →
  (∀ i, i < ds.length → J.go i H ∧ ∀ x H', J.yld i H x H' → ∃ Fz' d, ds[i]? = some d ∧ Same Fz Fz' ∧ Rl K b Fz' F δ σ H' ∧ Rp K Fz' x d) ∧ J.stop ds.length H
section
variable (K : PySem.W.Frag) (mg : Str → Option Value) (W : WX)
def PostI (b : Bk) (Fz : Hp) (σ : L2.St) (R : It → Hp → Prop) : Rs (List PyData) → Prop
  | .ok ds δ => ∀ J H' Fz' F', Same Fz Fz' → Rl K b Fz' F' δ σ H' → Wk K Fz' J ds → R J H'
  | .er x δ => PostX K mg W b Fz σ x δ
  | .bad => False
def rdI (pin : List Nat) (w : List Sl → Rs (List PyData)) : TI := fun σ H R => ∃ b Fz F δ, b.pin = pin ∧ Rl K b Fz F δ σ H ∧ PostI K mg W b Fz σ R (w δ)
end
abbrev SI (X : Cx) (W : WX) (pin : List Nat) (tg iter : Expr) (w : List Sl → Rs (List PyData)) : Prop := PI X tg iter (rdI X.K X.mg W pin w)
theorem pi_mono {X : Cx} {tg iter : Expr} {t t' : TI} (h : PI X tg iter t) (i : ∀ σ H R, t' σ H R → t σ H R) : PI X tg iter t' := ⟨fun pins s σ H R I q => h.run pins s σ H R I (i σ H R q)⟩
theorem pi_or {X : Cx} {tg iter : Expr} {t t' : TI} (h : PI X tg iter t) (h' : PI X tg iter t') : PI X tg iter (fun σ H R => t σ H R ∨ t' σ H R) := ⟨fun pins s σ H R I q => q.elim (h.run pins s σ H R I) (h'.run pins s σ H R I)⟩
section
variable {K : PySem.W.Frag} {mg : Str → Option Value} {W : WX} {pin : List Nat}
theorem PostI.le {b : Bk} {Fz Fz1 : Hp} {σ : L2.St} {R : It → Hp → Prop} {r : Rs (List PyData)} (s : Same Fz Fz1) (p : PostI K mg W b Fz σ R r) : PostI K mg W b Fz1 σ R r := by
  cases r with
  | ok a δ => exact fun J H' Fz' F' s' R e => p J H' Fz' F' (s.trans s') R e
  | er x δ => exact PostX.le s p
  | bad => exact p
theorem rd_valI {f : List Sl → Rs AV} {σ : L2.St} {H : Hp} {b : Bk} {Fz : Hp} {F : Nat → List Addr} {δ : List Sl} {k : PyData → List Sl → Rs (List PyData)} {Q : It → Hp → Prop} {R : VK} (hp : b.pin = pin) (Rr : Rl K b Fz F δ σ H) (P : PostI K mg W b Fz σ Q ((sTk f δ).val k))
    (h : ∀ v H' Fz' F' d δ', Same Fz Fz' → Rl K b Fz' F' δ' σ H' → Rp K Fz' v d → PostI K mg W b Fz' σ Q (k d δ') → R v H') : rdE K mg W pin (sTk f) σ H R := by
  refine ⟨b, Fz, F, δ, hp, Rr, ?_⟩
  cases q : sTk f δ with
  | bad => rw [q] at P; exact P
  | er x δ' => rw [q] at P; exact P
  | ok a δ' =>
    rw [q] at P
    intro v H' Fz' F' s R' A
    cases a with
    | tmp t => exact False.elim P
    | ref i => exact False.elim P
    | val d => exact h v H' Fz' F' d δ' s R' A (PostI.le s P)
theorem wk_list {Fz0 : Hp} {a : Addr} {vs : List V} {ds : List PyData} (h : SqX K Fz0 a vs) (r : RpL K Fz0 vs ds) : Wk K Fz0 (Itl K a) ds := fun b Fz F δ σ H s R => by
  have hq : SqL K H a vs := (same_sqX (s.trans R.le) h).sq
  refine ⟨fun i hi => ?_, ⟨vs, hq, by rw [r.len]; exact Nat.le_refl _⟩⟩
  obtain ⟨v, e1, e2⟩ := r.get (List.getElem?_eq_getElem hi)
  refine ⟨⟨vs, v, hq, e1⟩, fun x H' y => ?_⟩
  obtain ⟨rfl, y⟩ := y
  have := y vs hq
  rw [e1] at this
  cases this
  exact ⟨Fz, _, List.getElem?_eq_getElem hi, Same.refl _, R, e2.mono s⟩
theorem wk_tup {Fz0 : Hp} {a : Addr} {vs : List V} {ds : List PyData} (h : SqT K Fz0 a vs) (r : RpL K Fz0 vs ds) : Wk K Fz0 (Itt K a) ds := fun b Fz F δ σ H s R => by
  have hq : SqT K H a vs := same_sqT (s.trans R.le) h
  refine ⟨fun i hi => ?_, ⟨vs, hq, by rw [r.len]; exact Nat.le_refl _⟩⟩
  obtain ⟨v, e1, e2⟩ := r.get (List.getElem?_eq_getElem hi)
  refine ⟨⟨vs, v, hq, e1⟩, fun x H' y => ?_⟩
  obtain ⟨rfl, y⟩ := y
  have := y vs hq
  rw [e1] at this
  cases this
  exact ⟨Fz, _, List.getElem?_eq_getElem hi, Same.refl _, R, e2.mono s⟩
def rangeD (lo : Int) (n : Nat) : List PyData := (List.range n).map fun i => .int (lo + (i : Nat))
theorem rangeD_len (lo : Int) (n : Nat) : (rangeD lo n).length = n := by simp [rangeD]
theorem rangeD_at {lo : Int} {n i : Nat} (h : i < n) : (rangeD lo n)[i]? = some (.int (lo + (i : Nat))) := by
  unfold rangeD
  rw [List.getElem?_map, List.getElem?_range h]
  rfl
theorem wk_range {Fz0 : Hp} (lo : Int) (n : Nat) : Wk K Fz0 (Itr lo n) (rangeD lo n) := fun b Fz F δ σ H s R => by
  rw [rangeD_len]
  refine ⟨fun i hi => ⟨hi, fun x H' y => ?_⟩, Nat.le_refl n⟩
  obtain ⟨rfl, rfl⟩ := y
  exact ⟨Fz, _, rangeD_at hi, Same.refl _, R, .int _⟩
def enumD (ds : List PyData) : List PyData := ds.zipIdx.map fun p => .tuple [.int (p.2 : Nat), p.1]
theorem enumD_len (ds : List PyData) : (enumD ds).length = ds.length := by simp [enumD]
theorem enumD_at {ds : List PyData} {i : Nat} {d : PyData} (h : ds[i]? = some d) : (enumD ds)[i]? = some (.tuple [.int (i : Nat), d]) := by
  unfold enumD
  rw [List.getElem?_map, List.getElem?_zipIdx, h]
  simp
theorem wk_enum {Fz0 : Hp} {a : Addr} {vs : List V} {ds : List PyData} (h : SqX K Fz0 a vs) (r : RpL K Fz0 vs ds) : Wk K Fz0 (Ite K a) (enumD ds) := fun b Fz F δ σ H s R => by
  have hq : SqL K H a vs := (same_sqX (s.trans R.le) h).sq
  rw [enumD_len]
  refine ⟨fun i hi => ?_, ⟨vs, hq, by rw [r.len]; exact Nat.le_refl _⟩⟩
  obtain ⟨v, e1, e2⟩ := r.get (List.getElem?_eq_getElem hi)
  refine ⟨⟨vs, v, hq, e1⟩, fun x H' y => ?_⟩
  obtain ⟨T, u, rfl, nT, rfl, y⟩ := y
  have := y vs hq
  rw [e1] at this
  cases this
  obtain ⟨s2, R2⟩ := R.newF nT (.tup [.int (i : Nat), v])
  exact ⟨_, _, enumD_at (List.getElem?_eq_getElem hi), s2, R2, .tup upd_same (.cons (.int _) (.cons (e2.mono (s.trans s2)) .nil))⟩
end
def wSeq (f : List Sl → Rs AV) : List Sl → Rs (List PyData) := fun δ => (sTk f δ).val fun d δ' => match seqD d with
  | some ds => .ok ds δ'
  | none => .bad
def wEnum (f : List Sl → Rs AV) : List Sl → Rs (List PyData) := fun δ => (sTk f δ).val fun d δ' => match d with
  | .list ds => .ok (enumD ds) δ'
  | _ => .bad
def wRng1 (f : List Sl → Rs AV) : List Sl → Rs (List PyData) := fun δ => (sTk f δ).val fun d δ' => match d with
  | .int n => if -(2 ^ 62) ≤ n ∧ n < 2 ^ 62 then .ok (rangeD 0 n.toNat) δ' else .bad
  | _ => .bad
def wRng2 (f g : List Sl → Rs AV) : List Sl → Rs (List PyData) := fun δ => (sTk f δ).val fun d δ1 => (sTk g δ1).val fun e δ2 => match d, e with
  | .int i, .int j => if -(2 ^ 62) ≤ i ∧ i < 2 ^ 62 ∧ -(2 ^ 62) ≤ j ∧ j < 2 ^ 62 then .ok (rangeD i (j - i).toNat) δ2 else .bad
  | _, _ => .bad
section
variable {X : Cx} {W : WX} {pin : List Nat} {f g : List Sl → Rs AV} {e c tg : Expr} {p pos tpos : Pos} {elts : List Expr} {kk : Nat}
theorem si_seq (h : SE X W pin e f) : SI X W pin tg e (wSeq f) := pi_mono (pi_or (pi_list (se_tk h)) (pi_tup (se_tk h))) fun σ H R ⟨b, Fz, F, δ, hp, Rr, P⟩ => by
  have P0 := P
  unfold wSeq at P
  cases q : sTk f δ with
  | bad => rw [q] at P; exact P.elim
  | er x δ' =>
    rw [q] at P
    exact .inl ⟨b, Fz, F, δ, hp, Rr, by rw [q]; exact P⟩
  | ok a δ' =>
    rw [q] at P
    cases a with
    | tmp t => exact P.elim
    | ref i => exact P.elim
    | val d =>
      cases d with
      | list ds =>
        refine .inl ⟨b, Fz, F, δ, hp, Rr, ?_⟩
        rw [q]
        intro v H' Fz' F' s R' A
        cases (show Rp X.K Fz' v (.list ds) from A) with
        | lst h1 h2 => exact ⟨_, rfl, ⟨_, (same_sqX R'.le h1).sq⟩, P (Itl X.K _) H' Fz' F' s R' (wk_list h1 h2)⟩
      | tuple ds =>
        refine .inr ⟨b, Fz, F, δ, hp, Rr, ?_⟩
        rw [q]
        intro v H' Fz' F' s R' A
        cases (show Rp X.K Fz' v (.tuple ds) from A) with
        | tup h1 h2 => exact ⟨_, rfl, ⟨_, SqT.of (R'.le _ _ h1)⟩, P (Itt X.K _) H' Fz' F' s R' (wk_tup (SqT.of h1) h2)⟩
      | _ => exact P.elim
theorem si_rng1 (hg : Gl X "range") (hm : X.mg "range" = none) (h : SE X W pin e f) (hs : starEach [e] X.env = [(false, eval e X.env)] := by rfl) : SI X W pin tg (.Call (.Name "range" p) [e] [] pos) (wRng1 f) :=
  pi_mono (pi_range1 hg hm (pa_cons (se_tk h) pa_nil hs) hs) fun σ H R ⟨b, Fz, F, δ, hp, Rr, P⟩ => by
    refine rd_valI hp Rr P fun v H' Fz' F' d δ' s R' A P' => ?_
    cases d with
    | int n =>
      cases A
      have P' : PostI X.K X.mg W b Fz' σ R (if -(2 ^ 62) ≤ n ∧ n < 2 ^ 62 then .ok (rangeD 0 n.toNat) δ' else .bad) := P'
      by_cases c : -(2 ^ 62) ≤ n ∧ n < 2 ^ 62
      · rw [if_pos c] at P'
        exact ⟨n, rfl, c.1, c.2, P' _ H' Fz' F' (Same.refl _) R' (wk_range 0 n.toNat)⟩
      · rw [if_neg c] at P'
        exact P'.elim
    | _ => exact P'.elim
theorem si_rng2 (hg : Gl X "range") (hm : X.mg "range" = none) (h : SE X W pin e f) (h2 : SE X W pin c g) (hs : starEach [e, c] X.env = [(false, eval e X.env), (false, eval c X.env)] := by rfl) (hs2 : starEach [c] X.env = [(false, eval c X.env)] := by rfl) : SI X W pin tg (.Call (.Name "range" p) [e, c] [] pos) (wRng2 f g) :=
  pi_mono (pi_range2 hg hm (pa_cons (se_tk h) (pa_cons (se_tk h2) pa_nil hs2) (by rw [hs, hs2])) hs hs2) fun σ H R ⟨b, Fz, F, δ, hp, Rr, P⟩ => by
    refine rd_valI hp Rr P fun v H1 Fz1 F1 d δ1 s1 R1 A1 P1 => ?_
    refine rd_valI hp R1 P1 fun w H2 Fz2 F2 e δ2 s2 R2 A2 P2 => ?_
    cases d with
    | int i =>
      cases e with
      | int j =>
        cases A1
        cases A2
        have P2 : PostI X.K X.mg W b Fz2 σ R (if -(2 ^ 62) ≤ i ∧ i < 2 ^ 62 ∧ -(2 ^ 62) ≤ j ∧ j < 2 ^ 62 then .ok (rangeD i (j - i).toNat) δ2 else .bad) := P2
        by_cases c : -(2 ^ 62) ≤ i ∧ i < 2 ^ 62 ∧ -(2 ^ 62) ≤ j ∧ j < 2 ^ 62
        · rw [if_pos c] at P2
          exact ⟨i, j, rfl, c, P2 _ H2 Fz2 F2 (Same.refl _) R2 (wk_range i (j - i).toNat)⟩
        · rw [if_neg c] at P2
          exact P2.elim
      | _ => exact P2.elim
    | _ => exact P2.elim
theorem si_enum (hg : Gl X "enumerate") (hm : X.mg "enumerate" = none) (h : SE X W pin e f) (hs : starEach [e] X.env = [(false, eval e X.env)] := by rfl) : SI X W pin (.Tuple elts kk tpos) (.Call (.Name "enumerate" p) [e] [] pos) (wEnum f) :=
  pi_mono (pi_enum hg hm (pa_cons (se_tk h) pa_nil hs) hs) fun σ H R ⟨b, Fz, F, δ, hp, Rr, P⟩ => by
    refine rd_valI hp Rr P fun v H' Fz' F' d δ' s R' A P' => ?_
    cases d with
    | list ds =>
      cases A with
      | lst h1 h2 => exact ⟨_, _, rfl, (same_sqX R'.le h1).sq, P' _ H' Fz' F' (Same.refl _) R' (wk_enum h1 h2)⟩
    | _ => exact P'.elim
end
def forL (t : AV → List Sl → Rs Unit) (f : List Sl → Ot) : List PyData → List Sl → Ot
  | [], δ => .nx δ
  | d :: r, δ => match t (.val d) δ with
    | .ok _ δ1 => (match f δ1 with
      | .nx δ2 => forL t f r δ2
      | .ct δ2 => forL t f r δ2
      | .bk δ2 => .nx δ2
      | o => o)
    | .er x δ1 => .er x δ1
    | .bad => .bad
def oFor (w : List Sl → Rs (List PyData)) (t : AV → List Sl → Rs Unit) (f : List Sl → Ot) : List Sl → Ot := fun δ => (w δ).ot fun ds δ' => forL t f ds δ'
theorem ss_for {X : Cx} {W : WX} {pin ts : List Nat} {tg iter : Expr} {body : List Stmt} {w : List Sl → Rs (List PyData)} {t : AV → List Sl → Rs Unit} {u : List Sl → Ot} {pos : Pos} (hp : PassesOwn (model X.prog X.w) X.A X.env X.xe) (hc : X.calm = true) (hi : SI X W pin tg iter w) (hg : SG X W pin ts tg t) (hb : SSs X W pin body u)
    (hs : ∀ x, foldedSetIterable iter X.env x = pure x := by intro _; rfl) : SS X W pin (.For tg iter body [] pos) (oFor w t u) := ps_mono (ps_for hp hc hi hg hb hs) fun D σ H ⟨b, Fz, F, δ, hpin, R, P⟩ => by
  unfold oFor at P
  refine ⟨b, Fz, F, δ, hpin, R, ?_⟩
  cases q : w δ with
  | bad => rw [q] at P; exact P
  | er x δ' => rw [q] at P; exact PostXS.at_ P
  | ok ds δ' =>
    rw [q] at P
    have P : PostS X.K X.mg W b Fz D (forL t u ds δ') := P
    intro J H1 Fz1 F1 s1 R1 hw
    refine ⟨fun i m σ H => m = ds.length - i ∧ i ≤ ds.length ∧ ∃ Fz F δ, Same Fz1 Fz ∧ Rl X.K b Fz F δ σ H ∧ PostS X.K X.mg W b Fz D (forL t u (ds.drop i) δ), ⟨ds.length, by simp, Nat.zero_le _, Fz1, F1, δ', Same.refl _, R1, by rw [List.drop_zero]; exact PostS.le s1 P⟩, ?_⟩
    rintro i m σ2 H2 ⟨rfl, hi, Fz2, F2, δ2, s2, R2, P2⟩
    obtain ⟨go, stop⟩ := hw b Fz2 F2 δ2 σ2 H2 s2 R2
    by_cases hlt : i < ds.length
    · obtain ⟨g1, g2⟩ := go i hlt
      refine .inr ⟨g1, fun σ H => ∃ Fz F δ, Same Fz1 Fz ∧ Rl X.K b Fz F δ σ H ∧ PostS X.K X.mg W b Fz D (forL t u (ds.drop (i + 1)) δ), fun σ3 H3 h3 => ⟨ds.length - (i + 1), by omega, rfl, hlt, h3⟩, fun x H3 y => ?_⟩
      obtain ⟨Fz3, d, e1, s3, R3, r3⟩ := g2 x H3 y
      have ed : ds.drop i = d :: ds.drop (i + 1) := by
        rw [List.drop_eq_getElem_cons hlt]
        rw [List.getElem?_eq_getElem hlt] at e1
        rw [Option.some.inj e1]
      rw [ed] at P2
      unfold forL at P2
      refine ⟨b, Fz3, F2, δ2, .val d, hpin, R3, r3, ?_⟩
      cases q2 : t (.val d) δ2 with
      | bad => rw [q2] at P2; exact P2
      | er x δ3 => rw [q2] at P2; exact PostXS.le s3 P2
      | ok a δ3 =>
        simp only [q2] at P2
        intro σ4 H4 Fz4 F4 s4 R4 _
        refine ⟨b, Fz4, F4, δ3, hpin, R4, ?_⟩
        have s24 := s3.trans s4
        cases q3 : u δ3 with
        | nx δ4 =>
          simp only [q3] at P2
          exact fun σ5 H5 Fz5 F5 s5 R5 => ⟨Fz5, F5, δ4, (s2.trans s24).trans s5, R5, PostS.le (s24.trans s5) P2⟩
        | ct δ4 =>
          simp only [q3] at P2
          exact fun σ5 H5 Fz5 F5 s5 R5 => ⟨Fz5, F5, δ4, (s2.trans s24).trans s5, R5, PostS.le (s24.trans s5) P2⟩
        | bk δ4 => simp only [q3] at P2; exact PostS.le s24 P2
        | rt s δ4 => simp only [q3] at P2; exact PostS.le (r := .rt s δ4) s24 P2
        | er x δ4 => simp only [q3] at P2; exact PostS.le (r := .er x δ4) s24 P2
        | bad => simp only [q3] at P2; exact P2
    · have e : i = ds.length := by omega
      subst e
      rw [List.drop_length] at P2
      exact .inl ⟨stop, P2 σ2 H2 Fz2 F2 (Same.refl _) R2⟩
end Hb
namespace Hb
open PySem PySem.Spec PyProof.Rows L2
abbrev gd (b : Bk) (H : Hp) (g : List Addr) : Bk := ⟨Hb.addF b.B H g, b.F0, b.pin, b.so⟩
section
variable {K : PySem.W.Frag} {b : Bk} {Fz : Hp} {F : Nat → List Addr} {δ : List Sl} {σ : L2.St} {H : Hp}
theorem Rl.guard (R : Rl K b Fz F δ σ H) {g : List Addr} (hg : ∀ a ∈ g, Fz a = none ∧ b.B a = none ∧ ∀ k, a ∉ F k) : Rl K (gd b H g) Fz F δ σ H where
  le := R.le
  base := addF_le R.base
  len := R.len
  slot := R.slot
  nd := R.nd
  dj := R.dj
  offF := R.offF
  offB := fun i a ha => by
    show Hb.addF b.B H g a = none
    rw [addF_out (fun z => (hg a z).2.2 i ha)]
    exact R.offB i a ha
  on := R.on
  keep := fun a ha => by
    have ha : Hb.addF b.B H g a ≠ none := ha
    show Fz a = b.F0 a
    by_cases q : a ∈ g
    · rw [(hg a q).1]
      cases e : b.F0 a with
      | none => rfl
      | some o => exact absurd (hg a q).2.1 (R.f0 a (by rw [e]; simp))
    · rw [addF_out q] at ha
      exact R.keep a ha
  f0 := fun a ha => by
    have h := R.f0 a ha
    show Hb.addF b.B H g a ≠ none
    rw [addF_out fun z => h (hg a z).2.1]
    exact h
  pin := R.pin
  als := R.als
theorem Rl.guarded {H' Fz' : Hp} {F' : Nat → List Addr} {δ' : List Sl} {σ' : L2.St} {g : List Addr} (R : Rl K (gd b H g) Fz' F' δ' σ' H') (hB : ∀ a ∈ g, b.B a = none) (f0 : ∀ a, b.F0 a ≠ none → b.B a ≠ none) (hH : ∀ a ∈ g, H a ≠ none) :
    ∀ a ∈ g, H' a = H a ∧ Fz' a = none ∧ ∀ k, a ∉ F' k := fun a ha => by
  have e : (gd b H g).B a = H a := addF_in ha
  have n : (gd b H g).B a ≠ none := by rw [e]; exact hH a ha
  refine ⟨?_, ?_, fun k hk => n (R.offB k a hk)⟩
  · cases q : H a with
    | none => exact absurd q (hH a ha)
    | some o => exact R.base a o (e.trans q)
  · rw [R.keep a n]
    cases q : b.F0 a with
    | none => rfl
    | some o => exact absurd (hB a ha) (f0 a (by rw [q]; simp))
theorem Rl.unguard {H' : Hp} {g : List Addr} (R : Rl K (gd b H g) Fz F δ σ H') (hB : ∀ a ∈ g, b.B a = none) (f0 : ∀ a, b.F0 a ≠ none → b.B a ≠ none) : Rl K b Fz F δ σ H' where
  le := R.le
  base := fun a o e => R.base a o (by
    show Hb.addF b.B H g a = some o
    rw [addF_out fun z => by rw [hB a z] at e; cases e]
    exact e)
  len := R.len
  slot := R.slot
  nd := R.nd
  dj := R.dj
  offF := R.offF
  offB := fun i a ha => by
    have h : Hb.addF b.B H g a = none := R.offB i a ha
    by_cases q : a ∈ g
    · exact hB a q
    · rw [addF_out q] at h
      exact h
  on := R.on
  keep := fun a ha => R.keep a (by
    show Hb.addF b.B H g a ≠ none
    rw [addF_out fun z => ha (hB a z)]
    exact ha)
  f0 := f0
  pin := R.pin
  als := R.als
/-- what nobody here knows of changes -/
theorem Rl.other (R : Rl K b Fz F δ σ H) {D : Addr} {o : HO} (h1 : Fz D = none) (h2 : b.B D = none) (h3 : ∀ k, D ∉ F k) : Rl K b Fz F δ σ (upd H D o) where
  le := fun a x e => by
    rw [upd_ne fun z => by rw [z, h1] at e; cases e]
    exact R.le a x e
  base := fun a x e => by
    rw [upd_ne fun z => by rw [z, h2] at e; cases e]
    exact R.base a x e
  len := R.len
  slot := fun i s e => (R.slot i s e).keeps (Same.refl _) (fun a ha => upd_ne fun z => h3 i (by rw [← z]; exact ha)) fun x j ej a ha => upd_ne fun z => by
    subst ej
    subst z
    obtain ⟨xs, hx⟩ := R.als i x j e
    obtain ⟨l, vs, g, p1, p2, _⟩ := R.slot x _ hx
    rw [ha] at p1
    cases p1
    exact h3 x (by rw [p2]; exact List.mem_cons_self)
  nd := R.nd
  dj := R.dj
  offF := R.offF
  offB := R.offB
  on := fun i a ha => by
    rw [upd_ne fun z => h3 i (by rw [← z]; exact ha)]
    exact R.on i a ha
  keep := R.keep
  f0 := R.f0
  pin := R.pin
  als := R.als
def plainS : Option Sl → Bool
  | some .no => true
  | some (.fz _) => true
  | _ => false
def okW (vs : List Nat) (δ : List Sl) : Bool := vs.all fun v => plainS δ[v]?
def wipeD (vs : List Nat) (δ : List Sl) : List Sl := vs.foldr (fun v δ => δ.set v .no) δ
def unw (vs : List Nat) (δ δ' : List Sl) : List Sl := vs.foldr (fun v δ' => upS v (δ[v]?.getD .no) δ') δ'
theorem Rl.wipe1 (R : Rl K b Fz F δ σ H) {v : Nat} (hv : plainS δ[v]? = true) (hp : v ∉ b.pin) : Rl K b Fz F (δ.set v .no) (σ.set v none) H := by
  have hF : F v = [] := by
    cases q : δ[v]? with
    | none => rw [q] at hv; cases hv
    | some s =>
      have h := R.slot v s q
      rw [q] at hv
      cases s with
      | no => exact h
      | fz d => exact h.1
      | _ => cases hv
  have hx : ∀ (x : Nat) xs, δ[x]? = some (.ol xs) → x ≠ v := fun x xs e z => by
    rw [z] at e
    rw [e] at hv
    cases hv
  refine ⟨R.le, R.base, by rw [List.length_set, List.length_set]; exact R.len, fun i s e => ?_, R.nd, R.dj, R.offF, R.offB, R.on, R.keep, R.f0, fun i hi => ?_, fun i x j e => ?_⟩
  · by_cases q : i = v
    · subst q
      have hl : i < δ.length := by
        have := (List.getElem?_eq_some_iff.mp e).1
        rwa [List.length_set] at this
      rw [List.getElem?_set_self hl] at e
      cases e
      exact hF
    · rw [List.getElem?_set_ne (Ne.symm q)] at e
      have h := R.slot i s e
      rw [List.getElem?_set_ne (Ne.symm q)]
      cases s with
      | al x j =>
        obtain ⟨h0, a, c, ws, h1, h2⟩ := h
        obtain ⟨xs, e2⟩ := R.als i x j e
        exact ⟨h0, a, c, ws, by rw [List.getElem?_set_ne (Ne.symm (hx x xs e2))]; exact h1, h2⟩
      | no => exact h
      | fz d => exact h
      | ol xs => exact h
      | od kvs => exact h
  · rw [List.getElem?_set_ne fun z => hp (by rw [z]; exact hi)]
    exact R.pin i hi
  · by_cases q : i = v
    · subst q
      have hl : i < δ.length := by
        have := (List.getElem?_eq_some_iff.mp e).1
        rwa [List.length_set] at this
      rw [List.getElem?_set_self hl] at e
      cases e
    · rw [List.getElem?_set_ne (Ne.symm q)] at e
      obtain ⟨xs, e2⟩ := R.als i x j e
      exact ⟨xs, by rw [List.getElem?_set_ne (Ne.symm (hx x xs e2))]; exact e2⟩
theorem plain_wipe {v : Nat} {δ : List Sl} (h : plainS δ[v]? = true) : ∀ vs : List Nat, plainS (wipeD vs δ)[v]? = true
  | [] => h
  | w :: vs => by
    show plainS ((wipeD vs δ).set w .no)[v]? = true
    have ih := plain_wipe h vs
    by_cases e : v = w
    · subst e
      by_cases hl : v < (wipeD vs δ).length
      · rw [List.getElem?_set_self hl]; rfl
      · rw [List.getElem?_eq_none (by omega)] at ih
        cases ih
    · rw [List.getElem?_set_ne (Ne.symm e)]
      exact ih
theorem Rl.wipe (R : Rl K b Fz F δ σ H) : ∀ {vs : List Nat}, okW vs δ = true → (∀ v ∈ vs, v ∉ b.pin) → Rl K b Fz F (wipeD vs δ) (L2.wipe σ vs) H
  | [], _, _ => R
  | v :: vs, h, hp => by
    have h' : plainS δ[v]? = true ∧ okW vs δ = true := by
      unfold okW at h ⊢
      rwa [List.all_cons, Bool.and_eq_true] at h
    exact (R.wipe h'.2 fun w hw => hp w (List.mem_cons_of_mem _ hw)).wipe1 (plain_wipe h'.1 vs) (hp v List.mem_cons_self)
theorem wipe_get {σ : L2.St} {k : Nat} : ∀ {vs : List Nat}, k ∉ vs → (L2.wipe σ vs)[k]? = σ[k]?
  | [], _ => rfl
  | v :: vs, h => by
    unfold L2.wipe
    rw [List.getElem?_set_ne fun z => h (by rw [z]; exact List.mem_cons_self)]
    exact wipe_get fun z => h (List.mem_cons_of_mem _ z)
theorem wipe_in {σ : L2.St} {k : Nat} : ∀ {vs : List Nat}, k ∈ vs → k < σ.length → (L2.wipe σ vs)[k]? = some none
  | v :: vs, h, hl => by
    unfold L2.wipe
    by_cases e : k = v
    · subst e
      rw [List.getElem?_set_self (by rw [L2.wipe_length]; exact hl)]
    · rw [List.getElem?_set_ne (Ne.symm e)]
      exact wipe_in ((List.mem_cons.mp h).resolve_left e) hl
theorem wipe_eq {σ σ2 : L2.St} {vs : List Nat} (hl : σ2.length = σ.length) (h : ∀ k, k ∉ vs → σ2[k]? = σ[k]?) : L2.wipe σ2 vs = L2.wipe σ vs := by
  refine List.ext_getElem? fun k => ?_
  by_cases q : k ∈ vs
  · by_cases hk : k < σ.length
    · rw [wipe_in q hk, wipe_in q (by rw [hl]; exact hk)]
    · rw [List.getElem?_eq_none (by rw [L2.wipe_length]; omega), List.getElem?_eq_none (by rw [L2.wipe_length]; omega)]
  · rw [wipe_get q, wipe_get q]
    exact h k q
def rst (vs : List Nat) (σ σ2 : L2.St) : L2.St := vs.foldr (fun v τ => τ.set v (σ[v]?.join)) σ2
theorem rst_len (vs : List Nat) (σ σ2 : L2.St) : (rst vs σ σ2).length = σ2.length := by
  induction vs with
  | nil => rfl
  | cons v vs ih =>
    show ((rst vs σ σ2).set v _).length = _
    rw [List.length_set, ih]
theorem rst_eq {vs : List Nat} {σ σ2 : L2.St} (hl : σ2.length = σ.length) (h : ∀ k, k ∉ vs → σ2[k]? = σ[k]?) : rst vs σ σ2 = σ := by
  have key : ∀ ws : List Nat, ∀ k, (k ∈ ws → (rst ws σ σ2)[k]? = σ[k]?) ∧ (k ∉ ws → (rst ws σ σ2)[k]? = σ2[k]?) := by
    intro ws
    induction ws with
    | nil => exact fun k => ⟨(fun z => nomatch z), fun _ => rfl⟩
    | cons v ws ih =>
      intro k
      have e : rst (v :: ws) σ σ2 = (rst ws σ σ2).set v (σ[v]?.join) := rfl
      rw [e]
      by_cases q : k = v
      · subst q
        refine ⟨fun _ => ?_, fun z => absurd List.mem_cons_self z⟩
        by_cases hk : k < σ.length
        · rw [List.getElem?_set_self (by rw [rst_len]; omega), List.getElem?_eq_getElem hk]
          rfl
        · rw [List.getElem?_eq_none (by rw [List.length_set, rst_len]; omega), List.getElem?_eq_none (by omega)]
      · rw [List.getElem?_set_ne (Ne.symm q)]
        exact ⟨fun z => (ih k).1 ((List.mem_cons.mp z).resolve_left q), fun z => (ih k).2 fun y => z (List.mem_cons_of_mem _ y)⟩
  refine List.ext_getElem? fun k => ?_
  by_cases q : k ∈ vs
  · exact (key vs k).1 q
  · rw [(key vs k).2 q]
    exact h k q
/-- the outer slots come back -/
theorem Rl.unwipe {δ' : List Sl} {σ2 : L2.St} (R2 : Rl K b Fz F δ' σ2 H) (hl : σ2.length = σ.length) : ∀ {vs : List Nat}, (∀ v ∈ vs, v ∉ b.pin) → (∀ v ∈ vs, ∀ s, δ[v]? = some s → SlH K Fz H [] [] (σ[v]?.join) s ∧ (∀ x j, s ≠ .al x j)) →
    ∃ F', Rl K b Fz F' (unw vs δ δ') (rst vs σ σ2) H ∧ ∀ k a, a ∈ F' k → a ∈ F k
  | [], _, _ => ⟨F, R2, fun _ _ h => h⟩
  | v :: vs, hp, hs => by
    obtain ⟨F1, R1, h1⟩ := Rl.unwipe R2 hl (vs := vs) (fun w hw => hp w (List.mem_cons_of_mem _ hw)) fun w hw => hs w (List.mem_cons_of_mem _ hw)
    have e1 : rst (v :: vs) σ σ2 = (rst vs σ σ2).set v (σ[v]?.join) := rfl
    have e2 : unw (v :: vs) δ δ' = upS v (δ[v]?.getD .no) (unw vs δ δ') := rfl
    rw [e1, e2]
    refine ⟨fun k => if k = v then [] else F1 k, R1.put (Same.refl _) R1.le R1.base List.length_set (fun k hk => List.getElem?_set_ne (Ne.symm hk)) (.inr (hp v List.mem_cons_self)) (fun hlt => ?_) (fun x j z => ?_) List.nodup_nil (fun _ z => nomatch z) (fun _ z => nomatch z) (fun _ z => nomatch z) (fun _ z => nomatch z) (fun _ _ _ _ => rfl) (fun k _ a ha => R1.offF k a ha) (fun _ _ => rfl), fun k a ha => ?_⟩
    · rw [List.getElem?_set_self (by rw [R1.len]; exact hlt)]
      cases q : δ[v]? with
      | none => exact rfl
      | some s =>
        obtain ⟨g1, g2⟩ := hs v List.mem_cons_self s q
        cases s with
        | al x j => exact absurd rfl (g2 x j)
        | no => exact g1
        | fz d => exact g1
        | ol xs => exact g1
        | od kvs => exact g1
    · cases q : δ[v]? with
      | none => rw [q] at z; cases z
      | some s =>
        rw [q] at z
        exact absurd z ((hs v List.mem_cons_self s q).2 x j)
    · have ha : a ∈ (if k = v then [] else F1 k) := ha
      by_cases q : k = v
      · rw [if_pos q] at ha; cases ha
      · rw [if_neg q] at ha
        exact h1 k a ha
end
abbrev W0 : WX := fun _ _ _ _ => False
/-- an item for the list: a tree, or (w) a list of its own -/
def elOf (w : Bool) : AV → Option El
  | .val d => some (.fz d)
  | .tmp (.ol xs) => if w = true then (allFz xs).map .ow else none
  | _ => none
def lcL (w : Bool) (vs : List Nat) (t : AV → List Sl → Rs Unit) (tt : List Sl → Rs Bool) (f : List Sl → Rs AV) : List PyData → List El → List Sl → Rs (List El)
  | [], es, δ => .ok es δ
  | d :: r, es, δ => if okW vs δ = true then (match t (.val d) (wipeD vs δ) with
    | .ok _ δ1 => (match tt δ1 with
      | .ok k δ2 => if k = true then (match f δ2 with
        | .ok a δ3 => (match elOf w a with
          | some e => if es.length ≤ cap then lcL w vs t tt f r (es ++ [e]) (unw vs δ δ3) else .bad
          | none => .bad)
        | _ => .bad) else lcL w vs t tt f r es (unw vs δ δ2)
      | _ => .bad)
    | _ => .bad) else .bad
def sLc (w : Bool) (wi : List Sl → Rs (List PyData)) (vs : List Nat) (t : AV → List Sl → Rs Unit) (tt : List Sl → Rs Bool) (f : List Sl → Rs AV) : List Sl → Rs AV := fun δ => (wi δ).bind fun ds δ1 => (lcL w vs t tt f ds [] δ1).bind fun es δ2 => .ok (.tmp (.ol es)) δ2
def tOk : List Sl → Rs Bool := fun δ => .ok true δ
theorem elOf_ok {K : PySem.W.Frag} {b : Bk} {Fz : Hp} {F : Nat → List Addr} {σ : L2.St} {H : Hp} {w : Bool} {a : AV} {e : El} {y : V} (A : AvR K b Fz F H σ y a) (h : elOf w a = some e) :
    ∃ g, ElR K Fz H g y e ∧ g.Nodup ∧ ∀ a ∈ g, Fz a = none ∧ b.B a = none ∧ H a ≠ none ∧ ∀ i, a ∉ F i := by
  cases a with
  | val d => cases h; exact ⟨[], ⟨rfl, A⟩, List.nodup_nil, fun _ z => nomatch z⟩
  | ref i => cases h
  | tmp s =>
    cases s with
    | ol xs =>
      unfold elOf at h
      by_cases c : w = true
      · simp only [if_pos c] at h
        cases q : allFz xs with
        | none => rw [q] at h; cases h
        | some ds =>
          rw [q] at h
          cases h
          obtain ⟨_, g, ⟨l, vs, g', e1, e2, e3, e4⟩, hn, hg⟩ := A
          cases e1
          have rp := e4.allFz q
          refine ⟨[l], ⟨l, vs, rfl, rfl, e3, rp⟩, by simp, fun c hc => hg c ?_⟩
          rw [List.mem_singleton] at hc
          rw [hc, e2]
          exact List.mem_cons_self
      · simp only [if_neg c] at h
        cases h
    | _ => cases h
theorem lc_ok {K : PySem.W.Frag} {mg : Str → Option Value} {W : WX} {pin ts vs : List Nat} {w : Bool} {wi : List Sl → Rs (List PyData)} {t : AV → List Sl → Rs Unit} {tt : List Sl → Rs Bool} {f : List Sl → Rs AV} {tT : TT} (hv : ∀ v ∈ vs, v ∉ pin) (hts : ∀ v ∈ ts, v ∈ vs) (hT : ∀ σ H Q, rdT K mg W0 pin tt σ H Q → tT σ H Q) :
    ∀ σ H Q, rdE K mg W pin (sLc w wi vs t tt f) σ H Q → tLc (rdI K mg W pin wi) (rdG K mg W0 pin ts t) tT (rdE K mg W0 pin f) vs σ H Q := fun σ H Q ⟨b, Fz, F, δ, hpin, R, P⟩ => by
  refine ⟨b, Fz, F, δ, hpin, R, ?_⟩
  unfold sLc at P
  cases q : wi δ with
  | bad => rw [q] at P; exact P
  | er x δ' => rw [q] at P; exact P
  | ok ds δ1 =>
    rw [q] at P
    have P : Post K mg W b Fz σ Q ((lcL w vs t tt f ds [] δ1).bind fun es δ2 => .ok (.tmp (.ol es)) δ2) := P
    intro J H1 Fz1 F1 s1 R1 hw D hD
    obtain ⟨d1, d2, d3⟩ := R1.offN hD
    refine ⟨fun i m H => m = ds.length - i ∧ i ≤ ds.length ∧ ∃ Fz F δ acc es g, Same Fz1 Fz ∧ Rl K b Fz F δ σ H ∧ H D = some (.lst acc) ∧ ElL K Fz H g acc es ∧ (D :: g).Nodup ∧ (∀ a ∈ D :: g, Fz a = none ∧ b.B a = none ∧ H a ≠ none ∧ ∀ k, a ∉ F k) ∧ Post K mg W b Fz σ Q ((lcL w vs t tt f (ds.drop i) es δ).bind fun es δ2 => .ok (.tmp (.ol es)) δ2),
      ⟨ds.length, by simp, Nat.zero_le _, Fz1, F1, δ1, [], [], [], Same.refl _, R1.new hD _, upd_same, .nil, by simp, fun a ha => ?_, by rw [List.drop_zero]; exact P.le s1⟩, ?_⟩
    · rw [List.mem_singleton] at ha
      subst ha
      exact ⟨d1, d2, by rw [upd_same]; simp, d3⟩
    rintro i m H2 ⟨rfl, hi, Fz2, F2, δ2, acc, es, g, s2, R2, hacc, hes, hnd, hg, P2⟩
    have gB : ∀ a ∈ D :: g, b.B a = none := fun a ha => (hg a ha).2.1
    have gH : ∀ a ∈ D :: g, H2 a ≠ none := fun a ha => (hg a ha).2.2.1
    have Rg := R2.guard (g := D :: g) fun a ha => ⟨(hg a ha).1, (hg a ha).2.1, (hg a ha).2.2.2⟩
    obtain ⟨go, stop⟩ := hw _ Fz2 F2 δ2 σ H2 s2 Rg
    by_cases hlt : i < ds.length
    · obtain ⟨g1, g2⟩ := go i hlt
      refine .inr ⟨g1, fun H => ∃ Fz F δ acc es g, Same Fz1 Fz ∧ Rl K b Fz F δ σ H ∧ H D = some (.lst acc) ∧ ElL K Fz H g acc es ∧ (D :: g).Nodup ∧ (∀ a ∈ D :: g, Fz a = none ∧ b.B a = none ∧ H a ≠ none ∧ ∀ k, a ∉ F k) ∧ Post K mg W b Fz σ Q ((lcL w vs t tt f (ds.drop (i + 1)) es δ).bind fun es δ2 => .ok (.tmp (.ol es)) δ2),
        fun H3 h3 => ⟨ds.length - (i + 1), by omega, rfl, hlt, h3⟩, fun x H3 y => ?_⟩
      obtain ⟨Fz3, d, e1, s3, R3, r3⟩ := g2 x H3 y
      have ed : ds.drop i = d :: ds.drop (i + 1) := by
        rw [List.drop_eq_getElem_cons hlt]
        rw [List.getElem?_eq_getElem hlt] at e1
        rw [Option.some.inj e1]
      rw [ed] at P2
      unfold lcL at P2
      by_cases cw : okW vs δ2 = true
      · rw [if_pos cw] at P2
        have hvb : ∀ v ∈ vs, v ∉ b.pin := by rw [hpin]; exact hv
        have R4 := R3.wipe cw hvb
        -- how it ends for a state behind the turn
        have back : ∀ {δ5 : List Sl} {σ5 : L2.St} {H5 Fz5 : Hp} {F5 : Nat → List Addr}, Same Fz2 Fz5 → Rl K (gd b H2 (D :: g)) Fz5 F5 δ5 σ5 H5 → σ5.length = σ.length → (∀ k, k ∉ vs → σ5[k]? = σ[k]?) → ∃ F6, Rl K b Fz5 F6 (unw vs δ2 δ5) σ H5 ∧ ∀ k a, a ∈ F6 k → a ∈ F5 k := by
          intro δ5 σ5 H5 Fz5 F5 s25 R5 hl5 fr5
          have R6 := R5.unguard gB R2.f0
          obtain ⟨F6, R7, h7⟩ := Rl.unwipe (σ := σ) (δ := δ2) R6 hl5 (vs := vs) hvb fun v hvv s hs => by
            have h0 := R2.slot v s hs
            have hpl : plainS δ2[v]? = true := by
              unfold okW at cw
              exact List.all_eq_true.mp cw v hvv
            rw [hs] at hpl
            cases s with
            | no => exact ⟨rfl, fun x j z => nomatch z⟩
            | fz d' =>
              obtain ⟨_, v', k1, k2⟩ := h0
              exact ⟨⟨rfl, v', k1, k2.mono s25⟩, fun x j z => nomatch z⟩
            | _ => cases hpl
          rw [rst_eq hl5 fr5] at R7
          exact ⟨F6, R7, h7⟩
        have fits : ∀ {δ5 : List Sl} {σ5 : L2.St} {H5 Fz5 : Hp} {F5 : Nat → List Addr}, Rl K (gd b H2 (D :: g)) Fz5 F5 δ5 σ5 H5 → ∀ a ∈ D :: g, H5 a = H2 a ∧ Fz5 a = none ∧ ∀ k, a ∉ F5 k := fun R5 => R5.guarded gB R2.f0 gH
        refine ⟨gd b H2 (D :: g), Fz3, F2, wipeD vs δ2, .val d, hpin, R4, r3, ?_⟩
        cases q2 : t (.val d) (wipeD vs δ2) with
        | bad => simp only [q2] at P2; exact P2
        | er x δ3 => simp only [q2] at P2; exact P2.elim
        | ok u δ3 =>
          simp only [q2] at P2
          intro σ4 H4 Fz4 F4 s4 R5 fr
          have hl4 : σ4.length = σ.length := by rw [fr.1, L2.wipe_length]
          have fr4 : ∀ k, k ∉ vs → σ4[k]? = σ[k]? := fun k hk => (fr.2 k fun z => hk (hts k z)).trans (wipe_get hk)
          refine ⟨wipe_eq hl4 fr4, ?_⟩
          have s24 : Same Fz2 Fz4 := s3.trans s4
          refine hT _ _ _ ⟨gd b H2 (D :: g), Fz4, F4, δ3, hpin, R5, ?_⟩
          cases q3 : tt δ3 with
          | bad => simp only [q3] at P2; exact P2.elim
          | er x δ4 => simp only [q3] at P2; exact P2.elim
          | ok k δ4 =>
            simp only [q3] at P2
            intro H5 Fz5 F5 s5 R6
            by_cases ck : k = true
            · rw [if_pos ck] at P2 ⊢
              refine ⟨gd b H2 (D :: g), Fz5, F5, δ4, hpin, R6, ?_⟩
              cases q4 : f δ4 with
              | bad => simp only [q4] at P2; exact P2.elim
              | er x δ5 => simp only [q4] at P2; exact P2.elim
              | ok a δ5 =>
                simp only [q4] at P2
                cases q5 : elOf w a with
                | none => simp only [q5] at P2; exact P2.elim
                | some e =>
                  simp only [q5] at P2
                  by_cases cl : es.length ≤ cap
                  · rw [if_pos cl] at P2
                    intro y H6 Fz6 F6 s6 R7 A
                    have s26 : Same Fz2 Fz6 := (s24.trans s5).trans s6
                    obtain ⟨ge, he, hne, hge⟩ := elOf_ok A q5
                    obtain ⟨F7, R8, h7⟩ := back s26 R7 hl4 fr4
                    have fit := fits R7
                    have fD := fit D List.mem_cons_self
                    have eD : H6 D = some (.lst acc) := fD.1.trans hacc
                    refine ⟨acc, eD, by rw [hes.len]; exact lt_line cl, ?_⟩
                    have gnot : ∀ a ∈ ge, a ∉ D :: g := fun a ha z => by
                      have h1 : (gd b H2 (D :: g)).B a = none := (hge a ha).2.1
                      have h2 : Hb.addF b.B H2 (D :: g) a = H2 a := addF_in z
                      have h3 : H2 a = none := h2.symm.trans h1
                      exact gH a z h3
                    have geB : ∀ a ∈ ge, b.B a = none := fun a ha => by
                      have h1 : Hb.addF b.B H2 (D :: g) a = none := (hge a ha).2.1
                      rwa [addF_out (gnot a ha)] at h1
                    have neD : ∀ a ∈ g, a ≠ D := fun a ha z => (List.nodup_cons.mp hnd).1 (by rw [← z]; exact ha)
                    have neD2 : ∀ a ∈ ge, a ≠ D := fun a ha z => gnot a ha (by rw [z]; exact List.mem_cons_self)
                    have R9 := R8.other (D := D) (o := .lst (acc ++ [y])) fD.2.1 (gB D List.mem_cons_self) fun k hk => fD.2.2 k (h7 k D hk)
                    have E1 : ElL K Fz6 (upd H6 D (.lst (acc ++ [y]))) g acc es := hes.keeps s26 fun a ha => by
                      rw [upd_ne (neD a ha)]
                      exact (fit a (List.mem_cons_of_mem _ ha)).1
                    have E2 : ElL K Fz6 (upd H6 D (.lst (acc ++ [y]))) (ge ++ []) [y] [e] := .cons (he.keeps (Same.refl _) fun a ha => upd_ne (neD2 a ha)) .nil
                    rw [List.append_nil] at E2
                    refine ⟨Fz6, F7, _, acc ++ [y], es ++ [e], g ++ ge, s2.trans s26, R9, upd_same, E1.app E2, ?_, fun a ha => ?_, P2.le s26⟩
                    · rw [List.nodup_cons, List.nodup_append]
                      refine ⟨fun z => ?_, (List.nodup_cons.mp hnd).2, hne, fun a ha c hc z => ?_⟩
                      · rcases List.mem_append.mp z with z | z
                        · exact (List.nodup_cons.mp hnd).1 z
                        · exact gnot D z List.mem_cons_self
                      · subst z
                        exact gnot a hc (List.mem_cons_of_mem _ ha)
                    · have cases3 : a = D ∨ a ∈ g ∨ a ∈ ge := by
                        rcases List.mem_cons.mp ha with z | z
                        · exact .inl z
                        · exact .inr (List.mem_append.mp z)
                      rcases cases3 with z | z | z
                      · subst z
                        exact ⟨fD.2.1, gB a List.mem_cons_self, by rw [upd_same]; simp, fun k hk => fD.2.2 k (h7 k a hk)⟩
                      · have fa := fit a (List.mem_cons_of_mem _ z)
                        exact ⟨fa.2.1, gB a (List.mem_cons_of_mem _ z), by rw [upd_ne (neD a z), fa.1]; exact gH a (List.mem_cons_of_mem _ z), fun k hk => fa.2.2 k (h7 k a hk)⟩
                      · have fa := hge a z
                        exact ⟨fa.1, geB a z, by rw [upd_ne (neD2 a z)]; exact fa.2.2.1, fun k hk => fa.2.2.2 k (h7 k a hk)⟩
                  · rw [if_neg cl] at P2
                    exact P2.elim
            · rw [if_neg ck] at P2 ⊢
              have s25 : Same Fz2 Fz5 := s24.trans s5
              obtain ⟨F7, R8, h7⟩ := back s25 R6 hl4 fr4
              have fit := fits R6
              refine ⟨Fz5, F7, _, acc, es, g, s2.trans s25, R8, (fit D List.mem_cons_self).1.trans hacc, hes.keeps s25 fun a ha => (fit a (List.mem_cons_of_mem _ ha)).1, hnd, fun a ha => ?_, P2.le s25⟩
              have fa := fit a ha
              exact ⟨fa.2.1, gB a ha, by rw [fa.1]; exact gH a ha, fun k hk => fa.2.2 k (h7 k a hk)⟩
      · rw [if_neg cw] at P2
        exact P2.elim
    · have e : i = ds.length := by omega
      subst e
      rw [List.drop_length] at P2
      refine .inl ⟨stop, ?_⟩
      exact P2 (.ref D) H2 Fz2 F2 (Same.refl _) R2 ⟨rfl, D :: g, ⟨D, acc, g, rfl, rfl, hacc, hes⟩, hnd, fun a ha => hg a ha⟩
section
variable {X : Cx} {W : WX} {pin ts : List Nat} {elt tg iter : Expr} {ifs : List Expr} {scope : Scope} {own : List (Str × Nat)} {pos : Pos} {wi : List Sl → Rs (List PyData)} {t : AV → List Sl → Rs Unit} {tt : List Sl → Rs Bool} {f : List Sl → Rs AV}
/-- the block's context -/
abbrev BX (X : Cx) (scope : Scope) (s : Shared) (H : Hp) (C : Addr) (cl : List (Str × Addr)) (fp : List Addr) : Cx := X.blk s H scope (compEnvC scope cl C X.env) fp
abbrev STs (X : Cx) (pin : List Nat) (ifs : List Expr) (tt : List Sl → Rs Bool) : Prop := PTs X ifs (rdT X.K X.mg W0 pin tt)
theorem pts_mono {X : Cx} {es : List Expr} {t t' : TT} (h : PTs X es t) (i : ∀ σ H Q, t' σ H Q → t σ H Q) : PTs X es t' := ⟨fun pins s σ H Q I q => h.run pins s σ H Q I (i σ H Q q)⟩
theorem sts_nil {X : Cx} : STs X pin [] tOk := pts_mono pts_nil fun σ H Q ⟨b, Fz, F, δ, hp, R, P⟩ => P H Fz F (Same.refl _) R
theorem sts_one {X : Cx} {c : Expr} (h : ST X W0 pin c tt) : STs X pin [c] tt := pts_one h
theorem se_lc (w : Bool) (hc : X.calm = true) (hN : X.N.Nodup) (hi : SI X W pin tg iter wi) (ok : blkC X.N X.env.scope scope own = true) (hv : ∀ v ∈ own.map (·.2), v ∉ pin) (hts : ∀ v ∈ ts, v ∈ own.map (·.2))
    (hg : ∀ s H C cl fp, SG (BX X scope s H C cl fp) W0 pin ts tg t) (ht : ∀ s H C cl fp, STs (BX X scope s H C cl fp) pin ifs tt) (he : ∀ s H C cl fp, SE (BX X scope s H C cl fp) W0 pin elt f) (hs : ∀ x, foldedSetIterable iter X.env x = pure x := by intro _; rfl) :
    SE X W pin (.ListComp elt [⟨tg, iter, ifs, 0⟩] scope pos) (sLc w wi (own.map (·.2)) t tt f) :=
  pe_mono (pe_lc hc hN hi (blkOk_by ok) hg ht he hs) (lc_ok hv hts fun _ _ _ h => h)
end
end Hb
namespace Hb
open PySem PySem.Spec PyProof.Rows L2
/-- an argument: a tree that stands still; the slot k by reference; a new thing of the callee's own -/
inductive Ar where
  | fz (d : PyData) | io (k : Nat) | own (s : Sl)
def ArH (K : PySem.W.Frag) (Fz H : Hp) (σ : L2.St) (f : List Addr) (v : V) : Ar → Prop
  | .fz d => f = [] ∧ Rp K Fz v d
  | .io k => f = [] ∧ σ[k]? = some (some v)
  | .own s => s.tree.isSome = true ∧ SlH K Fz H [] f (some v) s
structure ArOk (K : PySem.W.Frag) (b : Bk) (Fz : Hp) (F : Nat → List Addr) (H : Hp) (σ : L2.St) (vs : List V) (ars : List Ar) (G : Nat → List Addr) : Prop where
  len : vs.length = ars.length
  at_ : ∀ (j : Nat) (a : Ar), ars[j]? = some a → ∃ v, vs[j]? = some v ∧ ArH K Fz H σ (G j) v a
  nd : ∀ j, (G j).Nodup
  dj : ∀ i j a, a ∈ G i → a ∈ G j → i = j
  off : ∀ j a, a ∈ G j → Fz a = none ∧ b.B a = none ∧ H a ≠ none ∧ ∀ k, a ∉ F k
section
variable (K : PySem.W.Frag) (mg : Str → Option Value) (W : WX)
def PostAr (b : Bk) (Fz : Hp) (σ : L2.St) (Q : List V → Hp → Prop) : Rs (List Ar) → Prop
  | .ok ars δ => ∀ vs H' Fz' F' G, Same Fz Fz' → Rl K b Fz' F' δ σ H' → ArOk K b Fz' F' H' σ vs ars G → Q vs H'
  | .er x δ => PostX K mg W b Fz σ x δ
  | .bad => False
def rdAr (pin : List Nat) (f : List Sl → Rs (List Ar)) : TA := fun σ H Q => ∃ b Fz F δ, b.pin = pin ∧ Rl K b Fz F δ σ H ∧ PostAr K mg W b Fz σ Q (f δ)
end
abbrev SAr (X : Cx) (W : WX) (pin : List Nat) (es : List Expr) (f : List Sl → Rs (List Ar)) : Prop := PA X es (rdAr X.K X.mg W pin f)
def rNil : List Sl → Rs (List Ar) := fun δ => .ok [] δ
def arOf : AV → Option Ar
  | .val d => some (.fz d)
  | .tmp s => some (.own s)
  | .ref _ => none
/-- a value, or a new thing -/
def rCons (f : List Sl → Rs AV) (g : List Sl → Rs (List Ar)) : List Sl → Rs (List Ar) := fun δ => (f δ).bind fun a δ1 => match arOf a with
  | some r => (g δ1).bind fun rs δ2 => .ok (r :: rs) δ2
  | none => .bad
/-- a name by reference -/
def rIo (k : Nat) (g : List Sl → Rs (List Ar)) : List Sl → Rs (List Ar) := fun δ => (sVar k δ).bind fun _ δ1 => (g δ1).bind fun rs δ2 => .ok (.io k :: rs) δ2
section
variable {K : PySem.W.Frag} {mg : Str → Option Value} {W : WX} {pin : List Nat}
theorem PostAr.le {b : Bk} {Fz Fz1 : Hp} {σ : L2.St} {Q : List V → Hp → Prop} {r : Rs (List Ar)} (s : Same Fz Fz1) (p : PostAr K mg W b Fz σ Q r) : PostAr K mg W b Fz1 σ Q r := by
  cases r with
  | ok a δ => exact fun v H' Fz' F' G s' R e => p v H' Fz' F' G (s.trans s') R e
  | er x δ => exact PostX.le s p
  | bad => exact p
theorem arOk_nil {b : Bk} {Fz : Hp} {F : Nat → List Addr} {H : Hp} {σ : L2.St} : ArOk K b Fz F H σ [] [] (fun _ => []) := ⟨rfl, fun j a h => by simp at h, fun _ => List.nodup_nil, fun _ _ _ h => (nomatch h), fun _ _ h => (nomatch h)⟩
/-- one more argument ahead of the rest, which was reckoned while its thing belonged to the ground -/
theorem ArOk.cons {b : Bk} {Fz1 Fz2 : Hp} {F1 F2 : Nat → List Addr} {H1 H2 : Hp} {δ2 : List Sl} {σ : L2.St} {v : V} {vs : List V} {a : Ar} {ars : List Ar} {g : List Addr} {G : Nat → List Addr} (hs : Same Fz1 Fz2) (h1 : ArH K Fz1 H1 σ g v a) (hn : g.Nodup)
    (hg : ∀ c ∈ g, Fz1 c = none ∧ b.B c = none ∧ H1 c ≠ none ∧ ∀ k, c ∉ F1 k) (f0 : ∀ c, b.F0 c ≠ none → b.B c ≠ none) (R2 : Rl K (gd b H1 g) Fz2 F2 δ2 σ H2) (h2 : ArOk K (gd b H1 g) Fz2 F2 H2 σ vs ars G) :
    ArOk K b Fz2 F2 H2 σ (v :: vs) (a :: ars) (fun j => match j with
      | 0 => g
      | j + 1 => G j) := by
  have fit := R2.guarded (fun c hc => (hg c hc).2.1) f0 fun c hc => (hg c hc).2.2.1
  have notg : ∀ j c, c ∈ G j → c ∉ g := fun j c hc z => by
    have e1 : Hb.addF b.B H1 g c = none := (h2.off j c hc).2.1
    rw [addF_in z] at e1
    exact (hg c z).2.2.1 e1
  refine ⟨congrArg Nat.succ h2.len, fun j r e => ?_, fun j => ?_, fun i j c hi hj => ?_, fun j c hc => ?_⟩
  · cases j with
    | zero =>
      simp at e
      subst e
      refine ⟨v, rfl, ?_⟩
      cases a with
      | fz d => exact ⟨h1.1, h1.2.mono hs⟩
      | io k => exact h1
      | own s => exact ⟨h1.1, h1.2.keeps hs (fun c hc => (fit c hc).1) fun x j ej _ hx => by
          have := h1.1
          rw [ej] at this
          cases this⟩
    | succ j =>
      obtain ⟨u, e1, e2⟩ := h2.at_ j r (by simpa using e)
      exact ⟨u, by simpa using e1, e2⟩
  · cases j with
    | zero => exact hn
    | succ j => exact h2.nd j
  · cases i with
    | zero =>
      cases j with
      | zero => rfl
      | succ j => exact absurd hi (notg j c hj)
    | succ i =>
      cases j with
      | zero => exact absurd hj (notg i c hi)
      | succ j => exact congrArg Nat.succ (h2.dj i j c hi hj)
  · cases j with
    | zero =>
      obtain ⟨e1, e2, e3⟩ := fit c hc
      exact ⟨e2, (hg c hc).2.1, by rw [e1]; exact (hg c hc).2.2.1, e3⟩
    | succ j =>
      obtain ⟨e1, e2, e3⟩ := h2.off j c hc
      have e2 : Hb.addF b.B H1 g c = none := e2
      rw [addF_out (notg j c hc)] at e2
      exact ⟨e1, e2, e3⟩
end
section
variable {X : Cx} {W : WX} {pin : List Nat} {f : List Sl → Rs AV} {g : List Sl → Rs (List Ar)} {e : Expr} {es : List Expr}
theorem sr_nil : SAr X W pin [] rNil := pa_mono pa_nil fun σ H Q ⟨b, Fz, F, δ, hp, R, P⟩ => P [] H Fz F _ (Same.refl _) R arOk_nil
/-- the rest, while things of the ground's -/
theorem rest_ok {K : PySem.W.Frag} {mg : Str → Option Value} {b : Bk} {Fz1 : Hp} {F1 : Nat → List Addr} {δ1 : List Sl} {σ : L2.St} {H1 : Hp} {Q : List V → Hp → Prop} {v : V} {a : Ar} {gs : List Addr} (hp : b.pin = pin) (R1 : Rl K b Fz1 F1 δ1 σ H1) (h1 : ArH K Fz1 H1 σ gs v a) (hn : gs.Nodup)
    (hg : ∀ c ∈ gs, Fz1 c = none ∧ b.B c = none ∧ H1 c ≠ none ∧ ∀ k, c ∉ F1 k) (P : PostAr K mg W b Fz1 σ Q ((g δ1).bind fun rs δ2 => .ok (a :: rs) δ2)) : rdAr K mg W pin g σ H1 fun vs H2 => Q (v :: vs) H2 := by
  refine ⟨gd b H1 gs, Fz1, F1, δ1, hp, R1.guard fun c hc => ⟨(hg c hc).1, (hg c hc).2.1, (hg c hc).2.2.2⟩, ?_⟩
  have un : ∀ {Fz' F' δ' H'}, Rl K (gd b H1 gs) Fz' F' δ' σ H' → Rl K b Fz' F' δ' σ H' := fun R => R.unguard (fun c hc => (hg c hc).2.1) R1.f0
  cases q : g δ1 with
  | bad => rw [q] at P; exact P
  | er x δ' =>
    rw [q] at P
    exact fun c dd H' Fz' F' s R e => P c dd H' Fz' F' s (un R) e
  | ok ars δ' =>
    rw [q] at P
    exact fun vs H' Fz' F' G s R A => P (v :: vs) H' Fz' F' _ s (un R) (ArOk.cons s h1 hn hg R1.f0 R A)
theorem sr_cons (h : SE X W pin e f) (h2 : SAr X W pin es g) (hs : starEach (e :: es) X.env = (false, eval e X.env) :: starEach es X.env := by rfl) : SAr X W pin (e :: es) (rCons f g) := pa_mono (pa_cons h h2 hs) fun σ H Q ⟨b, Fz, F, δ, hp, R, P⟩ => by
  refine ⟨b, Fz, F, δ, hp, R, ?_⟩
  unfold rCons at P
  cases q : f δ with
  | bad => rw [q] at P; exact P
  | er x δ' => rw [q] at P; exact P
  | ok a δ1 =>
    rw [q] at P
    intro v H1 Fz1 F1 s1 R1 A
    have P := PostAr.le s1 P
    cases a with
    | ref i => exact P.elim
    | val d => exact rest_ok hp R1 (a := .fz d) (gs := []) ⟨rfl, A⟩ List.nodup_nil (fun _ z => nomatch z) P
    | tmp s =>
      obtain ⟨ht, gs, k1, k2, k3⟩ := A
      exact rest_ok hp R1 (a := .own s) (gs := gs) ⟨ht, k1⟩ k2 k3 P
theorem sr_io (k : Nat) {x : Str} {pos : Pos} (hN : X.N[k]? = some x) (hv : Vis X.env.scope x) (h2 : SAr X W pin es g) (hd : (x == ("__debug__" : Str)) = false := by decide) (hcd : (x == ("__classdict__" : Str)) = false := by decide)
    (hs : starEach (.Name x pos :: es) X.env = (false, eval (.Name x pos) X.env) :: starEach es X.env := by rfl) : SAr X W pin (.Name x pos :: es) (rIo k g) := pa_mono (pa_cons (pe_var hN hv hd hcd) h2 hs) fun σ H Q ⟨b, Fz, F, δ, hp, R, P⟩ => by
  unfold rIo at P
  have hvar : ∃ v, σ[k]? = some (some v) ∧ ∃ a, sVar k δ = .ok a δ := by
    cases q : sVar k δ with
    | bad => rw [q] at P; exact P.elim
    | er x δ' => unfold sVar at q; split at q <;> cases q
    | ok a δ' =>
      unfold sVar at q
      cases q2 : δ[k]? with
      | none => rw [q2] at q; cases q
      | some s =>
        have h := R.slot k s q2
        rw [q2] at q
        cases s with
        | no => cases q
        | fz d => cases q; obtain ⟨_, v, e1, _⟩ := h; exact ⟨v, join_some e1, _, rfl⟩
        | ol xs => cases q; obtain ⟨a, _, _, e1, _⟩ := h; exact ⟨_, join_some e1, _, rfl⟩
        | od kvs => cases q; obtain ⟨a, e1, _⟩ := h; exact ⟨_, join_some e1, _, rfl⟩
        | al y j => cases q; obtain ⟨_, a, c, vs, _, _, _, e1⟩ := h; exact ⟨_, join_some e1, _, rfl⟩
  obtain ⟨v, e1, a, e2⟩ := hvar
  rw [e2] at P
  exact ⟨v, e1, rest_ok hp R (a := .io k) (gs := []) ⟨rfl, e1⟩ List.nodup_nil (fun _ z => nomatch z) P⟩
end
inductive FR where
  | ok (r : Sl) (δ : List Sl) | er (x : Exn) (δ : List Sl) | bad
section
variable (K : PySem.W.Frag) (mg : Str → Option Value)
def PostF (b : Bk) (Fz : Hp) (vs : List V) (Q : VK) (E : XK) : FR → Prop
  | .ok r δ => ∀ v H' Fz' F', Same Fz Fz' → Rl K b Fz' F' δ (vs.map some) H' → AvR K b Fz' F' H' (vs.map some) v (.tmp r) → Q v H'
  | .er x δ => ∀ c dd H' Fz' F', Same Fz Fz' → Rl K b Fz' F' δ (vs.map some) H' → ExR K mg Fz' H' x c dd → E c dd H'
  | .bad => False
/-- the promise: n parameters -/
def spF (n : Nat) (f : List Sl → FR) : Sp := fun vs H Q E => vs.length = n ∧ ∃ b Fz F δ, Rl K b Fz F δ (vs.map some) H ∧ PostF K mg b Fz vs Q E (f δ)
end
def argS (δ : List Sl) : Ar → Option Sl
  | .fz d => some (.fz d)
  | .own s => some s
  | .io k => match δ[k]? with
    | some (.fz d) => some (.fz d)
    | some (.ol xs) => some (.ol xs)
    | some (.od kvs) => some (.od kvs)
    | _ => none
def argsS (δ : List Sl) : List Ar → Option (List Sl)
  | [] => some []
  | a :: r => match argS δ a, argsS δ r with
    | some s, some l => some (s :: l)
    | _, _ => none
/-- the slots that were handed over -/
def iosOf (δ : List Sl) : List Ar → List Nat
  | [] => []
  | .io k :: r => (match δ[k]? with
    | some (.ol _) => k :: iosOf δ r
    | some (.od _) => k :: iosOf δ r
    | _ => iosOf δ r)
  | _ :: r => iosOf δ r
/-- .. and come back -/
def clr (ks : List Nat) (δ : List Sl) : List Sl := ks.foldr (fun k δ => upS k .no δ) δ
def noAl : Sl → Sl
  | .al _ _ => .no
  | s => s
def putB (ks : List Nat) : List Ar → List Sl → List Sl → List Sl
  | .io k :: r, s :: l, δ => putB ks r l (if k ∈ ks then upS k (noAl s) δ else δ)
  | .fz _ :: r, _ :: l, δ => putB ks r l δ
  | .own _ :: r, _ :: l, δ => putB ks r l δ
  | _, _, δ => δ
def AV.ofSl : Sl → AV
  | .fz d => .val d
  | s => .tmp s
def backS (ars : List Ar) (δ' δ : List Sl) : List Sl := putB (iosOf δ ars) ars δ' (clr (iosOf δ ars) δ)
def callF (f : List Sl → FR) (ars : List Ar) (δ : List Sl) : Rs AV := if (iosOf δ ars).Nodup then (match argsS δ ars with
  | some δa => (match f δa with
    | .ok r δ' => .ok (AV.ofSl r) (backS ars δ' δ)
    | .er x δ' => .er x (backS ars δ' δ)
    | .bad => .bad)
  | none => .bad) else .bad
def sCall (f : List Sl → FR) (dd : List PyData) (g : List Sl → Rs (List Ar)) : List Sl → Rs AV := fun δ => (g δ).bind fun ars δ1 => callF f (ars ++ dd.map .fz) δ1
section
variable {δ : List Sl}
def ownS : Option Sl → Bool
  | some (.ol _) => true
  | some (.od _) => true
  | _ => false
theorem ios_cons_io {k : Nat} {r : List Ar} : iosOf δ (.io k :: r) = if ownS δ[k]? = true then k :: iosOf δ r else iosOf δ r := by
  cases q : δ[k]? with
  | none => simp [iosOf, q, ownS]
  | some s => cases s <;> simp [iosOf, q, ownS]
theorem ios_mem {k : Nat} (c : ownS δ[k]? = true) : ∀ {ars : List Ar} {j : Nat}, ars[j]? = some (.io k) → k ∈ iosOf δ ars
  | [], _, h => by simp at h
  | a :: r, 0, h => by
    simp at h
    subst h
    rw [ios_cons_io, if_pos c]
    exact List.mem_cons_self
  | a :: r, j + 1, h => by
    have ih := ios_mem c (ars := r) (j := j) (by simpa using h)
    cases a with
    | fz d => exact ih
    | own s => exact ih
    | io m =>
      rw [ios_cons_io]
      by_cases e : ownS δ[m]? = true
      · rw [if_pos e]; exact List.mem_cons_of_mem _ ih
      · rw [if_neg e]; exact ih
theorem ios_uniq {k : Nat} (c : ownS δ[k]? = true) : ∀ {ars : List Ar} {i j : Nat}, (iosOf δ ars).Nodup → ars[i]? = some (.io k) → ars[j]? = some (.io k) → i = j
  | [], _, _, _, h, _ => by simp at h
  | a :: r, 0, 0, _, _, _ => rfl
  | a :: r, 0, j + 1, nd, h, h2 => by
    simp at h
    subst h
    rw [ios_cons_io, if_pos c] at nd
    exact absurd (ios_mem c (ars := r) (j := j) (by simpa using h2)) (List.nodup_cons.mp nd).1
  | a :: r, i + 1, 0, nd, h, h2 => by
    simp at h2
    subst h2
    rw [ios_cons_io, if_pos c] at nd
    exact absurd (ios_mem c (ars := r) (j := i) (by simpa using h)) (List.nodup_cons.mp nd).1
  | a :: r, i + 1, j + 1, nd, h, h2 => by
    have nd' : (iosOf δ r).Nodup := by
      cases a with
      | fz d => exact nd
      | own s => exact nd
      | io m =>
        rw [ios_cons_io] at nd
        by_cases e : ownS δ[m]? = true
        · rw [if_pos e] at nd; exact (List.nodup_cons.mp nd).2
        · rw [if_neg e] at nd; exact nd
    exact congrArg Nat.succ (ios_uniq c nd' (by simpa using h) (by simpa using h2))
theorem argsS_get : ∀ {ars : List Ar} {l : List Sl}, argsS δ ars = some l → l.length = ars.length ∧ ∀ (j : Nat) (a : Ar), ars[j]? = some a → ∃ s, l[j]? = some s ∧ argS δ a = some s
  | [], _, h => by
    cases h
    exact ⟨rfl, fun j a h => by simp at h⟩
  | a :: r, l, h => by
    unfold argsS at h
    cases q1 : argS δ a with
    | none => rw [q1] at h; cases h
    | some s =>
      cases q2 : argsS δ r with
      | none => rw [q1, q2] at h; cases h
      | some l' =>
        rw [q1, q2] at h
        cases h
        obtain ⟨e1, e2⟩ := argsS_get q2
        refine ⟨by simp [e1], fun j b hb => ?_⟩
        cases j with
        | zero =>
          simp at hb
          subst hb
          exact ⟨s, rfl, q1⟩
        | succ j =>
          obtain ⟨t, e3, e4⟩ := e2 j b (by simpa using hb)
          exact ⟨t, by simpa using e3, e4⟩
end
section
variable {K : PySem.W.Frag} {mg : Str → Option Value} {b : Bk} {Fz : Hp} {F : Nat → List Addr} {δ : List Sl} {σ : L2.St} {H : Hp}
theorem Rl.clear (R : Rl K b Fz F δ σ H) : ∀ ks : List Nat, Rl K b Fz (fun k => if k ∈ ks then [] else F k) (clr ks δ) σ H
  | [] => by
    have e : (fun k => if k ∈ ([] : List Nat) then [] else F k) = F := by funext k; simp
    rw [e]
    exact R
  | m :: ks => by
    have R1 := R.clear ks
    have R2 := R1.put (i := m) (s := .no) (g := []) (Same.refl _) R1.le R1.base rfl (fun _ _ => rfl) (.inl rfl) (fun _ => rfl) (fun x j z => nomatch z) List.nodup_nil (fun _ z => nomatch z) (fun _ z => nomatch z) (fun _ z => nomatch z) (fun _ z => nomatch z) (fun _ _ _ _ => rfl) (fun k _ a ha => R1.offF k a ha) (fun _ _ => rfl)
    have e : (fun k => if k = m then [] else if k ∈ ks then [] else F k) = fun k => if k ∈ m :: ks then [] else F k := by
      funext k
      by_cases q : k = m
      · simp [q]
      · simp [q]
    rw [e] at R2
    exact R2
theorem Rl.move (R : Rl K b Fz F δ σ H) {Fz' H' : Hp} (s : Same Fz Fz') (le : Same Fz' H') (base : Same b.B H') (hF : ∀ k a, a ∈ F k → H' a = H a ∧ Fz' a = none) (hB : ∀ a, b.B a ≠ none → Fz' a = Fz a) : Rl K b Fz' F δ σ H' where
  le := le
  base := base
  len := R.len
  slot := fun i t e => (R.slot i t e).keeps s (fun a ha => (hF i a ha).1) fun x j ej a ha => by
    subst ej
    obtain ⟨xs, hx⟩ := R.als i x j e
    obtain ⟨l, vs, g, p1, p2, _⟩ := R.slot x _ hx
    rw [ha] at p1
    cases p1
    exact (hF x a (by rw [p2]; exact List.mem_cons_self)).1
  nd := R.nd
  dj := R.dj
  offF := fun i a ha => (hF i a ha).2
  offB := R.offB
  on := fun i a ha => by
    rw [(hF i a ha).1]
    exact R.on i a ha
  keep := fun a ha => (hB a ha).trans (R.keep a ha)
  f0 := R.f0
  pin := R.pin
  als := R.als
theorem noAl_ok {Fz H : Hp} {σ1 σ2 : L2.St} {f : List Addr} {o : Option V} {s : Sl} (h : SlH K Fz H σ1 f o s) : SlH K Fz H σ2 f o (noAl s) := by
  cases s with
  | al x j => exact h.1
  | no => exact h
  | fz d => exact h
  | ol xs => exact h
  | od kvs => exact h
/-- the slots that were handed over come back, one by one -/
theorem Rl.putBack {ks : List Nat} {Fz' H' : Hp} {F' : Nat → List Addr} {δ' : List Sl} {vs : List V} {b' : Bk} (R' : Rl K b' Fz' F' δ' (vs.map some) H') (hb : ∀ a, b.B a ≠ none → b'.B a ≠ none) :
    ∀ (ars : List Ar) (l : List Sl) (j : Nat) (Fc : Nat → List Addr) (δc : List Sl), Rl K b Fz' Fc δc σ H' → l.length = ars.length → (∀ i s, l[i]? = some s → δ'[j + i]? = some s) → (∀ i k, ars[i]? = some (.io k) → ∃ v, vs[j + i]? = some v ∧ σ[k]? = some (some v)) →
      (∀ m a, a ∈ Fc m → b'.B a ≠ none ∨ ∃ i, i < j ∧ a ∈ F' i) → ∃ Fn, Rl K b Fz' Fn (putB ks ars l δc) σ H' ∧ ∀ m a, a ∈ Fn m → b'.B a ≠ none ∨ ∃ i, a ∈ F' i
  | [], l, j, Fc, δc, R, _, _, _, h => ⟨Fc, by cases l <;> exact R, fun m a ha => (h m a ha).imp id fun ⟨i, _, e⟩ => ⟨i, e⟩⟩
  | a :: r, [], _, _, _, _, hl, _, _, _ => by cases hl
  | .fz d :: r, s :: l, j, Fc, δc, R, hl, h1, h2, h3 => by
    refine Rl.putBack R' hb r l (j + 1) Fc δc R (by simpa using hl) (fun i t e => ?_) (fun i k e => ?_) fun m c hc => (h3 m c hc).imp id fun ⟨i, e1, e2⟩ => ⟨i, by omega, e2⟩
    · have := h1 (i + 1) t (by simpa using e)
      rwa [show j + (i + 1) = j + 1 + i by omega] at this
    · have := h2 (i + 1) k (by simpa using e)
      rwa [show j + (i + 1) = j + 1 + i by omega] at this
  | .own d :: r, s :: l, j, Fc, δc, R, hl, h1, h2, h3 => by
    refine Rl.putBack R' hb r l (j + 1) Fc δc R (by simpa using hl) (fun i t e => ?_) (fun i k e => ?_) fun m c hc => (h3 m c hc).imp id fun ⟨i, e1, e2⟩ => ⟨i, by omega, e2⟩
    · have := h1 (i + 1) t (by simpa using e)
      rwa [show j + (i + 1) = j + 1 + i by omega] at this
    · have := h2 (i + 1) k (by simpa using e)
      rwa [show j + (i + 1) = j + 1 + i by omega] at this
  | .io k :: r, s :: l, j, Fc, δc, R, hl, h1, h2, h3 => by
    have n1 : ∀ i t, l[i]? = some t → δ'[j + 1 + i]? = some t := fun i t e => by
      have := h1 (i + 1) t (by simpa using e)
      rwa [show j + (i + 1) = j + 1 + i by omega] at this
    have n2 : ∀ i k', r[i]? = some (.io k') → ∃ v, vs[j + 1 + i]? = some v ∧ σ[k']? = some (some v) := fun i k' e => by
      have := h2 (i + 1) k' (by simpa using e)
      rwa [show j + (i + 1) = j + 1 + i by omega] at this
    by_cases c : k ∈ ks
    · have e0 : putB ks (.io k :: r) (s :: l) δc = putB ks r l (upS k (noAl s) δc) := by
        show putB ks r l (if k ∈ ks then upS k (noAl s) δc else δc) = _
        rw [if_pos c]
      rw [e0]
      obtain ⟨v, v1, v2⟩ := h2 0 k rfl
      have hs := R'.slot j s (by simpa using h1 0 s rfl)
      have hvj : (vs.map some)[j]? = some (some v) := by
        rw [List.getElem?_map, show vs[j]? = some v by simpa using v1]
        rfl
      rw [hvj] at hs
      refine Rl.putBack R' hb r l (j + 1) _ _ (R.put (i := k) (s := noAl s) (g := F' j) (Same.refl _) R.le R.base rfl (fun _ _ => rfl) (.inl rfl) (fun _ => ?_) (fun x i z => ?_) (R'.nd j) (fun a ha => R'.offF j a ha) (fun a ha => ?_) (fun a ha m hm hin => ?_) (fun a ha => R'.on j a ha) (fun _ _ _ _ => rfl) (fun m _ a ha => R.offF m a ha) (fun _ _ => rfl)) (by simpa using hl) n1 n2 (fun m a ha => ?_)
      · rw [v2]
        exact noAl_ok hs
      · cases s <;> cases z
      · cases q : b.B a with
        | none => rfl
        | some o => exact absurd (R'.offB j a ha) (hb a (by rw [q]; simp))
      · rcases h3 m a hin with z | ⟨i, z1, z2⟩
        · exact z (R'.offB j a ha)
        · have := R'.dj i j a z2 ha
          omega
      · have ha : a ∈ (if m = k then F' j else Fc m) := ha
        by_cases q : m = k
        · rw [if_pos q] at ha
          exact .inr ⟨j, Nat.lt_succ_self j, ha⟩
        · rw [if_neg q] at ha
          exact (h3 m a ha).imp id fun ⟨i, e1, e2⟩ => ⟨i, by omega, e2⟩
    · have e0 : putB ks (.io k :: r) (s :: l) δc = putB ks r l δc := by
        show putB ks r l (if k ∈ ks then upS k (noAl s) δc else δc) = _
        rw [if_neg c]
      rw [e0]
      exact Rl.putBack R' hb r l (j + 1) Fc δc R (by simpa using hl) n1 n2 fun m a ha => (h3 m a ha).imp id fun ⟨i, e1, e2⟩ => ⟨i, by omega, e2⟩
end
end Hb
namespace Hb
open PySem PySem.Spec PyProof.Rows L2
section
variable {K : PySem.W.Frag} {mg : Str → Option Value} {W : WX} {b : Bk} {Fz : Hp} {F : Nat → List Addr} {δ : List Sl} {σ : L2.St} {H : Hp}
/-- what is handed over -/
def passL (δ : List Sl) (F G : Nat → List Addr) (ars : List Ar) : List Addr := (iosOf δ ars).flatMap F ++ (List.range ars.length).flatMap G
/-- the callee's ground: all else -/
def calB (H : Hp) (p : List Addr) : Hp := fun a => if a ∈ p then none else H a
def calF0 (H Fz : Hp) (p : List Addr) : Hp := fun a => if a ∈ p then none else if H a = none then none else Fz a
def calF (δ : List Sl) (F G : Nat → List Addr) (ars : List Ar) (j : Nat) : List Addr := match ars[j]? with
  | some (.io k) => if ownS δ[k]? = true then F k else []
  | some (.own _) => G j
  | _ => []
theorem call_ok {Q : VK} {vs : List V} {ars : List Ar} {G : Nat → List Addr} {f : List Sl → FR} (R : Rl K b Fz F δ σ H) (A : ArOk K b Fz F H σ vs ars G) (P : Post K mg W b Fz σ Q (callF f ars δ)) :
    spF K mg ars.length f vs H Q (fun c dd H' => W c dd σ H') := by
  refine ⟨A.len, ?_⟩
  unfold callF at P
  by_cases nd : (iosOf δ ars).Nodup
  · rw [if_pos nd] at P
    cases q1 : argsS δ ars with
    | none => simp only [q1] at P; exact P.elim
    | some δa =>
      simp only [q1] at P
      obtain ⟨la, ga⟩ := argsS_get q1
      obtain ⟨p, hp⟩ : ∃ p, p = passL δ F G ars := ⟨_, rfl⟩
      have pio : ∀ k, k ∈ iosOf δ ars → ∀ a ∈ F k, a ∈ p := fun k hk a ha => by
        rw [hp]
        exact List.mem_append_left _ (List.mem_flatMap.mpr ⟨k, hk, ha⟩)
      have pown : ∀ j, j < ars.length → ∀ a ∈ G j, a ∈ p := fun j hj a ha => by
        rw [hp]
        exact List.mem_append_right _ (List.mem_flatMap.mpr ⟨j, List.mem_range.mpr hj, ha⟩)
      have pin : ∀ a ∈ p, (∃ k, k ∈ iosOf δ ars ∧ a ∈ F k) ∨ ∃ j, a ∈ G j := fun a ha => by
        rw [hp] at ha
        rcases List.mem_append.mp ha with z | z
        · obtain ⟨k, e1, e2⟩ := List.mem_flatMap.mp z
          exact .inl ⟨k, e1, e2⟩
        · obtain ⟨j, _, e2⟩ := List.mem_flatMap.mp z
          exact .inr ⟨j, e2⟩
      have pFz : ∀ a ∈ p, Fz a = none := fun a ha => (pin a ha).elim (fun ⟨k, _, e⟩ => R.offF k a e) fun ⟨j, e⟩ => (A.off j a e).1
      have pB : ∀ a ∈ p, b.B a = none := fun a ha => (pin a ha).elim (fun ⟨k, _, e⟩ => R.offB k a e) fun ⟨j, e⟩ => (A.off j a e).2.1
      have getV : ∀ j a, ars[j]? = some a → ∃ s v, δa[j]? = some s ∧ argS δ a = some s ∧ vs[j]? = some v ∧ ArH K Fz H σ (G j) v a := fun j a e => by
        obtain ⟨s, e1, e2⟩ := ga j a e
        obtain ⟨v, e3, e4⟩ := A.at_ j a e
        exact ⟨s, v, e1, e2, e3, e4⟩
      have cF : ∀ j a, a ∈ calF δ F G ars j → (∃ k, ars[j]? = some (.io k) ∧ ownS δ[k]? = true ∧ a ∈ F k) ∨ ∃ s, ars[j]? = some (.own s) ∧ a ∈ G j := fun j a ha => by
        unfold calF at ha
        cases q : ars[j]? with
        | none => rw [q] at ha; cases ha
        | some r =>
          rw [q] at ha
          cases r with
          | fz d => cases ha
          | own s => exact .inr ⟨s, rfl, ha⟩
          | io k =>
            have ha : a ∈ (if ownS δ[k]? = true then F k else []) := ha
            by_cases c : ownS δ[k]? = true
            · rw [if_pos c] at ha
              exact .inl ⟨k, rfl, c, ha⟩
            · rw [if_neg c] at ha
              cases ha
      have cp : ∀ j a, a ∈ calF δ F G ars j → a ∈ p := fun j a ha => (cF j a ha).elim (fun ⟨k, e1, e2, e3⟩ => pio k (ios_mem e2 e1) a e3) fun ⟨s, e1, e2⟩ => pown j (List.getElem?_eq_some_iff.mp e1).1 a e2
      have Rc : Rl K ⟨calB H p, calF0 H Fz p, [], []⟩ Fz (calF δ F G ars) δa (vs.map some) H := by
        refine ⟨R.le, fun a o e => ?_, by rw [List.length_map, A.len, la], fun j s e => ?_, fun j => ?_, fun i j a h1 h2 => ?_, fun j a h => pFz a (cp j a h), fun j a h => if_pos (cp j a h), fun j a h => ?_, fun a h => ?_, fun a h => ?_, fun _ z => (nomatch z), fun j x m e => ?_⟩
        · have e : (if a ∈ p then none else H a) = some o := e
          by_cases c : a ∈ p
          · rw [if_pos c] at e; cases e
          · rw [if_neg c] at e; exact e
        · have hj : j < ars.length := by rw [← la]; exact (List.getElem?_eq_some_iff.mp e).1
          obtain ⟨s', v, e1, e2, e3, e4⟩ := getV j _ (List.getElem?_eq_getElem hj)
          rw [e] at e1
          cases e1
          have hv : (vs.map some)[j]?.join = some v := by rw [List.getElem?_map, e3]; rfl
          rw [hv]
          unfold calF
          rw [List.getElem?_eq_getElem hj]
          generalize ars[j] = r at e2 e4
          cases r with
          | fz d =>
            cases e2
            exact ⟨rfl, v, rfl, e4.2⟩
          | own t =>
            cases e2
            have h2 := e4.2
            cases s with
            | al x m => have := e4.1; cases this
            | no => exact h2
            | fz d => exact h2
            | ol xs => exact h2
            | od kvs => exact h2
          | io k =>
            have hk : σ[k]? = some (some v) := e4.2
            unfold argS at e2
            cases q2 : δ[k]? with
            | none => simp only [q2] at e2; cases e2
            | some t =>
              have hs := R.slot k t q2
              rw [hk] at hs
              cases t with
              | fz d => simp only [q2] at e2; cases e2; exact ⟨by simp [ownS, q2], hs.2⟩
              | ol xs => simp only [q2] at e2; cases e2; simp only [ownS, q2, if_true]; exact hs
              | od kvs => simp only [q2] at e2; cases e2; simp only [ownS, q2, if_true]; exact hs
              | no => simp only [q2] at e2; cases e2
              | al x m => simp only [q2] at e2; cases e2
        · unfold calF
          cases q : ars[j]? with
          | none => exact List.nodup_nil
          | some r =>
            cases r with
            | fz d => exact List.nodup_nil
            | own s => exact A.nd j
            | io k =>
              show (if ownS δ[k]? = true then F k else []).Nodup
              by_cases c : ownS δ[k]? = true
              · rw [if_pos c]; exact R.nd k
              · rw [if_neg c]; exact List.nodup_nil
        · rcases cF i a h1 with ⟨k, e1, e2, e3⟩ | ⟨s, e1, e2⟩
          · rcases cF j a h2 with ⟨m, f1, f2, f3⟩ | ⟨t, f1, f2⟩
            · have := R.dj k m a e3 f3
              subst this
              exact ios_uniq e2 nd e1 f1
            · exact absurd e3 ((A.off j a f2).2.2.2 k)
          · rcases cF j a h2 with ⟨m, f1, f2, f3⟩ | ⟨t, f1, f2⟩
            · exact absurd f3 ((A.off i a e2).2.2.2 m)
            · exact A.dj i j a e2 f2
        · rcases cF j a h with ⟨k, e1, e2, e3⟩ | ⟨s, e1, e2⟩
          · exact R.on k a e3
          · exact (A.off j a e2).2.2.1
        · have h : (if a ∈ p then none else H a) ≠ none := h
          show Fz a = if a ∈ p then none else if H a = none then none else Fz a
          by_cases c : a ∈ p
          · rw [if_pos c] at h; exact absurd rfl h
          · rw [if_neg c] at h ⊢
            rw [if_neg h]
        · have h : (if a ∈ p then none else if H a = none then none else Fz a) ≠ none := h
          show (if a ∈ p then none else H a) ≠ none
          by_cases c : a ∈ p
          · rw [if_pos c] at h; exact absurd rfl h
          · rw [if_neg c] at h ⊢
            by_cases c2 : H a = none
            · rw [if_pos c2] at h; exact absurd rfl h
            · exact c2
        · have hj : j < ars.length := by rw [← la]; exact (List.getElem?_eq_some_iff.mp e).1
          obtain ⟨s', v, e1, e2, e3, e4⟩ := getV j _ (List.getElem?_eq_getElem hj)
          rw [e] at e1
          cases e1
          generalize ars[j] = r at e2 e4
          cases r with
          | fz d => cases e2
          | own t =>
            cases e2
            have := e4.1
            cases this
          | io k =>
            unfold argS at e2
            cases q2 : δ[k]? with
            | none => simp only [q2] at e2; cases e2
            | some t => cases t <;> (simp only [q2] at e2; cases e2)
      refine ⟨_, Fz, _, δa, Rc, ?_⟩
      have calN : ∀ a, H a ≠ none → a ∉ p → calB H p a ≠ none := fun a h1 h2 => by
        show (if a ∈ p then none else H a) ≠ none
        rw [if_neg h2]
        exact h1
      -- what comes back
      have fin : ∀ {δ' : List Sl} {H' Fz' : Hp} {F' : Nat → List Addr}, Same Fz Fz' → Rl K ⟨calB H p, calF0 H Fz p, [], []⟩ Fz' F' δ' (vs.map some) H' → ∃ Fn, Rl K b Fz' Fn (backS ars δ' δ) σ H' ∧ ∀ m a, a ∈ Fn m → calB H p a ≠ none ∨ ∃ i, a ∈ F' i := by
        intro δ' H' Fz' F' s R'
        have outF : ∀ k, k ∉ iosOf δ ars → ∀ a ∈ F k, a ∉ p := fun k hk a ha z => by
          rcases pin a z with ⟨m, e1, e2⟩ | ⟨j, e⟩
          · exact hk (by rw [R.dj k m a ha e2]; exact e1)
          · exact (A.off j a e).2.2.2 k ha
        have R1 := (R.clear (iosOf δ ars)).move (Fz' := Fz') (H' := H') s R'.le (fun a o e => ?_) (fun k a ha => ?_) (fun a ha => ?_)
        · refine Rl.putBack (b := b) R' (fun a ha => ?_) ars δ' 0 _ _ R1 (by have := R'.len; rw [List.length_map, A.len] at this; exact this.symm) (fun i t e => by rwa [Nat.zero_add]) (fun i k e => ?_) (fun m a ha => ?_)
          · cases q : b.B a with
            | none => exact absurd q ha
            | some o => exact calN a (by rw [R.base a o q]; simp) fun z => by rw [pB a z] at q; cases q
          · obtain ⟨v, e1, e2⟩ := A.at_ i _ e
            exact ⟨v, by rwa [Nat.zero_add], e2.2⟩
          · have ha : a ∈ (if m ∈ iosOf δ ars then [] else F m) := ha
            by_cases c : m ∈ iosOf δ ars
            · rw [if_pos c] at ha; cases ha
            · rw [if_neg c] at ha
              exact .inl (calN a (R.on m a ha) (outF m c a ha))
        · have hn : a ∉ p := fun z => by rw [pB a z] at e; cases e
          exact R'.base a o (by
            show (if a ∈ p then none else H a) = some o
            rw [if_neg hn]
            exact R.base a o e)
        · have ha : a ∈ (if k ∈ iosOf δ ars then [] else F k) := ha
          by_cases c : k ∈ iosOf δ ars
          · rw [if_pos c] at ha; cases ha
          · rw [if_neg c] at ha
            have hn := outF k c a ha
            have nn := calN a (R.on k a ha) hn
            refine ⟨?_, ?_⟩
            · cases q : H a with
              | none => exact absurd q (R.on k a ha)
              | some o => exact R'.base a o (by
                  show (if a ∈ p then none else H a) = some o
                  rw [if_neg hn]
                  exact q)
            · rw [R'.keep a nn]
              show (if a ∈ p then none else if H a = none then none else Fz a) = none
              rw [if_neg hn, if_neg (R.on k a ha)]
              exact R.offF k a ha
        · have hn : a ∉ p := fun z => ha (pB a z)
          have hH : H a ≠ none := by
            cases q : b.B a with
            | none => exact absurd q ha
            | some o => rw [R.base a o q]; simp
          rw [R'.keep a (calN a hH hn)]
          show (if a ∈ p then none else if H a = none then none else Fz a) = Fz a
          rw [if_neg hn, if_neg hH]
      cases q2 : f δa with
      | bad => simp only [q2] at P; exact P
      | er x δ' =>
        simp only [q2] at P
        intro c dd H' Fz' F' s R' e
        obtain ⟨Fn, Rn, _⟩ := fin s R'
        exact P c dd H' Fz' Fn s Rn e
      | ok r δ' =>
        simp only [q2] at P
        intro v H' Fz' F' s R' Ar
        obtain ⟨Fn, Rn, hn⟩ := fin s R'
        refine P v H' Fz' Fn s Rn ?_
        obtain ⟨ht, g, h1, h2, h3⟩ := Ar
        have gn : ∀ a ∈ g, calB H p a = none := fun a ha => (h3 a ha).2.1
        have gen : AvR K b Fz' Fn H' σ v (.tmp r) := ⟨ht, g, h1, h2, fun a ha => ⟨(h3 a ha).1, ?_, (h3 a ha).2.2.1, fun m hm => ?_⟩⟩
        · cases r with
          | fz d =>
            obtain ⟨e, v', e1, e2⟩ := h1
            cases e1
            exact e2
          | no => cases ht
          | al x j => cases ht
          | ol xs => exact gen
          | od kvs => exact gen
        · cases q : b.B a with
          | none => rfl
          | some o => exact absurd (gn a ha) (calN a (by rw [R.base a o q]; simp) fun z => by rw [pB a z] at q; cases q)
        · rcases hn m a hm with z | ⟨i, z⟩
          · exact z (gn a ha)
          · exact (h3 a ha).2.2.2 i z
  · rw [if_neg nd] at P
    exact P.elim
end
structure FnG (P : Program) (w : World) (K : PySem.W.Frag) (mg : Str → Option Value) (base : Heap) (k : Nat) (f : Addr) (fd : FuncData) (ps : List Str) (sp : Sp) : Prop where
  len : ∀ vs H Q E, sp vs H Q E → vs.length = ps.length
  run : ∀ (A : Around) (outer : List Env) (s : Shared) (H : Hp) (args : Args) (us : List Value) (vs : List V) (Q : VK) (E : XK), A.guards = some [] → Room k A → Env0 P w K mg base A outer s H → BindsTo s fd args (ps.zip us) → Vals vs us → sp vs H Q E →
    codeAny (model P w) A (.call (.ref f) args) (CR (L2.CX P w) outer P w H s Q E) s
theorem FnG.mono {P : Program} {w : World} {K : PySem.W.Frag} {mg : Str → Option Value} {base : Heap} {j k : Nat} {f : Addr} {fd : FuncData} {ps : List Str} {sp : Sp} (F : FnG P w K mg base j f fd ps sp) (h : j ≤ k) : FnG P w K mg base k f fd ps sp :=
  ⟨F.len, fun A outer s H args us vs Q E hg hr => F.run A outer s H args us vs Q E hg (hr.mono h)⟩
section
variable {X : Cx} {k : Nat} {f : Addr} {fd : FuncData} {ps : List Str} {W : WX} {pin : List Nat} {x : Str} {p pos : Pos} {e : Expr} {es : List Expr} {n : Nat} {F : List Sl → FR} {g : List Sl → Rs (List Ar)} {ds : List Value} {dd : List PyData}
/-- a call of it, by values -/
theorem run_G (G : FnG X.prog X.w X.K X.mg X.base k f fd ps (spF X.K X.mg n F)) (hr : Room k X.A) (hgd : X.A.guards = some []) {pins : List (Addr × Obj)} {σ : L2.St} {H : Hp} {s : Shared} {Q : VK} {us : List Value} {vs dvs : List V} (hx : PassesAt (L2.CX X.prog X.w) X σ (WE W σ))
    (hb : Binds X.K fd ps ds) (hd : Vals dvs ds) (I : Inv X pins σ H s) (r : Vals vs us) (h : spF X.K X.mg n F (vs ++ dvs) H Q (WE W σ)) : wpAny (model X.prog X.w) X.A (call (.ref f) us) (EP X pins σ Q) X.xe s := by
  have r2 := r.append hd
  have hl : (us ++ ds).length = ps.length := r2.length.symm.trans (G.len _ _ _ _ h)
  have go := G.run X.A X.stack s H ⟨us, []⟩ (us ++ ds) (vs ++ dvs) Q (WE W σ) hgd hr I.env0 (hb s us I.kIn hl) r2 h
  refine wpAny_call (codeAny_mono go fun res s' hq => ?_)
  match res, hq with
  | .error err, hq => exact hx pins H s err s' I hq
  | .ok (.ret u), hq => exact I.after hq
theorem arOk_dfl {K : PySem.W.Frag} {b : Bk} {Fz : Hp} {F : Nat → List Addr} {H : Hp} {σ : L2.St} {vs : List V} {ars : List Ar} {G : Nat → List Addr} (A : ArOk K b Fz F H σ vs ars G) {dvs : List V} (h : RpL K Fz dvs dd) :
    ArOk K b Fz F H σ (vs ++ dvs) (ars ++ dd.map .fz) (fun j => if j < ars.length then G j else []) := by
  refine ⟨by simp [A.len, h.len], fun j a e => ?_, fun j => ?_, fun i j a h1 h2 => ?_, fun j a h1 => ?_⟩
  · by_cases c : j < ars.length
    · rw [List.getElem?_append_left c] at e
      obtain ⟨v, e1, e2⟩ := A.at_ j a e
      exact ⟨v, by rw [List.getElem?_append_left (by rw [A.len]; exact c)]; exact e1, by rw [if_pos c]; exact e2⟩
    · rw [List.getElem?_append_right (by omega), List.getElem?_map] at e
      cases q : dd[j - ars.length]? with
      | none => rw [q] at e; cases e
      | some d =>
        rw [q] at e
        cases e
        obtain ⟨v, e1, e2⟩ := h.get q
        exact ⟨v, by rw [List.getElem?_append_right (by rw [A.len]; omega), A.len]; exact e1, by rw [if_neg c], e2⟩
  · by_cases c : j < ars.length
    · rw [if_pos c]; exact A.nd j
    · rw [if_neg c]; exact List.nodup_nil
  · have h1 : a ∈ (if i < ars.length then G i else []) := h1
    have h2 : a ∈ (if j < ars.length then G j else []) := h2
    by_cases c : i < ars.length
    · by_cases c2 : j < ars.length
      · rw [if_pos c] at h1
        rw [if_pos c2] at h2
        exact A.dj i j a h1 h2
      · rw [if_neg c2] at h2; cases h2
    · rw [if_neg c] at h1; cases h1
  · have h1 : a ∈ (if j < ars.length then G j else []) := h1
    by_cases c : j < ars.length
    · rw [if_pos c] at h1; exact A.off j a h1
    · rw [if_neg c] at h1; cases h1
theorem rpl_flat {K : PySem.W.Frag} {H : Hp} : ∀ {dd : List PyData}, dd.all flatD = true → RpL K H (dd.map dV) dd
  | [], _ => .nil
  | d :: dd, h => by
    rw [List.all_cons, Bool.and_eq_true] at h
    exact .cons (rp_flat h.1) (rpl_flat h.2)
theorem call_rd {K : PySem.W.Frag} {mg : Str → Option Value} {W : WX} (hflat : dd.all flatD = true) (hlen : ∀ δ ars δ', g δ = .ok ars δ' → ars.length + dd.length = n) : ∀ σ H Q, rdE K mg W pin (sCall F dd g) σ H Q → rdAr K mg W pin g σ H fun vs H1 => spF K mg n F (vs ++ dd.map dV) H1 Q (WE W σ) := fun σ H Q ⟨b, Fz, Ff, δ, hp, R, P⟩ => by
  refine ⟨b, Fz, Ff, δ, hp, R, ?_⟩
  unfold sCall at P
  cases q : g δ with
  | bad => rw [q] at P; exact P
  | er x δ' => rw [q] at P; exact P
  | ok ars δ' =>
    rw [q] at P
    intro vs H' Fz' F' G s R' A
    have A' := arOk_dfl (dd := dd) A (rpl_flat hflat)
    have h := call_ok (mg := mg) (W := W) (f := F) R' A' (Post.le s P)
    have e : (ars ++ dd.map Ar.fz).length = n := by
      rw [List.length_append, List.length_map]
      exact hlen _ _ _ q
    rw [e] at h
    exact h
theorem se_call (G : FnG X.prog X.w X.K X.mg X.base k f fd ps (spF X.K X.mg n F)) (hr : Room k X.A) (hgd : X.A.guards = some []) (hx : ∀ σ, PassesAt (L2.CX X.prog X.w) X σ (WE W σ)) (hg : Gl X x) (hm : X.mg x = some (.ref f)) (hk : PySem.W.keepIn X.K (.ref f) = true)
    (hb : Binds X.K fd ps ds) (hd : Vals (dd.map dV) ds) (hflat : dd.all flatD = true) (ha : SAr X W pin (e :: es) g) (hlen : ∀ δ ars δ', g δ = .ok ars δ' → ars.length + dd.length = n)
    (hdb : (x == ("__debug__" : Str)) = false := by decide) (he : starEach (e :: es) X.env = (false, eval e X.env) :: starEach es X.env := by rfl) (hpl : (backTo pos (starEach es X.env)).any (·.1) = false := by rfl) :
    SE X W pin (.Call (.Name x p) (e :: es) [] pos) (sCall F dd g) := by
  refine ⟨fun pins s σ H Q I h => wpAny_Call_Name_kw (ld_glob I hg hm ?_ hdb)⟩
  have h2 := call_rd (n := n) hflat hlen σ H Q h
  refine PySem.W.callWith_K (h₀ := X.base) I.ok.mod.kin hk (thn (ha.run pos pins s σ H _ I h2) fun us s1 q => ?_) he hpl
  obtain ⟨vs, H1, I1, r, q⟩ := q
  exact ⟨I1.kIn, run_G G hr hgd (hx σ) hb hd I1 r q⟩
theorem len_rNil : ∀ δ ars δ', rNil δ = .ok ars δ' → ars.length = 0 := fun _ _ _ e => by cases e; rfl
theorem len_rCons {f : List Sl → Rs AV} {m : Nat} (h : ∀ δ ars δ', g δ = .ok ars δ' → ars.length = m) : ∀ δ ars δ', rCons f g δ = .ok ars δ' → ars.length = m + 1 := fun δ ars δ' e => by
  unfold rCons at e
  cases q : f δ with
  | bad => rw [q] at e; cases e
  | er x d => rw [q] at e; cases e
  | ok a δ1 =>
    rw [q] at e
    have e : (match arOf a with
      | some r => (g δ1).bind fun rs δ2 => .ok (r :: rs) δ2
      | none => .bad) = Rs.ok ars δ' := e
    cases q2 : arOf a with
    | none => simp only [q2] at e; cases e
    | some r =>
      simp only [q2] at e
      cases q3 : g δ1 with
      | bad => rw [q3] at e; cases e
      | er x d => rw [q3] at e; cases e
      | ok rs δ2 =>
        rw [q3] at e
        cases e
        simp [h _ _ _ q3]
theorem len_rIo {j m : Nat} (h : ∀ δ ars δ', g δ = .ok ars δ' → ars.length = m) : ∀ δ ars δ', rIo j g δ = .ok ars δ' → ars.length = m + 1 := fun δ ars δ' e => by
  unfold rIo at e
  cases q : sVar j δ with
  | bad => rw [q] at e; cases e
  | er x d => rw [q] at e; cases e
  | ok a δ1 =>
    rw [q] at e
    have e : ((g δ1).bind fun rs δ2 => Rs.ok (Ar.io j :: rs) δ2) = Rs.ok ars δ' := e
    cases q3 : g δ1 with
    | bad => rw [q3] at e; cases e
    | er x d => rw [q3] at e; cases e
    | ok rs δ2 =>
      rw [q3] at e
      cases e
      simp [h _ _ _ q3]
end
end Hb
namespace Hb
open PySem PySem.Spec PyProof.Rows L2
def outs (n : Nat) (pin : List Nat) (δ : List Sl) : List Sl := (List.range n).map fun i => if i ∈ pin then noAl ((δ[i]?).getD .no) else .no
def fnRun (n m : Nat) (pin : List Nat) (body : List Sl → Ot) : List Sl → FR := fun δ => match body (δ ++ List.replicate (m - n) .no) with
  | .nx δ' => .ok (.fz .none) (outs n pin δ')
  | .rt s δ' => .ok s (outs n pin δ')
  | .er x δ' => .er x (outs n pin δ')
  | _ => .bad
def oF (pin : List Nat) (n : Nat) (F : Nat → List Addr) : Nat → List Addr := fun i => if i < n ∧ i ∈ pin then F i else []
theorem no_al {s : Sl} {x j : Nat} : noAl s ≠ .al x j := by cases s <;> simp [noAl]
theorem start_get {N : List Str} {vs : List V} {i : Nat} (h : i < vs.length) : (L2.start N vs)[i]? = (vs.map some)[i]? := by
  unfold L2.start
  rw [List.getElem?_append_left (by simpa using h)]
section
variable {K : PySem.W.Frag} {mg : Str → Option Value} {b : Bk} {Fz : Hp} {F : Nat → List Addr} {δ : List Sl} {H : Hp} {vs : List V} {N : List Str} {pin : List Nat}
theorem rl_in (R : Rl K b Fz F δ (vs.map some) H) (hN : vs.length ≤ N.length) : Rl K ⟨b.B, b.F0, pin, L2.start N vs⟩ Fz (fun i => if i < vs.length then F i else []) (δ ++ List.replicate (N.length - vs.length) .no) (L2.start N vs) H := by
  have hl : δ.length = vs.length := by have := R.len; simpa using this.symm
  refine ⟨R.le, R.base, ?_, fun i s e => ?_, fun i => ?_, fun i j a h1 h2 => ?_, fun i a h => ?_, fun i a h => ?_, fun i a h => ?_, R.keep, R.f0, fun _ _ => rfl, fun i x j e => ?_⟩
  · unfold L2.start
    simp [hl]
  · by_cases c : i < vs.length
    · rw [List.getElem?_append_left (by omega)] at e
      rw [start_get c, if_pos c]
      have h := R.slot i s e
      cases s with
      | al x j =>
        obtain ⟨h1, a, b', ws, h2, h3⟩ := h
        refine ⟨h1, a, b', ws, ?_, h3⟩
        have hx : x < vs.length := by
          by_cases q : x < vs.length
          · exact q
          · rw [List.getElem?_eq_none (by simpa using q)] at h2
            cases h2
        rw [start_get hx]
        exact h2
      | no => exact h
      | fz d => exact h
      | ol xs => exact h
      | od kvs => exact h
    · rw [List.getElem?_append_right (by omega), List.getElem?_replicate] at e
      split at e
      · cases e
        exact if_neg c
      · cases e
  · by_cases c : i < vs.length
    · rw [if_pos c]; exact R.nd i
    · rw [if_neg c]; exact List.nodup_nil
  · have h1 : a ∈ (if i < vs.length then F i else []) := h1
    have h2 : a ∈ (if j < vs.length then F j else []) := h2
    by_cases c : i < vs.length
    · by_cases c2 : j < vs.length
      · rw [if_pos c] at h1
        rw [if_pos c2] at h2
        exact R.dj i j a h1 h2
      · rw [if_neg c2] at h2; cases h2
    · rw [if_neg c] at h1; cases h1
  · have h : a ∈ (if i < vs.length then F i else []) := h
    by_cases c : i < vs.length
    · rw [if_pos c] at h; exact R.offF i a h
    · rw [if_neg c] at h; cases h
  · have h : a ∈ (if i < vs.length then F i else []) := h
    by_cases c : i < vs.length
    · rw [if_pos c] at h; exact R.offB i a h
    · rw [if_neg c] at h; cases h
  · have h : a ∈ (if i < vs.length then F i else []) := h
    by_cases c : i < vs.length
    · rw [if_pos c] at h; exact R.on i a h
    · rw [if_neg c] at h; cases h
  · by_cases c : i < δ.length
    · rw [List.getElem?_append_left c] at e
      obtain ⟨xs, hx⟩ := R.als i x j e
      exact ⟨xs, by rw [List.getElem?_append_left (List.getElem?_eq_some_iff.mp hx).1]; exact hx⟩
    · rw [List.getElem?_append_right (by omega), List.getElem?_replicate] at e
      split at e <;> cases e
theorem rl_out {Fz0 : Hp} {F0 : Nat → List Addr} {δ0 : List Sl} {H0 : Hp} (R0 : Rl K b Fz0 F0 δ0 (vs.map some) H0) {σ : L2.St} (R : Rl K ⟨b.B, b.F0, pin, L2.start N vs⟩ Fz F δ σ H) : Rl K b Fz (oF pin vs.length F) (outs vs.length pin δ) (vs.map some) H := by
  have inF : ∀ i a, a ∈ oF pin vs.length F i → i < vs.length ∧ i ∈ pin ∧ a ∈ F i := fun i a h => by
    unfold oF at h
    by_cases c : i < vs.length ∧ i ∈ pin
    · rw [if_pos c] at h
      exact ⟨c.1, c.2, h⟩
    · rw [if_neg c] at h
      cases h
  have gt : ∀ i, i < vs.length → (outs vs.length pin δ)[i]? = some (if i ∈ pin then noAl ((δ[i]?).getD .no) else .no) := fun i h => by
    unfold outs
    rw [List.getElem?_map, List.getElem?_range h]
    rfl
  refine ⟨R.le, R.base, by simp [outs], fun i s e => ?_, fun i => ?_, fun i j a h1 h2 => R.dj i j a (inF i a h1).2.2 (inF j a h2).2.2, fun i a h => R.offF i a (inF i a h).2.2, fun i a h => R.offB i a (inF i a h).2.2, fun i a h => R.on i a (inF i a h).2.2, R.keep, R.f0, R0.pin, fun i x j e => ?_⟩
  · have hi : i < vs.length := by
      have := (List.getElem?_eq_some_iff.mp e).1
      simpa [outs] using this
    rw [gt i hi] at e
    cases e
    unfold oF
    by_cases c : i ∈ pin
    · rw [if_pos c, if_pos ⟨hi, c⟩]
      have hp : σ[i]? = (L2.start N vs)[i]? := R.pin i c
      rw [start_get hi] at hp
      rw [← hp]
      cases q : δ[i]? with
      | none =>
        exfalso
        have h1 : i < σ.length := by
          have : σ[i]? = some (some vs[i]) := by rw [hp, List.getElem?_map, List.getElem?_eq_getElem hi]; rfl
          exact (List.getElem?_eq_some_iff.mp this).1
        rw [R.len] at h1
        rw [List.getElem?_eq_getElem h1] at q
        cases q
      | some t => exact noAl_ok (R.slot i t q)
    · rw [if_neg c, if_neg (fun z => c z.2)]
      rfl
  · unfold oF
    by_cases c : i < vs.length ∧ i ∈ pin
    · rw [if_pos c]; exact R.nd i
    · rw [if_neg c]; exact List.nodup_nil
  · have hi : i < vs.length := by
      have := (List.getElem?_eq_some_iff.mp e).1
      simpa [outs] using this
    rw [gt i hi] at e
    by_cases c : i ∈ pin
    · rw [if_pos c] at e
      exact absurd (Option.some.inj e) no_al
    · rw [if_neg c] at e
      cases e
theorem av_out {σ : L2.St} {v : V} {s : Sl} {n : Nat} (A : AvR K b Fz F H σ v (.tmp s)) : AvR K b Fz (oF pin n F) H (vs.map some) v (.tmp s) := by
  obtain ⟨h1, g, h2, h3, h4⟩ := A
  refine ⟨h1, g, h2, h3, fun a ha => ⟨(h4 a ha).1, (h4 a ha).2.1, (h4 a ha).2.2.1, fun i hi => ?_⟩⟩
  unfold oF at hi
  by_cases c : i < n ∧ i ∈ pin
  · rw [if_pos c] at hi
    exact (h4 a ha).2.2.2 i hi
  · rw [if_neg c] at hi
    cases hi
end
theorem body_ok {K : PySem.W.Frag} {mg : Str → Option Value} {N : List Str} {vs : List V} {H : Hp} {Q : VK} {E : XK} {n : Nat} {pin : List Nat} {body : List Sl → Ot} (hN : n ≤ N.length) (h : spF K mg n (fnRun n N.length pin body) vs H Q E) :
    rdS K mg (fun cls d _ H => E cls d H) pin body { nx := fun _ H' => Q .non H', rt := Q } (L2.start N vs) H := by
  obtain ⟨hl, b, Fz, F, δ, R, P⟩ := h
  subst hl
  refine ⟨_, Fz, _, _, rfl, rl_in (pin := pin) R hN, ?_⟩
  unfold fnRun at P
  cases q : body (δ ++ List.replicate (N.length - vs.length) .no) with
  | bad => rw [q] at P; exact P
  | bk δ' => rw [q] at P; exact P.elim
  | ct δ' => rw [q] at P; exact P.elim
  | nx δ' =>
    rw [q] at P
    exact fun σ' H' Fz' F' s R' => P .non H' Fz' _ s (rl_out R R') ⟨rfl, [], ⟨rfl, _, rfl, .non⟩, List.nodup_nil, fun _ z => nomatch z⟩
  | rt t δ' =>
    rw [q] at P
    exact fun v σ' H' Fz' F' s R' A => P v H' Fz' _ s (rl_out R R') (av_out (b := b) (σ := σ') A)
  | er x δ' =>
    rw [q] at P
    exact fun c dd σ' H' Fz' F' s R' e => P c dd H' Fz' _ s (rl_out R R') e
/-- the context of a def's body -/
abbrev GX (P : Program) (w : World) (K : PySem.W.Frag) (mg : Str → Option Value) (base : Heap) (N : List Str) (qual : Str) (scope : Scope) (f : Addr) (cd : Value) (A : Around) (outer : List Env) (s : Shared) (H : Hp) (E : XK) : Cx := cxOf (L2.CX P w) P w K mg base N qual scope f cd A outer s H E
abbrev GW (E : XK) : WX := fun cls d _ H => E cls d H
theorem fnG_of {P : Program} {w : World} {K : PySem.W.Frag} {mg : Str → Option Value} {base : Heap} {k : Nat} {f : Addr} {name qual : Str} {params : Arguments} {body : List Stmt} {scope : Scope} {dV kV doc pm cdv ct oc : Value} {an od : Option Addr}
    {osl : Array (Option Value)} {N ps : List Str} {n : Nat} {pin : List Nat} {fb : List Sl → Ot} (lk : K.lookup f = some ⟨oc, od, .func (PySem.W.fnOf name qual params body scope dV kV doc pm an cdv ct), osl⟩) (hcd : PySem.W.codeIn K cdv qual = true) (S : FnScope N ps scope)
    (hn : ps.length = n)
    (hbody : ∀ (A : Around) (outer : List Env) (s : Shared) (H : Hp) (E : XK), Room k (A.deeper (envOfC qual scope s.heap.objs.size f cdv)) → A.guards = some [] →
      SSs (GX P w K mg base N qual scope f cdv A outer s H E) (GW E) pin body fb) :
    FnG P w K mg base (k + 1) f (PySem.W.fnOf name qual params body scope dV kV doc pm an cdv ct) ps (spF K mg n (fnRun n N.length pin fb)) := by
  have hpl : n ≤ N.length := by have := congrArg List.length S.pre; rw [List.length_take] at this; omega
  refine ⟨fun vs H Q E h => h.1.trans hn.symm, fun A outer s H args us vs Q E hgd hr e0 hb r hsp => ?_⟩
  have hl : vs.length = ps.length := hsp.1.trans hn.symm
  have KX : K.In s.heap := e0.mod.kin.keeps fun b o e => (e0.bs b o e).1
  have lim : s.heap.NoLimit := e0.mod.nolimit.keeps fun b o e => (e0.bs b o e).1
  have hkind : ∀ y ∈ ps.zip us, scope.names.lookup y.1 = some .local ∨ (scope.names.lookup y.1 = some .cell ∧ ((cellsFrom (s.heap.objs.size + 1) scope.names []).lookup y.1).isSome = true) := fun ⟨n, v⟩ hy => by
    rcases S.par n (List.of_mem_zip hy).1 with q | q
    · exact .inl q
    · exact .inr ⟨q, PySem.W.cellsFrom_some _ _ _ (.inl q)⟩
  refine codeAny_call_function hr.depth (KX _ _ lk) rfl S.co S.gen rfl (PySem.W.codeRec_of KX hcd) (hb _ _ _ _ ?_)
  refine wpAny_newFunctionEnv_cells S.kind hkind fun env he s1 x => ?_
  subst he
  refine ⟨lim.keeps x.toInCall.keep, codeAny_func ?_⟩
  have ht := hbody A outer s H E (hr.deeper _) hgd
  have hq := body_ok hpl hsp
  have I : Inv (GX P w K mg base N qual scope f cdv A outer s H E) [] (L2.start N vs) H s1 := inv_start S hr.hd e0 hl r x
  refine wpAny_mono (ht.run [] s1 (L2.start N vs) H _ I hq) (fun fl s' hs => ?_) fun e s' hs => hs
  have fin : ∀ {σ' : L2.St} {H' : Hp} {v : V} {u : Value}, Inv (GX P w K mg base N qual scope f cdv A outer s H E) [] σ' H' s' → RelV v u → Q v H' → CE outer P w H s Q u s' :=
    fun {σ' H' v u} J rv q => ⟨v, H', J.os, J.bare, J.base, J.hok, rv, q⟩
  cases fl with
  | ret u =>
    obtain ⟨v, σ', H', J, rv, q⟩ := hs
    exact fin J rv q
  | next =>
    obtain ⟨σ', H', J, q⟩ := hs
    exact fin (v := V.non) (u := Value.none) J rfl q
  | brk =>
    obtain ⟨_, _, _, q⟩ := hs
    exact False.elim q
  | cont =>
    obtain ⟨_, _, _, q⟩ := hs
    exact False.elim q
theorem gx_pass {P : Program} {w : World} {K : PySem.W.Frag} {mg : Str → Option Value} {base : Heap} {N : List Str} {qual : Str} {scope : Scope} {f : Addr} {cd : Value} {A : Around} {outer : List Env} {s : Shared} {H : Hp} {E : XK} :
    ∀ σ, PassesAt (L2.CX P w) (GX P w K mg base N qual scope f cd A outer s H E) σ (WE (GW E) σ) := passAt (X := GX P w K mg base N qual scope f cd A outer s H E) (W := GW E) (takes_of rfl rfl rfl rfl)
theorem w0_pass {X : Cx} {P : Program} {w : World} : ∀ σ, PassesAt (L2.CX P w) X σ (WE W0 σ) := fun σ pins H s e s' I h => by
  obtain ⟨_, _, _, _, _, _, _, _, _, _, _, _, z⟩ := h
  exact z.elim
theorem sp_law {K : PySem.W.Frag} {mg : Str → Option Value} {F : List Sl → FR} {H : Hp} {a : Addr} {ns : List Int} {δ : List Sl} (hX : SqX K H a (ns.map V.int)) (h : F [.fz (.list (ns.map PyData.int))] = .ok (.fz (.bool true)) δ) :
    spF K mg 1 F [.ref a] H (fun v _ => v = .bl true) fun _ _ _ => False := by
  have rL : ∀ ns : List Int, RpL K H (ns.map V.int) (ns.map PyData.int) := fun ns => by
    induction ns with
    | nil => exact .nil
    | cons n r ih => exact .cons (.int n) ih
  refine ⟨rfl, ⟨H, H, [], []⟩, H, fun _ => [], [.fz (.list (ns.map PyData.int))], ⟨Same.refl _, Same.refl _, rfl, fun i s e => ?_, fun _ => List.nodup_nil, fun _ _ _ z => (nomatch z), fun _ _ z => (nomatch z), fun _ _ z => (nomatch z), fun _ _ z => (nomatch z), fun _ _ => rfl, fun _ h => h, fun _ z => (nomatch z), fun i x j e => ?_⟩, ?_⟩
  · cases i with
    | zero =>
      cases e
      exact ⟨rfl, _, rfl, .lst hX (rL ns)⟩
    | succ i => cases e
  · cases i with
    | zero => cases e
    | succ i => cases e
  · rw [h]
    intro v H' Fz' F' s R A
    obtain ⟨_, g, ⟨_, v', e, r⟩, _⟩ := A
    cases e
    cases r
    rfl
/-- the head's end: the law is called over a ground that shows nothing but the script -/
theorem lawG {P : Program} {w : World} {K : PySem.W.Frag} {mg mb : Str → Option Value} {k : Nat} {fa a : Addr} {fd : FuncData} {x : Str} {sp : Sp} {s₁ : Shared} {vs : List Value} {ns : List Int}
    (KX : K.In s₁.heap) (hns : s₁.heap.Ns mainGlobals mg) (hb : s₁.heap.Ns builtinsNs mb) (hbb : ∀ x : Str, x ≠ "__name__" → mb x = bootBuiltins x) (hlim : s₁.heap.NoLimit) (hg : s₁.gens = #[])
    (ha : s₁.heap.get? a = some { cls := .type "list", data := .seq vs.toArray }) (hi : IntsAre vs ns) (hl : ns.length ≤ sizeLine) (hr : Room k callerA)
    (FF : ∀ bs : Heap, K.In bs → bs.Ns mainGlobals mg → FnG P w K mg bs k fa fd [x] sp) (hbind : ∀ (s : Shared) (u : Value), BindsTo s fd ⟨[u], []⟩ [(x, u)])
    (hsp : ∀ H : Hp, SqX K H a (ns.map V.int) → sp [.ref a] H (fun v _ => v = .bl true) fun _ _ _ => False) :
    codeAny (model P w) callerA (.call (.ref fa) ⟨[.ref a], []⟩) (fun r s' => r = .ok (.ret (.bool true)) ∧ OldK s₁.heap s'.heap ∧ s'.os = s₁.os ∧ AllBare s'.gens) s₁ := by
  have rv := vals_ints hi
  have nv := hi.length
  have main : ∀ G : Hp, Only G → SqX K G a (ns.map V.int) → HOk P w G s₁.heap → (∀ c, G c ≠ none → c = a) → (G a ≠ none → K.lookup a = none) →
      codeAny (model P w) callerA (.call (.ref fa) ⟨[.ref a], []⟩) (fun r s' => r = .ok (.ret (.bool true)) ∧ OldK s₁.heap s'.heap ∧ s'.os = s₁.os ∧ AllBare s'.gens) s₁ := by
    intro G gO gS gok gA gK
    have at_a : ∀ {c : Addr} {u : HO}, G c = some u → c = a := fun {c u} e => gA c (by rw [e]; simp)
    have free : ∀ {c : Addr} {o : Obj} {es : Array DictEntry} {ep : Nat}, s₁.heap.get? c = some o → o.data = .dict es ep → G c = none := fun {c o es ep} e d => by
      cases q : G c with
      | none => rfl
      | some u =>
        have e2 := at_a q
        subst e2
        rw [ha] at e
        cases e
        exact absurd d (by intro z; cases z)
    have names : ∀ {c : Addr} {m : Str → Option Value}, s₁.heap.Ns c m → (hidT s₁.heap G).Ns c m := fun {c m} ⟨o, es, ep, e, d, r⟩ => ⟨o, es, ep, hidT_get e (free e d), d, r⟩
    have kin : K.In (hidT s₁.heap G) := fun c o e => hidT_get (KX c o e) (by
      cases q : G c with
      | none => rfl
      | some u =>
        have e2 := at_a q
        subst e2
        rw [gK (by rw [q]; simp)] at e
        cases e)
    have md : Mod K mg (hidT s₁.heap G) := ⟨kin, names hns, ⟨mb, names hb, hbb⟩, let ⟨mc, h1, h2⟩ := hlim; ⟨mc, names h1, h2⟩⟩
    have e0 : Env0 P w K mg (hidT s₁.heap G) callerA [] s₁ G := ⟨rfl, md, fun c o e => of_hidT e, Nat.le_of_eq (hidT_size _ _), trivial, fun c z => absurd (show c ∈ ([] : List Addr) from z) (by simp), gok, .of_eq hg⟩
    refine codeAny_mono ((FF _ kin (names hns)).run callerA [] s₁ G ⟨[.ref a], []⟩ [.ref a] [.ref a] _ _ rfl hr e0 (hbind s₁ (.ref a)) (.cons rfl .nil) (hsp G gS)) fun r s' h => ?_
    cases r with
    | error e =>
      obtain ⟨_, _, _, _, _, _, _, _, _, _, _, _, z⟩ := h
      exact z.elim
    | ok fl =>
      cases fl with
      | next => exact False.elim h
      | brk => exact False.elim h
      | cont => exact False.elim h
      | ret u =>
        obtain ⟨v, G2, os, bare, un, ok2, r2, q⟩ := h
        have q : v = .bl true := q
        subst q
        obtain rfl : u = Value.bool true := r2
        refine ⟨rfl, OldK.of_keep fun c o e => ?_, os, bare⟩
        cases q2 : G c with
        | none => exact un.keep c o e q2 (fun z => absurd (show c ∈ ([] : List Addr) from z) (by simp)) (by simp)
        | some u =>
          rcases gO c with z | ⟨oc, xs, z⟩
          · rw [q2] at z; cases z
          · obtain ⟨e1, _⟩ := gok c _ z
            obtain ⟨e2, _⟩ := ok2 c _ (un.frzs c oc _ z)
            rw [e] at e1
            cases e1
            exact e2
  cases hk : K.lookup a with
  | some o =>
    have e := KX a o hk
    rw [ha] at e
    cases e
    exact main (fun _ => none) (fun _ => .inl rfl) (.inr ⟨vs, 0, hk, by rw [nv]; exact hl, rv⟩) (fun c u z => nomatch z) (fun c z => absurd rfl z) fun z => absurd rfl z
  | none =>
    refine main (fun c => if c = a then some (.frz { cls := .type "list", data := .seq vs.toArray } (.lst (ns.map V.int))) else none) (fun c => ?_) (.inl (.inr ⟨_, if_pos rfl⟩)) (fun c u z => ?_) (fun c z => ?_) fun _ => hk
    · by_cases hc : c = a
      · exact .inr ⟨_, _, if_pos hc⟩
      · exact .inl (if_neg hc)
    · by_cases hc : c = a
      · have z2 := (if_pos hc).symm.trans z
        cases z2
        subst hc
        exact ⟨ha, by rw [List.length_map]; exact hl, vs, _, rv, ha⟩
      · have z2 := (if_neg hc).symm.trans z
        cases z2
    · by_cases hc : c = a
      · exact hc
      · exact absurd (if_neg hc) z
theorem walkG {l : PySem.W.OpenLaw} {n k : Nat} {q : Program} {loose : List Str} {XP : (Str → Option Value) → Heap → Prop} {YP : World → Heap → Prop} {d : DefRec} {x : Str}
    (hn : l.most = some n) (hn2 : n ≤ sizeLine) (hdf : d.params.defaults = []) (hr : Room k callerA)
    (FF : ∀ (w : World) (mg : Str → Option Value) (fa : Addr) (h : Heap), YP w h → h.Ns mainGlobals mg → mg d.name = some (.ref fa) →
      ∃ (K : PySem.W.Frag) (fd : FuncData) (sp : Sp), K.In h ∧ (∀ (s : Shared) (u : Value), BindsTo s fd ⟨[u], []⟩ [(x, u)]) ∧
        (∀ (H : Hp) (a : Addr) (ns : List Int), ns.length ≤ n → SqX K H a (ns.map V.int) → sp [.ref a] H (fun v _ => v = .bl true) fun _ _ _ => False) ∧
        ∀ bs : Heap, K.In bs → bs.Ns mainGlobals mg → FnG l.prog w K mg bs k fa fd [x] sp) :
    PySem.W.WalkO q loose XP YP l.row.toRowW d [] (fun f vs => PySem.call f vs) := by
  refine Att.attach_call hn hdf fun w s₀ s₁ mg mb fa o pm cd doc a vs ns G Y ho hd hcd hmg hobj hints hlen hg => ?_
  obtain ⟨K, fd, sp, KX, hb, hsp, hF⟩ := FF w mg fa _ Y G.T.g hmg
  exact lawG KX G.T.g G.T.b G.T.builtins G.T.nolimit hg hobj hints (Nat.le_trans hlen hn2) hr hF hb fun H hS => hsp H a ns hlen hS
end Hb
namespace Hb
open PySem PySem.Spec PyProof.Rows L2
mutual
def shw : PyData → Bool
  | .none => true
  | .bool _ => true
  | .str _ => true
  | .int i => decide (i.natAbs.log2 < 1920)
  | .list xs => shwAll xs
  | .tuple xs => shwAll xs
  | .dict kvs => kvs.isEmpty
def shwAll : List PyData → Bool
  | [] => true
  | x :: xs => shw x && shwAll xs
end
section
variable {X : Cx} {pins : List (Addr × Obj)} {σ : L2.St} {H : Hp} {s : Shared}
def RR (X : Cx) (h : Heap) (u : Value) (d : PyData) : Prop := ∃ bs as, Reads h u d as ∧ ReadAtMost h d.depth bs ∧ ReprK X.prog X.w bs h d.depth u d.shown
def RRs (X : Cx) (h : Heap) (us : List Value) (ds : List PyData) : Prop := ∃ bs as, ReadsAll h us ds as ∧ ReadAtMost h (PyData.depthAll ds) bs ∧ ReprAllK X.prog X.w bs h (PyData.depthAll ds) us (PyData.shownAll ds)
theorem rr_cons {h : Heap} {u : Value} {us : List Value} {d : PyData} {ds : List PyData} : RR X h u d → RRs X h us ds → RRs X h (u :: us) (d :: ds) := fun ⟨b1, a1, r1, m1, k1⟩ ⟨b2, a2, r2, m2, k2⟩ => by
  refine ⟨b1 ++ b2, _, .cons r1 r2, ?_, ?_⟩
  · simp only [PyData.depthAll]
    exact (m1.mono (Nat.le_max_left _ _)).append (m2.mono (Nat.le_max_right _ _))
  · simp only [PyData.depthAll, PyData.shownAll]
    exact .cons ((k1.more fun b hb => List.mem_append_left _ hb).level_le (Nat.le_max_left _ _)) (k2.more_le (fun b hb => List.mem_append_right _ hb) (Nat.le_max_right _ _))
theorem rr_leaf {h : Heap} {u : Value} {d : PyData} (r : Reads h u d []) (k : ReprIs X.prog X.w u d.shown) : RR X h u d := ⟨[], _, r, fun _ z => (nomatch z), .of_is k _ _ _⟩
theorem rr_list {h : Heap} {a : Addr} {its : List Value} {n : Nat} {ds : List PyData} (e : h.get? a = some { cls := .type "list", data := .seq its.toArray n }) : RRs X h its ds → RR X h (.ref a) (.list ds) := fun ⟨bs, as, r, m, k⟩ => by
  have rr : Reads h (.ref a) (.list ds) _ := .list e rfl rfl (by simpa using r)
  have na : a ∉ bs := not_mem_of_deeper rr (by simp only [PyData.depth]; omega) m
  refine ⟨a :: bs, _, rr, ReadAtMost.cons rr (by simp only [PyData.depth]; omega) m, ?_⟩
  simp only [PyData.depth, PyData.shown]
  cases its with
  | nil =>
    cases r
    simp only [PyData.shownAll, listText_nil]
    exact ReprK.listEmpty e rfl rfl
  | cons x l => exact ReprK.list e rfl rfl na (by simpa using k.length_eq) fun i y q => k.item i y (by simpa using q)
theorem rr_tup {h : Heap} {a : Addr} {o : Obj} {its : List Value} {n : Nat} {ds : List PyData} (e : h.get? a = some o) (hc : o.cls = .type "tuple") (hd : o.data = .seq its.toArray n) : RRs X h its ds → RR X h (.ref a) (.tuple ds) := fun ⟨bs, as, r, m, k⟩ => by
  have rr : Reads h (.ref a) (.tuple ds) _ := .tuple e hc hd (by simpa using r)
  have na : a ∉ bs := not_mem_of_deeper rr (by simp only [PyData.depth]; omega) m
  refine ⟨a :: bs, _, rr, ReadAtMost.cons rr (by simp only [PyData.depth]; omega) m, ?_⟩
  simp only [PyData.depth, PyData.shown]
  exact ReprK.tuple e hc hd na (by simpa using k)
theorem rr_dic {h : Heap} {a : Addr} {o : Obj} {n : Nat} (e : h.get? a = some o) (hc : o.cls = .type "dict") (hd : o.data = .dict #[] n) (hs : (a == sysModules) = false) : RR X h (.ref a) (.dict []) := by
  have rr : Reads h (.ref a) (.dict []) _ := .dict e hc hd (by simpa using ReadsAll.nil) (by simpa using ReadsAll.nil)
  have m : ReadAtMost h (PyData.depthKv []) [] := fun _ z => (nomatch z)
  refine ⟨a :: [], _, rr, ReadAtMost.cons rr (by simp only [PyData.depth]; omega) m, ?_⟩
  simp only [PyData.depth, PyData.shown]
  exact ReprK.dict e hc hd hs (by simp) (by simpa [PyData.shownKv] using ReprEntriesK.nil)
mutual
theorem rr_of (I : Inv X pins σ H s) : ∀ {v : V} {d : PyData} {u : Value}, Rp X.K H v d → RelV v u → shw d = true → d.shown.length ≤ sizeLine → RR X s.heap u d
  | _, _, _, .non, e, _, _ => by
    obtain rfl : _ = Value.none := e
    exact rr_leaf .none (by simp only [PyData.shown]; exact ReprIs.none)
  | _, _, _, .bl b, e, _, _ => by
    obtain rfl : _ = Value.bool b := e
    exact rr_leaf (.bool b) (by simp only [PyData.shown]; exact ReprIs.bool b)
  | _, _, _, .int i, e, hs, _ => by
    obtain ⟨t, rfl⟩ := e
    exact rr_leaf (.int i t) (by simp only [PyData.shown]; exact ReprIs.int t (by simpa [shw] using hs))
  | _, _, _, .str x, e, _, hz => by
    obtain ⟨t, rfl⟩ := e
    exact rr_leaf (.str x t) (by simp only [PyData.shown] at hz ⊢; exact ReprIs.str x t hz)
  | _, _, _, .lst (ds := ds) h1 h2, e, hs, hz => by
    obtain rfl : _ = Value.ref _ := e
    obtain ⟨its, n, r, e, _⟩ := inv_lstX I h1
    have hz' : (listText (PyData.shownAll ds)).length ≤ sizeLine := by simpa only [PyData.shown] using hz
    exact rr_list e (rrs_of I h2 r (by simpa [shw] using hs) fun t ht => Nat.le_trans (listText_mem_le ht) hz')
  | _, _, _, .tup (ds := ds) h1 h2, e, hs, hz => by
    obtain rfl : _ = Value.ref _ := e
    obtain ⟨its, r, ⟨o, e, hc, n, hd⟩, _⟩ := I.tuple (SqT.of h1)
    have hz' : (tupleText (PyData.shownAll ds)).length ≤ sizeLine := by simpa only [PyData.shown] using hz
    exact rr_tup e hc hd (rrs_of I h2 r (by simpa [shw] using hs) fun t ht => Nat.le_trans (tupleText_mem_le ht) hz')
  | _, _, _, .dK h1 h2, e, hs, _ => by
    obtain rfl : _ = Value.ref _ := e
    cases h2 with
    | cons _ _ => simp [shw] at hs
    | nil =>
      obtain ⟨_, hy, vs, kv, o, es, ep, e, hx, hd, _, pr, _⟩ := I.hok _ _ h1
      cases kv
      have : es.toList = [] := by
        generalize es.toList = l at pr
        cases pr
        rfl
      have e2 : es = #[] := by simpa using this
      subst e2
      exact rr_dic e hx.1 hd hy
  | _, _, _, .dT h1 h2, e, hs, _ => by
    obtain rfl : _ = Value.ref _ := e
    cases h2 with
    | cons _ _ => simp [shw] at hs
    | nil =>
      obtain ⟨_, hy, xs, kv, o, es, ep, e, hx, hd, pr, _⟩ := I.hok _ _ h1
      cases kv
      have e2 : es = #[] := by simpa using pr
      subst e2
      exact rr_dic e hx.1 hd hy
theorem rrs_of (I : Inv X pins σ H s) : ∀ {vs : List V} {ds : List PyData} {us : List Value}, RpL X.K H vs ds → Vals vs us → shwAll ds = true → (∀ t ∈ PyData.shownAll ds, t.length ≤ sizeLine) → RRs X s.heap us ds
  | _, _, _, .nil, r, _, _ => by
    cases r
    exact ⟨[], _, .nil, fun _ z => (nomatch z), by simp only [PyData.shownAll]; exact .nil⟩
  | _, _, _, .cons (d := d) (ds := ds) h t, r, hs, hz => by
    cases r with
    | cons r1 r2 =>
      have hs2 : shw d = true ∧ shwAll ds = true := by simpa [shwAll] using hs
      exact rr_cons (rr_of I h r1 hs2.1 (hz _ (by simp only [PyData.shownAll]; exact List.mem_cons_self))) (rrs_of I t r2 hs2.2 fun t ht => hz _ (by simp only [PyData.shownAll]; exact List.mem_cons_of_mem _ ht))
end
/-- repr(v): no repr is running -/
def rRepr (K : PySem.W.Frag) : List V → Hp → VK → Prop := fun xs H Q => ∃ v d, xs = [v] ∧ Rp K H v d ∧ (shw d = true ∧ d.depth ≤ 60) ∧ d.shown.length ≤ sizeLine ∧ Q (.str d.shown) H
theorem call_reprT (hu : X.A.units + 64 < cLine) (hg : X.A.guards = some []) : CallR X (.builtin "repr") (rRepr X.K) := by
  intro pins s σ H xs us Q I r h
  obtain ⟨v, d, rfl, hr, ⟨hs, hd⟩, hz, q⟩ := h
  obtain ⟨u, rfl, rv⟩ := vals1 r
  have fin : ∀ h' tk tk2, (∀ b o, s.heap.get? b = some o → h'.get? b = some o) → EP X pins σ Q (.str d.shown tk) { s with heap := h', toks := tk2 } := fun h' tk tk2 k => ⟨.str d.shown, H, I.kept k, ⟨_, rfl⟩, q⟩
  cases hr with
  | non =>
    obtain rfl : _ = Value.none := rv
    exact PySem.P.repr_of_none (by simpa [PyData.shown] using fin s.heap _ _ fun _ _ e => e)
  | bl b =>
    obtain rfl : _ = Value.bool b := rv
    exact PySem.P.repr_of_bool (by simpa [PyData.shown] using fin s.heap _ _ fun _ _ e => e)
  | int i =>
    obtain ⟨t, rfl⟩ := rv
    exact PySem.P.repr_of_int (by simpa [shw] using hs) (by simpa [PyData.shown] using fin s.heap _ _ fun _ _ e => e)
  | str x =>
    obtain ⟨t, rfl⟩ := rv
    exact PySem.P.repr_of_str (by simpa [PyData.shown] using fin s.heap _ _ fun _ _ e => e) (by simpa [PyData.shown] using hz)
  | lst h1 h2 =>
    rename_i a xs ds
    obtain rfl : _ = Value.ref a := rv
    obtain ⟨its, n, r, e, _⟩ := inv_lstX I h1
    have hz' : (listText (PyData.shownAll ds)).length ≤ sizeLine := by simpa only [PyData.shown] using hz
    obtain ⟨bs, as, rs, m, k⟩ := rrs_of I h2 r (by simpa [shw] using hs) fun t ht => Nat.le_trans (listText_mem_le ht) hz'
    have rr : Reads s.heap (.ref a) (.list ds) _ := .list e rfl rfl (by simpa using rs)
    have na : a ∉ bs := not_mem_of_deeper rr (by simp only [PyData.depth]; omega) m
    simp only [PyData.depth] at hd
    simp only [PyData.shown] at fin
    refine call_repr_slot (T := "list") (by omega) ⟨_, e, rfl⟩ F.slot_list_repr.toG ?_
    cases its with
    | nil =>
      cases rs
      simp only [PyData.shownAll, listText_nil] at fin
      exact call_list_repr_empty ⟨_, e, rfl⟩ e rfl ⟨_, _, rfl, fin s.heap _ _ fun _ _ e => e⟩
    | cons x l =>
      exact call_list_reprK e rfl rfl na (by simpa using k.length_eq) (fun i y q => k.item i y (by simpa using q)) hg (fun b _ => Clear.nil b) (by show X.A.units + 1 + _ < cLine; omega) (fun _ _ e => e) (fun h' u tk kk => ⟨_, _, rfl, fin h' _ _ kk⟩) hz'
  | tup h1 h2 =>
    rename_i a xs ds
    obtain rfl : _ = Value.ref a := rv
    obtain ⟨its, r, ⟨o, e, hc, n, hdd⟩, _⟩ := I.tuple (SqT.of h1)
    have hz' : (tupleText (PyData.shownAll ds)).length ≤ sizeLine := by simpa only [PyData.shown] using hz
    obtain ⟨bs, as, rs, m, k⟩ := rrs_of I h2 r (by simpa [shw] using hs) fun t ht => Nat.le_trans (tupleText_mem_le ht) hz'
    have rr : Reads s.heap (.ref a) (.tuple ds) _ := .tuple e hc hdd (by simpa using rs)
    have na : a ∉ bs := not_mem_of_deeper rr (by simp only [PyData.depth]; omega) m
    simp only [PyData.depth] at hd
    simp only [PyData.shown] at fin
    refine call_repr_slot (T := "tuple") (by omega) ⟨_, e, hc⟩ F.slot_tuple_repr ?_
    exact call_tuple_reprK e hc hdd na (by simpa using k) hg (fun b _ => Clear.nil b) (by show X.A.units + 1 + _ < cLine; omega) (fun _ _ e => e) (fun h' u tk kk => ⟨_, _, rfl, fin h' _ _ kk⟩) hz'
  | dK h1 h2 =>
    cases h2 with
    | cons _ _ => simp [shw] at hs
    | nil =>
      rename_i a
      obtain rfl : _ = Value.ref a := rv
      obtain ⟨_, hy, vs, kv, o, es, ep, e, hx, hdd, _, pr, _⟩ := I.hok _ _ h1
      cases kv
      have e1 : es.toList = [] := by
        generalize es.toList = l at pr
        cases pr
        rfl
      have e2 : es = #[] := by simpa using e1
      subst e2
      simp only [PyData.shown] at fin hz
      refine call_repr_slot (T := "dict") (by omega) ⟨_, e, hx.1⟩ F.slot_dict_repr ?_
      exact call_dict_reprK (as := []) (d := 0) e hx.1 hdd hy (by simp) .nil hg (fun b _ => Clear.nil b) (by show X.A.units + 1 + _ < cLine; omega) (fun _ _ e => e) (fun h' u tk kk => ⟨_, _, rfl, by simpa [PyData.shownKv] using fin h' _ _ kk⟩) (by simpa [PyData.shownKv] using hz)
  | dT h1 h2 =>
    cases h2 with
    | cons _ _ => simp [shw] at hs
    | nil =>
      rename_i a
      obtain rfl : _ = Value.ref a := rv
      obtain ⟨_, hy, xs, kv, o, es, ep, e, hx, hdd, pr, _⟩ := I.hok _ _ h1
      cases kv
      have e2 : es = #[] := by simpa using pr
      subst e2
      simp only [PyData.shown] at fin hz
      refine call_repr_slot (T := "dict") (by omega) ⟨_, e, hx.1⟩ F.slot_dict_repr ?_
      exact call_dict_reprK (as := []) (d := 0) e hx.1 hdd hy (by simp) .nil hg (fun b _ => Clear.nil b) (by show X.A.units + 1 + _ < cLine; omega) (fun _ _ e => e) (fun h' u tk kk => ⟨_, _, rfl, by simpa [PyData.shownKv] using fin h' _ _ kk⟩) (by simpa [PyData.shownKv] using hz)
def reprD (d : PyData) : Option PyData := if (shw d = true ∧ d.depth ≤ 60) ∧ d.shown.length ≤ sizeLine then some (.str d.shown) else none
theorem c1_repr {K : PySem.W.Frag} {mg : Str → Option Value} {W : WX} {pin : List Nat} : C1 K mg W pin (rRepr K) (gRd reprD) := c1_rd fun v d e H Q r k f q => by
  unfold reprD at k
  split at k
  · rename_i h
    cases k
    exact ⟨v, d, rfl, r, h.1, h.2, q⟩
  · cases k
end
end Hb
namespace Hb
open PySem PySem.Spec PyProof.Rows L2
def rRepX (K : PySem.W.Frag) : R2 := fun x y H Q => ∃ l k xs, x = .ref l ∧ y = .int k ∧ SqX K H l xs ∧ -(2 ^ 63) ≤ k ∧ k < 2 ^ 63 ∧ xs.length * k.toNat ≤ sizeLine ∧
  ∀ p, H p = none → Q (.ref p) (upd H p (.lst (List.replicate k.toNat xs).flatten))
theorem op_repX {X : Cx} : OpR X (binaryOp .Mult) (rRepX X.K) := by
  intro pins s σ H x y v u Q I rx ry h
  obtain ⟨l, k, xs, rfl, rfl, hX, k1, k2, hz, q⟩ := h
  cases rx
  obtain ⟨t, rfl⟩ := ry
  obtain ⟨its, n, r, e, z⟩ := inv_lstX I hX
  have hl := r.length
  have hlen : its.toArray.size * k.toNat ≤ sizeLine := by rw [List.size_toArray, ← hl]; exact hz
  have line8 : (sizeLine : Nat) ≤ (2 ^ 63 - 1) / 8 := by decide
  have notcap : ¬ its.toArray.size * k.toNat > (2 ^ 63 - 1) / 8 := by omega
  have fit : ¬ (!Builtin.List.listFitsIndex k) = true := by
    rw [fitsIndex_both k1 k2]
    exact Bool.false_ne_true
  have notlong : ¬ Builtin.List.listTooLong (its.toArray.size * k.toNat) = true := by
    rw [notLongL hlen]
    exact Bool.false_ne_true
  have made : List.foldl (fun x1 x2 => x1 ++ x2) #[] (List.replicate (if its.toArray.isEmpty = true then 0 else k.toNat) its.toArray) = (List.replicate k.toNat its).flatten.toArray := by
    have f0 : ∀ m : Nat, List.foldl (fun x1 x2 => x1 ++ x2) #[] (List.replicate m its.toArray) = (List.replicate m its).flatten.toArray := fun m => by
      have g := foldl_rep its m []
      rwa [List.nil_append] at g
    rw [f0]
    cases its with
    | nil => simp
    | cons a r' => rw [if_neg (by simp)]
  refine wpAny_binaryOp_repeat_ref (T := "list") (U := "int") (by decide) ⟨_, e, rfl⟩ (fun s' => typeIs_int s' k t) noFill_list_mul F.fills_int_mul F.slot_int_rmul repeat_list F.slot_int_index.lookup
    (call_meets F.slot_int_rmul (typeIs_int s k t) F.entry_int_rmul (F.args_int_rmul_2 _ _) (int___rmul___int_list k t l its.toArray n)
      ⟨e, rfl, ⟨_, e, rfl⟩, call_meets F.slot_list_mul ⟨_, e, rfl⟩ F.entry_list_mul (F.args_list_mul_2 _ _) (AutoListH.list___mul___list_int_3 l its.toArray n k t fit notcap notlong) ⟨e, ?_⟩⟩)
  rw [made]
  exact ⟨.ref _, _, I.lnew (t' := s.toks) (r.rep k.toNat) (by rw [PyProof.Rows.lm_len_rep_flat, Nat.mul_comm]; exact hz), rfl, q _ I.fresh⟩
def rMulX (K : PySem.W.Frag) : R2 := fun x y H Q => (rI CMul (fun i j => .int (i * j)) x y H Q ∨ rI CMulW (fun i j => .int (i * j)) x y H Q) ∨ rRepX K x y H Q
theorem op_mulX2 {X : Cx} : OpR X (binaryOp .Mult) (rMulX X.K) := OpR.or (OpR.or op_mul op_mulW) op_repX
theorem RpL.rep {K : PySem.W.Frag} {H : Hp} {vs : List V} {ds : List PyData} (h : RpL K H vs ds) : ∀ k : Nat, RpL K H (List.replicate k vs).flatten (List.replicate k ds).flatten
  | 0 => .nil
  | k + 1 => by
    rw [List.replicate_succ, List.replicate_succ, List.flatten_cons, List.flatten_cons]
    exact h.append (RpL.rep h k)
def gMulX (x y : AV) (δ : List Sl) : Rs AV := match rdC δ x, rdC δ y with
  | some (.int i), some (.int j) => if i.natAbs < 2 ^ 64 ∨ j.natAbs < 2 ^ 64 then .ok (.val (.int (i * j))) δ else .bad
  | some (.list ds), some (.int k) => if ds.length ≤ 1000 ∧ 0 ≤ k ∧ k ≤ 1000 then .ok (.tmp (.ol ((List.replicate k.toNat ds).flatten.map .fz))) δ else .bad
  | _, _ => .bad
section
variable {K : PySem.W.Frag} {mg : Str → Option Value} {W : WX} {pin : List Nat}
theorem v2_mul : V2 K mg W pin (rMulX K) gMulX := by
  intro b Fz F δ σ H v w x y Q hp R A B P
  unfold gMulX at P
  cases q1 : rdC δ x with
  | none => simp only [q1] at P; exact P.elim
  | some d =>
    cases q2 : rdC δ y with
    | none => cases d <;> (simp only [q1, q2] at P; exact P.elim)
    | some e =>
      have h1 := rdC_ok R A q1
      have h2 := rdC_ok R B q2
      cases d with
      | int i =>
        cases e with
        | int j =>
          simp only [q1, q2] at P
          by_cases c : i.natAbs < 2 ^ 64 ∨ j.natAbs < 2 ^ 64
          · rw [if_pos c] at P
            exact .inl (.inl ⟨i, j, rpc_int h1, rpc_int h2, by unfold CMul; omega, P _ H Fz F (Same.refl _) R (.int _)⟩)
          · rw [if_neg c] at P; exact P.elim
        | _ => simp only [q1, q2] at P; exact P.elim
      | list ds =>
        cases e with
        | int k =>
          simp only [q1, q2] at P
          by_cases c : ds.length ≤ 1000 ∧ 0 ≤ k ∧ k ≤ 1000
          · rw [if_pos c] at P
            obtain ⟨a1, v1, e1, s1, r1⟩ := h1.list R.le
            have l1 := r1.len
            have hk : k.toNat ≤ 1000 := by omega
            refine .inr ⟨a1, k, v1, e1, rpc_int h2, s1, by omega, by omega, ?_, post_newL R (r1.rep k.toNat) P⟩
            have := Nat.mul_le_mul (Nat.le_of_eq l1) hk
            have h3 := Nat.mul_le_mul_right 1000 c.1
            rw [sizeLine_eq]
            omega
          · rw [if_neg c] at P; exact P.elim
        | _ => simp only [q1, q2] at P; exact P.elim
      | _ => cases e <;> (simp only [q1, q2] at P; exact P.elim)
end
section
variable {X : Cx} {W : WX} {pin : List Nat} {fa fb : List Sl → Rs AV} {a c : Expr} {pos : Pos}
theorem se_mul (ha : SE X W pin a fa) (hb : SE X W pin c fb) : SE X W pin (.BinOp a .Mult c pos) (s2 gMulX fa fb) := se_bin op_mulX2 v2_mul ha hb
def rgD (a b : Int) : List PyData := (List.range (b - a).toNat).map fun i => PyData.int (a + (i : Nat))
theorem rgD_rp {K : PySem.W.Frag} {H : Hp} (a b : Int) : RpL K H (rgV a b) (rgD a b) := by
  unfold rgV rgD
  generalize List.range _ = l
  induction l with
  | nil => exact .nil
  | cons i r ih => exact .cons (.int _) ih
def mkRg (a b : Int) (δ : List Sl) : Rs AV := if (-1000000 ≤ a ∧ a ≤ 1000000) ∧ -1000000 ≤ b ∧ b ≤ 1000000 then .ok (.tmp (.ol ((rgD a b).map .fz))) δ else .bad
def gRg1 (x : AV) (δ : List Sl) : Rs AV := match rdC δ x with
  | some (.int n) => mkRg 0 n δ
  | _ => .bad
theorem mkRg_ok {K : PySem.W.Frag} {mg : Str → Option Value} {b : Bk} {Fz : Hp} {F : Nat → List Addr} {δ : List Sl} {σ : L2.St} {H : Hp} {Q : VK} {m n : Int} (R : Rl K b Fz F δ σ H) (P : Post K mg W b Fz σ Q (mkRg m n δ)) :
    RgOk m n ∧ ∀ q, H q = none → Q (.ref q) (upd H q (.lst (rgV m n))) := by
  unfold mkRg at P
  by_cases c : (-1000000 ≤ m ∧ m ≤ 1000000) ∧ -1000000 ≤ n ∧ n ≤ 1000000
  · rw [if_pos c] at P
    exact ⟨by unfold RgOk; omega, post_newL R (rgD_rp m n) P⟩
  · rw [if_neg c] at P
    exact P.elim
theorem se_lrg1 {p p2 pos2 : Pos} (hc : X.calm = true) (hg : Gl X "list") (hm : X.mg "list" = none) (hg2 : Gl X "range") (hm2 : X.mg "range" = none) (ha : SE X W pin a fa) (na : starEach [a] X.env = (false, eval a X.env) :: starEach [] X.env := by rfl)
    (nb : starEach [.Call (.Name "range" p2) [a] [] pos2] X.env = (false, eval (.Call (.Name "range" p2) [a] [] pos2) X.env) :: starEach [] X.env := by rfl) :
    SE X W pin (.Call (.Name "list" p) [.Call (.Name "range" p2) [a] [] pos2] [] pos) (s1 gRg1 fa) := pe_mono (pe_listRg hc hg hm (prg_1 hg2 hm2 (se_st ha) na) nb) fun σ H Q ⟨b, Fz, F, δ, hp, R, P⟩ => by
  refine rd_bind hp R P fun v H1 Fz1 F1 x δ1 s1 R1 A1 P1 => ?_
  unfold gRg1 at P1
  cases q : rdC δ1 x with
  | none => simp only [q] at P1; exact P1.elim
  | some d =>
    cases d with
    | int n =>
      simp only [q] at P1
      exact ⟨n, rpc_int (rdC_ok R1 A1 q), mkRg_ok R1 P1⟩
    | _ => simp only [q] at P1; exact P1.elim
end
def gIdx (x y : AV) (δ : List Sl) : Rs AV := match rdC δ x, rdC δ y with
  | some (.list ds), some d => if SeqAt.shaped (.list ds) = true ∧ SeqAt.shaped d = true then (match ds.findIdx? (fun z => PyData.eqv z d) with
    | some j => .ok (.val (.int (j : Nat))) δ
    | none => .bad) else .bad
  | _, _ => .bad
section
variable {X : Cx} {W : WX} {pin : List Nat} {fo fa : List Sl → Rs AV} {o e : Expr} {apos cpos : Pos}
def sIdx (fo fa : List Sl → Rs AV) : List Sl → Rs AV := fun δ => (sSt fo δ).bind fun x δ1 => if isLst δ1 x = true then (sSt fa δ1).bind fun y δ2 => gIdx x y δ2 else .bad
theorem se_index (hu : X.A.units + 65 < cLine) (ho : SE X W pin o fo) (ha : SE X W pin e fa) (hbase : attributeBase o "index" X.env (eval o X.env) = eval o X.env := by rfl) (hline : (apos.endLine == cpos.line) = true := by rfl)
    (hs : starEach [e] X.env = (false, eval e X.env) :: starEach [] X.env := by rfl) (hfew : ((backTo cpos (starEach [e] X.env)).all (fun x => !x.1) && (backToKw cpos (keywordEach [] X.env)).all (fun x => x.1.isSome)
      && decide ([e].length + ([] : List Keyword).length + (if ([] : List Keyword).isEmpty then 0 else 1) < 30)) = true := by rfl) :
    SE X W pin (.Call (.Attribute o "index" apos) [e] [] cpos) (sIdx fo fa) :=
  pe_mono (pe_bm PySem.F.plainAttrs_list PySem.F.slot_list_index PySem.F.type_list_index (mt_indexD hu) (se_st ho) (pa_cons (se_st ha) pa_nil hs) hbase hfew hline hs rfl) fun σ H Q ⟨b, Fz, F, δ, hp, R, P⟩ => by
    refine rd_bind hp R P fun v H1 Fz1 F1 x δ1 s1 R1 A1 P1 => ?_
    by_cases c : isLst δ1 x = true
    · rw [if_pos c] at P1
      refine ⟨isLst_ty R1 A1 c, ?_⟩
      refine rd_bind hp R1 P1 fun w H2 Fz2 F2 y δ2 s2 R2 A2 P2 => ?_
      have A1 := A1.le s2
      unfold gIdx at P2
      cases q : rdC δ2 x with
      | none => simp only [q] at P2; exact P2.elim
      | some d =>
        cases q2 : rdC δ2 y with
        | none => cases d <;> (simp only [q, q2] at P2; exact P2.elim)
        | some z =>
          cases d with
          | list ds =>
            simp only [q, q2] at P2
            by_cases c2 : SeqAt.shaped (.list ds) = true ∧ SeqAt.shaped z = true
            · rw [if_pos c2] at P2
              cases q3 : ds.findIdx? (fun u => PyData.eqv u z) with
              | none => simp only [q3] at P2; exact P2.elim
              | some j =>
                simp only [q3] at P2
                have r1 := (rdC_ok R2 A1 q).rp R2.le
                have r2 := (rdC_ok R2 A2 q2).rp R2.le
                obtain ⟨hj, hz, hn⟩ := List.findIdx?_eq_some_iff_getElem.mp q3
                cases r1 with
                | lst h1 h2 =>
                  exact ⟨_, w, z, ds, j, ds[j], rfl, rfl, rp_dp (.lst h1 h2) c2.1, rp_dp r2 c2.2, c2.1, c2.2, List.getElem?_eq_getElem hj, hz, fun m z' hm e => by
                    obtain ⟨hm2, e2⟩ := List.getElem?_eq_some_iff.mp e
                    subst e2
                    simpa using hn m hm, P2 _ H2 Fz2 F2 (Same.refl _) R2 (.int _)⟩
            · rw [if_neg c2] at P2; exact P2.elim
          | _ => cases z <;> (simp only [q, q2] at P2; exact P2.elim)
    · rw [if_neg c] at P1
      exact P1.elim
end
def noIo : List Ar → Bool
  | [] => true
  | .io _ :: _ => false
  | .fz _ :: r => noIo r
  | .own _ :: r => noIo r
def asgA : List Nat → List Ar → List Sl → Ot
  | [], [], δ => .nx δ
  | k :: ks, .fz d :: r, δ => asgA ks r (upS k (.fz d) δ)
  | k :: ks, .own s :: r, δ => asgA ks r (upS k s δ)
  | _, _, _ => .bad
def oPar (ks : List Nat) (g : List Sl → Rs (List Ar)) : List Sl → Ot := fun δ => match g δ with
  | .ok ars δ' => if noIo ars = true then asgA ks ars δ' else .bad
  | .er x δ' => .er x δ'
  | .bad => .bad
def setL (σ : L2.St) : List Nat → List V → L2.St
  | k :: ks, v :: vs => setL (σ.set k (some v)) ks vs
  | _, _ => σ
def ParH (K : PySem.W.Frag) (Fz H : Hp) (g : List Addr) (v : V) : Ar → Prop
  | .fz d => g = [] ∧ Rp K Fz v d
  | .own s => s.tree.isSome = true ∧ SlH K Fz H [] g (some v) s
  | .io _ => False
def ParOk (K : PySem.W.Frag) (b : Bk) (Fz H : Hp) : (Addr → Prop) → List V → List Ar → Prop
  | _, [], [] => True
  | U, v :: vs, a :: r => ∃ g : List Addr, ParH K Fz H g v a ∧ g.Nodup ∧ (∀ c ∈ g, Fz c = none ∧ b.B c = none ∧ H c ≠ none ∧ ¬U c) ∧ ParOk K b Fz H (fun c => U c ∨ c ∈ g) vs r
  | _, _, _ => False
theorem parOk_of {K : PySem.W.Frag} {b : Bk} {Fz H : Hp} {σ : L2.St} : ∀ {ars : List Ar} {vs : List V} {G : Nat → List Addr} {U : Addr → Prop}, vs.length = ars.length → (∀ (j : Nat) (a : Ar), ars[j]? = some a → ∃ v, vs[j]? = some v ∧ ArH K Fz H σ (G j) v a) → (∀ j, (G j).Nodup) →
    (∀ i j a, a ∈ G i → a ∈ G j → i = j) → (∀ j c, c ∈ G j → Fz c = none ∧ b.B c = none ∧ H c ≠ none ∧ ¬U c) → noIo ars = true → ParOk K b Fz H U vs ars
  | [], [], _, _, _, _, _, _, _, _ => trivial
  | [], v :: vs, _, _, h, _, _, _, _, _ => by cases h
  | a :: r, [], _, _, h, _, _, _, _, _ => by cases h
  | a :: r, v :: vs, G, U, h, hA, nd, dj, off, io => by
    obtain ⟨w, e1, e2⟩ := hA 0 a rfl
    cases e1
    refine ⟨G 0, ?_, nd 0, off 0, parOk_of (σ := σ) (G := fun j => G (j + 1)) (by simpa using h) (fun j c e => ?_) (fun j => nd _) (fun i j c h1 h2 => by have := dj _ _ c h1 h2; omega) (fun j c hc => ?_) ?_⟩
    · cases a with
      | fz d => exact e2
      | own s => exact e2
      | io k => cases io
    · obtain ⟨w, e3, e4⟩ := hA (j + 1) c (by simpa using e)
      exact ⟨w, by simpa using e3, e4⟩
    · obtain ⟨h1, h2, h3, h4⟩ := off (j + 1) c hc
      exact ⟨h1, h2, h3, fun z => z.elim h4 fun z => by have := dj _ _ c hc z; omega⟩
    · cases a with
      | fz d => exact io
      | own s => exact io
      | io k => cases io
theorem asgA_ok {K : PySem.W.Frag} {mg : Str → Option Value} {W : WX} {b : Bk} {Fz H : Hp} {D : Ends} : ∀ {ks : List Nat} {ars : List Ar} {vs : List V} {F : Nat → List Addr} {δ : List Sl} {σ : L2.St} {U : Addr → Prop}, (∀ k ∈ ks, k ∉ b.pin) → (∀ k c, c ∈ F k → U c) → Rl K b Fz F δ σ H → ParOk K b Fz H U vs ars →
    PostS K mg W b Fz D (asgA ks ars δ) → vs.length = ks.length ∧ D.nx (setL σ ks vs) H
  | [], [], [], F, δ, σ, U, _, _, R, A, P => ⟨rfl, P σ H Fz F (Same.refl _) R⟩
  | _, [], v :: vs, _, _, _, _, _, _, _, A, _ => A.elim
  | _, a :: r, [], _, _, _, _, _, _, _, A, _ => A.elim
  | [], .fz d :: r, _, _, _, _, _, _, _, _, _, P => P.elim
  | [], .own d :: r, _, _, _, _, _, _, _, _, _, P => P.elim
  | k :: ks, [], _, _, _, _, _, _, _, _, _, P => P.elim
  | _, .io m :: r, v :: vs, _, _, _, _, _, _, _, A, _ => by
    obtain ⟨_, z, _⟩ := A
    exact z.elim
  | k :: ks, .fz d :: r, v :: vs, F, δ, σ, U, hp, hU, R, A, P => by
    obtain ⟨g, ⟨h0, h1⟩, h2, h3, h4⟩ := A
    subst h0
    have R1 := R.name (s := .fz d) (v := v) (hp k List.mem_cons_self) rfl (g := []) ⟨rfl, v, rfl, h1⟩ List.nodup_nil fun _ z => nomatch z
    have hU2 : ∀ m c, c ∈ (fun m => if m = k then [] else F m) m → U c ∨ c ∈ ([] : List Addr) := fun m c hc => by
      have hc : c ∈ (if m = k then [] else F m) := hc
      by_cases e : m = k
      · rw [if_pos e] at hc; cases hc
      · rw [if_neg e] at hc; exact .inl (hU m c hc)
    obtain ⟨q1, q2⟩ := asgA_ok (fun m hm => hp m (List.mem_cons_of_mem _ hm)) hU2 R1 h4 P
    exact ⟨by simp [q1], q2⟩
  | k :: ks, .own s :: r, v :: vs, F, δ, σ, U, hp, hU, R, A, P => by
    obtain ⟨g, ⟨h0, h1⟩, h2, h3, h4⟩ := A
    have R1 := R.name (s := s) (v := v) (hp k List.mem_cons_self) h0 (g := g) h1 h2 fun c hc => ⟨(h3 c hc).1, (h3 c hc).2.1, (h3 c hc).2.2.1, fun m z => (h3 c hc).2.2.2 (hU m c z)⟩
    have hU2 : ∀ m c, c ∈ (fun m => if m = k then g else F m) m → U c ∨ c ∈ g := fun m c hc => by
      have hc : c ∈ (if m = k then g else F m) := hc
      by_cases e : m = k
      · rw [if_pos e] at hc; exact .inr hc
      · rw [if_neg e] at hc; exact .inl (hU m c hc)
    obtain ⟨q1, q2⟩ := asgA_ok (fun m hm => hp m (List.mem_cons_of_mem _ hm)) hU2 R1 h4 P
    exact ⟨by simp [q1], q2⟩
theorem par_ok {K : PySem.W.Frag} {mg : Str → Option Value} {W : WX} {pin ks : List Nat} {g : List Sl → Rs (List Ar)} {D : Ends} {σ : L2.St} {H : Hp} (hp : ∀ k ∈ ks, k ∉ pin) : rdS K mg W pin (oPar ks g) D σ H → rdAr K mg W pin g σ H fun vs H' => vs.length = ks.length ∧ D.nx (setL σ ks vs) H' :=
  fun ⟨b, Fz, F, δ, hb, R, P⟩ => by
    refine ⟨b, Fz, F, δ, hb, R, ?_⟩
    unfold oPar at P
    cases q : g δ with
    | bad => rw [q] at P; exact P
    | er x δ' => rw [q] at P; exact PostXS.at_ P
    | ok ars δ' =>
      rw [q] at P
      simp only at P
      by_cases c : noIo ars = true
      · rw [if_pos c] at P
        intro vs H' Fz' F' G s R' A
        exact asgA_ok (U := fun c => ∃ k, c ∈ F' k) (by rw [hb]; exact hp) (fun k c hc => ⟨k, hc⟩) R' (parOk_of A.len A.at_ A.nd A.dj (fun j c hc => ⟨(A.off j c hc).1, (A.off j c hc).2.1, (A.off j c hc).2.2.1, fun ⟨k, z⟩ => (A.off j c hc).2.2.2 k z⟩) c) (PostS.le s P)
      · rw [if_neg c] at P
        exact P.elim
section
variable {X : Cx} {W : WX} {pin : List Nat} {a c e : Expr} {g : List Sl → Rs (List Ar)} {pos : Pos}
theorem ss_par2 {i j : Nat} {x y : Str} {px py pt : Pos} {kt k2 pt2} (hc : X.calm = true) (hN : X.N.Nodup) (hi : X.N[i]? = some x) (hj : X.N[j]? = some y) (hij : i ≠ j) (hp : ∀ k ∈ [i, j], k ∉ pin)
    (hx : X.env.scope.names.lookup x = some .local) (hy : X.env.scope.names.lookup y = some .local) (ha : SAr X W pin [a, c] g)
    (hw : swappedStores [.Tuple [.Name x px, .Name y py] kt pt] (.Tuple [a, c] k2 pt2) X.env = pure (some [x, y]) := by rfl)
    (hs : swapsWithSole [.Tuple [.Name x px, .Name y py] kt pt] (.Tuple [a, c] k2 pt2) pos.line X.env = pure false := by rfl) :
    SS X W pin (.Assign [.Tuple [.Name x px, .Name y py] kt pt] (.Tuple [a, c] k2 pt2) pos) (oPar [i, j] g) := ps_mono (ps_par hc hN hi hj hij hx hy ha hw hs) fun D σ H h => by
  obtain ⟨b, Fz, F, δ, hb, R, P⟩ := par_ok hp h
  refine ⟨b, Fz, F, δ, hb, R, ?_⟩
  cases q : g δ with
  | bad => rw [q] at P; exact P
  | er x δ' => rw [q] at P; exact P
  | ok ars δ' =>
    rw [q] at P
    intro vs H' Fz' F' G s R' A
    obtain ⟨hl, q⟩ := P vs H' Fz' F' G s R' A
    match vs, hl with
    | [v, w], _ => exact ⟨v, w, rfl, q⟩
theorem ss_par3 {i j l : Nat} {x y z : Str} {px py pz pt : Pos} {kt k2 pt2} (hc : X.calm = true) (hN : X.N.Nodup) (hi : X.N[i]? = some x) (hj : X.N[j]? = some y) (hl : X.N[l]? = some z) (hij : i ≠ j) (hil : i ≠ l) (hjl : j ≠ l) (hp : ∀ k ∈ [i, j, l], k ∉ pin)
    (hx : X.env.scope.names.lookup x = some .local) (hy : X.env.scope.names.lookup y = some .local) (hz : X.env.scope.names.lookup z = some .local) (ha : SAr X W pin [a, c, e] g)
    (hw : swappedStores [.Tuple [.Name x px, .Name y py, .Name z pz] kt pt] (.Tuple [a, c, e] k2 pt2) X.env = pure (some [x, y, z]) := by rfl)
    (hs : swapsWithSole [.Tuple [.Name x px, .Name y py, .Name z pz] kt pt] (.Tuple [a, c, e] k2 pt2) pos.line X.env = pure false := by rfl) :
    SS X W pin (.Assign [.Tuple [.Name x px, .Name y py, .Name z pz] kt pt] (.Tuple [a, c, e] k2 pt2) pos) (oPar [i, j, l] g) := ps_mono (L2.ps_par3 hc hN hi hj hl hij hil hjl hx hy hz ha hw hs) fun D σ H h => by
  obtain ⟨b, Fz, F, δ, hb, R, P⟩ := par_ok hp h
  refine ⟨b, Fz, F, δ, hb, R, ?_⟩
  cases q : g δ with
  | bad => rw [q] at P; exact P
  | er x δ' => rw [q] at P; exact P
  | ok ars δ' =>
    rw [q] at P
    intro vs H' Fz' F' G s R' A
    obtain ⟨hl, q⟩ := P vs H' Fz' F' G s R' A
    match vs, hl with
    | [u, v, w], _ => exact ⟨u, v, w, rfl, q⟩
end
end Hb
namespace Hb
open PySem PySem.Spec PyProof.Rows L2
structure Dfn (P : Program) (w : World) (K : PySem.W.Frag) (mg : Str → Option Value) (base : Heap) (k : Nat) (x : Str) (n : Nat) (F : List Sl → FR) (m : Nat) (dd : List PyData) : Prop where
  ex : ∃ (f : Addr) (fd : FuncData) (ps : List Str) (ds : List Value), mg x = some (.ref f) ∧ PySem.W.keepIn K (.ref f) = true ∧ FnG P w K mg base k f fd ps (spF K mg n F) ∧ Binds K fd ps ds ∧ Vals (dd.map dV) ds ∧ m + dd.length = n ∧ dd.all flatD = true
theorem Dfn.mono {P : Program} {w : World} {K : PySem.W.Frag} {mg : Str → Option Value} {base : Heap} {k j : Nat} {x : Str} {n : Nat} {F : List Sl → FR} {m : Nat} {dd : List PyData} (D : Dfn P w K mg base k x n F m dd) (h : k ≤ j) : Dfn P w K mg base j x n F m dd := by
  obtain ⟨f, fd, ps, ds, h1, h2, h3, h4⟩ := D.ex
  exact ⟨f, fd, ps, ds, h1, h2, h3.mono h, h4⟩
section
variable {X : Cx} {k : Nat} {W : WX} {pin : List Nat} {x : Str} {p pos : Pos} {e : Expr} {es : List Expr} {n m : Nat} {F : List Sl → FR} {g : List Sl → Rs (List Ar)} {dd : List PyData}
theorem se_callD (D : Dfn X.prog X.w X.K X.mg X.base k x n F m dd) (hr : Room k X.A) (hgd : X.A.guards = some []) (hx : ∀ σ, PassesAt (L2.CX X.prog X.w) X σ (WE W σ)) (hg : Gl X x)
    (ha : SAr X W pin (e :: es) g) (hlen : ∀ δ ars δ', g δ = .ok ars δ' → ars.length = m)
    (hdb : (x == ("__debug__" : Str)) = false := by decide) (he : starEach (e :: es) X.env = (false, eval e X.env) :: starEach es X.env := by rfl) (hpl : (backTo pos (starEach es X.env)).any (·.1) = false := by rfl) :
    SE X W pin (.Call (.Name x p) (e :: es) [] pos) (sCall F dd g) := by
  obtain ⟨f, fd, ps, ds, hm, hk, G, hb, hd, hn, hf⟩ := D.ex
  exact se_call G hr hgd hx hg hm hk hb hd hf ha (fun δ ars δ' q => by rw [hlen δ ars δ' q]; exact hn) hdb he hpl
end
section
variable {P : Program} {w : World} {K : PySem.W.Frag} {mg : Str → Option Value} {base : Heap} {name qual : Str} {params : Arguments} {body : List Stmt} {scope : Scope} {dvs : List V} {kws : List (Str × V)} {f : Addr} {fd : FuncData} {N ps : List Str} {n k : Nat} {pin : List Nat} {fb : List Sl → Ot}
theorem fnG_D (FD : FunD K name qual params body scope dvs kws f fd) (S : FnScope N ps scope) (hn : ps.length = n)
    (hbody : ∀ (cdv : Value) (A : Around) (outer : List Env) (s : Shared) (H : Hp) (E : XK), Room k (A.deeper (envOfC qual scope s.heap.objs.size f cdv)) → A.guards = some [] →
      SSs (GX P w K mg base N qual scope f cdv A outer s H E) (GW E) pin body fb) : FnG P w K mg base (k + 1) f fd ps (spF K mg n (fnRun n N.length pin fb)) := by
  obtain ⟨oc, od, dV, kV, doc, pm, an, cdv, ct, osl, rfl, lk, hcd, _, _⟩ := FD.ex
  exact fnG_of lk hcd S hn (hbody cdv)
end
end Hb
namespace Hb
open PySem PySem.Spec PyProof.Rows L2
def rEqE (K : PySem.W.Frag) (n : Bool) : R2 := fun x y H Q => ∃ a b xs, x = V.ref a ∧ y = V.ref b ∧ SqX K H a xs ∧ SqX K H b [] ∧ Q (.bl (n != xs.isEmpty)) H
section
variable {X : Cx}
theorem isList_of {h : Heap} {a : Addr} {its : List Value} {n : Nat} (e : h.get? a = some { cls := .type "list", data := .seq its.toArray n }) : h.IsList a its.toArray := ⟨_, e, rfl, n, rfl⟩
theorem op_eqE (hu : X.A.units + 64 < cLine) : OpR X (compareOp .Eq) (rEqE X.K false) := by
  intro pins s σ H x y v u Q I rx ry h
  obtain ⟨a, b, xs, rfl, rfl, h1, h2, q⟩ := h
  cases rx
  cases ry
  obtain ⟨i1, n1, r1, g1, _⟩ := inv_lstX I h1
  obtain ⟨i2, n2, r2, g2, _⟩ := inv_lstX I h2
  cases r2
  have hu0 : X.A.units < cLine := by omega
  cases r1 with
  | nil =>
    exact SeqAt.eq_listAt (e := fun _ => true) (isList_of g1) (isList_of g2) rfl hu0 (fun j h => nomatch h) ⟨.bl _, H, I, rfl, q⟩
  | cons r0 rt => exact SeqAt.eq_list_lengthsAt (isList_of g1) (isList_of g2) (by simp) hu0 ⟨.bl _, H, I, rfl, q⟩
theorem op_neE (hu : X.A.units + 64 < cLine) : OpR X (compareOp .NotEq) (rEqE X.K true) := by
  intro pins s σ H x y v u Q I rx ry h
  obtain ⟨a, b, xs, rfl, rfl, h1, h2, q⟩ := h
  cases rx
  cases ry
  obtain ⟨i1, n1, r1, g1, _⟩ := inv_lstX I h1
  obtain ⟨i2, n2, r2, g2, _⟩ := inv_lstX I h2
  cases r2
  have hu0 : X.A.units < cLine := by omega
  cases r1 with
  | nil => exact SeqAt.RcNeAt.lists (e := fun _ => true) (isList_of g1) (isList_of g2) rfl hu0 (fun j h => nomatch h) X.prog X.w _ _ ⟨.bl _, H, I, rfl, q⟩
  | cons r0 rt => exact SeqAt.RcNeAt.lists_lengths (isList_of g1) (isList_of g2) (by simp) hu0 X.prog X.w _ _ ⟨.bl _, H, I, rfl, q⟩
end
def gEqE (n : Bool) (x y : AV) (δ : List Sl) : Rs AV := match rdA δ x, rdA δ y with
  | some (.list ds), some (.list []) => .ok (.val (.bool (n != ds.isEmpty))) δ
  | _, _ => .bad
section
variable {K : PySem.W.Frag} {mg : Str → Option Value} {W : WX} {pin : List Nat}
theorem v2_eqE {n : Bool} : V2 K mg W pin (rEqE K n) (gEqE n) := by
  intro b Fz F δ σ H v w x y Q hp R A B P
  unfold gEqE at P
  cases q1 : rdA δ x with
  | none => simp only [q1] at P; exact P.elim
  | some d =>
    cases q2 : rdA δ y with
    | none => cases d <;> (simp only [q1, q2] at P; exact P.elim)
    | some e =>
      cases d with
      | list ds =>
        cases e with
        | list es =>
          cases es with
          | cons e0 er => simp only [q1, q2] at P; exact P.elim
          | nil =>
            simp only [q1, q2] at P
            have r1 := rdA_ok R A q1
            have r2 := rdA_ok R B q2
            cases r1 with
            | lst s1 l1 =>
              cases r2 with
              | lst s2 l2 =>
                cases l2
                refine ⟨_, _, _, rfl, rfl, s1, s2, ?_⟩
                have := P _ H Fz F (Same.refl _) R (.bl _)
                cases l1 with
                | nil => exact this
                | cons _ _ => exact this
        | _ => simp only [q1, q2] at P; exact P.elim
      | _ => cases e <;> (simp only [q1, q2] at P; exact P.elim)
end
section
variable {X : Cx} {W : WX} {pin : List Nat} {fa fb : List Sl → Rs AV} {a c : Expr} {pos : Pos}
theorem st_eqE (hu : X.A.units + 64 < cLine) (ha : SE X W pin a fa) (hb : SE X W pin c fb) : ST X W pin (.Compare a [.Eq] [c] pos) (sTst (s2 (gEqE false) fa fb)) := st_cmp (op_eqE hu) v2_eqE ha hb (nomark _)
theorem st_neE (hu : X.A.units + 64 < cLine) (ha : SE X W pin a fa) (hb : SE X W pin c fb) : ST X W pin (.Compare a [.NotEq] [c] pos) (sTst (s2 (gEqE true) fa fb)) := st_cmp (op_neE hu) v2_eqE ha hb (nomark _)
end
def rEqS (n : Bool) : R2 := fun x y H Q => ∃ i j : Str, x = V.str i ∧ y = V.str j ∧ Q (.bl (n != (i.cps.toList == j.cps.toList))) H
section
variable {X : Cx}
theorem op_neS : OpR X (compareOp .NotEq) (rEqS true) := by
  intro pins s σ H x y v u Q I rx ry h
  obtain ⟨i, j, rfl, rfl, q⟩ := h
  obtain ⟨t, rfl⟩ := rx
  obtain ⟨t', rfl⟩ := ry
  exact PySem.P.ne_str ⟨.bl _, H, I, rfl, by simpa [bne] using q⟩
end
def gEqS (n : Bool) (x y : AV) (δ : List Sl) : Rs AV := match rdC δ x, rdC δ y with
  | some (.str i), some (.str j) => .ok (.val (.bool (n != (i.cps.toList == j.cps.toList)))) δ
  | _, _ => .bad
section
variable {K : PySem.W.Frag} {mg : Str → Option Value} {W : WX} {pin : List Nat}
theorem v2_eqS {n : Bool} : V2 K mg W pin (rEqS n) (gEqS n) := by
  intro b Fz F δ σ H v w x y Q hp R A B P
  unfold gEqS at P
  cases q1 : rdC δ x with
  | none => simp only [q1] at P; exact P.elim
  | some d =>
    cases q2 : rdC δ y with
    | none => cases d <;> (simp only [q1, q2] at P; exact P.elim)
    | some e =>
      cases d with
      | str i =>
        cases e with
        | str j =>
          simp only [q1, q2] at P
          exact ⟨i, j, rpc_str (rdC_ok R A q1), rpc_str (rdC_ok R B q2), P _ H Fz F (Same.refl _) R (.bl _)⟩
        | _ => simp only [q1, q2] at P; exact P.elim
      | _ => cases e <;> (simp only [q1, q2] at P; exact P.elim)
end
section
variable {X : Cx} {W : WX} {pin : List Nat} {fa fb : List Sl → Rs AV} {a c : Expr} {pos : Pos}
theorem st_neS (ha : SE X W pin a fa) (hb : SE X W pin c fb) : ST X W pin (.Compare a [.NotEq] [c] pos) (sTst (s2 (gEqS true) fa fb)) := st_cmp op_neS v2_eqS ha hb (nomark _)
end
end Hb
namespace Hb
open PySem L2
abbrev fi (i : Int) : El := .fz (.int i)
section
variable {f fa fb fo : List Sl → Rs AV} {δ δ1 δ2 : List Sl} {a x y : AV} {d e : PyData} {u w : List Sl → Ot} {t : List Sl → Rs Bool}
@[simp] theorem e_sC : sC d δ = .ok (.val d) δ := rfl
@[simp] theorem e_val : sSt (fun δ => .ok (.val d) δ) δ = .ok (.val d) δ := rfl
@[simp] theorem e_bind {α β : Type} {v : α} {k : α → List Sl → Rs β} : (Rs.ok v δ).bind k = k v δ := rfl
@[simp] theorem e_bindb {α β : Type} {k : α → List Sl → Rs β} : (Rs.bad : Rs α).bind k = .bad := rfl
@[simp] theorem e_ot {α : Type} {v : α} {k : α → List Sl → Ot} : (Rs.ok v δ).ot k = k v δ := rfl
@[simp] theorem e_otU {v : Unit} : (Rs.ok v δ).otU = .nx δ := rfl
@[simp] theorem e_oNext : oNext δ = .nx δ := rfl
@[simp] theorem e_rdAv : rdA δ (.val d) = some d := rfl
@[simp] theorem e_rdCv : rdC δ (.val d) = some d := rfl
@[simp] theorem e_allFz (ds : List PyData) : allFz (ds.map El.fz) = some ds := by
  induction ds with
  | nil => rfl
  | cons d r ih => simp [allFz, ih]
end
theorem depth_ints : ∀ ns : List Int, PyData.depthAll (ns.map .int) = 0
  | [] => by simp [PyData.depthAll]
  | n :: ns => by simp [PyData.depthAll, depth_ints ns, PyData.depth]
end Hb
namespace Nv
open PySem Hb L2
/-- a value of Lean's, as a tree -/
class Enc (α : Type) where
  enc : α → PyData
open Enc (enc)
instance : Enc Int := ⟨.int⟩
instance : Enc Bool := ⟨.bool⟩
instance : Enc Str := ⟨.str⟩
instance : Enc Unit := ⟨fun _ => .none⟩
instance : Enc PyData := ⟨fun d => d⟩
instance {α : Type} [Enc α] : Enc (List α) := ⟨fun xs => .list (xs.map enc)⟩
instance {α : Type} [Enc α] : Enc (Option α) := ⟨fun x => match x with
  | none => .none
  | some x => enc x⟩
instance {α β : Type} [Enc α] [Enc β] : Enc (α × β) := ⟨fun x => .tuple [enc x.1, enc x.2]⟩
structure T3 (α β γ : Type) where
  a : α
  b : β
  c : γ
deriving DecidableEq
structure T4 (α β γ δ : Type) where
  a : α
  b : β
  c : γ
  d : δ
deriving DecidableEq
/-- a tuple of any length -/
structure Tp (α : Type) where
  l : List α
deriving DecidableEq
/-- a dict -/
structure Dc (κ α : Type) where
  l : List (κ × α)
deriving DecidableEq
instance {α β γ : Type} [Enc α] [Enc β] [Enc γ] : Enc (T3 α β γ) := ⟨fun x => .tuple [enc x.a, enc x.b, enc x.c]⟩
instance {α β γ δ : Type} [Enc α] [Enc β] [Enc γ] [Enc δ] : Enc (T4 α β γ δ) := ⟨fun x => .tuple [enc x.a, enc x.b, enc x.c, enc x.d]⟩
instance {α : Type} [Enc α] : Enc (Tp α) := ⟨fun x => .tuple (x.l.map enc)⟩
instance {κ α : Type} [Enc κ] [Enc α] : Enc (Dc κ α) := ⟨fun x => .dict (x.l.map fun p => (enc p.1, enc p.2))⟩
/-- a list of one's own whose items stand still; .. whose items are rows of one's own; a dict of one's own -/
def ow {α : Type} [Enc α] (xs : List α) : Sl := .ol ((xs.map enc).map .fz)
def oww {α : Type} [Enc α] (xs : List (List α)) : Sl := .ol (xs.map fun r => .ow (r.map enc))
def od {κ α : Type} [Enc κ] [Enc α] (x : Dc κ α) : Sl := .od (x.l.map fun p => (enc p.1, enc p.2))
section
variable {α : Type} [Enc α]
theorem map_fzd (ds : List PyData) : (ds.map El.fz).map El.d = ds := by
  rw [List.map_map]
  exact List.map_id' ds
theorem ow_tree (xs : List α) : (ow xs).tree = some (enc xs) := by
  show some (PyData.list _) = some (PyData.list _)
  rw [map_fzd]
theorem allFz_map : ∀ ds : List PyData, allFz (ds.map .fz) = some ds
  | [] => rfl
  | d :: r => by
    show (allFz (r.map .fz)).map (d :: ·) = _
    rw [allFz_map r]
    rfl
theorem oww_tree (xs : List (List α)) : (oww xs).tree = some (enc xs) := by
  show some (PyData.list _) = some (PyData.list _)
  rw [List.map_map]
  rfl
end
inductive Pt where
  | aa | any | pl | eq (s : Sl) | tr (d : PyData) | ts (d : PyData)
def isAl : Sl → Bool
  | .al _ _ => true
  | _ => false
def isLs : PyData → Bool
  | .list _ => true
  | _ => false
def Pt.Ok : Pt → Sl → Prop
  | .aa, _ => True
  | .any, s => isAl s = false
  | .pl, s => plainS (some s) = true
  | .eq t, s => s = t
  | .tr d, s => s.tree = some d ∧ (∃ ds : List PyData, s = .ol (ds.map .fz)) ∨ s = .fz d
  | .ts d, s => s.tree = some d ∧ (∃ ds : List PyData, s = .ol (ds.map .fz)) ∨ (s = .fz d ∧ isLs d = false)
abbrev Ga := List Pt
inductive Sat : Ga → List Sl → Prop
  | nil : Sat [] []
  | cons {p : Pt} {s : Sl} {Γ : Ga} {δ : List Sl} : p.Ok s → Sat Γ δ → Sat (p :: Γ) (s :: δ)
theorem Sat.len {Γ : Ga} {δ : List Sl} (h : Sat Γ δ) : Γ.length = δ.length := by
  induction h with
  | nil => rfl
  | cons _ _ ih => simp [ih]
theorem Sat.get {Γ : Ga} {δ : List Sl} (h : Sat Γ δ) : ∀ {k : Nat} {p : Pt}, Γ[k]? = some p → ∃ s, δ[k]? = some s ∧ p.Ok s := by
  induction h with
  | nil => intro k p e; simp at e
  | cons h1 _ ih =>
    intro k p e
    cases k with
    | zero => simp at e; subst e; exact ⟨_, rfl, h1⟩
    | succ k => exact ih (by simpa using e)
theorem Sat.at_ {Γ : Ga} {δ : List Sl} (h : Sat Γ δ) {k : Nat} {s : Sl} (e : Γ[k]? = some (.eq s)) : δ[k]? = some s := by
  obtain ⟨t, e1, e2⟩ := h.get e
  rw [e1, show t = s from e2]
theorem Sat.set {Γ : Ga} {δ : List Sl} (h : Sat Γ δ) {p : Pt} {s : Sl} (hp : p.Ok s) : ∀ (k : Nat), Sat (Γ.set k p) (δ.set k s) := by
  induction h with
  | nil => intro k; cases k <;> exact .nil
  | cons h1 h2 ih =>
    intro k
    cases k with
    | zero => exact .cons hp h2
    | succ k => exact .cons h1 (ih k)
def dropP (i : Nat) : Pt → Pt
  | .eq (.al x j) => if x = i then .eq .no else .eq (.al x j)
  | p => p
def upP (i : Nat) (p : Pt) (Γ : Ga) : Ga := (Γ.map (dropP i)).set i p
def dropS (i : Nat) : Sl → Sl
  | .al x j => if x = i then .no else .al x j
  | s => s
theorem dropAl_eq (i : Nat) (δ : List Sl) : dropAl i δ = δ.map (dropS i) := by
  unfold dropAl
  congr 1
theorem dropP_ok {i : Nat} {p : Pt} {s : Sl} (h : p.Ok s) : (dropP i p).Ok (dropS i s) := by
  cases p with
  | aa => trivial
  | any =>
    cases s with
    | al x j => cases h
    | _ => exact h
  | pl =>
    cases s with
    | al x j => cases h
    | _ => exact h
  | eq t =>
    have h : s = t := h
    subst h
    cases s with
    | al x j =>
      show (if x = i then Pt.eq .no else .eq (.al x j)).Ok (if x = i then .no else .al x j)
      by_cases c : x = i
      · rw [if_pos c, if_pos c]; rfl
      · rw [if_neg c, if_neg c]; rfl
    | _ => rfl
  | tr d =>
    cases s with
    | al x j =>
      rcases h with ⟨h, _⟩ | h <;> cases h
    | _ => exact h
  | ts d =>
    cases s with
    | al x j =>
      rcases h with ⟨h, _⟩ | ⟨h, _⟩ <;> cases h
    | _ => exact h
theorem Sat.drop {Γ : Ga} {δ : List Sl} (h : Sat Γ δ) (i : Nat) : Sat (Γ.map (dropP i)) (dropAl i δ) := by
  rw [dropAl_eq]
  induction h with
  | nil => exact .nil
  | cons h1 _ ih => exact .cons (dropP_ok h1) ih
theorem Sat.up {Γ : Ga} {δ : List Sl} (h : Sat Γ δ) {i : Nat} {p : Pt} {s : Sl} (hp : p.Ok s) : Sat (upP i p Γ) (upS i s δ) := (h.drop i).set hp i
def calmP : Pt → Bool
  | .aa => false
  | .eq s => !isAl s
  | _ => true
/-- weaker -/
inductive PtLe : Pt → Pt → Prop
  | rfl {p : Pt} : PtLe p p
  | aa {p : Pt} : PtLe p .aa
  | any {p : Pt} (h : calmP p = true := by rfl) : PtLe p .any
  | no : PtLe (.eq .no) .pl
  | fz {d : PyData} : PtLe (.eq (.fz d)) .pl
  | trf {d : PyData} : PtLe (.eq (.fz d)) (.tr d)
  | tro {α : Type} [Enc α] {xs : List α} {d : PyData} : enc xs = d → PtLe (.eq (ow xs)) (.tr d)
  | tsf {d : PyData} (h : isLs d = false := by rfl) : PtLe (.eq (.fz d)) (.ts d)
  | tso {α : Type} [Enc α] {xs : List α} {d : PyData} : enc xs = d → PtLe (.eq (ow xs)) (.ts d)
  | tst {d : PyData} : PtLe (.ts d) (.tr d)
theorem PtLe.ok {p q : Pt} (h : PtLe p q) {s : Sl} (hs : p.Ok s) : q.Ok s := by
  cases h with
  | rfl => exact hs
  | aa => trivial
  | any h =>
    cases p with
    | aa => cases h
    | any => exact hs
    | pl => cases s <;> first | rfl | cases hs
    | eq t =>
      cases (show s = t from hs)
      show isAl s = false
      simpa [calmP] using h
    | tr d =>
      rcases hs with ⟨_, ds, rfl⟩ | rfl <;> rfl
    | ts d =>
      rcases hs with ⟨_, ds, rfl⟩ | ⟨rfl, _⟩ <;> rfl
  | no => cases (show s = .no from hs); rfl
  | fz => cases (show s = .fz _ from hs); rfl
  | trf => exact .inr hs
  | @tro α _ xs d e =>
    cases (show s = ow xs from hs)
    exact .inl ⟨by rw [← e]; exact ow_tree xs, xs.map enc, Eq.refl _⟩
  | tsf h => exact .inr ⟨hs, h⟩
  | @tso α _ xs d e =>
    cases (show s = ow xs from hs)
    exact .inl ⟨by rw [← e]; exact ow_tree xs, xs.map enc, Eq.refl _⟩
  | tst => exact hs.imp id And.left
inductive GaLe : Ga → Ga → Prop
  | nil : GaLe [] []
  | cons {p q : Pt} {Γ Δ : Ga} : PtLe p q → GaLe Γ Δ → GaLe (p :: Γ) (q :: Δ)
theorem Sat.wk {Γ Δ : Ga} {δ : List Sl} (h : Sat Γ δ) (l : GaLe Γ Δ) : Sat Δ δ := by
  induction l generalizing δ with
  | nil => exact h
  | cons h1 _ ih =>
    cases h with
    | cons a b => exact .cons (h1.ok a) (ih b)
section
variable {β : Type}
/-- what it gives, and what stands behind -/
def Ev (f : List Sl → Rs AV) (Γ : Ga) (p : Option β) (a : β → AV) (Γ' : β → Ga) : Prop := ∀ v, p = some v → ∀ δ, Sat Γ δ → ∃ δ', f δ = .ok (a v) δ' ∧ Sat (Γ' v) δ'
/-- nothing changes -/
def Pu (f : List Sl → Rs AV) (Γ : Ga) (p : Option β) (a : β → AV) : Prop := ∀ v, p = some v → ∀ δ, Sat Γ δ → f δ = .ok (a v) δ
/-- nothing changes, and its tree may be read -/
def Ra (f : List Sl → Rs AV) (Γ : Ga) (p : Option β) (d : β → PyData) : Prop := ∀ v, p = some v → ∀ δ, Sat Γ δ → ∃ a, sSt f δ = .ok a δ ∧ rdA δ a = some (d v)
def Rd (f : List Sl → Rs AV) (Γ : Ga) (p : Option β) (d : β → PyData) : Prop := ∀ v, p = some v → ∀ δ, Sat Γ δ → ∃ a, sSt f δ = .ok a δ ∧ rdC δ a = some (d v) ∧ rdA δ a = some (d v)
/-- a value -/
def Er (f : List Sl → Rs AV) (Γ : Ga) (p : Option β) (d : β → PyData) (Γ' : β → Ga) : Prop := ∀ v, p = some v → ∀ δ, Sat Γ δ → ∃ δ', sSt f δ = .ok (.val (d v)) δ' ∧ Sat (Γ' v) δ'
/-- its tree may be read -/
def Es (f : List Sl → Rs AV) (Γ : Ga) (p : Option β) (d : β → PyData) (Γ' : β → Ga) : Prop := ∀ v, p = some v → ∀ δ, Sat Γ δ → ∃ a δ', sSt f δ = .ok a δ' ∧ rdC δ' a = some (d v) ∧ rdA δ' a = some (d v) ∧ Sat (Γ' v) δ'
/-- tests -/
def Ts (t : List Sl → Rs Bool) (Γ : Ga) (p : Option Bool) : Prop := ∀ v, p = some v → ∀ δ, Sat Γ δ → t δ = .ok v δ
def Te (t : List Sl → Rs Bool) (Γ : Ga) (p : Option β) (k : β → Bool) (Γ' : β → Ga) : Prop := ∀ v, p = some v → ∀ δ, Sat Γ δ → ∃ δ', t δ = .ok (k v) δ' ∧ Sat (Γ' v) δ'
/-- statements -/
def Bl (f : List Sl → Ot) (Γ : Ga) (p : Option β) (R : β → Ot → Prop) : Prop := ∀ v, p = some v → ∀ δ, Sat Γ δ → R v (f δ)
end
section
variable {α β γ ε : Type} {f fa fb g : List Sl → Rs AV} {Γ : Ga} {Γ' : β → Ga} {p : Option β} {a : β → AV} {d : β → PyData}
theorem some_of {α : Type} {x v : α} (h : some x = some v) : v = x := (Option.some.inj h).symm
theorem bind_of {α β : Type} {p : Option α} {k : α → Option β} {v : β} (h : p.bind k = some v) : ∃ x, p = some x ∧ k x = some v := by
  cases p with
  | none => cases h
  | some x => exact ⟨x, rfl, h⟩
theorem sSt_val {δ δ' : List Sl} {x : PyData} (h : f δ = .ok (.val x) δ') : sSt f δ = .ok (.val x) δ' := by
  unfold sSt; rw [h]
theorem sSt_ref {δ δ' : List Sl} {x : Nat} (h : f δ = .ok (.ref x) δ') : sSt f δ = .ok (.ref x) δ' := by
  unfold sSt; rw [h]
theorem sSt_tmp {δ δ' : List Sl} {s : Sl} {x : PyData} (h : f δ = .ok (.tmp s) δ') (e : s.tree = some x) : sSt f δ = .ok (.val x) δ' := by
  unfold sSt; rw [h]; simp only [e]
theorem Pu.ev (h : Pu f Γ p a) : Ev f Γ p a fun _ => Γ := fun v e δ s => ⟨δ, h v e δ s, s⟩
theorem Pu.rd (h : Pu f Γ p fun v => .val (d v)) : Rd f Γ p d := fun v e δ s => ⟨_, sSt_val (h v e δ s), rfl, rfl⟩
theorem Pu.rdT {s : β → Sl} (h : Pu f Γ p fun v => .tmp (s v)) (ht : ∀ v, (s v).tree = some (d v)) : Rd f Γ p d := fun v e δ z => ⟨_, sSt_tmp (h v e δ z) (ht v), rfl, rfl⟩
theorem Rd.ra (h : Rd f Γ p d) : Ra f Γ p d := fun v e δ s => let ⟨x, h1, _, h3⟩ := h v e δ s; ⟨x, h1, h3⟩
theorem Ev.er (h : Ev f Γ p (fun v => .val (d v)) Γ') : Er f Γ p d Γ' := fun v e δ s => let ⟨δ', h1, h2⟩ := h v e δ s; ⟨δ', sSt_val h1, h2⟩
theorem Ev.erT {s : β → Sl} (h : Ev f Γ p (fun v => .tmp (s v)) Γ') (ht : ∀ v, (s v).tree = some (d v)) : Er f Γ p d Γ' := fun v e δ z => let ⟨δ', h1, h2⟩ := h v e δ z; ⟨δ', sSt_tmp h1 (ht v), h2⟩
theorem Er.es (h : Er f Γ p d Γ') : Es f Γ p d Γ' := fun v e δ s => let ⟨δ', h1, h2⟩ := h v e δ s; ⟨_, δ', h1, rfl, rfl, h2⟩
theorem Rd.es (h : Rd f Γ p d) : Es f Γ p d fun _ => Γ := fun v e δ s => let ⟨x, h1, h2, h3⟩ := h v e δ s; ⟨x, δ, h1, h2, h3, s⟩
theorem pu_c [Enc α] {x : α} {y : PyData} (h : enc x = y := by rfl) : Pu (sC y) Γ (some x) fun v => .val (enc v) := fun v e δ _ => by
  cases some_of e
  show _ = Rs.ok (AV.val (enc x)) δ
  rw [h]
  rfl
theorem pu_var [Enc α] {x : α} (k : Nat) (h : Γ[k]? = some (.eq (.fz (enc x)))) : Pu (sVar k) Γ (some x) fun v => .val (enc v) := fun v e δ s => by
  cases some_of e
  unfold sVar
  rw [s.at_ h]
theorem pu_own [Enc α] {x : List α} (k : Nat) (h : Γ[k]? = some (.eq (ow x))) : Pu (sVar k) Γ (some x) fun _ => .ref k := fun v e δ s => by
  cases some_of e
  unfold sVar
  rw [s.at_ h]
  rfl
theorem rd_own [Enc α] {x : List α} (k : Nat) (h : Γ[k]? = some (.eq (ow x))) : Rd (sVar k) Γ (some x) enc := fun v e δ s => by
  cases some_of e
  refine ⟨.ref k, sSt_ref (pu_own k h x rfl δ s), ?_, ?_⟩
  · simp only [rdC, s.at_ h, ow]
    show (allFz _).map _ = _
    rw [allFz_map]
    rfl
  · simp only [rdA, s.at_ h, ow]
    exact ow_tree x
theorem Pu.tk (h : Pu f Γ p fun v => .val (d v)) : Ev (sTk f) Γ p (fun v => .val (d v)) fun _ => Γ := fun v e δ s => ⟨δ, by unfold sTk; rw [sSt_val (h v e δ s)], s⟩
theorem Pu.tkP (h : Pu f Γ p fun v => .val (d v)) : Pu (sTk f) Γ p (fun v => .val (d v)) := fun v e δ s => by unfold sTk; rw [sSt_val (h v e δ s)]
theorem Pu.tkTP {s : β → Sl} (h : Pu f Γ p fun v => .tmp (s v)) (ht : ∀ v, (s v).tree = some (d v)) : Pu (sTk f) Γ p (fun v => .val (d v)) := fun v e δ z => by unfold sTk; rw [sSt_tmp (h v e δ z) (ht v)]
theorem Ev.tk (h : Ev f Γ p (fun v => .val (d v)) Γ') : Ev (sTk f) Γ p (fun v => .val (d v)) Γ' := fun v e δ s => let ⟨δ', h1, h2⟩ := h v e δ s; ⟨δ', by unfold sTk; rw [sSt_val h1], h2⟩
theorem Ev.tkT {s : β → Sl} (h : Ev f Γ p (fun v => .tmp (s v)) Γ') (ht : ∀ v, (s v).tree = some (d v)) : Ev (sTk f) Γ p (fun v => .val (d v)) Γ' := fun v e δ z => let ⟨δ', h1, h2⟩ := h v e δ z; ⟨δ', by unfold sTk; rw [sSt_tmp h1 (ht v)], h2⟩
theorem tk_tr [Enc α] {x : α} (k : Nat) (h : Γ[k]? = some (.tr (enc x))) (hm : Γ.map (dropP k) = Γ) : Ev (sTk (sVar k)) Γ (some x) (fun v => .val (enc v)) fun v => Γ.set k (.eq (.fz (enc v))) := fun v e δ s => by
  cases some_of e
  obtain ⟨t, e1, e2⟩ := s.get h
  rcases e2 with ⟨e2, ds, e3⟩ | e2
  · subst e3
    refine ⟨upS k (.fz (enc x)) δ, ?_, ?_⟩
    · unfold sTk
      rw [sSt_ref (by unfold sVar; rw [e1])]
      show takeI k δ = _
      unfold takeI
      rw [e1]
      have : (Sl.ol (ds.map .fz)).tree = some (.list ds) := by
        show some (PyData.list _) = _
        rw [map_fzd]
      rw [this] at e2
      have e4 : PyData.list ds = enc x := Option.some.inj e2
      simp only [map_fzd, e4]
    · have := s.up (i := k) (p := .eq (.fz (enc x))) rfl
      unfold upP at this
      rwa [hm] at this
  · subst e2
    refine ⟨δ, by unfold sTk; rw [sSt_val (by unfold sVar; rw [e1])], ?_⟩
    have := s.set (p := .eq (.fz (enc x))) rfl k
    have e3 : δ.set k (.fz (enc x)) = δ := by
      apply List.ext_getElem?
      intro i
      by_cases c : i = k
      · subst c
        rw [List.getElem?_set_self (List.getElem?_eq_some_iff.mp e1).1, e1]
      · rw [List.getElem?_set_ne (Ne.symm c)]
    rwa [e3] at this
end
end Nv
namespace Nv
open PySem Hb L2
open Enc (enc)
section
variable {α β γ : Type} [Enc α] [Enc β]
def Op2 (g : AV → AV → List Sl → Rs AV) (op : α → β → Option γ) (a : γ → AV) : Prop := ∀ v w r δ x y, rdC δ x = some (enc v) → rdA δ x = some (enc v) → rdC δ y = some (enc w) → rdA δ y = some (enc w) → op v w = some r → g x y δ = .ok (a r) δ
def Op2A (g : AV → AV → List Sl → Rs AV) (op : α → β → Option γ) (a : γ → AV) : Prop := ∀ v w r δ x y, rdA δ x = some (enc v) → rdA δ y = some (enc w) → op v w = some r → g x y δ = .ok (a r) δ
def Op1 (g : AV → List Sl → Rs AV) (op : α → Option γ) (a : γ → AV) : Prop := ∀ v r δ x, rdC δ x = some (enc v) → rdA δ x = some (enc v) → op v = some r → g x δ = .ok (a r) δ
def Op1A (g : AV → List Sl → Rs AV) (op : α → Option γ) (a : γ → AV) : Prop := ∀ v r δ x, rdA δ x = some (enc v) → op v = some r → g x δ = .ok (a r) δ
end
section
variable {α β γ ε ζ : Type} [Enc α] [Enc β] {Γ : Ga} {fa fb : List Sl → Rs AV} {g : AV → AV → List Sl → Rs AV} {h : AV → List Sl → Rs AV} {op : α → β → Option γ} {op1 : α → Option γ} {a : γ → AV}
theorem Op2A.to (o : Op2A g op a) : Op2 g op a := fun v w r δ x y _ h1 _ h2 e => o v w r δ x y h1 h2 e
theorem Op1A.to (o : Op1A h op1 a) : Op1 h op1 a := fun v r δ x _ h1 e => o v r δ x h1 e
theorem pu2 (o : Op2 g op a) {pa : Option α} {pb : Option β} (ha : Rd fa Γ pa enc) (hb : Rd fb Γ pb enc) : Pu (s2 g fa fb) Γ (pa.bind fun v => pb.bind fun w => op v w) a := fun r e δ s => by
  obtain ⟨v, e1, e⟩ := bind_of e
  obtain ⟨w, e2, e⟩ := bind_of e
  obtain ⟨x, h1, h2, h3⟩ := ha v e1 δ s
  obtain ⟨y, k1, k2, k3⟩ := hb w e2 δ s
  unfold s2
  rw [h1]
  show (sSt fb δ).bind _ = _
  rw [k1]
  exact o v w r δ x y h2 h3 k2 k3 e
theorem pu2A (o : Op2A g op a) {pa : Option α} {pb : Option β} (ha : Ra fa Γ pa enc) (hb : Ra fb Γ pb enc) : Pu (s2 g fa fb) Γ (pa.bind fun v => pb.bind fun w => op v w) a := fun r e δ s => by
  obtain ⟨v, e1, e⟩ := bind_of e
  obtain ⟨w, e2, e⟩ := bind_of e
  obtain ⟨x, h1, h3⟩ := ha v e1 δ s
  obtain ⟨y, k1, k3⟩ := hb w e2 δ s
  unfold s2
  rw [h1]
  show (sSt fb δ).bind _ = _
  rw [k1]
  exact o v w r δ x y h3 k3 e
theorem pu1 (o : Op1 h op1 a) {pa : Option α} (ha : Rd fa Γ pa enc) : Pu (s1 h fa) Γ (pa.bind op1) a := fun r e δ s => by
  obtain ⟨v, e1, e⟩ := bind_of e
  obtain ⟨x, h1, h2, h3⟩ := ha v e1 δ s
  unfold s1
  rw [h1]
  exact o v r δ x h2 h3 e
theorem pu1A (o : Op1A h op1 a) {pa : Option α} (ha : Ra fa Γ pa enc) : Pu (s1 h fa) Γ (pa.bind op1) a := fun r e δ s => by
  obtain ⟨v, e1, e⟩ := bind_of e
  obtain ⟨x, h1, h3⟩ := ha v e1 δ s
  unfold s1
  rw [h1]
  exact o v r δ x h3 e
/-- another shape of what it gives -/
theorem Ev.map {f : List Sl → Rs AV} {p : Option ε} {aa : ε → AV} {Γ1 : ε → Ga} {bb : ζ → AV} {Γ2 : ζ → Ga} (hh : Ev f Γ p aa Γ1) (k : ε → ζ) (h1 : ∀ x, bb (k x) = aa x := by intro _; rfl) (h2 : ∀ x, Γ2 (k x) = Γ1 x := by intro _; rfl) : Ev f Γ (p.bind fun x => some (k x)) bb Γ2 := fun r e δ s => by
  obtain ⟨v, e1, e⟩ := bind_of e
  cases some_of e
  obtain ⟨δ', q1, q2⟩ := hh v e1 δ s
  exact ⟨δ', by rw [h1]; exact q1, by rw [h2]; exact q2⟩
theorem Rd.un {f : List Sl → Rs AV} {p : Option (Option α)} (hh : Rd f Γ p enc) : Rd f Γ (p.bind fun d => d) (enc : α → PyData) := fun r e δ s => by
  obtain ⟨v, e1, e⟩ := bind_of e
  subst e
  exact hh _ e1 δ s
theorem Rd.any {f : List Sl → Rs AV} {p : Option α} (hh : Rd f Γ p enc) : Rd f Γ (p.bind fun d => some (enc d)) (enc : PyData → PyData) := fun r e δ s => by
  obtain ⟨v, e1, e⟩ := bind_of e
  cases some_of e
  exact hh _ e1 δ s
end
def addI (i j : Int) : Option Int := some (i + j)
def subI (i j : Int) : Option Int := some (i - j)
def mulI (i j : Int) : Option Int := if i.natAbs < 2 ^ 64 ∨ j.natAbs < 2 ^ 64 then some (i * j) else none
def modI (i j : Int) : Option Int := if 0 < j then some (i % j) else none
def ltI (i j : Int) : Option Bool := some (decide (i < j))
def leI (i j : Int) : Option Bool := some (decide (i ≤ j))
def gtI (i j : Int) : Option Bool := some (decide (j < i))
def maxI2 (i j : Int) : Option Int := some (if j > i then j else i)
def minI2 (i j : Int) : Option Int := some (if j < i then j else i)
def negI (i : Int) : Option Int := some (-i)
section
variable {g : Int → Int → Int} {C : Int → Int → Bool}
theorem op_gI {op : Int → Int → Option Int} (h : ∀ i j r, op i j = some r → C i j = true ∧ r = g i j) : Op2 (gI C g) op fun r => .val (enc r) := fun v w r δ x y h1 _ h2 _ e => by
  obtain ⟨c, rfl⟩ := h v w r e
  have h1 : rdC δ x = some (.int v) := h1
  have h2 : rdC δ y = some (.int w) := h2
  simp only [gI, h1, h2, c]
  rfl
theorem op_gI0 : Op2 (gI yes2 g) (fun i j => some (g i j)) fun r => .val (enc r) := op_gI fun i j r e => ⟨rfl, some_of e⟩
theorem op_gIc {C : Int → Int → Prop} [∀ i j, Decidable (C i j)] : Op2 (gI (fun i j => decide (C i j)) g) (fun i j => if C i j then some (g i j) else none) fun r => .val (enc r) := op_gI fun i j r e => by
  have e : (if C i j then some (g i j) else none) = some r := e
  by_cases c : C i j
  · rw [if_pos c] at e
    exact ⟨decide_eq_true c, some_of e⟩
  · rw [if_neg c] at e
    cases e
theorem op_gB {g : Int → Int → Bool} : Op2 (gB g) (fun i j => some (g i j)) fun r => .val (enc r) := fun v w r δ x y h1 _ h2 _ e => by
  have h1 : rdC δ x = some (.int v) := h1
  have h2 : rdC δ y = some (.int w) := h2
  cases some_of e
  simp only [gB, h1, h2]
  rfl
theorem op_sub : Op2 gSub subI fun r => .val (enc r) := op_gI0
theorem op_max2 : Op2 gMax2 maxI2 fun r => .val (enc r) := op_gI0
theorem op_min2 : Op2 gMin2 minI2 fun r => .val (enc r) := op_gI0
theorem op_mod : Op2 gMod modI fun r => .val (enc r) := op_gIc (C := fun _ j => 0 < j)
theorem op_lt : Op2 gLt ltI fun r => .val (enc r) := op_gB
theorem op_le : Op2 gLe leI fun r => .val (enc r) := op_gB
theorem op_gt : Op2 gGt gtI fun r => .val (enc r) := op_gB
theorem op_neg : Op1 gNeg negI fun r => .val (enc r) := fun v r δ x h1 _ e => by
  have h1 : rdC δ x = some (.int v) := h1
  cases some_of e
  simp only [gNeg, h1]
  rfl
theorem op_add : Op2 gAdd addI fun r => .val (enc r) := fun v w r δ x y h1 _ h2 _ e => by
  have h1 : rdC δ x = some (.int v) := h1
  have h2 : rdC δ y = some (.int w) := h2
  cases some_of e
  simp only [gAdd, h1, h2]
  rfl
theorem op_mul : Op2 gMulX mulI fun r => .val (enc r) := fun v w r δ x y h1 _ h2 _ e => by
  have h1 : rdC δ x = some (.int v) := h1
  have h2 : rdC δ y = some (.int w) := h2
  unfold mulI at e
  by_cases c : v.natAbs < 2 ^ 64 ∨ w.natAbs < 2 ^ 64
  · rw [if_pos c] at e
    cases some_of e
    simp only [gMulX, h1, h2, if_pos c]
    rfl
  · rw [if_neg c] at e
    cases e
end
def catL {α : Type} (xs ys : List α) : Option (List α) := if xs.length ≤ cap ∧ ys.length ≤ cap then some (xs ++ ys) else none
def repL {α : Type} (xs : List α) (k : Int) : Option (List α) := if xs.length ≤ 1000 ∧ 0 ≤ k ∧ k ≤ 1000 then some (List.replicate k.toNat xs).flatten else none
def lenL {α : Type} (xs : List α) : Option Int := some xs.length
def lenA (d : PyData) : Option Int := (lenD d).bind fun d => match d with
  | .int i => some i
  | _ => none
def atL {α : Type} (xs : List α) (i : Int) : Option α := atI xs i
def cutL {α : Type} (xs : List α) (lo hi : Option Int) : List α := (xs.drop (HT.sIx xs.length 0 lo)).take (HT.sIx xs.length xs.length hi - HT.sIx xs.length 0 lo)
def rgL (a b : Int) : List Int := (List.range (b - a).toNat).map fun i => a + (i : Nat)
def rg1 (n : Int) : Option (List Int) := if (-1000000 ≤ (0 : Int) ∧ (0 : Int) ≤ 1000000) ∧ -1000000 ≤ n ∧ n ≤ 1000000 then some (rgL 0 n) else none
def absI (i : Int) : Option Int := some (if i < 0 then -i else i)
def intI (i : Int) : Option Int := some i
def intB (k : Bool) : Option Int := some (if k then 1 else 0)
def sumI (ns : List Int) : Option Int := some ns.sum
def allB (ns : List Bool) : Option Bool := some (ns.all id)
def maxL : List Int → Option Int
  | [] => none
  | n :: ns => some (ns.foldl max n)
def listL {α : Type} (xs : List α) : Option (List α) := some xs
def isiN (T : String) (d : PyData) : Option Bool := some (isiB (tyD d) T)
def reprN (d : PyData) : Option Str := if (shw d = true ∧ d.depth ≤ 60) ∧ d.shown.length ≤ sizeLine then some d.shown else none
theorem allFz_inv : ∀ {xs : List El} {ds : List PyData}, allFz xs = some ds → xs = ds.map .fz
  | [], _, h => by cases h; rfl
  | .fz d :: r, ds, h => by
    have h : (allFz r).map (d :: ·) = some ds := h
    cases q : allFz r with
    | none => rw [q] at h; cases h
    | some es =>
      rw [q] at h
      cases h
      rw [allFz_inv q]
      rfl
  | .ow _ :: _, _, h => by cases h
section
variable {α β : Type} [Enc α] [Enc β]
theorem op_cat : Op2 gAdd (catL (α := α)) fun r => .tmp (ow r) := fun v w r δ x y h1 _ h2 _ e => by
  have h1 : rdC δ x = some (.list (v.map enc)) := h1
  have h2 : rdC δ y = some (.list (w.map enc)) := h2
  unfold catL at e
  by_cases c : v.length ≤ cap ∧ w.length ≤ cap
  · rw [if_pos c] at e
    cases some_of e
    simp only [gAdd, h1, h2, List.length_map, if_pos c, ow, List.map_append]
  · rw [if_neg c] at e
    cases e
theorem op_rep : Op2 gMulX (repL (α := α)) fun r => .tmp (ow r) := fun v w r δ x y h1 _ h2 _ e => by
  have h1 : rdC δ x = some (.list (v.map enc)) := h1
  have h2 : rdC δ y = some (.int w) := h2
  unfold repL at e
  by_cases c : v.length ≤ 1000 ∧ 0 ≤ w ∧ w ≤ 1000
  · rw [if_pos c] at e
    cases some_of e
    simp only [gMulX, h1, h2, List.length_map, if_pos c, ow]
    simp only [List.map_flatten, List.map_replicate]
  · rw [if_neg c] at e
    cases e
theorem item_list {δ : List Sl} {x : AV} {ds : List PyData} (h : rdC δ x = some (.list ds)) (i : Int) : itemA δ x (.int i) = atI ds i := by
  cases x with
  | val d => cases h; rfl
  | tmp s => cases h
  | ref k =>
    unfold rdC at h
    unfold itemA
    cases q : δ[k]? with
    | none => simp only [q] at h; cases h
    | some s =>
      cases s with
      | no => simp only [q] at h; cases h
      | od kvs => simp only [q] at h; cases h
      | fz d => simp only [q] at h ⊢; cases h; rfl
      | ol xs =>
        simp only [q] at h ⊢
        cases q2 : allFz xs with
        | none => rw [q2] at h; cases h
        | some es =>
          rw [q2] at h
          cases h
          rw [allFz_inv q2, atI_map]
          cases atI ds i <;> rfl
      | al y j =>
        simp only [q] at h ⊢
        cases q2 : δ[y]? with
        | none => simp only [q2] at h; cases h
        | some t =>
          cases t with
          | ol xs =>
            simp only [q2] at h ⊢
            cases q3 : xs[j]? with
            | none => rw [q3] at h; cases h
            | some el =>
              rw [q3] at h
              cases el with
              | fz d => cases h; rfl
              | ow ys => cases h; rfl
          | _ => simp only [q2] at h; cases h
theorem op_ix : Op2 gIx (atL (α := α)) fun r => .val (enc r) := fun v w r δ x y h1 _ h2 _ e => by
  have h2 : rdC δ y = some (.int w) := h2
  simp only [gIx, h2, item_list (show rdC δ x = some (.list (v.map enc)) from h1), atI_map]
  have e : atI v w = some r := e
  rw [e]
  rfl
theorem op_len : Op1A (gRd lenD) (lenL (α := α)) fun r => .val (enc r) := fun v r δ x h e => by
  have h : rdA δ x = some (.list (v.map enc)) := h
  cases some_of e
  simp only [gRd, h, Option.bind_some, lenD, List.length_map, flatD, if_true]
  rfl
theorem op_lenA : Op1A (gRd lenD) lenA fun r => .val (enc r) := fun v r δ x h e => by
  have h : rdA δ x = some v := h
  unfold lenA at e
  obtain ⟨d, e1, e2⟩ := bind_of e
  cases d with
  | int i =>
    cases some_of e2
    simp only [gRd, h, Option.bind_some, e1, flatD, if_true]
    rfl
  | _ => cases e2
theorem op_rd {k : PyData → Option PyData} {op : α → Option β} (hf : ∀ v r, op v = some r → k (enc v) = some (enc r) ∧ flatD (enc r) = true) : Op1A (gRd k) op fun r => .val (enc r) := fun v r δ x h e => by
  obtain ⟨h1, h2⟩ := hf v r e
  simp only [gRd, h, Option.bind_some, h1, h2, if_true]
theorem op_abs : Op1A (gRd absD) absI fun r => .val (enc r) := op_rd fun v r e => by cases some_of e; exact ⟨rfl, rfl⟩
theorem op_int : Op1A (gRd intD) intI fun r => .val (enc r) := op_rd fun v r e => by cases some_of e; exact ⟨rfl, rfl⟩
theorem op_intB : Op1A (gRd intD) intB fun r => .val (enc r) := op_rd fun v r e => by cases some_of e; exact ⟨rfl, rfl⟩
theorem op_sum : Op1A (gRd (overI fun ns => some (.int ns.sum))) sumI fun r => .val (enc r) := op_rd fun v r e => by
  cases some_of e
  refine ⟨?_, rfl⟩
  show (intsOf (v.map .int)).bind _ = _
  rw [intsOf_map]
  rfl
theorem op_maxL : Op1A (gRd (overI maxI)) maxL fun r => .val (enc r) := op_rd fun v r e => by
  refine ⟨?_, rfl⟩
  show (intsOf (v.map .int)).bind _ = _
  rw [intsOf_map]
  cases v with
  | nil => cases e
  | cons n ns => cases some_of e; rfl
theorem op_all : Op1A (gRd (overB fun ns => some (.bool (ns.all id)))) allB fun r => .val (enc r) := op_rd fun v r e => by
  cases some_of e
  refine ⟨?_, rfl⟩
  show (boolsOf (v.map .bool)).bind _ = _
  rw [boolsOf_map]
  rfl
theorem op_isi {T : String} : Op1A (gIsi T) (isiN T) fun r => .val (enc r) := op_rd fun v r e => by
  cases some_of e
  exact ⟨rfl, rfl⟩
theorem op_repr : Op1A (gRd reprD) reprN fun r => .val (enc r) := op_rd fun v r e => by
  unfold reprN at e
  split at e
  · rename_i c
    cases some_of e
    exact ⟨if_pos c, rfl⟩
  · cases e
theorem op_list : Op1 gList (listL (α := α)) fun r => .tmp (ow r) := fun v r δ x h _ e => by
  have h : rdC δ x = some (.list (v.map enc)) := h
  cases some_of e
  simp only [gList, h, ow]
theorem rgD_L (m n : Int) : rgD m n = (rgL m n).map enc := by
  unfold rgD rgL
  rw [List.map_map]
  rfl
theorem op_rg1 : Op1 gRg1 rg1 fun r => .tmp (ow r) := fun v r δ x h _ e => by
  have h : rdC δ x = some (.int v) := h
  unfold rg1 at e
  split at e
  · rename_i c
    cases some_of e
    simp only [gRg1, h, mkRg, if_pos c, rgD_L]
    rfl
  · cases e
end
end Nv
namespace Nv
open PySem Hb L2
open Enc (enc)
class EncEq (α : Type) [Enc α] [DecidableEq α] where
  n : Nat
  eqv : ∀ x y : α, PyData.eqv (enc x) (enc y) = decide (x = y)
  lay : ∀ x : α, (enc x).canLay0 = true
  dep : ∀ x : α, (enc x).depth ≤ n
class NotNone (α : Type) [Enc α] : Prop where
  a : ∀ x : α, PyData.eqv (enc x) .none = false
  b : ∀ x : α, PyData.eqv .none (enc x) = false
  c : ∀ x : α, enc x ≠ .none
instance : NotNone Int := ⟨fun _ => by simp [enc, PyData.eqv], fun _ => by simp [enc, PyData.eqv], fun _ h => nomatch h⟩
instance : NotNone Bool := ⟨fun _ => by simp [enc, PyData.eqv], fun _ => by simp [enc, PyData.eqv], fun _ h => nomatch h⟩
instance : NotNone Str := ⟨fun _ => by simp [enc, PyData.eqv], fun _ => by simp [enc, PyData.eqv], fun _ h => nomatch h⟩
instance {α : Type} [Enc α] : NotNone (List α) := ⟨fun _ => by simp [enc, PyData.eqv], fun _ => by simp [enc, PyData.eqv], fun _ h => nomatch h⟩
instance {α : Type} [Enc α] : NotNone (Tp α) := ⟨fun _ => by simp [enc, PyData.eqv], fun _ => by simp [enc, PyData.eqv], fun _ h => nomatch h⟩
instance {α β : Type} [Enc α] [Enc β] : NotNone (α × β) := ⟨fun _ => by simp [enc, PyData.eqv], fun _ => by simp [enc, PyData.eqv], fun _ h => nomatch h⟩
instance {α β γ : Type} [Enc α] [Enc β] [Enc γ] : NotNone (T3 α β γ) := ⟨fun _ => by simp [enc, PyData.eqv], fun _ => by simp [enc, PyData.eqv], fun _ h => nomatch h⟩
instance : EncEq Int := ⟨0, fun x y => by simp [enc, PyData.eqv]; by_cases h : x = y <;> simp [h], fun _ => by simp [enc, PyData.canLay0], fun _ => by simp [enc, PyData.depth]⟩
instance : EncEq Bool := ⟨0, fun x y => by cases x <;> cases y <;> simp [enc, PyData.eqv], fun _ => by simp [enc, PyData.canLay0], fun _ => by simp [enc, PyData.depth]⟩
instance : EncEq Unit := ⟨0, fun x y => by simp [enc, PyData.eqv], fun _ => by simp [enc, PyData.canLay0], fun _ => by simp [enc, PyData.depth]⟩
section
variable {α : Type} [Enc α] [DecidableEq α] [EncEq α]
theorem eqvAll_enc : ∀ xs ys : List α, PyData.eqvAll (xs.map enc) (ys.map enc) = decide (xs = ys)
  | [], [] => by simp [PyData.eqvAll]
  | [], y :: ys => by simp [PyData.eqvAll]
  | x :: xs, [] => by simp [PyData.eqvAll]
  | x :: xs, y :: ys => by
    simp only [List.map_cons, PyData.eqvAll, eqvAll_enc xs ys, EncEq.eqv]
    by_cases h : x = y <;> by_cases h2 : xs = ys <;> simp [h, h2]
theorem layAll_enc : ∀ xs : List α, PyData.canLayAll0 (xs.map enc) = true
  | [] => by simp [PyData.canLayAll0]
  | x :: xs => by simp [PyData.canLayAll0, EncEq.lay, layAll_enc xs]
theorem depAll_enc : ∀ xs : List α, PyData.depthAll (xs.map enc) ≤ EncEq.n α
  | [] => by simp [PyData.depthAll]
  | x :: xs => by
    have h1 := EncEq.dep x
    have h2 := depAll_enc xs
    simp only [List.map_cons, PyData.depthAll]
    omega
end
instance {α : Type} [Enc α] [DecidableEq α] [EncEq α] : EncEq (List α) := ⟨EncEq.n α + 1, fun x y => by
    show PyData.eqv (.list _) (.list _) = _
    simp only [PyData.eqv]
    exact eqvAll_enc x y, fun x => by
    show PyData.canLay0 (.list _) = true
    simp only [PyData.canLay0]
    exact layAll_enc x, fun x => by
    show PyData.depth (.list _) ≤ _
    simp only [PyData.depth]
    have := depAll_enc x
    omega⟩
instance {α : Type} [Enc α] [DecidableEq α] [EncEq α] : EncEq (Tp α) := ⟨EncEq.n α + 1, fun x y => by
    show PyData.eqv (.tuple _) (.tuple _) = _
    simp only [PyData.eqv]
    rw [eqvAll_enc]
    cases x; cases y
    simp, fun x => by
    show PyData.canLay0 (.tuple _) = true
    simp only [PyData.canLay0]
    exact layAll_enc x.l, fun x => by
    show PyData.depth (.tuple _) ≤ _
    simp only [PyData.depth]
    have := depAll_enc x.l
    omega⟩
instance {α β : Type} [Enc α] [DecidableEq α] [EncEq α] [Enc β] [DecidableEq β] [EncEq β] : EncEq (α × β) := ⟨max (EncEq.n α) (EncEq.n β) + 1, fun x y => by
    show PyData.eqv (.tuple _) (.tuple _) = _
    simp only [PyData.eqv, PyData.eqvAll, EncEq.eqv, Bool.and_true]
    cases x; cases y
    rw [← Bool.decide_and]
    simp, fun x => by
    show PyData.canLay0 (.tuple _) = true
    simp only [PyData.canLay0, PyData.canLayAll0, EncEq.lay, Bool.and_true], fun x => by
    show PyData.depth (.tuple _) ≤ _
    simp only [PyData.depth, PyData.depthAll]
    have h1 := EncEq.dep x.1
    have h2 := EncEq.dep x.2
    omega⟩
instance {α β γ : Type} [Enc α] [DecidableEq α] [EncEq α] [Enc β] [DecidableEq β] [EncEq β] [Enc γ] [DecidableEq γ] [EncEq γ] : EncEq (T3 α β γ) := ⟨max (EncEq.n α) (max (EncEq.n β) (EncEq.n γ)) + 1, fun x y => by
    show PyData.eqv (.tuple _) (.tuple _) = _
    simp only [PyData.eqv, PyData.eqvAll, EncEq.eqv, Bool.and_true]
    cases x; cases y
    rw [← Bool.decide_and, ← Bool.decide_and]
    simp, fun x => by
    show PyData.canLay0 (.tuple _) = true
    simp only [PyData.canLay0, PyData.canLayAll0, EncEq.lay, Bool.and_true], fun x => by
    show PyData.depth (.tuple _) ≤ _
    simp only [PyData.depth, PyData.depthAll]
    have h1 := EncEq.dep x.a
    have h2 := EncEq.dep x.b
    have h3 := EncEq.dep x.c
    omega⟩
instance {α : Type} [Enc α] [DecidableEq α] [EncEq α] [NotNone α] : EncEq (Option α) := ⟨EncEq.n α, fun x y => by
    cases x with
    | none =>
      cases y with
      | none => simp [enc, PyData.eqv]
      | some y => exact (NotNone.b y).trans (by simp)
    | some x =>
      cases y with
      | none => exact (NotNone.a x).trans (by simp)
      | some y =>
        show PyData.eqv (enc x) (enc y) = _
        rw [EncEq.eqv]
        simp, fun x => by
    cases x with
    | none => simp [enc, PyData.canLay0]
    | some x => exact EncEq.lay x, fun x => by
    cases x with
    | none => simp [enc, PyData.depth]
    | some x => exact EncEq.dep x⟩
def eqN {α : Type} [DecidableEq α] (x y : α) : Option Bool := some (decide (x = y))
def neN {α : Type} [DecidableEq α] (x y : α) : Option Bool := some (!decide (x = y))
def eqA (x y : PyData) : Option Bool := eqD x y
def neA (x y : PyData) : Option Bool := (eqD x y).map (! ·)
def neS (x y : Str) : Option Bool := some !(x.cps.toList == y.cps.toList)
def idxL {α : Type} [DecidableEq α] (xs : List α) (x : α) : Option Int := (xs.findIdx? fun z => decide (z = x)).map fun i => (i : Int)
section
variable {α β : Type} [Enc α] [DecidableEq α] [EncEq α]
theorem shaped_enc (h : EncEq.n α ≤ 64) (x : α) : SeqAt.shaped (enc x) = true := by
  unfold SeqAt.shaped
  have := EncEq.dep x
  rw [EncEq.lay, Bool.true_and, decide_eq_true_eq]
  omega
theorem eqD_enc (h : EncEq.n α ≤ 64) (x y : α) : eqD (enc x) (enc y) = some (decide (x = y)) := by
  unfold eqD
  rw [if_pos ⟨shaped_enc h x, shaped_enc h y⟩, EncEq.eqv]
theorem op_eq (h : EncEq.n α ≤ 64 := by decide) : Op2A gEq (eqN (α := α)) fun r => .val (enc r) := fun v w r δ x y h1 h2 e => by
  cases some_of e
  simp only [gEq, h1, h2, eqD_enc h]
  rfl
theorem op_ne (h : EncEq.n α ≤ 64 := by decide) : Op2A gNe (neN (α := α)) fun r => .val (enc r) := fun v w r δ x y h1 h2 e => by
  cases some_of e
  simp only [gNe, h1, h2, eqD_enc h]
  rfl
theorem op_eqA : Op2A gEq eqA fun r => .val (enc r) := fun v w r δ x y h1 h2 e => by
  have e : eqD v w = some r := e
  have h1 : rdA δ x = some v := h1
  have h2 : rdA δ y = some w := h2
  simp only [gEq, h1, h2, e]
  rfl
theorem op_neA : Op2A gNe neA fun r => .val (enc r) := fun v w r δ x y h1 h2 e => by
  have h1 : rdA δ x = some v := h1
  have h2 : rdA δ y = some w := h2
  unfold neA at e
  cases q : eqD v w with
  | none => rw [q] at e; cases e
  | some k =>
    rw [q] at e
    cases some_of e
    simp only [gNe, h1, h2, q]
    rfl
theorem op_idx (h : EncEq.n α ≤ 63 := by decide) : Op2 gIdx (idxL (α := α)) fun r => .val (enc r) := fun v w r δ x y h1 _ h2 _ e => by
  have h1 : rdC δ x = some (.list (v.map enc)) := h1
  have hs : SeqAt.shaped (.list (v.map enc)) = true := shaped_enc (α := List α) (by show EncEq.n α + 1 ≤ 64; omega) v
  have ef : (v.map enc).findIdx? (fun z => PyData.eqv z (enc w)) = v.findIdx? fun z => decide (z = w) := by
    rw [List.findIdx?_map]
    congr 1
    funext z
    exact EncEq.eqv z w
  unfold idxL at e
  cases q : v.findIdx? fun z => decide (z = w) with
  | none => rw [q] at e; cases e
  | some j =>
    rw [q] at e
    cases some_of e
    simp only [gIdx, h1, h2, if_pos (And.intro hs (shaped_enc (by omega) w)), ef, q]
    rfl
end
section
variable {α β : Type} [Enc α] {Γ : Ga} {fa fb : List Sl → Rs AV}
theorem rdA_val (d : PyData) (δ : List Sl) : rdA δ (.val d) = some d := rfl
theorem pu_eqE {n : Bool} {pa : Option (List α)} (ha : Ra fa Γ pa enc) : Pu (s2 (gEqE n) fa (sLst lNil)) Γ (pa.bind fun x => some (n != x.isEmpty)) fun r => .val (enc r) := fun r e δ s => by
  obtain ⟨v, e1, e⟩ := bind_of e
  cases some_of e
  obtain ⟨x, h1, h3⟩ := ha v e1 δ s
  unfold s2
  rw [h1]
  have h3 : rdA δ x = some (.list (v.map enc)) := h3
  show gEqE n x (.val (.list [])) δ = _
  simp only [gEqE, h3, rdA_val, List.isEmpty_map]
  rfl
def noneD : PyData → Bool
  | .none => true
  | _ => false
theorem isD_none {d : PyData} : isD d .none = some (noneD d) := by cases d <;> rfl
theorem pu_isX {n : Bool} {pa : Option PyData} (ha : Ra fa Γ pa enc) : Pu (s2 (gIs n) fa (sC .none)) Γ (pa.bind fun d => some (if n = true then !(noneD d) else noneD d)) fun r => .val (enc r) := fun r e δ s => by
  obtain ⟨v, e1, e⟩ := bind_of e
  cases some_of e
  obtain ⟨x, h1, h3⟩ := ha v e1 δ s
  unfold s2
  rw [h1]
  have h3 : rdA δ x = some v := h3
  show gIs n x (.val .none) δ = _
  simp only [gIs, h3, rdA_val, isD_none]
  rfl
theorem isNone_m [NotNone α] (x : Option α) : noneD (enc x : PyData) = x.isNone := by
  cases x with
  | none => rfl
  | some x =>
    show noneD (enc x : PyData) = false
    have := NotNone.c x
    cases q : (enc x : PyData) <;> first | rfl | exact absurd q this
theorem pu_isN [NotNone α] {n : Bool} {pa : Option (Option α)} (ha : Ra fa Γ pa enc) : Pu (s2 (gIs n) fa (sC .none)) Γ (pa.bind fun x => some (if n = true then x.isSome else x.isNone)) fun r => .val (enc r) := fun r e δ s => by
  obtain ⟨v, e1, e⟩ := bind_of e
  have h : Ra fa Γ (some (enc v : PyData)) (enc : PyData → PyData) := fun u eu δ s => by
    cases some_of eu
    exact ha v e1 δ s
  have k := pu_isX (n := n) h r (by
    rw [← e]
    show some _ = some _
    rw [isNone_m]
    cases n with
    | false => rfl
    | true =>
      cases v <;> rfl) δ s
  exact k
theorem op_neS : Op2 (gEqS true) neS fun r => .val (enc r) := fun v w r δ x y h1 _ h2 _ e => by
  have h1 : rdC δ x = some (.str v) := h1
  have h2 : rdC δ y = some (.str w) := h2
  cases some_of e
  simp only [gEqS, h1, h2]
  show Rs.ok (AV.val (.bool _)) δ = Rs.ok (AV.val (.bool _)) δ
  cases (v.cps.toList == w.cps.toList) <;> rfl
end
section
variable {α β ε ζ : Type} {Γ : Ga} {f : List Sl → Rs AV} {t u : List Sl → Rs Bool}
theorem ts_tst {p : Option Bool} (h : Pu f Γ p fun b => .val (enc b)) : Ts (sTst f) Γ p := fun v e δ s => by
  unfold sTst
  rw [h v e δ s]
  rfl
theorem ts_truB {p : Option Bool} (h : Ra f Γ p enc) : Ts (sTru f) Γ p := fun v e δ s => by
  obtain ⟨x, h1, h2⟩ := h v e δ s
  unfold sTru
  rw [h1]
  show (match (rdA δ x).bind truD with
    | some k => Rs.ok k δ
    | none => .bad) = _
  rw [h2]
  rfl
theorem ts_not {p : Option Bool} (h : Ts t Γ p) : Ts (sNot t) Γ (p.bind fun b => some !b) := fun r e δ s => by
  obtain ⟨v, e1, e⟩ := bind_of e
  cases some_of e
  unfold sNot
  rw [h v e1 δ s]
  rfl
theorem ts_or {p q : Option Bool} (h : Ts t Γ p) (k : Ts u Γ q) : Ts (sOr t u) Γ (p.bind fun b => if b = true then some true else q) := fun r e δ s => by
  obtain ⟨v, e1, e⟩ := bind_of e
  unfold sOr
  rw [h v e1 δ s]
  cases v with
  | true => cases some_of e; rfl
  | false => exact k r e δ s
theorem ts_ok : Ts tOk Γ (some true) := fun r e δ s => by cases some_of e; rfl
theorem te_truB {p : Option ε} {k : ε → Bool} {Γ' : ε → Ga} (h : Es f Γ p (fun v => enc (k v)) Γ') : Te (sTru f) Γ p k Γ' := fun v e δ s => by
  obtain ⟨x, δ', h1, h2, h3, s1⟩ := h v e δ s
  refine ⟨δ', ?_, s1⟩
  unfold sTru
  rw [h1]
  show (match (rdA δ' x).bind truD with
    | some k => Rs.ok k δ'
    | none => .bad) = _
  rw [h3]
  rfl
theorem te_not {p : Option ε} {k : ε → Bool} {Γ' : ε → Ga} (h : Te t Γ p k Γ') : Te (sNot t) Γ p (fun v => !k v) Γ' := fun v e δ s => by
  obtain ⟨δ', h1, s1⟩ := h v e δ s
  refine ⟨δ', ?_, s1⟩
  unfold sNot
  rw [h1]
  rfl
theorem pu_if {fa fb : List Sl → Rs AV} {pt : Option Bool} {pa pb : Option β} {a : β → AV} (h : Ts t Γ pt) (ha : Pu fa Γ pa a) (hb : Pu fb Γ pb a) : Pu (sIf t fa fb) Γ (pt.bind fun c => if c = true then pa else pb) a := fun r e δ s => by
  obtain ⟨v, e1, e⟩ := bind_of e
  unfold sIf
  rw [h v e1 δ s]
  cases v with
  | true => exact ha r e δ s
  | false => exact hb r e δ s
theorem ev_if {fa fb : List Sl → Rs AV} {p : Option ε} {k : ε → Bool} {Γ1 : ε → Ga} {pa pb : ε → Option β} {a : β → AV} {Γ2 : β → Ga} (h : Te t Γ p k Γ1) (ha : ∀ v, Ev fa (Γ1 v) (pa v) a Γ2) (hb : ∀ v, Ev fb (Γ1 v) (pb v) a Γ2) : Ev (sIf t fa fb) Γ (p.bind fun v => if k v = true then pa v else pb v) a Γ2 := fun r e δ s => by
  obtain ⟨v, e1, e⟩ := bind_of e
  obtain ⟨δ', h1, s1⟩ := h v e1 δ s
  unfold sIf
  rw [h1]
  by_cases c : k v = true
  · rw [if_pos c] at e
    show ∃ δ2, (if k v = true then fa δ' else fb δ') = _ ∧ _
    rw [if_pos c]
    exact ha v r e δ' s1
  · rw [if_neg c] at e
    show ∃ δ2, (if k v = true then fa δ' else fb δ') = _ ∧ _
    rw [if_neg c]
    exact hb v r e δ' s1
theorem pu_andV {fa fb : List Sl → Rs AV} {pa pb : Option Bool} (ha : Pu fa Γ pa fun b => .val (enc b)) (hb : Pu fb Γ pb fun b => .val (enc b)) : Pu (sAndV fa fb) Γ (pa.bind fun b => if b = true then pb else some false) fun b => .val (enc b) := fun r e δ s => by
  obtain ⟨v, e1, e⟩ := bind_of e
  unfold sAndV
  rw [sSt_val (ha v e1 δ s)]
  cases v with
  | true => exact hb r e δ s
  | false => cases some_of e; rfl
theorem pu_orV {fa fb : List Sl → Rs AV} {pa pb : Option Bool} (ha : Pu fa Γ pa fun b => .val (enc b)) (hb : Pu fb Γ pb fun b => .val (enc b)) : Pu (sOrV fa fb) Γ (pa.bind fun b => if b = true then some true else pb) fun b => .val (enc b) := fun r e δ s => by
  obtain ⟨v, e1, e⟩ := bind_of e
  unfold sOrV
  rw [sSt_val (ha v e1 δ s)]
  cases v with
  | true => cases some_of e; rfl
  | false => exact hb r e δ s
end
end Nv
namespace Nv
open PySem Hb L2
open Enc (enc)
section
variable {α β γ ε ζ : Type} {Γ : Ga} {f : List Sl → Rs AV}
def Dl (g : List Sl → Rs (List PyData)) (Γ : Ga) (p : Option β) (ds : β → List PyData) (Γ' : β → Ga) : Prop := ∀ v, p = some v → ∀ δ, Sat Γ δ → ∃ δ', g δ = .ok (ds v) δ' ∧ Sat (Γ' v) δ'
def DlP (g : List Sl → Rs (List PyData)) (Γ : Ga) (p : Option β) (ds : β → List PyData) : Prop := ∀ v, p = some v → ∀ δ, Sat Γ δ → g δ = .ok (ds v) δ
variable {g : List Sl → Rs (List PyData)}
theorem dp_nil : DlP lNil Γ (some ()) fun _ => [] := fun v _ δ _ => rfl
theorem dp_cons {p : Option ε} {d : ε → PyData} {q : Option ζ} {ds : ζ → List PyData} (h : Pu (sTk f) Γ p fun v => .val (d v)) (h2 : DlP g Γ q ds) : DlP (lCons f g) Γ (p.bind fun x => q.bind fun y => some (x, y)) fun v => d v.1 :: ds v.2 := fun r e δ s => by
  obtain ⟨v, e1, e⟩ := bind_of e
  obtain ⟨w, e2, e⟩ := bind_of e
  cases some_of e
  unfold lCons Rs.val
  rw [h v e1 δ s]
  show (g δ).bind _ = _
  rw [h2 w e2 δ s]
  rfl
theorem dl_nil : Dl lNil Γ (some ()) (fun _ => []) fun _ => Γ := fun v _ δ s => ⟨δ, rfl, s⟩
theorem dl_cons {p : Option ε} {d : ε → PyData} {Γ1 : ε → Ga} {q : ε → Option ζ} {ds : ζ → List PyData} {Γ2 : ε → ζ → Ga} (h : Ev (sTk f) Γ p (fun v => .val (d v)) Γ1) (h2 : ∀ x, Dl g (Γ1 x) (q x) ds (Γ2 x)) : Dl (lCons f g) Γ (p.bind fun x => (q x).bind fun y => some (x, y)) (fun v => d v.1 :: ds v.2) fun v => Γ2 v.1 v.2 := fun r e δ s => by
  obtain ⟨v, e1, e⟩ := bind_of e
  obtain ⟨w, e2, e⟩ := bind_of e
  cases some_of e
  obtain ⟨δ1, h1, s1⟩ := h v e1 δ s
  obtain ⟨δ2, h3, s2⟩ := h2 v w e2 δ1 s1
  refine ⟨δ2, ?_, s2⟩
  unfold lCons Rs.val
  rw [h1]
  show (g δ1).bind _ = _
  rw [h3]
  rfl
theorem pu_lst [Enc α] {p : Option β} {ds : β → List PyData} (h : DlP g Γ p ds) (xs : β → List α) (hx : ∀ v, ds v = (xs v).map enc := by intro _; rfl) (hl : ∀ v, (xs v).length ≤ cap := by intro _; exact Nat.le_of_ble_eq_true rfl) : Pu (sLst g) Γ (p.bind fun v => some (xs v)) fun r => .tmp (ow r) := fun r e δ s => by
  obtain ⟨v, e1, e⟩ := bind_of e
  cases some_of e
  unfold sLst
  rw [h v e1 δ s]
  show (if (ds v).length ≤ cap then _ else _) = _
  rw [hx v, List.length_map, if_pos (hl v)]
  rfl
theorem pu_tup [Enc α] {p : Option β} {ds : β → List PyData} (h : DlP g Γ p ds) (t : β → α) (hx : ∀ v, enc (t v) = .tuple (ds v) := by intro _; rfl) (hl : ∀ v, (ds v).length ≤ cap := by intro _; exact Nat.le_of_ble_eq_true rfl) : Pu (sTup g) Γ (p.bind fun v => some (t v)) fun r => .val (enc r) := fun r e δ s => by
  obtain ⟨v, e1, e⟩ := bind_of e
  cases some_of e
  unfold sTup
  rw [h v e1 δ s]
  show (if (ds v).length ≤ cap then _ else _) = _
  rw [if_pos (hl v)]
  show Rs.ok (AV.val (.tuple (ds v))) δ = Rs.ok (AV.val (enc (t v))) δ
  rw [hx]
theorem ev_lst [Enc α] {p : Option β} {ds : β → List PyData} {Γ' : β → Ga} (h : Dl g Γ p ds Γ') (xs : β → List α) (hx : ∀ v, ds v = (xs v).map enc := by intro _; rfl) (hl : ∀ v, (xs v).length ≤ cap := by intro _; exact Nat.le_of_ble_eq_true rfl) : Ev (sLst g) Γ (p.bind fun v => some (xs v, v)) (fun r => .tmp (ow r.1)) fun r => Γ' r.2 := fun r e δ s => by
  obtain ⟨v, e1, e⟩ := bind_of e
  cases some_of e
  obtain ⟨δ1, h1, s1⟩ := h v e1 δ s
  refine ⟨δ1, ?_, s1⟩
  unfold sLst
  rw [h1]
  show (if (ds v).length ≤ cap then _ else _) = _
  rw [hx v, List.length_map, if_pos (hl v)]
  rfl
theorem ev_tup [Enc α] {p : Option β} {ds : β → List PyData} {Γ' : β → Ga} (h : Dl g Γ p ds Γ') (t : β → α) (hx : ∀ v, enc (t v) = .tuple (ds v) := by intro _; rfl) (hl : ∀ v, (ds v).length ≤ cap := by intro _; exact Nat.le_of_ble_eq_true rfl) : Ev (sTup g) Γ (p.bind fun v => some (t v, v)) (fun r => .val (enc r.1)) fun r => Γ' r.2 := fun r e δ s => by
  obtain ⟨v, e1, e⟩ := bind_of e
  cases some_of e
  obtain ⟨δ1, h1, s1⟩ := h v e1 δ s
  refine ⟨δ1, ?_, s1⟩
  unfold sTup
  rw [h1]
  show (if (ds v).length ≤ cap then _ else _) = _
  rw [if_pos (hl v)]
  show Rs.ok (AV.val (.tuple (ds v))) δ1 = Rs.ok (AV.val (enc (t v))) δ1
  rw [hx]
end
section
variable {α β γ ε ζ : Type} {Γ : Ga} {f fl fh : List Sl → Rs AV}
/-- a bound -/
inductive Sb (Γ : Ga) : Option (List Sl → Rs AV) → Option (Option Int) → Prop
  | no : Sb Γ none (some none)
  | yes {f : List Sl → Rs AV} {p : Option Int} : Rd f Γ p enc → Sb Γ (some f) (p.bind fun i => some (some i))
theorem Sb.run {o : Option (List Sl → Rs AV)} {p : Option (Option Int)} (h : Sb Γ o p) {v : Option Int} (e : p = some v) {δ : List Sl} (s : Sat Γ δ) : sPartO o δ = .ok v δ := by
  cases h with
  | no => cases some_of e; rfl
  | yes h =>
    obtain ⟨i, e1, e⟩ := bind_of e
    cases some_of e
    obtain ⟨x, h1, h2, _⟩ := h i e1 δ s
    show (sSt _ δ).bind _ = _
    rw [h1]
    show (match rdC δ x with
      | some (.int i) => Rs.ok (some i) δ
      | _ => .bad) = _
    rw [h2]
    rfl
theorem cutD_map [Enc α] (xs : List α) (lo hi : Option Int) : cutD (xs.map enc) lo hi = (cutL xs lo hi).map enc := by
  unfold cutD cutL
  rw [List.length_map, List.map_take, List.map_drop]
theorem pu_sl [Enc α] {p : Option (List α)} {ol oh : Option (List Sl → Rs AV)} {pl ph : Option (Option Int)} (h : Rd f Γ p enc) (hl : Sb Γ ol pl) (hh : Sb Γ oh ph) : Pu (sSl f ol oh) Γ (p.bind fun x => pl.bind fun l => ph.bind fun u => some (cutL x l u)) fun r => .tmp (ow r) := fun r e δ s => by
  obtain ⟨v, e1, e⟩ := bind_of e
  obtain ⟨l, e2, e⟩ := bind_of e
  obtain ⟨u, e3, e⟩ := bind_of e
  cases some_of e
  obtain ⟨x, h1, h2, _⟩ := h v e1 δ s
  have h2 : rdC δ x = some (.list (v.map enc)) := h2
  unfold sSl
  rw [h1]
  show (sPartO ol δ).bind _ = _
  rw [hl.run e2 s]
  show (sPartO oh δ).bind _ = _
  rw [hh.run e3 s]
  show gSl x l u δ = _
  simp only [gSl, h2, cutD_map]
  rfl
end
section
variable {α β γ ε ζ : Type} {Γ : Ga} {fo fa : List Sl → Rs AV}
theorem isLst_of [Enc α] {δ : List Sl} {x : AV} {v : List α} (h : rdA δ x = some (enc v)) : isLst δ x = true := by
  have h : rdA δ x = some (.list (v.map enc)) := h
  simp only [isLst, h]
theorem pu_idx [Enc α] [DecidableEq α] [EncEq α] {pa : Option (List α)} {pb : Option α} (ha : Rd fo Γ pa enc) (hb : Rd fa Γ pb enc) (hn : EncEq.n α ≤ 63 := by decide) : Pu (sIdx fo fa) Γ (pa.bind fun v => pb.bind fun w => idxL v w) fun r => .val (enc r) := fun r e δ s => by
  obtain ⟨v, e1, e⟩ := bind_of e
  obtain ⟨w, e2, e⟩ := bind_of e
  obtain ⟨x, h1, h2, h3⟩ := ha v e1 δ s
  obtain ⟨y, k1, k2, k3⟩ := hb w e2 δ s
  unfold sIdx
  rw [h1]
  show (if isLst δ x = true then _ else _) = _
  rw [if_pos (isLst_of h3), k1]
  exact op_idx hn v w r δ x y h2 h3 k2 k3 e
theorem sVar_own {k : Nat} {δ : List Sl} {xs : List El} (h : δ[k]? = some (.ol xs)) : sVar k δ = .ok (.ref k) δ := by
  unfold sVar; rw [h]
theorem isLst_ref {k : Nat} {δ : List Sl} {xs : List El} (h : δ[k]? = some (.ol xs)) : isLst δ (.ref k) = true := by
  simp only [isLst, rdA, h, Sl.tree]
def apL {α : Type} (xs : List α) (x : α) : Option (List α) := if xs.length ≤ cap then some (xs ++ [x]) else none
/-- the item's value in the words of what it gives -/
theorem ev_app [Enc α] {k : Nat} {p : Option ε} {va : ε → α} {xs : ε → List α} {Γ1 : ε → Ga} {s0 : Sl} {es : List El} (h0 : Γ[k]? = some (.eq s0)) (hs0 : s0 = .ol es) (ha : Ev (sTk fa) Γ p (fun x => .val (enc (va x))) Γ1) (h1 : ∀ x, (Γ1 x)[k]? = some (.eq (ow (xs x)))) :
    Ev (sApp (sVar k) fa) Γ (p.bind fun x => (apL (xs x) (va x)).bind fun ys => some (ys, x)) (fun _ => .val .none) fun r => upP k (.eq (ow r.1)) (Γ1 r.2) := fun r e δ s => by
  obtain ⟨v, e1, e⟩ := bind_of e
  obtain ⟨ys, e2, e⟩ := bind_of e
  cases some_of e
  obtain ⟨δ1, q1, s1⟩ := ha v e1 δ s
  subst hs0
  have hk := s.at_ h0
  have hk1 := s1.at_ (h1 v)
  unfold apL at e2
  by_cases c : (xs v).length ≤ cap
  · rw [if_pos c] at e2
    cases some_of e2
    refine ⟨_, ?_, s1.up (p := .eq (ow (xs v ++ [va v]))) rfl⟩
    unfold sApp
    rw [sSt_ref (sVar_own hk)]
    show (if isLst δ (.ref k) = true then _ else _) = _
    rw [if_pos (isLst_ref hk)]
    unfold Rs.val
    rw [q1]
    show appI k (enc (va v)) δ1 = _
    unfold appI
    rw [hk1]
    simp only [ow, List.length_map, if_pos c, List.map_append]
    rfl
  · rw [if_neg c] at e2
    cases e2
def popL {α : Type} (xs : List α) (i : Int) : Option (α × List α) := (ixN xs.length i).bind fun j => (xs[j]?).bind fun x => if xs.length ≤ cap then some (x, xs.eraseIdx j) else none
theorem erase_map {α β : Type} (f : α → β) : ∀ (xs : List α) (j : Nat), (xs.map f).eraseIdx j = (xs.eraseIdx j).map f
  | [], _ => rfl
  | x :: r, 0 => rfl
  | x :: r, j + 1 => by
    show f x :: (r.map f).eraseIdx j = f x :: (r.eraseIdx j).map f
    rw [erase_map f r j]
theorem popI_ok [Enc α] {k : Nat} {xs : List α} {i : Int} {r : α × List α} {δ : List Sl} (h : δ[k]? = some (ow xs)) (e : popL xs i = some r) : popI k i δ = .ok (.val (enc r.1)) (upS k (ow r.2) δ) := by
  obtain ⟨j, e1, e⟩ := bind_of e
  obtain ⟨x, e2, e⟩ := bind_of e
  by_cases c : xs.length ≤ cap
  · rw [if_pos c] at e
    cases some_of e
    unfold popI
    rw [h]
    simp only [ow, allFz_map, List.length_map, e1, List.getElem?_map, e2, Option.map_some, if_pos c, erase_map]
  · rw [if_neg c] at e
    cases e
theorem ev_pop1 [Enc α] {k : Nat} {p : Option ε} {va : ε → Int} {xs : ε → List α} {Γ1 : ε → Ga} {s0 : Sl} {es : List El} (h0 : Γ[k]? = some (.eq s0)) (hs0 : s0 = .ol es) (ha : Ev (sTk fa) Γ p (fun x => .val (enc (va x))) Γ1) (h1 : ∀ x, (Γ1 x)[k]? = some (.eq (ow (xs x)))) :
    Ev (sPop1 (sVar k) fa) Γ (p.bind fun x => (popL (xs x) (va x)).bind fun y => some (y, x)) (fun r => .val (enc r.1.1)) fun r => upP k (.eq (ow r.1.2)) (Γ1 r.2) := fun r e δ s => by
  obtain ⟨v, e1, e⟩ := bind_of e
  obtain ⟨y, e2, e⟩ := bind_of e
  cases some_of e
  obtain ⟨δ1, q1, s1⟩ := ha v e1 δ s
  subst hs0
  have hk := s.at_ h0
  have hk1 := s1.at_ (h1 v)
  refine ⟨_, ?_, s1.up (p := .eq (ow y.2)) rfl⟩
  unfold sPop1
  rw [sSt_ref (sVar_own hk)]
  show (if isLst δ (.ref k) = true then _ else _) = _
  rw [if_pos (isLst_ref hk)]
  unfold Rs.val
  rw [q1]
  exact popI_ok hk1 e2
end
section
variable {α β γ ε ζ ρ : Type} {Γ : Ga} {f : List Sl → Rs AV} {g : List Sl → Rs (List Ar)}
def Ag (g : List Sl → Rs (List Ar)) (Γ : Ga) (p : Option β) (as : β → List Ar) (Γ' : β → Ga) : Prop := ∀ v, p = some v → ∀ δ, Sat Γ δ → ∃ δ', g δ = .ok (as v) δ' ∧ Sat (Γ' v) δ'
def AgP (g : List Sl → Rs (List Ar)) (Γ : Ga) (p : Option β) (as : β → List Ar) : Prop := ∀ v, p = some v → ∀ δ, Sat Γ δ → g δ = .ok (as v) δ
def arV : AV → Ar
  | .val d => .fz d
  | .tmp s => .own s
  | .ref k => .io k
def noRef : AV → Bool
  | .ref _ => false
  | _ => true
theorem arOf_V {a : AV} (h : noRef a = true) : arOf a = some (arV a) := by cases a <;> first | rfl | cases h
theorem nodup1 (k : Nat) : [k].Nodup := by simp
theorem ap_nil : AgP rNil Γ (some ()) fun _ => [] := fun v _ δ _ => rfl
theorem ap_cons {p : Option ε} {a : ε → AV} {q : Option ζ} {as : ζ → List Ar} (h : Pu f Γ p a) (h2 : AgP g Γ q as) (hr : ∀ v, noRef (a v) = true := by intro _; rfl) : AgP (rCons f g) Γ (p.bind fun x => q.bind fun y => some (x, y)) fun v => arV (a v.1) :: as v.2 := fun z e δ s => by
  obtain ⟨v, e1, e⟩ := bind_of e
  obtain ⟨w, e2, e⟩ := bind_of e
  cases some_of e
  unfold rCons
  rw [h v e1 δ s]
  show (match arOf (a v) with
    | some r => (g δ).bind fun rs δ2 => Rs.ok (r :: rs) δ2
    | none => .bad) = _
  rw [arOf_V (hr v)]
  show (g δ).bind _ = _
  rw [h2 w e2 δ s]
  rfl
theorem ag_nil : Ag rNil Γ (some ()) (fun _ => []) fun _ => Γ := fun v _ δ s => ⟨δ, rfl, s⟩
theorem ag_cons {p : Option ε} {a : ε → AV} {Γ1 : ε → Ga} {q : ε → Option ζ} {as : ζ → List Ar} {Γ2 : ε → ζ → Ga} (h : Ev f Γ p a Γ1) (h2 : ∀ x, Ag g (Γ1 x) (q x) as (Γ2 x)) (hr : ∀ v, noRef (a v) = true := by intro _; rfl) : Ag (rCons f g) Γ (p.bind fun x => (q x).bind fun y => some (x, y)) (fun v => arV (a v.1) :: as v.2) fun v => Γ2 v.1 v.2 := fun z e δ s => by
  obtain ⟨v, e1, e⟩ := bind_of e
  obtain ⟨w, e2, e⟩ := bind_of e
  cases some_of e
  obtain ⟨δ1, h1, s1⟩ := h v e1 δ s
  obtain ⟨δ2, h3, s2⟩ := h2 v w e2 δ1 s1
  refine ⟨δ2, ?_, s2⟩
  unfold rCons
  rw [h1]
  show (match arOf (a v) with
    | some r => (g δ1).bind fun rs δ2 => Rs.ok (r :: rs) δ2
    | none => .bad) = _
  rw [arOf_V (hr v)]
  show (g δ1).bind _ = _
  rw [h3]
  rfl
def insOf : List Ar → Option (List Sl)
  | [] => some []
  | .fz d :: r => (insOf r).map (.fz d :: ·)
  | .own s :: r => (insOf r).map (s :: ·)
  | .io _ :: _ => none
theorem ins_args {δ : List Sl} : ∀ {as : List Ar} {l : List Sl}, insOf as = some l → argsS δ as = some l ∧ iosOf δ as = []
  | [], l, h => by cases h; exact ⟨rfl, rfl⟩
  | .fz d :: r, l, h => by
    have h : (insOf r).map (.fz d :: ·) = some l := h
    cases q : insOf r with
    | none => rw [q] at h; cases h
    | some m =>
      rw [q] at h
      cases h
      obtain ⟨h1, h2⟩ := ins_args (δ := δ) q
      exact ⟨by simp only [argsS, argS, h1], h2⟩
  | .own s :: r, l, h => by
    have h : (insOf r).map (s :: ·) = some l := h
    cases q : insOf r with
    | none => rw [q] at h; cases h
    | some m =>
      rw [q] at h
      cases h
      obtain ⟨h1, h2⟩ := ins_args (δ := δ) q
      exact ⟨by simp only [argsS, argS, h1], h2⟩
  | .io k :: r, l, h => by cases h
theorem putB_nil {δ : List Sl} : ∀ {as : List Ar} {l m : List Sl}, insOf as = some m → putB [] as l δ = δ
  | [], l, _, _ => by cases l <;> rfl
  | .fz d :: r, [], _, _ => rfl
  | .own s :: r, [], _, _ => rfl
  | .fz d :: r, s :: l, m, h => by
    have h : (insOf r).map (.fz d :: ·) = some m := h
    cases q : insOf r with
    | none => rw [q] at h; cases h
    | some m => exact putB_nil (as := r) q
  | .own t :: r, s :: l, m, h => by
    have h : (insOf r).map (t :: ·) = some m := h
    cases q : insOf r with
    | none => rw [q] at h; cases h
    | some m => exact putB_nil (as := r) q
  | .io k :: r, l, m, h => by cases h
theorem callF_pure {F : List Sl → FR} {as : List Ar} {l : List Sl} {δ o : List Sl} {r : Sl} (h : insOf as = some l) (hF : F l = .ok r o) : callF F as δ = .ok (AV.ofSl r) δ := by
  obtain ⟨h1, h2⟩ := ins_args (δ := δ) h
  unfold callF backS
  rw [h2]
  rw [if_pos List.nodup_nil, h1]
  simp only [hF]
  rw [putB_nil h]
  rfl
/-- F on what stands for v gives what stands for n v -/
def Fun (F : List Sl → FR) (n : Option ρ) (ins : List Sl) (ret : ρ → Sl) (out : ρ → List Sl) : Prop := ∀ r, n = some r → F ins = .ok (ret r) (out r)
theorem pu_call {F : List Sl → FR} {dd : List PyData} {q : Option β} {as : β → List Ar} {n : β → Option ρ} {ins : β → List Sl} {ret : ρ → Sl} {out : ρ → List Sl} (hg : AgP g Γ q as) (hF : ∀ v, Fun F (n v) (ins v) ret out) (hi : ∀ v, insOf (as v ++ dd.map .fz) = some (ins v) := by intro _; rfl) : Pu (sCall F dd g) Γ (q.bind n) fun r => AV.ofSl (ret r) := fun r e δ s => by
  obtain ⟨v, e1, e⟩ := bind_of e
  unfold sCall
  rw [hg v e1 δ s]
  exact callF_pure (hi v) (hF v r e)
/-- a slot handed over -/
theorem ag_io {k : Nat} {q : Option β} {as : β → List Ar} {Γ1 : β → Ga} {s0 : Sl} (h0 : Γ[k]? = some (.eq s0)) (ho : ownS (some s0) = true) (h : Ag g Γ q as Γ1) : Ag (rIo k g) Γ q (fun v => .io k :: as v) Γ1 := fun v e δ s => by
  obtain ⟨δ1, h1, s1⟩ := h v e δ s
  refine ⟨δ1, ?_, s1⟩
  have hk := s.at_ h0
  unfold rIo
  have hv : sVar k δ = .ok (.ref k) δ := by
    unfold sVar
    rw [hk]
    cases s0 <;> first | rfl | cases ho
  rw [hv]
  show (g δ).bind _ = _
  rw [h1]
  rfl
def insG (Γ : Ga) : List Ar → Option (List Sl)
  | [] => some []
  | .fz d :: r => (insG Γ r).map (.fz d :: ·)
  | .own s :: r => (insG Γ r).map (s :: ·)
  | .io k :: r => match Γ[k]? with
    | some (.eq s) => if ownS (some s) = true then (insG Γ r).map (s :: ·) else none
    | _ => none
def iosG : List Ar → List Nat
  | [] => []
  | .io k :: r => k :: iosG r
  | _ :: r => iosG r
def clrP (ks : List Nat) (Γ : Ga) : Ga := ks.foldr (fun k Γ => upP k (.eq .no) Γ) Γ
def putP : List Ar → List Sl → Ga → Ga
  | .io k :: r, s :: l, Γ => putP r l (upP k (.eq (noAl s)) Γ)
  | .fz _ :: r, _ :: l, Γ => putP r l Γ
  | .own _ :: r, _ :: l, Γ => putP r l Γ
  | _, _, Γ => Γ
def backP (Γ : Ga) (as : List Ar) (o : List Sl) : Ga := putP as o (clrP (iosG as) Γ)
theorem insG_ok {δ : List Sl} (s : Sat Γ δ) : ∀ {as : List Ar} {l : List Sl}, insG Γ as = some l → argsS δ as = some l ∧ iosOf δ as = iosG as
  | [], l, h => by cases h; exact ⟨rfl, rfl⟩
  | .fz d :: r, l, h => by
    have h : (insG Γ r).map (.fz d :: ·) = some l := h
    cases q : insG Γ r with
    | none => rw [q] at h; cases h
    | some m =>
      rw [q] at h
      cases h
      obtain ⟨h1, h2⟩ := insG_ok s q
      exact ⟨by simp only [argsS, argS, h1], h2⟩
  | .own t :: r, l, h => by
    have h : (insG Γ r).map (t :: ·) = some l := h
    cases q : insG Γ r with
    | none => rw [q] at h; cases h
    | some m =>
      rw [q] at h
      cases h
      obtain ⟨h1, h2⟩ := insG_ok s q
      exact ⟨by simp only [argsS, argS, h1], h2⟩
  | .io k :: r, l, h => by
    unfold insG at h
    cases q0 : Γ[k]? with
    | none => simp only [q0] at h; cases h
    | some p =>
      cases p with
      | eq t =>
        simp only [q0] at h
        by_cases c : ownS (some t) = true
        · rw [if_pos c] at h
          cases q : insG Γ r with
          | none => rw [q] at h; cases h
          | some m =>
            rw [q] at h
            cases h
            obtain ⟨h1, h2⟩ := insG_ok s q
            have hk := s.at_ q0
            refine ⟨?_, ?_⟩
            · simp only [argsS, h1, argS, hk]
              cases t <;> first | rfl | cases c
            · rw [ios_cons_io, if_pos (by rw [hk]; exact c), h2]
              rfl
        · rw [if_neg c] at h
          cases h
      | _ => simp only [q0] at h; cases h
theorem clrP_ok {δ : List Sl} (s : Sat Γ δ) : ∀ ks : List Nat, Sat (clrP ks Γ) (clr ks δ)
  | [] => s
  | k :: r => (clrP_ok s r).up (p := .eq .no) rfl
theorem putP_ok (ks : List Nat) : ∀ {as : List Ar} {o : List Sl} {Γ : Ga} {δ : List Sl}, Sat Γ δ → (∀ k ∈ iosG as, k ∈ ks) → Sat (putP as o Γ) (putB ks as o δ)
  | [], o, _, _, s, _ => by cases o <;> exact s
  | .fz d :: r, [], _, _, s, _ => s
  | .own t :: r, [], _, _, s, _ => s
  | .io k :: r, [], _, _, s, _ => s
  | .fz d :: r, t :: o, _, _, s, h => putP_ok ks (as := r) s h
  | .own u :: r, t :: o, _, _, s, h => putP_ok ks (as := r) s h
  | .io k :: r, t :: o, Γ, δ, s, h => by
    show Sat (putP r o (upP k (.eq (noAl t)) Γ)) (putB ks r o (if k ∈ ks then upS k (noAl t) δ else δ))
    rw [if_pos (h k List.mem_cons_self)]
    exact putP_ok ks (as := r) (s.up (p := .eq (noAl t)) rfl) fun j hj => h j (List.mem_cons_of_mem _ hj)
theorem ev_callG {F : List Sl → FR} {dd : List PyData} {q : Option β} {as : β → List Ar} {Γ1 : β → Ga} {n : β → Option ρ} {ins : β → List Sl} {ret : ρ → Sl} {out : ρ → List Sl} (hg : Ag g Γ q as Γ1) (hF : ∀ v, Fun F (n v) (ins v) ret out)
    (hi : ∀ v, insG (Γ1 v) (as v ++ dd.map .fz) = some (ins v) := by intro _; rfl) (hn : ∀ v, (iosG (as v ++ dd.map .fz)).Nodup := by intro _; first | exact nodup1 _ | exact List.nodup_nil | decide) :
    Ev (sCall F dd g) Γ (q.bind fun v => (n v).bind fun r => some (r, v)) (fun r => AV.ofSl (ret r.1)) (fun r => backP (Γ1 r.2) (as r.2 ++ dd.map .fz) (out r.1)) := fun r e δ s => by
  obtain ⟨v, e1, e⟩ := bind_of e
  obtain ⟨w, e2, e⟩ := bind_of e
  cases some_of e
  obtain ⟨δ1, h1, sa⟩ := hg v e1 δ s
  obtain ⟨k1, k2⟩ := insG_ok sa (hi v)
  refine ⟨backS (as v ++ dd.map .fz) (out w) δ1, ?_, ?_⟩
  · unfold sCall
    rw [h1]
    show callF F (as v ++ dd.map .fz) δ1 = _
    unfold callF
    rw [k2, if_pos (hn v), k1]
    simp only [hF v w e2]
  · unfold backS backP
    rw [k2]
    exact putP_ok _ (clrP_ok sa _) fun k hk => hk
/-- a def whose result is a list, or stands still: its tree is known -/
def FunM (F : List Sl → FR) (n : Option ρ) (ins : List Sl) (d : ρ → PyData) (out : ρ → List Sl) : Prop := ∀ r, n = some r → ∃ s, F ins = .ok s (out r) ∧ (Pt.tr (d r)).Ok s
/-- a value, or a list of nobody's -/
def Em (f : List Sl → Rs AV) (Γ : Ga) (p : Option β) (d : β → PyData) (Γ' : β → Ga) : Prop := ∀ v, p = some v → ∀ δ, Sat Γ δ → ∃ s δ', f δ = .ok (AV.ofSl s) δ' ∧ (Pt.tr (d v)).Ok s ∧ Sat (Γ' v) δ'
theorem tr_tree {d : PyData} {s : Sl} (h : (Pt.tr d).Ok s) : s.tree = some d := by
  rcases h with ⟨h, _⟩ | h
  · exact h
  · rw [h]; rfl
theorem Em.er {p : Option β} {d : β → PyData} {Γ' : β → Ga} (h : Em f Γ p d Γ') : Er f Γ p d Γ' := fun v e δ s => by
  obtain ⟨t, δ', h1, h2, h3⟩ := h v e δ s
  refine ⟨δ', ?_, h3⟩
  have h4 := tr_tree h2
  cases t with
  | fz d' => cases h4; exact sSt_val h1
  | ol xs => exact sSt_tmp h1 h4
  | od x => exact sSt_tmp h1 h4
  | no => cases h4
  | al x j => cases h4
theorem Em.tk {p : Option β} {d : β → PyData} {Γ' : β → Ga} (h : Em f Γ p d Γ') : Ev (sTk f) Γ p (fun v => .val (d v)) Γ' := fun v e δ s => by
  obtain ⟨δ', h1, h2⟩ := h.er v e δ s
  exact ⟨δ', by unfold sTk; rw [h1], h2⟩
theorem Er.rd {p : Option β} {d : β → PyData} (h : ∀ v, p = some v → ∀ δ, Sat Γ δ → sSt f δ = .ok (.val (d v)) δ) : Rd f Γ p d := fun v e δ s => ⟨_, h v e δ s, rfl, rfl⟩
theorem rd_callM {F : List Sl → FR} {dd : List PyData} {q : Option β} {as : β → List Ar} {n : β → Option ρ} {ins : β → List Sl} {d : ρ → PyData} {out : ρ → List Sl} (hg : AgP g Γ q as) (hF : ∀ v, FunM F (n v) (ins v) d out) (hi : ∀ v, insOf (as v ++ dd.map .fz) = some (ins v) := by intro _; rfl) : Rd (sCall F dd g) Γ (q.bind n) d := fun r e δ s => by
  obtain ⟨v, e1, e⟩ := bind_of e
  obtain ⟨t, hF1, hF2⟩ := hF v r e
  have h1 : sCall F dd g δ = .ok (AV.ofSl t) δ := by
    unfold sCall
    rw [hg v e1 δ s]
    exact callF_pure (hi v) hF1
  have h4 := tr_tree hF2
  refine ⟨.val (d r), ?_, rfl, rfl⟩
  cases t with
  | fz d' => cases h4; exact sSt_val h1
  | ol xs => exact sSt_tmp h1 h4
  | od x => exact sSt_tmp h1 h4
  | no => cases h4
  | al x j => cases h4
end
end Nv
namespace Nv
open PySem Hb L2
open Enc (enc)
/-- a return -/
def RF {ρ : Type} (ret : ρ → Pt) (ΓR : ρ → Ga) (r : ρ) (o : Ot) : Prop := ∃ s δ', (o = .rt s δ' ∨ (o = .nx δ' ∧ s = .fz .none)) ∧ (ret r).Ok s ∧ Sat (ΓR r) δ'
/-- on to what follows -/
def RN {σ : Type} (ΓS : σ → Ga) (s : σ) (o : Ot) : Prop := ∃ δ', o = .nx δ' ∧ Sat (ΓS s) δ'
/-- on to the next turn -/
def RS {σ : Type} (ΓS : σ → Ga) (s : σ) (o : Ot) : Prop := ∃ δ', (o = .nx δ' ∨ o = .ct δ') ∧ Sat (ΓS s) δ'
/-- a turn that may leave its loop -/
inductive Fl (ρ σ : Type) where
  | nx (s : σ) | bk (s : σ) | rt (r : ρ)
def Fl.el {ρ σ ζ : Type} (o : Fl ρ σ) (f : σ → Option ζ) (k : ρ → Option ζ) : Option ζ := match o with
  | .nx s => f s
  | .bk s => f s
  | .rt r => k r
def RL {ρ σ : Type} (R : ρ → Ot → Prop) (ΓS ΓB : σ → Ga) : Fl ρ σ → Ot → Prop
  | .nx s, o => ∃ δ', (o = .nx δ' ∨ o = .ct δ') ∧ Sat (ΓS s) δ'
  | .bk s, o => ∃ δ', o = .bk δ' ∧ Sat (ΓB s) δ'
  | .rt r, o => R r o ∧ ∃ s δ', o = .rt s δ'
section
variable {α β γ ε ζ ρ σ : Type} {Γ : Ga} {f : List Sl → Rs AV} {g h A B : List Sl → Ot} {R : ζ → Ot → Prop}
theorem seq_next (f : List Sl → Ot) : oSeq f oNext = f := by
  funext δ
  unfold oSeq
  cases f δ <;> rfl
theorem bl_last {p : Option ζ} (k : Bl (oSeq g oNext) Γ p R) : Bl g Γ p R := by rwa [seq_next] at k
theorem bl_next {p : Option ζ} (k : Bl g Γ p R) : Bl (oSeq oNext g) Γ p R := k
theorem bl_assoc {p : Option ζ} (k : Bl (oSeq A (oSeq B g)) Γ p R) : Bl (oSeq (oSeq A B) g) Γ p R := fun v e δ s => by
  have := k v e δ s
  unfold oSeq at this ⊢
  cases q : A δ <;> simp only [q] at this ⊢ <;> exact this
theorem nx_of {δ δ' : List Sl} (q : A δ = .nx δ') : oSeq A g δ = g δ' := by unfold oSeq; rw [q]
theorem bl_asgV {k : Nat} {p : Option ε} {d : ε → PyData} {Γ1 : ε → Ga} {kont : ε → Option ζ} (h : Ev f Γ p (fun v => .val (d v)) Γ1) (k2 : ∀ v, Bl g (upP k (.eq (.fz (d v))) (Γ1 v)) (kont v) R) : Bl (oSeq (oAsg f (tgN k)) g) Γ (p.bind kont) R := fun r e δ s => by
  obtain ⟨v, e1, e⟩ := bind_of e
  obtain ⟨δ1, h1, s1⟩ := h v e1 δ s
  rw [nx_of (show oAsg f (tgN k) δ = .nx (upS k (.fz (d v)) δ1) by unfold oAsg; rw [h1]; rfl)]
  exact k2 v r e _ (s1.up rfl)
theorem bl_asgT {k : Nat} {p : Option ε} {t : ε → Sl} {Γ1 : ε → Ga} {kont : ε → Option ζ} (h : Ev f Γ p (fun v => .tmp (t v)) Γ1) (k2 : ∀ v, Bl g (upP k (.eq (t v)) (Γ1 v)) (kont v) R) : Bl (oSeq (oAsg f (tgN k)) g) Γ (p.bind kont) R := fun r e δ s => by
  obtain ⟨v, e1, e⟩ := bind_of e
  obtain ⟨δ1, h1, s1⟩ := h v e1 δ s
  rw [nx_of (show oAsg f (tgN k) δ = .nx (upS k (t v) δ1) by unfold oAsg; rw [h1]; rfl)]
  exact k2 v r e _ (s1.up rfl)
theorem bl_expr {p : Option ε} {a : ε → AV} {Γ1 : ε → Ga} {kont : ε → Option ζ} (h : Ev f Γ p a Γ1) (k2 : ∀ v, Bl g (Γ1 v) (kont v) R) : Bl (oSeq (oDrop f) g) Γ (p.bind kont) R := fun r e δ s => by
  obtain ⟨v, e1, e⟩ := bind_of e
  obtain ⟨δ1, h1, s1⟩ := h v e1 δ s
  rw [nx_of (show oDrop f δ = .nx δ1 by unfold oDrop; rw [h1]; rfl)]
  exact k2 v r e _ s1
def stI {α : Type} (xs : List α) (i : Int) (v : α) : Option (List α) := (ixN xs.length i).map fun j => xs.set j v
theorem setA_own [Enc α] {k : Nat} {xs ys : List α} {i : Int} {v : α} {δ : List Sl} {y : AV} (h : δ[k]? = some (ow xs)) (hy : rdC δ y = some (.int i)) (e : stI xs i v = some ys) : setA (.ref k) y (enc v) δ = .ok () (upS k (ow ys) δ) := by
  unfold stI at e
  cases q : ixN xs.length i with
  | none => rw [q] at e; cases e
  | some j =>
    rw [q] at e
    cases some_of e
    unfold setA
    simp only [hy, h, ow, List.length_map, q, allFz_map, List.map_set]
theorem bl_set [Enc α] {k : Nat} {fi : List Sl → Rs AV} {p : Option ε} {va : ε → α} {Γ1 : ε → Ga} {xs : ε → List α} {pi : ε → Option Int} {kont : ε → List α → Option ζ} (h : Ev f Γ p (fun v => .val (enc (va v))) Γ1) (h0 : ∀ v, (Γ1 v)[k]? = some (.eq (ow (xs v)))) (hi : ∀ v, Rd fi (Γ1 v) (pi v) enc)
    (k2 : ∀ v ys, Bl g (upP k (.eq (ow ys)) (Γ1 v)) (kont v ys) R) : Bl (oSeq (oAsg f (tgS (sVar k) fi)) g) Γ (p.bind fun v => (pi v).bind fun i => (stI (xs v) i (va v)).bind (kont v)) R := fun r e δ s => by
  obtain ⟨v, e1, e⟩ := bind_of e
  obtain ⟨i, e2, e⟩ := bind_of e
  obtain ⟨ys, e3, e⟩ := bind_of e
  obtain ⟨δ1, h1, s1⟩ := h v e1 δ s
  obtain ⟨x, q1, q2, _⟩ := hi v i e2 δ1 s1
  have hk := s1.at_ (h0 v)
  rw [nx_of (show oAsg f (tgS (sVar k) fi) δ = .nx (upS k (ow ys) δ1) by
    unfold oAsg
    rw [h1]
    show (tgS (sVar k) fi (.val (enc (va v))) δ1).otU = _
    unfold tgS
    show ((sSt (sVar k) δ1).bind _).otU = _
    rw [sSt_ref (sVar_own hk)]
    show ((sSt fi δ1).bind _).otU = _
    rw [q1]
    show (setA (.ref k) x (enc (va v)) δ1).otU = _
    rw [setA_own hk q2 e3]
    rfl)]
  exact k2 v ys r e _ (s1.up rfl)
def asgP : List Nat → List Ar → Ga → Ga
  | k :: ks, .fz d :: r, Γ => asgP ks r (upP k (.eq (.fz d)) Γ)
  | k :: ks, .own s :: r, Γ => asgP ks r (upP k (.eq s) Γ)
  | _, _, Γ => Γ
def parOk : List Nat → List Ar → Bool
  | [], [] => true
  | _ :: ks, .fz _ :: r => parOk ks r
  | _ :: ks, .own _ :: r => parOk ks r
  | _, _ => false
theorem asgP_ok : ∀ {ks : List Nat} {as : List Ar} {Γ : Ga} {δ : List Sl}, Sat Γ δ → parOk ks as = true → noIo as = true ∧ ∃ δ', asgA ks as δ = .nx δ' ∧ Sat (asgP ks as Γ) δ'
  | [], [], Γ, δ, s, _ => ⟨rfl, δ, rfl, s⟩
  | [], _ :: _, _, _, _, h => by cases h
  | _ :: _, [], _, _, _, h => by cases h
  | k :: ks, .io j :: r, _, _, _, h => by cases h
  | k :: ks, .fz d :: r, Γ, δ, s, h => asgP_ok (ks := ks) (as := r) (s.up (i := k) (p := .eq (.fz d)) rfl) h
  | k :: ks, .own t :: r, Γ, δ, s, h => asgP_ok (ks := ks) (as := r) (s.up (i := k) (p := .eq t) rfl) h
theorem bl_par {ks : List Nat} {ga : List Sl → Rs (List Ar)} {p : Option ε} {as : ε → List Ar} {Γ1 : ε → Ga} {kont : ε → Option ζ} (h : Ag ga Γ p as Γ1) (k2 : ∀ v, Bl g (asgP ks (as v) (Γ1 v)) (kont v) R) (hp : ∀ v, parOk ks (as v) = true := by intro _; rfl) : Bl (oSeq (oPar ks ga) g) Γ (p.bind kont) R := fun r e δ s => by
  obtain ⟨v, e1, e⟩ := bind_of e
  obtain ⟨δ1, h1, s1⟩ := h v e1 δ s
  obtain ⟨n, δ2, h2, s2⟩ := asgP_ok s1 (hp v)
  rw [nx_of (show oPar ks ga δ = .nx δ2 by
    unfold oPar
    rw [h1]
    simp only [n, if_true, h2])]
  exact k2 v r e _ s2
theorem sMv_val {δ δ' : List Sl} {d : PyData} (h : f δ = .ok (.val d) δ') : sMv f δ = .ok (.val d) δ' := by unfold sMv; rw [h]
theorem sMv_tmp {δ δ' : List Sl} {t : Sl} (h : f δ = .ok (.tmp t) δ') : sMv f δ = .ok (.tmp t) δ' := by unfold sMv; rw [h]
theorem bl_retV {p : Option ε} {d : ε → PyData} {Γ1 : ε → Ga} {κ : ε → ζ} (h : Ev f Γ p (fun v => .val (d v)) Γ1) (k : ∀ v δ', Sat (Γ1 v) δ' → R (κ v) (.rt (.fz (d v)) δ')) : Bl (oRet f) Γ (p.bind fun v => some (κ v)) R := fun r e δ s => by
  obtain ⟨v, e1, e⟩ := bind_of e
  cases some_of e
  obtain ⟨δ1, h1, s1⟩ := h v e1 δ s
  have : oRet f δ = .rt (.fz (d v)) δ1 := by unfold oRet; rw [sMv_val h1]; rfl
  rw [this]
  exact k v δ1 s1
theorem bl_retT {p : Option ε} {t : ε → Sl} {Γ1 : ε → Ga} {κ : ε → ζ} (h : Ev f Γ p (fun v => .tmp (t v)) Γ1) (k : ∀ v δ', Sat (Γ1 v) δ' → R (κ v) (.rt (t v) δ')) : Bl (oRet f) Γ (p.bind fun v => some (κ v)) R := fun r e δ s => by
  obtain ⟨v, e1, e⟩ := bind_of e
  cases some_of e
  obtain ⟨δ1, h1, s1⟩ := h v e1 δ s
  have : oRet f δ = .rt (t v) δ1 := by unfold oRet; rw [sMv_tmp h1]; rfl
  rw [this]
  exact k v δ1 s1
/-- a name whose list is one's own -/
theorem bl_retO {k : Nat} {s0 : Sl} {κ : ζ} (h0 : Γ[k]? = some (.eq s0)) (ho : ownS (some s0) = true) (k2 : ∀ δ', Sat (upP k (.eq .no) Γ) δ' → R κ (.rt s0 δ')) : Bl (oRet (sVar k)) Γ (some κ) R := fun r e δ s => by
  cases some_of e
  have hk := s.at_ h0
  have h1 : sVar k δ = .ok (.ref k) δ := by
    unfold sVar
    rw [hk]
    cases s0 <;> first | rfl | cases ho
  have h2 : sMv (sVar k) δ = .ok (.tmp s0) (upS k .no δ) := by
    unfold sMv
    rw [h1]
    show moveI k δ = _
    unfold moveI
    rw [hk]
    cases s0 <;> first | rfl | cases ho
  have : oRet (sVar k) δ = .rt s0 (upS k .no δ) := by unfold oRet; rw [h2]; rfl
  rw [this]
  exact k2 _ (s.up (p := .eq .no) rfl)
/-- slot k may be lost -/
def loseE (k : Nat) : Pt → Pt
  | .eq (.al x j) => if x = k then .aa else .eq (.al x j)
  | p => p
def loseP (k : Nat) (Γ : Ga) : Ga := (Γ.map (loseE k)).set k .any
theorem lose1 {k : Nat} {p : Pt} {s : Sl} (h : p.Ok s) : (loseE k p).Ok s := by
  cases p with
  | eq t =>
    cases t with
    | al x j =>
      show (if x = k then Pt.aa else .eq (.al x j)).Ok s
      by_cases c : x = k
      · rw [if_pos c]; trivial
      · rw [if_neg c]; exact h
    | _ => exact h
  | _ => exact h
theorem lose2 {k : Nat} {p : Pt} {s : Sl} (h : (dropP k p).Ok s) : (loseE k p).Ok s := by
  cases p with
  | eq t =>
    cases t with
    | al x j =>
      have h : (if x = k then Pt.eq .no else .eq (.al x j)).Ok s := h
      show (if x = k then Pt.aa else .eq (.al x j)).Ok s
      by_cases c : x = k
      · rw [if_pos c]; trivial
      · rw [if_neg c] at h ⊢; exact h
    | _ => exact h
  | _ => exact h
theorem sat_map {q r : Pt → Pt} (h : ∀ p s, (q p).Ok s → (r p).Ok s) : ∀ {Γ : Ga} {δ : List Sl}, Sat (Γ.map q) δ → Sat (Γ.map r) δ
  | [], _, s => by cases s; exact .nil
  | p :: Γ, _, s => by
    cases s with
    | cons a b => exact .cons (h _ _ a) (sat_map h b)
theorem sat_set_any : ∀ {Γ : Ga} {δ : List Sl} {k : Nat} {t : Sl}, Sat Γ δ → δ[k]? = some t → isAl t = false → Sat (Γ.set k .any) δ
  | _, _, _, _, .nil, e, _ => by simp at e
  | _, _, 0, _, .cons a b, e, h => by
    simp at e
    subst e
    exact .cons h b
  | _, _, k + 1, _, .cons a b, e, h => .cons a (sat_set_any b (by simpa using e) h)
theorem lose_same {δ : List Sl} {k : Nat} {t : Sl} (s : Sat Γ δ) (e : δ[k]? = some t) (h : isAl t = false) : Sat (loseP k Γ) δ :=
  sat_set_any (sat_map (q := id) (r := loseE k) (fun _ _ h => lose1 h) (by rwa [List.map_id])) e h
theorem lose_no {δ : List Sl} {k : Nat} (s : Sat Γ δ) : Sat (loseP k Γ) (upS k .no δ) :=
  (sat_map (fun _ _ h => lose2 h) (s.drop k)).set (p := .any) (s := .no) (show isAl .no = false from rfl) k
theorem bl_retS {p : Option ζ} (k : Bl (oRet f) Γ p R) : Bl (oSeq (oRet f) g) Γ p R := fun v e δ s => by
  have := k v e δ s
  have h2 : oSeq (oRet f) g δ = oRet f δ := by
    unfold oSeq
    have : ∀ δ', oRet f δ ≠ .nx δ' := fun δ' q => by
      unfold oRet at q
      cases q2 : sMv f δ with
      | ok a δ2 => rw [q2] at q; cases a <;> cases q
      | er x δ2 => rw [q2] at q; cases q
      | bad => rw [q2] at q; cases q
    cases q : oRet f δ with
    | nx δ' => exact absurd q (this δ')
    | _ => rfl
  rwa [h2]
/-- a raise: not walked -/
theorem bl_bad {A : List Sl → Ot} : Bl A Γ (none : Option ζ) R := fun r e => nomatch e
theorem bl_end {κ : ζ} (k : ∀ δ', Sat Γ δ' → R κ (.nx δ')) : Bl oNext Γ (some κ) R := fun r e δ s => by
  cases some_of e
  exact k δ s
theorem bl_if {t : List Sl → Rs Bool} {p : Option ε} {k : ε → Bool} {Γ1 : ε → Ga} {pa pb : ε → Option ζ} (h : Te t Γ p k Γ1) (ha : ∀ v, Bl (oSeq A g) (Γ1 v) (pa v) R) (hb : ∀ v, Bl (oSeq B g) (Γ1 v) (pb v) R) : Bl (oSeq (oIf t A B) g) Γ (p.bind fun v => if k v = true then pa v else pb v) R := fun r e δ s => by
  obtain ⟨v, e1, e⟩ := bind_of e
  obtain ⟨δ1, h1, s1⟩ := h v e1 δ s
  have : oSeq (oIf t A B) g δ = if k v = true then oSeq A g δ1 else oSeq B g δ1 := by
    unfold oSeq oIf
    rw [h1]
    show (match (if k v = true then A δ1 else B δ1) with
      | .nx δ' => g δ'
      | r => r) = _
    by_cases c : k v = true
    · simp only [if_pos c] <;> rfl
    · simp only [if_neg c] <;> rfl
  rw [this]
  by_cases c : k v = true
  · rw [if_pos c] at e ⊢
    exact ha v r e δ1 s1
  · rw [if_neg c] at e ⊢
    exact hb v r e δ1 s1
theorem bl_ifJ {t : List Sl → Rs Bool} {p : Option ε} {k : ε → Bool} {Γ1 : ε → Ga} {pa pb : ε → Option σ} {ΓJ : ε → σ → Ga} {kont : ε → σ → Option ζ} (h : Te t Γ p k Γ1) (ha : ∀ v, Bl A (Γ1 v) (pa v) (RN (ΓJ v))) (hb : ∀ v, Bl B (Γ1 v) (pb v) (RN (ΓJ v))) (hg : ∀ v j, Bl g (ΓJ v j) (kont v j) R) :
    Bl (oSeq (oIf t A B) g) Γ (p.bind fun v => (if k v = true then pa v else pb v).bind (kont v)) R := fun r e δ s => by
  obtain ⟨v, e1, e⟩ := bind_of e
  obtain ⟨j, e2, e⟩ := bind_of e
  obtain ⟨δ1, h1, s1⟩ := h v e1 δ s
  have go : ∃ δ2, oIf t A B δ = .nx δ2 ∧ Sat (ΓJ v j) δ2 := by
    unfold oIf
    rw [h1]
    show ∃ δ2, (if k v = true then A δ1 else B δ1) = _ ∧ _
    by_cases c : k v = true
    · rw [if_pos c] at e2 ⊢
      exact ha v j e2 δ1 s1
    · rw [if_neg c] at e2 ⊢
      exact hb v j e2 δ1 s1
  obtain ⟨δ2, h2, s2⟩ := go
  rw [nx_of h2]
  exact hg v j r e δ2 s2
end
section
variable {α β γ ε ζ ρ σ : Type} {Γ : Ga} {f g : List Sl → Rs AV}
def It (w : List Sl → Rs (List PyData)) (Γ : Ga) (p : Option β) (its : β → List PyData) (Γ' : β → Ga) : Prop := ∀ v, p = some v → ∀ δ, Sat Γ δ → ∃ δ', w δ = .ok (its v) δ' ∧ Sat (Γ' v) δ'
def ItP (w : List Sl → Rs (List PyData)) (Γ : Ga) (p : Option β) (its : β → List PyData) : Prop := ∀ v, p = some v → ∀ δ, Sat Γ δ → w δ = .ok (its v) δ
theorem ItP.it {w : List Sl → Rs (List PyData)} {p : Option β} {its : β → List PyData} (h : ItP w Γ p its) : It w Γ p its fun _ => Γ := fun v e δ s => ⟨δ, h v e δ s, s⟩
def seqA (d : PyData) : Option (List PyData) := seqD d
def enumL {α : Type} (xs : List α) : List (Int × α) := xs.zipIdx.map fun p => ((p.2 : Int), p.1)
def rgI (lo : Int) (n : Nat) : List Int := (List.range n).map fun i => lo + (i : Nat)
def ri1 (n : Int) : Option (List Int) := if -(2 ^ 62) ≤ n ∧ n < 2 ^ 62 then some (rgI 0 n.toNat) else none
def ri2 (i j : Int) : Option (List Int) := if -(2 ^ 62) ≤ i ∧ i < 2 ^ 62 ∧ -(2 ^ 62) ≤ j ∧ j < 2 ^ 62 then some (rgI i (j - i).toNat) else none
theorem enum_enc [Enc α] (xs : List α) : enumD (xs.map enc) = (enumL xs).map enc := by
  unfold enumD enumL
  rw [List.zipIdx_map, List.map_map, List.map_map]
  rfl
theorem rangeD_enc (lo : Int) (n : Nat) : rangeD lo n = (rgI lo n).map enc := by
  unfold rangeD rgI
  rw [List.map_map]
  rfl
theorem val_of {f : List Sl → Rs AV} {δ δ' : List Sl} {d : PyData} {k : PyData → List Sl → Rs γ} (h : f δ = .ok (.val d) δ') : (f δ).val k = k d δ' := by
  unfold Rs.val
  rw [h]
  rfl
theorem it_seq [Enc α] {p : Option β} {xs : β → List α} {Γ' : β → Ga} (h : Ev (sTk f) Γ p (fun v => .val (enc (xs v))) Γ') : It (wSeq f) Γ p (fun v => (xs v).map enc) Γ' := fun v e δ s => by
  obtain ⟨δ1, h1, s1⟩ := h v e δ s
  exact ⟨δ1, by unfold wSeq; rw [val_of h1]; rfl, s1⟩
theorem ip_seq [Enc α] {p : Option β} {xs : β → List α} (h : Pu (sTk f) Γ p fun v => .val (enc (xs v))) : ItP (wSeq f) Γ p fun v => (xs v).map enc := fun v e δ s => by
  unfold wSeq
  rw [val_of (h v e δ s)]
  rfl
theorem ip_seqA {p : Option PyData} (h : Pu (sTk f) Γ p fun v => .val (enc v)) : ItP (wSeq f) Γ (p.bind seqA) fun v => v.map enc := fun v e δ s => by
  obtain ⟨d, e1, e⟩ := bind_of e
  have e : seqD d = some v := e
  unfold wSeq
  rw [val_of (h d e1 δ s)]
  show (match seqD d with
    | some ds => Rs.ok ds δ
    | none => .bad) = _
  rw [e]
  show Rs.ok v δ = Rs.ok (v.map fun d => d) δ
  rw [List.map_id']
theorem ip_enum [Enc α] {p : Option β} {xs : β → List α} (h : Pu (sTk f) Γ p fun v => .val (enc (xs v))) : ItP (wEnum f) Γ p fun v => (enumL (xs v)).map enc := fun v e δ s => by
  unfold wEnum
  rw [val_of (h v e δ s)]
  exact congrArg (Rs.ok · δ) (enum_enc (xs v))
theorem ip_rng1 {p : Option Int} (h : Pu (sTk f) Γ p fun v => .val (enc v)) : ItP (wRng1 f) Γ (p.bind ri1) fun v => v.map enc := fun v e δ s => by
  obtain ⟨n, e1, e⟩ := bind_of e
  unfold ri1 at e
  split at e
  · rename_i c
    cases some_of e
    unfold wRng1
    rw [val_of (h n e1 δ s)]
    exact (if_pos c).trans (congrArg (Rs.ok · δ) (rangeD_enc _ _))
  · cases e
theorem it_rng1 {p : Option ε} {n : ε → Int} {Γ' : ε → Ga} (h : Ev (sTk f) Γ p (fun v => .val (enc (n v))) Γ') : It (wRng1 f) Γ (p.bind fun v => (ri1 (n v)).bind fun r => some (r, v)) (fun v => v.1.map enc) fun v => Γ' v.2 := fun v e δ s => by
  obtain ⟨w, e1, e⟩ := bind_of e
  obtain ⟨r, e2, e⟩ := bind_of e
  cases some_of e
  obtain ⟨δ1, h1, s1⟩ := h w e1 δ s
  refine ⟨δ1, ?_, s1⟩
  unfold ri1 at e2
  split at e2
  · rename_i c
    cases some_of e2
    unfold wRng1
    rw [val_of h1]
    exact (if_pos c).trans (congrArg (Rs.ok · δ1) (rangeD_enc _ _))
  · cases e2
theorem ip_rng2 {p q : Option Int} (h : Pu (sTk f) Γ p fun v => .val (enc v)) (h2 : Pu (sTk g) Γ q fun v => .val (enc v)) : ItP (wRng2 f g) Γ (p.bind fun m => q.bind fun n => ri2 m n) fun v => v.map enc := fun v e δ s => by
  obtain ⟨m, e1, e⟩ := bind_of e
  obtain ⟨n, e2, e⟩ := bind_of e
  unfold ri2 at e
  split at e
  · rename_i c
    cases some_of e
    unfold wRng2
    rw [val_of (h m e1 δ s), val_of (h2 n e2 δ s)]
    exact (if_pos c).trans (congrArg (Rs.ok · δ) (rangeD_enc _ _))
  · cases e
/-- only the slots vs change -/
def Tg (vs : List Nat) (t : AV → List Sl → Rs Unit) (Γ : Ga) (d : PyData) (Γ' : Ga) : Prop := ∀ δ, Sat Γ δ → ∃ δ', t (.val d) δ = .ok () δ' ∧ Sat Γ' δ' ∧ ((∀ (i x j : Nat), δ[i]? = some (.al x j) → x ∉ vs) → δ'.length = δ.length ∧ (∀ k, k ∉ vs → δ'[k]? = δ[k]?) ∧ ∀ (i x j : Nat), δ'[i]? = some (.al x j) → x ∉ vs)
def Tgs (vs : List Nat) (t : List PyData → List Sl → Rs Unit) (Γ : Ga) (ds : List PyData) (Γ' : Ga) : Prop := ∀ δ, Sat Γ δ → ∃ δ', t ds δ = .ok () δ' ∧ Sat Γ' δ' ∧ ((∀ (i x j : Nat), δ[i]? = some (.al x j) → x ∉ vs) → δ'.length = δ.length ∧ (∀ k, k ∉ vs → δ'[k]? = δ[k]?) ∧ ∀ (i x j : Nat), δ'[i]? = some (.al x j) → x ∉ vs)
theorem upS_keep {k : Nat} {s : Sl} {δ : List Sl} (h : ∀ (i x j : Nat), δ[i]? = some (.al x j) → x ≠ k) : upS k s δ = δ.set k s := by
  have : dropAl k δ = δ := by
    rw [dropAl_eq]
    apply List.ext_getElem?
    intro i
    rw [List.getElem?_map]
    cases q : δ[i]? with
    | none => rfl
    | some t =>
      cases t with
      | al x j =>
        show some (if x = k then Sl.no else .al x j) = _
        rw [if_neg (h i x j q)]
      | _ => rfl
  unfold upS
  rw [this]
theorem tg_n {vs : List Nat} {k : Nat} {d : PyData} (hk : k ∈ vs := by decide) : Tg vs (tgN k) Γ d (upP k (.eq (.fz d)) Γ) := fun δ s => by
  refine ⟨upS k (.fz d) δ, rfl, s.up rfl, fun h => ?_⟩
  rw [upS_keep fun i x j e z => h i x j e (by rw [z]; exact hk)]
  refine ⟨by simp, fun j hj => List.getElem?_set_ne fun z => hj (by rw [← z]; exact hk), fun i x j e => ?_⟩
  rw [List.getElem?_set] at e
  by_cases c : k = i
  · rw [if_pos c] at e
    split at e <;> cases e
  · rw [if_neg c] at e
    exact h i x j e
theorem tgs_nil {vs : List Nat} : Tgs vs tgNil Γ [] Γ := fun δ s => ⟨δ, rfl, s, fun h => ⟨rfl, fun _ _ => rfl, h⟩⟩
theorem tgs_cons {vs : List Nat} {t : AV → List Sl → Rs Unit} {u : List PyData → List Sl → Rs Unit} {d : PyData} {ds : List PyData} {Γ1 Γ2 : Ga} (h : Tg vs t Γ d Γ1) (h2 : Tgs vs u Γ1 ds Γ2) : Tgs vs (tgCons t u) Γ (d :: ds) Γ2 := fun δ s => by
  obtain ⟨δ1, e1, s1, k1⟩ := h δ s
  obtain ⟨δ2, e2, s2, k2⟩ := h2 δ1 s1
  refine ⟨δ2, ?_, s2, fun hk => ?_⟩
  · unfold tgCons
    show (t (.val d) δ).bind _ = _
    rw [e1]
    exact e2
  · obtain ⟨a1, b1, c1⟩ := k1 hk
    obtain ⟨a2, b2, c2⟩ := k2 c1
    exact ⟨a2.trans a1, fun k z => (b2 k z).trans (b1 k z), c2⟩
theorem tg_t {vs : List Nat} {n : Nat} {u : List PyData → List Sl → Rs Unit} {ds : List PyData} {Γ1 : Ga} (h : Tgs vs u Γ ds Γ1) (hn : ds.length = n := by rfl) : Tg vs (tgT n u) Γ (.tuple ds) Γ1 := fun δ s => by
  obtain ⟨δ1, e1, s1, k1⟩ := h δ s
  refine ⟨δ1, ?_, s1, k1⟩
  unfold tgT
  show (if ds.length = n then u ds δ else .bad) = _
  rw [if_pos hn]
  exact e1
def forS : List α → σ → (σ → α → Option σ) → Option σ
  | [], s, _ => some s
  | x :: r, s, b => (b s x).bind fun s' => forS r s' b
def forF : List α → σ → (σ → α → Option (Fl ρ σ)) → Option (Fl ρ σ)
  | [], s, _ => some (.nx s)
  | x :: r, s, b => (b s x).bind fun o => match o with
    | .nx s' => forF r s' b
    | .bk s' => some (.bk s')
    | .rt v => some (.rt v)
variable {A g' B : List Sl → Ot} {R : ζ → Ot → Prop} {t : AV → List Sl → Rs Unit} {w : List Sl → Rs (List PyData)}
theorem forS_ok [Enc α] {vs : List Nat} {ΓL : σ → Ga} {ΓT : σ → α → Ga} {b : σ → α → Option σ} (ht : ∀ s x, Tg vs t (ΓL s) (enc x) (ΓT s x)) (hb : ∀ s x, Bl B (ΓT s x) (b s x) (RS ΓL)) : ∀ (xs : List α) (s r : σ), forS xs s b = some r → ∀ δ, Sat (ΓL s) δ → ∃ δ', forL t B (xs.map enc) δ = .nx δ' ∧ Sat (ΓL r) δ'
  | [], s, r, e, δ, sa => by
    cases some_of e
    exact ⟨δ, rfl, sa⟩
  | x :: xs, s, r, e, δ, sa => by
    obtain ⟨s', e1, e⟩ := bind_of e
    obtain ⟨δ1, h1, s1, _⟩ := ht s x δ sa
    obtain ⟨δ2, h2, s2⟩ := hb s x s' e1 δ1 s1
    obtain ⟨δ3, h3, s3⟩ := forS_ok ht hb xs s' r e δ2 s2
    refine ⟨δ3, ?_, s3⟩
    rw [List.map_cons]
    unfold forL
    rw [h1]
    rcases h2 with h2 | h2 <;> (simp only [h2]; exact h3)
theorem bl_for [Enc α] {vs : List Nat} {p : Option ε} {xs : ε → List α} {Γ1 : ε → Ga} {s0 : ε → σ} {ΓL : ε → σ → Ga} {ΓT : ε → σ → α → Ga} {b : ε → σ → α → Option σ} {kont : ε → σ → Option ζ} (hw : It w Γ p (fun v => (xs v).map enc) Γ1) (h0 : ∀ v, GaLe (Γ1 v) (ΓL v (s0 v)))
    (ht : ∀ v s x, Tg vs t (ΓL v s) (enc x) (ΓT v s x)) (hb : ∀ v s x, Bl B (ΓT v s x) (b v s x) (RS (ΓL v))) (hg : ∀ v s, Bl g' (ΓL v s) (kont v s) R) :
    Bl (oSeq (oFor w t B) g') Γ (p.bind fun v => (forS (xs v) (s0 v) (b v)).bind (kont v)) R := fun r e δ s => by
  obtain ⟨v, e1, e⟩ := bind_of e
  obtain ⟨q, e2, e⟩ := bind_of e
  obtain ⟨δ1, h1, s1⟩ := hw v e1 δ s
  obtain ⟨δ2, h2, s2⟩ := forS_ok (ht v) (hb v) (xs v) (s0 v) q e2 δ1 (s1.wk (h0 v))
  rw [nx_of (show oFor w t B δ = .nx δ2 by unfold oFor; rw [h1]; exact h2)]
  exact hg v q r e δ2 s2
theorem forF_ok [Enc α] {vs : List Nat} {ΓL : σ → Ga} {ΓT : σ → α → Ga} {b : σ → α → Option (Fl ρ σ)} {Q : ρ → Ot → Prop} (ht : ∀ s x, Tg vs t (ΓL s) (enc x) (ΓT s x)) (hb : ∀ s x, Bl B (ΓT s x) (b s x) (RL Q ΓL ΓL)) : ∀ (xs : List α) (s : σ) (r : Fl ρ σ), forF xs s b = some r → ∀ δ, Sat (ΓL s) δ → match r with
    | .nx r => ∃ δ', forL t B (xs.map enc) δ = .nx δ' ∧ Sat (ΓL r) δ'
    | .bk r => ∃ δ', forL t B (xs.map enc) δ = .nx δ' ∧ Sat (ΓL r) δ'
    | .rt v => Q v (forL t B (xs.map enc) δ) ∧ ∃ u δ', forL t B (xs.map enc) δ = .rt u δ'
  | [], s, r, e, δ, sa => by
    cases some_of e
    exact ⟨δ, rfl, sa⟩
  | x :: xs, s, r, e, δ, sa => by
    obtain ⟨o, e1, e⟩ := bind_of e
    obtain ⟨δ1, h1, s1, _⟩ := ht s x δ sa
    have h2 := hb s x o e1 δ1 s1
    have un : forL t B ((x :: xs).map enc) δ = match B δ1 with
      | .nx δ2 => forL t B (xs.map enc) δ2
      | .ct δ2 => forL t B (xs.map enc) δ2
      | .bk δ2 => .nx δ2
      | o => o := by
      rw [List.map_cons]
      rw [forL]
      rw [h1] <;> (dsimp only <;> (cases B δ1 <;> rfl))
    rw [un]
    cases o with
    | nx s' =>
      obtain ⟨δ2, h2, s2⟩ := h2
      have := forF_ok ht hb xs s' r e δ2 s2
      rcases h2 with h2 | h2 <;> (simp only [h2]; exact this)
    | bk s' =>
      cases some_of e
      obtain ⟨δ2, h2, s2⟩ := h2
      simp only [h2]
      exact ⟨δ2, rfl, s2⟩
    | rt v =>
      cases some_of e
      obtain ⟨h3, u, δ2, h4⟩ := h2
      rw [h4] at h3
      simp only [h4]
      refine ⟨h3, u, δ2, ?_⟩
      trivial
/-- a loop that may be left -/
theorem bl_forF [Enc α] {vs : List Nat} {Q : ρ → Ot → Prop} {p : Option ε} {xs : ε → List α} {Γ1 : ε → Ga} {s0 : ε → σ} {ΓL : ε → σ → Ga} {ΓT : ε → σ → α → Ga} {b : ε → σ → α → Option (Fl ρ σ)} {kr : ρ → Option ζ} {kont : ε → σ → Option ζ} (hw : It w Γ p (fun v => (xs v).map enc) Γ1) (h0 : ∀ v, GaLe (Γ1 v) (ΓL v (s0 v)))
    (ht : ∀ v s x, Tg vs t (ΓL v s) (enc x) (ΓT v s x)) (hb : ∀ v s x, Bl B (ΓT v s x) (b v s x) (RL Q (ΓL v) (ΓL v))) (hr : ∀ v z u δ', kr v = some z → Q v (.rt u δ') → R z (.rt u δ')) (hg : ∀ v s, Bl g' (ΓL v s) (kont v s) R) :
    Bl (oSeq (oFor w t B) g') Γ (p.bind fun v => (forF (xs v) (s0 v) (b v)).bind fun o => o.el (kont v) kr) R := fun r e δ s => by
  obtain ⟨v, e1, e⟩ := bind_of e
  obtain ⟨q, e2, e⟩ := bind_of e
  obtain ⟨δ1, h1, s1⟩ := hw v e1 δ s
  have h2 := forF_ok (Q := Q) (ht v) (hb v) (xs v) (s0 v) q e2 δ1 (s1.wk (h0 v))
  have un : oFor w t B δ = forL t B ((xs v).map enc) δ1 := by unfold oFor; rw [h1]; rfl
  cases q with
  | nx s' =>
    obtain ⟨δ2, h2, s2⟩ := h2
    rw [nx_of (un.trans h2)]
    exact hg v s' r e δ2 s2
  | bk s' =>
    obtain ⟨δ2, h2, s2⟩ := h2
    rw [nx_of (un.trans h2)]
    exact hg v s' r e δ2 s2
  | rt v' =>
    obtain ⟨h3, u, δ2, h4⟩ := h2
    have : oSeq (oFor w t B) g' δ = .rt u δ2 := by
      unfold oSeq
      rw [un, h4]
    rw [this]
    exact hr v' r u δ2 e (by rw [h4] at h3; exact h3)
def whS : Nat → σ → (σ → Option Bool) → (σ → Option σ) → Option σ
  | 0, _, _, _ => none
  | n + 1, s, c, b => (c s).bind fun k => if k = true then (b s).bind fun s' => whS n s' c b else some s
theorem whS_ok {tt : List Sl → Rs Bool} {ΓL : σ → Ga} {c : σ → Option Bool} {b : σ → Option σ} (hc : ∀ s, Ts tt (ΓL s) (c s)) (hb : ∀ s, Bl B (ΓL s) (b s) (RS ΓL)) : ∀ (n : Nat) (s r : σ), whS n s c b = some r → ∀ δ, Sat (ΓL s) δ → ∃ δ', oWh tt B n δ = .nx δ' ∧ Sat (ΓL r) δ'
  | 0, _, _, e, _, _ => by cases e
  | n + 1, s, r, e, δ, sa => by
    obtain ⟨k, e1, e⟩ := bind_of e
    have h1 := hc s k e1 δ sa
    unfold oWh
    rw [h1]
    show ∃ δ', (if k = true then _ else _) = _ ∧ _
    by_cases q : k = true
    · rw [if_pos q] at e
      simp only [if_pos q]
      obtain ⟨s', e2, e⟩ := bind_of e
      obtain ⟨δ2, h2, s2⟩ := hb s s' e2 δ sa
      obtain ⟨δ3, h3, s3⟩ := whS_ok hc hb n s' r e δ2 s2
      refine ⟨δ3, ?_, s3⟩
      rcases h2 with h2 | h2 <;> (simp only [h2]; exact h3)
    · rw [if_neg q] at e
      simp only [if_neg q]
      cases some_of e
      exact ⟨δ, rfl, sa⟩
theorem bl_wh {tt : List Sl → Rs Bool} {n : Nat} {s0 : σ} {ΓL : σ → Ga} {c : σ → Option Bool} {b : σ → Option σ} {kont : σ → Option ζ} (h0 : GaLe Γ (ΓL s0)) (hc : ∀ s, Ts tt (ΓL s) (c s)) (hb : ∀ s, Bl B (ΓL s) (b s) (RS ΓL)) (hg : ∀ s, Bl g' (ΓL s) (kont s) R) : Bl (oSeq (oWh tt B n) g') Γ ((whS n s0 c b).bind kont) R := fun r e δ s => by
  obtain ⟨q, e2, e⟩ := bind_of e
  obtain ⟨δ2, h2, s2⟩ := whS_ok hc hb n s0 q e2 δ (s.wk h0)
  rw [nx_of h2]
  exact hg q r e δ2 s2
end
end Nv
namespace Nv
open PySem Hb L2
open Enc (enc)
def calmE (vs : List Nat) : Pt → Bool
  | .aa => false
  | .eq (.al x _) => !vs.contains x
  | _ => true
def calm (vs : List Nat) (Γ : Ga) : Bool := Γ.all (calmE vs)
theorem calm_ok {vs : List Nat} {Γ : Ga} {δ : List Sl} (h : calm vs Γ = true) (s : Sat Γ δ) : ∀ (i x j : Nat), δ[i]? = some (.al x j) → x ∉ vs := by
  induction s with
  | nil => intro i x j e; simp at e
  | @cons p t Γ δ h1 _ ih =>
    have h : (calmE vs p && calm vs Γ) = true := h
    rw [Bool.and_eq_true] at h
    intro i x j e
    cases i with
    | zero =>
      simp at e
      subst e
      cases p with
      | aa => cases h.1
      | any => cases h1
      | pl => cases h1
      | tr d => rcases h1 with ⟨_, ds, z⟩ | z <;> cases z
      | ts d => rcases h1 with ⟨_, ds, z⟩ | ⟨z, _⟩ <;> cases z
      | eq u =>
        cases (show Sl.al x j = u from h1)
        have : (!vs.contains x) = true := h.1
        simpa using this
    | succ i => exact ih h.2 i x j (by simpa using e)
def plP : Pt → Bool
  | .pl => true
  | .eq .no => true
  | .eq (.fz _) => true
  | _ => false
theorem plP_ok {p : Pt} {s : Sl} (h : plP p = true) (hs : p.Ok s) : plainS (some s) = true := by
  cases p with
  | pl => exact hs
  | eq t =>
    cases (show s = t from hs)
    cases s <;> first | rfl | cases h
  | _ => cases h
def okP (vs : List Nat) (Γ : Ga) : Bool := vs.all fun v => match Γ[v]? with
  | some p => plP p
  | none => false
theorem okP_ok {vs : List Nat} {Γ : Ga} {δ : List Sl} (h : okP vs Γ = true) (s : Sat Γ δ) : okW vs δ = true := by
  unfold okW
  unfold okP at h
  rw [List.all_eq_true] at h ⊢
  intro v hv
  have := h v hv
  cases q : Γ[v]? with
  | none => rw [q] at this; cases this
  | some p =>
    rw [q] at this
    obtain ⟨t, e1, e2⟩ := s.get q
    rw [e1]
    exact plP_ok this e2
def wipeP (vs : List Nat) (Γ : Ga) : Ga := vs.foldr (fun v Γ => Γ.set v (.eq .no)) Γ
theorem wipeP_ok {Γ : Ga} {δ : List Sl} (s : Sat Γ δ) : ∀ vs : List Nat, Sat (wipeP vs Γ) (wipeD vs δ)
  | [] => s
  | v :: vs => (wipeP_ok s vs).set (p := .eq .no) rfl v
theorem wipe_len (δ : List Sl) : ∀ vs : List Nat, (wipeD vs δ).length = δ.length
  | [] => rfl
  | v :: vs => by
    show ((wipeD vs δ).set v .no).length = _
    rw [List.length_set, wipe_len δ vs]
theorem wipe_get (δ : List Sl) : ∀ (vs : List Nat) {k : Nat}, k ∉ vs → (wipeD vs δ)[k]? = δ[k]?
  | [], _, _ => rfl
  | v :: vs, k, h => by
    show ((wipeD vs δ).set v .no)[k]? = _
    rw [List.getElem?_set_ne (fun z => h (by rw [z]; exact List.mem_cons_self)), wipe_get δ vs fun z => h (List.mem_cons_of_mem _ z)]
theorem wipe_al {δ : List Sl} {P : Nat → Prop} (h : ∀ (i x j : Nat), δ[i]? = some (.al x j) → P x) : ∀ (vs : List Nat) (i x j : Nat), (wipeD vs δ)[i]? = some (.al x j) → P x
  | [], i, x, j, e => h i x j e
  | v :: vs, i, x, j, e => by
    have e : ((wipeD vs δ).set v .no)[i]? = some (.al x j) := e
    rw [List.getElem?_set] at e
    by_cases c : v = i
    · rw [if_pos c] at e
      split at e <;> cases e
    · rw [if_neg c] at e
      exact wipe_al h vs i x j e
/-- nothing but the block's own slots changed -/
theorem unw_id {vs : List Nat} {δ δ1 : List Sl} (hl : δ1.length = δ.length) (hk : ∀ k, k ∉ vs → δ1[k]? = δ[k]?) (ha : ∀ (i x j : Nat), δ1[i]? = some (.al x j) → x ∉ vs) (hw : okW vs δ = true) : unw vs δ δ1 = δ := by
  have key : ∀ us : List Nat, (∀ u ∈ us, u ∈ vs) → (unw us δ δ1).length = δ.length ∧ (∀ k, (k ∉ vs ∨ k ∈ us) → (unw us δ δ1)[k]? = δ[k]?) ∧ ∀ (i x j : Nat), (unw us δ δ1)[i]? = some (.al x j) → x ∉ vs := by
    intro us
    induction us with
    | nil => exact fun _ => ⟨hl, fun k h => h.elim (hk k) (fun z => nomatch z), ha⟩
    | cons u us ih =>
      intro hu
      obtain ⟨a, b, c⟩ := ih fun w hw => hu w (List.mem_cons_of_mem _ hw)
      have huv := hu u List.mem_cons_self
      have e : unw (u :: us) δ δ1 = (unw us δ δ1).set u (δ[u]?.getD .no) := upS_keep fun i x j e z => c i x j e (by rw [z]; exact huv)
      rw [e]
      have hp : plainS δ[u]? = true := List.all_eq_true.mp hw u huv
      refine ⟨by rw [List.length_set, a], fun k h => ?_, fun i x j q => ?_⟩
      · by_cases z : u = k
        · subst z
          rw [List.getElem?_set]
          rw [if_pos rfl]
          cases q : δ[u]? with
          | none => rw [q] at hp; cases hp
          | some t =>
            have : u < δ.length := (List.getElem?_eq_some_iff.mp q).1
            rw [if_pos (by rw [a]; exact this)]
            rfl
        · rw [List.getElem?_set_ne z]
          exact b k (h.imp id fun m => (List.mem_cons.mp m).elim (fun m => absurd m.symm z) id)
      · rw [List.getElem?_set] at q
        by_cases z : u = i
        · rw [if_pos z] at q
          split at q
          · cases q2 : δ[u]? with
            | none => rw [q2] at hp; cases hp
            | some t =>
              rw [q2] at q hp
              have : t = .al x j := Option.some.inj q
              subst this
              cases hp
          · cases q
        · rw [if_neg z] at q
          exact c i x j q
  obtain ⟨_, b, _⟩ := key vs fun _ h => h
  apply List.ext_getElem?
  intro k
  exact b k (if h : k ∈ vs then .inr h else .inl h)
section
variable {α β γ ε ζ ρ σ : Type} {Γ : Ga} {f : List Sl → Rs AV} {t : AV → List Sl → Rs Unit} {tt : List Sl → Rs Bool} {w : List Sl → Rs (List PyData)} {vs : List Nat}
def mapF : List α → (α → Option Bool) → (α → Option γ) → Option (List γ)
  | [], _, _ => some []
  | x :: r, c, g => (c x).bind fun b => if b = true then (g x).bind fun y => (mapF r c g).bind fun ys => some (y :: ys) else mapF r c g
theorem lcF [Enc α] {W : Bool} {a : γ → AV} {el : γ → El} (hel : ∀ y, elOf W (a y) = some (el y)) {ΓT : α → Ga} {pt : α → Option Bool} {pe : α → Option γ} (hok : okP vs Γ = true) (hc : calm vs Γ = true) (ht : ∀ x, Tg vs t (wipeP vs Γ) (enc x) (ΓT x)) (htt : ∀ x, Ts tt (ΓT x) (pt x)) (hf : ∀ x, Pu f (ΓT x) (pe x) a) :
    ∀ (xs : List α) (es : List El) (ys : List γ), mapF xs pt pe = some ys → es.length + xs.length ≤ cap → ∀ δ, Sat Γ δ → lcL W vs t tt f (xs.map enc) es δ = .ok (es ++ ys.map el) δ
  | [], es, ys, e, _, δ, _ => by
    cases some_of e
    simp [lcL]
  | x :: xs, es, ys, e, hl, δ, s => by
    obtain ⟨b, e1, e⟩ := bind_of e
    have hw := okP_ok hok s
    have hal := calm_ok hc s
    obtain ⟨δ1, h1, s1, k1⟩ := ht x (wipeD vs δ) (wipeP_ok s vs)
    obtain ⟨a1, b1, c1⟩ := k1 (wipe_al hal vs)
    have un : unw vs δ δ1 = δ := unw_id (by rw [a1, wipe_len]) (fun k hk => by rw [b1 k hk, wipe_get δ vs hk]) c1 hw
    have h2 := htt x b e1 δ1 s1
    rw [List.map_cons]
    simp only [List.length_cons] at hl
    unfold lcL
    rw [if_pos hw, h1]
    simp only [h2]
    cases b with
    | false =>
      rw [if_neg Bool.false_ne_true, un]
      exact lcF hel hok hc ht htt hf xs es ys (by simpa using e) (by omega) δ s
    | true =>
      rw [if_pos rfl] at e
      obtain ⟨y, e2, e⟩ := bind_of e
      obtain ⟨zs, e3, e⟩ := bind_of e
      cases some_of e
      have h3 := hf x y e2 δ1 s1
      simp only [if_true, h3, hel]
      rw [if_pos (by omega), un, lcF hel hok hc ht htt hf xs (es ++ [el y]) zs e3 (by simp; omega) δ s]
      simp
theorem el_val [Enc γ] {W : Bool} : ∀ y : γ, elOf W (.val (enc y)) = some (.fz (enc y)) := fun _ => rfl
theorem ow_els [Enc γ] (ys : List γ) : Sl.ol ([] ++ ys.map fun y => El.fz (enc y)) = ow ys := by
  unfold ow
  rw [List.nil_append, List.map_map]
  rfl
theorem pu_lc [Enc α] [Enc γ] {p : Option β} {xs : β → List α} {ΓT : β → α → Ga} {pt : β → α → Option Bool} {pe : β → α → Option γ} (hw : ItP w Γ p fun v => (xs v).map enc) (hok : okP vs Γ = true) (hc : calm vs Γ = true) (ht : ∀ v x, Tg vs t (wipeP vs Γ) (enc x) (ΓT v x)) (htt : ∀ v x, Ts tt (ΓT v x) (pt v x)) (hf : ∀ v x, Pu f (ΓT v x) (pe v x) fun y => .val (enc y)) :
    Pu (sLc false w vs t tt f) Γ (p.bind fun v => if (xs v).length ≤ cap then mapF (xs v) (pt v) (pe v) else none) fun r => .tmp (ow r) := fun r e δ s => by
  obtain ⟨v, e1, e⟩ := bind_of e
  by_cases c : (xs v).length ≤ cap
  · rw [if_pos c] at e
    unfold sLc
    rw [hw v e1 δ s]
    show (lcL false vs t tt f ((xs v).map enc) [] δ).bind _ = _
    rw [lcF el_val hok hc (ht v) (htt v) (hf v) (xs v) [] r e (by simpa using c) δ s]
    exact congrArg (fun z => Rs.ok (AV.tmp z) δ) (ow_els r)
  · rw [if_neg c] at e
    cases e
end
section
variable {ρ : Type} {B : List Sl → Ot}
theorem sat_eqs : ∀ ss : List Sl, Sat (ss.map .eq) ss
  | [] => .nil
  | s :: r => .cons rfl (sat_eqs r)
/-- what pinned slots hold behind -/
def outsP (n : Nat) (pin : List Nat) (Γ : Ga) : Option (List Sl) := (List.range n).mapM fun i => if i ∈ pin then (match Γ[i]? with
  | some (.eq s) => some (noAl s)
  | _ => none) else some .no
theorem outsP_ok {n : Nat} {pin : List Nat} {Γ : Ga} {δ o : List Sl} (h : outsP n pin Γ = some o) (s : Sat Γ δ) : outs n pin δ = o := by
  unfold outsP at h
  unfold outs
  generalize List.range n = l at h
  induction l generalizing o with
  | nil => cases h; rfl
  | cons i r ih =>
    rw [List.mapM_cons] at h
    obtain ⟨x, e1, h⟩ := bind_of h
    obtain ⟨y, e2, h⟩ := bind_of h
    cases some_of h
    rw [List.map_cons, ih e2]
    congr 1
    by_cases c : i ∈ pin
    · rw [if_pos c] at e1 ⊢
      cases q : Γ[i]? with
      | none => rw [q] at e1; cases e1
      | some p =>
        rw [q] at e1
        cases p with
        | eq t =>
          cases some_of e1
          rw [s.at_ q]
          rfl
        | _ => cases e1
    · rw [if_neg c] at e1 ⊢
      exact (some_of e1).symm
theorem fun_of {n m : Nat} {pin : List Nat} {p : Option ρ} {ins : List Sl} {ret : ρ → Sl} {ΓR : ρ → Ga} {out : ρ → List Sl} (h : Bl B ((ins ++ List.replicate (m - n) Sl.no).map Pt.eq) p (RF (fun r => .eq (ret r)) ΓR)) (ho : ∀ r, outsP n pin (ΓR r) = some (out r) := by intro _; rfl) : Fun (fnRun n m pin B) p ins ret out := fun r e => by
  obtain ⟨s, δ', h1, h2, h3⟩ := h r e _ (sat_eqs _)
  cases (show s = ret r from h2)
  have ho := outsP_ok (ho r) h3
  unfold fnRun
  rcases h1 with h1 | ⟨h1, h4⟩
  · simp only [h1, ho]
  · simp only [h1, ho, h4]
end
theorem rf_eq {ρ : Type} {ret : ρ → Pt} {ΓR : ρ → Ga} {r : ρ} {s : Sl} {Γ : Ga} (h : (ret r).Ok s) (l : GaLe Γ (ΓR r)) : ∀ δ', Sat Γ δ' → RF ret ΓR r (.rt s δ') := fun δ' sa => ⟨s, δ', .inl rfl, h, sa.wk l⟩
theorem rf_nx {ρ : Type} {ret : ρ → Pt} {ΓR : ρ → Ga} {r : ρ} {Γ : Ga} (h : (ret r).Ok (.fz .none)) (l : GaLe Γ (ΓR r)) : ∀ δ', Sat Γ δ' → RF ret ΓR r (.nx δ') := fun δ' sa => ⟨.fz .none, δ', .inr ⟨rfl, rfl⟩, h, sa.wk l⟩
theorem rn_nx {σ : Type} {ΓS : σ → Ga} {r : σ} {Γ : Ga} (l : GaLe Γ (ΓS r)) : ∀ δ', Sat Γ δ' → RN ΓS r (.nx δ') := fun δ' sa => ⟨δ', rfl, sa.wk l⟩
theorem rs_nx {σ : Type} {ΓS : σ → Ga} {r : σ} {Γ : Ga} (l : GaLe Γ (ΓS r)) : ∀ δ', Sat Γ δ' → RS ΓS r (.nx δ') := fun δ' sa => ⟨δ', .inl rfl, sa.wk l⟩
theorem rl_nx {ρ σ : Type} {Q : ρ → Ot → Prop} {ΓS ΓB : σ → Ga} {r : σ} {Γ : Ga} (l : GaLe Γ (ΓS r)) : ∀ δ', Sat Γ δ' → RL Q ΓS ΓB (.nx r) (.nx δ') := fun δ' sa => ⟨δ', .inl rfl, sa.wk l⟩
theorem rl_rt {ρ σ : Type} {Q : ρ → Ot → Prop} {ΓS ΓB : σ → Ga} {r : ρ} {Γ : Ga} {s : Sl} (h : ∀ δ', Sat Γ δ' → Q r (.rt s δ')) : ∀ δ', Sat Γ δ' → RL Q ΓS ΓB (.rt r) (.rt s δ') := fun δ' sa => ⟨h δ' sa, s, δ', rfl⟩
end Nv
namespace Nv
open PySem Hb L2
open Enc (enc)
section
variable {α β γ ε ζ : Type} [Enc α] [Enc β] {Γ : Ga} {fa fb : List Sl → Rs AV} {g : AV → AV → List Sl → Rs AV} {h : AV → List Sl → Rs AV} {op : α → β → Option γ} {op1 : α → Option γ} {a : γ → AV}
/-- with effects -/
theorem ev2g (o : Op2 g op a) {pa : Option ε} {va : ε → α} {Γ1 : ε → Ga} {pb : ε → Option ζ} {vb : ε → ζ → β} {Γ2 : ε → ζ → Ga} (ha : Er fa Γ pa (fun x => enc (va x)) Γ1) (hb : ∀ x, Es fb (Γ1 x) (pb x) (fun y => enc (vb x y)) (Γ2 x)) :
    Ev (s2 g fa fb) Γ (pa.bind fun x => (pb x).bind fun y => (op (va x) (vb x y)).bind fun r => some (r, x, y)) (fun r => a r.1) (fun r => Γ2 r.2.1 r.2.2) := fun r e δ s => by
  obtain ⟨v, e1, e⟩ := bind_of e
  obtain ⟨w, e2, e⟩ := bind_of e
  obtain ⟨z, q, e⟩ := bind_of e
  cases some_of e
  obtain ⟨δ1, h1, s1⟩ := ha v e1 δ s
  obtain ⟨y, δ2, k1, k2, k3, s2⟩ := hb v w e2 δ1 s1
  refine ⟨δ2, ?_, s2⟩
  unfold Hb.s2
  rw [h1]
  show (sSt fb δ1).bind _ = _
  rw [k1]
  exact o (va v) (vb v w) z δ2 (.val (enc (va v))) y rfl rfl k2 k3 q
theorem ev1g (o : Op1 h op1 a) {pa : Option ε} {va : ε → α} {Γ1 : ε → Ga} (ha : Es fa Γ pa (fun x => enc (va x)) Γ1) : Ev (s1 h fa) Γ (pa.bind fun x => (op1 (va x)).bind fun r => some (r, x)) (fun r => a r.1) (fun r => Γ1 r.2) := fun r e δ s => by
  obtain ⟨v, e1, e⟩ := bind_of e
  obtain ⟨z, q, e⟩ := bind_of e
  cases some_of e
  obtain ⟨x, δ1, h1, h2, h3, s1⟩ := ha v e1 δ s
  refine ⟨δ1, ?_, s1⟩
  unfold Hb.s1
  rw [h1]
  exact o (va v) z δ1 x h2 h3 q
/-- an item that nobody reads any more -/
theorem ev_appD {α : Type} [Enc α] {k : Nat} {p : Option ε} {d : ε → PyData} {xs : ε → List α} {Γ1 : ε → Ga} {s0 : Sl} {es : List El} {fa : List Sl → Rs AV} (h0 : Γ[k]? = some (.eq s0)) (hs0 : s0 = .ol es) (ha : Ev (sTk fa) Γ p (fun x => .val (d x)) Γ1) (h1 : ∀ x, (Γ1 x)[k]? = some (.eq (ow (xs x)))) :
    Ev (sApp (sVar k) fa) Γ (p.bind fun x => if (xs x).length ≤ cap then some x else none) (fun _ => .val .none) fun r => upP k .any (Γ1 r) := fun r e δ s => by
  obtain ⟨v, e1, e⟩ := bind_of e
  obtain ⟨δ1, q1, s1⟩ := ha v e1 δ s
  subst hs0
  have hk := s.at_ h0
  have hk1 := s1.at_ (h1 v)
  by_cases c : (xs v).length ≤ cap
  · rw [if_pos c] at e
    cases some_of e
    refine ⟨upS k (.ol (((xs r).map enc).map .fz ++ [.fz (d r)])) δ1, ?_, s1.up rfl⟩
    unfold sApp
    rw [sSt_ref (sVar_own hk)]
    show (if isLst δ (.ref k) = true then _ else _) = _
    rw [if_pos (isLst_ref hk)]
    unfold Rs.val
    rw [q1]
    show appI k (d r) δ1 = _
    unfold appI
    rw [hk1]
    simp only [ow, List.length_map, if_pos c]
  · rw [if_neg c] at e
    cases e
/-- nothing given: a statement whose value is None -/
theorem Ts.te' {t : List Sl → Rs Bool} {p : Option Bool} (h : Ts t Γ p) : Te t Γ p (fun v => v) fun _ => Γ := fun v e δ s => ⟨δ, h v e δ s, s⟩
/-- one whose value is read off (a test's value) -/
theorem pu_none : Pu (sC .none) Γ (some ()) fun v => .val (enc v) := fun v e δ _ => rfl
end
/-- a pure list display without items -/
theorem pu_nil {α : Type} [Enc α] {Γ : Ga} : Pu (sLst lNil) Γ (some ([] : List α)) fun r => .tmp (ow r) := fun v e δ _ => by
  cases some_of e
  rfl
section
variable {α β γ ε ζ ρ σ : Type} {Γ : Ga} {f fa fb : List Sl → Rs AV} {t : List Sl → Rs Bool}
/-- the same tree in another type -/
theorem pu_co [Enc α] [Enc β] (u : α → β) {p : Option α} (h : Pu f Γ p fun v => .val (enc v)) (hu : ∀ x, enc (u x) = enc x := by intro _; rfl) : Pu f Γ (p.bind fun x => some (u x)) fun v => .val (enc v) := fun r e δ s => by
  obtain ⟨v, e1, e⟩ := bind_of e
  cases some_of e
  show _ = Rs.ok (AV.val (enc (u v))) δ
  rw [hu]
  exact h v e1 δ s
def asIntA : PyData → Option Int
  | .int i => some i
  | _ => none
theorem _root_.Nv.Pu.asI {p : Option PyData} (hh : Pu f Γ p fun v => .val (enc v)) : Pu f Γ (p.bind fun d => asIntA d) fun v => .val (enc v) := fun r e δ s => by
  obtain ⟨v, e1, e⟩ := bind_of e
  cases v with
  | int i => cases some_of e; exact hh _ e1 δ s
  | _ => cases e
theorem _root_.Nv.Pu.un [Enc α] {p : Option (Option α)} (hh : Pu f Γ p fun v => .val (enc v)) : Pu f Γ (p.bind fun d => d) fun v : α => .val (enc v) := fun r e δ s => by
  obtain ⟨v, e1, e⟩ := bind_of e
  subst e
  exact hh _ e1 δ s
theorem _root_.Nv.Pu.any [Enc α] {p : Option α} (hh : Pu f Γ p fun v => .val (enc v)) : Pu f Γ (p.bind fun d => some (enc d)) fun v : PyData => .val (enc v) := fun r e δ s => by
  obtain ⟨v, e1, e⟩ := bind_of e
  cases some_of e
  exact hh _ e1 δ s
end
theorem Ev.mapW {ε ζ : Type} {f : List Sl → Rs AV} {Γ : Ga} {p : Option ε} {aa : ε → AV} {Γ1 : ε → Ga} {bb : ζ → AV} {Γ2 : ζ → Ga} (k : ε → ζ) (hh : Ev f Γ p aa Γ1) (h2 : ∀ x, GaLe (Γ1 x) (Γ2 (k x))) (h1 : ∀ x, bb (k x) = aa x := by intro _; rfl) : Ev f Γ (p.bind fun x => some (k x)) bb Γ2 := fun r e δ s => by
  obtain ⟨v, e1, e⟩ := bind_of e
  cases some_of e
  obtain ⟨δ', q1, q2⟩ := hh v e1 δ s
  exact ⟨δ', by rw [h1]; exact q1, q2.wk (h2 v)⟩
end Nv
namespace Nv
open PySem Hb L2
open Enc (enc)
section
variable {β ζ : Type} {Γ : Ga}
theorem bl_ga {f : List Sl → Ot} {p : Option ζ} {R : ζ → Ot → Prop} (Δ : Ga) (h : Γ = Δ) (k : Bl f Δ p R) : Bl f Γ p R := by subst h; exact k
theorem pu_ga {f : List Sl → Rs AV} {p : Option β} {a : β → AV} (Δ : Ga) (h : Γ = Δ) (k : Pu f Δ p a) : Pu f Γ p a := by subst h; exact k
theorem ts_ga {f : List Sl → Rs Bool} {p : Option Bool} (Δ : Ga) (h : Γ = Δ) (k : Ts f Δ p) : Ts f Γ p := by subst h; exact k
theorem es_ga {f : List Sl → Rs AV} {p : Option β} {d : β → PyData} {Γ' : β → Ga} (Δ : Ga) (h : Γ = Δ) (q : Es f Δ p d Γ') : Es f Γ p d Γ' := by subst h; exact q
theorem ag_ga {g : List Sl → Rs (List Ar)} {p : Option β} {as : β → List Ar} {Γ' : β → Ga} (Δ : Ga) (h : Γ = Δ) (q : Ag g Δ p as Γ') : Ag g Γ p as Γ' := by subst h; exact q
theorem dl_ga {g : List Sl → Rs (List PyData)} {p : Option β} {ds : β → List PyData} {Γ' : β → Ga} (Δ : Ga) (h : Γ = Δ) (q : Dl g Δ p ds Γ') : Dl g Γ p ds Γ' := by subst h; exact q
theorem sat_ga {Q : List Sl → Prop} (Δ : Ga) (h : Γ = Δ) (k : ∀ δ', Sat Δ δ' → Q δ') : ∀ δ', Sat Γ δ' → Q δ' := by subst h; exact k
theorem gale_ga {Γ0 : Ga} (Δ : Ga) (h : Γ = Δ) (k : GaLe Δ Γ0) : GaLe Γ Γ0 := by subst h; exact k
end
end Nv
namespace Nv
open PySem Hb L2
open Enc (enc)
end Nv
namespace Hb
open PySem PySem.Spec PyProof.Rows L2
section
variable {X : Cx} {pins : List (Addr × Obj)} {σ : L2.St} {H : Hp} {s : Shared}
mutual
def noDic : PyData → Bool
  | .list xs => noDics xs
  | .tuple xs => noDics xs
  | .dict _ => false
  | _ => true
def noDics : List PyData → Bool
  | [] => true
  | x :: r => noDic x && noDics r
end
mutual
theorem reads_of (I : Inv X pins σ H s) : ∀ {v : V} {d : PyData} {u : Value}, Rp X.K H v d → RelV v u → noDic d = true → ∃ as, Reads s.heap u d as
  | _, _, _, .non, e, _ => by
    obtain rfl : _ = Value.none := e
    exact ⟨_, .none⟩
  | _, _, _, .bl b, e, _ => by
    obtain rfl : _ = Value.bool b := e
    exact ⟨_, .bool b⟩
  | _, _, _, .int i, e, _ => by
    obtain ⟨t, rfl⟩ := e
    exact ⟨_, .int i t⟩
  | _, _, _, .str x, e, _ => by
    obtain ⟨t, rfl⟩ := e
    exact ⟨_, .str x t⟩
  | _, _, _, .lst (ds := ds) h1 h2, e, hs => by
    obtain rfl : _ = Value.ref _ := e
    obtain ⟨its, n, r, e, _⟩ := inv_lstX I h1
    obtain ⟨as, q⟩ := readsAll_of I h2 r (by simpa [noDic] using hs)
    exact ⟨_, .list e rfl rfl (by simpa using q)⟩
  | _, _, _, .tup (ds := ds) h1 h2, e, hs => by
    obtain rfl : _ = Value.ref _ := e
    obtain ⟨its, r, ⟨o, e, hc, n, hd⟩, _⟩ := I.tuple (SqT.of h1)
    obtain ⟨as, q⟩ := readsAll_of I h2 r (by simpa [noDic] using hs)
    exact ⟨_, .tuple e hc hd (by simpa using q)⟩
  | _, _, _, .dK h1 h2, _, hs => by simp [noDic] at hs
  | _, _, _, .dT h1 h2, _, hs => by simp [noDic] at hs
theorem readsAll_of (I : Inv X pins σ H s) : ∀ {vs : List V} {ds : List PyData} {us : List Value}, RpL X.K H vs ds → Vals vs us → noDics ds = true → ∃ as, ReadsAll s.heap us ds as
  | _, _, _, .nil, r, _ => by
    cases r
    exact ⟨_, .nil⟩
  | _, _, _, .cons (d := d) (ds := ds) h t, r, hs => by
    cases r with
    | cons r1 r2 =>
      have hs2 : noDic d = true ∧ noDics ds = true := by simpa [noDics] using hs
      obtain ⟨a1, q1⟩ := reads_of I h r1 hs2.1
      obtain ⟨a2, q2⟩ := readsAll_of I t r2 hs2.2
      exact ⟨_, .cons q1 q2⟩
end
end
def isT1 : PyData → Bool
  | .tuple (_ :: _) => true
  | _ => false
def isNT : PyData → Bool
  | .none => false
  | .tuple _ => false
  | _ => true
def sortOk (ds : List PyData) : Bool := (ds.all fun d => ds.all fun e => PySem.W.alike d e) && (ds.all isT1 || ds.all isNT) && ds.all (fun d => decide (d.depth ≤ 60)) && noDics ds && decide (ds.length ≤ cap)
theorem sortOk_ok {ds : List PyData} (h : sortOk ds = true) : PySem.W.AllAlike ds ∧ PySem.W.Sortable ds ∧ (∀ d ∈ ds, d.depth ≤ 60) ∧ noDics ds = true ∧ ds.length ≤ cap := by
  unfold sortOk at h
  simp only [Bool.and_eq_true, Bool.or_eq_true, List.all_eq_true, decide_eq_true_eq] at h
  obtain ⟨⟨⟨⟨h1, h2⟩, h3⟩, h4⟩, h5⟩ := h
  refine ⟨fun d hd e he => h1 d hd e he, ?_, h3, h4, h5⟩
  rcases h2 with h2 | h2
  · refine .inl fun d hd => ?_
    have := h2 d hd
    cases d with
    | tuple xs =>
      cases xs with
      | nil => cases this
      | cons x r => exact ⟨x, r, rfl⟩
    | _ => cases this
  · refine .inr fun d hd => ?_
    have := h2 d hd
    exact ⟨fun z => (by rw [z] at this; cases this), fun xs z => (by rw [z] at this; cases this)⟩
def rSortedD (K : PySem.W.Frag) : List V → Hp → VK → Prop := fun vs H Q => ∃ (a : Addr) (bs : List (V × PyData)), vs = [V.ref a] ∧ SqX K H a (bs.map Prod.fst) ∧ (∀ p ∈ bs, Rp K H p.1 p.2) ∧ sortOk (bs.map Prod.snd) = true ∧
  ∀ p, H p = none → Q (.ref p) (upd H p (.lst ((bs.mergeSort (PySem.W.dataLe false Prod.snd)).map Prod.fst)))
theorem vals_each : ∀ {bs : List (V × PyData)} {us : List Value}, Vals (bs.map Prod.fst) us → PySem.W.EachIs (fun (u : Value) (p : V × PyData) => RelV p.1 u) us bs
  | [], _, .nil => .nil
  | p :: bs, _, .cons h t => .cons h (vals_each t)
theorem each_vals : ∀ {bs : List (V × PyData)} {us : List Value}, PySem.W.EachIs (fun (u : Value) (p : V × PyData) => RelV p.1 u) us bs → Vals (bs.map Prod.fst) us
  | _, _, .nil => .nil
  | _, _, .cons h t => .cons h (each_vals t)
theorem each_mem {R : Value → V × PyData → Prop} : ∀ {us : List Value} {bs : List (V × PyData)}, PySem.W.EachIs R us bs → PySem.W.EachIs (fun u p => R u p ∧ p ∈ bs) us bs
  | _, _, .nil => .nil
  | _, _, .cons h t => .cons ⟨h, List.mem_cons_self⟩ ((each_mem t).mono fun _ _ ⟨a, b⟩ => ⟨a, List.mem_cons_of_mem _ b⟩)
theorem noDics_mem : ∀ {ds : List PyData}, noDics ds = true → ∀ d ∈ ds, noDic d = true
  | [], _, _, h => by cases h
  | x :: r, h, d, hd => by
    have h : (noDic x && noDics r) = true := h
    rw [Bool.and_eq_true] at h
    rcases List.mem_cons.mp hd with e | e
    · rw [e]; exact h.1
    · exact noDics_mem h.2 d e
theorem cr_sortedD {X : Cx} (hu : X.A.units + 64 < cLine) : CallR X (.builtin "sorted") (rSortedD X.K) := by
  intro pins s σ H vs us Q I r h
  obtain ⟨a, bs, rfl, hX, hr, ok, q⟩ := h
  obtain ⟨h1, h2, h3, h4, h5⟩ := sortOk_ok ok
  obtain ⟨its, n, rv, e, hz⟩ := inv_lstX I hX
  rw [Vals.ref1 r]
  have ev := vals_each rv
  have er : PySem.W.EachIs (fun v (b : V × PyData) => ∃ as, Reads s.heap v b.2 as) its bs := (each_mem ev).mono fun u p ⟨z, hp⟩ => reads_of I (hr p hp) z (noDics_mem h4 _ (List.mem_map.mpr ⟨p, hp, rfl⟩))
  have hl : s.heap.IsList a its.toArray := ⟨_, e, rfl, n, rfl⟩
  refine PySem.W.sorted_data (enc := Prod.snd) hl ev er h1 h2 (by rw [List.length_map] at h5; exact le_line h5) (fun b hb => ?_) fun out ho eo => ?_
  · have := h3 b.2 (List.mem_map.mpr ⟨b, hb, rfl⟩)
    show X.A.units + 2 + _ < cLine
    omega
  · obtain ⟨ep, he'⟩ := PyProof.Rows.sortedAll_at s.heap its out.toArray
    have vo := each_vals eo
    refine ⟨.ref _, upd H (s.heap.objs.size + 1) (.lst ((bs.mergeSort (PySem.W.dataLe false Prod.snd)).map Prod.fst)), I.laid (t' := s.toks) (fun _ _ => PyProof.Rows.sortedAll_old) (Nat.le_succ _) ⟨?_, out, ep, vo, he'⟩, rfl, q _ (I.hok.fresh (Nat.le_succ _))⟩
    rw [List.length_map, List.length_mergeSort]
    rw [List.length_map] at h5
    exact le_line h5
def gSortD (x : AV) (δ : List Sl) : Rs AV := match rdC δ x with
  | some (.list ds) => if sortOk ds = true then .ok (.tmp (.ol ((ds.mergeSort (PySem.W.dataLe false fun d => d)).map .fz))) δ else .bad
  | _ => .bad
theorem rpl_zip {K : PySem.W.Frag} {H : Hp} : ∀ {vs : List V} {ds : List PyData}, RpL K H vs ds → ∃ bs : List (V × PyData), bs.map Prod.fst = vs ∧ bs.map Prod.snd = ds ∧ ∀ p ∈ bs, Rp K H p.1 p.2
  | _, _, .nil => ⟨[], rfl, rfl, fun _ z => nomatch z⟩
  | _, _, .cons (v := v) (d := d) h t => by
    obtain ⟨bs, e1, e2, e3⟩ := rpl_zip t
    refine ⟨(v, d) :: bs, by simp [e1], by simp [e2], fun p hp => ?_⟩
    rcases List.mem_cons.mp hp with e | e
    · rw [e]; exact h
    · exact e3 p e
theorem rpl_of_zip {K : PySem.W.Frag} {H : Hp} : ∀ {bs : List (V × PyData)}, (∀ p ∈ bs, Rp K H p.1 p.2) → RpL K H (bs.map Prod.fst) (bs.map Prod.snd)
  | [], _ => .nil
  | p :: r, h => .cons (h p List.mem_cons_self) (rpl_of_zip fun q hq => h q (List.mem_cons_of_mem _ hq))
theorem c1_sortD {K : PySem.W.Frag} {mg : Str → Option Value} {W : WX} {pin : List Nat} : C1 K mg W pin (rSortedD K) gSortD := by
  intro b Fz F δ σ H v x Q hp R A P
  unfold gSortD at P
  cases q : rdC δ x with
  | none => simp only [q] at P; exact P.elim
  | some d =>
    have h := rdC_ok R A q
    cases d with
    | list ds =>
      simp only [q] at P
      by_cases c : sortOk ds = true
      · rw [if_pos c] at P
        obtain ⟨a, vs, e1, s1, r1⟩ := h.list R.le
        obtain ⟨bs, e2, e3, e4⟩ := rpl_zip r1
        subst e2 e3
        refine ⟨a, bs, by rw [e1], s1, fun p hp => (e4 p hp).mono R.le, c, fun p np => ?_⟩
        have em : (bs.mergeSort (PySem.W.dataLe false Prod.snd)).map Prod.snd = (bs.map Prod.snd).mergeSort (PySem.W.dataLe false fun d => d) := PySem.W.sort_maps Prod.snd fun _ _ _ _ => rfl
        have rp : RpL K Fz ((bs.mergeSort (PySem.W.dataLe false Prod.snd)).map Prod.fst) ((bs.map Prod.snd).mergeSort (PySem.W.dataLe false fun d => d)) := by
          rw [← em]
          exact rpl_of_zip fun p hp => e4 p (List.mem_mergeSort.mp hp)
        exact post_newL R rp P p np
      · rw [if_neg c] at P
        exact P.elim
    | _ => simp only [q] at P; exact P.elim
abbrev gFdivW := gI (fun _ j => decide (0 < j ∧ j < 2 ^ 1000)) (· / ·)
abbrev gPowW := gI (fun i j => decide (0 ≤ j ∧ j ≤ 64 ∧ i.natAbs < 2 ^ 1024)) (fun i j => i ^ j.toNat)
theorem log2_of {n k : Nat} (h : n < 2 ^ k) (hk : 0 < k) : n.log2 < k := by
  by_cases z : n = 0
  · subst z; simpa using hk
  · exact (Nat.log2_lt z).mpr h
def CPowW (i j : Int) : Prop := 0 ≤ j ∧ (Builtin.Int.intBits i : Int) * j ≤ 2 ^ 27
theorem op_powW {X : Cx} : OpR X (binaryOp .Pow) (rI CPowW fun i j => .int (i ^ j.toNat)) := opI fun _ _ _ _ _ _ _ hc q => PyProof.Rows.pow_int hc.1 hc.2 q
section
variable {X : Cx} {W : WX} {pin : List Nat} {fa fb : List Sl → Rs AV} {a c : Expr} {pos : Pos}
theorem se_fdivW (ha : SE X W pin a fa) (hb : SE X W pin c fb) : SE X W pin (.BinOp a .FloorDiv c pos) (s2 gFdivW fa fb) := se_bin op_fdivW (v2_i fun i j h => by
  obtain ⟨h1, h2⟩ := (of_decide_eq_true h : 0 < j ∧ j < 2 ^ 1000)
  refine ⟨h1, Nat.lt_of_lt_of_le (log2_of (k := 1000) ?_ (by decide)) (by decide)⟩
  omega) ha hb
theorem se_powW (ha : SE X W pin a fa) (hb : SE X W pin c fb) : SE X W pin (.BinOp a .Pow c pos) (s2 gPowW fa fb) := se_bin op_powW (v2_i fun i j h => by
  obtain ⟨h1, h2, h3⟩ := (of_decide_eq_true h : 0 ≤ j ∧ j ≤ 64 ∧ i.natAbs < 2 ^ 1024)
  refine ⟨h1, ?_⟩
  have hb : Builtin.Int.intBits i ≤ 1024 := by
    unfold Builtin.Int.intBits
    split
    · omega
    · have := log2_of h3 (by decide)
      omega
  have h4 : (Builtin.Int.intBits i : Int) * j ≤ 1024 * j := Int.mul_le_mul_of_nonneg_right (by omega) h1
  omega) ha hb
end
end Hb
namespace Hb
open PySem PySem.Spec PyProof.Rows L2
def rExtX (K : PySem.W.Frag) : V → List V → Hp → VK → Prop := fun x vs H Q => ∃ l b xs zs, x = .ref l ∧ vs = [.ref b] ∧ H l = some (.lst xs) ∧ SqX K H b zs ∧ xs.length + zs.length ≤ sizeLine ∧ Q .non (upd H l (.lst (xs ++ zs)))
theorem mt_extX {X : Cx} : MtM X "list.extend" (rExtX X.K) := by
  intro pins s σ H x vs v us Q I rx rv h
  obtain ⟨l, b, xs, zs, rfl, rfl, hH, hB, hz, q⟩ := h
  cases rx
  obtain ⟨u, rfl, ru⟩ := rv.one
  cases ru
  obtain ⟨z, its, n, r, hl, e⟩ := I.lstM hH
  obtain ⟨its2, n2, r2, e2, hl2⟩ := inv_lstX I hB
  have l2 := r2.length
  have hsz : its.toArray.size + its2.toArray.size ≤ sizeLine := by rw [List.size_toArray, List.size_toArray]; omega
  have hlong : ¬ (!its.toArray.isEmpty && Builtin.List.listTooLong (its.toArray.size + its2.toArray.size)) = true := by
    rw [notLongL hsz, Bool.and_false]
    exact Bool.false_ne_true
  refine call_meets F.slot_list_extend ⟨_, e, rfl⟩ F.entry_list_extend (F.args_list_extend_2 _ _)
    (AutoSeq1.list_extend_list_list_0 l its.toArray n b its2.toArray n2 hlong (by rw [List.size_toArray]; omega) (by omega)) ⟨e, e2, ?_⟩
  refine ⟨.non, _, I.lset (its' := its ++ its2) hH e (by simp) (r.append r2) ?_, rfl, q⟩
  rw [List.length_append]
  omega
def extI (i : Nat) (ds : List PyData) (δ : List Sl) : Rs AV := match δ[i]? with
  | some (.ol xs) => if xs.length ≤ cap ∧ ds.length ≤ cap then .ok (.val .none) (upS i (.ol (xs ++ ds.map .fz)) δ) else .bad
  | _ => .bad
def extA (x : AV) (d : PyData) (δ : List Sl) : Rs AV := match x, d with
  | .ref i, .list ds => extI i ds δ
  | _, _ => .bad
def sExt (fo fa : List Sl → Rs AV) : List Sl → Rs AV := fun δ => (sSt fo δ).bind fun x δ1 => if isLst δ1 x = true then (sTk fa δ1).val fun d δ2 => extA x d δ2
  else .bad
theorem ext_ok {K : PySem.W.Frag} {mg : Str → Option Value} {W : WX} {b : Bk} {Fz : Hp} {F : Nat → List Addr} {δ : List Sl} {σ : L2.St} {H : Hp} {Q : VK} {v w : V} {x : AV} {d : PyData} (R : Rl K b Fz F δ σ H) (A : AvS K Fz σ v x) (r : Rp K Fz w d) (P : Post K mg W b Fz σ Q (extA x d δ)) : rExtX K v [w] H Q := by
  cases x with
  | val e => exact P.elim
  | tmp s => exact P.elim
  | ref i =>
    have hv : σ[i]? = some (some v) := A
    cases d with
    | list ds =>
      have P : Post K mg W b Fz σ Q (extI i ds δ) := P
      unfold extI at P
      cases q : δ[i]? with
      | none => simp only [q] at P; exact P.elim
      | some s =>
        cases s with
        | ol xs =>
          simp only [q] at P
          by_cases c : xs.length ≤ cap ∧ ds.length ≤ cap
          · rw [if_pos c] at P
            obtain ⟨l, vs, g, e1, e2, e3, e4, e5⟩ := R.own q hv
            subst e1
            cases r with
            | lst h1 h2 =>
              rename_i b0 zs
              have e6 : ElL K Fz H (g ++ []) (vs ++ zs) (xs ++ ds.map .fz) := e3.app (ElL.ofFz h2)
              rw [List.append_nil] at e6
              have R' := R.mut q hv e6 e5 (fun a ha => by rw [e4]; exact List.mem_cons_of_mem _ ha)
              refine ⟨l, b0, vs, zs, rfl, rfl, e2, same_sqX R.le h1, ?_, P .non _ Fz _ (Same.refl _) R' .non⟩
              have c1 : xs.length ≤ 1000000 := c.1
              have c2 : ds.length ≤ 1000000 := c.2
              rw [e3.len, h2.len, sizeLine_eq]
              omega
          · rw [if_neg c] at P
            exact P.elim
        | _ => simp only [q] at P; exact P.elim
    | _ => exact P.elim
section
variable {X : Cx} {W : WX} {pin : List Nat} {fo fa fb fc : List Sl → Rs AV} {o e a b c : Expr} {apos cpos pos : Pos}
theorem se_ext (ho : SE X W pin o fo) (ha : SE X W pin e fa) (hbase : attributeBase o "extend" X.env (eval o X.env) = eval o X.env := by rfl) (hline : (apos.endLine == cpos.line) = true := by rfl)
    (hs : starEach [e] X.env = (false, eval e X.env) :: starEach [] X.env := by rfl) (hfew : ((backTo cpos (starEach [e] X.env)).all (fun x => !x.1) && (backToKw cpos (keywordEach [] X.env)).all (fun x => x.1.isSome)
      && decide ([e].length + ([] : List Keyword).length + (if ([] : List Keyword).isEmpty then 0 else 1) < 30)) = true := by rfl) :
    SE X W pin (.Call (.Attribute o "extend" apos) [e] [] cpos) (sExt fo fa) :=
  pe_mono (pe_bm PySem.F.plainAttrs_list PySem.F.slot_list_extend PySem.F.type_list_extend mt_extX (se_st ho) (pa_cons (se_tk ha) pa_nil hs) hbase hfew hline hs rfl) fun σ H Q ⟨b, Fz, F, δ, hp, R, P⟩ => by
    refine rd_bind hp R P fun v H1 Fz1 F1 x δ1 s1 R1 A1 P1 => ?_
    by_cases c : isLst δ1 x = true
    · rw [if_pos c] at P1
      refine ⟨isLst_ty R1 A1 c, ?_⟩
      refine rd_val hp R1 P1 fun w H2 Fz2 F2 d δ2 s2 R2 A2 P2 => ?_
      exact ext_ok R2 (A1.le s2) A2 P2
    · rw [if_neg c] at P1
      exact P1.elim
def sCh (g g' : AV → AV → List Sl → Rs AV) (fa fb fc : List Sl → Rs AV) : List Sl → Rs AV := fun δ => (sSt fa δ).bind fun x δ1 => (sSt fb δ1).bind fun y δ2 => (g x y δ2).bind fun k δ3 => match k with
  | .val (.bool true) => (sSt fc δ3).bind fun z δ4 => g' y z δ4
  | .val (.bool false) => .ok (.val (.bool false)) δ3
  | _ => .bad
theorem chain_ok {g g' : AV → AV → List Sl → Rs AV} {r r' : R2} (hv : V2 X.K X.mg W pin r g) (hv' : V2 X.K X.mg W pin r' g') : ∀ σ H Q, rdE X.K X.mg W pin (sCh g g' fa fb fc) σ H Q → tChain r r' (rdE X.K X.mg W pin (sSt fa)) (rdE X.K X.mg W pin (sSt fb)) (rdE X.K X.mg W pin (sSt fc)) σ H Q := fun σ H Q ⟨b0, Fz, F, δ, hp, R, P⟩ => by
  refine rd_bind hp R P fun v H1 Fz1 F1 x δ1 s1 R1 A1 P1 => ?_
  refine rd_bind hp R1 P1 fun w H2 Fz2 F2 y δ2 s2 R2 A2 P2 => ?_
  refine hv b0 Fz2 F2 δ2 σ H2 v w x y _ hp R2 (A1.le s2) A2 ?_
  cases q : g x y δ2 with
  | bad => rw [q] at P2; exact P2
  | er e δ3 => rw [q] at P2; exact P2
  | ok k δ3 =>
    rw [q] at P2
    cases k with
    | ref i => exact P2.elim
    | tmp t => exact P2.elim
    | val d =>
      cases d with
      | bool k =>
        intro z H3 Fz3 F3 s3 R3 A3
        cases (show Rp X.K Fz3 z (.bool k) from A3)
        refine ⟨k, rfl, ?_⟩
        cases k with
        | false => exact P2 (.bl false) H3 Fz3 F3 s3 R3 (.bl false)
        | true =>
          rw [if_pos rfl]
          have P3 : Post X.K X.mg W b0 Fz3 σ Q ((sSt fc δ3).bind fun z δ4 => g' y z δ4) := Post.le s3 P2
          refine rd_bind hp R3 P3 fun u H4 Fz4 F4 zz δ4 s4 R4 A4 P4 => ?_
          exact hv' b0 Fz4 F4 δ4 σ H4 w u y zz Q hp R4 (A2.le (s3.trans s4)) A4 P4
      | _ => exact P2.elim
theorem st_chain {op op' : CmpOp} {g g' : AV → AV → List Sl → Rs AV} {r r' : R2} (ho : OpR X (compareOp op) r) (hv : V2 X.K X.mg W pin r g) (ho' : OpR X (compareOp op') r') (hv' : V2 X.K X.mg W pin r' g') (ha : SE X W pin a fa) (hb : SE X W pin b fb) (hc : SE X W pin c fc)
    (hm : lastMarks [op, op'] [b, c] = false := by with_unfolding_all rfl) : ST X W pin (.Compare a [op, op'] [b, c] pos) (sTst (sCh g g' fa fb fc)) := pt_mono (pt_chain ho ho' (se_st ha) (se_st hb) (se_st hc) hm) fun σ H Q h => chain_ok hv hv' σ H _ (tst_ok σ H Q h)
end
end Hb
namespace Nv
open PySem Hb L2
open Enc (enc)
section
variable {α β γ ε ζ : Type} {Γ : Ga} {fa fb fc : List Sl → Rs AV}
theorem pu_ch [Enc α] [Enc β] [Enc γ] {g g' : AV → AV → List Sl → Rs AV} {op : α → β → Option Bool} {op' : β → γ → Option Bool} (o : Op2 g op fun r => .val (enc r)) (o' : Op2 g' op' fun r => .val (enc r)) {pa : Option α} {pb : Option β} {pc : Option γ} (ha : Rd fa Γ pa enc) (hb : Rd fb Γ pb enc) (hc : Rd fc Γ pc enc) :
    Pu (sCh g g' fa fb fc) Γ (pa.bind fun x => pb.bind fun y => (op x y).bind fun k => if k = true then pc.bind fun z => op' y z else some false) fun r => .val (enc r) := fun r e δ s => by
  obtain ⟨x, e1, e⟩ := bind_of e
  obtain ⟨y, e2, e⟩ := bind_of e
  obtain ⟨k, e3, e⟩ := bind_of e
  obtain ⟨a, h1, h2, h3⟩ := ha x e1 δ s
  obtain ⟨b, k1, k2, k3⟩ := hb y e2 δ s
  unfold sCh
  rw [h1]
  show (sSt fb δ).bind _ = _
  rw [k1]
  show (g a b δ).bind _ = _
  rw [o x y k δ a b h2 h3 k2 k3 e3]
  cases k with
  | false => cases some_of e; rfl
  | true =>
    rw [if_pos rfl] at e
    obtain ⟨z, e4, e⟩ := bind_of e
    obtain ⟨c, q1, q2, q3⟩ := hc z e4 δ s
    show (sSt fc δ).bind _ = _
    rw [q1]
    exact o' y z r δ b c k2 k3 q2 q3 e
def exL {α : Type} (xs ys : List α) : Option (List α) := if xs.length ≤ cap ∧ ys.length ≤ cap then some (xs ++ ys) else none
theorem ev_ext [Enc α] {k : Nat} {p : Option ε} {va : ε → List α} {xs : ε → List α} {Γ1 : ε → Ga} {s0 : Sl} {es : List El} (h0 : Γ[k]? = some (.eq s0)) (hs0 : s0 = .ol es) (ha : Ev (sTk fa) Γ p (fun x => .val (enc (va x))) Γ1) (h1 : ∀ x, (Γ1 x)[k]? = some (.eq (ow (xs x)))) :
    Ev (sExt (sVar k) fa) Γ (p.bind fun x => (exL (xs x) (va x)).bind fun ys => some (ys, x)) (fun _ => .val .none) fun r => upP k (.eq (ow r.1)) (Γ1 r.2) := fun r e δ s => by
  obtain ⟨v, e1, e⟩ := bind_of e
  obtain ⟨ys, e2, e⟩ := bind_of e
  cases some_of e
  obtain ⟨δ1, q1, s1⟩ := ha v e1 δ s
  subst hs0
  have hk := s.at_ h0
  have hk1 := s1.at_ (h1 v)
  unfold exL at e2
  by_cases c : (xs v).length ≤ cap ∧ (va v).length ≤ cap
  · rw [if_pos c] at e2
    cases some_of e2
    refine ⟨_, ?_, s1.up (p := .eq (ow (xs v ++ va v))) rfl⟩
    unfold sExt
    rw [sSt_ref (sVar_own hk)]
    show (if isLst δ (.ref k) = true then _ else _) = _
    rw [if_pos (isLst_ref hk)]
    unfold Rs.val
    rw [q1]
    show extI k ((va v).map enc) δ1 = _
    unfold extI
    rw [hk1]
    simp only [ow, List.length_map, if_pos c, List.map_append]
  · rw [if_neg c] at e2
    cases e2
def fdivW (i j : Int) : Option Int := if 0 < j ∧ j < 2 ^ 1000 then some (i / j) else none
def powW (i j : Int) : Option Int := if 0 ≤ j ∧ j ≤ 64 ∧ i.natAbs < 2 ^ 1024 then some (i ^ j.toNat) else none
theorem op_fdivW : Op2 gFdivW fdivW fun r => .val (enc r) := op_gIc (C := fun _ j => 0 < j ∧ j < 2 ^ 1000)
theorem op_powW : Op2 gPowW powW fun r => .val (enc r) := op_gIc (C := fun i j => 0 ≤ j ∧ j ≤ 64 ∧ i.natAbs < 2 ^ 1024)
def srtD {α : Type} [Enc α] (xs : List α) : Option (List α) := if sortOk (xs.map enc) = true then some (xs.mergeSort (PySem.W.dataLe false enc)) else none
theorem op_srtD [Enc α] : Op1 gSortD (srtD (α := α)) fun r => .tmp (ow r) := fun v r δ x h _ e => by
  have h : rdC δ x = some (.list (v.map enc)) := h
  unfold srtD at e
  by_cases c : sortOk (v.map enc) = true
  · rw [if_pos c] at e
    cases some_of e
    have em : (v.mergeSort (PySem.W.dataLe false enc)).map enc = (v.map enc).mergeSort (PySem.W.dataLe false fun d => d) := PySem.W.sort_maps enc fun _ _ _ _ => rfl
    simp only [gSortD, h, if_pos c, ow, em]
  · rw [if_neg c] at e
    cases e
theorem noDics_ints : ∀ ns : List Int, noDics (ns.map .int) = true
  | [] => by simp [noDics]
  | n :: r => by simp [noDics, noDic, noDics_ints r]
theorem sortOk_ints {ns : List Int} (h : ns.length ≤ cap) : sortOk (ns.map .int) = true := by
  unfold sortOk
  simp only [Bool.and_eq_true, Bool.or_eq_true, List.all_eq_true, decide_eq_true_eq, List.mem_map, List.length_map]
  refine ⟨⟨⟨⟨?_, .inr ?_⟩, ?_⟩, noDics_ints ns⟩, h⟩
  · rintro _ ⟨i, _, rfl⟩ _ ⟨j, _, rfl⟩
    simp [PySem.W.alike]
  · rintro _ ⟨i, _, rfl⟩
    rfl
  · rintro _ ⟨i, _, rfl⟩
    simp [PyData.depth]
def srtAC : PyData → Option (List Int)
  | .list ds => (intsOf ds).bind fun ns => if ns.length ≤ cap then some (sortI ns) else none
  | _ => none
theorem sort_int (ns : List Int) : (ns.map PyData.int).mergeSort (PySem.W.dataLe false fun d => d) = (sortI ns).map .int := by
  unfold sortI
  refine (PySem.W.sort_maps PyData.int fun a _ b _ => ?_).symm
  have := congrFun (congrFun (PySem.W.dataLe_int (fun i : Int => i)) a) b
  exact this.symm
theorem op_srtAC : Op1 gSortD srtAC fun r => .tmp (ow r) := fun v r δ x h h' e => by
  have h : rdC δ x = some v := h
  cases v with
  | list ds =>
    have e : (intsOf ds).bind (fun ns => if ns.length ≤ cap then some (sortI ns) else none) = some r := e
    obtain ⟨ns, e1, e2⟩ := bind_of e
    have e3 := intsOf_eq e1
    subst e3
    by_cases c : ns.length ≤ cap
    · rw [if_pos c] at e2
      cases some_of e2
      simp only [gSortD, h, if_pos (sortOk_ints c), sort_int]
      rfl
    · rw [if_neg c] at e2
      cases e2
  | _ => cases e
theorem Es.any [Enc α] {f : List Sl → Rs AV} {p : Option ε} {va : ε → α} {Γ' : ε → Ga} (h : Es f Γ p (fun v => enc (va v)) Γ') : Es f Γ (p.bind fun v => some (enc (va v), v)) (fun r => enc (r.1 : PyData)) fun r => Γ' r.2 := fun r e δ s => by
  obtain ⟨v, e1, e⟩ := bind_of e
  cases some_of e
  exact h v e1 δ s
end
end Nv
namespace Hb
open PySem PySem.Spec PyProof.Rows L2
def keyOf : PyData → Option Key
  | .int i => some (.inl i)
  | .str x => some (.inr x)
  | _ => none
theorem keyOf_D (k : Key) : keyOf (kD k) = some k := by cases k <;> rfl
theorem keyOf_eq {d : PyData} {k : Key} (h : keyOf d = some k) : d = kD k := by
  cases d <;> first | (cases h; rfl) | cases h
def lookK (kvs : List (PyData × PyData)) (k : Key) : Option PyData := (kvs.find? fun p => decide (keyOf p.1 = some k)).map (·.2)
def putD (kvs : List (PyData × PyData)) (k : Key) (d : PyData) : List (PyData × PyData) :=
  if (kvs.any fun p => decide (keyOf p.1 = some k)) = true then kvs.map (fun p => if keyOf p.1 = some k then (p.1, d) else p) else kvs ++ [(kD k, d)]
section
variable {K : PySem.W.Frag} {H : Hp}
theorem RpK.look : ∀ {ws : List (Key × V)} {kvs : List (PyData × PyData)} {k : Key} {d : PyData}, RpK K H ws kvs → lookK kvs k = some d → ∃ v, valV ws k = some v ∧ Rp K H v d
  | _, _, k, d, .nil, h => by cases h
  | _, _, k, d, .cons (k := k0) (v := v0) (vs := ws) (d := d0) (ds := kvs) r t, h => by
    unfold lookK at h
    rw [List.find?_cons] at h
    rw [keyOf_D] at h
    by_cases c : k0 = k
    · rw [decide_eq_true (by rw [c])] at h
      cases h
      exact ⟨v0, valV_pos (p := (k0, v0)) c, r⟩
    · have hn : ¬ some k0 = some k := fun z => c (Option.some.inj z)
      rw [decide_eq_false hn] at h
      obtain ⟨v, e1, e2⟩ := RpK.look t h
      exact ⟨v, by rw [valV_neg (p := (k0, v0)) c]; exact e1, e2⟩
theorem RpK.none : ∀ {ws : List (Key × V)} {kvs : List (PyData × PyData)} {k : Key}, RpK K H ws kvs → lookK kvs k = .none → valV ws k = .none
  | _, _, k, .nil, h => rfl
  | _, _, k, .cons (k := k0) (v := v0) (vs := ws) (d := d0) (ds := kvs) r t, h => by
    unfold lookK at h
    rw [List.find?_cons] at h
    rw [keyOf_D] at h
    by_cases c : k0 = k
    · rw [decide_eq_true (by rw [c])] at h
      cases h
    · have hn : ¬ some k0 = some k := fun z => c (Option.some.inj z)
      rw [decide_eq_false hn] at h
      rw [valV_neg (p := (k0, v0)) c]
      exact RpK.none t h
theorem RpK.any : ∀ {ws : List (Key × V)} {kvs : List (PyData × PyData)} (k : Key), RpK K H ws kvs → (ws.any fun kv => decide (kv.1 = k)) = kvs.any fun p => decide (keyOf p.1 = some k)
  | _, _, k, .nil => rfl
  | _, _, k, .cons (k := k0) r t => by
    rw [List.any_cons, List.any_cons, RpK.any k t, keyOf_D]
    congr 1
    by_cases c : k0 = k <;> simp [c]
theorem RpK.app : ∀ {ws us : List (Key × V)} {kvs lvs : List (PyData × PyData)}, RpK K H ws kvs → RpK K H us lvs → RpK K H (ws ++ us) (kvs ++ lvs)
  | _, _, _, _, .nil, s => s
  | _, _, _, _, .cons r t, s => .cons r (RpK.app t s)
theorem RpK.mapk {v : V} {d : PyData} (h : Rp K H v d) (k : Key) : ∀ {ws : List (Key × V)} {kvs : List (PyData × PyData)}, RpK K H ws kvs → RpK K H (ws.map fun kv => if kv.1 = k then (kv.1, v) else kv) (kvs.map fun p => if keyOf p.1 = some k then (p.1, d) else p)
  | _, _, .nil => .nil
  | _, _, .cons (k := k0) (v := v0) r t => by
    rw [List.map_cons, List.map_cons]
    have ih := RpK.mapk h k t
    by_cases c : k0 = k
    · rw [if_pos (show (k0, v0).1 = k from c), if_pos (show keyOf (kD k0) = some k by rw [keyOf_D, c])]
      exact .cons h ih
    · rw [if_neg (show ¬ (k0, v0).1 = k from c), if_neg (show ¬ keyOf (kD k0) = some k by rw [keyOf_D]; exact fun z => c (Option.some.inj z))]
      exact .cons r ih
theorem RpK.put {ws : List (Key × V)} {kvs : List (PyData × PyData)} {v : V} {d : PyData} (t : RpK K H ws kvs) (h : Rp K H v d) (k : Key) : RpK K H (putK ws k v) (putD kvs k d) := by
  unfold putK putD
  rw [RpK.any k t]
  by_cases c : (kvs.any fun p => decide (keyOf p.1 = some k)) = true
  · rw [if_pos c, if_pos c]
    exact RpK.mapk h k t
  · rw [if_neg c, if_neg c]
    exact t.app (.cons h .nil)
end
/-- the dict's tree, where it is one -/
def dicA (δ : List Sl) (x : AV) : Option (List (PyData × PyData)) := match rdA δ x with
  | some (.dict kvs) => some kvs
  | _ => none
/-- its items stand still -/
theorem dic_ok {K : PySem.W.Frag} {b : Bk} {Fz : Hp} {F : Nat → List Addr} {δ : List Sl} {σ : L2.St} {H : Hp} (R : Rl K b Fz F δ σ H) {v : V} {x : AV} {kvs : List (PyData × PyData)} (A : AvS K Fz σ v x) (h : dicA δ x = some kvs) :
    ∃ a, v = .ref a ∧ ((∃ ws, H a = some (.dK ws) ∧ RpK K Fz ws kvs) ∨ ∃ ws, H a = some (.dT ws) ∧ RpT K Fz ws kvs) := by
  unfold dicA at h
  have q : rdA δ x = some (.dict kvs) := by
    cases q : rdA δ x with
    | none => rw [q] at h; cases h
    | some d => rw [q] at h; cases d <;> first | (cases h; rfl) | cases h
  have frz : ∀ {u : V}, Rp K Fz u (.dict kvs) → ∃ a, u = .ref a ∧ ((∃ ws, H a = some (.dK ws) ∧ RpK K Fz ws kvs) ∨ ∃ ws, H a = some (.dT ws) ∧ RpT K Fz ws kvs) := fun r => by
    cases r with
    | dK h1 h2 => exact ⟨_, rfl, .inl ⟨_, R.le _ _ h1, h2⟩⟩
    | dT h1 h2 => exact ⟨_, rfl, .inr ⟨_, R.le _ _ h1, h2⟩⟩
  cases x with
  | val d => cases q; exact frz A
  | tmp t => cases q
  | ref i =>
    have hv : σ[i]? = some (some v) := A
    simp only [rdA] at q
    cases q1 : δ[i]? with
    | none => simp only [q1] at q; cases q
    | some s =>
      have hs := R.slot i s q1
      rw [hv] at hs
      cases s with
      | no => simp only [q1] at q; cases q
      | fz d =>
        simp only [q1] at q
        cases q
        obtain ⟨_, v', e1, e2⟩ := hs
        cases e1
        exact frz e2
      | ol xs => simp only [q1] at q; cases q
      | od ks =>
        simp only [q1] at q
        cases q
        obtain ⟨a, e1, _, e3⟩ := hs
        cases e1
        exact ⟨a, rfl, e3⟩
      | al y j =>
        simp only [q1] at q
        cases q2 : δ[y]? with
        | none => simp only [q2] at q; cases q
        | some t =>
          cases t with
          | ol xs =>
            simp only [q2] at q
            cases q3 : xs[j]? with
            | none => rw [q3] at q; cases q
            | some e =>
              rw [q3] at q
              obtain ⟨g, e1, _⟩ := R.al q1 q2 q3 hv
              cases e with
              | fz d => cases q; exact frz e1.2
              | ow ys => cases q
          | _ => simp only [q2] at q; cases q
section
variable {X : Cx} {W : WX} {pin : List Nat} {fa fb : List Sl → Rs AV} {a c : Expr} {pos : Pos}
theorem pe_or {e : Expr} {t t' : TE} (h : PE X e t) (h' : PE X e t') : PE X e (fun σ H Q => t σ H Q ∨ t' σ H Q) := ⟨fun pins s σ H Q I q => q.elim (h.run pins s σ H Q I) (h'.run pins s σ H Q I)⟩
theorem rpc_key {K : PySem.W.Frag} {Fz H : Hp} {v : V} {d : PyData} {k : Key} (h : RpC K Fz H v d) (e : keyOf d = some k) : v = kV k := by
  have := keyOf_eq e
  subst this
  rcases h with h | ⟨_, _, _, _, e2, _⟩
  · cases k with
    | inl i => cases h; rfl
    | inr x => cases h; rfl
  · cases k <;> cases e2
theorem rd_bind' {K : PySem.W.Frag} {mg : Str → Option Value} {σ : L2.St} {H : Hp} {b : Bk} {Fz : Hp} {F : Nat → List Addr} {δ : List Sl} {k : AV → List Sl → Rs AV} {Q R : VK} (hp : b.pin = pin) (Rr : Rl K b Fz F δ σ H) (P : Post K mg W b Fz σ Q ((sSt fa δ).bind k))
    (h : ∀ v H' Fz' F' x δ', sSt fa δ = .ok x δ' → Same Fz Fz' → Rl K b Fz' F' δ' σ H' → AvS K Fz' σ v x → Post K mg W b Fz' σ Q (k x δ') → R v H') : rdE K mg W pin (sSt fa) σ H R := by
  refine ⟨b, Fz, F, δ, hp, Rr, ?_⟩
  cases q : sSt fa δ with
  | bad => rw [q] at P; exact P
  | er x δ' => rw [q] at P; exact P
  | ok a δ' =>
    rw [q] at P
    intro v H' Fz' F' s R' A
    cases a with
    | tmp t => exact absurd q (sSt_notmp _ _ _ _)
    | val d => exact h v H' Fz' F' (.val d) δ' q s R' A (Post.le s P)
    | ref i => exact h v H' Fz' F' (.ref i) δ' q s R' A (Post.le s P)
theorem rdE_mono {K : PySem.W.Frag} {mg : Str → Option Value} {f : List Sl → Rs AV} {σ : L2.St} {H : Hp} {Q Q' : VK} (h : rdE K mg W pin f σ H Q) (i : ∀ v H', Q v H' → Q' v H') : rdE K mg W pin f σ H Q' := by
  obtain ⟨b, Fz, F, δ, hp, R, P⟩ := h
  refine ⟨b, Fz, F, δ, hp, R, ?_⟩
  cases q : f δ with
  | bad => rw [q] at P; exact P
  | er x δ' => rw [q] at P; exact P
  | ok a δ' =>
    rw [q] at P
    exact fun v H' Fz' F' s R' A => i v H' (P v H' Fz' F' s R' A)
theorem lookT {K : PySem.W.Frag} {H : Hp} (k : Key) : ∀ {ws : List (List Key × V)} {kvs : List (PyData × PyData)}, RpT K H ws kvs → lookK kvs k = none
  | _, _, .nil => rfl
  | _, _, .cons _ t => by
    have ih := lookT k t
    unfold lookK at ih ⊢
    rw [List.find?_cons]
    simpa [keyOf] using ih
/-- one of two readings, by what the first operand's tree is behind both -/
theorem t2_or {t t' : TE} {r : R2} {g gd : AV → AV → List Sl → Rs AV} {D : AV → List Sl → Bool}
    (ht : ∀ σ H Q, tOp r (rdE X.K X.mg W pin (sSt fa)) (rdE X.K X.mg W pin (sSt fb)) σ H Q → t σ H Q)
    (ht' : ∀ σ H Q, rdE X.K X.mg W pin (sSt fa) σ H (fun v H1 => rdE X.K X.mg W pin (sSt fb) σ H1 fun w H2 => ∃ b Fz F δ x y, Rl X.K b Fz F δ σ H2 ∧ AvS X.K Fz σ v x ∧ AvS X.K Fz σ w y ∧ b.pin = pin ∧ D x δ = true ∧ Post X.K X.mg W b Fz σ Q (gd x y δ)) → t' σ H Q)
    (hv : V2 X.K X.mg W pin r g) : ∀ σ H Q, rdE X.K X.mg W pin (s2 (fun x y δ => if D x δ = true then gd x y δ else g x y δ) fa fb) σ H Q → t σ H Q ∨ t' σ H Q := fun σ H Q ⟨b, Fz, F, δ, hp, R, P⟩ => by
  have P : Post X.K X.mg W b Fz σ Q ((sSt fa δ).bind fun x δ1 => (sSt fb δ1).bind fun y δ2 => if D x δ2 = true then gd x y δ2 else g x y δ2) := P
  by_cases dic : ∃ x δ1 y δ2, sSt fa δ = .ok x δ1 ∧ sSt fb δ1 = .ok y δ2 ∧ D x δ2 = true
  · obtain ⟨x0, d1, y0, d2, q1, q2, q3⟩ := dic
    refine .inr (ht' σ H Q (rd_bind' hp R P fun v H1 Fz1 F1 x δ1 e1 s1 R1 A1 P1 => rd_bind' hp R1 P1 fun w H2 Fz2 F2 y δ2 e2 s2 R2 A2 P2 => ?_))
    rw [q1] at e1
    cases e1
    rw [q2] at e2
    cases e2
    rw [if_pos q3] at P2
    exact ⟨b, Fz2, F2, _, _, _, R2, A1.le s2, A2, hp, q3, P2⟩
  · refine .inl (ht σ H Q (rd_bind' hp R P fun v H1 Fz1 F1 x δ1 e1 s1 R1 A1 P1 => rd_bind' hp R1 P1 fun w H2 Fz2 F2 y δ2 e2 s2 R2 A2 P2 => ?_))
    have q3 : ¬ D x δ2 = true := fun z => dic ⟨x, δ1, y, δ2, e1, e2, z⟩
    rw [if_neg q3] at P2
    exact hv b Fz2 F2 δ2 σ H2 v w x y Q hp R2 (A1.le s2) A2 P2
def isDic (x : AV) (δ : List Sl) : Bool := (dicA δ x).isSome
def gDix (x y : AV) (δ : List Sl) : Rs AV := match dicA δ x, (rdC δ y).bind keyOf with
  | some kvs, some k => (match lookK kvs k with
    | some d => .ok (.val d) δ
    | none => .bad)
  | _, _ => .bad
/-- x[i]: of a list, a tuple, a dict -/
def gIx2 (x y : AV) (δ : List Sl) : Rs AV := if isDic x δ = true then gDix x y δ else gIx x y δ
theorem se_ix2 (hu : X.A.units + 64 < cLine) (ha : SE X W pin a fa) (hb : SE X W pin c fb) (hs : PlainIx c := by intro _ _; rfl) (hs2 : NoSl c := by intro _ _; rfl) : SE X W pin (.Subscript a c pos) (s2 gIx2 fa fb) :=
  pe_mono (pe_or (pe_ix ix_U (se_st ha) (se_st hb) hs) (pe_dget (by omega) (se_st ha) (se_st hb) hs2)) (t2_or (r := rIxU X.K) (g := gIx) (gd := gDix) (D := isDic) (fun _ _ _ h => h) (fun σ H Q h => by
    refine rdE_mono h fun v H1 h => rdE_mono h fun w H2 ⟨b, Fz, F, δ, x, y, R, A, B, hp, hD, P⟩ => ?_
    unfold isDic at hD
    cases q : dicA δ x with
    | none => rw [q] at hD; cases hD
    | some kvs =>
      obtain ⟨a', e1, e2⟩ := dic_ok R A q
      unfold gDix at P
      cases q2 : (rdC δ y).bind keyOf with
      | none => simp only [q, q2] at P; exact P.elim
      | some k =>
        cases q3 : lookK kvs k with
        | none => simp only [q, q2, q3] at P; exact P.elim
        | some d =>
          simp only [q, q2, q3] at P
          obtain ⟨kd, f1, f2⟩ := Option.bind_eq_some_iff.mp q2
          have ew := rpc_key (rdC_ok R B f1) f2
          rcases e2 with ⟨ws, g1, g2⟩ | ⟨ws, g1, g2⟩
          · obtain ⟨u, h1, h2⟩ := g2.look q3
            exact ⟨a', u, e1, .inl ⟨ws, k, .inl g1, ew, h1.symm⟩, P u H2 Fz F (Same.refl _) R h2⟩
          · rw [lookT k g2] at q3
            cases q3) v2_ix)
end
theorem st_rd {K : PySem.W.Frag} {mg : Str → Option Value} {W : WX} {pin : List Nat} {f : List Sl → Rs AV} : ∀ σ H Q, rdE K mg W pin (sSt f) σ H Q → rdE K mg W pin f σ H Q := fun σ H Q ⟨b, Fz, F, δ, hp, R, P⟩ => by
  refine ⟨b, Fz, F, δ, hp, R, ?_⟩
  unfold sSt at P
  cases q : f δ with
  | bad => rw [q] at P; exact P
  | er x δ' => rw [q] at P; exact P
  | ok a δ' =>
    rw [q] at P
    cases a with
    | val d => exact P
    | ref i => exact P
    | tmp s =>
      intro v H' Fz' F' s1 R' ⟨ht, g, hs, hn, hg⟩
      cases q2 : s.tree with
      | none => rw [q2] at ht; cases ht
      | some d =>
        simp only [q2] at P
        obtain ⟨s2, R2⟩ := R'.addF (g := g) fun a ha => ⟨(hg a ha).1, (hg a ha).2.1, (hg a ha).2.2.2⟩
        exact P v H' _ F' (s1.trans s2) R2 (hs.treeF q2 s2 fun a ha => addF_in ha)
theorem tk_rd {K : PySem.W.Frag} {mg : Str → Option Value} {W : WX} {pin : List Nat} {f : List Sl → Rs AV} : ∀ σ H Q, rdE K mg W pin (sTk f) σ H Q → rdE K mg W pin f σ H Q := fun σ H Q ⟨b, Fz, F, δ, hp, R, P⟩ => by
  refine st_rd σ H Q ⟨b, Fz, F, δ, hp, R, ?_⟩
  unfold sTk at P
  cases q : sSt f δ with
  | bad => rw [q] at P; exact P
  | er x δ' => rw [q] at P; exact P
  | ok a δ' =>
    rw [q] at P
    cases a with
    | val d => exact P
    | tmp s => exact P
    | ref i => exact fun v H' Fz' F' s1 R' hv => post_take R' hv (P.le s1)
section
variable {X : Cx} {W : WX} {pin ts : List Nat} {elt tg iter : Expr} {ifs : List Expr} {scope : Scope} {own : List (Str × Nat)} {pos : Pos} {wi : List Sl → Rs (List PyData)} {t : AV → List Sl → Rs Unit} {tt : List Sl → Rs Bool} {f : List Sl → Rs AV}
theorem ss_setLcT (w : Bool) {i : Nat} {y : Str} {py spos : Pos} (hc : X.calm = true) (hN : X.N.Nodup) (hy : X.N[i]? = some y) (hyl : X.env.scope.names.lookup y = some .local) (hp : i ∉ pin)
    (hsw : swapsWith (.ListComp elt [⟨tg, iter, ifs, 0⟩] scope pos) (some (.Name y py)) spos.line X.env = pure true) (hi : SI X W pin tg iter wi) (ok : blkC X.N X.env.scope scope own = true) (hv : ∀ v ∈ own.map (·.2), v ∉ pin) (hts : ∀ v ∈ ts, v ∈ own.map (·.2))
    (hg : ∀ s H C cl fp, SG (BX X scope s H C cl fp) W0 pin ts tg t) (ht : ∀ s H C cl fp, STs (BX X scope s H C cl fp) pin ifs tt) (he : ∀ s H C cl fp, SE (BX X scope s H C cl fp) W0 pin elt f) (hs : ∀ x, foldedSetIterable iter X.env x = pure x := by intro _; rfl) :
    SS X W pin (.Assign [.Name y py] (.ListComp elt [⟨tg, iter, ifs, 0⟩] scope pos) spos) (oAsg (sTk (sLc w wi (own.map (·.2)) t tt f)) (tgN i)) :=
  ps_mono (L2.ps_setLc hc hN hy hyl hsw hi (blkOk_by ok) hg ht he hs) fun D σ H ⟨b, Fz, F, δ, hpin, R, P⟩ => by
    refine lc_ok (K := X.K) (mg := X.mg) (W := W) (w := w) (wi := wi) (t := t) (tt := tt) (f := f) (tT := rdT X.K X.mg W0 pin tt) hv hts (fun _ _ _ h => h) σ H _ (tk_rd σ H _ ?_)
    refine rdS_bind hpin R P fun v H' Fz' F' a δ' s R' A P' => ?_
    refine tgN_ok (K := X.K) (mg := X.mg) (W := W) (b := b) (ts := [i]) (List.mem_singleton.mpr rfl) (by rw [hpin]; exact hp) R' A ?_
    cases q : tgN i a δ' with
    | bad => rw [q] at P'; exact P'
    | er x δ2 => rw [q] at P'; exact P'
    | ok u δ2 =>
      rw [q] at P'
      exact fun σ2 H2 Fz2 F2 s2 R2 _ => P' σ2 H2 Fz2 F2 s2 R2
end
end Hb
namespace Nv
open PySem Hb L2
open Enc (enc)
class EncKey (κ : Type) [Enc κ] where
  key : κ → Key
  h : ∀ k : κ, keyOf (enc k) = some (key k)
  inj : ∀ a b : κ, key a = key b → a = b
instance : EncKey Int := ⟨.inl, fun _ => rfl, fun _ _ h => Sum.inl.inj h⟩
instance : EncKey Str := ⟨.inr, fun _ => rfl, fun _ _ h => Sum.inr.inj h⟩
section
variable {α β γ κ : Type} [Enc α] [Enc β] [Enc κ] [DecidableEq κ] [EncKey κ] {Γ : Ga} {fa fb : List Sl → Rs AV}
theorem notDic_list {δ : List Sl} {x : AV} {ds : List PyData} (h : rdA δ x = some (.list ds)) : isDic x δ = false := by simp [isDic, dicA, h]
theorem op_ix2 : Op2 gIx2 (atL (α := α)) fun r => .val (enc r) := fun v w r δ x y h1 h1' h2 h2' e => by
  have : gIx2 x y δ = gIx x y δ := by unfold gIx2; rw [notDic_list (show rdA δ x = some (.list (v.map enc)) from h1')]; rfl
  rw [this]
  exact op_ix v w r δ x y h1 h1' h2 h2' e
end
end Nv
namespace Nv
open PySem Hb L2
open Enc (enc)
end Nv
namespace Hb
open PySem PySem.Spec PyProof.Rows L2
def frzS (δ : List Sl) : Sl → Sl
  | .no => .no
  | .fz d => .fz d
  | .ol xs => .fz (.list (xs.map El.d))
  | .od kvs => .fz (.dict kvs)
  | .al x j => match δ[x]? with
    | some (.ol xs) => (match xs[j]? with
      | some e => .fz e.d
      | none => .no)
    | _ => .no
def scalD : PyData → Bool
  | .none => true
  | .bool _ => true
  | .int _ => true
  | .str _ => true
  | _ => false
def scalE : El → Bool
  | .fz d => scalD d
  | .ow _ => false
theorem frz_al {δ : List Sl} {s : Sl} {x j : Nat} : frzS δ s ≠ .al x j := by
  unfold frzS
  split
  · simp
  · simp
  · simp
  · simp
  · split
    · split <;> simp
    · simp
theorem flat_rp {K : PySem.W.Frag} {H Fz : Hp} {v : V} {d : PyData} (h : Rp K H v d) (hd : scalD d = true) : Rp K Fz v d := by
  cases h with
  | non => exact .non
  | bl b => exact .bl b
  | int i => exact .int i
  | str x => exact .str x
  | _ => cases hd
theorem flat_el {K : PySem.W.Frag} {Fz Fz' H : Hp} : ∀ {f : List Addr} {vs : List V} {es : List El}, ElL K Fz' H f vs es → es.all scalE = true → f = [] ∧ ElL K Fz H [] vs es
  | _, _, _, .nil, _ => ⟨rfl, .nil⟩
  | _, _, _, .cons (e := .fz d) (es := es) h t, hd => by
    rw [List.all_cons, Bool.and_eq_true] at hd
    obtain ⟨e1, e2⟩ := flat_el (Fz := Fz) t hd.2
    obtain ⟨h1, h2⟩ := h
    subst h1 e1
    exact ⟨rfl, .cons (f := []) ⟨rfl, flat_rp h2 hd.1⟩ e2⟩
  | _, _, _, .cons (e := .ow xs) (es := es) h t, hd => by
    rw [List.all_cons, Bool.and_eq_true] at hd
    exact absurd hd.1 (by simp [scalE])
section
variable {X : Cx} {W : WX} {pin : List Nat} {e : Expr} {f : List Sl → Rs AV}
theorem Rl.still {K : PySem.W.Frag} {b : Bk} {Fz : Hp} {F : Nat → List Addr} {δ : List Sl} {σ : L2.St} {H : Hp} (R : Rl K b Fz F δ σ H) : Rl K ⟨H, H, b.pin, b.so⟩ H (fun _ => []) (δ.map (frzS δ)) σ H where
  le := Same.refl _
  base := Same.refl _
  len := by rw [List.length_map]; exact R.len
  slot := fun i s hs => by
    rw [List.getElem?_map] at hs
    cases q : δ[i]? with
    | none => rw [q] at hs; cases hs
    | some s0 =>
      rw [q] at hs
      cases Option.some.inj hs
      have h := R.slot i s0 q
      have rd : ∀ {v : V} {d : PyData}, σ[i]? = some (some v) → rdA δ (.ref i) = some d → Rp K H v d := fun hv hd => rdA_ok R (a := .ref i) hv hd
      cases s0 with
      | no => exact rfl
      | fz d =>
        obtain ⟨_, v, e1, r⟩ := h
        exact ⟨rfl, v, e1, r.mono R.le⟩
      | ol xs =>
        obtain ⟨a, vs, g, e1, _⟩ := h
        exact ⟨rfl, _, e1, rd (join_some e1) (by simp only [rdA, q]; rfl)⟩
      | od kvs =>
        obtain ⟨a, e1, _⟩ := h
        exact ⟨rfl, _, e1, rd (join_some e1) (by simp only [rdA, q]; rfl)⟩
      | al x j =>
        obtain ⟨_, a, c, vs, _, _, _, e1⟩ := h
        show SlH K H H σ [] _ (match δ[x]? with
          | some (.ol xs) => (match xs[j]? with
            | some e => .fz e.d
            | none => .no)
          | _ => .no)
        cases q2 : δ[x]? with
        | none => exact rfl
        | some t =>
          cases t with
          | ol xs =>
            cases q3 : xs[j]? with
            | none => simp only [q3]; exact rfl
            | some el =>
              simp only [q3]
              exact ⟨rfl, _, e1, rd (join_some e1) (by simp only [rdA, q, q2, q3]; rfl)⟩
          | _ => exact rfl
  nd := fun _ => List.nodup_nil
  dj := fun _ _ _ h => nomatch h
  offF := fun _ _ h => nomatch h
  offB := fun _ _ h => nomatch h
  on := fun _ _ h => nomatch h
  keep := fun _ _ => rfl
  f0 := fun _ h => h
  pin := R.pin
  als := fun i x j h => by
    rw [List.getElem?_map] at h
    cases q : δ[i]? with
    | none => rw [q] at h; cases h
    | some s0 =>
      rw [q] at h
      exact absurd (Option.some.inj h) frz_al
end
end Hb
namespace Hb
open PySem PySem.Spec PyProof.Rows L2
end Hb
namespace Hb
open PySem PySem.Spec PyProof.Rows L2
end Hb
namespace Nv
open PySem Hb L2
open Enc (enc)
section
/-- as everything stands still -/
def frzP : Pt → Pt
  | .eq .no => .eq .no
  | .eq (.al _ _) => .aa
  | .eq s => (match s.tree with
    | some d => .eq (.fz d)
    | none => .aa)
  | .tr d => .eq (.fz d)
  | _ => .aa
theorem frzP_ok {δ : List Sl} {p : Pt} {s : Sl} (h : p.Ok s) : (frzP p).Ok (frzS δ s) := by
  cases p with
  | aa => trivial
  | any => trivial
  | pl => trivial
  | ts d => trivial
  | tr d =>
    show frzS δ s = .fz d
    rcases h with ⟨h, ds, rfl⟩ | rfl
    · show Sl.fz (.list _) = _
      exact congrArg Sl.fz (Option.some.inj h)
    · rfl
  | eq t =>
    have h : s = t := h
    subst h
    cases s with
    | no => exact rfl
    | al x j => trivial
    | fz d => exact rfl
    | ol xs => exact rfl
    | od kvs => exact rfl
theorem Sat.frz {Γ : Ga} {δ δ0 : List Sl} (h : Sat Γ δ) : Sat (Γ.map frzP) (δ.map (frzS δ0)) := by
  induction h with
  | nil => exact .nil
  | cons h1 _ ih => exact .cons (frzP_ok h1) ih
/-- as everything stands still, name by name -/
inductive FrzP : Pt → Pt → Prop
  | no : FrzP (.eq .no) (.eq .no)
  | fz {d : PyData} : FrzP (.eq (.fz d)) (.eq (.fz d))
  | ow {α : Type} [Enc α] {xs : List α} : FrzP (.eq (ow xs)) (.eq (.fz (enc xs)))
  | oww {α : Type} [Enc α] {xs : List (List α)} : FrzP (.eq (oww xs)) (.eq (.fz (enc xs)))
  | od {κ α : Type} [Enc κ] [Enc α] {xs : Dc κ α} : FrzP (.eq (od xs)) (.eq (.fz (enc xs)))
  | tr {d : PyData} : FrzP (.tr d) (.eq (.fz d))
  | ts {d : PyData} : FrzP (.ts d) (.eq (.fz d))
  | aa {p : Pt} : FrzP p .aa
inductive FrzG : Ga → Ga → Prop
  | nil : FrzG [] []
  | cons {p q : Pt} {Γ Δ : Ga} : FrzP p q → FrzG Γ Δ → FrzG (p :: Γ) (q :: Δ)
theorem FrzP.ok {p q : Pt} (z : FrzP p q) {s : Sl} (h : p.Ok s) (δ : List Sl) : q.Ok (frzS δ s) := by
  cases z with
  | no => cases (show s = .no from h); exact rfl
  | fz => cases (show s = .fz _ from h); exact rfl
  | @ow α _ xs =>
    cases (show s = Nv.ow xs from h)
    show Sl.fz _ = _
    exact congrArg Sl.fz (Option.some.inj (ow_tree xs))
  | @oww α _ xs =>
    cases (show s = Nv.oww xs from h)
    show Sl.fz _ = _
    exact congrArg Sl.fz (Option.some.inj (oww_tree xs))
  | od => cases (show s = Nv.od _ from h); exact rfl
  | tr =>
    rcases h with ⟨h, ds, rfl⟩ | rfl
    · show Sl.fz (.list _) = _
      exact congrArg Sl.fz (Option.some.inj h)
    · exact rfl
  | ts =>
    rcases h with ⟨h, ds, rfl⟩ | ⟨rfl, _⟩
    · show Sl.fz (.list _) = _
      exact congrArg Sl.fz (Option.some.inj h)
    · exact rfl
  | aa => trivial
theorem FrzG.sat {Γ Γ0 : Ga} (z : FrzG Γ Γ0) : ∀ {δ : List Sl}, Sat Γ δ → ∀ δ0, Sat Γ0 (δ.map (frzS δ0)) := by
  induction z with
  | nil => intro δ h δ0; cases h; exact .nil
  | cons z _ ih => intro δ h δ0; cases h with | cons h1 h2 => exact .cons (z.ok h1 δ0) (ih h2 δ0)
/-- its values hold nothing -/
class Scal (α : Type) [Enc α] : Prop where
  s : ∀ x : α, scalD (enc x) = true
instance : Scal Int := ⟨fun _ => rfl⟩
instance : Scal Bool := ⟨fun _ => rfl⟩
instance : Scal Str := ⟨fun _ => rfl⟩
instance : Scal Unit := ⟨fun _ => rfl⟩
instance {α : Type} [Enc α] [Scal α] : Scal (Option α) := ⟨fun x => match x with
  | none => rfl
  | some x => Scal.s x⟩
variable {α β γ ε : Type} {Γ : Ga} {f fa : List Sl → Rs AV}
end
end Nv
namespace Hb
open PySem PySem.Spec PyProof.Rows L2
def offT (H : Hp) (g : List Addr) : Hp := fun a => if a ∈ g then none else H a
theorem offT_out {H : Hp} {g : List Addr} {a : Addr} (h : a ∉ g) : offT H g a = H a := by unfold offT; rw [if_neg h]
section
variable {K : PySem.W.Frag} {b : Bk} {Fz : Hp} {F : Nat → List Addr} {δ : List Sl} {σ : L2.St} {H : Hp}
theorem Rl.back (R : Rl K b Fz F δ σ H) (t : Nat) {Fz' : Hp} {F' : Nat → List Addr} {δ' : List Sl} {H' : Hp} {ts : List El}
    (R' : Rl K ⟨offT H (F t), offT H (F t), b.pin, b.so⟩ Fz' F' δ' σ H') (h' : δ'[t]? = some (.ol ts)) (hs : ts.all scalE = true) :
    Rl K b Fz (fun k => if k = t then F' t else F k) (upS t (.ol ts) δ) σ H' := by
  have up : ∀ {a : Addr} {o : HO}, a ∉ F t → H a = some o → H' a = some o := fun {a o} hn e => R'.base a o (by show offT H (F t) a = _; rw [offT_out hn]; exact e)
  have no : ∀ a ∈ F' t, ∀ o, H a = some o → a ∈ F t := fun a ha o e => by
    by_cases c : a ∈ F t
    · exact c
    · have h0 : offT H (F t) a = none := R'.offB t a ha
      rw [offT_out c, e] at h0
      cases h0
  refine R.put (Same.refl _) (fun a o e => up (fun z => by rw [R.offF t a z] at e; cases e) (R.le a o e)) (fun a o e => up (fun z => by rw [R.offB t a z] at e; cases e) (R.base a o e)) rfl (fun _ _ => rfl) (.inl rfl) (fun _ => ?_) (fun x j z => nomatch z) (R'.nd t) (fun a ha => ?_) (fun a ha => ?_) (fun a ha k hk hin => ?_) (fun a ha => R'.on t a ha) (fun k hk a ha => ?_) (fun k hk a ha => R.offF k a ha) (fun _ _ => rfl)
  · obtain ⟨a, vs, g, e1, e2, e3, e4⟩ := R'.slot t _ h'
    obtain ⟨e5, e6⟩ := flat_el (Fz := Fz) e4 hs
    subst e5
    exact ⟨a, vs, [], e1, e2, e3, e6⟩
  · cases z : Fz a with
    | none => rfl
    | some o => 
      have := R.offF t a (no a ha o (R.le a o z))
      rw [this] at z; cases z
  · cases z : b.B a with
    | none => rfl
    | some o => 
      have := R.offB t a (no a ha o (R.base a o z))
      rw [this] at z; cases z
  · cases z : H a with
    | none => exact R.on k a hin z
    | some o => exact hk (R.dj k t a hin (no a ha o z))
  · cases z : H a with
    | none => exact absurd z (R.on k a ha)
    | some o => exact up (fun y => hk (R.dj k t a ha y)) z
end
end Hb
namespace Nv
open PySem Hb L2
open Enc (enc)
end Nv
namespace Hb
open PySem PySem.Spec PyProof.Rows L2
/-- a test that only looks -/
def sBrwT (t : List Sl → Rs Bool) : List Sl → Rs Bool := fun δ => match t (δ.map (frzS δ)) with
  | .ok k _ => .ok k δ
  | _ => .bad
section
variable {X : Cx} {W : WX} {pin : List Nat} {e : Expr} {t : List Sl → Rs Bool}
theorem st_brw (h : ST X W pin e t) : ST X W pin e (sBrwT t) := pt_mono h fun σ H Q ⟨b, Fz, F, δ, hp, R, P⟩ => by
  refine ⟨⟨H, H, b.pin, b.so⟩, H, fun _ => [], δ.map (frzS δ), hp, R.still, ?_⟩
  unfold sBrwT at P
  cases q : t (δ.map (frzS δ)) with
  | bad => rw [q] at P; exact P.elim
  | er x δ' => rw [q] at P; exact P.elim
  | ok a δ' =>
    rw [q] at P
    intro H' Fz' F' s1 R'
    exact P H' Fz F (Same.refl _) (R.grow (s1.trans R'.le))
end
end Hb
namespace Nv
open PySem Hb L2
open Enc (enc)
section
variable {α β γ ε : Type} {Γ Γ0 : Ga} {t : List Sl → Rs Bool}
theorem ts_brw {p : Option Bool} (hz : FrzG Γ Γ0) (h : Ts t Γ0 p) : Ts (sBrwT t) Γ p := fun r e δ s => by
  have h1 := h r e _ (hz.sat s δ)
  unfold sBrwT
  rw [h1]
end
end Nv
namespace Hb
open PySem PySem.Spec PyProof.Rows L2
end Hb
namespace Nv
open PySem Hb L2
open Enc (enc)
end Nv
namespace Hb
open PySem PySem.Spec PyProof.Rows L2
end Hb
namespace Nv
open PySem Hb L2
open Enc (enc)
end Nv
namespace Hb
open PySem PySem.Spec PyProof.Rows L2
/-- what is known of a class of errors -/
structure ExcC (K : PySem.W.Frag) (mg : Str → Option Value) (C : Str) (c : Addr) : Prop where
  q : PySem.W.excIn K c He.veBase "ValueError.__new__" = true
  k : PySem.W.keepIn K (.ref c) = true
  b : PySem.W.subIn K (.ref c) (.type "BaseException") = some true
  t : PySem.W.typeIn K (.ref c) = some (.type "type")
  g : mg C = some (.ref c)
def oRaise (C : Str) : List Sl → Ot := fun δ => .er ⟨C, none⟩ δ
section
variable {X : Cx} {W : WX} {pin : List Nat}
theorem ss_raise {C m : Str} {c : Addr} {j : Nat} {p p2 pos pos' : Pos} (hc : X.calm = true) (tk : Takes X W) (e : ExcC X.K X.mg C c) (hg : Gl X C) (hdb : (C == ("__debug__" : Str)) = false := by decide) :
    SS X W pin (.Raise (some (.Call (.Name C p) [.Constant (.str m) j p2] [] pos)) none pos') (oRaise C) :=
  ps_mono (ps_raise hc tk (pmk_own PySem.F.excBase_ValueError e.q e.g e.k (raises_own e.b e.t) hg hdb)) fun D σ H ⟨b, Fz, F, δ, hp, R, P⟩ => P (.ref c) none σ H Fz F (Same.refl _) R ⟨⟨c, e.g, rfl⟩, rfl⟩
/-- whether an error of the one class is one of the other -/
abbrev Mt := List (Str × Str × Bool)
def Mt.at_ (m : Mt) (x y : Str) : Option Bool := (m.find? fun p => p.1 == x && p.2.1 == y).map fun p => p.2.2
def MtOk (K : PySem.W.Frag) (mg : Str → Option Value) (m : Mt) : Prop := ∀ x y b, m.at_ x y = some b → ∀ cx cy, mg x = some (.ref cx) → mg y = some (.ref cy) → PySem.W.exmOne K (.ref cx) (.ref cy) = some b
def hands (m : Mt) : List (Str × (List Sl → Ot)) → Exn → List Sl → Ot
  | [], x, δ => .er x δ
  | (C, h) :: r, x, δ => match m.at_ x.cls C with
    | some true => h δ
    | some false => hands m r x δ
    | none => .bad
def oTry (m : Mt) (body : List Sl → Ot) (hs : List (Str × (List Sl → Ot))) : List Sl → Ot := fun δ => match body δ with
  | .er x δ' => hands m hs x δ'
  | r => r
/-- the except clauses -/
inductive HdO (X : Cx) (W : WX) (pin : List Nat) : List ExceptHandler → List (Str × (List Sl → Ot)) → Prop
  | nil : HdO X W pin [] []
  | cons {C : Str} {c : Addr} {b₀ : Stmt} {suite : List Stmt} {np pos' : Pos} {hds : List ExceptHandler} {l : List (Str × (List Sl → Ot))} {h : List Sl → Ot} (g : X.mg C = some (.ref c)) (hg : Gl X C) (hd : (C == ("__debug__" : Str)) = false)
      (hsu : ∀ (a : Addr) (oe : Obj) (pn : List (Addr × Obj)), SSs (X.suite a ((a, oe) :: pn)) W pin (b₀ :: suite) h) (r : HdO X W pin hds l) :
      HdO X W pin (.ExceptHandler (some (.Name C np)) none (b₀ :: suite) pos' :: hds) ((C, h) :: l)
def tsOf (K : PySem.W.Frag) (mg : Str → Option Value) (W : WX) (pin : List Nat) (h : List Sl → Ot) : Addr → Value → Option Addr → TS := fun _ _ _ => rdS K mg W pin h
theorem HdO.ok {hds : List ExceptHandler} {l : List (Str × (List Sl → Ot))} (hh : HdO X W pin hds l) : ∃ l' : List (Value × (Addr → Value → Option Addr → TS)), HdsOk X hds l' ∧
    ∀ {m : Mt}, MtOk X.K X.mg m → ∀ {b : Bk} {Fz : Hp} {D : Ends} {x : Exn} {δ : List Sl}, b.pin = pin → PostS X.K X.mg W b Fz D (hands m l x δ) → PostXS X.K X.mg (wMany X.K W D l') b Fz x δ := by
  induction hh with
  | nil => exact ⟨[], .nil, fun _ _ _ _ _ _ _ P => P⟩
  | @cons C c b₀ suite np pos' hds l h g hg hd hsu r ih =>
    obtain ⟨l', o, f⟩ := ih
    refine ⟨(.ref c, tsOf X.K X.mg W pin h) :: l', .cons ⟨hg, hd, .inl g⟩ (fun a oe cls d pn _ _ => hsu a oe pn) o, fun {m} hm {b} {Fz} {D} {x} {δ} hp P => ?_⟩
    intro cv dd σ' H' Fz' F' s R' E
    obtain ⟨⟨cx, gx, e1⟩, _⟩ := id E
    subst e1
    unfold hands at P
    cases q : m.at_ x.cls C with
    | none => rw [q] at P; exact P.elim
    | some bb =>
      rw [q] at P
      refine ⟨bb, hm _ _ _ q cx c gx g, fun e a _ => ?_, fun e => ?_⟩
      · subst e
        exact ⟨b, Fz', F', δ, hp, R', PostS.le s P⟩
      · subst e
        exact f hm hp P (.ref cx) dd σ' H' Fz' F' s R' E
theorem ss_try {body : List Stmt} {h₀ : ExceptHandler} {hds : List ExceptHandler} {pos : Pos} {m : Mt} {fb : List Sl → Ot} {l : List (Str × (List Sl → Ot))} (hs : X.stack = X.env :: X.outer) (hf : X.env.frame = some X.env.locals) (tk : Takes X W) (hm : MtOk X.K X.mg m)
    (hb : ∀ (W' : WX) (pn : List (Addr × Obj)) (xe : Value → Shared → Prop), Takes (X.tr pn xe) W' → SSs (X.tr pn xe) W' pin body fb) (hh : HdO X W pin (h₀ :: hds) l) :
    SS X W pin (.Try body (h₀ :: hds) [] [] pos) (oTry m fb l) := by
  obtain ⟨l', o, f⟩ := hh.ok
  refine ps_mono (ps_try_many (l := l') (tb := fun W' => rdS X.K X.mg W' pin fb) hs hf tk (fun W' pn xe t _ => hb W' pn xe t) o) fun D σ H ⟨b, Fz, F, δ, hp, R, P⟩ => ?_
  refine ⟨b, Fz, F, δ, hp, R, ?_⟩
  unfold oTry at P
  cases q : fb δ with
  | er x δ' => rw [q] at P; exact f hm hp P
  | nx δ' => rw [q] at P; exact P
  | rt s δ' => rw [q] at P; exact P
  | bk δ' => rw [q] at P; exact P
  | ct δ' => rw [q] at P; exact P
  | bad => rw [q] at P; exact P
end
/-- the def's own errors go out -/
theorem gx_takes {P : Program} {w : World} {K : PySem.W.Frag} {mg : Str → Option Value} {base : Heap} {N : List Str} {qual : Str} {scope : Scope} {f : Addr} {cd : Value} {A : Around} {outer : List Env} {s : Shared} {H : Hp} {E : XK} :
    Takes (GX P w K mg base N qual scope f cd A outer s H E) (GW E) := takes_of rfl rfl rfl rfl
theorem excC_of {K : PySem.W.Frag} {h : Heap} {mg : Str → Option Value} (X : K.In h) (G : h.Ns mainGlobals mg) {C : Str} (g : mg C = some (.ref (He.ga K C))) (c : (He.Fa.exc C).ok K = true) : ExcC K mg C (He.ga K C) :=
  let ⟨a, b, d, e⟩ := He.exc_ok c
  ⟨a, b, d, e, g⟩
end Hb
namespace Nv
open PySem Hb L2
open Enc (enc)
section
variable {α β γ ε ζ σ ρ : Type} {Γ Γx : Ga} {f : List Sl → Rs AV} {A g : List Sl → Ot} {R : ζ → Ot → Prop}
/-- it lets out an error of a class -/
def RX (Γx : Ga) : Str → Ot → Prop := fun C ot => ∃ δ', ot = .er ⟨C, none⟩ δ' ∧ Sat Γx δ'
def FunX (F : List Sl → FR) (p : Option Str) (ins : List Sl) : Prop := ∀ C, p = some C → ∃ δ', F ins = .er ⟨C, none⟩ δ'
def Xe (f : List Sl → Rs AV) (Γ : Ga) (p : Option Str) (Γx : Ga) : Prop := ∀ C, p = some C → ∀ δ, Sat Γ δ → ∃ δ', f δ = .er ⟨C, none⟩ δ' ∧ Sat Γx δ'
theorem bl_raiseS {C : Str} (l : GaLe Γ Γx) : Bl (oSeq (oRaise C) g) Γ (some C) (RX Γx) := fun r e δ s => by
  cases some_of e
  exact ⟨δ, rfl, s.wk l⟩
theorem bl_xor {p q : Option ζ} (h : Bl A Γ p R) (h2 : Bl A Γ q R) : Bl A Γ (Option.or p q) R := fun r e δ s => by
  cases p with
  | some x => exact h r (by simpa using e) δ s
  | none => exact h2 r (by simpa using e) δ s
theorem callF_er {F : List Sl → FR} {as : List Ar} {l o : List Sl} {δ : List Sl} {x : Exn} (h : insOf as = some l) (hF : F l = .er x o) : callF F as δ = .er x δ := by
  obtain ⟨h1, h2⟩ := ins_args (δ := δ) h
  unfold callF backS
  rw [h2]
  rw [if_pos List.nodup_nil, h1]
  simp only [hF]
  rw [putB_nil h]
  rfl
theorem xe_call {F : List Sl → FR} {dd : List PyData} {q : Option β} {as : β → List Ar} {x : β → Option Str} {ins : β → List Sl} {gg : List Sl → Rs (List Ar)} (hg : AgP gg Γ q as) (hX : ∀ v, FunX F (x v) (ins v)) (l : GaLe Γ Γx) (hi : ∀ v, insOf (as v ++ dd.map .fz) = some (ins v) := by intro _; rfl) : Xe (sCall F dd gg) Γ (q.bind x) Γx := fun C e δ s => by
  obtain ⟨v, e1, e⟩ := bind_of e
  obtain ⟨o, h⟩ := hX v C e
  refine ⟨δ, ?_, s.wk l⟩
  unfold sCall
  rw [hg v e1 δ s]
  exact callF_er (hi v) h
theorem Xe.st {p : Option Str} (h : Xe f Γ p Γx) : Xe (sSt f) Γ p Γx := fun C e δ s => by
  obtain ⟨δ', h1, h2⟩ := h C e δ s
  exact ⟨δ', by unfold sSt; rw [h1], h2⟩
theorem Xe.tk {p : Option Str} (h : Xe f Γ p Γx) : Xe (sTk f) Γ p Γx := fun C e δ s => by
  obtain ⟨δ', h1, h2⟩ := h.st C e δ s
  exact ⟨δ', by unfold sTk; rw [h1], h2⟩
theorem bl_exprX {p : Option Str} (h : Xe f Γ p Γx) : Bl (oSeq (oDrop f) g) Γ p (RX Γx) := fun C e δ s => by
  obtain ⟨δ', h1, h2⟩ := h C e δ s
  refine ⟨δ', ?_, h2⟩
  unfold oSeq oDrop
  rw [h1]; rfl
theorem bl_asgX {t : AV → List Sl → Rs Unit} {p : Option Str} (h : Xe f Γ p Γx) : Bl (oSeq (oAsg f t) g) Γ p (RX Γx) := fun C e δ s => by
  obtain ⟨δ', h1, h2⟩ := h C e δ s
  refine ⟨δ', ?_, h2⟩
  unfold oSeq oAsg
  rw [h1]; rfl
theorem funx_of {n m : Nat} {pin : List Nat} {B : List Sl → Ot} {ins : List Sl} {p : Option Str} (h : Bl B Γ p (RX Γx)) (hs : Sat Γ (ins ++ List.replicate (m - n) .no)) : FunX (fnRun n m pin B) p ins := fun C e => by
  obtain ⟨δ', h1, _⟩ := h C e _ hs
  refine ⟨outs n pin δ', ?_⟩
  unfold fnRun
  rw [h1]
theorem funx_eq {n m : Nat} {pin : List Nat} {B : List Sl → Ot} {ins : List Sl} {p : Option Str} (h : Bl B ((ins ++ List.replicate (m - n) Sl.no).map Pt.eq) p (RX Γx)) : FunX (fnRun n m pin B) p ins := funx_of h (sat_eqs _)
/-- what the except clauses make of an error of a class -/
def HdT (m : Mt) (hs : List (Str × (List Sl → Ot))) (C : Str) (Γx : Ga) (q : Option σ) (ΓJ : σ → Ga) : Prop := ∀ j, q = some j → ∀ δ, Sat Γx δ → ∃ δ', hands m hs ⟨C, none⟩ δ = .nx δ' ∧ Sat (ΓJ j) δ'
theorem hd_nil {m : Mt} {C : Str} {ΓJ : σ → Ga} : HdT m [] C Γx none ΓJ := fun j e => nomatch e
def hsel (b : Option Bool) (p q : Option σ) : Option σ := match b with
  | some true => p
  | some false => q
  | none => none
theorem hd_cons {m : Mt} {C A : Str} {h : List Sl → Ot} {l : List (Str × (List Sl → Ot))} {qh q : Option σ} {ΓJ : σ → Ga} (hh : Bl h Γx qh (RN ΓJ)) (r : HdT m l C Γx q ΓJ) : HdT m ((A, h) :: l) C Γx (hsel (m.at_ C A) qh q) ΓJ := fun j e δ s => by
  unfold hands
  show ∃ δ', (match m.at_ C A with
    | some true => h δ
    | some false => hands m l ⟨C, none⟩ δ
    | none => .bad) = _ ∧ _
  cases b : m.at_ C A with
  | none => rw [b] at e; cases e
  | some v =>
    rw [b] at e
    cases v with
    | true => exact hh j e δ s
    | false => exact r j e δ s
theorem bl_try {m : Mt} {body : List Sl → Ot} {hs : List (Str × (List Sl → Ot))} {p1 : Option σ} {p2 : Option Str} {q : Str → Option σ} {ΓJ : σ → Ga} {kont : σ → Option ζ} (h1 : Bl body Γ p1 (RN ΓJ)) (h2 : Bl body Γ p2 (RX Γx)) (h3 : ∀ C, HdT m hs C Γx (q C) ΓJ) (k2 : ∀ j, Bl g (ΓJ j) (kont j) R) :
    Bl (oSeq (oTry m body hs) g) Γ ((Option.or p1 (p2.bind q)).bind kont) R := fun r e δ s => by
  obtain ⟨j, e1, e⟩ := bind_of e
  have key : ∃ δ', oTry m body hs δ = .nx δ' ∧ Sat (ΓJ j) δ' := by
    unfold oTry
    cases c : p1 with
    | some v =>
      rw [c] at e1
      have e1 : some v = some j := by simpa using e1
      obtain ⟨δ', a, b⟩ := h1 v c δ s
      cases some_of e1
      refine ⟨δ', ?_, b⟩
      rw [a]
    | none =>
      rw [c] at e1
      have e1 : p2.bind q = some j := by simpa using e1
      obtain ⟨C, e2, e3⟩ := bind_of e1
      obtain ⟨δ1, a, b⟩ := h2 C e2 δ s
      rw [a]
      exact h3 C j e3 δ1 b
  obtain ⟨δ', a, b⟩ := key
  have : oSeq (oTry m body hs) g δ = g δ' := by unfold oSeq; rw [a]
  rw [this]
  exact k2 j r e δ' b
end
end Nv
namespace Hb
open PySem L2
theorem mtOk_of {K : PySem.W.Frag} {mg : Str → Option Value} {m : Mt} (h : ∀ p ∈ m, mg p.1 = some (.ref (He.ga K p.1)) ∧ mg p.2.1 = some (.ref (He.ga K p.2.1)) ∧ PySem.W.exmOne K (.ref (He.ga K p.1)) (.ref (He.ga K p.2.1)) = some p.2.2) : MtOk K mg m := fun x y b e cx cy gx gy => by
  unfold Mt.at_ at e
  cases q : m.find? (fun p => p.1 == x && p.2.1 == y) with
  | none => rw [q] at e; cases e
  | some p =>
    rw [q] at e
    have hp := List.mem_of_find?_eq_some q
    have hq := List.find?_some q
    rw [Bool.and_eq_true, beq_iff_eq, beq_iff_eq] at hq
    obtain ⟨h1, h2, h3⟩ := h p hp
    rw [hq.1] at h1 h3
    rw [hq.2] at h2 h3
    rw [gx] at h1
    rw [gy] at h2
    cases h1
    cases h2
    rw [h3]
    exact e
end Hb
namespace P
open PySem PySem.Spec PyProof.Rows L2 Hb Nv
open Enc (enc)
def B__law_well : List Sl → Ot :=
    oSeq (oAsg (sTk (sIf (sTst (s2 gLt (sVar 1) (s1 (gRd lenD) (sVar 0)))) (s2 gIx2 (sVar 0) (sVar 1)) (sC (.int 0)))) (tgN 2))
    (oRet (sLst (lCons (s2 gMax2 (sC (.int 0)) (s2 gSub (sVar 2) (s2 gPowW (sC (.int 10)) (sC (.int 18))))) (lCons (s2 gAdd (s2 gAdd (s2 gMod (s1 (gRd intD) (s1 (gRd absD) (sVar 2))) (s2 gAdd (s2 gPowW (sC (.int 10)) (sC (.int 31))) (sC (.int 33)))) (s2 gMulX (sC (.int 6700417)) (sVar 1))) (sC (.int 257))) (lCons (sC (.int 0)) (lNil))))))
def F__law_well : List Sl → FR := fnRun 2 3 [] B__law_well
def n__law_well (a0 : (List Int)) (a1 : Int) : Option ((List Int)) :=
    (Option.bind (Option.bind (Option.bind (some a1) fun x2 => Option.bind (Option.bind (some a0) fun x1 => lenL x1) fun x3 => ltI x2 x3) fun x6 => if x6 = true then (Option.bind (some a0) fun x4 => Option.bind (some a1) fun x5 => atL x4 x5) else (some (0 : Int))) fun x7 => (Option.bind (Option.bind (Option.bind (Option.bind (some (0 : Int)) fun x12 => Option.bind (Option.bind (some x7) fun x10 => Option.bind (Option.bind (some (10 : Int)) fun x8 => Option.bind (some (18 : Int)) fun x9 => powW x8 x9) fun x11 => subI x10 x11) fun x13 => maxI2 x12 x13) fun x14 => Option.bind (Option.bind (Option.bind (Option.bind (Option.bind (Option.bind (Option.bind (some x7) fun x15 => absI x15) fun x16 => intI x16) fun x21 => Option.bind (Option.bind (Option.bind (some (10 : Int)) fun x17 => Option.bind (some (31 : Int)) fun x18 => powW x17 x18) fun x19 => Option.bind (some (33 : Int)) fun x20 => addI x19 x20) fun x22 => modI x21 x22) fun x25 => Option.bind (Option.bind (some (6700417 : Int)) fun x23 => Option.bind (some a1) fun x24 => mulI x23 x24) fun x26 => addI x25 x26) fun x27 => Option.bind (some (257 : Int)) fun x28 => addI x27 x28) fun x29 => Option.bind (Option.bind (some (0 : Int)) fun x30 => Option.bind (some ()) fun x32 => some (x30, x32)) fun x33 => some (x29, x33)) fun x34 => some (x14, x34)) fun x31 => some ([(Prod.fst x31), (Prod.fst (Prod.snd x31)), (Prod.fst (Prod.snd (Prod.snd x31)))] : (List Int))) fun x35 => some x35))
theorem V__law_well (a0 : (List Int)) (a1 : Int) : Fun F__law_well (n__law_well a0 a1) [.fz (enc a0), .fz (enc a1)] (fun r : ((List Int)) => ow (r : (List Int))) fun r => [.no, .no] :=
  fun_of (ΓR := fun r => [.aa, .aa, .aa]) (show Bl B__law_well _ _ _ from (bl_ga [.eq (.fz (enc (a0 : (List Int)))), .eq (.fz (enc (a1 : Int))), .eq .no] (by kernel_rfl) (bl_asgV (((pu_if (ts_tst (pu2 Nv.op_lt ((pu_var 1 rfl)).rd ((pu1A Nv.op_len (((pu_var 0 rfl)).rd).ra)).rd)) (pu2 Nv.op_ix2 ((pu_var 0 rfl)).rd ((pu_var 1 rfl)).rd) pu_c)).tkP).ev fun x7 => (bl_ga [.eq (.fz (enc (a0 : (List Int)))), .eq (.fz (enc (a1 : Int))), .eq (.fz (enc (x7 : Int)))] (by kernel_rfl) (bl_retT ((pu_lst (dp_cons ((pu2 Nv.op_max2 (pu_c).rd ((pu2 Nv.op_sub ((pu_var 2 rfl)).rd ((pu2 Nv.op_powW (pu_c).rd (pu_c).rd)).rd)).rd)).tkP (dp_cons ((pu2 Nv.op_add ((pu2 Nv.op_add ((pu2 Nv.op_mod ((pu1A Nv.op_int (((pu1A Nv.op_abs (((pu_var 2 rfl)).rd).ra)).rd).ra)).rd ((pu2 Nv.op_add ((pu2 Nv.op_powW (pu_c).rd (pu_c).rd)).rd (pu_c).rd)).rd)).rd ((pu2 Nv.op_mul (pu_c).rd ((pu_var 1 rfl)).rd)).rd)).rd (pu_c).rd)).tkP (dp_cons (pu_c).tkP dp_nil))) (fun x31 => ([(Prod.fst x31), (Prod.fst (Prod.snd x31)), (Prod.fst (Prod.snd (Prod.snd x31)))] : (List Int))))).ev fun x35 => (rf_eq rfl (.cons .aa (.cons .aa (.cons .aa .nil)))))))))
end P
namespace P
open PySem PySem.Spec PyProof.Rows L2 Hb Nv
open Enc (enc)
def B_is_integer : List Sl → Ot :=
    oSeq (oIf (sOr (sNot (sTru (s1 (gIsi "int") (sVar 0)))) (sTru (s1 (gIsi "bool") (sVar 0)))) (oRet (sC (.bool false))) (oNext))
    (oRet (sAndV (s2 gLe (sVar 1) (sVar 0)) (sOrV (s2 (gIs false) (sVar 2) (sC .none)) (s2 gLe (sVar 0) (sVar 2)))))
def F_is_integer : List Sl → FR := fnRun 3 3 [] B_is_integer
def n_is_integer (a0 : PyData) (a1 : Int) (a2 : (Option Int)) : Option (Bool) :=
    (Option.bind (Option.bind (Option.bind (Option.bind (some a0) fun x1 => isiN "int" x1) fun x3 => some !x3) fun x6 => if x6 = true then some true else (Option.bind (some a0) fun x4 => isiN "bool" x4)) fun x7 => if x7 = true then (Option.bind (some false) fun x8 => some x8) else (Option.bind (Option.bind (Option.bind (some a1) fun x10 => Option.bind (Option.bind (some a0) fun x9 => asIntA x9) fun x11 => leI x10 x11) fun x18 => if x18 = true then (Option.bind (Option.bind (some a2) fun x12 => some (if false = true then Option.isSome x12 else Option.isNone x12)) fun x17 => if x17 = true then some true else (Option.bind (Option.bind (some a0) fun x13 => asIntA x13) fun x15 => Option.bind (Option.bind (some a2) fun x14 => x14) fun x16 => leI x15 x16)) else some false) fun x19 => some x19))
theorem V_is_integer (a0 : PyData) (a1 : Int) (a2 : (Option Int)) : Fun F_is_integer (n_is_integer a0 a1 a2) [.fz (enc a0), .fz (enc a1), .fz (enc a2)] (fun r : (Bool) => .fz (enc (r : Bool))) fun r => [.no, .no, .no] :=
  fun_of (ΓR := fun r => [.aa, .aa, .aa]) (show Bl B_is_integer _ _ _ from (bl_ga [.eq (.fz (enc (a0 : PyData))), .eq (.fz (enc (a1 : Int))), .eq (.fz (enc (a2 : (Option Int))))] (by kernel_rfl) (bl_if (k := fun x7 => x7) ((ts_or (ts_not (ts_truB (((pu1A (Nv.op_isi (T := "int")) (((pu_var 0 rfl)).rd).ra)).rd).ra)) (ts_truB (((pu1A (Nv.op_isi (T := "bool")) (((pu_var 0 rfl)).rd).ra)).rd).ra))).te' (fun x7 => (bl_retS (bl_retV (pu_c).ev fun x8 => (rf_eq rfl (.cons .aa (.cons .aa (.cons .aa .nil))))))) fun x7 => (bl_next (bl_retV ((pu_andV (pu2 Nv.op_le ((pu_var 1 rfl)).rd ((Pu.asI (pu_var 0 rfl))).rd) (pu_orV (pu_isN (n := false) (((pu_var 2 rfl)).rd).ra) (pu2 Nv.op_le ((Pu.asI (pu_var 0 rfl))).rd ((Pu.un (pu_var 2 rfl))).rd)))).ev fun x19 => (rf_eq rfl (.cons .aa (.cons .aa (.cons .aa .nil)))))))))
end P
namespace P
open PySem PySem.Spec PyProof.Rows L2 Hb Nv
open Enc (enc)
def B_need_count : List Sl → Ot :=
    oIf (sNot (sTru (sCall F_is_integer [] (rCons (sTk (sVar 0)) (rCons (sC (.int 1)) (rCons (sTk (sVar 1)) (rNil))))))) (oRaise "InvalidCount") (oNext)
def F_need_count : List Sl → FR := fnRun 2 2 [] B_need_count
def n_need_count (a0 : PyData) (a1 : Int) : Option (Unit) :=
    (Option.bind (Option.bind (Option.bind (Option.bind (some a0) fun x1 => Option.bind (Option.bind (some (1 : Int)) fun x2 => Option.bind (Option.bind (some a1) fun x3 => Option.bind (some ()) fun x4 => some (x3, x4)) fun x5 => some (x2, x5)) fun x6 => some (x1, x6)) fun x7 => n_is_integer ((Prod.fst x7) : PyData) ((Prod.fst (Prod.snd x7)) : Int) ((some (Prod.fst (Prod.snd (Prod.snd x7)))) : (Option Int))) fun x9 => some !x9) fun x10 => if x10 = true then none else some ())
theorem V_need_count (a0 : PyData) (a1 : Int) : Fun F_need_count (n_need_count a0 a1) [.fz (enc a0), .fz (enc a1)] (fun r : (Unit) => .fz (enc (r : Unit))) fun r => [.no, .no] :=
  fun_of (ΓR := fun r => [.aa, .aa]) (show Bl B_need_count _ _ _ from (bl_ga [.eq (.fz (enc (a0 : PyData))), .eq (.fz (enc (a1 : Int)))] (by kernel_rfl) (bl_last (bl_if (k := fun x10 => x10) ((ts_not (ts_truB (((pu_call (ap_cons ((pu_var 0 rfl)).tkP (ap_cons pu_c (ap_cons ((pu_var 1 rfl)).tkP ap_nil))) (fun x7 => V_is_integer ((Prod.fst x7) : PyData) ((Prod.fst (Prod.snd x7)) : Int) ((some (Prod.fst (Prod.snd (Prod.snd x7)))) : (Option Int))))).rd).ra))).te' (fun x10 => bl_bad) fun x10 => (bl_next (bl_end (rf_nx rfl (.cons .aa (.cons .aa .nil)))))))))
def x_need_count (a0 : PyData) (a1 : Int) : Option Str :=
    (Option.bind (Option.bind (Option.bind (Option.bind (some a0) fun x11 => Option.bind (Option.bind (some (1 : Int)) fun x12 => Option.bind (Option.bind (some a1) fun x13 => Option.bind (some ()) fun x14 => some (x13, x14)) fun x15 => some (x12, x15)) fun x16 => some (x11, x16)) fun x17 => n_is_integer ((Prod.fst x17) : PyData) ((Prod.fst (Prod.snd x17)) : Int) ((some (Prod.fst (Prod.snd (Prod.snd x17)))) : (Option Int))) fun x19 => some !x19) fun x20 => if x20 = true then (some ("InvalidCount" : Str)) else none)
theorem X_need_count (a0 : PyData) (a1 : Int) : FunX F_need_count (x_need_count a0 a1) [.fz (enc a0), .fz (enc a1)] :=
  funx_eq (Γx := [.aa, .aa]) (show Bl B_need_count _ _ _ from (bl_ga [.eq (.fz (enc (a0 : PyData))), .eq (.fz (enc (a1 : Int)))] (by kernel_rfl) (bl_last (bl_if (k := fun x20 => x20) ((ts_not (ts_truB (((pu_call (ap_cons ((pu_var 0 rfl)).tkP (ap_cons pu_c (ap_cons ((pu_var 1 rfl)).tkP ap_nil))) (fun x17 => V_is_integer ((Prod.fst x17) : PyData) ((Prod.fst (Prod.snd x17)) : Int) ((some (Prod.fst (Prod.snd (Prod.snd x17)))) : (Option Int))))).rd).ra))).te' (fun x20 => (bl_raiseS (.cons .aa (.cons .aa .nil)))) fun x20 => (bl_next bl_bad)))))
end P
namespace P
open PySem PySem.Spec PyProof.Rows L2 Hb Nv
open Enc (enc)
def B_is_each_once : List Sl → Ot :=
    oSeq (oIf (sOr (sNot (sTru (s1 (gIsi "list") (sVar 1)))) (sOr (sTst (s2 gNe (s1 (gRd lenD) (sVar 1)) (sVar 0))) (sNot (sTru (s1 (gRd (overB fun ns => some (.bool (ns.all id)))) (sLc false (wSeq (sVar 1)) [2] (tgN 2) (tOk) (sTk (sCall F_is_integer [.none] (rCons (sTk (sVar 2)) (rCons (sC (.int 0)) (rNil))))))))))) (oRet (sC (.bool false))) (oNext))
    (oRet (s2 gEq (s1 (gSortD) (sVar 1)) (s1 gRg1 (sVar 0))))
def F_is_each_once : List Sl → FR := fnRun 2 3 [] B_is_each_once
def n_is_each_once (a0 : Int) (a1 : PyData) : Option (Bool) :=
    (Option.bind (Option.bind (Option.bind (Option.bind (some a1) fun x1 => isiN "list" x1) fun x3 => some !x3) fun x19 => if x19 = true then some true else (Option.bind (Option.bind (Option.bind (some a1) fun x4 => lenA x4) fun x5 => Option.bind (some a0) fun x6 => neN x5 x6) fun x18 => if x18 = true then some true else (Option.bind (Option.bind (Option.bind (Option.bind (some a1) fun x7 => seqA x7) fun x8 => if List.length (x8) ≤ cap then mapF x8 (fun x9 => (some true)) (fun x9 => (Option.bind (Option.bind (some x9) fun x10 => Option.bind (Option.bind (some (0 : Int)) fun x11 => Option.bind (some ()) fun x12 => some (x11, x12)) fun x13 => some (x10, x13)) fun x14 => n_is_integer ((Prod.fst x14) : PyData) ((Prod.fst (Prod.snd x14)) : Int) ((none : (Option Int)) : (Option Int)))) else none) fun x15 => allB x15) fun x17 => some !x17))) fun x20 => if x20 = true then (Option.bind (some false) fun x21 => some x21) else (Option.bind (Option.bind (Option.bind (some a1) fun x22 => srtAC x22) fun x24 => Option.bind (Option.bind (some a0) fun x23 => rg1 x23) fun x25 => eqN x24 x25) fun x26 => some x26))
theorem V_is_each_once (a0 : Int) (a1 : PyData) : Fun F_is_each_once (n_is_each_once a0 a1) [.fz (enc a0), .fz (enc a1)] (fun r : (Bool) => .fz (enc (r : Bool))) fun r => [.no, .no] :=
  fun_of (ΓR := fun r => [.aa, .aa, .aa]) (show Bl B_is_each_once _ _ _ from (bl_ga [.eq (.fz (enc (a0 : Int))), .eq (.fz (enc (a1 : PyData))), .eq .no] (by kernel_rfl) (bl_if (k := fun x20 => x20) ((ts_or (ts_not (ts_truB (((pu1A (Nv.op_isi (T := "list")) (((pu_var 1 rfl)).rd).ra)).rd).ra)) (ts_or (ts_tst (pu2A Nv.op_ne (((pu1A Nv.op_lenA (((pu_var 1 rfl)).rd).ra)).rd).ra (((pu_var 0 rfl)).rd).ra)) (ts_not (ts_truB (((pu1A Nv.op_all ((((pu_lc (vs := [2]) (ip_seqA ((pu_var 1 rfl)).tkP) rfl rfl (fun x8 x9 => tg_n) (fun x8 x9 => (ts_ga [.eq (.fz (enc (a0 : Int))), .eq (.fz (enc (a1 : PyData))), .eq (.fz (enc (x9 : PyData)))] (by kernel_rfl) ts_ok)) fun x8 x9 => (pu_ga [.eq (.fz (enc (a0 : Int))), .eq (.fz (enc (a1 : PyData))), .eq (.fz (enc (x9 : PyData)))] (by kernel_rfl) ((pu_call (ap_cons ((pu_var 2 rfl)).tkP (ap_cons pu_c ap_nil)) (fun x14 => V_is_integer ((Prod.fst x14) : PyData) ((Prod.fst (Prod.snd x14)) : Int) ((none : (Option Int)) : (Option Int))))).tkP))).rdT ow_tree)).ra)).rd).ra))))).te' (fun x20 => (bl_retS (bl_retV (pu_c).ev fun x21 => (rf_eq rfl (.cons .aa (.cons .aa (.cons .aa .nil))))))) fun x20 => (bl_next (bl_retV ((pu2A Nv.op_eq ((((pu1 Nv.op_srtAC ((pu_var 1 rfl)).rd)).rdT ow_tree)).ra ((((pu1 Nv.op_rg1 ((pu_var 0 rfl)).rd)).rdT ow_tree)).ra)).ev fun x26 => (rf_eq rfl (.cons .aa (.cons .aa (.cons .aa .nil)))))))))
end P
namespace P
open PySem PySem.Spec PyProof.Rows L2 Hb Nv
open Enc (enc)
def B_are_each_once : List Sl → Ot :=
    oRet (sAndV (s1 (gIsi "list") (sVar 1)) (sAndV (s2 gLe (s1 (gRd lenD) (sVar 1)) (sC (.int 40))) (s1 (gRd (overB fun ns => some (.bool (ns.all id)))) (sLc false (wSeq (sVar 1)) [2] (tgN 2) (tOk) (sTk (sCall F_is_each_once [] (rCons (sTk (sVar 0)) (rCons (sTk (sVar 2)) (rNil)))))))))
def F_are_each_once : List Sl → FR := fnRun 2 3 [] B_are_each_once
def n_are_each_once (a0 : Int) (a1 : PyData) : Option (Bool) :=
    (Option.bind (Option.bind (Option.bind (some a1) fun x1 => isiN "list" x1) fun x15 => if x15 = true then (Option.bind (Option.bind (Option.bind (some a1) fun x2 => lenA x2) fun x3 => Option.bind (some (40 : Int)) fun x4 => leI x3 x4) fun x14 => if x14 = true then (Option.bind (Option.bind (Option.bind (some a1) fun x5 => seqA x5) fun x6 => if List.length (x6) ≤ cap then mapF x6 (fun x7 => (some true)) (fun x7 => (Option.bind (Option.bind (some a0) fun x8 => Option.bind (Option.bind (some x7) fun x9 => Option.bind (some ()) fun x10 => some (x9, x10)) fun x11 => some (x8, x11)) fun x12 => n_is_each_once ((Prod.fst x12) : Int) ((Prod.fst (Prod.snd x12)) : PyData))) else none) fun x13 => allB x13) else some false) else some false) fun x16 => some x16)
theorem V_are_each_once (a0 : Int) (a1 : PyData) : Fun F_are_each_once (n_are_each_once a0 a1) [.fz (enc a0), .fz (enc a1)] (fun r : (Bool) => .fz (enc (r : Bool))) fun r => [.no, .no] :=
  fun_of (ΓR := fun r => [.aa, .aa, .aa]) (show Bl B_are_each_once _ _ _ from (bl_ga [.eq (.fz (enc (a0 : Int))), .eq (.fz (enc (a1 : PyData))), .eq .no] (by kernel_rfl) (bl_retV ((pu_andV (pu1A (Nv.op_isi (T := "list")) (((pu_var 1 rfl)).rd).ra) (pu_andV (pu2 Nv.op_le ((pu1A Nv.op_lenA (((pu_var 1 rfl)).rd).ra)).rd (pu_c).rd) (pu1A Nv.op_all ((((pu_lc (vs := [2]) (ip_seqA ((pu_var 1 rfl)).tkP) rfl rfl (fun x6 x7 => tg_n) (fun x6 x7 => (ts_ga [.eq (.fz (enc (a0 : Int))), .eq (.fz (enc (a1 : PyData))), .eq (.fz (enc (x7 : PyData)))] (by kernel_rfl) ts_ok)) fun x6 x7 => (pu_ga [.eq (.fz (enc (a0 : Int))), .eq (.fz (enc (a1 : PyData))), .eq (.fz (enc (x7 : PyData)))] (by kernel_rfl) ((pu_call (ap_cons ((pu_var 0 rfl)).tkP (ap_cons ((pu_var 2 rfl)).tkP ap_nil)) (fun x12 => V_is_each_once ((Prod.fst x12) : Int) ((Prod.fst (Prod.snd x12)) : PyData)))).tkP))).rdT ow_tree)).ra)))).ev fun x16 => (rf_eq rfl (.cons .aa (.cons .aa (.cons .aa .nil)))))))
end P
namespace P
open PySem PySem.Spec PyProof.Rows L2 Hb Nv
open Enc (enc)
def B_need_ballots : List Sl → Ot :=
    oIf (sNot (sTru (sCall F_are_each_once [] (rCons (sTk (sVar 0)) (rCons (sTk (sVar 1)) (rNil)))))) (oRaise "InvalidBallots") (oNext)
def F_need_ballots : List Sl → FR := fnRun 2 2 [] B_need_ballots
def n_need_ballots (a0 : Int) (a1 : PyData) : Option (Unit) :=
    (Option.bind (Option.bind (Option.bind (Option.bind (some a0) fun x1 => Option.bind (Option.bind (some a1) fun x2 => Option.bind (some ()) fun x3 => some (x2, x3)) fun x4 => some (x1, x4)) fun x5 => n_are_each_once ((Prod.fst x5) : Int) ((Prod.fst (Prod.snd x5)) : PyData)) fun x7 => some !x7) fun x8 => if x8 = true then none else some ())
theorem V_need_ballots (a0 : Int) (a1 : PyData) : Fun F_need_ballots (n_need_ballots a0 a1) [.fz (enc a0), .fz (enc a1)] (fun r : (Unit) => .fz (enc (r : Unit))) fun r => [.no, .no] :=
  fun_of (ΓR := fun r => [.aa, .aa]) (show Bl B_need_ballots _ _ _ from (bl_ga [.eq (.fz (enc (a0 : Int))), .eq (.fz (enc (a1 : PyData)))] (by kernel_rfl) (bl_last (bl_if (k := fun x8 => x8) ((ts_not (ts_truB (((pu_call (ap_cons ((pu_var 0 rfl)).tkP (ap_cons ((pu_var 1 rfl)).tkP ap_nil)) (fun x5 => V_are_each_once ((Prod.fst x5) : Int) ((Prod.fst (Prod.snd x5)) : PyData)))).rd).ra))).te' (fun x8 => bl_bad) fun x8 => (bl_next (bl_end (rf_nx rfl (.cons .aa (.cons .aa .nil)))))))))
def x_need_ballots (a0 : Int) (a1 : PyData) : Option Str :=
    (Option.bind (Option.bind (Option.bind (Option.bind (some a0) fun x9 => Option.bind (Option.bind (some a1) fun x10 => Option.bind (some ()) fun x11 => some (x10, x11)) fun x12 => some (x9, x12)) fun x13 => n_are_each_once ((Prod.fst x13) : Int) ((Prod.fst (Prod.snd x13)) : PyData)) fun x15 => some !x15) fun x16 => if x16 = true then (some ("InvalidBallots" : Str)) else none)
theorem X_need_ballots (a0 : Int) (a1 : PyData) : FunX F_need_ballots (x_need_ballots a0 a1) [.fz (enc a0), .fz (enc a1)] :=
  funx_eq (Γx := [.aa, .aa]) (show Bl B_need_ballots _ _ _ from (bl_ga [.eq (.fz (enc (a0 : Int))), .eq (.fz (enc (a1 : PyData)))] (by kernel_rfl) (bl_last (bl_if (k := fun x16 => x16) ((ts_not (ts_truB (((pu_call (ap_cons ((pu_var 0 rfl)).tkP (ap_cons ((pu_var 1 rfl)).tkP ap_nil)) (fun x13 => V_are_each_once ((Prod.fst x13) : Int) ((Prod.fst (Prod.snd x13)) : PyData)))).rd).ra))).te' (fun x16 => (bl_raiseS (.cons .aa (.cons .aa .nil)))) fun x16 => (bl_next bl_bad)))))
end P
namespace P
open PySem PySem.Spec PyProof.Rows L2 Hb Nv
open Enc (enc)
def B_need_set : List Sl → Ot :=
    oSeq (oDrop (sCall F_need_count [] (rCons (sTk (sVar 0)) (rCons (sTk (sVar 2)) (rNil)))))
    (oDrop (sCall F_need_ballots [] (rCons (sTk (sVar 0)) (rCons (sTk (sVar 1)) (rNil)))))
def F_need_set : List Sl → FR := fnRun 3 3 [] B_need_set
def n_need_set (a0 : Int) (a1 : PyData) (a2 : Int) : Option (Unit) :=
    (Option.bind (Option.bind (Option.bind (some a0) fun x1 => Option.bind (Option.bind (some a2) fun x2 => Option.bind (some ()) fun x3 => some (x2, x3)) fun x4 => some (x1, x4)) fun x5 => n_need_count ((enc ((Prod.fst x5) : Int)) : PyData) ((Prod.fst (Prod.snd x5)) : Int)) fun x6 => (Option.bind (Option.bind (Option.bind (some a0) fun x7 => Option.bind (Option.bind (some a1) fun x8 => Option.bind (some ()) fun x9 => some (x8, x9)) fun x10 => some (x7, x10)) fun x11 => n_need_ballots ((Prod.fst x11) : Int) ((Prod.fst (Prod.snd x11)) : PyData)) fun x12 => some ()))
theorem V_need_set (a0 : Int) (a1 : PyData) (a2 : Int) : Fun F_need_set (n_need_set a0 a1 a2) [.fz (enc a0), .fz (enc a1), .fz (enc a2)] (fun r : (Unit) => .fz (enc (r : Unit))) fun r => [.no, .no, .no] :=
  fun_of (ΓR := fun r => [.aa, .aa, .aa]) (show Bl B_need_set _ _ _ from (bl_ga [.eq (.fz (enc (a0 : Int))), .eq (.fz (enc (a1 : PyData))), .eq (.fz (enc (a2 : Int)))] (by kernel_rfl) (bl_expr ((pu_call (ap_cons ((pu_var 0 rfl)).tkP (ap_cons ((pu_var 2 rfl)).tkP ap_nil)) (fun x5 => V_need_count ((enc ((Prod.fst x5) : Int)) : PyData) ((Prod.fst (Prod.snd x5)) : Int)))).ev fun x6 => (bl_ga [.eq (.fz (enc (a0 : Int))), .eq (.fz (enc (a1 : PyData))), .eq (.fz (enc (a2 : Int)))] (by kernel_rfl) (bl_last (bl_expr ((pu_call (ap_cons ((pu_var 0 rfl)).tkP (ap_cons ((pu_var 1 rfl)).tkP ap_nil)) (fun x11 => V_need_ballots ((Prod.fst x11) : Int) ((Prod.fst (Prod.snd x11)) : PyData)))).ev fun x12 => (bl_ga [.eq (.fz (enc (a0 : Int))), .eq (.fz (enc (a1 : PyData))), .eq (.fz (enc (a2 : Int)))] (by kernel_rfl) (bl_end (rf_nx rfl (.cons .aa (.cons .aa (.cons .aa .nil))))))))))))
def x_need_set (a0 : Int) (a1 : PyData) (a2 : Int) : Option Str :=
    (Option.or (Option.bind (Option.bind (some a0) fun x13 => Option.bind (Option.bind (some a2) fun x14 => Option.bind (some ()) fun x15 => some (x14, x15)) fun x16 => some (x13, x16)) fun x17 => x_need_count ((enc ((Prod.fst x17) : Int)) : PyData) ((Prod.fst (Prod.snd x17)) : Int)) (Option.bind (Option.bind (Option.bind (some a0) fun x18 => Option.bind (Option.bind (some a2) fun x19 => Option.bind (some ()) fun x20 => some (x19, x20)) fun x21 => some (x18, x21)) fun x22 => n_need_count ((enc ((Prod.fst x22) : Int)) : PyData) ((Prod.fst (Prod.snd x22)) : Int)) fun x23 => (Option.or (Option.bind (Option.bind (some a0) fun x24 => Option.bind (Option.bind (some a1) fun x25 => Option.bind (some ()) fun x26 => some (x25, x26)) fun x27 => some (x24, x27)) fun x28 => x_need_ballots ((Prod.fst x28) : Int) ((Prod.fst (Prod.snd x28)) : PyData)) (Option.bind (Option.bind (Option.bind (some a0) fun x29 => Option.bind (Option.bind (some a1) fun x30 => Option.bind (some ()) fun x31 => some (x30, x31)) fun x32 => some (x29, x32)) fun x33 => n_need_ballots ((Prod.fst x33) : Int) ((Prod.fst (Prod.snd x33)) : PyData)) fun x34 => none))))
theorem X_need_set (a0 : Int) (a1 : PyData) (a2 : Int) : FunX F_need_set (x_need_set a0 a1 a2) [.fz (enc a0), .fz (enc a1), .fz (enc a2)] :=
  funx_eq (Γx := [.aa, .aa, .aa]) (show Bl B_need_set _ _ _ from (bl_ga [.eq (.fz (enc (a0 : Int))), .eq (.fz (enc (a1 : PyData))), .eq (.fz (enc (a2 : Int)))] (by kernel_rfl) (bl_xor (bl_exprX (xe_call (ap_cons ((pu_var 0 rfl)).tkP (ap_cons ((pu_var 2 rfl)).tkP ap_nil)) (fun x17 => X_need_count ((enc ((Prod.fst x17) : Int)) : PyData) ((Prod.fst (Prod.snd x17)) : Int)) (.cons .aa (.cons .aa (.cons .aa .nil))))) (bl_expr ((pu_call (ap_cons ((pu_var 0 rfl)).tkP (ap_cons ((pu_var 2 rfl)).tkP ap_nil)) (fun x22 => V_need_count ((enc ((Prod.fst x22) : Int)) : PyData) ((Prod.fst (Prod.snd x22)) : Int)))).ev fun x23 => (bl_ga [.eq (.fz (enc (a0 : Int))), .eq (.fz (enc (a1 : PyData))), .eq (.fz (enc (a2 : Int)))] (by kernel_rfl) (bl_last (bl_xor (bl_exprX (xe_call (ap_cons ((pu_var 0 rfl)).tkP (ap_cons ((pu_var 1 rfl)).tkP ap_nil)) (fun x28 => X_need_ballots ((Prod.fst x28) : Int) ((Prod.fst (Prod.snd x28)) : PyData)) (.cons .aa (.cons .aa (.cons .aa .nil))))) (bl_expr ((pu_call (ap_cons ((pu_var 0 rfl)).tkP (ap_cons ((pu_var 1 rfl)).tkP ap_nil)) (fun x33 => V_need_ballots ((Prod.fst x33) : Int) ((Prod.fst (Prod.snd x33)) : PyData)))).ev fun x34 => (bl_ga [.eq (.fz (enc (a0 : Int))), .eq (.fz (enc (a1 : PyData))), .eq (.fz (enc (a2 : Int)))] (by kernel_rfl) bl_bad)))))))))
end P
namespace P
open PySem PySem.Spec PyProof.Rows L2 Hb Nv
open Enc (enc)
def B_need_voters : List Sl → Ot :=
    oSeq (oIf (sOr (sNot (sTru (s1 (gIsi "list") (sVar 1)))) (sTst (s2 gNe (s1 (gRd lenD) (sVar 1)) (s1 (gRd lenD) (sVar 0))))) (oRaise "InvalidVoters") (oNext))
    (oIf (sNot (sTru (s1 (gRd (overB fun ns => some (.bool (ns.all id)))) (sLc false (wSeq (sVar 1)) [2] (tgN 2) (tOk) (sTk (sCall F_is_integer [] (rCons (sTk (sVar 2)) (rCons (sC (.int 0)) (rCons (sTk (sC (.int 1000000000000000000000000000000))) (rNil)))))))))) (oRaise "InvalidVoters") (oNext))
def F_need_voters : List Sl → FR := fnRun 2 3 [] B_need_voters
def n_need_voters (a0 : (List (List Int))) (a1 : PyData) : Option (Unit) :=
    (Option.bind (Option.bind (Option.bind (Option.bind (some a1) fun x1 => isiN "list" x1) fun x3 => some !x3) fun x8 => if x8 = true then some true else (Option.bind (Option.bind (some a1) fun x4 => lenA x4) fun x6 => Option.bind (Option.bind (some a0) fun x5 => lenL x5) fun x7 => neN x6 x7)) fun x9 => if x9 = true then none else (Option.bind (Option.bind (Option.bind (Option.bind (Option.bind (some a1) fun x10 => seqA x10) fun x11 => if List.length (x11) ≤ cap then mapF x11 (fun x12 => (some true)) (fun x12 => (Option.bind (Option.bind (some x12) fun x13 => Option.bind (Option.bind (some (0 : Int)) fun x14 => Option.bind (Option.bind (some (1000000000000000000000000000000 : Int)) fun x15 => Option.bind (some ()) fun x16 => some (x15, x16)) fun x17 => some (x14, x17)) fun x18 => some (x13, x18)) fun x19 => n_is_integer ((Prod.fst x19) : PyData) ((Prod.fst (Prod.snd x19)) : Int) ((some (Prod.fst (Prod.snd (Prod.snd x19)))) : (Option Int)))) else none) fun x20 => allB x20) fun x22 => some !x22) fun x23 => if x23 = true then none else some ()))
theorem V_need_voters (a0 : (List (List Int))) (a1 : PyData) : Fun F_need_voters (n_need_voters a0 a1) [.fz (enc a0), .fz (enc a1)] (fun r : (Unit) => .fz (enc (r : Unit))) fun r => [.no, .no] :=
  fun_of (ΓR := fun r => [.aa, .aa, .aa]) (show Bl B_need_voters _ _ _ from (bl_ga [.eq (.fz (enc (a0 : (List (List Int))))), .eq (.fz (enc (a1 : PyData))), .eq .no] (by kernel_rfl) (bl_if (k := fun x9 => x9) ((ts_or (ts_not (ts_truB (((pu1A (Nv.op_isi (T := "list")) (((pu_var 1 rfl)).rd).ra)).rd).ra)) (ts_tst (pu2A Nv.op_ne (((pu1A Nv.op_lenA (((pu_var 1 rfl)).rd).ra)).rd).ra (((pu1A Nv.op_len (((pu_var 0 rfl)).rd).ra)).rd).ra)))).te' (fun x9 => bl_bad) fun x9 => (bl_next (bl_last (bl_if (k := fun x23 => x23) ((ts_not (ts_truB (((pu1A Nv.op_all ((((pu_lc (vs := [2]) (ip_seqA ((pu_var 1 rfl)).tkP) rfl rfl (fun x11 x12 => tg_n) (fun x11 x12 => (ts_ga [.eq (.fz (enc (a0 : (List (List Int))))), .eq (.fz (enc (a1 : PyData))), .eq (.fz (enc (x12 : PyData)))] (by kernel_rfl) ts_ok)) fun x11 x12 => (pu_ga [.eq (.fz (enc (a0 : (List (List Int))))), .eq (.fz (enc (a1 : PyData))), .eq (.fz (enc (x12 : PyData)))] (by kernel_rfl) ((pu_call (ap_cons ((pu_var 2 rfl)).tkP (ap_cons pu_c (ap_cons (pu_c).tkP ap_nil))) (fun x19 => V_is_integer ((Prod.fst x19) : PyData) ((Prod.fst (Prod.snd x19)) : Int) ((some (Prod.fst (Prod.snd (Prod.snd x19)))) : (Option Int))))).tkP))).rdT ow_tree)).ra)).rd).ra))).te' (fun x23 => bl_bad) fun x23 => (bl_next (bl_end (rf_nx rfl (.cons .aa (.cons .aa (.cons .aa .nil))))))))))))
def x_need_voters (a0 : (List (List Int))) (a1 : PyData) : Option Str :=
    (Option.bind (Option.bind (Option.bind (Option.bind (some a1) fun x24 => isiN "list" x24) fun x26 => some !x26) fun x31 => if x31 = true then some true else (Option.bind (Option.bind (some a1) fun x27 => lenA x27) fun x29 => Option.bind (Option.bind (some a0) fun x28 => lenL x28) fun x30 => neN x29 x30)) fun x32 => if x32 = true then (some ("InvalidVoters" : Str)) else (Option.bind (Option.bind (Option.bind (Option.bind (Option.bind (some a1) fun x33 => seqA x33) fun x34 => if List.length (x34) ≤ cap then mapF x34 (fun x35 => (some true)) (fun x35 => (Option.bind (Option.bind (some x35) fun x36 => Option.bind (Option.bind (some (0 : Int)) fun x37 => Option.bind (Option.bind (some (1000000000000000000000000000000 : Int)) fun x38 => Option.bind (some ()) fun x39 => some (x38, x39)) fun x40 => some (x37, x40)) fun x41 => some (x36, x41)) fun x42 => n_is_integer ((Prod.fst x42) : PyData) ((Prod.fst (Prod.snd x42)) : Int) ((some (Prod.fst (Prod.snd (Prod.snd x42)))) : (Option Int)))) else none) fun x43 => allB x43) fun x45 => some !x45) fun x46 => if x46 = true then (some ("InvalidVoters" : Str)) else none))
theorem X_need_voters (a0 : (List (List Int))) (a1 : PyData) : FunX F_need_voters (x_need_voters a0 a1) [.fz (enc a0), .fz (enc a1)] :=
  funx_eq (Γx := [.aa, .aa, .aa]) (show Bl B_need_voters _ _ _ from (bl_ga [.eq (.fz (enc (a0 : (List (List Int))))), .eq (.fz (enc (a1 : PyData))), .eq .no] (by kernel_rfl) (bl_if (k := fun x32 => x32) ((ts_or (ts_not (ts_truB (((pu1A (Nv.op_isi (T := "list")) (((pu_var 1 rfl)).rd).ra)).rd).ra)) (ts_tst (pu2A Nv.op_ne (((pu1A Nv.op_lenA (((pu_var 1 rfl)).rd).ra)).rd).ra (((pu1A Nv.op_len (((pu_var 0 rfl)).rd).ra)).rd).ra)))).te' (fun x32 => (bl_raiseS (.cons .aa (.cons .aa (.cons .aa .nil))))) fun x32 => (bl_next (bl_last (bl_if (k := fun x46 => x46) ((ts_not (ts_truB (((pu1A Nv.op_all ((((pu_lc (vs := [2]) (ip_seqA ((pu_var 1 rfl)).tkP) rfl rfl (fun x34 x35 => tg_n) (fun x34 x35 => (ts_ga [.eq (.fz (enc (a0 : (List (List Int))))), .eq (.fz (enc (a1 : PyData))), .eq (.fz (enc (x35 : PyData)))] (by kernel_rfl) ts_ok)) fun x34 x35 => (pu_ga [.eq (.fz (enc (a0 : (List (List Int))))), .eq (.fz (enc (a1 : PyData))), .eq (.fz (enc (x35 : PyData)))] (by kernel_rfl) ((pu_call (ap_cons ((pu_var 2 rfl)).tkP (ap_cons pu_c (ap_cons (pu_c).tkP ap_nil))) (fun x42 => V_is_integer ((Prod.fst x42) : PyData) ((Prod.fst (Prod.snd x42)) : Int) ((some (Prod.fst (Prod.snd (Prod.snd x42)))) : (Option Int))))).tkP))).rdT ow_tree)).ra)).rd).ra))).te' (fun x46 => (bl_raiseS (.cons .aa (.cons .aa (.cons .aa .nil))))) fun x46 => (bl_next bl_bad)))))))
end P
namespace P
open PySem PySem.Spec PyProof.Rows L2 Hb Nv
open Enc (enc)
def B_ranks_in : List Sl → Ot :=
    oSeq (oAsg (s2 gMulX (sLst (lCons (sC (.int 0)) (lNil))) (s1 (gRd lenD) (sVar 0))) (tgN 1))
    (oSeq (oFor (wEnum (sVar 0)) (tgT 2 (tgCons (tgN 2) (tgCons (tgN 3) (tgNil)))) (oAsg (sVar 2) (tgS (sVar 1) (sVar 3))))
    (oRet (sVar 1)))
def F_ranks_in : List Sl → FR := fnRun 1 4 [] B_ranks_in
def n_ranks_in (a0 : (List Int)) : Option ((List Int)) :=
    (Option.bind (Option.bind (Option.bind (Option.bind (some (0 : Int)) fun x1 => Option.bind (some ()) fun x3 => some (x1, x3)) fun x2 => some ([(Prod.fst x2)] : (List Int))) fun x5 => Option.bind (Option.bind (some a0) fun x4 => lenL x4) fun x6 => repL x5 x6) fun x7 => (Option.bind (some a0) fun x8 => Option.bind (forS (enumL x8) (x7 : (List Int)) fun s10 x9 => (Option.bind (some (Prod.fst x9)) fun x11 => Option.bind (some (Prod.snd x9)) fun x12 => Option.bind (stI s10 x12 x11) fun x13 => some (x13 : (List Int)))) fun s10 => some s10))
theorem V_ranks_in (a0 : (List Int)) : Fun F_ranks_in (n_ranks_in a0) [.fz (enc a0)] (fun r : ((List Int)) => ow (r : (List Int))) fun r => [.no] :=
  fun_of (ΓR := fun r => [.aa, .aa, .aa, .aa]) (show Bl B_ranks_in _ _ _ from (bl_ga [.eq (.fz (enc (a0 : (List Int)))), .eq .no, .eq .no, .eq .no] (by kernel_rfl) (bl_asgT ((pu2 Nv.op_rep (((pu_lst (dp_cons (pu_c).tkP dp_nil) (fun x2 => ([(Prod.fst x2)] : (List Int))))).rdT ow_tree) ((pu1A Nv.op_len (((pu_var 0 rfl)).rd).ra)).rd)).ev fun x7 => (bl_ga [.eq (.fz (enc (a0 : (List Int)))), .eq (ow (x7 : (List Int))), .eq .no, .eq .no] (by kernel_rfl) (bl_for (vs := [2, 3]) (xs := fun x8 => (enumL x8)) (s0 := fun x8 => (x7 : (List Int))) (ΓL := fun x8 (s10 : (List Int)) => [.eq (.fz (enc (a0 : (List Int)))), .eq (ow (s10 : (List Int))), .pl, .pl]) ((ip_enum (xs := fun v => v) ((pu_var 0 rfl)).tkP)).it (fun x8 => (.cons .rfl (.cons .rfl (.cons .no (.cons .no .nil))))) (fun x8 s10 x9 => (tg_t (tgs_cons tg_n (tgs_cons tg_n tgs_nil)))) (fun x8 s10 x9 => (bl_ga [.eq (.fz (enc (a0 : (List Int)))), .eq (ow (s10 : (List Int))), .eq (.fz (enc ((Prod.fst x9) : Int))), .eq (.fz (enc ((Prod.snd x9) : Int)))] (by kernel_rfl) (bl_last (bl_set (k := 1) (va := fun x11 => x11) (xs := fun x11 => s10) ((pu_var 2 rfl)).ev (fun _ => rfl) (fun x11 => ((pu_var 3 rfl)).rd) fun x11 x13 => (bl_ga [.eq (.fz (enc (a0 : (List Int)))), .eq (ow (x13 : (List Int))), .eq (.fz (enc ((Prod.fst x9) : Int))), .eq (.fz (enc ((Prod.snd x9) : Int)))] (by kernel_rfl) (bl_end (rs_nx (.cons .rfl (.cons .rfl (.cons .fz (.cons .fz .nil))))))))))) fun x8 s10 => (bl_retO (k := 1) rfl rfl (sat_ga [.eq (.fz (enc (a0 : (List Int)))), .eq .no, .pl, .pl] (by kernel_rfl) (rf_eq rfl (.cons .aa (.cons .aa (.cons .aa (.cons .aa .nil))))))))))))
end P
namespace P
open PySem PySem.Spec PyProof.Rows L2 Hb Nv
open Enc (enc)
def B_pairs_turned : List Sl → Ot :=
    oSeq (oPar [3, 4, 5] (rCons (sTk (sCall F_ranks_in [] (rCons (sTk (sVar 0)) (rNil)))) (rCons (sTk (sCall F_ranks_in [] (rCons (sTk (sVar 1)) (rNil)))) (rCons (sLst (lNil)) (rNil)))))
    (oSeq (oFor (wRng1 (s1 (gRd lenD) (sVar 0))) (tgN 2) (oFor (wRng2 (s2 gAdd (sVar 2) (sC (.int 1))) (s1 (gRd lenD) (sVar 0))) (tgN 6) (oIf (sTst (s2 gNe (s2 gLt (s2 gIx2 (sVar 3) (sVar 2)) (s2 gIx2 (sVar 3) (sVar 6))) (s2 gLt (s2 gIx2 (sVar 4) (sVar 2)) (s2 gIx2 (sVar 4) (sVar 6))))) (oDrop (sApp (sVar 5) (sTup (lCons (sVar 2) (lCons (sVar 6) (lNil)))))) (oNext))))
    (oRet (sVar 5)))
def F_pairs_turned : List Sl → FR := fnRun 2 7 [] B_pairs_turned
def n_pairs_turned (a0 : (List Int)) (a1 : (List Int)) : Option ((List (Int × Int))) :=
    (Option.bind (Option.bind (Option.bind (Option.bind (some a0) fun x1 => Option.bind (some ()) fun x2 => some (x1, x2)) fun x3 => n_ranks_in ((Prod.fst x3) : (List Int))) fun x4 => Option.bind (Option.bind (Option.bind (Option.bind (some a1) fun x5 => Option.bind (some ()) fun x6 => some (x5, x6)) fun x7 => n_ranks_in ((Prod.fst x7) : (List Int))) fun x8 => Option.bind (Option.bind (some []) fun x9 => Option.bind (some ()) fun x10 => some (x9, x10)) fun x11 => some (x8, x11)) fun x12 => some (x4, x12)) fun x13 => (Option.bind (Option.bind (Option.bind (some a0) fun x14 => lenL x14) fun x15 => ri1 x15) fun x16 => Option.bind (forS x16 ((Prod.fst (Prod.snd (Prod.snd x13))) : (List (Int × Int))) fun s18 x17 => (Option.bind (Option.bind (Option.bind (some x17) fun x19 => Option.bind (some (1 : Int)) fun x20 => addI x19 x20) fun x22 => Option.bind (Option.bind (some a0) fun x21 => lenL x21) fun x23 => ri2 x22 x23) fun x24 => Option.bind (forS x24 (s18 : (List (Int × Int))) fun s26 x25 => (Option.bind (Option.bind (Option.bind (Option.bind (some (Prod.fst x13)) fun x27 => Option.bind (some x17) fun x28 => atL x27 x28) fun x31 => Option.bind (Option.bind (some (Prod.fst x13)) fun x29 => Option.bind (some x25) fun x30 => atL x29 x30) fun x32 => ltI x31 x32) fun x39 => Option.bind (Option.bind (Option.bind (some (Prod.fst (Prod.snd x13))) fun x33 => Option.bind (some x17) fun x34 => atL x33 x34) fun x37 => Option.bind (Option.bind (some (Prod.fst (Prod.snd x13))) fun x35 => Option.bind (some x25) fun x36 => atL x35 x36) fun x38 => ltI x37 x38) fun x40 => neN x39 x40) fun x41 => if x41 = true then (Option.bind (Option.bind (Option.bind (Option.bind (some x17) fun x42 => Option.bind (Option.bind (some x25) fun x43 => Option.bind (some ()) fun x45 => some (x43, x45)) fun x46 => some (x42, x46)) fun x44 => some (((Prod.fst x44), (Prod.fst (Prod.snd x44))) : (Int × Int))) fun x47 => Option.bind (apL s26 x47) fun x48 => some (x48, x47)) fun x49 => some ((Prod.fst x49) : (List (Int × Int)))) else some (s26 : (List (Int × Int))))) fun s26 => some (s26 : (List (Int × Int))))) fun s18 => some s18))
theorem V_pairs_turned (a0 : (List Int)) (a1 : (List Int)) : Fun F_pairs_turned (n_pairs_turned a0 a1) [.fz (enc a0), .fz (enc a1)] (fun r : ((List (Int × Int))) => ow (r : (List (Int × Int)))) fun r => [.no, .no] :=
  fun_of (ΓR := fun r => [.aa, .aa, .aa, .aa, .aa, .aa, .aa]) (show Bl B_pairs_turned _ _ _ from (bl_ga [.eq (.fz (enc (a0 : (List Int)))), .eq (.fz (enc (a1 : (List Int)))), .eq .no, .eq .no, .eq .no, .eq .no, .eq .no] (by kernel_rfl) (bl_par (ag_cons ((((pu_call (ap_cons ((pu_var 0 rfl)).tkP ap_nil) (fun x3 => V_ranks_in ((Prod.fst x3) : (List Int))))).tkTP ow_tree)).ev fun x4 => (ag_cons ((((pu_call (ap_cons ((pu_var 1 rfl)).tkP ap_nil) (fun x7 => V_ranks_in ((Prod.fst x7) : (List Int))))).tkTP ow_tree)).ev fun x8 => (ag_cons (pu_nil).ev fun x9 => ag_nil))) fun x13 => (bl_ga [.eq (.fz (enc (a0 : (List Int)))), .eq (.fz (enc (a1 : (List Int)))), .eq .no, .eq (.fz (enc ((Prod.fst x13) : (List Int)))), .eq (.fz (enc ((Prod.fst (Prod.snd x13)) : (List Int)))), .eq (ow ((Prod.fst (Prod.snd (Prod.snd x13))) : (List (Int × Int)))), .eq .no] (by kernel_rfl) (bl_for (vs := [2]) (xs := fun x16 => x16) (s0 := fun x16 => ((Prod.fst (Prod.snd (Prod.snd x13))) : (List (Int × Int)))) (ΓL := fun x16 (s18 : (List (Int × Int))) => [.eq (.fz (enc (a0 : (List Int)))), .eq (.fz (enc (a1 : (List Int)))), .pl, .eq (.fz (enc ((Prod.fst x13) : (List Int)))), .eq (.fz (enc ((Prod.fst (Prod.snd x13)) : (List Int)))), .eq (ow (s18 : (List (Int × Int)))), .pl]) ((ip_rng1 ((pu1A Nv.op_len (((pu_var 0 rfl)).rd).ra)).tkP)).it (fun x16 => (.cons .rfl (.cons .rfl (.cons .no (.cons .rfl (.cons .rfl (.cons .rfl (.cons .no .nil)))))))) (fun x16 s18 x17 => tg_n) (fun x16 s18 x17 => (bl_ga [.eq (.fz (enc (a0 : (List Int)))), .eq (.fz (enc (a1 : (List Int)))), .eq (.fz (enc (x17 : Int))), .eq (.fz (enc ((Prod.fst x13) : (List Int)))), .eq (.fz (enc ((Prod.fst (Prod.snd x13)) : (List Int)))), .eq (ow (s18 : (List (Int × Int)))), .pl] (by kernel_rfl) (bl_last (bl_for (vs := [6]) (xs := fun x24 => x24) (s0 := fun x24 => (s18 : (List (Int × Int)))) (ΓL := fun x24 (s26 : (List (Int × Int))) => [.eq (.fz (enc (a0 : (List Int)))), .eq (.fz (enc (a1 : (List Int)))), .eq (.fz (enc (x17 : Int))), .eq (.fz (enc ((Prod.fst x13) : (List Int)))), .eq (.fz (enc ((Prod.fst (Prod.snd x13)) : (List Int)))), .eq (ow (s26 : (List (Int × Int)))), .pl]) ((ip_rng2 ((pu2 Nv.op_add ((pu_var 2 rfl)).rd (pu_c).rd)).tkP ((pu1A Nv.op_len (((pu_var 0 rfl)).rd).ra)).tkP)).it (fun x24 => (.cons .rfl (.cons .rfl (.cons .rfl (.cons .rfl (.cons .rfl (.cons .rfl (.cons .rfl .nil)))))))) (fun x24 s26 x25 => tg_n) (fun x24 s26 x25 => (bl_ga [.eq (.fz (enc (a0 : (List Int)))), .eq (.fz (enc (a1 : (List Int)))), .eq (.fz (enc (x17 : Int))), .eq (.fz (enc ((Prod.fst x13) : (List Int)))), .eq (.fz (enc ((Prod.fst (Prod.snd x13)) : (List Int)))), .eq (ow (s26 : (List (Int × Int)))), .eq (.fz (enc (x25 : Int)))] (by kernel_rfl) (bl_last (bl_if (k := fun x41 => x41) ((ts_tst (pu2A Nv.op_ne (((pu2 Nv.op_lt ((pu2 Nv.op_ix2 ((pu_var 3 rfl)).rd ((pu_var 2 rfl)).rd)).rd ((pu2 Nv.op_ix2 ((pu_var 3 rfl)).rd ((pu_var 6 rfl)).rd)).rd)).rd).ra (((pu2 Nv.op_lt ((pu2 Nv.op_ix2 ((pu_var 4 rfl)).rd ((pu_var 2 rfl)).rd)).rd ((pu2 Nv.op_ix2 ((pu_var 4 rfl)).rd ((pu_var 6 rfl)).rd)).rd)).rd).ra))).te' (fun x41 => (bl_expr (ev_app (k := 5) (va := fun x47 => x47) (xs := fun x47 => s26) rfl rfl (((pu_tup (dp_cons ((pu_var 2 rfl)).tkP (dp_cons ((pu_var 6 rfl)).tkP dp_nil)) (fun x44 => (((Prod.fst x44), (Prod.fst (Prod.snd x44))) : (Int × Int))))).tkP).ev fun _ => rfl) fun x49 => (bl_ga [.eq (.fz (enc (a0 : (List Int)))), .eq (.fz (enc (a1 : (List Int)))), .eq (.fz (enc (x17 : Int))), .eq (.fz (enc ((Prod.fst x13) : (List Int)))), .eq (.fz (enc ((Prod.fst (Prod.snd x13)) : (List Int)))), .eq (ow ((Prod.fst x49) : (List (Int × Int)))), .eq (.fz (enc (x25 : Int)))] (by kernel_rfl) (bl_end (rs_nx (.cons .rfl (.cons .rfl (.cons .rfl (.cons .rfl (.cons .rfl (.cons .rfl (.cons .fz .nil)))))))))))) fun x41 => (bl_next (bl_end (rs_nx (.cons .rfl (.cons .rfl (.cons .rfl (.cons .rfl (.cons .rfl (.cons .rfl (.cons .fz .nil)))))))))))))) fun x24 s26 => (bl_end (rs_nx (.cons .rfl (.cons .rfl (.cons .fz (.cons .rfl (.cons .rfl (.cons .rfl (.cons .rfl .nil))))))))))))) fun x16 s18 => (bl_retO (k := 5) rfl rfl (sat_ga [.eq (.fz (enc (a0 : (List Int)))), .eq (.fz (enc (a1 : (List Int)))), .pl, .eq (.fz (enc ((Prod.fst x13) : (List Int)))), .eq (.fz (enc ((Prod.fst (Prod.snd x13)) : (List Int)))), .eq .no, .pl] (by kernel_rfl) (rf_eq rfl (.cons .aa (.cons .aa (.cons .aa (.cons .aa (.cons .aa (.cons .aa (.cons .aa .nil)))))))))))))))
end P
namespace P
open PySem PySem.Spec PyProof.Rows L2 Hb Nv
open Enc (enc)
def B_far_from : List Sl → Ot :=
    oRet (sLc false (wSeq (sVar 0)) [2] (tgN 2) (tOk) (sTk (s1 (gRd lenD) (sCall F_pairs_turned [] (rCons (sTk (sVar 1)) (rCons (sTk (sVar 2)) (rNil)))))))
def F_far_from : List Sl → FR := fnRun 2 3 [] B_far_from
def n_far_from (a0 : (List (List Int))) (a1 : (List Int)) : Option ((List Int)) :=
    (Option.bind (Option.bind (some a0) fun x1 => if List.length (x1) ≤ cap then mapF x1 (fun x2 => (some true)) (fun x2 => (Option.bind (Option.bind (Option.bind (some a1) fun x3 => Option.bind (Option.bind (some x2) fun x4 => Option.bind (some ()) fun x5 => some (x4, x5)) fun x6 => some (x3, x6)) fun x7 => n_pairs_turned ((Prod.fst x7) : (List Int)) ((Prod.fst (Prod.snd x7)) : (List Int))) fun x8 => lenL x8)) else none) fun x9 => some x9)
theorem V_far_from (a0 : (List (List Int))) (a1 : (List Int)) : Fun F_far_from (n_far_from a0 a1) [.fz (enc a0), .fz (enc a1)] (fun r : ((List Int)) => ow (r : (List Int))) fun r => [.no, .no] :=
  fun_of (ΓR := fun r => [.aa, .aa, .aa]) (show Bl B_far_from _ _ _ from (bl_ga [.eq (.fz (enc (a0 : (List (List Int))))), .eq (.fz (enc (a1 : (List Int)))), .eq .no] (by kernel_rfl) (bl_retT ((pu_lc (vs := [2]) (ip_seq (xs := fun v => v) ((pu_var 0 rfl)).tkP) rfl rfl (fun x1 x2 => tg_n) (fun x1 x2 => (ts_ga [.eq (.fz (enc (a0 : (List (List Int))))), .eq (.fz (enc (a1 : (List Int)))), .eq (.fz (enc (x2 : (List Int))))] (by kernel_rfl) ts_ok)) fun x1 x2 => (pu_ga [.eq (.fz (enc (a0 : (List (List Int))))), .eq (.fz (enc (a1 : (List Int)))), .eq (.fz (enc (x2 : (List Int))))] (by kernel_rfl) ((pu1A Nv.op_len ((((pu_call (ap_cons ((pu_var 1 rfl)).tkP (ap_cons ((pu_var 2 rfl)).tkP ap_nil)) (fun x7 => V_pairs_turned ((Prod.fst x7) : (List Int)) ((Prod.fst (Prod.snd x7)) : (List Int))))).rdT ow_tree)).ra)).tkP))).ev fun x9 => (rf_eq rfl (.cons .aa (.cons .aa (.cons .aa .nil)))))))
end P
namespace Hb
open PySem PySem.Spec PyProof.Rows L2
end Hb
namespace Nv
open PySem Hb L2
open Enc (enc)
section
variable {α β γ ε ρ ζ : Type} {f g : List Sl → Rs AV} {Γ : Ga}
def owO [Enc α] (v : Option (List α)) : Sl := match v with
  | none => .fz .none
  | some xs => ow xs
theorem tk_callM {F : List Sl → FR} {dd : List PyData} {q : Option β} {as : β → List Ar} {n : β → Option ρ} {ins : β → List Sl} {d : ρ → PyData} {out : ρ → List Sl} {g : List Sl → Rs (List Ar)} (hg : AgP g Γ q as) (hF : ∀ v, FunM F (n v) (ins v) d out) (hi : ∀ v, insOf (as v ++ dd.map .fz) = some (ins v) := by intro _; rfl) : Pu (sTk (sCall F dd g)) Γ (q.bind n) fun r => .val (d r) := fun r e δ s => by
  obtain ⟨v, e1, e⟩ := bind_of e
  obtain ⟨t, hF1, hF2⟩ := hF v r e
  have h1 : sCall F dd g δ = .ok (AV.ofSl t) δ := by
    unfold sCall
    rw [hg v e1 δ s]
    exact callF_pure (hi v) hF1
  have h4 := tr_tree hF2
  have h5 : sSt (sCall F dd g) δ = .ok (.val (d r)) δ := by
    cases t with
    | fz d' => cases h4; exact sSt_val h1
    | ol xs => exact sSt_tmp h1 h4
    | od x => exact sSt_tmp h1 h4
    | no => cases h4
    | al x j => cases h4
  unfold sTk
  rw [h5]
end
section
variable {α β γ ε ρ ζ : Type} {f : List Sl → Rs AV} {g A u : List Sl → Ot} {Γ Γ0 : Ga} {R : ζ → Ot → Prop}
/-- as everything stands still -/
inductive FrzQ : Ga → Ga → Prop
  | nil : FrzQ [] []
  | cons {p q : Pt} {Γ Δ : Ga} : FrzP p q → FrzQ Γ Δ → FrzQ (p :: Γ) (q :: Δ)
  | consO {α : Type} [Enc α] {v : Option (List α)} {Γ Δ : Ga} : FrzQ Γ Δ → FrzQ (.eq (owO v) :: Γ) (.eq (.fz (enc v)) :: Δ)
theorem FrzQ.sat {Γ Γ0 : Ga} (z : FrzQ Γ Γ0) : ∀ {δ : List Sl}, Sat Γ δ → ∀ δ0, Sat Γ0 (δ.map (frzS δ0)) := by
  induction z with
  | nil => intro δ h δ0; cases h; exact .nil
  | cons z _ ih => intro δ h δ0; cases h with | cons h1 h2 => exact .cons (z.ok h1 δ0) (ih h2 δ0)
  | @consO α _ v Γ Δ _ ih =>
    intro δ h δ0
    cases h with
    | cons h1 h2 =>
      refine .cons ?_ (ih h2 δ0)
      cases (show _ = owO v from h1)
      show frzS δ0 (owO v) = .fz (enc v)
      cases v with
      | none => rfl
      | some xs => exact congrArg Sl.fz (Option.some.inj (ow_tree xs))
/-- an item of x is forgotten, name by name -/
inductive DrQ (x : Nat) : Ga → Ga → Prop
  | nil : DrQ x [] []
  | cons {p : Pt} {Γ Δ : Ga} : DrQ x Γ Δ → DrQ x (p :: Γ) (dropP x p :: Δ)
  | consO {α : Type} [Enc α] {v : Option (List α)} {Γ Δ : Ga} : DrQ x Γ Δ → DrQ x (.eq (owO v) :: Γ) (.eq (owO v) :: Δ)
theorem DrQ.sat {x : Nat} {Γ Δ : Ga} (z : DrQ x Γ Δ) : ∀ {δ : List Sl}, Sat Γ δ → Sat Δ (dropAl x δ) := by
  induction z with
  | nil => intro δ h; cases h; exact .nil
  | @cons p Γ Δ _ ih =>
    intro δ h
    cases h with
    | @cons _ s _ δ' h1 h2 =>
      have h3 : Sat ([p].map (dropP x)) (dropAl x [s]) := Sat.drop (Sat.cons h1 .nil) x
      cases h3 with
      | cons h4 _ => exact .cons h4 (ih h2)
  | @consO α _ v Γ Δ _ ih =>
    intro δ h
    cases h with
    | cons h1 h2 =>
      refine .cons ?_ (ih h2)
      cases (show _ = owO v from h1)
      cases v <;> exact rfl
end
end Nv
namespace Hb
open PySem PySem.Spec PyProof.Rows L2
def clrX (xs : List Nat) (δ : List Sl) : List Sl := xs.foldl (fun δ x => upS x .no δ) δ
theorem Rl.clr {K : PySem.W.Frag} {b : Bk} {Fz : Hp} {H' : Hp} {σ' : L2.St} : ∀ {xs : List Nat} {F : Nat → List Addr} {δ : List Sl} {σ : L2.St}, Rl K b Fz F δ σ H' → (∀ x ∈ xs, x ∉ b.pin) → σ'.length = σ.length → (∀ k, k ∉ xs → σ'[k]? = σ[k]?) → ∃ F', Rl K b Fz F' (clrX xs δ) σ' H'
  | [], F, δ, σ, R, _, hl, hs => by
    have : σ' = σ := List.ext_getElem? fun k => hs k (by simp)
    subst this
    exact ⟨F, R⟩
  | x :: r, F, δ, σ, R, hp, hl, hs => by
    let σ1 : L2.St := match σ'[x]? with
      | some w => σ.set x w
      | none => σ
    have l1 : σ1.length = σ.length := by
      show (match σ'[x]? with
      | some w => σ.set x w
      | none => σ).length = _
      split
      · rw [List.length_set]
      · rfl
    have e1 : ∀ k, k ≠ x → σ1[k]? = σ[k]? := fun k hk => by
      show (match σ'[x]? with
      | some w => σ.set x w
      | none => σ)[k]? = _
      split
      · rw [List.getElem?_set_ne fun z => hk z.symm]
      · rfl
    have e2 : σ1[x]? = σ'[x]? := by
      show (match σ'[x]? with
      | some w => σ.set x w
      | none => σ)[x]? = _
      cases q : σ'[x]? with
      | none =>
        have := List.getElem?_eq_none_iff.mp q
        show σ[x]? = none
        exact List.getElem?_eq_none (by omega)
      | some w =>
        have := (List.getElem?_eq_some_iff.mp q).1
        exact List.getElem?_set_self (by omega)
    have R1 := R.put (i := x) (s := .no) (g := []) (σ' := σ1) (Same.refl _) R.le R.base l1 e1 (.inr (hp x (by simp))) (fun _ => rfl) (fun _ _ z => nomatch z) List.nodup_nil (fun _ z => nomatch z) (fun _ z => nomatch z) (fun _ z => nomatch z) (fun _ z => nomatch z) (fun _ _ _ _ => rfl) (fun k _ a ha => R.offF k a ha) (fun _ _ => rfl)
    exact Rl.clr (xs := r) R1 (fun y hy => hp y (by simp [hy])) (by omega) fun k hk => by
      by_cases c : k = x
      · subst c; exact e2.symm
      · rw [e1 k c]; exact hs k (by simp [c, hk])
end Hb
namespace Nv
open PySem Hb L2
open Enc (enc)
end Nv
namespace Hb
open PySem PySem.Spec PyProof.Rows L2
end Hb
namespace Hb
open PySem PySem.Spec PyProof.Rows L2
theorem ArOk.grow {K : PySem.W.Frag} {b : Bk} {Fz : Hp} {F : Nat → List Addr} {H H' : Hp} {σ : L2.St} {vs : List V} {ars : List Ar} {G : Nat → List Addr} (A : ArOk K b Fz F H σ vs ars G) (up : Same H H') : ArOk K b Fz F H' σ vs ars G where
  len := A.len
  at_ := fun j a e => by
    obtain ⟨v, e1, h⟩ := A.at_ j a e
    refine ⟨v, e1, ?_⟩
    cases a with
    | fz d => exact h
    | io k => exact h
    | own s =>
      obtain ⟨h1, h2⟩ := h
      refine ⟨h1, h2.keeps (Same.refl _) (fun c hc => ?_) fun x i _ c z => nomatch z⟩
      cases q : H c with
      | none => exact absurd q (A.off j c hc).2.2.1
      | some o => exact up c o q
  nd := A.nd
  dj := A.dj
  off := fun j c hc => by
    obtain ⟨h1, h2, h3, h4⟩ := A.off j c hc
    refine ⟨h1, h2, ?_, h4⟩
    cases q : H c with
    | none => exact absurd q h3
    | some o => rw [up c o q]; simp
theorem par_okT {K : PySem.W.Frag} {mg : Str → Option Value} {W : WX} {pin ks : List Nat} {g : List Sl → Rs (List Ar)} {D : Ends} {σ : L2.St} {H : Hp} (hp : ∀ k ∈ ks, k ∉ pin) : rdS K mg W pin (oPar ks g) D σ H → rdAr K mg W pin g σ H fun vs H' => vs.length = ks.length ∧ ∀ p, H' p = none → D.nx (setL σ ks vs) (upd H' p (.tup vs)) :=
  fun ⟨b, Fz, F, δ, hb, R, P⟩ => by
    refine ⟨b, Fz, F, δ, hb, R, ?_⟩
    unfold oPar at P
    cases q : g δ with
    | bad => rw [q] at P; exact P
    | er x δ' => rw [q] at P; exact PostXS.at_ P
    | ok ars δ' =>
      rw [q] at P
      simp only at P
      by_cases c : noIo ars = true
      · rw [if_pos c] at P
        intro vs H' Fz' F' G s R' A
        have key : ∀ {H2 : Hp}, Same H' H2 → Rl K b Fz' F' δ' σ H2 → vs.length = ks.length ∧ D.nx (setL σ ks vs) H2 := fun {H2} up R2 => by
          have A2 := A.grow up
          exact asgA_ok (U := fun c => ∃ k, c ∈ F' k) (by rw [hb]; exact hp) (fun k c hc => ⟨k, hc⟩) R2 (parOk_of A2.len A2.at_ A2.nd A2.dj (fun j c hc => ⟨(A2.off j c hc).1, (A2.off j c hc).2.1, (A2.off j c hc).2.2.1, fun ⟨k, z⟩ => (A2.off j c hc).2.2.2 k z⟩) c) (PostS.le s P)
        exact ⟨(key (Same.refl _) R').1, fun p n => (key (same_new n) (R'.new n _)).2⟩
      · rw [if_neg c] at P
        exact P.elim
section
variable {X : Cx} {W : WX} {pin : List Nat} {a c e : Expr} {g : List Sl → Rs (List Ar)} {pos : Pos}
theorem ss_parC2 {i j : Nat} {x y : Str} {px py pt : Pos} {kt k2 pt2} (hc : X.calm = true) (hN : X.N.Nodup) (hi : X.N[i]? = some x) (hj : X.N[j]? = some y) (hp : ∀ k ∈ [i, j], k ∉ pin) (hx : Loc X.env.scope x) (hy : Loc X.env.scope y) (ha : SAr X W pin [a, c] g)
    (fx : X.fn x = true ∨ X.env.scope.names.lookup x = some .local := by first | exact .inl rfl | exact .inr rfl | assumption) (fy : X.fn y = true ∨ X.env.scope.names.lookup y = some .local := by first | exact .inl rfl | exact .inr rfl | assumption)
    (hs : swapsWithSole [.Tuple [.Name x px, .Name y py] kt pt] (.Tuple [a, c] k2 pt2) pos.line X.env = pure false := by rfl) (hw : swappedStores [.Tuple [.Name x px, .Name y py] kt pt] (.Tuple [a, c] k2 pt2) X.env = pure none := by rfl)
    (h1 : (assignEach [.Tuple [.Name x px, .Name y py] kt pt] X.env).map (·.2) = [assign (.Tuple [.Name x px, .Name y py] kt pt) X.env] := by rfl)
    (c1 : (assignEach [.Name x px, .Name y py] X.env).map (·.2) = assign (.Name x px) X.env :: (assignEach [.Name y py] X.env).map (·.2) := by rfl) (c2 : (assignEach [.Name y py] X.env).map (·.2) = assign (.Name y py) X.env :: (assignEach [] X.env).map (·.2) := by rfl)
    (hn : (assignEach [.Name x px, .Name y py] X.env).length = 2 := by rfl) (hst : (assignEach [.Name x px, .Name y py] X.env).findIdx? (·.1) = none := by rfl) :
    SS X W pin (.Assign [.Tuple [.Name x px, .Name y py] kt pt] (.Tuple [a, c] k2 pt2) pos) (oPar [i, j] g) :=
  ps_mono (ps_asg (pe_tup ha) (pg_tup hc (pgs_cons (pg_name hN hi hx fx) (pgs_cons (pg_name hN hj hy fy) pgs_nil c2) c1) hn hst) hs hw h1) fun D σ H h => by
  obtain ⟨b, Fz, F, δ, hb, R, P⟩ := par_okT hp h
  refine ⟨b, Fz, F, δ, hb, R, ?_⟩
  cases q : g δ with
  | bad => rw [q] at P; exact P
  | er x δ' => rw [q] at P; exact P
  | ok ars δ' =>
    rw [q] at P
    intro vs H' Fz' F' G s R' A
    obtain ⟨hl, q⟩ := P vs H' Fz' F' G s R' A
    match vs, hl with
    | [v, w], _ => exact ⟨by show 2 ≤ 2 ^ 24; omega, fun p n => ⟨p, [v, w], rfl, .inl (.inl upd_same), rfl, v, [w], rfl, w, [], rfl, rfl, q p n⟩⟩
theorem ss_parC3 {i j l : Nat} {x y z : Str} {px py pz pt : Pos} {kt k2 pt2} (hc : X.calm = true) (hN : X.N.Nodup) (hi : X.N[i]? = some x) (hj : X.N[j]? = some y) (hl : X.N[l]? = some z) (hp : ∀ k ∈ [i, j, l], k ∉ pin) (hx : Loc X.env.scope x) (hy : Loc X.env.scope y) (hz : Loc X.env.scope z) (ha : SAr X W pin [a, c, e] g)
    (fx : X.fn x = true ∨ X.env.scope.names.lookup x = some .local := by first | exact .inl rfl | exact .inr rfl | assumption) (fy : X.fn y = true ∨ X.env.scope.names.lookup y = some .local := by first | exact .inl rfl | exact .inr rfl | assumption) (fz : X.fn z = true ∨ X.env.scope.names.lookup z = some .local := by first | exact .inl rfl | exact .inr rfl | assumption)
    (hs : swapsWithSole [.Tuple [.Name x px, .Name y py, .Name z pz] kt pt] (.Tuple [a, c, e] k2 pt2) pos.line X.env = pure false := by rfl) (hw : swappedStores [.Tuple [.Name x px, .Name y py, .Name z pz] kt pt] (.Tuple [a, c, e] k2 pt2) X.env = pure none := by rfl)
    (h1 : (assignEach [.Tuple [.Name x px, .Name y py, .Name z pz] kt pt] X.env).map (·.2) = [assign (.Tuple [.Name x px, .Name y py, .Name z pz] kt pt) X.env] := by rfl)
    (c1 : (assignEach [.Name x px, .Name y py, .Name z pz] X.env).map (·.2) = assign (.Name x px) X.env :: (assignEach [.Name y py, .Name z pz] X.env).map (·.2) := by rfl) (c2 : (assignEach [.Name y py, .Name z pz] X.env).map (·.2) = assign (.Name y py) X.env :: (assignEach [.Name z pz] X.env).map (·.2) := by rfl) (c3 : (assignEach [.Name z pz] X.env).map (·.2) = assign (.Name z pz) X.env :: (assignEach [] X.env).map (·.2) := by rfl)
    (hn : (assignEach [.Name x px, .Name y py, .Name z pz] X.env).length = 3 := by rfl) (hst : (assignEach [.Name x px, .Name y py, .Name z pz] X.env).findIdx? (·.1) = none := by rfl) :
    SS X W pin (.Assign [.Tuple [.Name x px, .Name y py, .Name z pz] kt pt] (.Tuple [a, c, e] k2 pt2) pos) (oPar [i, j, l] g) :=
  ps_mono (ps_asg (pe_tup ha) (pg_tup hc (pgs_cons (pg_name hN hi hx fx) (pgs_cons (pg_name hN hj hy fy) (pgs_cons (pg_name hN hl hz fz) pgs_nil c3) c2) c1) hn hst) hs hw h1) fun D σ H h => by
  obtain ⟨b, Fz, F, δ, hb, R, P⟩ := par_okT hp h
  refine ⟨b, Fz, F, δ, hb, R, ?_⟩
  cases q : g δ with
  | bad => rw [q] at P; exact P
  | er x δ' => rw [q] at P; exact P
  | ok ars δ' =>
    rw [q] at P
    intro vs H' Fz' F' G s R' A
    obtain ⟨hl, q⟩ := P vs H' Fz' F' G s R' A
    match vs, hl with
    | [v, w, u], _ => exact ⟨by show 3 ≤ 2 ^ 24; omega, fun p n => ⟨p, [v, w, u], rfl, .inl (.inl upd_same), rfl, v, [w, u], rfl, w, [u], rfl, u, [], rfl, rfl, q p n⟩⟩
end
end Hb
namespace Nv
open PySem Hb L2
open Enc (enc)
/-- a turn: on, or out with more -/
inductive Fb (σ τ : Type) where
  | nx (s : σ) | bk (t : τ)
def Fb.el {σ τ ζ : Type} (o : Fb σ τ) (f : σ → Option ζ) (g : τ → Option ζ) : Option ζ := match o with
  | .nx s => f s
  | .bk t => g t
end Nv
namespace Hb
open PySem PySem.Spec PyProof.Rows L2
end Hb
namespace Nv
open PySem Hb L2
open Enc (enc)
end Nv
namespace Hb
open PySem PySem.Spec PyProof.Rows L2
def keysOf : List PyData → Option (List Key)
  | [] => some []
  | d :: r => (keyOf d).bind fun k => (keysOf r).map (k :: ·)
def keyT : PyData → Option (List Key)
  | .tuple ds => keysOf ds
  | _ => none
theorem keysOf_D : ∀ ks : List Key, keysOf (ks.map kD) = some ks
  | [] => rfl
  | k :: r => by
    show (keyOf (kD k)).bind _ = _
    rw [keyOf_D]
    show (keysOf (r.map kD)).map (k :: ·) = _
    rw [keysOf_D r]
    rfl
theorem keyT_D (ks : List Key) : keyT (.tuple (ks.map kD)) = some ks := keysOf_D ks
def lookKT (kvs : List (PyData × PyData)) (k : List Key) : Option PyData := (kvs.find? fun p => decide (keyT p.1 = some k)).map (·.2)
def putT (kvs : List (PyData × PyData)) (k : List Key) (d : PyData) : List (PyData × PyData) :=
  if (kvs.any fun p => decide (keyT p.1 = some k)) = true then kvs.map (fun p => if keyT p.1 = some k then (p.1, d) else p) else kvs ++ [(.tuple (k.map kD), d)]
section
variable {K : PySem.W.Frag} {H : Hp}
theorem RpT.look : ∀ {ws : List (List Key × V)} {kvs : List (PyData × PyData)} {k : List Key} {d : PyData}, RpT K H ws kvs → lookKT kvs k = some d → ∃ v, valV ws k = some v ∧ Rp K H v d
  | _, _, k, d, .nil, h => by cases h
  | _, _, k, d, .cons (k := k0) (v := v0) (vs := ws) (d := d0) (ds := kvs) r t, h => by
    unfold lookKT at h
    rw [List.find?_cons] at h
    rw [keyT_D] at h
    by_cases c : k0 = k
    · rw [decide_eq_true (by rw [c])] at h
      cases h
      exact ⟨v0, valV_pos (p := (k0, v0)) c, r⟩
    · have hn : ¬ some k0 = some k := fun z => c (Option.some.inj z)
      rw [decide_eq_false hn] at h
      obtain ⟨v, e1, e2⟩ := RpT.look t h
      exact ⟨v, by rw [valV_neg (p := (k0, v0)) c]; exact e1, e2⟩
theorem RpT.none : ∀ {ws : List (List Key × V)} {kvs : List (PyData × PyData)} {k : List Key}, RpT K H ws kvs → lookKT kvs k = .none → valV ws k = .none
  | _, _, k, .nil, h => rfl
  | _, _, k, .cons (k := k0) (v := v0) (vs := ws) (d := d0) (ds := kvs) r t, h => by
    unfold lookKT at h
    rw [List.find?_cons] at h
    rw [keyT_D] at h
    by_cases c : k0 = k
    · rw [decide_eq_true (by rw [c])] at h
      cases h
    · have hn : ¬ some k0 = some k := fun z => c (Option.some.inj z)
      rw [decide_eq_false hn] at h
      rw [valV_neg (p := (k0, v0)) c]
      exact RpT.none t h
theorem RpT.isSome {ws : List (List Key × V)} {kvs : List (PyData × PyData)} (k : List Key) (t : RpT K H ws kvs) : (valV ws k).isSome = (lookKT kvs k).isSome := by
  cases q : lookKT kvs k with
  | none => rw [t.none q]; rfl
  | some d =>
    obtain ⟨v, e, _⟩ := t.look q
    rw [e]
    rfl
theorem RpT.any : ∀ {ws : List (List Key × V)} {kvs : List (PyData × PyData)} (k : List Key), RpT K H ws kvs → (ws.any fun kv => decide (kv.1 = k)) = kvs.any fun p => decide (keyT p.1 = some k)
  | _, _, k, .nil => rfl
  | _, _, k, .cons (k := k0) r t => by
    rw [List.any_cons, List.any_cons, RpT.any k t, keyT_D]
    congr 1
    by_cases c : k0 = k <;> simp [c]
theorem RpT.app : ∀ {ws us : List (List Key × V)} {kvs lvs : List (PyData × PyData)}, RpT K H ws kvs → RpT K H us lvs → RpT K H (ws ++ us) (kvs ++ lvs)
  | _, _, _, _, .nil, s => s
  | _, _, _, _, .cons r t, s => .cons r (RpT.app t s)
theorem RpT.mapk {v : V} {d : PyData} (h : Rp K H v d) (k : List Key) : ∀ {ws : List (List Key × V)} {kvs : List (PyData × PyData)}, RpT K H ws kvs → RpT K H (ws.map fun kv => if kv.1 = k then (kv.1, v) else kv) (kvs.map fun p => if keyT p.1 = some k then (p.1, d) else p)
  | _, _, .nil => .nil
  | _, _, .cons (k := k0) (v := v0) r t => by
    rw [List.map_cons, List.map_cons]
    have ih := RpT.mapk h k t
    by_cases c : k0 = k
    · rw [if_pos (show (k0, v0).1 = k from c), if_pos (show keyT (.tuple (k0.map kD)) = some k by rw [keyT_D, c])]
      exact .cons h ih
    · rw [if_neg (show ¬ (k0, v0).1 = k from c), if_neg (show ¬ keyT (.tuple (k0.map kD)) = some k by rw [keyT_D]; exact fun z => c (Option.some.inj z))]
      exact .cons r ih
theorem RpT.put {ws : List (List Key × V)} {kvs : List (PyData × PyData)} {v : V} {d : PyData} (t : RpT K H ws kvs) (h : Rp K H v d) (k : List Key) : RpT K H (putK ws k v) (putT kvs k d) := by
  unfold putK putT
  rw [RpT.any k t]
  by_cases c : (kvs.any fun p => decide (keyT p.1 = some k)) = true
  · rw [if_pos c, if_pos c]
    exact RpT.mapk h k t
  · rw [if_neg c, if_neg c]
    exact t.app (.cons h .nil)
end
theorem unl1 {n : Nat} (h : n + 64 < cLine) : n + 1 < cLine := by omega
theorem unl0 {n : Nat} (h : n + 64 < cLine) : n < cLine := by omega
end Hb
namespace Hb
open PySem PySem.Spec PyProof.Rows L2
def lcD (vs : List Nat) (t : AV → List Sl → Rs Unit) (tt : List Sl → Rs Bool) (f : List Sl → Rs AV) : List PyData → List PyData → List Sl → Option (List PyData × List Sl)
  | [], es, δ => some (es, δ)
  | d :: r, es, δ => if okW vs δ = true then (match t (.val d) (wipeD vs δ) with
    | .ok _ δ1 => (match tt δ1 with
      | .ok k δ2 => if k = true then (match sSt f δ2 with
        | .ok (.val e) δ3 => if es.length ≤ cap then lcD vs t tt f r (es ++ [e]) (unw vs δ δ3) else none
        | _ => none) else lcD vs t tt f r es (unw vs δ δ2)
      | _ => none)
    | _ => none) else none
def lcD2 (vs : List Nat) (t : AV → List Sl → Rs Unit) (tt : List Sl → Rs Bool) (wi1 : List Sl → Rs (List PyData)) (vs1 : List Nat) (t1 : AV → List Sl → Rs Unit) (tt1 : List Sl → Rs Bool) (f : List Sl → Rs AV) : List PyData → List PyData → List Sl → Option (List PyData × List Sl)
  | [], es, δ => some (es, δ)
  | d :: r, es, δ => if okW vs δ = true then (match t (.val d) (wipeD vs δ) with
    | .ok _ δ1 => (match tt δ1 with
      | .ok k δ2 => if k = true then (match wi1 δ2 with
        | .ok ds δ3 => (match lcD vs1 t1 tt1 f ds es δ3 with
          | some z => lcD2 vs t tt wi1 vs1 t1 tt1 f r z.1 (unw vs δ z.2)
          | none => none)
        | _ => none) else lcD2 vs t tt wi1 vs1 t1 tt1 f r es (unw vs δ δ2)
      | _ => none)
    | _ => none) else none
def sLc2 (wi : List Sl → Rs (List PyData)) (vs : List Nat) (t : AV → List Sl → Rs Unit) (tt : List Sl → Rs Bool) (wi1 : List Sl → Rs (List PyData)) (vs1 : List Nat) (t1 : AV → List Sl → Rs Unit) (tt1 : List Sl → Rs Bool) (f : List Sl → Rs AV) : List Sl → Rs AV := fun δ => (wi δ).bind fun ds δ1 => match lcD2 vs t tt wi1 vs1 t1 tt1 f ds [] δ1 with
  | some z => .ok (.tmp (.ol (z.1.map .fz))) z.2
  | none => .bad
section
variable {K : PySem.W.Frag} {mg : Str → Option Value} {pin ts vs : List Nat} {t : AV → List Sl → Rs Unit} {tt : List Sl → Rs Bool} {f : List Sl → Rs AV} {tT : TT}
/-- back behind a turn -/
theorem turn_back {b : Bk} {Fz2 : Hp} {F2 : Nat → List Addr} {δ2 : List Sl} {σ : L2.St} {H2 : Hp} (R2 : Rl K b Fz2 F2 δ2 σ H2) (hvb : ∀ v ∈ vs, v ∉ b.pin) (cw : okW vs δ2 = true) {δ5 : List Sl} {σ5 : L2.St} {H5 Fz5 : Hp} {F5 : Nat → List Addr} (s25 : Same Fz2 Fz5) (R6 : Rl K b Fz5 F5 δ5 σ5 H5) (hl5 : σ5.length = σ.length) (fr5 : ∀ k, k ∉ vs → σ5[k]? = σ[k]?) :
    ∃ F6, Rl K b Fz5 F6 (unw vs δ2 δ5) σ H5 ∧ ∀ k a, a ∈ F6 k → a ∈ F5 k := by
  obtain ⟨F6, R7, h7⟩ := Rl.unwipe (σ := σ) (δ := δ2) R6 hl5 (vs := vs) hvb fun v hvv s hs => by
    have h0 := R2.slot v s hs
    have hpl : plainS δ2[v]? = true := by
      unfold okW at cw
      exact List.all_eq_true.mp cw v hvv
    rw [hs] at hpl
    cases s with
    | no => exact ⟨rfl, fun x j z => nomatch z⟩
    | fz d' =>
      obtain ⟨_, v', k1, k2⟩ := h0
      exact ⟨⟨rfl, v', k1, k2.mono s25⟩, fun x j z => nomatch z⟩
    | _ => cases hpl
  rw [rst_eq hl5 fr5] at R7
  exact ⟨F6, R7, h7⟩
theorem lcI (hv : ∀ v ∈ vs, v ∉ pin) (hts : ∀ v ∈ ts, v ∈ vs) (hT : ∀ σ H Q, rdT K mg W0 pin tt σ H Q → tT σ H Q) {b : Bk} (hpin : b.pin = pin) {σ : L2.St} {J : It} {ds es0 : List PyData} {Fz1 H1 : Hp} {F1 : Nat → List Addr} {δ1 : List Sl} {D : Addr} {acc0 : List V}
    (hw : Wk K Fz1 J ds) (R1 : Rl K b Fz1 F1 δ1 σ H1) (hacc0 : H1 D = some (.lst acc0)) (hes0 : RpL K Fz1 acc0 es0) (hD : Fz1 D = none ∧ b.B D = none ∧ ∀ k, D ∉ F1 k) {esF : List PyData} {δF : List Sl} (run : lcD vs t tt f ds es0 δ1 = some (esF, δF)) {Fin : Hp → Prop}
    (fin : ∀ H Fz F acc, Same Fz1 Fz → Rl K b Fz F δF σ H → H D = some (.lst acc) → RpL K Fz acc esF → (Fz D = none ∧ b.B D = none ∧ ∀ k, D ∉ F k) → Fin H) :
    ∃ W1 : Nat → Nat → Hp → Prop, (∃ m, W1 0 m H1) ∧ ∀ j k H, W1 j k H → (J.stop j H ∧ Fin H) ∨ (J.go j H ∧ ∃ Nx1 : Hp → Prop, (∀ H', Nx1 H' → ∃ k', k' < k ∧ W1 (j + 1) k' H') ∧ ∀ x H', J.yld j H x H' → rdG K mg W0 pin ts t x (L2.wipe σ vs) H' fun σ3 H5 => L2.wipe σ3 vs = L2.wipe σ vs ∧ tT σ3 H5 fun c H6 =>
      if c = true then rdE K mg W0 pin (sSt f) σ3 H6 fun y H7 => ∃ acc, H7 D = some (.lst acc) ∧ acc.length < sizeLine ∧ Nx1 (upd H7 D (.lst (acc ++ [y]))) else Nx1 H6) := by
  refine ⟨fun i m H => m = ds.length - i ∧ i ≤ ds.length ∧ ∃ Fz F δ acc es, Same Fz1 Fz ∧ Rl K b Fz F δ σ H ∧ H D = some (.lst acc) ∧ RpL K Fz acc es ∧ (Fz D = none ∧ b.B D = none ∧ ∀ k, D ∉ F k) ∧ lcD vs t tt f (ds.drop i) es δ = some (esF, δF),
    ⟨ds.length, by simp, Nat.zero_le _, Fz1, F1, δ1, acc0, es0, Same.refl _, R1, hacc0, hes0, hD, by rw [List.drop_zero]; exact run⟩, ?_⟩
  rintro i m H2 ⟨rfl, hi, Fz2, F2, δ2, acc, es, s2, R2, hacc, hes, hg, P2⟩
  have hg' : ∀ a ∈ [D], Fz2 a = none ∧ b.B a = none ∧ ∀ k, a ∉ F2 k := fun a ha => by
    rw [List.mem_singleton] at ha
    rw [ha]; exact hg
  have gB : ∀ a ∈ [D], b.B a = none := fun a ha => (hg' a ha).2.1
  have gH : ∀ a ∈ [D], H2 a ≠ none := fun a ha => by
    rw [List.mem_singleton] at ha
    rw [ha, hacc]; simp
  have Rg := R2.guard (g := [D]) hg'
  obtain ⟨go, stop⟩ := hw _ Fz2 F2 δ2 σ H2 s2 Rg
  by_cases hlt : i < ds.length
  · obtain ⟨g1, g2⟩ := go i hlt
    refine .inr ⟨g1, fun H => ∃ Fz F δ acc es, Same Fz1 Fz ∧ Rl K b Fz F δ σ H ∧ H D = some (.lst acc) ∧ RpL K Fz acc es ∧ (Fz D = none ∧ b.B D = none ∧ ∀ k, D ∉ F k) ∧ lcD vs t tt f (ds.drop (i + 1)) es δ = some (esF, δF),
      fun H3 h3 => ⟨ds.length - (i + 1), by omega, rfl, hlt, h3⟩, fun x H3 y => ?_⟩
    obtain ⟨Fz3, d, e1, s3, R3, r3⟩ := g2 x H3 y
    have ed : ds.drop i = d :: ds.drop (i + 1) := by
      rw [List.drop_eq_getElem_cons hlt]
      rw [List.getElem?_eq_getElem hlt] at e1
      rw [Option.some.inj e1]
    rw [ed] at P2
    unfold lcD at P2
    by_cases cw : okW vs δ2 = true
    · rw [if_pos cw] at P2
      have hvb : ∀ v ∈ vs, v ∉ b.pin := by rw [hpin]; exact hv
      have R4 := R3.wipe cw hvb
      have fits : ∀ {δ5 : List Sl} {σ5 : L2.St} {H5 Fz5 : Hp} {F5 : Nat → List Addr}, Rl K (gd b H2 [D]) Fz5 F5 δ5 σ5 H5 → ∀ a ∈ [D], H5 a = H2 a ∧ Fz5 a = none ∧ ∀ k, a ∉ F5 k := fun R5 => R5.guarded gB R2.f0 gH
      refine ⟨gd b H2 [D], Fz3, F2, wipeD vs δ2, .val d, hpin, R4, r3, ?_⟩
      cases q2 : t (.val d) (wipeD vs δ2) with
      | bad => simp only [q2] at P2; cases P2
      | er x δ3 => simp only [q2] at P2; cases P2
      | ok u δ3 =>
        simp only [q2] at P2
        intro σ4 H4 Fz4 F4 s4 R5 fr
        have hl4 : σ4.length = σ.length := by rw [fr.1, L2.wipe_length]
        have fr4 : ∀ k, k ∉ vs → σ4[k]? = σ[k]? := fun k hk => (fr.2 k fun z => hk (hts k z)).trans (wipe_get hk)
        refine ⟨wipe_eq hl4 fr4, ?_⟩
        have s24 : Same Fz2 Fz4 := s3.trans s4
        refine hT _ _ _ ⟨gd b H2 [D], Fz4, F4, δ3, hpin, R5, ?_⟩
        cases q3 : tt δ3 with
        | bad => simp only [q3] at P2; cases P2
        | er x δ4 => simp only [q3] at P2; cases P2
        | ok k δ4 =>
          simp only [q3] at P2
          intro H5 Fz5 F5 s5 R6
          by_cases ck : k = true
          · rw [if_pos ck] at P2 ⊢
            refine ⟨gd b H2 [D], Fz5, F5, δ4, hpin, R6, ?_⟩
            cases q4 : sSt f δ4 with
            | bad => simp only [q4] at P2; cases P2
            | er x δ5 => simp only [q4] at P2; cases P2
            | ok a δ5 =>
              cases a with
              | ref i => simp only [q4] at P2; cases P2
              | tmp s => simp only [q4] at P2; cases P2
              | val e =>
                simp only [q4] at P2
                by_cases cl : es.length ≤ cap
                · rw [if_pos cl] at P2
                  intro y H6 Fz6 F6 s6 R7 A
                  have s26 : Same Fz2 Fz6 := (s24.trans s5).trans s6
                  have fD := fits R7 D (by simp)
                  obtain ⟨F7, R8, h7⟩ := turn_back R2 hvb cw s26 (R7.unguard gB R2.f0) hl4 fr4
                  have eD : H6 D = some (.lst acc) := fD.1.trans hacc
                  refine ⟨acc, eD, by rw [hes.len]; exact lt_line cl, ?_⟩
                  have nk : ∀ k, D ∉ F7 k := fun k hk => fD.2.2 k (h7 k D hk)
                  have R9 := R8.other (D := D) (o := .lst (acc ++ [y])) fD.2.1 hg.2.1 nk
                  exact ⟨Fz6, F7, _, _, _, s2.trans s26, R9, upd_same, (hes.mono s26).append (.one A), ⟨fD.2.1, hg.2.1, nk⟩, P2⟩
                · rw [if_neg cl] at P2
                  cases P2
          · rw [if_neg ck] at P2 ⊢
            have s25 : Same Fz2 Fz5 := s24.trans s5
            have fD := fits R6 D (by simp)
            obtain ⟨F7, R8, h7⟩ := turn_back R2 hvb cw s25 (R6.unguard gB R2.f0) hl4 fr4
            exact ⟨Fz5, F7, _, acc, es, s2.trans s25, R8, fD.1.trans hacc, hes.mono s25, ⟨fD.2.1, hg.2.1, fun k hk => fD.2.2 k (h7 k D hk)⟩, P2⟩
    · rw [if_neg cw] at P2
      cases P2
  · have e : i = ds.length := by omega
    subst e
    rw [List.drop_length] at P2
    have P2 : some (es, δ2) = some (esF, δF) := P2
    cases P2
    exact .inl ⟨stop, fin _ _ _ _ s2 R2 hacc hes hg⟩
theorem lc2_ok {W : WX} {ts1 vs1 : List Nat} {wi wi1 : List Sl → Rs (List PyData)} {t1 : AV → List Sl → Rs Unit} {tt1 : List Sl → Rs Bool} {tT1 : TT} (hv : ∀ v ∈ vs, v ∉ pin) (hts : ∀ v ∈ ts, v ∈ vs) (hv1 : ∀ v ∈ vs1, v ∉ pin) (hts1 : ∀ v ∈ ts1, v ∈ vs1) (hT : ∀ σ H Q, rdT K mg W0 pin tt σ H Q → tT σ H Q) (hT1 : ∀ σ H Q, rdT K mg W0 pin tt1 σ H Q → tT1 σ H Q) :
    ∀ σ H Q, rdE K mg W pin (sLc2 wi vs t tt wi1 vs1 t1 tt1 f) σ H Q → tLc2 (rdI K mg W pin wi) (rdG K mg W0 pin ts t) tT (rdI K mg W0 pin wi1) (rdG K mg W0 pin ts1 t1) tT1 (rdE K mg W0 pin (sSt f)) vs vs1 σ H Q := fun σ H Q ⟨b, Fz, F, δ, hpin, R, P⟩ => by
  refine ⟨b, Fz, F, δ, hpin, R, ?_⟩
  unfold sLc2 at P
  cases q : wi δ with
  | bad => rw [q] at P; exact P
  | er x δ' => rw [q] at P; exact P
  | ok ds δ1 =>
    rw [q] at P
    have P : Post K mg W b Fz σ Q (match lcD2 vs t tt wi1 vs1 t1 tt1 f ds [] δ1 with
      | some z => .ok (.tmp (.ol (z.1.map .fz))) z.2
      | none => .bad) := P
    cases run : lcD2 vs t tt wi1 vs1 t1 tt1 f ds [] δ1 with
    | none => rw [run] at P; exact P.elim
    | some z =>
    rw [run] at P
    have P : Post K mg W b Fz σ Q (.ok (.tmp (.ol (z.1.map .fz))) z.2) := P
    intro J H1 Fz1 F1 s1 R1 hw D hD
    obtain ⟨d1, d2, d3⟩ := R1.offN hD
    refine ⟨fun i m H => m = ds.length - i ∧ i ≤ ds.length ∧ ∃ Fz F δ acc es, Same Fz1 Fz ∧ Rl K b Fz F δ σ H ∧ H D = some (.lst acc) ∧ RpL K Fz acc es ∧ (Fz D = none ∧ b.B D = none ∧ ∀ k, D ∉ F k) ∧ lcD2 vs t tt wi1 vs1 t1 tt1 f (ds.drop i) es δ = some z,
      ⟨ds.length, by simp, Nat.zero_le _, Fz1, F1, δ1, [], [], Same.refl _, R1.new hD _, upd_same, .nil, ⟨d1, d2, d3⟩, by rw [List.drop_zero]; exact run⟩, ?_⟩
    rintro i m H2 ⟨rfl, hi, Fz2, F2, δ2, acc, es, s2, R2, hacc, hes, hg, P2⟩
    have hg' : ∀ a ∈ [D], Fz2 a = none ∧ b.B a = none ∧ ∀ k, a ∉ F2 k := fun a ha => by
      rw [List.mem_singleton] at ha
      rw [ha]; exact hg
    have gB : ∀ a ∈ [D], b.B a = none := fun a ha => (hg' a ha).2.1
    have gH : ∀ a ∈ [D], H2 a ≠ none := fun a ha => by
      rw [List.mem_singleton] at ha
      rw [ha, hacc]; simp
    have Rg := R2.guard (g := [D]) hg'
    obtain ⟨go, stop⟩ := hw _ Fz2 F2 δ2 σ H2 s2 Rg
    by_cases hlt : i < ds.length
    · obtain ⟨g1, g2⟩ := go i hlt
      refine .inr ⟨g1, fun H => ∃ Fz F δ acc es, Same Fz1 Fz ∧ Rl K b Fz F δ σ H ∧ H D = some (.lst acc) ∧ RpL K Fz acc es ∧ (Fz D = none ∧ b.B D = none ∧ ∀ k, D ∉ F k) ∧ lcD2 vs t tt wi1 vs1 t1 tt1 f (ds.drop (i + 1)) es δ = some z,
        fun H3 h3 => ⟨ds.length - (i + 1), by omega, rfl, hlt, h3⟩, fun x H3 y => ?_⟩
      obtain ⟨Fz3, d, e1, s3, R3, r3⟩ := g2 x H3 y
      have ed : ds.drop i = d :: ds.drop (i + 1) := by
        rw [List.drop_eq_getElem_cons hlt]
        rw [List.getElem?_eq_getElem hlt] at e1
        rw [Option.some.inj e1]
      rw [ed] at P2
      unfold lcD2 at P2
      by_cases cw : okW vs δ2 = true
      · rw [if_pos cw] at P2
        have hvb : ∀ v ∈ vs, v ∉ b.pin := by rw [hpin]; exact hv
        have R4 := R3.wipe cw hvb
        have fits : ∀ {δ5 : List Sl} {σ5 : L2.St} {H5 Fz5 : Hp} {F5 : Nat → List Addr}, Rl K (gd b H2 [D]) Fz5 F5 δ5 σ5 H5 → ∀ a ∈ [D], H5 a = H2 a ∧ Fz5 a = none ∧ ∀ k, a ∉ F5 k := fun R5 => R5.guarded gB R2.f0 gH
        refine ⟨gd b H2 [D], Fz3, F2, wipeD vs δ2, .val d, hpin, R4, r3, ?_⟩
        cases q2 : t (.val d) (wipeD vs δ2) with
        | bad => simp only [q2] at P2; cases P2
        | er x δ3 => simp only [q2] at P2; cases P2
        | ok u δ3 =>
          simp only [q2] at P2
          intro σ4 H4 Fz4 F4 s4 R5 fr
          have hl4 : σ4.length = σ.length := by rw [fr.1, L2.wipe_length]
          have fr4 : ∀ k, k ∉ vs → σ4[k]? = σ[k]? := fun k hk => (fr.2 k fun z => hk (hts k z)).trans (wipe_get hk)
          refine ⟨wipe_eq hl4 fr4, ?_⟩
          have s24 : Same Fz2 Fz4 := s3.trans s4
          refine hT _ _ _ ⟨gd b H2 [D], Fz4, F4, δ3, hpin, R5, ?_⟩
          cases q3 : tt δ3 with
          | bad => simp only [q3] at P2; cases P2
          | er x δ4 => simp only [q3] at P2; cases P2
          | ok k δ4 =>
            simp only [q3] at P2
            intro H5 Fz5 F5 s5 R6
            by_cases ck : k = true
            · rw [if_pos ck] at P2 ⊢
              refine ⟨gd b H2 [D], Fz5, F5, δ4, hpin, R6, ?_⟩
              cases q4 : wi1 δ4 with
              | bad => simp only [q4] at P2; cases P2
              | er x δ5 => simp only [q4] at P2; cases P2
              | ok ds1 δ5 =>
                simp only [q4] at P2
                cases q5 : lcD vs1 t1 tt1 f ds1 es δ5 with
                | none => simp only [q5] at P2; cases P2
                | some z1 =>
                  simp only [q5] at P2
                  intro J1 H6 Fz6 F6 s6 R7 hw1
                  have s26 : Same Fz2 Fz6 := (s24.trans s5).trans s6
                  have fD := fits R7 D (by simp)
                  refine lcI (F1 := F6) (es0 := es) (acc0 := acc) (esF := z1.1) (δF := z1.2) hv1 hts1 hT1 hpin hw1 (R7.unguard gB R2.f0) (fD.1.trans hacc) (hes.mono s26) ⟨fD.2.1, hg.2.1, fD.2.2⟩ q5 fun H7 Fz7 F7 acc7 s7 R8 h8 e8 n8 => ?_
                  obtain ⟨F9, R9, h9⟩ := turn_back R2 hvb cw (s26.trans s7) R8 hl4 fr4
                  exact ⟨Fz7, F9, _, acc7, _, s2.trans (s26.trans s7), R9, h8, e8, ⟨n8.1, n8.2.1, fun k hk => n8.2.2 k (h9 k D hk)⟩, P2⟩
            · rw [if_neg ck] at P2 ⊢
              have s25 : Same Fz2 Fz5 := s24.trans s5
              have fD := fits R6 D (by simp)
              obtain ⟨F7, R8, h7⟩ := turn_back R2 hvb cw s25 (R6.unguard gB R2.f0) hl4 fr4
              exact ⟨Fz5, F7, _, acc, es, s2.trans s25, R8, fD.1.trans hacc, hes.mono s25, ⟨fD.2.1, hg.2.1, fun k hk => fD.2.2 k (h7 k D hk)⟩, P2⟩
      · rw [if_neg cw] at P2
        cases P2
    · have e : i = ds.length := by omega
      subst e
      rw [List.drop_length] at P2
      have P2 : some (es, δ2) = some z := P2
      cases P2
      refine .inl ⟨stop, ?_⟩
      exact P (.ref D) H2 Fz2 F2 (s1.trans s2) R2 ⟨rfl, [D], ⟨D, acc, [], rfl, rfl, hacc, ElL.ofFz hes⟩, by simp, fun a ha => by
        rw [List.mem_singleton] at ha
        subst ha
        exact ⟨hg.1, hg.2.1, by rw [hacc]; simp, hg.2.2⟩⟩
end
section
variable {X : Cx} {W : WX} {pin ts ts1 : List Nat} {elt tg iter tg1 iter1 : Expr} {ifs ifs1 : List Expr} {scope : Scope} {own : List (Str × Nat)} {vs1 : List Nat} {pos : Pos} {wi wi1 : List Sl → Rs (List PyData)} {t t1 : AV → List Sl → Rs Unit} {tt tt1 : List Sl → Rs Bool} {f : List Sl → Rs AV}
theorem se_lc2 (hc : X.calm = true) (hN : X.N.Nodup) (hi : SI X W pin tg iter wi) (ok : blkC X.N X.env.scope scope own = true) (hv1 : ∀ v ∈ vs1, v ∈ own.map (·.2)) (hv : ∀ v ∈ own.map (·.2), v ∉ pin) (hts : ∀ v ∈ ts, v ∈ own.map (·.2)) (hts1 : ∀ v ∈ ts1, v ∈ vs1)
    (hg : ∀ s H C cl fp, SG (BX X scope s H C cl fp) W0 pin ts tg t) (ht : ∀ s H C cl fp, STs (BX X scope s H C cl fp) pin ifs tt) (hi1 : ∀ s H C cl fp, SI (BX X scope s H C cl fp) W0 pin tg1 iter1 wi1) (hg1 : ∀ s H C cl fp, SG (BX X scope s H C cl fp) W0 pin ts1 tg1 t1) (ht1 : ∀ s H C cl fp, STs (BX X scope s H C cl fp) pin ifs1 tt1)
    (he : ∀ s H C cl fp, SE (BX X scope s H C cl fp) W0 pin elt f) (hs : ∀ x, foldedSetIterable iter X.env x = pure x := by intro _; rfl) (hs1 : ∀ env x, foldedSetIterable iter1 env x = pure x := by intro _ _; rfl) :
    SE X W pin (.ListComp elt [⟨tg, iter, ifs, 0⟩, ⟨tg1, iter1, ifs1, 0⟩] scope pos) (sLc2 wi (own.map (·.2)) t tt wi1 vs1 t1 tt1 f) :=
  pe_mono (pe_lc2 hc hN hi (blkOk_by ok) hv1 hg ht hi1 hg1 ht1 (fun s H C cl fp => se_st (he s H C cl fp)) hs hs1) (lc2_ok hv hts (fun v h => hv v (hv1 v h)) hts1 (fun _ _ _ h => h) fun _ _ _ h => h)
end
end Hb
namespace Nv
open PySem Hb L2
open Enc (enc)
/-- tuples of whole numbers -/
class TKy (ξ : Type) [Enc ξ] where
  tp : ξ → Tp Int
  h : ∀ x : ξ, enc x = enc (tp x)
instance : TKy (Tp Int) := ⟨fun x => x, fun _ => rfl⟩
instance : TKy (Int × Int) := ⟨fun x => ⟨[x.1, x.2]⟩, fun _ => rfl⟩
instance : TKy (T3 Int Int Int) := ⟨fun x => ⟨[x.a, x.b, x.c]⟩, fun _ => rfl⟩
instance : TKy (T4 Int Int Int Int) := ⟨fun x => ⟨[x.a, x.b, x.c, x.d]⟩, fun _ => rfl⟩
section
variable {β : Type} {Γ : Ga}
theorem itp_ga {w : List Sl → Rs (List PyData)} {p : Option β} {its : β → List PyData} (Δ : Ga) (h : Γ = Δ) (k : ItP w Δ p its) : ItP w Γ p its := by subst h; exact k
end
section
variable {α α1 β γ ε ξ ζ : Type} {Γ : Ga} {f fk fv : List Sl → Rs AV} {t t1 : AV → List Sl → Rs Unit} {tt tt1 : List Sl → Rs Bool} {w w1 : List Sl → Rs (List PyData)} {vs vs1 : List Nat}
/-- each item's list, one behind the other -/
def flF : List α → (α → Option Bool) → (α → Option (List γ)) → Option (List γ)
  | [], _, _ => some []
  | x :: r, c, g => (c x).bind fun b => if b = true then (g x).bind fun ys => (flF r c g).bind fun zs => some (ys ++ zs) else flF r c g
theorem lcDF [Enc α] [Enc γ] {ΓT : α → Ga} {pt : α → Option Bool} {pe : α → Option γ} (hok : okP vs Γ = true) (hc : calm vs Γ = true) (ht : ∀ x, Tg vs t (wipeP vs Γ) (enc x) (ΓT x)) (htt : ∀ x, Ts tt (ΓT x) (pt x)) (hf : ∀ x, Pu f (ΓT x) (pe x) fun y => .val (enc y)) :
    ∀ (xs : List α) (es : List PyData) (ys : List γ), mapF xs pt pe = some ys → es.length + ys.length ≤ cap → ∀ δ, Sat Γ δ → lcD vs t tt f (xs.map enc) es δ = some (es ++ ys.map enc, δ)
  | [], es, ys, e, _, δ, _ => by
    cases some_of e
    simp [lcD]
  | x :: xs, es, ys, e, hl, δ, s => by
    obtain ⟨b, e1, e⟩ := bind_of e
    have hw := okP_ok hok s
    have hal := calm_ok hc s
    obtain ⟨δ1, h1, s1, k1⟩ := ht x (wipeD vs δ) (wipeP_ok s vs)
    obtain ⟨a1, b1, c1⟩ := k1 (wipe_al hal vs)
    have un : unw vs δ δ1 = δ := unw_id (by rw [a1, wipe_len]) (fun k hk => by rw [b1 k hk, wipe_get δ vs hk]) c1 hw
    have h2 := htt x b e1 δ1 s1
    rw [List.map_cons]
    unfold lcD
    rw [if_pos hw, h1]
    simp only [h2]
    cases b with
    | false =>
      rw [if_neg Bool.false_ne_true, un]
      exact lcDF hok hc ht htt hf xs es ys (by simpa using e) hl δ s
    | true =>
      rw [if_pos rfl] at e
      obtain ⟨y, e2, e⟩ := bind_of e
      obtain ⟨zs, e3, e⟩ := bind_of e
      cases some_of e
      have h3 := hf x y e2 δ1 s1
      have h4 : sSt f δ1 = .ok (.val (enc y)) δ1 := by unfold sSt; rw [h3]
      rw [List.length_cons] at hl
      simp only [if_true, h4]
      rw [if_pos (by omega), un, lcDF hok hc ht htt hf xs (es ++ [enc y]) zs e3 (by simp; omega) δ s]
      simp
theorem lcDF2 [Enc α] [Enc α1] [Enc γ] {ΓT : α → Ga} {pt : α → Option Bool} {p1 : α → Option ε} {xs1 : α → ε → List α1} {ΓT1 : α → ε → α1 → Ga} {pt1 : α → ε → α1 → Option Bool} {pe : α → ε → α1 → Option γ} (hok : okP vs Γ = true) (hc : calm vs Γ = true) (ht : ∀ x, Tg vs t (wipeP vs Γ) (enc x) (ΓT x)) (htt : ∀ x, Ts tt (ΓT x) (pt x))
    (hw1 : ∀ x, ItP w1 (ΓT x) (p1 x) fun u => (xs1 x u).map enc) (hok1 : ∀ x, okP vs1 (ΓT x) = true) (hc1 : ∀ x, calm vs1 (ΓT x) = true) (ht1 : ∀ x u y, Tg vs1 t1 (wipeP vs1 (ΓT x)) (enc y) (ΓT1 x u y)) (htt1 : ∀ x u y, Ts tt1 (ΓT1 x u y) (pt1 x u y)) (hf : ∀ x u y, Pu f (ΓT1 x u y) (pe x u y) fun z => .val (enc z)) :
    ∀ (xs : List α) (es : List PyData) (ys : List γ), flF xs pt (fun x => (p1 x).bind fun u => mapF (xs1 x u) (pt1 x u) (pe x u)) = some ys → es.length + ys.length ≤ cap → ∀ δ, Sat Γ δ → lcD2 vs t tt w1 vs1 t1 tt1 f (xs.map enc) es δ = some (es ++ ys.map enc, δ)
  | [], es, ys, e, _, δ, _ => by
    cases some_of e
    simp [lcD2]
  | x :: xs, es, ys, e, hl, δ, s => by
    obtain ⟨b, e1, e⟩ := bind_of e
    have hw := okP_ok hok s
    have hal := calm_ok hc s
    obtain ⟨δ1, h1, s1, k1⟩ := ht x (wipeD vs δ) (wipeP_ok s vs)
    obtain ⟨a1, b1, c1⟩ := k1 (wipe_al hal vs)
    have un : unw vs δ δ1 = δ := unw_id (by rw [a1, wipe_len]) (fun k hk => by rw [b1 k hk, wipe_get δ vs hk]) c1 hw
    have h2 := htt x b e1 δ1 s1
    rw [List.map_cons]
    unfold lcD2
    rw [if_pos hw, h1]
    simp only [h2]
    cases b with
    | false =>
      rw [if_neg Bool.false_ne_true, un]
      exact lcDF2 hok hc ht htt hw1 hok1 hc1 ht1 htt1 hf xs es ys (by simpa using e) hl δ s
    | true =>
      rw [if_pos rfl] at e
      obtain ⟨y, e2, e⟩ := bind_of e
      obtain ⟨zs, e3, e⟩ := bind_of e
      cases some_of e
      obtain ⟨u, e4, e5⟩ := bind_of e2
      rw [List.length_append] at hl
      simp only [if_true, hw1 x u e4 δ1 s1, lcDF (hok1 x) (hc1 x) (ht1 x u) (htt1 x u) (hf x u) (xs1 x u) es y e5 (by omega) δ1 s1, un]
      rw [lcDF2 hok hc ht htt hw1 hok1 hc1 ht1 htt1 hf xs (es ++ y.map enc) zs e3 (by simp; omega) δ s]
      simp
theorem pu_lc2 [Enc α] [Enc α1] [Enc γ] {p : Option β} {xs : β → List α} {ΓT : β → α → Ga} {pt : β → α → Option Bool} {p1 : β → α → Option ε} {xs1 : β → α → ε → List α1} {ΓT1 : β → α → ε → α1 → Ga} {pt1 : β → α → ε → α1 → Option Bool} {pe : β → α → ε → α1 → Option γ} (hw : ItP w Γ p fun v => (xs v).map enc) (hok : okP vs Γ = true) (hc : calm vs Γ = true) (ht : ∀ v x, Tg vs t (wipeP vs Γ) (enc x) (ΓT v x)) (htt : ∀ v x, Ts tt (ΓT v x) (pt v x))
    (hw1 : ∀ v x, ItP w1 (ΓT v x) (p1 v x) fun u => (xs1 v x u).map enc) (hok1 : ∀ v x, okP vs1 (ΓT v x) = true) (hc1 : ∀ v x, calm vs1 (ΓT v x) = true) (ht1 : ∀ v x u y, Tg vs1 t1 (wipeP vs1 (ΓT v x)) (enc y) (ΓT1 v x u y)) (htt1 : ∀ v x u y, Ts tt1 (ΓT1 v x u y) (pt1 v x u y)) (hf : ∀ v x u y, Pu f (ΓT1 v x u y) (pe v x u y) fun z => .val (enc z)) :
    Pu (sLc2 w vs t tt w1 vs1 t1 tt1 f) Γ (p.bind fun v => (flF (xs v) (pt v) fun x => (p1 v x).bind fun u => mapF (xs1 v x u) (pt1 v x u) (pe v x u)).bind fun r => if r.length ≤ cap then some r else none) fun r => .tmp (ow r) := fun r e δ s => by
  obtain ⟨v, e1, e⟩ := bind_of e
  obtain ⟨r', e2, e⟩ := bind_of e
  by_cases c : r'.length ≤ cap
  · rw [if_pos c] at e
    cases some_of e
    unfold sLc2
    rw [hw v e1 δ s]
    show (match lcD2 vs t tt w1 vs1 t1 tt1 f ((xs v).map enc) [] δ with | some z => Rs.ok (AV.tmp (.ol (z.1.map .fz))) z.2 | none => .bad) = _
    rw [lcDF2 hok hc (ht v) (htt v) (hw1 v) (hok1 v) (hc1 v) (ht1 v) (htt1 v) (hf v) (xs v) [] _ e2 (by simpa using c) δ s]
    show Rs.ok (AV.tmp (.ol (([] ++ List.map enc _).map .fz))) δ = _
    rw [List.nil_append]
    rfl
  · rw [if_neg c] at e
    cases e
end
end Nv
namespace P
open PySem PySem.Spec PyProof.Rows L2 Hb Nv
open Enc (enc)
def B_places_in_twos : List Sl → Ot :=
    oRet (sLc2 (wRng1 (sVar 0)) [1, 2] (tgN 1) (tOk) (wRng2 (s2 gAdd (sVar 1) (sC (.int 1))) (sVar 0)) [2] (tgN 2) (tOk) (sTk (sTup (lCons (sVar 1) (lCons (sVar 2) (lNil))))))
def F_places_in_twos : List Sl → FR := fnRun 1 3 [] B_places_in_twos
def n_places_in_twos (a0 : Int) : Option ((List (Int × Int))) :=
    (Option.bind (Option.bind (Option.bind (some a0) fun x1 => ri1 x1) fun x2 => Option.bind (flF x2 (fun x3 => (some true)) (fun x3 => Option.bind (Option.bind (Option.bind (some x3) fun x7 => Option.bind (some (1 : Int)) fun x8 => addI x7 x8) fun x9 => Option.bind (some a0) fun x10 => ri2 x9 x10) fun x4 => mapF x4 (fun x5 => (some true)) (fun x5 => (Option.bind (Option.bind (some x3) fun x11 => Option.bind (Option.bind (some x5) fun x12 => Option.bind (some ()) fun x14 => some (x12, x14)) fun x15 => some (x11, x15)) fun x13 => some (((Prod.fst x13), (Prod.fst (Prod.snd x13))) : (Int × Int)))))) fun x6 => if List.length x6 ≤ cap then some x6 else none) fun x16 => some x16)
theorem V_places_in_twos (a0 : Int) : Fun F_places_in_twos (n_places_in_twos a0) [.fz (enc a0)] (fun r : ((List (Int × Int))) => ow (r : (List (Int × Int)))) fun r => [.no] :=
  fun_of (ΓR := fun r => [.aa, .aa, .aa]) (show Bl B_places_in_twos _ _ _ from (bl_ga [.eq (.fz (enc (a0 : Int))), .eq .no, .eq .no] (by kernel_rfl) (bl_retT ((pu_lc2 (vs := [1, 2]) (vs1 := [2]) (ip_rng1 ((pu_var 0 rfl)).tkP) rfl rfl (fun x2 x3 => tg_n) (fun x2 x3 => (ts_ga [.eq (.fz (enc (a0 : Int))), .eq (.fz (enc (x3 : Int))), .eq .no] (by kernel_rfl) ts_ok)) (fun x2 x3 => (itp_ga [.eq (.fz (enc (a0 : Int))), .eq (.fz (enc (x3 : Int))), .eq .no] (by kernel_rfl) (ip_rng2 ((pu2 Nv.op_add ((pu_var 1 rfl)).rd (pu_c).rd)).tkP ((pu_var 0 rfl)).tkP))) (fun _ _ => by kernel_rfl) (fun _ _ => by kernel_rfl) (fun x2 x3 x4 x5 => tg_n) (fun x2 x3 x4 x5 => (ts_ga [.eq (.fz (enc (a0 : Int))), .eq (.fz (enc (x3 : Int))), .eq (.fz (enc (x5 : Int)))] (by kernel_rfl) ts_ok)) fun x2 x3 x4 x5 => (pu_ga [.eq (.fz (enc (a0 : Int))), .eq (.fz (enc (x3 : Int))), .eq (.fz (enc (x5 : Int)))] (by kernel_rfl) ((pu_tup (dp_cons ((pu_var 1 rfl)).tkP (dp_cons ((pu_var 2 rfl)).tkP dp_nil)) (fun x13 => (((Prod.fst x13), (Prod.fst (Prod.snd x13))) : (Int × Int))))).tkP))).ev fun x16 => (rf_eq rfl (.cons .aa (.cons .aa (.cons .aa .nil)))))))
end P
namespace P
open PySem PySem.Spec PyProof.Rows L2 Hb Nv
open Enc (enc)
def B_turns_once : List Sl → Ot :=
    oSeq (oAsg (sTk (sLc false (wSeq (sVar 2)) [7] (tgN 7) (tOk) (sTk (sCall F_ranks_in [] (rCons (sTk (s2 gIx2 (sVar 1) (sVar 7))) (rNil)))))) (tgN 3))
    (oSeq (oFor (wSeq (sCall F_places_in_twos [] (rCons (sTk (sVar 0)) (rNil)))) (tgT 2 (tgCons (tgN 4) (tgCons (tgN 5) (tgNil)))) (oSeq (oAsg (sTk (sLc false (wSeq (sVar 3)) [8] (tgN 8) (tOk) (sTk (s2 gLt (s2 gIx2 (sVar 8) (sVar 4)) (s2 gIx2 (sVar 8) (sVar 5)))))) (tgN 6))
    (oIf (sTst (s2 gGt (s1 (gRd lenD) (sLc false (wRng2 (sC (.int 1)) (s1 (gRd lenD) (sVar 6))) [9] (tgN 9) (sTst (s2 gNe (s2 gIx2 (sVar 6) (sVar 9)) (s2 gIx2 (sVar 6) (s2 gSub (sVar 9) (sC (.int 1)))))) (sTk (sVar 9)))) (sC (.int 1)))) (oRet (sC (.bool false))) (oNext))))
    (oRet (sC (.bool true))))
def F_turns_once : List Sl → FR := fnRun 3 10 [] B_turns_once
def n_turns_once (a0 : Int) (a1 : (List (List Int))) (a2 : (List Int)) : Option (Bool) :=
    (Option.bind (Option.bind (some a2) fun x1 => if List.length (x1) ≤ cap then mapF x1 (fun x2 => (some true)) (fun x2 => (Option.bind (Option.bind (Option.bind (some a1) fun x3 => Option.bind (some x2) fun x4 => atL x3 x4) fun x5 => Option.bind (some ()) fun x6 => some (x5, x6)) fun x7 => n_ranks_in ((Prod.fst x7) : (List Int)))) else none) fun x8 => (Option.bind (Option.bind (Option.bind (some a0) fun x9 => Option.bind (some ()) fun x10 => some (x9, x10)) fun x11 => n_places_in_twos ((Prod.fst x11) : Int)) fun x12 => Option.bind (forF (ρ := (Bool)) x12 (() : Unit) fun s14 x13 => (Option.bind (Option.bind (some x8) fun x15 => if List.length (x15) ≤ cap then mapF x15 (fun x16 => (some true)) (fun x16 => (Option.bind (Option.bind (some x16) fun x17 => Option.bind (some (Prod.fst x13)) fun x18 => atL x17 x18) fun x21 => Option.bind (Option.bind (some x16) fun x19 => Option.bind (some (Prod.snd x13)) fun x20 => atL x19 x20) fun x22 => ltI x21 x22)) else none) fun x23 => (Option.bind (Option.bind (Option.bind (Option.bind (Option.bind (some (1 : Int)) fun x25 => Option.bind (Option.bind (some x23) fun x24 => lenL x24) fun x26 => ri2 x25 x26) fun x27 => if List.length (x27) ≤ cap then mapF x27 (fun x28 => (Option.bind (Option.bind (some x23) fun x29 => Option.bind (some x28) fun x30 => atL x29 x30) fun x35 => Option.bind (Option.bind (some x23) fun x33 => Option.bind (Option.bind (some x28) fun x31 => Option.bind (some (1 : Int)) fun x32 => subI x31 x32) fun x34 => atL x33 x34) fun x36 => neN x35 x36)) (fun x28 => (some x28)) else none) fun x37 => lenL x37) fun x38 => Option.bind (some (1 : Int)) fun x39 => gtI x38 x39) fun x40 => if x40 = true then (Option.bind (some false) fun x41 => some (.rt x41)) else some (.nx (() : Unit))))) fun o44 => Fl.el o44 (fun s14 => (Option.bind (some true) fun x42 => some x42)) fun r43 => some r43))
theorem V_turns_once (a0 : Int) (a1 : (List (List Int))) (a2 : (List Int)) : Fun F_turns_once (n_turns_once a0 a1 a2) [.fz (enc a0), .fz (enc a1), .fz (enc a2)] (fun r : (Bool) => .fz (enc (r : Bool))) fun r => [.no, .no, .no] :=
  fun_of (ΓR := fun r => [.aa, .aa, .aa, .aa, .aa, .aa, .aa, .aa, .aa, .aa]) (show Bl B_turns_once _ _ _ from (bl_ga [.eq (.fz (enc (a0 : Int))), .eq (.fz (enc (a1 : (List (List Int))))), .eq (.fz (enc (a2 : (List Int)))), .eq .no, .eq .no, .eq .no, .eq .no, .eq .no, .eq .no, .eq .no] (by kernel_rfl) (bl_asgV ((((pu_lc (vs := [7]) (ip_seq (xs := fun v => v) ((pu_var 2 rfl)).tkP) rfl rfl (fun x1 x2 => tg_n) (fun x1 x2 => (ts_ga [.eq (.fz (enc (a0 : Int))), .eq (.fz (enc (a1 : (List (List Int))))), .eq (.fz (enc (a2 : (List Int)))), .eq .no, .eq .no, .eq .no, .eq .no, .eq (.fz (enc (x2 : Int))), .eq .no, .eq .no] (by kernel_rfl) ts_ok)) fun x1 x2 => (pu_ga [.eq (.fz (enc (a0 : Int))), .eq (.fz (enc (a1 : (List (List Int))))), .eq (.fz (enc (a2 : (List Int)))), .eq .no, .eq .no, .eq .no, .eq .no, .eq (.fz (enc (x2 : Int))), .eq .no, .eq .no] (by kernel_rfl) (((pu_call (ap_cons ((pu2 Nv.op_ix2 ((pu_var 1 rfl)).rd ((pu_var 7 rfl)).rd)).tkP ap_nil) (fun x7 => V_ranks_in ((Prod.fst x7) : (List Int))))).tkTP ow_tree)))).tkTP ow_tree)).ev fun x8 => (bl_ga [.eq (.fz (enc (a0 : Int))), .eq (.fz (enc (a1 : (List (List Int))))), .eq (.fz (enc (a2 : (List Int)))), .eq (.fz (enc (x8 : (List (List Int))))), .eq .no, .eq .no, .eq .no, .eq .no, .eq .no, .eq .no] (by kernel_rfl) (bl_forF (Q := (RF (ρ := (Bool)) (fun r => .eq (.fz (enc (r : Bool)))) fun r => [.aa, .aa, .aa, .aa, .aa, .aa, .aa, .aa, .aa, .aa])) (vs := [4, 5]) (xs := fun x12 => x12) (s0 := fun x12 => (() : Unit)) (ΓL := fun x12 (s14 : Unit) => [.eq (.fz (enc (a0 : Int))), .eq (.fz (enc (a1 : (List (List Int))))), .eq (.fz (enc (a2 : (List Int)))), .eq (.fz (enc (x8 : (List (List Int))))), .pl, .pl, .pl, .eq .no, .eq .no, .eq .no]) (kr := fun r43 => some r43) ((ip_seq (xs := fun v => v) (((pu_call (ap_cons ((pu_var 0 rfl)).tkP ap_nil) (fun x11 => V_places_in_twos ((Prod.fst x11) : Int)))).tkTP ow_tree))).it (fun x12 => (.cons .rfl (.cons .rfl (.cons .rfl (.cons .rfl (.cons .no (.cons .no (.cons .no (.cons .rfl (.cons .rfl (.cons .rfl .nil))))))))))) (fun x12 s14 x13 => (tg_t (tgs_cons tg_n (tgs_cons tg_n tgs_nil)))) (fun x12 s14 x13 => (bl_ga [.eq (.fz (enc (a0 : Int))), .eq (.fz (enc (a1 : (List (List Int))))), .eq (.fz (enc (a2 : (List Int)))), .eq (.fz (enc (x8 : (List (List Int))))), .eq (.fz (enc ((Prod.fst x13) : Int))), .eq (.fz (enc ((Prod.snd x13) : Int))), .pl, .eq .no, .eq .no, .eq .no] (by kernel_rfl) (bl_asgV ((((pu_lc (vs := [8]) (ip_seq (xs := fun v => v) ((pu_var 3 rfl)).tkP) rfl rfl (fun x15 x16 => tg_n) (fun x15 x16 => (ts_ga [.eq (.fz (enc (a0 : Int))), .eq (.fz (enc (a1 : (List (List Int))))), .eq (.fz (enc (a2 : (List Int)))), .eq (.fz (enc (x8 : (List (List Int))))), .eq (.fz (enc ((Prod.fst x13) : Int))), .eq (.fz (enc ((Prod.snd x13) : Int))), .pl, .eq .no, .eq (.fz (enc (x16 : (List Int)))), .eq .no] (by kernel_rfl) ts_ok)) fun x15 x16 => (pu_ga [.eq (.fz (enc (a0 : Int))), .eq (.fz (enc (a1 : (List (List Int))))), .eq (.fz (enc (a2 : (List Int)))), .eq (.fz (enc (x8 : (List (List Int))))), .eq (.fz (enc ((Prod.fst x13) : Int))), .eq (.fz (enc ((Prod.snd x13) : Int))), .pl, .eq .no, .eq (.fz (enc (x16 : (List Int)))), .eq .no] (by kernel_rfl) ((pu2 Nv.op_lt ((pu2 Nv.op_ix2 ((pu_var 8 rfl)).rd ((pu_var 4 rfl)).rd)).rd ((pu2 Nv.op_ix2 ((pu_var 8 rfl)).rd ((pu_var 5 rfl)).rd)).rd)).tkP))).tkTP ow_tree)).ev fun x23 => (bl_ga [.eq (.fz (enc (a0 : Int))), .eq (.fz (enc (a1 : (List (List Int))))), .eq (.fz (enc (a2 : (List Int)))), .eq (.fz (enc (x8 : (List (List Int))))), .eq (.fz (enc ((Prod.fst x13) : Int))), .eq (.fz (enc ((Prod.snd x13) : Int))), .eq (.fz (enc (x23 : (List Bool)))), .eq .no, .eq .no, .eq .no] (by kernel_rfl) (bl_last (bl_if (k := fun x40 => x40) ((ts_tst (pu2 Nv.op_gt ((pu1A Nv.op_len ((((pu_lc (vs := [9]) (ip_rng2 (pu_c).tkP ((pu1A Nv.op_len (((pu_var 6 rfl)).rd).ra)).tkP) rfl rfl (fun x27 x28 => tg_n) (fun x27 x28 => (ts_ga [.eq (.fz (enc (a0 : Int))), .eq (.fz (enc (a1 : (List (List Int))))), .eq (.fz (enc (a2 : (List Int)))), .eq (.fz (enc (x8 : (List (List Int))))), .eq (.fz (enc ((Prod.fst x13) : Int))), .eq (.fz (enc ((Prod.snd x13) : Int))), .eq (.fz (enc (x23 : (List Bool)))), .eq .no, .eq .no, .eq (.fz (enc (x28 : Int)))] (by kernel_rfl) (ts_tst (pu2A Nv.op_ne (((pu2 Nv.op_ix2 ((pu_var 6 rfl)).rd ((pu_var 9 rfl)).rd)).rd).ra (((pu2 Nv.op_ix2 ((pu_var 6 rfl)).rd ((pu2 Nv.op_sub ((pu_var 9 rfl)).rd (pu_c).rd)).rd)).rd).ra)))) fun x27 x28 => (pu_ga [.eq (.fz (enc (a0 : Int))), .eq (.fz (enc (a1 : (List (List Int))))), .eq (.fz (enc (a2 : (List Int)))), .eq (.fz (enc (x8 : (List (List Int))))), .eq (.fz (enc ((Prod.fst x13) : Int))), .eq (.fz (enc ((Prod.snd x13) : Int))), .eq (.fz (enc (x23 : (List Bool)))), .eq .no, .eq .no, .eq (.fz (enc (x28 : Int)))] (by kernel_rfl) ((pu_var 9 rfl)).tkP))).rdT ow_tree)).ra)).rd (pu_c).rd))).te' (fun x40 => (bl_retS (bl_retV (pu_c).ev fun x41 => (rl_rt (rf_eq rfl (.cons .aa (.cons .aa (.cons .aa (.cons .aa (.cons .aa (.cons .aa (.cons .aa (.cons .aa (.cons .aa (.cons .aa .nil))))))))))))))) fun x40 => (bl_next (bl_end (rl_nx (.cons .rfl (.cons .rfl (.cons .rfl (.cons .rfl (.cons .fz (.cons .fz (.cons .fz (.cons .rfl (.cons .rfl (.cons .rfl .nil))))))))))))))))))) (fun v z u d hz h => by cases (Option.some.inj hz); exact h) fun x12 s14 => (bl_retV (pu_c).ev fun x42 => (rf_eq rfl (.cons .aa (.cons .aa (.cons .aa (.cons .aa (.cons .aa (.cons .aa (.cons .aa (.cons .aa (.cons .aa (.cons .aa .nil)))))))))))))))))
end P
namespace Nv
open PySem Hb L2
open Enc (enc)
def rowA : PyData → Option (List Int)
  | .list ds => intsOf ds
  | _ => none
def asRows : List PyData → Option (List (List Int))
  | [] => some []
  | d :: r => (rowA d).bind fun x => (asRows r).map (x :: ·)
theorem rowA_eq {d : PyData} {x : List Int} (h : rowA d = some x) : d = enc x := by
  cases d with
  | list ds => rw [intsOf_eq (show intsOf ds = some x from h)]; rfl
  | _ => cases h
theorem asRows_eq : ∀ {ds : List PyData} {xs : List (List Int)}, asRows ds = some xs → ds = xs.map enc
  | [], xs, h => by cases h; rfl
  | d :: r, xs, h => by
    have h : ((rowA d).bind fun x => (asRows r).map (x :: ·)) = some xs := h
    obtain ⟨x, e1, e2⟩ := Option.bind_eq_some_iff.mp h
    obtain ⟨t, e3, rfl⟩ := Option.map_eq_some_iff.mp e2
    rw [rowA_eq e1, asRows_eq e3]
    rfl
theorem enc_anyR (xs : List (List Int)) : ow (xs.map enc : List PyData) = ow xs := by
  unfold ow
  rw [List.map_map]
  rfl
section
variable {α β ρ ε ζ : Type} {Γ : Ga} {f : List Sl → Rs AV} {g : List Sl → Ot} {R : ζ → Ot → Prop}
theorem ts_tr {d : PyData} {s : Sl} (h : (Pt.ts d).Ok s) : (Pt.tr d).Ok s := h.imp id And.left
/-- a def whose result is a list of its own, or no list -/
def FunS (F : List Sl → FR) (n : Option ρ) (ins : List Sl) (d : ρ → PyData) (out : ρ → List Sl) : Prop := ∀ r, n = some r → ∃ s, F ins = .ok s (out r) ∧ (Pt.ts (d r)).Ok s
theorem FunS.m {F : List Sl → FR} {n : Option ρ} {ins : List Sl} {d : ρ → PyData} {out : ρ → List Sl} (h : FunS F n ins d out) : FunM F n ins d out := fun r e => let ⟨s, h1, h2⟩ := h r e; ⟨s, h1, ts_tr h2⟩
def EmS (f : List Sl → Rs AV) (Γ : Ga) (p : Option β) (d : β → PyData) (Γ' : β → Ga) : Prop := ∀ v, p = some v → ∀ δ, Sat Γ δ → ∃ s δ', f δ = .ok (AV.ofSl s) δ' ∧ (Pt.ts (d v)).Ok s ∧ Sat (Γ' v) δ'
theorem em_callS {F : List Sl → FR} {dd : List PyData} {q : Option β} {as : β → List Ar} {n : β → Option ρ} {ins : β → List Sl} {d : ρ → PyData} {out : ρ → List Sl} {g : List Sl → Rs (List Ar)} (hg : AgP g Γ q as) (hF : ∀ v, FunS F (n v) (ins v) d out) (hi : ∀ v, insOf (as v ++ dd.map .fz) = some (ins v) := by intro _; rfl) : EmS (sCall F dd g) Γ (q.bind n) d (fun _ => Γ) := fun r e δ s => by
  obtain ⟨v, e1, e⟩ := bind_of e
  obtain ⟨t, hF1, hF2⟩ := hF v r e
  have h1 : sCall F dd g δ = .ok (AV.ofSl t) δ := by
    unfold sCall
    rw [hg v e1 δ s]
    exact callF_pure (hi v) hF1
  exact ⟨t, δ, h1, hF2, s⟩
theorem bl_asgS {k : Nat} {p : Option ε} {d : ε → PyData} {Γ1 : ε → Ga} {kont : ε → Option ζ} (h : EmS f Γ p d Γ1) (k2 : ∀ v, Bl g (upP k (.ts (d v)) (Γ1 v)) (kont v) R) : Bl (oSeq (oAsg f (tgN k)) g) Γ (p.bind kont) R := fun r e δ s => by
  obtain ⟨v, e1, e⟩ := bind_of e
  obtain ⟨t, δ1, h1, h2, s1⟩ := h v e1 δ s
  rw [nx_of (show oAsg f (tgN k) δ = .nx (upS k t δ1) by
    unfold oAsg
    rw [h1]
    rcases h2 with ⟨_, ds, rfl⟩ | ⟨rfl, _⟩ <;> rfl)]
  exact k2 v r e _ (s1.up h2)
theorem bl_retRs [Enc α] {k : Nat} {x : α} {κ : ζ} (h0 : Γ[k]? = some (.ts (enc x))) (k2 : ∀ t δ', (Pt.ts (enc x)).Ok t → Sat (loseP k Γ) δ' → R κ (.rt t δ')) : Bl (oRet (sVar k)) Γ (some κ) R := fun r e δ s => by
  cases some_of e
  obtain ⟨t, h1, h2⟩ := s.get h0
  rcases h2 with ⟨h3, ds, rfl⟩ | ⟨rfl, hL⟩
  · have h4 : sMv (sVar k) δ = .ok (.tmp (.ol (ds.map .fz))) (upS k .no δ) := by
      unfold sMv
      rw [sVar_own h1]
      show moveI k δ = _
      unfold moveI
      rw [h1]
    have : oRet (sVar k) δ = .rt (.ol (ds.map .fz)) (upS k .no δ) := by unfold oRet; rw [h4]; rfl
    rw [this]
    exact k2 _ _ (.inl ⟨h3, ds, rfl⟩) (lose_no s)
  · have h4 : sVar k δ = .ok (.val (enc x)) δ := by unfold sVar; rw [h1]
    have : oRet (sVar k) δ = .rt (.fz (enc x)) δ := by unfold oRet; rw [sMv_val h4]; rfl
    rw [this]
    exact k2 _ _ (.inr ⟨rfl, hL⟩) (lose_same s h1 rfl)
theorem funS_of {B : List Sl → Ot} {n m : Nat} {pin : List Nat} {p : Option ρ} {ins : List Sl} {d : ρ → PyData} {ΓR : ρ → Ga} {out : ρ → List Sl} (h : Bl B ((ins ++ List.replicate (m - n) Sl.no).map Pt.eq) p (RF (fun r => .ts (d r)) ΓR)) (ho : ∀ r, outsP n pin (ΓR r) = some (out r) := by intro _; rfl) : FunS (fnRun n m pin B) p ins d out := fun r e => by
  obtain ⟨s, δ', h1, h2, h3⟩ := h r e _ (sat_eqs _)
  have ho := outsP_ok (ho r) h3
  refine ⟨s, ?_, h2⟩
  unfold fnRun
  rcases h1 with h1 | ⟨h1, h4⟩
  · simp only [h1, ho]
  · simp only [h1, ho, h4]
theorem sat_gaS {d : PyData} {Q : Sl → List Sl → Prop} (Δ : Ga) (h : Γ = Δ) (k : ∀ t δ', (Pt.ts d).Ok t → Sat Δ δ' → Q t δ') : ∀ t δ', (Pt.ts d).Ok t → Sat Γ δ' → Q t δ' := by subst h; exact k
end
section
variable {ζ : Type} {Γ : Ga} {g : List Sl → Ot} {R : ζ → Ot → Prop}
theorem set_same {Γ : Ga} {k : Nat} {p : Pt} (h : Γ[k]? = some p) : Γ.set k p = Γ := by
  obtain ⟨hl, he⟩ := List.getElem?_eq_some_iff.mp h
  rw [← he, List.set_getElem_self]
/-- rows of any kind are rows of whole numbers -/
theorem bl_reR {k : Nat} {xs : List PyData} {p : List (List Int) → Option ζ} (h0 : Γ[k]? = some (.eq (ow xs))) (h : ∀ ys, Bl g (Γ.set k (.eq (ow ys))) (p ys) R) : Bl g Γ ((asRows xs).bind p) R := fun r e δ s => by
  obtain ⟨ys, e1, e2⟩ := bind_of e
  refine h ys r e2 δ ?_
  have : xs = ys.map enc := asRows_eq e1
  rw [this, enc_anyR] at h0
  rw [set_same h0]
  exact s
/-- it is a list of whole numbers, of one's own -/
theorem bl_reT {k : Nat} {d : PyData} {p : List Int → Option ζ} (h0 : Γ[k]? = some (.ts d)) (h : ∀ ys, Bl g (Γ.set k (.eq (ow ys))) (p ys) R) : Bl g Γ ((rowA d).bind p) R := fun r e δ s => by
  obtain ⟨ys, e1, e2⟩ := bind_of e
  refine h ys r e2 δ ?_
  have hd := rowA_eq e1
  obtain ⟨t, q1, q2⟩ := s.get h0
  have ht : t = ow ys := by
    rcases q2 with ⟨q3, ds, q4⟩ | ⟨_, q4⟩
    · rw [q4] at q3 ⊢
      have : (Sl.ol (ds.map .fz)).tree = some (.list ds) := by
        show some (PyData.list _) = _
        rw [map_fzd]
      rw [this, hd] at q3
      have q5 : ds = ys.map enc := PyData.list.inj (Option.some.inj q3)
      rw [q5]
      rfl
    · rw [hd] at q4
      cases q4
  have s2 := s.set (p := .eq (ow ys)) (s := t) ht k
  have e3 : δ.set k t = δ := by
    obtain ⟨hl, he⟩ := List.getElem?_eq_some_iff.mp q1
    rw [← he, List.set_getElem_self]
  rwa [e3] at s2
theorem ow_anyL {α : Type} [Enc α] (xs : List α) : ow (xs.map enc : List PyData) = ow xs := by
  unfold ow
  rw [List.map_map]
  rfl
/-- a list as one of anything -/
theorem bl_reL {α : Type} [Enc α] {k : Nat} {xs : List α} {p : Option ζ} (h0 : Γ[k]? = some (.eq (ow xs))) (h : Bl g (Γ.set k (.eq (ow (xs.map enc : List PyData)))) p R) : Bl g Γ p R := fun r e δ s => by
  refine h r e δ ?_
  rw [ow_anyL, set_same h0]
  exact s
end
end Nv
namespace Hb
open PySem PySem.Spec PyProof.Rows L2
open PySem.W (AlikeAll)
theorem depthAll_le : ∀ {ds : List PyData} {n : Nat}, (∀ d ∈ ds, d.depth ≤ n) → PyData.depthAll ds ≤ n
  | [], n, _ => by simp [PyData.depthAll]
  | d :: r, n, h => by
    have h1 := h d (by simp)
    have h2 := depthAll_le (ds := r) (n := n) fun x hx => h x (by simp [hx])
    simp only [PyData.depthAll]
    omega
def rMinD (K : PySem.W.Frag) : List V → Hp → VK → Prop := fun vs H Q => ∃ (a : Addr) (ys : List V) (d : PyData) (ds : List PyData), vs = [V.ref a] ∧ SqX K H a ys ∧ RpL K H ys (d :: ds) ∧ sortOk (d :: ds) = true ∧ ∀ (i : Nat) (v : V), ys[i]? = some v → (d :: ds)[i]? = some (PySem.W.minD d ds) → Q v H
theorem sortOk_al {ds : List PyData} (h : sortOk ds = true) : AlikeAll ds := by
  obtain ⟨h1, h2, _⟩ := sortOk_ok h
  refine ⟨fun x hx y hy => h1 x hx y hy, fun x hx => ?_⟩
  rcases h2 with h2 | h2
  · obtain ⟨y, r, e⟩ := h2 x hx
    rw [e]
    exact fun z => nomatch z
  · exact (h2 x hx).1
theorem cr_minD {X : Cx} (hc : X.calm = true) (hu : X.A.units + 64 < cLine) : CallR X (.builtin "min") (rMinD X.K) := by
  intro pins s σ H vs us Q I r h
  obtain ⟨a, ys, d, ds, rfl, hX, hr, ok, q⟩ := h
  obtain ⟨_, _, h3, h4, _⟩ := sortOk_ok ok
  obtain ⟨its, n, rv, e, hz⟩ := inv_lstX I hX
  rw [Vals.ref1 r]
  obtain ⟨as, ra⟩ := readsAll_of I hr rv h4
  have hl : s.heap.IsList a its.toArray := ⟨_, e, rfl, n, rfl⟩
  have hD : PyData.depthAll (d :: ds) ≤ 60 := depthAll_le h3
  have ra' : ReadsAll s.heap its.toArray.toList (d :: ds) as := by simpa using ra
  have hn : its.toArray.size = ds.length + 1 := PySem.W.readsAll_len ra'
  refine PySem.call_min_walkH (PySem.W.iter_listW (A := X.A.in1) (I.ok.hd hc) hl fun s₂ e2 W st hfp hw hk => ?_)
  refine ⟨_, _, _, _, _, _, _, s.heap, _, rfl, W, st, hfp, by omega, hw, hk, PySem.W.cmpIn_lt (A := X.A.in1) ra' (sortOk_al ok) (by show X.A.units + 1 + _ < _; omega), fun v s' hP m => ?_⟩
  obtain ⟨h', tk, rfl, hk'⟩ := PySem.W.moved_old e2 rfl m
  have e1 : its.toArray.size - 1 = ds.length := by omega
  obtain ⟨q1, q2⟩ := PySem.W.argBest_fold PySem.W.dataLt PyData.none d ds ds.length (Nat.le_refl _)
  rw [List.take_length] at q2
  rw [e1] at hP
  generalize argBest (fun i j => PySem.W.dataLt ((d :: ds).getD i PyData.none) ((d :: ds).getD j PyData.none)) ds.length = i at hP q1 q2
  have lt : i < (d :: ds).length := by rw [List.length_cons]; omega
  have hd : (d :: ds)[i]? = some (PySem.W.minD d ds) := by
    unfold PySem.W.minD
    rw [← q2, List.getD_eq_getElem?_getD, List.getElem?_eq_getElem lt]
    rfl
  obtain ⟨u, g1, g2⟩ := hr.get hd
  have hP' : its[i]? = some v := by simpa using hP
  have rv' : RelV u v := by
    obtain ⟨w, k1, k2⟩ := rv.get g1
    rw [hP'] at k1
    cases k1
    exact k2
  exact ⟨u, H, I.kept hk', rv', q i u g1 hd⟩
def gMinDt (x : AV) (δ : List Sl) : Rs AV := match rdC δ x with
  | some (.list (d :: ds)) => if sortOk (d :: ds) = true then .ok (.val (PySem.W.minD d ds)) δ else .bad
  | _ => .bad
theorem c1_minD {K : PySem.W.Frag} {mg : Str → Option Value} {W : WX} {pin : List Nat} : C1 K mg W pin (rMinD K) gMinDt := by
  intro b Fz F δ σ H v x Q hp R A P
  unfold gMinDt at P
  cases q : rdC δ x with
  | none => simp only [q] at P; exact P.elim
  | some t =>
    have h := rdC_ok R A q
    cases t with
    | list es =>
      cases es with
      | nil => simp only [q] at P; exact P.elim
      | cons d ds =>
        simp only [q] at P
        by_cases c : sortOk (d :: ds) = true
        · rw [if_pos c] at P
          obtain ⟨a, vs, e1, s1, r1⟩ := h.list R.le
          refine ⟨a, vs, d, ds, by rw [e1], s1, r1.mono R.le, c, fun i u hu hd => ?_⟩
          obtain ⟨e, k1, k2⟩ := r1.getV hu
          rw [hd] at k1
          cases k1
          exact P u H Fz F (Same.refl _) R k2
        · rw [if_neg c] at P
          exact P.elim
    | _ => simp only [q] at P; exact P.elim
end Hb
namespace Nv
open PySem Hb L2
open Enc (enc)
def minR : List (List Int) → Option (List Int)
  | [] => none
  | x :: r => if sortOk ((x :: r).map enc) = true then some (r.foldl (fun a y => if y < a then y else a) x) else none
theorem ltR_enc (a b : List Int) : PySem.W.dataLt (enc a) (enc b) = decide (a < b) := by
  show PySem.W.dataLt (.list (a.map .int)) (.list (b.map .int)) = _
  rw [PySem.W.dataLt_list]
  exact PySem.W.dataLt_ints a b
theorem minR_enc : ∀ (r : List (List Int)) (x : List Int), PySem.W.minD (enc x) (r.map enc) = enc (r.foldl (fun a y => if y < a then y else a) x)
  | [], x => rfl
  | y :: r, x => by
    have ih := minR_enc r (if y < x then y else x)
    unfold PySem.W.minD at ih ⊢
    rw [List.map_cons, List.foldl_cons, List.foldl_cons, ← ih, ltR_enc]
    congr 1
    by_cases c : y < x <;> simp [c]
theorem op_minR : Op1 gMinDt minR fun r => .val (enc r) := fun v r δ x h _ e => by
  have h : rdC δ x = some (.list (v.map enc)) := h
  cases v with
  | nil => cases e
  | cons y v =>
    have e : (if sortOk ((y :: v).map enc) = true then some (v.foldl (fun a y => if y < a then y else a) y) else none) = some r := e
    by_cases c : sortOk ((y :: v).map enc) = true
    · rw [if_pos c] at e
      cases some_of e
      rw [List.map_cons] at h c
      simp only [gMinDt, h, if_pos c, minR_enc]
    · rw [if_neg c] at e
      cases e
end Nv
namespace P
open PySem PySem.Spec PyProof.Rows L2 Hb Nv
open Enc (enc)
def B_least_row : List Sl → Ot :=
    oSeq (oIf (sTst (s2 (gEqE false) (sVar 1) (sLst (lNil)))) (oRet (sTk (sLst (lNil)))) (oNext))
    (oSeq (oAsg (sTk (sCall F_far_from [] (rCons (sTk (sVar 1)) (rCons (sTk (s2 gIx2 (sVar 1) (sC (.int 0)))) (rNil))))) (tgN 2))
    (oSeq (oAsg (sTk (s2 gIx2 (sVar 1) (sIdx (sVar 2) (s1 (gRd (overI maxI)) (sVar 2))))) (tgN 3))
    (oSeq (oAsg (sTk (sCall F_far_from [] (rCons (sTk (sVar 1)) (rCons (sTk (sVar 3)) (rNil))))) (tgN 4))
    (oSeq (oAsg (sLst (lNil)) (tgN 5))
    (oSeq (oFor (wSeq (sLst (lCons (sC (.int 1)) (lCons (s1 gNeg (sC (.int 1))) (lNil))))) (tgN 6) (oDrop (sApp (sVar 5) (sLc false (wSeq (s1 (gSortD) (sLc false (wRng1 (s1 (gRd lenD) (sVar 4))) [8] (tgN 8) (tOk) (sTk (sTup (lCons (s2 gMulX (sVar 6) (s2 gIx2 (sVar 4) (sVar 8))) (lCons (sVar 8) (lNil)))))))) [7, 8] (tgT 2 (tgCons (tgN 7) (tgCons (tgN 8) (tgNil)))) (tOk) (sTk (sVar 8))))))
    (oRet (sTk (sIf (sTru (sCall F_turns_once [] (rCons (sTk (sVar 0)) (rCons (sTk (sVar 1)) (rCons (sTk (s2 gIx2 (sVar 5) (sC (.int 0)))) (rNil)))))) (s1 (gMinDt) (sVar 5)) (sC .none)))))))))
def F_least_row : List Sl → FR := fnRun 2 9 [] B_least_row
def n_least_row (a0 : Int) (a1 : (List (List Int))) : Option ((Option (List Int))) :=
    (Option.bind (Option.bind (some a1) fun x1 => some (false != List.isEmpty x1)) fun x2 => if x2 = true then (Option.bind (some []) fun x3 => some (some x3)) else (Option.bind (Option.bind (Option.bind (some a1) fun x4 => Option.bind (Option.bind (Option.bind (some a1) fun x5 => Option.bind (some (0 : Int)) fun x6 => atL x5 x6) fun x7 => Option.bind (some ()) fun x8 => some (x7, x8)) fun x9 => some (x4, x9)) fun x10 => n_far_from ((Prod.fst x10) : (List (List Int))) ((Prod.fst (Prod.snd x10)) : (List Int))) fun x11 => (Option.bind (Option.bind (some a1) fun x15 => Option.bind (Option.bind (some x11) fun x13 => Option.bind (Option.bind (some x11) fun x12 => maxL x12) fun x14 => idxL x13 x14) fun x16 => atL x15 x16) fun x17 => (Option.bind (Option.bind (Option.bind (some a1) fun x18 => Option.bind (Option.bind (some x17) fun x19 => Option.bind (some ()) fun x20 => some (x19, x20)) fun x21 => some (x18, x21)) fun x22 => n_far_from ((Prod.fst x22) : (List (List Int))) ((Prod.fst (Prod.snd x22)) : (List Int))) fun x23 => (Option.bind (some []) fun x24 => (Option.bind (Option.bind (Option.bind (some (1 : Int)) fun x25 => Option.bind (Option.bind (Option.bind (some (1 : Int)) fun x26 => negI x26) fun x27 => Option.bind (some ()) fun x29 => some (x27, x29)) fun x30 => some (x25, x30)) fun x28 => some ([(Prod.fst x28), (Prod.fst (Prod.snd x28))] : (List Int))) fun x31 => Option.bind (forS x31 (x24 : (List (List Int))) fun s33 x32 => (Option.bind (Option.bind (Option.bind (Option.bind (Option.bind (Option.bind (Option.bind (some x23) fun x34 => lenL x34) fun x35 => ri1 x35) fun x36 => if List.length (x36) ≤ cap then mapF x36 (fun x37 => (some true)) (fun x37 => (Option.bind (Option.bind (Option.bind (some x32) fun x40 => Option.bind (Option.bind (some x23) fun x38 => Option.bind (some x37) fun x39 => atL x38 x39) fun x41 => mulI x40 x41) fun x42 => Option.bind (Option.bind (some x37) fun x43 => Option.bind (some ()) fun x45 => some (x43, x45)) fun x46 => some (x42, x46)) fun x44 => some (((Prod.fst x44), (Prod.fst (Prod.snd x44))) : (Int × Int)))) else none) fun x47 => srtD x47) fun x48 => if List.length (x48) ≤ cap then mapF x48 (fun x49 => (some true)) (fun x49 => (some (Prod.snd x49))) else none) fun x50 => Option.bind (apL s33 x50) fun x51 => some (x51, x50)) fun x52 => some ((Prod.fst x52) : (List (List Int))))) fun s33 => (Option.bind (Option.bind (Option.bind (Option.bind (some a0) fun x53 => Option.bind (Option.bind (some a1) fun x54 => Option.bind (Option.bind (Option.bind (some s33) fun x55 => Option.bind (some (0 : Int)) fun x56 => atL x55 x56) fun x57 => Option.bind (some ()) fun x58 => some (x57, x58)) fun x59 => some (x54, x59)) fun x60 => some (x53, x60)) fun x61 => n_turns_once ((Prod.fst x61) : Int) ((Prod.fst (Prod.snd x61)) : (List (List Int))) ((Prod.fst (Prod.snd (Prod.snd x61))) : (List Int))) fun x66 => if x66 = true then (Option.bind (Option.bind (some s33) fun x63 => minR x63) fun x64 => some ((some x64) : (Option (List Int)))) else (Option.bind (some ()) fun x65 => some ((none : (Option (List Int))) : (Option (List Int))))) fun x67 => some x67)))))))
theorem V_least_row (a0 : Int) (a1 : (List (List Int))) : Fun F_least_row (n_least_row a0 a1) [.fz (enc a0), .fz (enc a1)] (fun r : ((Option (List Int))) => .fz (enc (r : (Option (List Int))))) fun r => [.no, .no] :=
  fun_of (ΓR := fun r => [.aa, .aa, .aa, .aa, .aa, .aa, .aa, .aa, .aa]) (show Bl B_least_row _ _ _ from (bl_ga [.eq (.fz (enc (a0 : Int))), .eq (.fz (enc (a1 : (List (List Int))))), .eq .no, .eq .no, .eq .no, .eq .no, .eq .no, .eq .no, .eq .no] (by kernel_rfl) (bl_if (k := fun x2 => x2) ((ts_tst (pu_eqE (((pu_var 1 rfl)).rd).ra))).te' (fun x2 => (bl_retS (bl_retV (((pu_nil).tkTP ow_tree)).ev fun x3 => (rf_eq rfl (.cons .aa (.cons .aa (.cons .aa (.cons .aa (.cons .aa (.cons .aa (.cons .aa (.cons .aa (.cons .aa .nil))))))))))))) fun x2 => (bl_next (bl_asgV ((((pu_call (ap_cons ((pu_var 1 rfl)).tkP (ap_cons ((pu2 Nv.op_ix2 ((pu_var 1 rfl)).rd (pu_c).rd)).tkP ap_nil)) (fun x10 => V_far_from ((Prod.fst x10) : (List (List Int))) ((Prod.fst (Prod.snd x10)) : (List Int))))).tkTP ow_tree)).ev fun x11 => (bl_ga [.eq (.fz (enc (a0 : Int))), .eq (.fz (enc (a1 : (List (List Int))))), .eq (.fz (enc (x11 : (List Int)))), .eq .no, .eq .no, .eq .no, .eq .no, .eq .no, .eq .no] (by kernel_rfl) (bl_asgV (((pu2 Nv.op_ix2 ((pu_var 1 rfl)).rd ((pu_idx ((pu_var 2 rfl)).rd ((pu1A Nv.op_maxL (((pu_var 2 rfl)).rd).ra)).rd)).rd)).tkP).ev fun x17 => (bl_ga [.eq (.fz (enc (a0 : Int))), .eq (.fz (enc (a1 : (List (List Int))))), .eq (.fz (enc (x11 : (List Int)))), .eq (.fz (enc (x17 : (List Int)))), .eq .no, .eq .no, .eq .no, .eq .no, .eq .no] (by kernel_rfl) (bl_asgV ((((pu_call (ap_cons ((pu_var 1 rfl)).tkP (ap_cons ((pu_var 3 rfl)).tkP ap_nil)) (fun x22 => V_far_from ((Prod.fst x22) : (List (List Int))) ((Prod.fst (Prod.snd x22)) : (List Int))))).tkTP ow_tree)).ev fun x23 => (bl_ga [.eq (.fz (enc (a0 : Int))), .eq (.fz (enc (a1 : (List (List Int))))), .eq (.fz (enc (x11 : (List Int)))), .eq (.fz (enc (x17 : (List Int)))), .eq (.fz (enc (x23 : (List Int)))), .eq .no, .eq .no, .eq .no, .eq .no] (by kernel_rfl) (bl_asgT (pu_nil).ev fun x24 => (bl_ga [.eq (.fz (enc (a0 : Int))), .eq (.fz (enc (a1 : (List (List Int))))), .eq (.fz (enc (x11 : (List Int)))), .eq (.fz (enc (x17 : (List Int)))), .eq (.fz (enc (x23 : (List Int)))), .eq (ow (x24 : (List (List Int)))), .eq .no, .eq .no, .eq .no] (by kernel_rfl) (bl_for (vs := [6]) (xs := fun x31 => x31) (s0 := fun x31 => (x24 : (List (List Int)))) (ΓL := fun x31 (s33 : (List (List Int))) => [.eq (.fz (enc (a0 : Int))), .eq (.fz (enc (a1 : (List (List Int))))), .eq (.fz (enc (x11 : (List Int)))), .eq (.fz (enc (x17 : (List Int)))), .eq (.fz (enc (x23 : (List Int)))), .eq (ow (s33 : (List (List Int)))), .pl, .eq .no, .eq .no]) ((ip_seq (xs := fun v => v) (((pu_lst (dp_cons (pu_c).tkP (dp_cons ((pu1 Nv.op_neg (pu_c).rd)).tkP dp_nil)) (fun x28 => ([(Prod.fst x28), (Prod.fst (Prod.snd x28))] : (List Int))))).tkTP ow_tree))).it (fun x31 => (.cons .rfl (.cons .rfl (.cons .rfl (.cons .rfl (.cons .rfl (.cons .rfl (.cons .no (.cons .rfl (.cons .rfl .nil)))))))))) (fun x31 s33 x32 => tg_n) (fun x31 s33 x32 => (bl_ga [.eq (.fz (enc (a0 : Int))), .eq (.fz (enc (a1 : (List (List Int))))), .eq (.fz (enc (x11 : (List Int)))), .eq (.fz (enc (x17 : (List Int)))), .eq (.fz (enc (x23 : (List Int)))), .eq (ow (s33 : (List (List Int)))), .eq (.fz (enc (x32 : Int))), .eq .no, .eq .no] (by kernel_rfl) (bl_last (bl_expr (ev_app (k := 5) (va := fun x50 => x50) (xs := fun x50 => s33) rfl rfl ((((pu_lc (vs := [7, 8]) (ip_seq (xs := fun v => v) (((pu1 Nv.op_srtD (((pu_lc (vs := [8]) (ip_rng1 ((pu1A Nv.op_len (((pu_var 4 rfl)).rd).ra)).tkP) rfl rfl (fun x36 x37 => tg_n) (fun x36 x37 => (ts_ga [.eq (.fz (enc (a0 : Int))), .eq (.fz (enc (a1 : (List (List Int))))), .eq (.fz (enc (x11 : (List Int)))), .eq (.fz (enc (x17 : (List Int)))), .eq (.fz (enc (x23 : (List Int)))), .eq (ow (s33 : (List (List Int)))), .eq (.fz (enc (x32 : Int))), .eq .no, .eq (.fz (enc (x37 : Int)))] (by kernel_rfl) ts_ok)) fun x36 x37 => (pu_ga [.eq (.fz (enc (a0 : Int))), .eq (.fz (enc (a1 : (List (List Int))))), .eq (.fz (enc (x11 : (List Int)))), .eq (.fz (enc (x17 : (List Int)))), .eq (.fz (enc (x23 : (List Int)))), .eq (ow (s33 : (List (List Int)))), .eq (.fz (enc (x32 : Int))), .eq .no, .eq (.fz (enc (x37 : Int)))] (by kernel_rfl) ((pu_tup (dp_cons ((pu2 Nv.op_mul ((pu_var 6 rfl)).rd ((pu2 Nv.op_ix2 ((pu_var 4 rfl)).rd ((pu_var 8 rfl)).rd)).rd)).tkP (dp_cons ((pu_var 8 rfl)).tkP dp_nil)) (fun x44 => (((Prod.fst x44), (Prod.fst (Prod.snd x44))) : (Int × Int))))).tkP))).rdT ow_tree))).tkTP ow_tree)) rfl rfl (fun x48 x49 => (tg_t (tgs_cons tg_n (tgs_cons tg_n tgs_nil)))) (fun x48 x49 => (ts_ga [.eq (.fz (enc (a0 : Int))), .eq (.fz (enc (a1 : (List (List Int))))), .eq (.fz (enc (x11 : (List Int)))), .eq (.fz (enc (x17 : (List Int)))), .eq (.fz (enc (x23 : (List Int)))), .eq (ow (s33 : (List (List Int)))), .eq (.fz (enc (x32 : Int))), .eq (.fz (enc ((Prod.fst x49) : Int))), .eq (.fz (enc ((Prod.snd x49) : Int)))] (by kernel_rfl) ts_ok)) fun x48 x49 => (pu_ga [.eq (.fz (enc (a0 : Int))), .eq (.fz (enc (a1 : (List (List Int))))), .eq (.fz (enc (x11 : (List Int)))), .eq (.fz (enc (x17 : (List Int)))), .eq (.fz (enc (x23 : (List Int)))), .eq (ow (s33 : (List (List Int)))), .eq (.fz (enc (x32 : Int))), .eq (.fz (enc ((Prod.fst x49) : Int))), .eq (.fz (enc ((Prod.snd x49) : Int)))] (by kernel_rfl) ((pu_var 8 rfl)).tkP))).tkTP ow_tree)).ev fun _ => rfl) fun x52 => (bl_ga [.eq (.fz (enc (a0 : Int))), .eq (.fz (enc (a1 : (List (List Int))))), .eq (.fz (enc (x11 : (List Int)))), .eq (.fz (enc (x17 : (List Int)))), .eq (.fz (enc (x23 : (List Int)))), .eq (ow ((Prod.fst x52) : (List (List Int)))), .eq (.fz (enc (x32 : Int))), .eq .no, .eq .no] (by kernel_rfl) (bl_end (rs_nx (.cons .rfl (.cons .rfl (.cons .rfl (.cons .rfl (.cons .rfl (.cons .rfl (.cons .fz (.cons .rfl (.cons .rfl .nil)))))))))))))))) fun x31 s33 => (bl_retV (((pu_if (ts_truB (((pu_call (ap_cons ((pu_var 0 rfl)).tkP (ap_cons ((pu_var 1 rfl)).tkP (ap_cons ((pu2 Nv.op_ix2 (rd_own 5 rfl) (pu_c).rd)).tkP ap_nil))) (fun x61 => V_turns_once ((Prod.fst x61) : Int) ((Prod.fst (Prod.snd x61)) : (List (List Int))) ((Prod.fst (Prod.snd (Prod.snd x61))) : (List Int))))).rd).ra) (pu_co (fun x64 => ((some x64) : (Option (List Int)))) (pu1 Nv.op_minR (rd_own 5 rfl))) (pu_co (fun x65 => ((none : (Option (List Int))) : (Option (List Int)))) pu_none))).tkP).ev fun x67 => (rf_eq rfl (.cons .aa (.cons .aa (.cons .aa (.cons .aa (.cons .aa (.cons .aa (.cons .aa (.cons .aa (.cons .aa .nil))))))))))))))))))))))))
end P
namespace P
open PySem PySem.Spec PyProof.Rows L2 Hb Nv
open Enc (enc)
def B_need_odd : List Sl → Ot :=
    oIf (sTst (s2 gEq (s2 gMod (s1 (gRd (overI fun ns => some (.int ns.sum))) (sVar 0)) (sC (.int 2))) (sC (.int 0)))) (oRaise "EvenVoters") (oNext)
def F_need_odd : List Sl → FR := fnRun 1 1 [] B_need_odd
def n_need_odd (a0 : (List Int)) : Option (Unit) :=
    (Option.bind (Option.bind (Option.bind (Option.bind (some a0) fun x1 => sumI x1) fun x2 => Option.bind (some (2 : Int)) fun x3 => modI x2 x3) fun x4 => Option.bind (some (0 : Int)) fun x5 => eqN x4 x5) fun x6 => if x6 = true then none else some ())
theorem V_need_odd (a0 : (List Int)) : Fun F_need_odd (n_need_odd a0) [.fz (enc a0)] (fun r : (Unit) => .fz (enc (r : Unit))) fun r => [.no] :=
  fun_of (ΓR := fun r => [.aa]) (show Bl B_need_odd _ _ _ from (bl_ga [.eq (.fz (enc (a0 : (List Int))))] (by kernel_rfl) (bl_last (bl_if (k := fun x6 => x6) ((ts_tst (pu2A Nv.op_eq (((pu2 Nv.op_mod ((pu1A Nv.op_sum (((pu_var 0 rfl)).rd).ra)).rd (pu_c).rd)).rd).ra ((pu_c).rd).ra))).te' (fun x6 => bl_bad) fun x6 => (bl_next (bl_end (rf_nx rfl (.cons .aa .nil))))))))
def x_need_odd (a0 : (List Int)) : Option Str :=
    (Option.bind (Option.bind (Option.bind (Option.bind (some a0) fun x7 => sumI x7) fun x8 => Option.bind (some (2 : Int)) fun x9 => modI x8 x9) fun x10 => Option.bind (some (0 : Int)) fun x11 => eqN x10 x11) fun x12 => if x12 = true then (some ("EvenVoters" : Str)) else none)
theorem X_need_odd (a0 : (List Int)) : FunX F_need_odd (x_need_odd a0) [.fz (enc a0)] :=
  funx_eq (Γx := [.aa]) (show Bl B_need_odd _ _ _ from (bl_ga [.eq (.fz (enc (a0 : (List Int))))] (by kernel_rfl) (bl_last (bl_if (k := fun x12 => x12) ((ts_tst (pu2A Nv.op_eq (((pu2 Nv.op_mod ((pu1A Nv.op_sum (((pu_var 0 rfl)).rd).ra)).rd (pu_c).rd)).rd).ra ((pu_c).rd).ra))).te' (fun x12 => (bl_raiseS (.cons .aa .nil))) fun x12 => (bl_next bl_bad)))))
end P
namespace P
open PySem PySem.Spec PyProof.Rows L2 Hb Nv
open Enc (enc)
def B_middle_index : List Sl → Ot :=
    oSeq (oPar [3, 4] (rCons (sTk (sC (.int 0))) (rCons (sTk (s1 (gRd (overI fun ns => some (.int ns.sum))) (sVar 0))) (rNil))))
    (oSeq (oFor (wSeq (sVar 1)) (tgN 2) (oSeq (oAsg (sTk (s2 gAdd (sVar 3) (s2 gIx2 (sVar 0) (sVar 2)))) (tgN 3))
    (oIf (sTst (s2 gGt (s2 gMulX (sC (.int 2)) (sVar 3)) (sVar 4))) (oRet (sVar 2)) (oNext))))
    (oRet (sC .none)))
def F_middle_index : List Sl → FR := fnRun 2 5 [] B_middle_index
def n_middle_index (a0 : (List Int)) (a1 : (List Int)) : Option ((Option Int)) :=
    (Option.bind (Option.bind (some (0 : Int)) fun x1 => Option.bind (Option.bind (Option.bind (some a0) fun x2 => sumI x2) fun x3 => Option.bind (some ()) fun x4 => some (x3, x4)) fun x5 => some (x1, x5)) fun x6 => (Option.bind (some a1) fun x7 => Option.bind (forF (ρ := ((Option Int))) x7 ((Prod.fst x6) : Int) fun s9 x8 => (Option.bind (Option.bind (some s9) fun x12 => Option.bind (Option.bind (some a0) fun x10 => Option.bind (some x8) fun x11 => atL x10 x11) fun x13 => addI x12 x13) fun x14 => (Option.bind (Option.bind (Option.bind (some (2 : Int)) fun x15 => Option.bind (some x14) fun x16 => mulI x15 x16) fun x17 => Option.bind (some (Prod.fst (Prod.snd x6))) fun x18 => gtI x17 x18) fun x19 => if x19 = true then (Option.bind (some x8) fun x20 => some (.rt (some x20))) else some (.nx (x14 : Int))))) fun o23 => Fl.el o23 (fun s9 => (Option.bind (some ()) fun x21 => some (none : (Option Int)))) fun r22 => some r22))
theorem V_middle_index (a0 : (List Int)) (a1 : (List Int)) : Fun F_middle_index (n_middle_index a0 a1) [.fz (enc a0), .fz (enc a1)] (fun r : ((Option Int)) => .fz (enc (r : (Option Int)))) fun r => [.no, .no] :=
  fun_of (ΓR := fun r => [.aa, .aa, .aa, .aa, .aa]) (show Bl B_middle_index _ _ _ from (bl_ga [.eq (.fz (enc (a0 : (List Int)))), .eq (.fz (enc (a1 : (List Int)))), .eq .no, .eq .no, .eq .no] (by kernel_rfl) (bl_par (ag_cons ((pu_c).tkP).ev fun x1 => (ag_cons (((pu1A Nv.op_sum (((pu_var 0 rfl)).rd).ra)).tkP).ev fun x3 => ag_nil)) fun x6 => (bl_ga [.eq (.fz (enc (a0 : (List Int)))), .eq (.fz (enc (a1 : (List Int)))), .eq .no, .eq (.fz (enc ((Prod.fst x6) : Int))), .eq (.fz (enc ((Prod.fst (Prod.snd x6)) : Int)))] (by kernel_rfl) (bl_forF (Q := (RF (ρ := ((Option Int))) (fun r => .eq (.fz (enc (r : (Option Int))))) fun r => [.aa, .aa, .aa, .aa, .aa])) (vs := [2]) (xs := fun x7 => x7) (s0 := fun x7 => ((Prod.fst x6) : Int)) (ΓL := fun x7 (s9 : Int) => [.eq (.fz (enc (a0 : (List Int)))), .eq (.fz (enc (a1 : (List Int)))), .pl, .eq (.fz (enc (s9 : Int))), .eq (.fz (enc ((Prod.fst (Prod.snd x6)) : Int)))]) (kr := fun r22 => some r22) ((ip_seq (xs := fun v => v) ((pu_var 1 rfl)).tkP)).it (fun x7 => (.cons .rfl (.cons .rfl (.cons .no (.cons .rfl (.cons .rfl .nil)))))) (fun x7 s9 x8 => tg_n) (fun x7 s9 x8 => (bl_ga [.eq (.fz (enc (a0 : (List Int)))), .eq (.fz (enc (a1 : (List Int)))), .eq (.fz (enc (x8 : Int))), .eq (.fz (enc (s9 : Int))), .eq (.fz (enc ((Prod.fst (Prod.snd x6)) : Int)))] (by kernel_rfl) (bl_asgV (((pu2 Nv.op_add ((pu_var 3 rfl)).rd ((pu2 Nv.op_ix2 ((pu_var 0 rfl)).rd ((pu_var 2 rfl)).rd)).rd)).tkP).ev fun x14 => (bl_ga [.eq (.fz (enc (a0 : (List Int)))), .eq (.fz (enc (a1 : (List Int)))), .eq (.fz (enc (x8 : Int))), .eq (.fz (enc (x14 : Int))), .eq (.fz (enc ((Prod.fst (Prod.snd x6)) : Int)))] (by kernel_rfl) (bl_last (bl_if (k := fun x19 => x19) ((ts_tst (pu2 Nv.op_gt ((pu2 Nv.op_mul (pu_c).rd ((pu_var 3 rfl)).rd)).rd ((pu_var 4 rfl)).rd))).te' (fun x19 => (bl_retS (bl_retV ((pu_var 2 rfl)).ev fun x20 => (rl_rt (rf_eq rfl (.cons .aa (.cons .aa (.cons .aa (.cons .aa (.cons .aa .nil)))))))))) fun x19 => (bl_next (bl_end (rl_nx (.cons .rfl (.cons .rfl (.cons .fz (.cons .rfl (.cons .rfl .nil)))))))))))))) (fun v z u d hz h => by cases (Option.some.inj hz); exact h) fun x7 s9 => (bl_retV (pu_none).ev fun x21 => (rf_eq rfl (.cons .aa (.cons .aa (.cons .aa (.cons .aa (.cons .aa .nil))))))))))))
end P
namespace P
open PySem PySem.Spec PyProof.Rows L2 Hb Nv
open Enc (enc)
def B_middle_ballot : List Sl → Ot :=
    oSeq (oDrop (sCall F_need_set [.int 12] (rCons (sTk (sVar 0)) (rCons (sTk (sVar 1)) (rNil)))))
    (oSeq (oDrop (sCall F_need_voters [] (rCons (sTk (sVar 1)) (rCons (sTk (sVar 2)) (rNil)))))
    (oSeq (oAsg (sTk (sCall F_least_row [] (rCons (sTk (sVar 0)) (rCons (sTk (sVar 1)) (rNil))))) (tgN 3))
    (oSeq (oIf (sTst (s2 (gIs false) (sVar 3) (sC .none))) (oRaise "NoRow") (oNext))
    (oSeq (oDrop (sCall F_need_odd [] (rCons (sTk (sVar 2)) (rNil))))
    (oRet (s1 (gList) (s2 gIx2 (sVar 1) (sCall F_middle_index [] (rCons (sTk (sVar 2)) (rCons (sTk (sVar 3)) (rNil)))))))))))
def F_middle_ballot : List Sl → FR := fnRun 3 4 [] B_middle_ballot
def n_middle_ballot (a0 : Int) (a1 : (List (List Int))) (a2 : (List Int)) : Option ((List Int)) :=
    (Option.bind (Option.bind (Option.bind (some a0) fun x1 => Option.bind (Option.bind (some a1) fun x2 => Option.bind (some ()) fun x3 => some (x2, x3)) fun x4 => some (x1, x4)) fun x5 => n_need_set ((Prod.fst x5) : Int) ((enc ((Prod.fst (Prod.snd x5)) : (List (List Int)))) : PyData) ((12 : Int) : Int)) fun x6 => (Option.bind (Option.bind (Option.bind (some a1) fun x7 => Option.bind (Option.bind (some a2) fun x8 => Option.bind (some ()) fun x9 => some (x8, x9)) fun x10 => some (x7, x10)) fun x11 => n_need_voters ((Prod.fst x11) : (List (List Int))) ((enc ((Prod.fst (Prod.snd x11)) : (List Int))) : PyData)) fun x12 => (Option.bind (Option.bind (Option.bind (some a0) fun x13 => Option.bind (Option.bind (some a1) fun x14 => Option.bind (some ()) fun x15 => some (x14, x15)) fun x16 => some (x13, x16)) fun x17 => n_least_row ((Prod.fst x17) : Int) ((Prod.fst (Prod.snd x17)) : (List (List Int)))) fun x18 => (Option.bind (Option.bind (some x18) fun x19 => some (if false = true then Option.isSome x19 else Option.isNone x19)) fun x20 => if x20 = true then none else (Option.bind (Option.bind (Option.bind (some a2) fun x21 => Option.bind (some ()) fun x22 => some (x21, x22)) fun x23 => n_need_odd ((Prod.fst x23) : (List Int))) fun x24 => (Option.bind (Option.bind (Option.bind (some a1) fun x32 => Option.bind (Option.bind (Option.bind (Option.bind (some a2) fun x25 => Option.bind (Option.bind (Option.bind (some x18) fun x27 => x27) fun x26 => Option.bind (some ()) fun x28 => some (x26, x28)) fun x29 => some (x25, x29)) fun x30 => n_middle_index ((Prod.fst x30) : (List Int)) ((Prod.fst (Prod.snd x30)) : (List Int))) fun x31 => x31) fun x33 => atL x32 x33) fun x34 => listL x34) fun x35 => some x35))))))
theorem V_middle_ballot (a0 : Int) (a1 : (List (List Int))) (a2 : (List Int)) : Fun F_middle_ballot (n_middle_ballot a0 a1 a2) [.fz (enc a0), .fz (enc a1), .fz (enc a2)] (fun r : ((List Int)) => ow (r : (List Int))) fun r => [.no, .no, .no] :=
  fun_of (ΓR := fun r => [.aa, .aa, .aa, .aa]) (show Bl B_middle_ballot _ _ _ from (bl_ga [.eq (.fz (enc (a0 : Int))), .eq (.fz (enc (a1 : (List (List Int))))), .eq (.fz (enc (a2 : (List Int)))), .eq .no] (by kernel_rfl) (bl_expr ((pu_call (ap_cons ((pu_var 0 rfl)).tkP (ap_cons ((pu_var 1 rfl)).tkP ap_nil)) (fun x5 => V_need_set ((Prod.fst x5) : Int) ((enc ((Prod.fst (Prod.snd x5)) : (List (List Int)))) : PyData) ((12 : Int) : Int)))).ev fun x6 => (bl_ga [.eq (.fz (enc (a0 : Int))), .eq (.fz (enc (a1 : (List (List Int))))), .eq (.fz (enc (a2 : (List Int)))), .eq .no] (by kernel_rfl) (bl_expr ((pu_call (ap_cons ((pu_var 1 rfl)).tkP (ap_cons ((pu_var 2 rfl)).tkP ap_nil)) (fun x11 => V_need_voters ((Prod.fst x11) : (List (List Int))) ((enc ((Prod.fst (Prod.snd x11)) : (List Int))) : PyData)))).ev fun x12 => (bl_ga [.eq (.fz (enc (a0 : Int))), .eq (.fz (enc (a1 : (List (List Int))))), .eq (.fz (enc (a2 : (List Int)))), .eq .no] (by kernel_rfl) (bl_asgV (((pu_call (ap_cons ((pu_var 0 rfl)).tkP (ap_cons ((pu_var 1 rfl)).tkP ap_nil)) (fun x17 => V_least_row ((Prod.fst x17) : Int) ((Prod.fst (Prod.snd x17)) : (List (List Int)))))).tkP).ev fun x18 => (bl_ga [.eq (.fz (enc (a0 : Int))), .eq (.fz (enc (a1 : (List (List Int))))), .eq (.fz (enc (a2 : (List Int)))), .eq (.fz (enc (x18 : (Option (List Int)))))] (by kernel_rfl) (bl_if (k := fun x20 => x20) ((ts_tst (pu_isN (n := false) (((pu_var 3 rfl)).rd).ra))).te' (fun x20 => bl_bad) fun x20 => (bl_next (bl_expr ((pu_call (ap_cons ((pu_var 2 rfl)).tkP ap_nil) (fun x23 => V_need_odd ((Prod.fst x23) : (List Int))))).ev fun x24 => (bl_ga [.eq (.fz (enc (a0 : Int))), .eq (.fz (enc (a1 : (List (List Int))))), .eq (.fz (enc (a2 : (List Int)))), .eq (.fz (enc (x18 : (Option (List Int)))))] (by kernel_rfl) (bl_retT ((pu1 Nv.op_list ((pu2 Nv.op_ix2 ((pu_var 1 rfl)).rd ((Pu.un (pu_call (ap_cons ((pu_var 2 rfl)).tkP (ap_cons (Pu.un ((pu_var 3 rfl)).tkP) ap_nil)) (fun x30 => V_middle_index ((Prod.fst x30) : (List Int)) ((Prod.fst (Prod.snd x30)) : (List Int)))))).rd)).rd)).ev fun x35 => (rf_eq rfl (.cons .aa (.cons .aa (.cons .aa (.cons .aa .nil))))))))))))))))))
def x_middle_ballot (a0 : Int) (a1 : (List (List Int))) (a2 : (List Int)) : Option Str :=
    (Option.or (Option.bind (Option.bind (some a0) fun x36 => Option.bind (Option.bind (some a1) fun x37 => Option.bind (some ()) fun x38 => some (x37, x38)) fun x39 => some (x36, x39)) fun x40 => x_need_set ((Prod.fst x40) : Int) ((enc ((Prod.fst (Prod.snd x40)) : (List (List Int)))) : PyData) ((12 : Int) : Int)) (Option.bind (Option.bind (Option.bind (some a0) fun x41 => Option.bind (Option.bind (some a1) fun x42 => Option.bind (some ()) fun x43 => some (x42, x43)) fun x44 => some (x41, x44)) fun x45 => n_need_set ((Prod.fst x45) : Int) ((enc ((Prod.fst (Prod.snd x45)) : (List (List Int)))) : PyData) ((12 : Int) : Int)) fun x46 => (Option.or (Option.bind (Option.bind (some a1) fun x47 => Option.bind (Option.bind (some a2) fun x48 => Option.bind (some ()) fun x49 => some (x48, x49)) fun x50 => some (x47, x50)) fun x51 => x_need_voters ((Prod.fst x51) : (List (List Int))) ((enc ((Prod.fst (Prod.snd x51)) : (List Int))) : PyData)) (Option.bind (Option.bind (Option.bind (some a1) fun x52 => Option.bind (Option.bind (some a2) fun x53 => Option.bind (some ()) fun x54 => some (x53, x54)) fun x55 => some (x52, x55)) fun x56 => n_need_voters ((Prod.fst x56) : (List (List Int))) ((enc ((Prod.fst (Prod.snd x56)) : (List Int))) : PyData)) fun x57 => (Option.bind (Option.bind (Option.bind (some a0) fun x58 => Option.bind (Option.bind (some a1) fun x59 => Option.bind (some ()) fun x60 => some (x59, x60)) fun x61 => some (x58, x61)) fun x62 => n_least_row ((Prod.fst x62) : Int) ((Prod.fst (Prod.snd x62)) : (List (List Int)))) fun x63 => (Option.bind (Option.bind (some x63) fun x64 => some (if false = true then Option.isSome x64 else Option.isNone x64)) fun x65 => if x65 = true then (some ("NoRow" : Str)) else (Option.or (Option.bind (Option.bind (some a2) fun x66 => Option.bind (some ()) fun x67 => some (x66, x67)) fun x68 => x_need_odd ((Prod.fst x68) : (List Int))) (Option.bind (Option.bind (Option.bind (some a2) fun x69 => Option.bind (some ()) fun x70 => some (x69, x70)) fun x71 => n_need_odd ((Prod.fst x71) : (List Int))) fun x72 => none))))))))
theorem X_middle_ballot (a0 : Int) (a1 : (List (List Int))) (a2 : (List Int)) : FunX F_middle_ballot (x_middle_ballot a0 a1 a2) [.fz (enc a0), .fz (enc a1), .fz (enc a2)] :=
  funx_eq (Γx := [.aa, .aa, .aa, .aa]) (show Bl B_middle_ballot _ _ _ from (bl_ga [.eq (.fz (enc (a0 : Int))), .eq (.fz (enc (a1 : (List (List Int))))), .eq (.fz (enc (a2 : (List Int)))), .eq .no] (by kernel_rfl) (bl_xor (bl_exprX (xe_call (ap_cons ((pu_var 0 rfl)).tkP (ap_cons ((pu_var 1 rfl)).tkP ap_nil)) (fun x40 => X_need_set ((Prod.fst x40) : Int) ((enc ((Prod.fst (Prod.snd x40)) : (List (List Int)))) : PyData) ((12 : Int) : Int)) (.cons .aa (.cons .aa (.cons .aa (.cons .aa .nil)))))) (bl_expr ((pu_call (ap_cons ((pu_var 0 rfl)).tkP (ap_cons ((pu_var 1 rfl)).tkP ap_nil)) (fun x45 => V_need_set ((Prod.fst x45) : Int) ((enc ((Prod.fst (Prod.snd x45)) : (List (List Int)))) : PyData) ((12 : Int) : Int)))).ev fun x46 => (bl_ga [.eq (.fz (enc (a0 : Int))), .eq (.fz (enc (a1 : (List (List Int))))), .eq (.fz (enc (a2 : (List Int)))), .eq .no] (by kernel_rfl) (bl_xor (bl_exprX (xe_call (ap_cons ((pu_var 1 rfl)).tkP (ap_cons ((pu_var 2 rfl)).tkP ap_nil)) (fun x51 => X_need_voters ((Prod.fst x51) : (List (List Int))) ((enc ((Prod.fst (Prod.snd x51)) : (List Int))) : PyData)) (.cons .aa (.cons .aa (.cons .aa (.cons .aa .nil)))))) (bl_expr ((pu_call (ap_cons ((pu_var 1 rfl)).tkP (ap_cons ((pu_var 2 rfl)).tkP ap_nil)) (fun x56 => V_need_voters ((Prod.fst x56) : (List (List Int))) ((enc ((Prod.fst (Prod.snd x56)) : (List Int))) : PyData)))).ev fun x57 => (bl_ga [.eq (.fz (enc (a0 : Int))), .eq (.fz (enc (a1 : (List (List Int))))), .eq (.fz (enc (a2 : (List Int)))), .eq .no] (by kernel_rfl) (bl_asgV (((pu_call (ap_cons ((pu_var 0 rfl)).tkP (ap_cons ((pu_var 1 rfl)).tkP ap_nil)) (fun x62 => V_least_row ((Prod.fst x62) : Int) ((Prod.fst (Prod.snd x62)) : (List (List Int)))))).tkP).ev fun x63 => (bl_ga [.eq (.fz (enc (a0 : Int))), .eq (.fz (enc (a1 : (List (List Int))))), .eq (.fz (enc (a2 : (List Int)))), .eq (.fz (enc (x63 : (Option (List Int)))))] (by kernel_rfl) (bl_if (k := fun x65 => x65) ((ts_tst (pu_isN (n := false) (((pu_var 3 rfl)).rd).ra))).te' (fun x65 => (bl_raiseS (.cons .aa (.cons .aa (.cons .aa (.cons .aa .nil)))))) fun x65 => (bl_next (bl_xor (bl_exprX (xe_call (ap_cons ((pu_var 2 rfl)).tkP ap_nil) (fun x68 => X_need_odd ((Prod.fst x68) : (List Int))) (.cons .aa (.cons .aa (.cons .aa (.cons .aa .nil)))))) (bl_expr ((pu_call (ap_cons ((pu_var 2 rfl)).tkP ap_nil) (fun x71 => V_need_odd ((Prod.fst x71) : (List Int))))).ev fun x72 => (bl_ga [.eq (.fz (enc (a0 : Int))), .eq (.fz (enc (a1 : (List (List Int))))), .eq (.fz (enc (a2 : (List Int)))), .eq (.fz (enc (x63 : (Option (List Int)))))] (by kernel_rfl) bl_bad)))))))))))))))
end P
namespace P
open PySem PySem.Spec PyProof.Rows L2 Hb Nv
open Enc (enc)
def B__law_told_v5 : List Sl → Ot :=
    oSeq (oAsg (sC (.str "beyond")) (tgN 3))
    (oSeq (oTry [("EvenVoters", "EvenVoters", true), ("EvenVoters", "NoRow", false), ("InvalidBallots", "EvenVoters", false), ("InvalidBallots", "NoRow", false), ("InvalidCount", "EvenVoters", false), ("InvalidCount", "NoRow", false), ("InvalidVoters", "EvenVoters", false), ("InvalidVoters", "NoRow", false), ("NoRow", "EvenVoters", false), ("NoRow", "NoRow", true)] (oAsg (sCall F_middle_ballot [] (rCons (sTk (sVar 0)) (rCons (sTk (sVar 1)) (rCons (sTk (sVar 2)) (rNil))))) (tgN 3)) [("EvenVoters", oAsg (sC (.str "even")) (tgN 3)), ("NoRow", oAsg (sC (.str "row")) (tgN 3))])
    (oRet (sVar 3)))
def F__law_told_v5 : List Sl → FR := fnRun 3 4 [] B__law_told_v5
def n__law_told_v5 (a0 : Int) (a1 : (List (List Int))) (a2 : (List Int)) : Option (PyData) :=
    (Option.bind (some ("beyond" : Str)) fun x1 => (Option.bind (Option.or ((Option.bind (Option.bind (Option.bind (some a0) fun x3 => Option.bind (Option.bind (some a1) fun x4 => Option.bind (Option.bind (some a2) fun x5 => Option.bind (some ()) fun x6 => some (x5, x6)) fun x7 => some (x4, x7)) fun x8 => some (x3, x8)) fun x9 => n_middle_ballot ((Prod.fst x9) : Int) ((Prod.fst (Prod.snd x9)) : (List (List Int))) ((Prod.fst (Prod.snd (Prod.snd x9))) : (List Int))) fun x10 => some ((enc (x10 : (List Int))) : PyData))) (Option.bind (Option.or (Option.bind (Option.bind (some a0) fun x11 => Option.bind (Option.bind (some a1) fun x12 => Option.bind (Option.bind (some a2) fun x13 => Option.bind (some ()) fun x14 => some (x13, x14)) fun x15 => some (x12, x15)) fun x16 => some (x11, x16)) fun x17 => x_middle_ballot ((Prod.fst x17) : Int) ((Prod.fst (Prod.snd x17)) : (List (List Int))) ((Prod.fst (Prod.snd (Prod.snd x17))) : (List Int))) (Option.bind (Option.bind (Option.bind (some a0) fun x18 => Option.bind (Option.bind (some a1) fun x19 => Option.bind (Option.bind (some a2) fun x20 => Option.bind (some ()) fun x21 => some (x20, x21)) fun x22 => some (x19, x22)) fun x23 => some (x18, x23)) fun x24 => n_middle_ballot ((Prod.fst x24) : Int) ((Prod.fst (Prod.snd x24)) : (List (List Int))) ((Prod.fst (Prod.snd (Prod.snd x24))) : (List Int))) fun x25 => none)) fun C26 => (hsel (Mt.at_ [("EvenVoters", "EvenVoters", true), ("EvenVoters", "NoRow", false), ("InvalidBallots", "EvenVoters", false), ("InvalidBallots", "NoRow", false), ("InvalidCount", "EvenVoters", false), ("InvalidCount", "NoRow", false), ("InvalidVoters", "EvenVoters", false), ("InvalidVoters", "NoRow", false), ("NoRow", "EvenVoters", false), ("NoRow", "NoRow", true)] C26 ("EvenVoters" : Str)) ((Option.bind (some ("even" : Str)) fun x27 => some ((enc (x27 : Str)) : PyData))) (hsel (Mt.at_ [("EvenVoters", "EvenVoters", true), ("EvenVoters", "NoRow", false), ("InvalidBallots", "EvenVoters", false), ("InvalidBallots", "NoRow", false), ("InvalidCount", "EvenVoters", false), ("InvalidCount", "NoRow", false), ("InvalidVoters", "EvenVoters", false), ("InvalidVoters", "NoRow", false), ("NoRow", "EvenVoters", false), ("NoRow", "NoRow", true)] C26 ("NoRow" : Str)) ((Option.bind (some ("row" : Str)) fun x28 => some ((enc (x28 : Str)) : PyData))) none)))) fun j2 => some j2))
theorem V__law_told_v5 (a0 : Int) (a1 : (List (List Int))) (a2 : (List Int)) : FunS F__law_told_v5 (n__law_told_v5 a0 a1 a2) [.fz (enc a0), .fz (enc a1), .fz (enc a2)] (fun r : (PyData) => enc (r : PyData)) fun r => [.no, .no, .no] :=
  funS_of (ΓR := fun r => [.aa, .aa, .aa, .aa]) (show Bl B__law_told_v5 _ _ _ from (bl_ga [.eq (.fz (enc (a0 : Int))), .eq (.fz (enc (a1 : (List (List Int))))), .eq (.fz (enc (a2 : (List Int)))), .eq .no] (by kernel_rfl) (bl_asgV (pu_c).ev fun x1 => (bl_ga [.eq (.fz (enc (a0 : Int))), .eq (.fz (enc (a1 : (List (List Int))))), .eq (.fz (enc (a2 : (List Int)))), .eq (.fz (enc (x1 : Str)))] (by kernel_rfl) (bl_try (Γx := [.eq (.fz (enc (a0 : Int))), .eq (.fz (enc (a1 : (List (List Int))))), .eq (.fz (enc (a2 : (List Int)))), .eq (.fz (enc (x1 : Str)))]) (ΓJ := fun (j2 : PyData) => [.eq (.fz (enc (a0 : Int))), .eq (.fz (enc (a1 : (List (List Int))))), .eq (.fz (enc (a2 : (List Int)))), .ts (enc (j2 : PyData))]) (bl_last (bl_asgT ((pu_call (ap_cons ((pu_var 0 rfl)).tkP (ap_cons ((pu_var 1 rfl)).tkP (ap_cons ((pu_var 2 rfl)).tkP ap_nil))) (fun x9 => V_middle_ballot ((Prod.fst x9) : Int) ((Prod.fst (Prod.snd x9)) : (List (List Int))) ((Prod.fst (Prod.snd (Prod.snd x9))) : (List Int))))).ev fun x10 => (bl_ga [.eq (.fz (enc (a0 : Int))), .eq (.fz (enc (a1 : (List (List Int))))), .eq (.fz (enc (a2 : (List Int)))), .eq (ow (x10 : (List Int)))] (by kernel_rfl) (bl_end (rn_nx (.cons .rfl (.cons .rfl (.cons .rfl (.cons (.tso rfl) .nil))))))))) (bl_last (bl_xor (bl_asgX (xe_call (ap_cons ((pu_var 0 rfl)).tkP (ap_cons ((pu_var 1 rfl)).tkP (ap_cons ((pu_var 2 rfl)).tkP ap_nil))) (fun x17 => X_middle_ballot ((Prod.fst x17) : Int) ((Prod.fst (Prod.snd x17)) : (List (List Int))) ((Prod.fst (Prod.snd (Prod.snd x17))) : (List Int))) (.cons .rfl (.cons .rfl (.cons .rfl (.cons .rfl .nil)))))) (bl_asgT ((pu_call (ap_cons ((pu_var 0 rfl)).tkP (ap_cons ((pu_var 1 rfl)).tkP (ap_cons ((pu_var 2 rfl)).tkP ap_nil))) (fun x24 => V_middle_ballot ((Prod.fst x24) : Int) ((Prod.fst (Prod.snd x24)) : (List (List Int))) ((Prod.fst (Prod.snd (Prod.snd x24))) : (List Int))))).ev fun x25 => (bl_ga [.eq (.fz (enc (a0 : Int))), .eq (.fz (enc (a1 : (List (List Int))))), .eq (.fz (enc (a2 : (List Int)))), .eq (ow (x25 : (List Int)))] (by kernel_rfl) bl_bad)))) (fun C26 => (hd_cons (bl_last (bl_asgV (pu_c).ev fun x27 => (bl_ga [.eq (.fz (enc (a0 : Int))), .eq (.fz (enc (a1 : (List (List Int))))), .eq (.fz (enc (a2 : (List Int)))), .eq (.fz (enc (x27 : Str)))] (by kernel_rfl) (bl_end (rn_nx (.cons .rfl (.cons .rfl (.cons .rfl (.cons .tsf .nil))))))))) (hd_cons (bl_last (bl_asgV (pu_c).ev fun x28 => (bl_ga [.eq (.fz (enc (a0 : Int))), .eq (.fz (enc (a1 : (List (List Int))))), .eq (.fz (enc (a2 : (List Int)))), .eq (.fz (enc (x28 : Str)))] (by kernel_rfl) (bl_end (rn_nx (.cons .rfl (.cons .rfl (.cons .rfl (.cons .tsf .nil))))))))) hd_nil))) fun j2 => (bl_retRs (k := 3) rfl (sat_gaS [.eq (.fz (enc (a0 : Int))), .eq (.fz (enc (a1 : (List (List Int))))), .eq (.fz (enc (a2 : (List Int)))), .any] (by kernel_rfl) (fun _t _d _h _s => ⟨_t, _d, .inl rfl, _h, _s.wk (.cons .aa (.cons .aa (.cons .aa (.cons .aa .nil))))⟩))))))))
end P
namespace P
open PySem PySem.Spec PyProof.Rows L2 Hb Nv
open Enc (enc)
def B__law_pick : List Sl → Ot :=
    oSeq (oIf (sTst (s2 gGt (s2 gIx2 (sVar 0) (sC (.int 0))) (sC (.int 0)))) (oSeq (oAsg (s2 gMod (s1 (gRd intD) (s2 gIx2 (sVar 0) (sC (.int 0)))) (sVar 1)) (tgN 3))
    (oSeq (oAsg (s2 gFdivW (s2 gIx2 (sVar 0) (sC (.int 0))) (sVar 1)) (tgS (sVar 0) (sC (.int 0))))
    (oRet (sVar 3)))) (oNext))
    (oSeq (oAsg (s2 gAdd (s2 gIx2 (sVar 0) (sC (.int 2))) (sC (.int 1))) (tgS (sVar 0) (sC (.int 2))))
    (oSeq (oAsg (sTk (s2 gMod (s1 (gRd intD) (s2 gPowW (s2 gAdd (s2 gIx2 (sVar 0) (sC (.int 1))) (s2 gMulX (sC (.int 524287)) (s2 gIx2 (sVar 0) (sC (.int 2))))) (sC (.int 5)))) (s2 gAdd (s2 gPowW (sC (.int 10)) (sC (.int 33))) (sC (.int 61))))) (tgN 2))
    (oSeq (oAsg (sTk (s2 gMod (s1 (gRd intD) (s2 gPowW (s2 gAdd (sVar 2) (s2 gMulX (sC (.int 2097143)) (s2 gIx2 (sVar 0) (sC (.int 2))))) (sC (.int 3)))) (s2 gAdd (s2 gPowW (sC (.int 10)) (sC (.int 27))) (sC (.int 103))))) (tgN 2))
    (oRet (s2 gMod (s1 (gRd intD) (s2 gFdivW (sVar 2) (sC (.int 4093)))) (sVar 1))))))
def F__law_pick : List Sl → FR := fnRun 2 4 [0] B__law_pick
def n__law_pick (a0 : (List Int)) (a1 : Int) : Option (Int × (List Int)) :=
    (Option.bind (Option.bind (Option.bind (some a0) fun x1 => Option.bind (some (0 : Int)) fun x2 => atL x1 x2) fun x3 => Option.bind (some (0 : Int)) fun x4 => gtI x3 x4) fun x5 => if x5 = true then (Option.bind (Option.bind (Option.bind (Option.bind (some a0) fun x6 => Option.bind (some (0 : Int)) fun x7 => atL x6 x7) fun x8 => intI x8) fun x9 => Option.bind (some a1) fun x10 => modI x9 x10) fun x11 => (Option.bind (Option.bind (Option.bind (some a0) fun x12 => Option.bind (some (0 : Int)) fun x13 => atL x12 x13) fun x14 => Option.bind (some a1) fun x15 => fdivW x14 x15) fun x16 => Option.bind (some (0 : Int)) fun x17 => Option.bind (stI a0 x17 x16) fun x18 => (Option.bind (some x11) fun x19 => some (x19, x18)))) else (Option.bind (Option.bind (Option.bind (some a0) fun x20 => Option.bind (some (2 : Int)) fun x21 => atL x20 x21) fun x22 => Option.bind (some (1 : Int)) fun x23 => addI x22 x23) fun x24 => Option.bind (some (2 : Int)) fun x25 => Option.bind (stI a0 x25 x24) fun x26 => (Option.bind (Option.bind (Option.bind (Option.bind (Option.bind (Option.bind (some x26) fun x27 => Option.bind (some (1 : Int)) fun x28 => atL x27 x28) fun x33 => Option.bind (Option.bind (some (524287 : Int)) fun x31 => Option.bind (Option.bind (some x26) fun x29 => Option.bind (some (2 : Int)) fun x30 => atL x29 x30) fun x32 => mulI x31 x32) fun x34 => addI x33 x34) fun x35 => Option.bind (some (5 : Int)) fun x36 => powW x35 x36) fun x37 => intI x37) fun x42 => Option.bind (Option.bind (Option.bind (some (10 : Int)) fun x38 => Option.bind (some (33 : Int)) fun x39 => powW x38 x39) fun x40 => Option.bind (some (61 : Int)) fun x41 => addI x40 x41) fun x43 => modI x42 x43) fun x44 => (Option.bind (Option.bind (Option.bind (Option.bind (Option.bind (some x44) fun x49 => Option.bind (Option.bind (some (2097143 : Int)) fun x47 => Option.bind (Option.bind (some x26) fun x45 => Option.bind (some (2 : Int)) fun x46 => atL x45 x46) fun x48 => mulI x47 x48) fun x50 => addI x49 x50) fun x51 => Option.bind (some (3 : Int)) fun x52 => powW x51 x52) fun x53 => intI x53) fun x58 => Option.bind (Option.bind (Option.bind (some (10 : Int)) fun x54 => Option.bind (some (27 : Int)) fun x55 => powW x54 x55) fun x56 => Option.bind (some (103 : Int)) fun x57 => addI x56 x57) fun x59 => modI x58 x59) fun x60 => (Option.bind (Option.bind (Option.bind (Option.bind (some x60) fun x61 => Option.bind (some (4093 : Int)) fun x62 => fdivW x61 x62) fun x63 => intI x63) fun x64 => Option.bind (some a1) fun x65 => modI x64 x65) fun x66 => some (x66, x26))))))
theorem V__law_pick (a0 : (List Int)) (a1 : Int) : Fun F__law_pick (n__law_pick a0 a1) [ow a0, .fz (enc a1)] (fun r : (Int × (List Int)) => .fz (enc ((Prod.fst r) : Int))) fun r => [ow (Prod.snd r), .no] :=
  fun_of (ΓR := fun r => [.eq (ow ((Prod.snd r) : (List Int))), .aa, .aa, .aa]) (show Bl B__law_pick _ _ _ from (bl_ga [.eq (ow (a0 : (List Int))), .eq (.fz (enc (a1 : Int))), .eq .no, .eq .no] (by kernel_rfl) (bl_if (k := fun x5 => x5) ((ts_tst (pu2 Nv.op_gt ((pu2 Nv.op_ix2 (rd_own 0 rfl) (pu_c).rd)).rd (pu_c).rd))).te' (fun x5 => (bl_assoc (bl_asgV ((pu2 Nv.op_mod ((pu1A Nv.op_int (((pu2 Nv.op_ix2 (rd_own 0 rfl) (pu_c).rd)).rd).ra)).rd ((pu_var 1 rfl)).rd)).ev fun x11 => (bl_ga [.eq (ow (a0 : (List Int))), .eq (.fz (enc (a1 : Int))), .eq .no, .eq (.fz (enc (x11 : Int)))] (by kernel_rfl) (bl_assoc (bl_set (k := 0) (va := fun x16 => x16) (xs := fun x16 => a0) ((pu2 Nv.op_fdivW ((pu2 Nv.op_ix2 (rd_own 0 rfl) (pu_c).rd)).rd ((pu_var 1 rfl)).rd)).ev (fun _ => rfl) (fun x16 => (pu_c).rd) fun x16 x18 => (bl_ga [.eq (ow (x18 : (List Int))), .eq (.fz (enc (a1 : Int))), .eq .no, .eq (.fz (enc (x11 : Int)))] (by kernel_rfl) (bl_retS (bl_retV ((pu_var 3 rfl)).ev fun x19 => (rf_eq rfl (.cons .rfl (.cons .aa (.cons .aa (.cons .aa .nil)))))))))))))) fun x5 => (bl_next (bl_set (k := 0) (va := fun x24 => x24) (xs := fun x24 => a0) ((pu2 Nv.op_add ((pu2 Nv.op_ix2 (rd_own 0 rfl) (pu_c).rd)).rd (pu_c).rd)).ev (fun _ => rfl) (fun x24 => (pu_c).rd) fun x24 x26 => (bl_ga [.eq (ow (x26 : (List Int))), .eq (.fz (enc (a1 : Int))), .eq .no, .eq .no] (by kernel_rfl) (bl_asgV (((pu2 Nv.op_mod ((pu1A Nv.op_int (((pu2 Nv.op_powW ((pu2 Nv.op_add ((pu2 Nv.op_ix2 (rd_own 0 rfl) (pu_c).rd)).rd ((pu2 Nv.op_mul (pu_c).rd ((pu2 Nv.op_ix2 (rd_own 0 rfl) (pu_c).rd)).rd)).rd)).rd (pu_c).rd)).rd).ra)).rd ((pu2 Nv.op_add ((pu2 Nv.op_powW (pu_c).rd (pu_c).rd)).rd (pu_c).rd)).rd)).tkP).ev fun x44 => (bl_ga [.eq (ow (x26 : (List Int))), .eq (.fz (enc (a1 : Int))), .eq (.fz (enc (x44 : Int))), .eq .no] (by kernel_rfl) (bl_asgV (((pu2 Nv.op_mod ((pu1A Nv.op_int (((pu2 Nv.op_powW ((pu2 Nv.op_add ((pu_var 2 rfl)).rd ((pu2 Nv.op_mul (pu_c).rd ((pu2 Nv.op_ix2 (rd_own 0 rfl) (pu_c).rd)).rd)).rd)).rd (pu_c).rd)).rd).ra)).rd ((pu2 Nv.op_add ((pu2 Nv.op_powW (pu_c).rd (pu_c).rd)).rd (pu_c).rd)).rd)).tkP).ev fun x60 => (bl_ga [.eq (ow (x26 : (List Int))), .eq (.fz (enc (a1 : Int))), .eq (.fz (enc (x60 : Int))), .eq .no] (by kernel_rfl) (bl_retV ((pu2 Nv.op_mod ((pu1A Nv.op_int (((pu2 Nv.op_fdivW ((pu_var 2 rfl)).rd (pu_c).rd)).rd).ra)).rd ((pu_var 1 rfl)).rd)).ev fun x66 => (rf_eq rfl (.cons .rfl (.cons .aa (.cons .aa (.cons .aa .nil))))))))))))))))
end P
namespace P
open PySem PySem.Spec PyProof.Rows L2 Hb Nv
open Enc (enc)
def B__law_vote : List Sl → Ot :=
    oSeq (oPar [2, 3] (rCons (s1 gRg1 (sVar 1)) (rCons (sLst (lNil)) (rNil))))
    (oSeq (oWh (sTst (s2 (gEqE true) (sVar 2) (sLst (lNil)))) (oDrop (sApp (sVar 3) (sPop1 (sVar 2) (sCall F__law_pick [] (rIo 0 (rCons (sTk (s1 (gRd lenD) (sVar 2))) (rNil))))))) 1000)
    (oRet (sVar 3)))
def F__law_vote : List Sl → FR := fnRun 2 4 [0] B__law_vote
def n__law_vote (a0 : (List Int)) (a1 : Int) : Option ((List Int) × (List Int)) :=
    (Option.bind (Option.bind (Option.bind (some a1) fun x1 => rg1 x1) fun x2 => Option.bind (Option.bind (some []) fun x3 => Option.bind (some ()) fun x4 => some (x3, x4)) fun x5 => some (x2, x5)) fun x6 => (Option.bind (whS 1000 ((a0, (Prod.fst x6), (Prod.fst (Prod.snd x6))) : ((List Int) × (List Int) × (List Int))) (fun s7 => (Option.bind (some (Prod.fst (Prod.snd s7))) fun x8 => some (true != List.isEmpty x8))) fun s7 => (Option.bind (Option.bind (Option.bind (Option.bind (Option.bind (Option.bind (some (Prod.fst (Prod.snd s7))) fun x9 => lenL x9) fun x10 => Option.bind (some ()) fun x11 => some (x10, x11)) fun x12 => Option.bind (n__law_pick ((Prod.fst s7) : (List Int)) ((Prod.fst x12) : Int)) fun x13 => some (x13, x12)) fun x14 => Option.bind (popL (Prod.fst (Prod.snd s7)) (Prod.fst (Prod.fst x14))) fun x15 => some (x15, x14)) fun x16 => Option.bind (apL (Prod.snd (Prod.snd s7)) (Prod.fst (Prod.fst x16))) fun x17 => some (x17, x16)) fun x18 => some (((Prod.snd (Prod.fst (Prod.snd (Prod.snd x18)))), (Prod.snd (Prod.fst (Prod.snd x18))), (Prod.fst x18)) : ((List Int) × (List Int) × (List Int))))) fun s7 => some ((Prod.snd (Prod.snd s7)), (Prod.fst s7))))
theorem V__law_vote (a0 : (List Int)) (a1 : Int) : Fun F__law_vote (n__law_vote a0 a1) [ow a0, .fz (enc a1)] (fun r : ((List Int) × (List Int)) => ow ((Prod.fst r) : (List Int))) fun r => [ow (Prod.snd r), .no] :=
  fun_of (ΓR := fun r => [.eq (ow ((Prod.snd r) : (List Int))), .aa, .aa, .aa]) (show Bl B__law_vote _ _ _ from (bl_ga [.eq (ow (a0 : (List Int))), .eq (.fz (enc (a1 : Int))), .eq .no, .eq .no] (by kernel_rfl) (bl_par (ag_cons ((pu1 Nv.op_rg1 ((pu_var 1 rfl)).rd)).ev fun x2 => (ag_cons (pu_nil).ev fun x3 => ag_nil)) fun x6 => (bl_ga [.eq (ow (a0 : (List Int))), .eq (.fz (enc (a1 : Int))), .eq (ow ((Prod.fst x6) : (List Int))), .eq (ow ((Prod.fst (Prod.snd x6)) : (List Int)))] (by kernel_rfl) (bl_wh (s0 := ((a0, (Prod.fst x6), (Prod.fst (Prod.snd x6))) : ((List Int) × (List Int) × (List Int)))) (ΓL := fun (s7 : ((List Int) × (List Int) × (List Int))) => [.eq (ow ((Prod.fst s7) : (List Int))), .eq (.fz (enc (a1 : Int))), .eq (ow ((Prod.fst (Prod.snd s7)) : (List Int))), .eq (ow ((Prod.snd (Prod.snd s7)) : (List Int)))]) (.cons .rfl (.cons .rfl (.cons .rfl (.cons .rfl .nil)))) (fun s7 => (ts_tst (pu_eqE ((rd_own 2 rfl)).ra))) (fun s7 => (bl_last (bl_expr (ev_app (k := 3) (va := fun x16 => (Prod.fst (Prod.fst x16))) (xs := fun x16 => (Prod.snd (Prod.snd s7))) rfl rfl ((ev_pop1 (k := 2) (va := fun x14 => (Prod.fst (Prod.fst x14))) (xs := fun x14 => (Prod.fst (Prod.snd s7))) rfl rfl ((ev_callG (ag_io (k := 0) rfl rfl (ag_cons (((pu1A Nv.op_len ((rd_own 2 rfl)).ra)).tkP).ev fun x10 => ag_nil)) (fun x12 => V__law_pick ((Prod.fst s7) : (List Int)) ((Prod.fst x12) : Int)))).tk fun _ => rfl)).tk fun _ => rfl) fun x18 => (bl_ga [.eq (ow ((Prod.snd (Prod.fst (Prod.snd (Prod.snd x18)))) : (List Int))), .eq (.fz (enc (a1 : Int))), .eq (ow ((Prod.snd (Prod.fst (Prod.snd x18))) : (List Int))), .eq (ow ((Prod.fst x18) : (List Int)))] (by kernel_rfl) (bl_end (rs_nx (.cons .rfl (.cons .rfl (.cons .rfl (.cons .rfl .nil)))))))))) fun s7 => (bl_retO (k := 3) rfl rfl (sat_ga [.eq (ow ((Prod.fst s7) : (List Int))), .eq (.fz (enc (a1 : Int))), .eq (ow ((Prod.fst (Prod.snd s7)) : (List Int))), .eq .no] (by kernel_rfl) (rf_eq rfl (.cons .rfl (.cons .aa (.cons .aa (.cons .aa .nil))))))))))))
end P
namespace P
open PySem PySem.Spec PyProof.Rows L2 Hb Nv
open Enc (enc)
def B__law_turning : List Sl → Ot :=
    oSeq (oAsg (sTk (sCall F__law_vote [] (rIo 0 (rCons (sTk (sVar 1)) (rNil))))) (tgN 3))
    (oSeq (oPar [5, 6] (rCons (sTk (s1 (gList) (sVar 3))) (rCons (sLst (lNil)) (rNil))))
    (oSeq (oFor (wRng1 (sVar 2)) (tgN 4) (oSeq (oFor (wRng1 (s2 gIx2 (sLst (lCons (sC (.int 0)) (lCons (sC (.int 1)) (lCons (sC (.int 1)) (lCons (sC (.int 2)) (lCons (sCall F__law_pick [] (rIo 0 (rCons (sTk (s2 gMulX (sC (.int 2)) (sVar 1))) (rNil)))) (lNil))))))) (sCall F__law_pick [] (rIo 0 (rCons (sC (.int 5)) (rNil)))))) (tgN 7) (oSeq (oAsg (sTk (sLc false (wRng1 (s2 gSub (sVar 1) (sC (.int 1)))) [9] (tgN 9) (sTst (s2 gLt (sIdx (sVar 3) (s2 gIx2 (sVar 5) (sVar 9))) (sIdx (sVar 3) (s2 gIx2 (sVar 5) (s2 gAdd (sVar 9) (sC (.int 1))))))) (sTk (sVar 9)))) (tgN 8))
    (oIf (sTst (s2 (gEqE true) (sVar 8) (sLst (lNil)))) (oSeq (oAsg (sTk (s2 gIx2 (sVar 8) (sCall F__law_pick [] (rIo 0 (rCons (sTk (s1 (gRd lenD) (sVar 8))) (rNil)))))) (tgN 9))
    (oAsg (sTk (s2 gAdd (s2 gAdd (sSl (sVar 5) none (some (sVar 9))) (sLst (lCons (s2 gIx2 (sVar 5) (s2 gAdd (sVar 9) (sC (.int 1)))) (lCons (s2 gIx2 (sVar 5) (sVar 9)) (lNil))))) (sSl (sVar 5) (some (s2 gAdd (sVar 9) (sC (.int 2)))) none))) (tgN 5))) (oNext))))
    (oDrop (sApp (sVar 6) (s1 (gList) (sVar 5))))))
    (oRet (sVar 6))))
def F__law_turning : List Sl → FR := fnRun 3 10 [0] B__law_turning
def n__law_turning (a0 : (List Int)) (a1 : Int) (a2 : Int) : Option ((List (List Int)) × (List Int)) :=
    (Option.bind (Option.bind (Option.bind (some a1) fun x1 => Option.bind (some ()) fun x2 => some (x1, x2)) fun x3 => Option.bind (n__law_vote (a0 : (List Int)) ((Prod.fst x3) : Int)) fun x4 => some (x4, x3)) fun x5 => (Option.bind (Option.bind (Option.bind (some (Prod.fst (Prod.fst x5))) fun x6 => listL x6) fun x7 => Option.bind (Option.bind (some []) fun x8 => Option.bind (some ()) fun x9 => some (x8, x9)) fun x10 => some (x7, x10)) fun x11 => (Option.bind (Option.bind (some a2) fun x12 => ri1 x12) fun x13 => Option.bind (forS x13 (((Prod.snd (Prod.fst x5)), (Prod.fst x11), (Prod.fst (Prod.snd x11))) : ((List Int) × (List Int) × (List (List Int)))) fun s15 x14 => (Option.bind (Option.bind (Option.bind (Option.bind (Option.bind (some (0 : Int)) fun x16 => Option.bind (Option.bind (some (1 : Int)) fun x17 => Option.bind (Option.bind (some (1 : Int)) fun x18 => Option.bind (Option.bind (some (2 : Int)) fun x19 => Option.bind (Option.bind (Option.bind (Option.bind (Option.bind (some (2 : Int)) fun x20 => Option.bind (some a1) fun x21 => mulI x20 x21) fun x22 => Option.bind (some ()) fun x23 => some (x22, x23)) fun x24 => Option.bind (n__law_pick ((Prod.fst s15) : (List Int)) ((Prod.fst x24) : Int)) fun x25 => some (x25, x24)) fun x26 => Option.bind (some ()) fun x28 => some (x26, x28)) fun x29 => some (x19, x29)) fun x30 => some (x18, x30)) fun x31 => some (x17, x31)) fun x32 => some (x16, x32)) fun x27 => some (([(Prod.fst x27), (Prod.fst (Prod.snd x27)), (Prod.fst (Prod.snd (Prod.snd x27))), (Prod.fst (Prod.snd (Prod.snd (Prod.snd x27)))), (Prod.fst (Prod.fst (Prod.fst (Prod.snd (Prod.snd (Prod.snd (Prod.snd x27)))))))] : (List Int)), x27)) fun x33 => Option.bind (Option.bind (Option.bind (some (5 : Int)) fun x36 => Option.bind (some ()) fun x37 => some (x36, x37)) fun x38 => Option.bind (n__law_pick ((Prod.snd (Prod.fst (Prod.fst (Prod.snd (Prod.snd (Prod.snd (Prod.snd (Prod.snd x33)))))))) : (List Int)) ((Prod.fst x38) : Int)) fun x39 => some (x39, x38)) fun x34 => Option.bind (atL (Prod.fst x33) (Prod.fst (Prod.fst x34))) fun x35 => some (x35, x33, x34)) fun x40 => Option.bind (ri1 (Prod.fst x40)) fun x41 => some (x41, x40)) fun x42 => Option.bind (forS (Prod.fst x42) (((Prod.snd (Prod.fst (Prod.snd (Prod.snd (Prod.snd x42))))), (Prod.fst (Prod.snd s15))) : ((List Int) × (List Int))) fun s44 x43 => (Option.bind (Option.bind (Option.bind (Option.bind (some a1) fun x45 => Option.bind (some (1 : Int)) fun x46 => subI x45 x46) fun x47 => ri1 x47) fun x48 => if List.length (x48) ≤ cap then mapF x48 (fun x49 => (Option.bind (Option.bind (some (Prod.fst (Prod.fst x5))) fun x52 => Option.bind (Option.bind (some (Prod.snd s44)) fun x50 => Option.bind (some x49) fun x51 => atL x50 x51) fun x53 => idxL x52 x53) fun x60 => Option.bind (Option.bind (some (Prod.fst (Prod.fst x5))) fun x58 => Option.bind (Option.bind (some (Prod.snd s44)) fun x56 => Option.bind (Option.bind (some x49) fun x54 => Option.bind (some (1 : Int)) fun x55 => addI x54 x55) fun x57 => atL x56 x57) fun x59 => idxL x58 x59) fun x61 => ltI x60 x61)) (fun x49 => (some x49)) else none) fun x62 => (Option.bind (Option.bind (some x62) fun x63 => some (true != List.isEmpty x63)) fun x64 => if x64 = true then (Option.bind (Option.bind (some x62) fun x72 => Option.bind (Option.bind (Option.bind (Option.bind (some x62) fun x65 => lenL x65) fun x66 => Option.bind (some ()) fun x67 => some (x66, x67)) fun x68 => Option.bind (n__law_pick ((Prod.fst s44) : (List Int)) ((Prod.fst x68) : Int)) fun x69 => some (x69, x68)) fun x70 => Option.bind (atL x72 (Prod.fst (Prod.fst x70))) fun x71 => some (x71, x72, x70)) fun x73 => (Option.bind (Option.bind (Option.bind (Option.bind (some (Prod.snd s44)) fun x75 => Option.bind (some none) fun x76 => Option.bind (Option.bind (some (Prod.fst x73)) fun x74 => some (some x74)) fun x77 => some (cutL x75 x76 x77)) fun x89 => Option.bind (Option.bind (Option.bind (Option.bind (some (Prod.snd s44)) fun x80 => Option.bind (Option.bind (some (Prod.fst x73)) fun x78 => Option.bind (some (1 : Int)) fun x79 => addI x78 x79) fun x81 => atL x80 x81) fun x82 => Option.bind (Option.bind (Option.bind (some (Prod.snd s44)) fun x83 => Option.bind (some (Prod.fst x73)) fun x84 => atL x83 x84) fun x85 => Option.bind (some ()) fun x87 => some (x85, x87)) fun x88 => some (x82, x88)) fun x86 => some ([(Prod.fst x86), (Prod.fst (Prod.snd x86))] : (List Int))) fun x90 => catL x89 x90) fun x97 => Option.bind (Option.bind (some (Prod.snd s44)) fun x94 => Option.bind (Option.bind (Option.bind (some (Prod.fst x73)) fun x91 => Option.bind (some (2 : Int)) fun x92 => addI x91 x92) fun x93 => some (some x93)) fun x95 => Option.bind (some none) fun x96 => some (cutL x94 x95 x96)) fun x98 => catL x97 x98) fun x99 => some (((Prod.snd (Prod.fst (Prod.snd (Prod.snd x73)))), x99) : ((List Int) × (List Int))))) else some (((Prod.fst s44), (Prod.snd s44)) : ((List Int) × (List Int)))))) fun s44 => (Option.bind (Option.bind (Option.bind (some (Prod.snd s44)) fun x100 => listL x100) fun x101 => Option.bind (apL (Prod.snd (Prod.snd s15)) x101) fun x102 => some (x102, x101)) fun x103 => some (((Prod.fst s44), (Prod.snd s44), (Prod.fst x103)) : ((List Int) × (List Int) × (List (List Int))))))) fun s15 => some ((Prod.snd (Prod.snd s15)), (Prod.fst s15)))))
theorem V__law_turning (a0 : (List Int)) (a1 : Int) (a2 : Int) : Fun F__law_turning (n__law_turning a0 a1 a2) [ow a0, .fz (enc a1), .fz (enc a2)] (fun r : ((List (List Int)) × (List Int)) => ow ((Prod.fst r) : (List (List Int)))) fun r => [ow (Prod.snd r), .no, .no] :=
  fun_of (ΓR := fun r => [.eq (ow ((Prod.snd r) : (List Int))), .aa, .aa, .aa, .aa, .aa, .aa, .aa, .aa, .aa]) (show Bl B__law_turning _ _ _ from (bl_ga [.eq (ow (a0 : (List Int))), .eq (.fz (enc (a1 : Int))), .eq (.fz (enc (a2 : Int))), .eq .no, .eq .no, .eq .no, .eq .no, .eq .no, .eq .no, .eq .no] (by kernel_rfl) (bl_asgV (((ev_callG (ag_io (k := 0) rfl rfl (ag_cons (((pu_var 1 rfl)).tkP).ev fun x1 => ag_nil)) (fun x3 => V__law_vote (a0 : (List Int)) ((Prod.fst x3) : Int)))).tkT fun _ => ow_tree _) fun x5 => (bl_ga [.eq (ow ((Prod.snd (Prod.fst x5)) : (List Int))), .eq (.fz (enc (a1 : Int))), .eq (.fz (enc (a2 : Int))), .eq (.fz (enc ((Prod.fst (Prod.fst x5)) : (List Int)))), .eq .no, .eq .no, .eq .no, .eq .no, .eq .no, .eq .no] (by kernel_rfl) (bl_par (ag_cons ((((pu1 Nv.op_list ((pu_var 3 rfl)).rd)).tkTP ow_tree)).ev fun x7 => (ag_cons (pu_nil).ev fun x8 => ag_nil)) fun x11 => (bl_ga [.eq (ow ((Prod.snd (Prod.fst x5)) : (List Int))), .eq (.fz (enc (a1 : Int))), .eq (.fz (enc (a2 : Int))), .eq (.fz (enc ((Prod.fst (Prod.fst x5)) : (List Int)))), .eq .no, .eq (.fz (enc ((Prod.fst x11) : (List Int)))), .eq (ow ((Prod.fst (Prod.snd x11)) : (List (List Int)))), .eq .no, .eq .no, .eq .no] (by kernel_rfl) (bl_for (vs := [4]) (xs := fun x13 => x13) (s0 := fun x13 => (((Prod.snd (Prod.fst x5)), (Prod.fst x11), (Prod.fst (Prod.snd x11))) : ((List Int) × (List Int) × (List (List Int))))) (ΓL := fun x13 (s15 : ((List Int) × (List Int) × (List (List Int)))) => [.eq (ow ((Prod.fst s15) : (List Int))), .eq (.fz (enc (a1 : Int))), .eq (.fz (enc (a2 : Int))), .eq (.fz (enc ((Prod.fst (Prod.fst x5)) : (List Int)))), .pl, .eq (.fz (enc ((Prod.fst (Prod.snd s15)) : (List Int)))), .eq (ow ((Prod.snd (Prod.snd s15)) : (List (List Int)))), .pl, .pl, .pl]) ((ip_rng1 ((pu_var 2 rfl)).tkP)).it (fun x13 => (.cons .rfl (.cons .rfl (.cons .rfl (.cons .rfl (.cons .no (.cons .rfl (.cons .rfl (.cons .no (.cons .no (.cons .no .nil))))))))))) (fun x13 s15 x14 => tg_n) (fun x13 s15 x14 => (bl_ga [.eq (ow ((Prod.fst s15) : (List Int))), .eq (.fz (enc (a1 : Int))), .eq (.fz (enc (a2 : Int))), .eq (.fz (enc ((Prod.fst (Prod.fst x5)) : (List Int)))), .eq (.fz (enc (x14 : Int))), .eq (.fz (enc ((Prod.fst (Prod.snd s15)) : (List Int)))), .eq (ow ((Prod.snd (Prod.snd s15)) : (List (List Int)))), .pl, .pl, .pl] (by kernel_rfl) (bl_for (vs := [7]) (xs := fun x42 => (Prod.fst x42)) (s0 := fun x42 => (((Prod.snd (Prod.fst (Prod.snd (Prod.snd (Prod.snd x42))))), (Prod.fst (Prod.snd s15))) : ((List Int) × (List Int)))) (ΓL := fun x42 (s44 : ((List Int) × (List Int))) => [.eq (ow ((Prod.fst s44) : (List Int))), .eq (.fz (enc (a1 : Int))), .eq (.fz (enc (a2 : Int))), .eq (.fz (enc ((Prod.fst (Prod.fst x5)) : (List Int)))), .eq (.fz (enc (x14 : Int))), .eq (.fz (enc ((Prod.snd s44) : (List Int)))), .eq (ow ((Prod.snd (Prod.snd s15)) : (List (List Int)))), .pl, .pl, .pl]) (it_rng1 (n := fun x40 => (Prod.fst x40)) ((ev2g Nv.op_ix2 (va := fun x33 => (Prod.fst x33)) (vb := fun x33 x34 => (Prod.fst (Prod.fst x34))) (((ev_lst (dl_cons ((pu_c).tkP).ev fun x16 => (dl_cons ((pu_c).tkP).ev fun x17 => (dl_cons ((pu_c).tkP).ev fun x18 => (dl_cons ((pu_c).tkP).ev fun x19 => (dl_cons ((ev_callG (ag_io (k := 0) rfl rfl (ag_cons (((pu2 Nv.op_mul (pu_c).rd ((pu_var 1 rfl)).rd)).tkP).ev fun x22 => ag_nil)) (fun x24 => V__law_pick ((Prod.fst s15) : (List Int)) ((Prod.fst x24) : Int)))).tk fun x26 => (dl_ga [.eq (ow ((Prod.snd (Prod.fst x26)) : (List Int))), .eq (.fz (enc (a1 : Int))), .eq (.fz (enc (a2 : Int))), .eq (.fz (enc ((Prod.fst (Prod.fst x5)) : (List Int)))), .eq (.fz (enc (x14 : Int))), .eq (.fz (enc ((Prod.fst (Prod.snd s15)) : (List Int)))), .eq (ow ((Prod.snd (Prod.snd s15)) : (List (List Int)))), .pl, .pl, .pl] (by kernel_rfl) dl_nil)))))) (fun x27 => ([(Prod.fst x27), (Prod.fst (Prod.snd x27)), (Prod.fst (Prod.snd (Prod.snd x27))), (Prod.fst (Prod.snd (Prod.snd (Prod.snd x27)))), (Prod.fst (Prod.fst (Prod.fst (Prod.snd (Prod.snd (Prod.snd (Prod.snd x27)))))))] : (List Int))))).erT fun _ => ow_tree _) fun x33 => (es_ga [.eq (ow ((Prod.snd (Prod.fst (Prod.fst (Prod.snd (Prod.snd (Prod.snd (Prod.snd (Prod.snd x33)))))))) : (List Int))), .eq (.fz (enc (a1 : Int))), .eq (.fz (enc (a2 : Int))), .eq (.fz (enc ((Prod.fst (Prod.fst x5)) : (List Int)))), .eq (.fz (enc (x14 : Int))), .eq (.fz (enc ((Prod.fst (Prod.snd s15)) : (List Int)))), .eq (ow ((Prod.snd (Prod.snd s15)) : (List (List Int)))), .pl, .pl, .pl] (by kernel_rfl) (((ev_callG (ag_io (k := 0) rfl rfl (ag_cons (pu_c).ev fun x36 => ag_nil)) (fun x38 => V__law_pick ((Prod.snd (Prod.fst (Prod.fst (Prod.snd (Prod.snd (Prod.snd (Prod.snd (Prod.snd x33)))))))) : (List Int)) ((Prod.fst x38) : Int)))).er).es))).tk) (fun x42 => (gale_ga [.eq (ow ((Prod.snd (Prod.fst (Prod.snd (Prod.snd (Prod.snd x42))))) : (List Int))), .eq (.fz (enc (a1 : Int))), .eq (.fz (enc (a2 : Int))), .eq (.fz (enc ((Prod.fst (Prod.fst x5)) : (List Int)))), .eq (.fz (enc (x14 : Int))), .eq (.fz (enc ((Prod.fst (Prod.snd s15)) : (List Int)))), .eq (ow ((Prod.snd (Prod.snd s15)) : (List (List Int)))), .pl, .pl, .pl] (by kernel_rfl) (.cons .rfl (.cons .rfl (.cons .rfl (.cons .rfl (.cons .rfl (.cons .rfl (.cons .rfl (.cons .rfl (.cons .rfl (.cons .rfl .nil)))))))))))) (fun x42 s44 x43 => tg_n) (fun x42 s44 x43 => (bl_ga [.eq (ow ((Prod.fst s44) : (List Int))), .eq (.fz (enc (a1 : Int))), .eq (.fz (enc (a2 : Int))), .eq (.fz (enc ((Prod.fst (Prod.fst x5)) : (List Int)))), .eq (.fz (enc (x14 : Int))), .eq (.fz (enc ((Prod.snd s44) : (List Int)))), .eq (ow ((Prod.snd (Prod.snd s15)) : (List (List Int)))), .eq (.fz (enc (x43 : Int))), .pl, .pl] (by kernel_rfl) (bl_asgV ((((pu_lc (vs := [9]) (ip_rng1 ((pu2 Nv.op_sub ((pu_var 1 rfl)).rd (pu_c).rd)).tkP) rfl rfl (fun x48 x49 => tg_n) (fun x48 x49 => (ts_ga [.eq (ow ((Prod.fst s44) : (List Int))), .eq (.fz (enc (a1 : Int))), .eq (.fz (enc (a2 : Int))), .eq (.fz (enc ((Prod.fst (Prod.fst x5)) : (List Int)))), .eq (.fz (enc (x14 : Int))), .eq (.fz (enc ((Prod.snd s44) : (List Int)))), .eq (ow ((Prod.snd (Prod.snd s15)) : (List (List Int)))), .eq (.fz (enc (x43 : Int))), .pl, .eq (.fz (enc (x49 : Int)))] (by kernel_rfl) (ts_tst (pu2 Nv.op_lt ((pu_idx ((pu_var 3 rfl)).rd ((pu2 Nv.op_ix2 ((pu_var 5 rfl)).rd ((pu_var 9 rfl)).rd)).rd)).rd ((pu_idx ((pu_var 3 rfl)).rd ((pu2 Nv.op_ix2 ((pu_var 5 rfl)).rd ((pu2 Nv.op_add ((pu_var 9 rfl)).rd (pu_c).rd)).rd)).rd)).rd)))) fun x48 x49 => (pu_ga [.eq (ow ((Prod.fst s44) : (List Int))), .eq (.fz (enc (a1 : Int))), .eq (.fz (enc (a2 : Int))), .eq (.fz (enc ((Prod.fst (Prod.fst x5)) : (List Int)))), .eq (.fz (enc (x14 : Int))), .eq (.fz (enc ((Prod.snd s44) : (List Int)))), .eq (ow ((Prod.snd (Prod.snd s15)) : (List (List Int)))), .eq (.fz (enc (x43 : Int))), .pl, .eq (.fz (enc (x49 : Int)))] (by kernel_rfl) ((pu_var 9 rfl)).tkP))).tkTP ow_tree)).ev fun x62 => (bl_ga [.eq (ow ((Prod.fst s44) : (List Int))), .eq (.fz (enc (a1 : Int))), .eq (.fz (enc (a2 : Int))), .eq (.fz (enc ((Prod.fst (Prod.fst x5)) : (List Int)))), .eq (.fz (enc (x14 : Int))), .eq (.fz (enc ((Prod.snd s44) : (List Int)))), .eq (ow ((Prod.snd (Prod.snd s15)) : (List (List Int)))), .eq (.fz (enc (x43 : Int))), .eq (.fz (enc (x62 : (List Int)))), .pl] (by kernel_rfl) (bl_last (bl_if (k := fun x64 => x64) ((ts_tst (pu_eqE (((pu_var 8 rfl)).rd).ra))).te' (fun x64 => (bl_assoc (bl_asgV ((ev2g Nv.op_ix2 (va := fun x72 => x72) (vb := fun x72 x70 => (Prod.fst (Prod.fst x70))) ((pu_var 8 rfl)).ev.er fun x72 => (((ev_callG (ag_io (k := 0) rfl rfl (ag_cons (((pu1A Nv.op_len (((pu_var 8 rfl)).rd).ra)).tkP).ev fun x66 => ag_nil)) (fun x68 => V__law_pick ((Prod.fst s44) : (List Int)) ((Prod.fst x68) : Int)))).er).es)).tk fun x73 => (bl_ga [.eq (ow ((Prod.snd (Prod.fst (Prod.snd (Prod.snd x73)))) : (List Int))), .eq (.fz (enc (a1 : Int))), .eq (.fz (enc (a2 : Int))), .eq (.fz (enc ((Prod.fst (Prod.fst x5)) : (List Int)))), .eq (.fz (enc (x14 : Int))), .eq (.fz (enc ((Prod.snd s44) : (List Int)))), .eq (ow ((Prod.snd (Prod.snd s15)) : (List (List Int)))), .eq (.fz (enc (x43 : Int))), .eq (.fz (enc (x62 : (List Int)))), .eq (.fz (enc ((Prod.fst x73) : Int)))] (by kernel_rfl) (bl_asgV ((((pu2 Nv.op_cat (((pu2 Nv.op_cat (((pu_sl ((pu_var 5 rfl)).rd .no (.yes ((pu_var 9 rfl)).rd))).rdT ow_tree) (((pu_lst (dp_cons ((pu2 Nv.op_ix2 ((pu_var 5 rfl)).rd ((pu2 Nv.op_add ((pu_var 9 rfl)).rd (pu_c).rd)).rd)).tkP (dp_cons ((pu2 Nv.op_ix2 ((pu_var 5 rfl)).rd ((pu_var 9 rfl)).rd)).tkP dp_nil)) (fun x86 => ([(Prod.fst x86), (Prod.fst (Prod.snd x86))] : (List Int))))).rdT ow_tree))).rdT ow_tree) (((pu_sl ((pu_var 5 rfl)).rd (.yes ((pu2 Nv.op_add ((pu_var 9 rfl)).rd (pu_c).rd)).rd) .no)).rdT ow_tree))).tkTP ow_tree)).ev fun x99 => (bl_ga [.eq (ow ((Prod.snd (Prod.fst (Prod.snd (Prod.snd x73)))) : (List Int))), .eq (.fz (enc (a1 : Int))), .eq (.fz (enc (a2 : Int))), .eq (.fz (enc ((Prod.fst (Prod.fst x5)) : (List Int)))), .eq (.fz (enc (x14 : Int))), .eq (.fz (enc (x99 : (List Int)))), .eq (ow ((Prod.snd (Prod.snd s15)) : (List (List Int)))), .eq (.fz (enc (x43 : Int))), .eq (.fz (enc (x62 : (List Int)))), .eq (.fz (enc ((Prod.fst x73) : Int)))] (by kernel_rfl) (bl_end (rs_nx (.cons .rfl (.cons .rfl (.cons .rfl (.cons .rfl (.cons .rfl (.cons .rfl (.cons .rfl (.cons .fz (.cons .fz (.cons .fz .nil)))))))))))))))))) fun x64 => (bl_next (bl_end (rs_nx (.cons .rfl (.cons .rfl (.cons .rfl (.cons .rfl (.cons .rfl (.cons .rfl (.cons .rfl (.cons .fz (.cons .fz (.cons .rfl .nil))))))))))))))))))) fun x42 s44 => (bl_last (bl_expr (ev_app (k := 6) (va := fun x101 => x101) (xs := fun x101 => (Prod.snd (Prod.snd s15))) rfl rfl ((((pu1 Nv.op_list ((pu_var 5 rfl)).rd)).tkTP ow_tree)).ev fun _ => rfl) fun x103 => (bl_ga [.eq (ow ((Prod.fst s44) : (List Int))), .eq (.fz (enc (a1 : Int))), .eq (.fz (enc (a2 : Int))), .eq (.fz (enc ((Prod.fst (Prod.fst x5)) : (List Int)))), .eq (.fz (enc (x14 : Int))), .eq (.fz (enc ((Prod.snd s44) : (List Int)))), .eq (ow ((Prod.fst x103) : (List (List Int)))), .pl, .pl, .pl] (by kernel_rfl) (bl_end (rs_nx (.cons .rfl (.cons .rfl (.cons .rfl (.cons .rfl (.cons .fz (.cons .rfl (.cons .rfl (.cons .rfl (.cons .rfl (.cons .rfl .nil)))))))))))))))))) fun x13 s15 => (bl_retO (k := 6) rfl rfl (sat_ga [.eq (ow ((Prod.fst s15) : (List Int))), .eq (.fz (enc (a1 : Int))), .eq (.fz (enc (a2 : Int))), .eq (.fz (enc ((Prod.fst (Prod.fst x5)) : (List Int)))), .pl, .eq (.fz (enc ((Prod.fst (Prod.snd s15)) : (List Int)))), .eq .no, .pl, .pl, .pl] (by kernel_rfl) (rf_eq rfl (.cons .rfl (.cons .aa (.cons .aa (.cons .aa (.cons .aa (.cons .aa (.cons .aa (.cons .aa (.cons .aa (.cons .aa .nil))))))))))))))))))))
end P
namespace P
open PySem PySem.Spec PyProof.Rows L2 Hb Nv
open Enc (enc)
def B__law_crowd_v2 : List Sl → Ot :=
    oSeq (oPar [3, 4] (rCons (sTk (sCall F__law_pick [] (rIo 0 (rCons (sC (.int 3)) (rNil))))) (rCons (sLst (lNil)) (rNil))))
    (oSeq (oFor (wRng1 (sVar 1)) (tgN 2) (oSeq (oAsg (sTk (s2 gIx2 (sLst (lCons (sCall F__law_pick [] (rIo 0 (rCons (sC (.int 4)) (rNil)))) (lCons (sCall F__law_pick [] (rIo 0 (rCons (sTk (s2 gAdd (s2 gPowW (sC (.int 10)) (sC (.int 30))) (sC (.int 1)))) (rNil)))) (lCons (sC (.int 0)) (lNil))))) (sVar 3))) (tgN 5))
    (oDrop (sApp (sVar 4) (sIf (sTst (s2 gLt (sVar 3) (sC (.int 2)))) (s2 gIx2 (sLst (lCons (sVar 5) (lCons (s2 gPowW (sC (.int 10)) (sC (.int 30))) (lCons (sVar 5) (lCons (sC (.int 1)) (lNil)))))) (sCall F__law_pick [] (rIo 0 (rCons (sC (.int 4)) (rNil))))) (s1 (gRd intD) (s2 gEq (sCall F__law_pick [] (rIo 0 (rCons (sC (.int 4)) (rNil)))) (sC (.int 0)))))))))
    (oRet (sVar 4)))
def F__law_crowd_v2 : List Sl → FR := fnRun 2 6 [0] B__law_crowd_v2
def n__law_crowd_v2 (a0 : (List Int)) (a1 : Int) : Option ((List Int) × (List Int)) :=
    (Option.bind (Option.bind (Option.bind (Option.bind (some (3 : Int)) fun x1 => Option.bind (some ()) fun x2 => some (x1, x2)) fun x3 => Option.bind (n__law_pick (a0 : (List Int)) ((Prod.fst x3) : Int)) fun x4 => some (x4, x3)) fun x5 => Option.bind (Option.bind (some []) fun x6 => Option.bind (some ()) fun x7 => some (x6, x7)) fun x8 => some (x5, x8)) fun x9 => (Option.bind (Option.bind (some a1) fun x10 => ri1 x10) fun x11 => Option.bind (forS x11 (((Prod.snd (Prod.fst (Prod.fst x9))), (Prod.fst (Prod.snd x9))) : ((List Int) × (List Int))) fun s13 x12 => (Option.bind (Option.bind (Option.bind (Option.bind (Option.bind (Option.bind (some (4 : Int)) fun x14 => Option.bind (some ()) fun x15 => some (x14, x15)) fun x16 => Option.bind (n__law_pick ((Prod.fst s13) : (List Int)) ((Prod.fst x16) : Int)) fun x17 => some (x17, x16)) fun x18 => Option.bind (Option.bind (Option.bind (Option.bind (Option.bind (Option.bind (some (10 : Int)) fun x19 => Option.bind (some (30 : Int)) fun x20 => powW x19 x20) fun x21 => Option.bind (some (1 : Int)) fun x22 => addI x21 x22) fun x23 => Option.bind (some ()) fun x24 => some (x23, x24)) fun x25 => Option.bind (n__law_pick ((Prod.snd (Prod.fst x18)) : (List Int)) ((Prod.fst x25) : Int)) fun x26 => some (x26, x25)) fun x27 => Option.bind (Option.bind (some (0 : Int)) fun x28 => Option.bind (some ()) fun x30 => some (x28, x30)) fun x31 => some (x27, x31)) fun x32 => some (x18, x32)) fun x29 => some (([(Prod.fst (Prod.fst (Prod.fst x29))), (Prod.fst (Prod.fst (Prod.fst (Prod.snd x29)))), (Prod.fst (Prod.snd (Prod.snd x29)))] : (List Int)), x29)) fun x33 => Option.bind (some (Prod.fst (Prod.fst (Prod.fst x9)))) fun x34 => Option.bind (atL (Prod.fst x33) x34) fun x35 => some (x35, x33, x34)) fun x36 => (Option.bind (Option.bind (Option.bind (Option.bind (some (Prod.fst (Prod.fst (Prod.fst x9)))) fun x37 => Option.bind (some (2 : Int)) fun x38 => ltI x37 x38) fun x66 => if x66 = true then (Option.bind (Option.bind (Option.bind (Option.bind (some (Prod.fst x36)) fun x67 => Option.bind (Option.bind (Option.bind (some (10 : Int)) fun x68 => Option.bind (some (30 : Int)) fun x69 => powW x68 x69) fun x70 => Option.bind (Option.bind (some (Prod.fst x36)) fun x71 => Option.bind (Option.bind (some (1 : Int)) fun x72 => Option.bind (some ()) fun x74 => some (x72, x74)) fun x75 => some (x71, x75)) fun x76 => some (x70, x76)) fun x77 => some (x67, x77)) fun x73 => some ([(Prod.fst x73), (Prod.fst (Prod.snd x73)), (Prod.fst (Prod.snd (Prod.snd x73))), (Prod.fst (Prod.snd (Prod.snd (Prod.snd x73))))] : (List Int))) fun x84 => Option.bind (Option.bind (Option.bind (some (4 : Int)) fun x78 => Option.bind (some ()) fun x79 => some (x78, x79)) fun x80 => Option.bind (n__law_pick ((Prod.snd (Prod.fst (Prod.fst (Prod.snd (Prod.snd (Prod.fst (Prod.snd x36))))))) : (List Int)) ((Prod.fst x80) : Int)) fun x81 => some (x81, x80)) fun x82 => Option.bind (atL x84 (Prod.fst (Prod.fst x82))) fun x83 => some (x83, x84, x82)) fun x94 => some ((Prod.fst x94), (Prod.snd (Prod.fst (Prod.snd (Prod.snd x94)))))) else (Option.bind (Option.bind (Option.bind (Option.bind (Option.bind (some (4 : Int)) fun x85 => Option.bind (some ()) fun x86 => some (x85, x86)) fun x87 => Option.bind (n__law_pick ((Prod.snd (Prod.fst (Prod.fst (Prod.snd (Prod.snd (Prod.fst (Prod.snd x36))))))) : (List Int)) ((Prod.fst x87) : Int)) fun x88 => some (x88, x87)) fun x89 => Option.bind (some (0 : Int)) fun x90 => Option.bind (eqN (Prod.fst (Prod.fst x89)) x90) fun x91 => some (x91, x89, x90)) fun x92 => Option.bind (intB (Prod.fst x92)) fun x93 => some (x93, x92)) fun x95 => some ((Prod.fst x95), (Prod.snd (Prod.fst (Prod.fst (Prod.snd (Prod.snd x95)))))))) fun x97 => Option.bind (apL (Prod.snd s13) (Prod.fst x97)) fun x98 => some (x98, x97)) fun x99 => some (((Prod.snd (Prod.snd x99)), (Prod.fst x99)) : ((List Int) × (List Int)))))) fun s13 => some ((Prod.snd s13), (Prod.fst s13))))
theorem V__law_crowd_v2 (a0 : (List Int)) (a1 : Int) : Fun F__law_crowd_v2 (n__law_crowd_v2 a0 a1) [ow a0, .fz (enc a1)] (fun r : ((List Int) × (List Int)) => ow ((Prod.fst r) : (List Int))) fun r => [ow (Prod.snd r), .no] :=
  fun_of (ΓR := fun r => [.eq (ow ((Prod.snd r) : (List Int))), .aa, .aa, .aa, .aa, .aa]) (show Bl B__law_crowd_v2 _ _ _ from (bl_ga [.eq (ow (a0 : (List Int))), .eq (.fz (enc (a1 : Int))), .eq .no, .eq .no, .eq .no, .eq .no] (by kernel_rfl) (bl_par (ag_cons ((ev_callG (ag_io (k := 0) rfl rfl (ag_cons (pu_c).ev fun x1 => ag_nil)) (fun x3 => V__law_pick (a0 : (List Int)) ((Prod.fst x3) : Int)))).tk fun x5 => (ag_ga [.eq (ow ((Prod.snd (Prod.fst x5)) : (List Int))), .eq (.fz (enc (a1 : Int))), .eq .no, .eq .no, .eq .no, .eq .no] (by kernel_rfl) (ag_cons (pu_nil).ev fun x6 => ag_nil))) fun x9 => (bl_ga [.eq (ow ((Prod.snd (Prod.fst (Prod.fst x9))) : (List Int))), .eq (.fz (enc (a1 : Int))), .eq .no, .eq (.fz (enc ((Prod.fst (Prod.fst (Prod.fst x9))) : Int))), .eq (ow ((Prod.fst (Prod.snd x9)) : (List Int))), .eq .no] (by kernel_rfl) (bl_for (vs := [2]) (xs := fun x11 => x11) (s0 := fun x11 => (((Prod.snd (Prod.fst (Prod.fst x9))), (Prod.fst (Prod.snd x9))) : ((List Int) × (List Int)))) (ΓL := fun x11 (s13 : ((List Int) × (List Int))) => [.eq (ow ((Prod.fst s13) : (List Int))), .eq (.fz (enc (a1 : Int))), .pl, .eq (.fz (enc ((Prod.fst (Prod.fst (Prod.fst x9))) : Int))), .eq (ow ((Prod.snd s13) : (List Int))), .pl]) ((ip_rng1 ((pu_var 1 rfl)).tkP)).it (fun x11 => (.cons .rfl (.cons .rfl (.cons .no (.cons .rfl (.cons .rfl (.cons .no .nil))))))) (fun x11 s13 x12 => tg_n) (fun x11 s13 x12 => (bl_ga [.eq (ow ((Prod.fst s13) : (List Int))), .eq (.fz (enc (a1 : Int))), .eq (.fz (enc (x12 : Int))), .eq (.fz (enc ((Prod.fst (Prod.fst (Prod.fst x9))) : Int))), .eq (ow ((Prod.snd s13) : (List Int))), .pl] (by kernel_rfl) (bl_asgV ((ev2g Nv.op_ix2 (va := fun x33 => (Prod.fst x33)) (vb := fun x33 x34 => x34) (((ev_lst (dl_cons ((ev_callG (ag_io (k := 0) rfl rfl (ag_cons (pu_c).ev fun x14 => ag_nil)) (fun x16 => V__law_pick ((Prod.fst s13) : (List Int)) ((Prod.fst x16) : Int)))).tk fun x18 => (dl_ga [.eq (ow ((Prod.snd (Prod.fst x18)) : (List Int))), .eq (.fz (enc (a1 : Int))), .eq (.fz (enc (x12 : Int))), .eq (.fz (enc ((Prod.fst (Prod.fst (Prod.fst x9))) : Int))), .eq (ow ((Prod.snd s13) : (List Int))), .pl] (by kernel_rfl) (dl_cons ((ev_callG (ag_io (k := 0) rfl rfl (ag_cons (((pu2 Nv.op_add ((pu2 Nv.op_powW (pu_c).rd (pu_c).rd)).rd (pu_c).rd)).tkP).ev fun x23 => ag_nil)) (fun x25 => V__law_pick ((Prod.snd (Prod.fst x18)) : (List Int)) ((Prod.fst x25) : Int)))).tk fun x27 => (dl_ga [.eq (ow ((Prod.snd (Prod.fst x27)) : (List Int))), .eq (.fz (enc (a1 : Int))), .eq (.fz (enc (x12 : Int))), .eq (.fz (enc ((Prod.fst (Prod.fst (Prod.fst x9))) : Int))), .eq (ow ((Prod.snd s13) : (List Int))), .pl] (by kernel_rfl) (dl_cons ((pu_c).tkP).ev fun x28 => dl_nil))))) (fun x29 => ([(Prod.fst (Prod.fst (Prod.fst x29))), (Prod.fst (Prod.fst (Prod.fst (Prod.snd x29)))), (Prod.fst (Prod.snd (Prod.snd x29)))] : (List Int))))).erT fun _ => ow_tree _) fun x33 => (es_ga [.eq (ow ((Prod.snd (Prod.fst (Prod.fst (Prod.snd (Prod.snd x33))))) : (List Int))), .eq (.fz (enc (a1 : Int))), .eq (.fz (enc (x12 : Int))), .eq (.fz (enc ((Prod.fst (Prod.fst (Prod.fst x9))) : Int))), .eq (ow ((Prod.snd s13) : (List Int))), .pl] (by kernel_rfl) (((pu_var 3 rfl)).rd).es))).tk fun x36 => (bl_ga [.eq (ow ((Prod.snd (Prod.fst (Prod.fst (Prod.snd (Prod.snd (Prod.fst (Prod.snd x36))))))) : (List Int))), .eq (.fz (enc (a1 : Int))), .eq (.fz (enc (x12 : Int))), .eq (.fz (enc ((Prod.fst (Prod.fst (Prod.fst x9))) : Int))), .eq (ow ((Prod.snd s13) : (List Int))), .eq (.fz (enc ((Prod.fst x36) : Int)))] (by kernel_rfl) (bl_last (bl_expr (ev_app (k := 4) (va := fun x97 => (Prod.fst x97)) (xs := fun x97 => (Prod.snd s13)) rfl rfl ((ev_if (k := fun x66 => x66) (a := fun x96 => AV.val (enc (Prod.fst x96))) (Γ2 := fun x96 => [.eq (ow ((Prod.snd x96) : (List Int))), .eq (.fz (enc (a1 : Int))), .eq (.fz (enc (x12 : Int))), .eq (.fz (enc ((Prod.fst (Prod.fst (Prod.fst x9))) : Int))), .eq (ow ((Prod.snd s13) : (List Int))), .eq (.fz (enc ((Prod.fst x36) : Int)))]) ((ts_tst (pu2 Nv.op_lt ((pu_var 3 rfl)).rd (pu_c).rd))).te' (fun x66 => (Ev.mapW (fun x94 => ((Prod.fst x94), (Prod.snd (Prod.fst (Prod.snd (Prod.snd x94)))))) (ev2g Nv.op_ix2 (va := fun x84 => x84) (vb := fun x84 x82 => (Prod.fst (Prod.fst x82))) (((pu_lst (dp_cons ((pu_var 5 rfl)).tkP (dp_cons ((pu2 Nv.op_powW (pu_c).rd (pu_c).rd)).tkP (dp_cons ((pu_var 5 rfl)).tkP (dp_cons (pu_c).tkP dp_nil)))) (fun x73 => ([(Prod.fst x73), (Prod.fst (Prod.snd x73)), (Prod.fst (Prod.snd (Prod.snd x73))), (Prod.fst (Prod.snd (Prod.snd (Prod.snd x73))))] : (List Int))))).ev.erT fun _ => ow_tree _) fun x84 => (((ev_callG (ag_io (k := 0) rfl rfl (ag_cons (pu_c).ev fun x78 => ag_nil)) (fun x80 => V__law_pick ((Prod.snd (Prod.fst (Prod.fst (Prod.snd (Prod.snd (Prod.fst (Prod.snd x36))))))) : (List Int)) ((Prod.fst x80) : Int)))).er).es) fun x94 => (gale_ga [.eq (ow ((Prod.snd (Prod.fst (Prod.snd (Prod.snd x94)))) : (List Int))), .eq (.fz (enc (a1 : Int))), .eq (.fz (enc (x12 : Int))), .eq (.fz (enc ((Prod.fst (Prod.fst (Prod.fst x9))) : Int))), .eq (ow ((Prod.snd s13) : (List Int))), .eq (.fz (enc ((Prod.fst x36) : Int)))] (by kernel_rfl) (.cons .rfl (.cons .rfl (.cons .rfl (.cons .rfl (.cons .rfl (.cons .rfl .nil))))))))) fun x66 => (Ev.mapW (fun x95 => ((Prod.fst x95), (Prod.snd (Prod.fst (Prod.fst (Prod.snd (Prod.snd x95))))))) (ev1g (Op1A.to Nv.op_intB) (va := fun x92 => (Prod.fst x92)) (((ev2g (Op2A.to Nv.op_eq) (va := fun x89 => (Prod.fst (Prod.fst x89))) (vb := fun x89 x90 => x90) ((ev_callG (ag_io (k := 0) rfl rfl (ag_cons (pu_c).ev fun x85 => ag_nil)) (fun x87 => V__law_pick ((Prod.snd (Prod.fst (Prod.fst (Prod.snd (Prod.snd (Prod.fst (Prod.snd x36))))))) : (List Int)) ((Prod.fst x87) : Int)))).er fun x89 => (es_ga [.eq (ow ((Prod.snd (Prod.fst x89)) : (List Int))), .eq (.fz (enc (a1 : Int))), .eq (.fz (enc (x12 : Int))), .eq (.fz (enc ((Prod.fst (Prod.fst (Prod.fst x9))) : Int))), .eq (ow ((Prod.snd s13) : (List Int))), .eq (.fz (enc ((Prod.fst x36) : Int)))] (by kernel_rfl) ((pu_c).rd).es))).er).es) fun x95 => (gale_ga [.eq (ow ((Prod.snd (Prod.fst (Prod.fst (Prod.snd (Prod.snd x95))))) : (List Int))), .eq (.fz (enc (a1 : Int))), .eq (.fz (enc (x12 : Int))), .eq (.fz (enc ((Prod.fst (Prod.fst (Prod.fst x9))) : Int))), .eq (ow ((Prod.snd s13) : (List Int))), .eq (.fz (enc ((Prod.fst x36) : Int)))] (by kernel_rfl) (.cons .rfl (.cons .rfl (.cons .rfl (.cons .rfl (.cons .rfl (.cons .rfl .nil)))))))))).tk fun _ => rfl) fun x99 => (bl_ga [.eq (ow ((Prod.snd (Prod.snd x99)) : (List Int))), .eq (.fz (enc (a1 : Int))), .eq (.fz (enc (x12 : Int))), .eq (.fz (enc ((Prod.fst (Prod.fst (Prod.fst x9))) : Int))), .eq (ow ((Prod.fst x99) : (List Int))), .eq (.fz (enc ((Prod.fst x36) : Int)))] (by kernel_rfl) (bl_end (rs_nx (.cons .rfl (.cons .rfl (.cons .fz (.cons .rfl (.cons .rfl (.cons .fz .nil))))))))))))))) fun x11 s13 => (bl_retO (k := 4) rfl rfl (sat_ga [.eq (ow ((Prod.fst s13) : (List Int))), .eq (.fz (enc (a1 : Int))), .pl, .eq (.fz (enc ((Prod.fst (Prod.fst (Prod.fst x9))) : Int))), .eq .no, .pl] (by kernel_rfl) (rf_eq rfl (.cons .rfl (.cons .aa (.cons .aa (.cons .aa (.cons .aa (.cons .aa .nil))))))))))))))
end P
namespace P
open PySem PySem.Spec PyProof.Rows L2 Hb Nv
open Enc (enc)
def B__law_pairs : List Sl → Ot :=
    oSeq (oAsg (sLst (lNil)) (tgN 1))
    (oSeq (oFor (wRng1 (sVar 0)) (tgN 2) (oDrop (sExt (sVar 1) (sLc false (wRng2 (s2 gAdd (sVar 2) (sC (.int 1))) (sVar 0)) [3] (tgN 3) (tOk) (sTk (sTup (lCons (sVar 2) (lCons (sVar 3) (lNil)))))))))
    (oRet (sVar 1)))
def F__law_pairs : List Sl → FR := fnRun 1 4 [] B__law_pairs
def n__law_pairs (a0 : Int) : Option ((List (Int × Int))) :=
    (Option.bind (some []) fun x1 => (Option.bind (Option.bind (some a0) fun x2 => ri1 x2) fun x3 => Option.bind (forS x3 (x1 : (List (Int × Int))) fun s5 x4 => (Option.bind (Option.bind (Option.bind (Option.bind (Option.bind (some x4) fun x6 => Option.bind (some (1 : Int)) fun x7 => addI x6 x7) fun x8 => Option.bind (some a0) fun x9 => ri2 x8 x9) fun x10 => if List.length (x10) ≤ cap then mapF x10 (fun x11 => (some true)) (fun x11 => (Option.bind (Option.bind (some x4) fun x12 => Option.bind (Option.bind (some x11) fun x13 => Option.bind (some ()) fun x15 => some (x13, x15)) fun x16 => some (x12, x16)) fun x14 => some (((Prod.fst x14), (Prod.fst (Prod.snd x14))) : (Int × Int)))) else none) fun x17 => Option.bind (exL s5 x17) fun x18 => some (x18, x17)) fun x19 => some ((Prod.fst x19) : (List (Int × Int))))) fun s5 => some s5))
theorem V__law_pairs (a0 : Int) : Fun F__law_pairs (n__law_pairs a0) [.fz (enc a0)] (fun r : ((List (Int × Int))) => ow (r : (List (Int × Int)))) fun r => [.no] :=
  fun_of (ΓR := fun r => [.aa, .aa, .aa, .aa]) (show Bl B__law_pairs _ _ _ from (bl_ga [.eq (.fz (enc (a0 : Int))), .eq .no, .eq .no, .eq .no] (by kernel_rfl) (bl_asgT (pu_nil).ev fun x1 => (bl_ga [.eq (.fz (enc (a0 : Int))), .eq (ow (x1 : (List (Int × Int)))), .eq .no, .eq .no] (by kernel_rfl) (bl_for (vs := [2]) (xs := fun x3 => x3) (s0 := fun x3 => (x1 : (List (Int × Int)))) (ΓL := fun x3 (s5 : (List (Int × Int))) => [.eq (.fz (enc (a0 : Int))), .eq (ow (s5 : (List (Int × Int)))), .pl, .eq .no]) ((ip_rng1 ((pu_var 0 rfl)).tkP)).it (fun x3 => (.cons .rfl (.cons .rfl (.cons .no (.cons .rfl .nil))))) (fun x3 s5 x4 => tg_n) (fun x3 s5 x4 => (bl_ga [.eq (.fz (enc (a0 : Int))), .eq (ow (s5 : (List (Int × Int)))), .eq (.fz (enc (x4 : Int))), .eq .no] (by kernel_rfl) (bl_last (bl_expr (ev_ext (k := 1) (va := fun x17 => x17) (xs := fun x17 => s5) rfl rfl ((((pu_lc (vs := [3]) (ip_rng2 ((pu2 Nv.op_add ((pu_var 2 rfl)).rd (pu_c).rd)).tkP ((pu_var 0 rfl)).tkP) rfl rfl (fun x10 x11 => tg_n) (fun x10 x11 => (ts_ga [.eq (.fz (enc (a0 : Int))), .eq (ow (s5 : (List (Int × Int)))), .eq (.fz (enc (x4 : Int))), .eq (.fz (enc (x11 : Int)))] (by kernel_rfl) ts_ok)) fun x10 x11 => (pu_ga [.eq (.fz (enc (a0 : Int))), .eq (ow (s5 : (List (Int × Int)))), .eq (.fz (enc (x4 : Int))), .eq (.fz (enc (x11 : Int)))] (by kernel_rfl) ((pu_tup (dp_cons ((pu_var 2 rfl)).tkP (dp_cons ((pu_var 3 rfl)).tkP dp_nil)) (fun x14 => (((Prod.fst x14), (Prod.fst (Prod.snd x14))) : (Int × Int))))).tkP))).tkTP ow_tree)).ev fun _ => rfl) fun x19 => (bl_ga [.eq (.fz (enc (a0 : Int))), .eq (ow ((Prod.fst x19) : (List (Int × Int)))), .eq (.fz (enc (x4 : Int))), .eq .no] (by kernel_rfl) (bl_end (rs_nx (.cons .rfl (.cons .rfl (.cons .fz (.cons .rfl .nil))))))))))) fun x3 s5 => (bl_retO (k := 1) rfl rfl (sat_ga [.eq (.fz (enc (a0 : Int))), .eq .no, .pl, .eq .no] (by kernel_rfl) (rf_eq rfl (.cons .aa (.cons .aa (.cons .aa (.cons .aa .nil))))))))))))
end P
namespace P
open PySem PySem.Spec PyProof.Rows L2 Hb Nv
open Enc (enc)
def B__law_above : List Sl → Ot :=
    oRet (s2 gLt (sIdx (sVar 0) (sVar 1)) (sIdx (sVar 0) (sVar 2)))
def F__law_above : List Sl → FR := fnRun 3 3 [] B__law_above
def n__law_above (a0 : (List Int)) (a1 : (Option Int)) (a2 : Int) : Option (Bool) :=
    (Option.bind (Option.bind (Option.bind (some a0) fun x2 => Option.bind (Option.bind (some a1) fun x1 => x1) fun x3 => idxL x2 x3) fun x6 => Option.bind (Option.bind (some a0) fun x4 => Option.bind (some a2) fun x5 => idxL x4 x5) fun x7 => ltI x6 x7) fun x8 => some x8)
theorem V__law_above (a0 : (List Int)) (a1 : (Option Int)) (a2 : Int) : Fun F__law_above (n__law_above a0 a1 a2) [.fz (enc a0), .fz (enc a1), .fz (enc a2)] (fun r : (Bool) => .fz (enc (r : Bool))) fun r => [.no, .no, .no] :=
  fun_of (ΓR := fun r => [.aa, .aa, .aa]) (show Bl B__law_above _ _ _ from (bl_ga [.eq (.fz (enc (a0 : (List Int)))), .eq (.fz (enc (a1 : (Option Int)))), .eq (.fz (enc (a2 : Int)))] (by kernel_rfl) (bl_retV ((pu2 Nv.op_lt ((pu_idx ((pu_var 0 rfl)).rd ((Pu.un (pu_var 1 rfl))).rd)).rd ((pu_idx ((pu_var 0 rfl)).rd ((pu_var 2 rfl)).rd)).rd)).ev fun x8 => (rf_eq rfl (.cons .aa (.cons .aa (.cons .aa .nil)))))))
end P
namespace P
open PySem PySem.Spec PyProof.Rows L2 Hb Nv
open Enc (enc)
def B__law_right_v8 : List Sl → Ot :=
    oSeq (oPar [6, 7, 8] (rCons (sTk (sCall F__law_turning [] (rIo 0 (rCons (sTk (sVar 1)) (rCons (sTk (sVar 2)) (rNil)))))) (rCons (s1 gRg1 (sVar 2)) (rCons (s2 gMulX (sLst (lCons (sC .none) (lNil))) (sVar 2)) (rNil)))))
    (oSeq (oAsg (sLst (lNil)) (tgN 3))
    (oSeq (oFor (wSeq (sVar 6)) (tgN 4) (oSeq (oDrop (sApp (sVar 3) (sPop1 (sVar 7) (sCall F__law_pick [] (rIo 0 (rCons (sTk (s1 (gRd lenD) (sVar 7))) (rNil)))))))
    (oAsg (sVar 4) (tgS (sVar 8) (s2 gIx2 (sVar 3) (s1 gNeg (sC (.int 1))))))))
    (oSeq (oFor (wRng1 (sC (.int 3))) (tgN 5) (oSeq (oAsg (sTk (sCall F__law_crowd_v2 [] (rIo 0 (rCons (sTk (sVar 2)) (rNil))))) (tgN 9))
    (oSeq (oPar [11, 12] (rCons (sTk (s1 (gRd (overI fun ns => some (.int ns.sum))) (sVar 9))) (rCons (sTk (s1 (gRd reprD) (sLst (lCons (sVar 8) (lCons (sVar 9) (lNil)))))) (rNil))))
    (oSeq (oAsg (sCall F__law_told_v5 [] (rCons (sTk (sVar 1)) (rCons (sTk (sVar 8)) (rCons (sTk (sVar 9)) (rNil))))) (tgN 10))
    (oSeq (oIf (sTst (s2 gEq (s2 gMod (s1 (gRd intD) (sVar 11)) (sC (.int 2))) (sC (.int 0)))) (oIf (sBrwT (sTst (s2 gNe (sVar 10) (sC (.str "even"))))) (oRet (sC (.bool false))) (oNext)) (oSeq (oPar [14, 15] (rCons (sTk (sC (.int 0))) (rCons (sTk (sC .none)) (rNil))))
    (oSeq (oFor (wSeq (sVar 3)) (tgN 13) (oSeq (oIf (sTst (sCh gLe gLt (sVar 14) (s2 gFdivW (sVar 11) (sC (.int 2))) (s2 gAdd (sVar 14) (s2 gIx2 (sVar 9) (sVar 13))))) (oAsg (sTk (s2 gIx2 (sVar 8) (sVar 13))) (tgN 15)) (oNext))
    (oAsg (sTk (s2 gAdd (sVar 14) (s2 gIx2 (sVar 9) (sVar 13)))) (tgN 14))))
    (oSeq (oIf (sBrwT (sTst (s2 (gEqS true) (s1 (gRd reprD) (sVar 10)) (s1 (gRd reprD) (sVar 15))))) (oRet (sC (.bool false))) (oNext))
    (oSeq (oFor (wSeq (sCall F__law_pairs [] (rCons (sTk (sVar 1)) (rNil)))) (tgT 2 (tgCons (tgN 16) (tgCons (tgN 17) (tgNil)))) (oSeq (oAsg (sTk (s1 (gRd (overI fun ns => some (.int ns.sum))) (sLc false (wRng1 (sVar 2)) [19] (tgN 19) (sTru (sCall F__law_above [] (rCons (sTk (s2 gIx2 (sVar 8) (sVar 19))) (rCons (sTk (sVar 16)) (rCons (sTk (sVar 17)) (rNil)))))) (sTk (s2 gIx2 (sVar 9) (sVar 19)))))) (tgN 18))
    (oIf (sBrwT (sTst (s2 gNe (sCall F__law_above [] (rCons (sTk (sVar 10)) (rCons (sTk (sVar 16)) (rCons (sTk (sVar 17)) (rNil))))) (s2 gGt (s2 gMulX (sC (.int 2)) (sVar 18)) (sVar 11))))) (oRet (sC (.bool false))) (oNext))))
    (oDrop (sApp (sVar 10) (sC .none))))))))
    (oIf (sTst (s2 (gEqS true) (s1 (gRd reprD) (sLst (lCons (sVar 8) (lCons (sVar 9) (lNil))))) (sVar 12))) (oRet (sC (.bool false))) (oNext)))))))
    (oRet (sC (.bool true))))))
def F__law_right_v8 : List Sl → FR := fnRun 3 20 [0] B__law_right_v8
def n__law_right_v8 (a0 : (List Int)) (a1 : Int) (a2 : Int) : Option (Bool × (List Int)) :=
    (Option.bind (Option.bind (Option.bind (Option.bind (some a1) fun x1 => Option.bind (Option.bind (some a2) fun x2 => Option.bind (some ()) fun x3 => some (x2, x3)) fun x4 => some (x1, x4)) fun x5 => Option.bind (n__law_turning (a0 : (List Int)) ((Prod.fst x5) : Int) ((Prod.fst (Prod.snd x5)) : Int)) fun x6 => some (x6, x5)) fun x7 => Option.bind (Option.bind (Option.bind (some a2) fun x8 => rg1 x8) fun x9 => Option.bind (Option.bind (Option.bind (Option.bind (Option.bind (some ()) fun x10 => Option.bind (some ()) fun x12 => some (x10, x12)) fun x11 => some ([(enc ((Prod.fst x11) : Unit))] : (List PyData))) fun x13 => Option.bind (some a2) fun x14 => repL x13 x14) fun x15 => Option.bind (some ()) fun x16 => some (x15, x16)) fun x17 => some (x9, x17)) fun x18 => some (x7, x18)) fun x19 => (Option.bind (some []) fun x20 => (Option.bind (some (Prod.fst (Prod.fst (Prod.fst x19)))) fun x21 => Option.bind (forS x21 (((Prod.snd (Prod.fst (Prod.fst x19))), x20, (Prod.fst (Prod.snd x19)), (Prod.fst (Prod.snd (Prod.snd x19)))) : ((List Int) × (List Int) × (List Int) × (List PyData))) fun s23 x22 => (Option.bind (Option.bind (Option.bind (Option.bind (Option.bind (Option.bind (some (Prod.fst (Prod.snd (Prod.snd s23)))) fun x24 => lenL x24) fun x25 => Option.bind (some ()) fun x26 => some (x25, x26)) fun x27 => Option.bind (n__law_pick ((Prod.fst s23) : (List Int)) ((Prod.fst x27) : Int)) fun x28 => some (x28, x27)) fun x29 => Option.bind (popL (Prod.fst (Prod.snd (Prod.snd s23))) (Prod.fst (Prod.fst x29))) fun x30 => some (x30, x29)) fun x31 => Option.bind (apL (Prod.fst (Prod.snd s23)) (Prod.fst (Prod.fst x31))) fun x32 => some (x32, x31)) fun x33 => (Option.bind (some x22) fun x34 => Option.bind (Option.bind (some (Prod.fst x33)) fun x36 => Option.bind (Option.bind (some (1 : Int)) fun x35 => negI x35) fun x37 => atL x36 x37) fun x38 => Option.bind (stI (Prod.snd (Prod.snd (Prod.snd s23))) x38 (enc (x34 : (List Int)))) fun x39 => some (((Prod.snd (Prod.fst (Prod.snd (Prod.snd x33)))), (Prod.fst x33), (Prod.snd (Prod.fst (Prod.snd x33))), x39) : ((List Int) × (List Int) × (List Int) × (List PyData)))))) fun s23 => (Option.bind (asRows (Prod.snd (Prod.snd (Prod.snd s23)))) fun x40 => (Option.bind (Option.bind (some (3 : Int)) fun x41 => ri1 x41) fun x42 => Option.bind (forF (ρ := (Bool × (List Int))) x42 (((Prod.fst s23), (Prod.fst (Prod.snd s23)), x40) : ((List Int) × (List Int) × (List (List Int)))) fun s44 x43 => (Option.bind (Option.bind (Option.bind (some a2) fun x45 => Option.bind (some ()) fun x46 => some (x45, x46)) fun x47 => Option.bind (n__law_crowd_v2 ((Prod.fst s44) : (List Int)) ((Prod.fst x47) : Int)) fun x48 => some (x48, x47)) fun x49 => (Option.bind (Option.bind (Option.bind (some (Prod.fst (Prod.fst x49))) fun x50 => sumI x50) fun x51 => Option.bind (Option.bind (Option.bind (Option.bind (Option.bind (Option.bind (some (Prod.snd (Prod.snd s44))) fun x52 => Option.bind (Option.bind (some (Prod.fst (Prod.fst x49))) fun x53 => Option.bind (some ()) fun x55 => some (x53, x55)) fun x56 => some (x52, x56)) fun x54 => some (([(enc ((Prod.fst x54) : (List (List Int)))), (enc ((Prod.fst (Prod.snd x54)) : (List Int)))] : (List PyData)), x54)) fun x57 => some (enc ((Prod.fst x57) : (List PyData)), x57)) fun x58 => Option.bind (reprN (Prod.fst x58)) fun x59 => some (x59, x58)) fun x60 => Option.bind (some ()) fun x61 => some (x60, x61)) fun x62 => some (x51, x62)) fun x63 => (Option.bind (Option.bind (Option.bind (some a1) fun x64 => Option.bind (Option.bind (some (Prod.fst (Prod.snd (Prod.snd (Prod.snd (Prod.fst (Prod.snd x63))))))) fun x65 => Option.bind (Option.bind (some (Prod.fst (Prod.fst x49))) fun x66 => Option.bind (some ()) fun x67 => some (x66, x67)) fun x68 => some (x65, x68)) fun x69 => some (x64, x69)) fun x70 => n__law_told_v5 ((Prod.fst x70) : Int) ((Prod.fst (Prod.snd x70)) : (List (List Int))) ((Prod.fst (Prod.snd (Prod.snd x70))) : (List Int))) fun x71 => (Option.bind (Option.bind (Option.bind (Option.bind (some (Prod.fst x63)) fun x72 => intI x72) fun x73 => Option.bind (some (2 : Int)) fun x74 => modI x73 x74) fun x75 => Option.bind (some (0 : Int)) fun x76 => eqN x75 x76) fun x77 => if x77 = true then (Option.bind (Option.bind (some x71) fun x79 => Option.bind (Option.bind (some ("even" : Str)) fun x78 => some (enc (x78 : Str))) fun x80 => neA x79 x80) fun x81 => if x81 = true then (Option.bind (some false) fun x82 => some (.rt (x82, (Prod.snd (Prod.fst x49))))) else (Option.bind (Option.bind (Option.bind (Option.bind (Option.bind (Option.bind (some (Prod.fst (Prod.snd (Prod.snd (Prod.snd (Prod.fst (Prod.snd x63))))))) fun x83 => Option.bind (Option.bind (some (Prod.fst (Prod.fst x49))) fun x84 => Option.bind (some ()) fun x86 => some (x84, x86)) fun x87 => some (x83, x87)) fun x85 => some ([(enc ((Prod.fst x85) : (List (List Int)))), (enc ((Prod.fst (Prod.snd x85)) : (List Int)))] : (List PyData))) fun x88 => some (enc (x88 : (List PyData)))) fun x89 => reprN x89) fun x90 => Option.bind (some (Prod.fst (Prod.fst (Prod.snd x63)))) fun x91 => neS x90 x91) fun x92 => if x92 = true then (Option.bind (some false) fun x93 => some (.rt (x93, (Prod.snd (Prod.fst x49))))) else some (.nx (((Prod.snd (Prod.fst x49)), (Prod.fst (Prod.snd s44)), (Prod.fst (Prod.snd (Prod.snd (Prod.snd (Prod.fst (Prod.snd x63))))))) : ((List Int) × (List Int) × (List (List Int))))))) else (Option.bind (rowA (enc (x71 : PyData))) fun x94 => (Option.bind (Option.bind (some (0 : Int)) fun x95 => Option.bind (Option.bind (some ()) fun x96 => Option.bind (some ()) fun x97 => some (x96, x97)) fun x98 => some (x95, x98)) fun x99 => (Option.bind (some (Prod.fst (Prod.snd s44))) fun x101 => Option.bind (forS x101 (((Prod.fst x99), (none : (Option (List Int)))) : (Int × (Option (List Int)))) fun s103 x102 => (Option.bind (Option.bind (some (Prod.fst s103)) fun x110 => Option.bind (Option.bind (some (Prod.fst x63)) fun x104 => Option.bind (some (2 : Int)) fun x105 => fdivW x104 x105) fun x111 => Option.bind (leI x110 x111) fun x113 => if x113 = true then Option.bind (Option.bind (some (Prod.fst s103)) fun x108 => Option.bind (Option.bind (some (Prod.fst (Prod.fst x49))) fun x106 => Option.bind (some x102) fun x107 => atL x106 x107) fun x109 => addI x108 x109) fun x112 => ltI x111 x112 else some false) fun x114 => Option.bind (if x114 = true then (Option.bind (Option.bind (some (Prod.fst (Prod.snd (Prod.snd (Prod.snd (Prod.fst (Prod.snd x63))))))) fun x116 => Option.bind (some x102) fun x117 => atL x116 x117) fun x118 => some ((some x118) : (Option (List Int)))) else some ((Prod.snd s103) : (Option (List Int)))) fun j115 => (Option.bind (Option.bind (some (Prod.fst s103)) fun x121 => Option.bind (Option.bind (some (Prod.fst (Prod.fst x49))) fun x119 => Option.bind (some x102) fun x120 => atL x119 x120) fun x122 => addI x121 x122) fun x123 => some ((x123, j115) : (Int × (Option (List Int))))))) fun s103 => (Option.bind (Option.bind (Option.bind (Option.bind (some x94) fun x124 => some (enc (x124 : (List Int)))) fun x125 => reprN x125) fun x128 => Option.bind (Option.bind (Option.bind (some (Prod.snd s103)) fun x126 => some (enc (x126 : (Option (List Int))))) fun x127 => reprN x127) fun x129 => neS x128 x129) fun x130 => if x130 = true then (Option.bind (some false) fun x131 => some (.rt (x131, (Prod.snd (Prod.fst x49))))) else (Option.bind (Option.bind (Option.bind (some a1) fun x132 => Option.bind (some ()) fun x133 => some (x132, x133)) fun x134 => n__law_pairs ((Prod.fst x134) : Int)) fun x135 => Option.bind (forF (ρ := (Bool × (List Int))) x135 (() : Unit) fun s137 x136 => (Option.bind (Option.bind (Option.bind (Option.bind (some a2) fun x138 => ri1 x138) fun x139 => if List.length (x139) ≤ cap then mapF x139 (fun x140 => (Option.bind (Option.bind (Option.bind (some (Prod.fst (Prod.snd (Prod.snd (Prod.snd (Prod.fst (Prod.snd x63))))))) fun x141 => Option.bind (some x140) fun x142 => atL x141 x142) fun x143 => Option.bind (Option.bind (some (Prod.fst x136)) fun x144 => Option.bind (Option.bind (some (Prod.snd x136)) fun x145 => Option.bind (some ()) fun x146 => some (x145, x146)) fun x147 => some (x144, x147)) fun x148 => some (x143, x148)) fun x149 => n__law_above ((Prod.fst x149) : (List Int)) ((some (Prod.fst (Prod.snd x149))) : (Option Int)) ((Prod.fst (Prod.snd (Prod.snd x149))) : Int))) (fun x140 => (Option.bind (some (Prod.fst (Prod.fst x49))) fun x151 => Option.bind (some x140) fun x152 => atL x151 x152)) else none) fun x153 => sumI x153) fun x154 => (Option.bind (Option.bind (Option.bind (Option.bind (some x94) fun x155 => Option.bind (Option.bind (some (Prod.fst x136)) fun x156 => Option.bind (Option.bind (some (Prod.snd x136)) fun x157 => Option.bind (some ()) fun x158 => some (x157, x158)) fun x159 => some (x156, x159)) fun x160 => some (x155, x160)) fun x161 => n__law_above ((Prod.fst x161) : (List Int)) ((some (Prod.fst (Prod.snd x161))) : (Option Int)) ((Prod.fst (Prod.snd (Prod.snd x161))) : Int)) fun x166 => Option.bind (Option.bind (Option.bind (some (2 : Int)) fun x162 => Option.bind (some x154) fun x163 => mulI x162 x163) fun x164 => Option.bind (some (Prod.fst x63)) fun x165 => gtI x164 x165) fun x167 => neN x166 x167) fun x168 => if x168 = true then (Option.bind (some false) fun x169 => some (.rt (x169, (Prod.snd (Prod.fst x49))))) else some (.nx (() : Unit))))) fun o186 => Fl.el o186 (fun s137 => (Option.bind (Option.bind (some ()) fun x171 => if List.length ((List.map enc (x94 : (List Int)))) ≤ cap then some x171 else none) fun x173 => (Option.bind (Option.bind (Option.bind (Option.bind (Option.bind (Option.bind (some (Prod.fst (Prod.snd (Prod.snd (Prod.snd (Prod.fst (Prod.snd x63))))))) fun x174 => Option.bind (Option.bind (some (Prod.fst (Prod.fst x49))) fun x175 => Option.bind (some ()) fun x177 => some (x175, x177)) fun x178 => some (x174, x178)) fun x176 => some ([(enc ((Prod.fst x176) : (List (List Int)))), (enc ((Prod.fst (Prod.snd x176)) : (List Int)))] : (List PyData))) fun x179 => some (enc (x179 : (List PyData)))) fun x180 => reprN x180) fun x181 => Option.bind (some (Prod.fst (Prod.fst (Prod.snd x63)))) fun x182 => neS x181 x182) fun x183 => if x183 = true then (Option.bind (some false) fun x184 => some (.rt (x184, (Prod.snd (Prod.fst x49))))) else some (.nx (((Prod.snd (Prod.fst x49)), x101, (Prod.fst (Prod.snd (Prod.snd (Prod.snd (Prod.fst (Prod.snd x63))))))) : ((List Int) × (List Int) × (List (List Int)))))))) fun r185 => some (Fl.rt r185))))))))))) fun o189 => Fl.el o189 (fun s44 => (Option.bind (some true) fun x187 => some (x187, (Prod.fst s44)))) fun r188 => some r188)))))
theorem V__law_right_v8 (a0 : (List Int)) (a1 : Int) (a2 : Int) : Fun F__law_right_v8 (n__law_right_v8 a0 a1 a2) [ow a0, .fz (enc a1), .fz (enc a2)] (fun r : (Bool × (List Int)) => .fz (enc ((Prod.fst r) : Bool))) fun r => [ow (Prod.snd r), .no, .no] :=
  fun_of (ΓR := fun r => [.eq (ow ((Prod.snd r) : (List Int))), .aa, .aa, .aa, .aa, .aa, .aa, .aa, .aa, .aa, .aa, .aa, .aa, .aa, .aa, .aa, .aa, .aa, .aa, .aa]) (show Bl B__law_right_v8 _ _ _ from (bl_ga [.eq (ow (a0 : (List Int))), .eq (.fz (enc (a1 : Int))), .eq (.fz (enc (a2 : Int))), .eq .no, .eq .no, .eq .no, .eq .no, .eq .no, .eq .no, .eq .no, .eq .no, .eq .no, .eq .no, .eq .no, .eq .no, .eq .no, .eq .no, .eq .no, .eq .no, .eq .no] (by kernel_rfl) (bl_par (ag_cons (((ev_callG (ag_io (k := 0) rfl rfl (ag_cons (((pu_var 1 rfl)).tkP).ev fun x1 => (ag_cons (((pu_var 2 rfl)).tkP).ev fun x2 => ag_nil))) (fun x5 => V__law_turning (a0 : (List Int)) ((Prod.fst x5) : Int) ((Prod.fst (Prod.snd x5)) : Int)))).tkT fun _ => ow_tree _) fun x7 => (ag_ga [.eq (ow ((Prod.snd (Prod.fst x7)) : (List Int))), .eq (.fz (enc (a1 : Int))), .eq (.fz (enc (a2 : Int))), .eq .no, .eq .no, .eq .no, .eq .no, .eq .no, .eq .no, .eq .no, .eq .no, .eq .no, .eq .no, .eq .no, .eq .no, .eq .no, .eq .no, .eq .no, .eq .no, .eq .no] (by kernel_rfl) (ag_cons ((pu1 Nv.op_rg1 ((pu_var 2 rfl)).rd)).ev fun x9 => (ag_cons ((pu2 Nv.op_rep (((pu_lst (dp_cons (pu_none).tkP dp_nil) (fun x11 => ([(enc ((Prod.fst x11) : Unit))] : (List PyData))))).rdT ow_tree) ((pu_var 2 rfl)).rd)).ev fun x15 => ag_nil)))) fun x19 => (bl_ga [.eq (ow ((Prod.snd (Prod.fst (Prod.fst x19))) : (List Int))), .eq (.fz (enc (a1 : Int))), .eq (.fz (enc (a2 : Int))), .eq .no, .eq .no, .eq .no, .eq (.fz (enc ((Prod.fst (Prod.fst (Prod.fst x19))) : (List (List Int))))), .eq (ow ((Prod.fst (Prod.snd x19)) : (List Int))), .eq (ow ((Prod.fst (Prod.snd (Prod.snd x19))) : (List PyData))), .eq .no, .eq .no, .eq .no, .eq .no, .eq .no, .eq .no, .eq .no, .eq .no, .eq .no, .eq .no, .eq .no] (by kernel_rfl) (bl_asgT (pu_nil).ev fun x20 => (bl_ga [.eq (ow ((Prod.snd (Prod.fst (Prod.fst x19))) : (List Int))), .eq (.fz (enc (a1 : Int))), .eq (.fz (enc (a2 : Int))), .eq (ow (x20 : (List Int))), .eq .no, .eq .no, .eq (.fz (enc ((Prod.fst (Prod.fst (Prod.fst x19))) : (List (List Int))))), .eq (ow ((Prod.fst (Prod.snd x19)) : (List Int))), .eq (ow ((Prod.fst (Prod.snd (Prod.snd x19))) : (List PyData))), .eq .no, .eq .no, .eq .no, .eq .no, .eq .no, .eq .no, .eq .no, .eq .no, .eq .no, .eq .no, .eq .no] (by kernel_rfl) (bl_for (vs := [4]) (xs := fun x21 => x21) (s0 := fun x21 => (((Prod.snd (Prod.fst (Prod.fst x19))), x20, (Prod.fst (Prod.snd x19)), (Prod.fst (Prod.snd (Prod.snd x19)))) : ((List Int) × (List Int) × (List Int) × (List PyData)))) (ΓL := fun x21 (s23 : ((List Int) × (List Int) × (List Int) × (List PyData))) => [.eq (ow ((Prod.fst s23) : (List Int))), .eq (.fz (enc (a1 : Int))), .eq (.fz (enc (a2 : Int))), .eq (ow ((Prod.fst (Prod.snd s23)) : (List Int))), .pl, .eq .no, .eq (.fz (enc ((Prod.fst (Prod.fst (Prod.fst x19))) : (List (List Int))))), .eq (ow ((Prod.fst (Prod.snd (Prod.snd s23))) : (List Int))), .eq (ow ((Prod.snd (Prod.snd (Prod.snd s23))) : (List PyData))), .eq .no, .eq .no, .eq .no, .eq .no, .eq .no, .eq .no, .eq .no, .eq .no, .eq .no, .eq .no, .eq .no]) ((ip_seq (xs := fun v => v) ((pu_var 6 rfl)).tkP)).it (fun x21 => (.cons .rfl (.cons .rfl (.cons .rfl (.cons .rfl (.cons .no (.cons .rfl (.cons .rfl (.cons .rfl (.cons .rfl (.cons .rfl (.cons .rfl (.cons .rfl (.cons .rfl (.cons .rfl (.cons .rfl (.cons .rfl (.cons .rfl (.cons .rfl (.cons .rfl (.cons .rfl .nil))))))))))))))))))))) (fun x21 s23 x22 => tg_n) (fun x21 s23 x22 => (bl_ga [.eq (ow ((Prod.fst s23) : (List Int))), .eq (.fz (enc (a1 : Int))), .eq (.fz (enc (a2 : Int))), .eq (ow ((Prod.fst (Prod.snd s23)) : (List Int))), .eq (.fz (enc (x22 : (List Int)))), .eq .no, .eq (.fz (enc ((Prod.fst (Prod.fst (Prod.fst x19))) : (List (List Int))))), .eq (ow ((Prod.fst (Prod.snd (Prod.snd s23))) : (List Int))), .eq (ow ((Prod.snd (Prod.snd (Prod.snd s23))) : (List PyData))), .eq .no, .eq .no, .eq .no, .eq .no, .eq .no, .eq .no, .eq .no, .eq .no, .eq .no, .eq .no, .eq .no] (by kernel_rfl) (bl_expr (ev_app (k := 3) (va := fun x31 => (Prod.fst (Prod.fst x31))) (xs := fun x31 => (Prod.fst (Prod.snd s23))) rfl rfl ((ev_pop1 (k := 7) (va := fun x29 => (Prod.fst (Prod.fst x29))) (xs := fun x29 => (Prod.fst (Prod.snd (Prod.snd s23)))) rfl rfl ((ev_callG (ag_io (k := 0) rfl rfl (ag_cons (((pu1A Nv.op_len ((rd_own 7 rfl)).ra)).tkP).ev fun x25 => ag_nil)) (fun x27 => V__law_pick ((Prod.fst s23) : (List Int)) ((Prod.fst x27) : Int)))).tk fun _ => rfl)).tk fun _ => rfl) fun x33 => (bl_ga [.eq (ow ((Prod.snd (Prod.fst (Prod.snd (Prod.snd x33)))) : (List Int))), .eq (.fz (enc (a1 : Int))), .eq (.fz (enc (a2 : Int))), .eq (ow ((Prod.fst x33) : (List Int))), .eq (.fz (enc (x22 : (List Int)))), .eq .no, .eq (.fz (enc ((Prod.fst (Prod.fst (Prod.fst x19))) : (List (List Int))))), .eq (ow ((Prod.snd (Prod.fst (Prod.snd x33))) : (List Int))), .eq (ow ((Prod.snd (Prod.snd (Prod.snd s23))) : (List PyData))), .eq .no, .eq .no, .eq .no, .eq .no, .eq .no, .eq .no, .eq .no, .eq .no, .eq .no, .eq .no, .eq .no] (by kernel_rfl) (bl_last (bl_set (k := 8) (va := fun x34 => (enc (x34 : (List Int)))) (xs := fun x34 => (Prod.snd (Prod.snd (Prod.snd s23)))) ((pu_var 4 rfl)).ev (fun _ => rfl) (fun x34 => ((pu2 Nv.op_ix2 (rd_own 3 rfl) ((pu1 Nv.op_neg (pu_c).rd)).rd)).rd) fun x34 x39 => (bl_ga [.eq (ow ((Prod.snd (Prod.fst (Prod.snd (Prod.snd x33)))) : (List Int))), .eq (.fz (enc (a1 : Int))), .eq (.fz (enc (a2 : Int))), .eq (ow ((Prod.fst x33) : (List Int))), .eq (.fz (enc (x22 : (List Int)))), .eq .no, .eq (.fz (enc ((Prod.fst (Prod.fst (Prod.fst x19))) : (List (List Int))))), .eq (ow ((Prod.snd (Prod.fst (Prod.snd x33))) : (List Int))), .eq (ow (x39 : (List PyData))), .eq .no, .eq .no, .eq .no, .eq .no, .eq .no, .eq .no, .eq .no, .eq .no, .eq .no, .eq .no, .eq .no] (by kernel_rfl) (bl_end (rs_nx (.cons .rfl (.cons .rfl (.cons .rfl (.cons .rfl (.cons .fz (.cons .rfl (.cons .rfl (.cons .rfl (.cons .rfl (.cons .rfl (.cons .rfl (.cons .rfl (.cons .rfl (.cons .rfl (.cons .rfl (.cons .rfl (.cons .rfl (.cons .rfl (.cons .rfl (.cons .rfl .nil))))))))))))))))))))))))))))) fun x21 s23 => (bl_reR (k := 8) rfl fun x40 => (bl_ga [.eq (ow ((Prod.fst s23) : (List Int))), .eq (.fz (enc (a1 : Int))), .eq (.fz (enc (a2 : Int))), .eq (ow ((Prod.fst (Prod.snd s23)) : (List Int))), .pl, .eq .no, .eq (.fz (enc ((Prod.fst (Prod.fst (Prod.fst x19))) : (List (List Int))))), .eq (ow ((Prod.fst (Prod.snd (Prod.snd s23))) : (List Int))), .eq (ow (x40 : (List (List Int)))), .eq .no, .eq .no, .eq .no, .eq .no, .eq .no, .eq .no, .eq .no, .eq .no, .eq .no, .eq .no, .eq .no] (by kernel_rfl) (bl_forF (Q := (RF (ρ := (Bool × (List Int))) (fun r => .eq (.fz (enc ((Prod.fst r) : Bool)))) fun r => [.eq (ow ((Prod.snd r) : (List Int))), .aa, .aa, .aa, .aa, .aa, .aa, .aa, .aa, .aa, .aa, .aa, .aa, .aa, .aa, .aa, .aa, .aa, .aa, .aa])) (vs := [5]) (xs := fun x42 => x42) (s0 := fun x42 => (((Prod.fst s23), (Prod.fst (Prod.snd s23)), x40) : ((List Int) × (List Int) × (List (List Int))))) (ΓL := fun x42 (s44 : ((List Int) × (List Int) × (List (List Int)))) => [.eq (ow ((Prod.fst s44) : (List Int))), .eq (.fz (enc (a1 : Int))), .eq (.fz (enc (a2 : Int))), .tr (enc ((Prod.fst (Prod.snd s44)) : (List Int))), .pl, .pl, .eq (.fz (enc ((Prod.fst (Prod.fst (Prod.fst x19))) : (List (List Int))))), .eq (ow ((Prod.fst (Prod.snd (Prod.snd s23))) : (List Int))), .tr (enc ((Prod.snd (Prod.snd s44)) : (List (List Int)))), .pl, .any, .pl, .pl, .pl, .pl, .pl, .pl, .pl, .pl, .eq .no]) (kr := fun r188 => some r188) ((ip_rng1 (pu_c).tkP)).it (fun x42 => (.cons .rfl (.cons .rfl (.cons .rfl (.cons (.tro rfl) (.cons .rfl (.cons .no (.cons .rfl (.cons .rfl (.cons (.tro rfl) (.cons .no (.cons (.any rfl) (.cons .no (.cons .no (.cons .no (.cons .no (.cons .no (.cons .no (.cons .no (.cons .no (.cons .rfl .nil))))))))))))))))))))) (fun x42 s44 x43 => tg_n) (fun x42 s44 x43 => (bl_ga [.eq (ow ((Prod.fst s44) : (List Int))), .eq (.fz (enc (a1 : Int))), .eq (.fz (enc (a2 : Int))), .tr (enc ((Prod.fst (Prod.snd s44)) : (List Int))), .pl, .eq (.fz (enc (x43 : Int))), .eq (.fz (enc ((Prod.fst (Prod.fst (Prod.fst x19))) : (List (List Int))))), .eq (ow ((Prod.fst (Prod.snd (Prod.snd s23))) : (List Int))), .tr (enc ((Prod.snd (Prod.snd s44)) : (List (List Int)))), .pl, .any, .pl, .pl, .pl, .pl, .pl, .pl, .pl, .pl, .eq .no] (by kernel_rfl) (bl_asgV (((ev_callG (ag_io (k := 0) rfl rfl (ag_cons (((pu_var 2 rfl)).tkP).ev fun x45 => ag_nil)) (fun x47 => V__law_crowd_v2 ((Prod.fst s44) : (List Int)) ((Prod.fst x47) : Int)))).tkT fun _ => ow_tree _) fun x49 => (bl_ga [.eq (ow ((Prod.snd (Prod.fst x49)) : (List Int))), .eq (.fz (enc (a1 : Int))), .eq (.fz (enc (a2 : Int))), .tr (enc ((Prod.fst (Prod.snd s44)) : (List Int))), .pl, .eq (.fz (enc (x43 : Int))), .eq (.fz (enc ((Prod.fst (Prod.fst (Prod.fst x19))) : (List (List Int))))), .eq (ow ((Prod.fst (Prod.snd (Prod.snd s23))) : (List Int))), .tr (enc ((Prod.snd (Prod.snd s44)) : (List (List Int)))), .eq (.fz (enc ((Prod.fst (Prod.fst x49)) : (List Int)))), .any, .pl, .pl, .pl, .pl, .pl, .pl, .pl, .pl, .eq .no] (by kernel_rfl) (bl_par (ag_cons (((pu1A Nv.op_sum (((pu_var 9 rfl)).rd).ra)).tkP).ev fun x51 => (ag_cons ((ev1g (Op1A.to Nv.op_repr) (va := fun x58 => (Prod.fst x58)) (Es.any (va := fun x57 => ((Prod.fst x57) : (List PyData))) ((((ev_lst (dl_cons (tk_tr 8 rfl rfl) fun x52 => (dl_ga [.eq (ow ((Prod.snd (Prod.fst x49)) : (List Int))), .eq (.fz (enc (a1 : Int))), .eq (.fz (enc (a2 : Int))), .tr (enc ((Prod.fst (Prod.snd s44)) : (List Int))), .pl, .eq (.fz (enc (x43 : Int))), .eq (.fz (enc ((Prod.fst (Prod.fst (Prod.fst x19))) : (List (List Int))))), .eq (ow ((Prod.fst (Prod.snd (Prod.snd s23))) : (List Int))), .eq (.fz (enc (x52 : (List (List Int))))), .eq (.fz (enc ((Prod.fst (Prod.fst x49)) : (List Int)))), .any, .pl, .pl, .pl, .pl, .pl, .pl, .pl, .pl, .eq .no] (by kernel_rfl) (dl_cons (((pu_var 9 rfl)).tkP).ev fun x53 => dl_nil))) (fun x54 => ([(enc ((Prod.fst x54) : (List (List Int)))), (enc ((Prod.fst (Prod.snd x54)) : (List Int)))] : (List PyData))))).erT fun _ => ow_tree _)).es))).tk fun x60 => (ag_ga [.eq (ow ((Prod.snd (Prod.fst x49)) : (List Int))), .eq (.fz (enc (a1 : Int))), .eq (.fz (enc (a2 : Int))), .tr (enc ((Prod.fst (Prod.snd s44)) : (List Int))), .pl, .eq (.fz (enc (x43 : Int))), .eq (.fz (enc ((Prod.fst (Prod.fst (Prod.fst x19))) : (List (List Int))))), .eq (ow ((Prod.fst (Prod.snd (Prod.snd s23))) : (List Int))), .eq (.fz (enc ((Prod.fst (Prod.snd (Prod.snd (Prod.snd x60)))) : (List (List Int))))), .eq (.fz (enc ((Prod.fst (Prod.fst x49)) : (List Int)))), .any, .pl, .pl, .pl, .pl, .pl, .pl, .pl, .pl, .eq .no] (by kernel_rfl) ag_nil))) fun x63 => (bl_ga [.eq (ow ((Prod.snd (Prod.fst x49)) : (List Int))), .eq (.fz (enc (a1 : Int))), .eq (.fz (enc (a2 : Int))), .tr (enc ((Prod.fst (Prod.snd s44)) : (List Int))), .pl, .eq (.fz (enc (x43 : Int))), .eq (.fz (enc ((Prod.fst (Prod.fst (Prod.fst x19))) : (List (List Int))))), .eq (ow ((Prod.fst (Prod.snd (Prod.snd s23))) : (List Int))), .eq (.fz (enc ((Prod.fst (Prod.snd (Prod.snd (Prod.snd (Prod.fst (Prod.snd x63)))))) : (List (List Int))))), .eq (.fz (enc ((Prod.fst (Prod.fst x49)) : (List Int)))), .any, .eq (.fz (enc ((Prod.fst x63) : Int))), .eq (.fz (enc ((Prod.fst (Prod.fst (Prod.snd x63))) : Str))), .pl, .pl, .pl, .pl, .pl, .pl, .eq .no] (by kernel_rfl) (bl_asgS (em_callS (ap_cons ((pu_var 1 rfl)).tkP (ap_cons ((pu_var 8 rfl)).tkP (ap_cons ((pu_var 9 rfl)).tkP ap_nil))) (fun x70 => V__law_told_v5 ((Prod.fst x70) : Int) ((Prod.fst (Prod.snd x70)) : (List (List Int))) ((Prod.fst (Prod.snd (Prod.snd x70))) : (List Int)))) fun x71 => (bl_ga [.eq (ow ((Prod.snd (Prod.fst x49)) : (List Int))), .eq (.fz (enc (a1 : Int))), .eq (.fz (enc (a2 : Int))), .tr (enc ((Prod.fst (Prod.snd s44)) : (List Int))), .pl, .eq (.fz (enc (x43 : Int))), .eq (.fz (enc ((Prod.fst (Prod.fst (Prod.fst x19))) : (List (List Int))))), .eq (ow ((Prod.fst (Prod.snd (Prod.snd s23))) : (List Int))), .eq (.fz (enc ((Prod.fst (Prod.snd (Prod.snd (Prod.snd (Prod.fst (Prod.snd x63)))))) : (List (List Int))))), .eq (.fz (enc ((Prod.fst (Prod.fst x49)) : (List Int)))), .ts (enc (x71 : PyData)), .eq (.fz (enc ((Prod.fst x63) : Int))), .eq (.fz (enc ((Prod.fst (Prod.fst (Prod.snd x63))) : Str))), .pl, .pl, .pl, .pl, .pl, .pl, .eq .no] (by kernel_rfl) (bl_if (k := fun x77 => x77) ((ts_tst (pu2A Nv.op_eq (((pu2 Nv.op_mod ((pu1A Nv.op_int (((pu_var 11 rfl)).rd).ra)).rd (pu_c).rd)).rd).ra ((pu_c).rd).ra))).te' (fun x77 => (bl_if (k := fun x81 => x81) ((ts_brw (Γ0 := [.eq (.fz (enc ((Prod.snd (Prod.fst x49)) : (List Int)))), .eq (.fz (enc (a1 : Int))), .eq (.fz (enc (a2 : Int))), .eq (.fz (enc ((Prod.fst (Prod.snd s44)) : (List Int)))), .aa, .eq (.fz (enc (x43 : Int))), .eq (.fz (enc ((Prod.fst (Prod.fst (Prod.fst x19))) : (List (List Int))))), .eq (.fz (enc ((Prod.fst (Prod.snd (Prod.snd s23))) : (List Int)))), .eq (.fz (enc ((Prod.fst (Prod.snd (Prod.snd (Prod.snd (Prod.fst (Prod.snd x63)))))) : (List (List Int))))), .eq (.fz (enc ((Prod.fst (Prod.fst x49)) : (List Int)))), .eq (.fz (enc (x71 : PyData))), .eq (.fz (enc ((Prod.fst x63) : Int))), .eq (.fz (enc ((Prod.fst (Prod.fst (Prod.snd x63))) : Str))), .aa, .aa, .aa, .aa, .aa, .aa, .eq .no]) (.cons .ow (.cons .fz (.cons .fz (.cons .tr (.cons .aa (.cons .fz (.cons .fz (.cons .ow (.cons .fz (.cons .fz (.cons .ts (.cons .fz (.cons .fz (.cons .aa (.cons .aa (.cons .aa (.cons .aa (.cons .aa (.cons .aa (.cons .no .nil)))))))))))))))))))) (ts_tst (pu2A Nv.op_neA (((pu_var 10 rfl)).rd).ra (((Pu.any pu_c)).rd).ra)))).te' (fun x81 => (bl_retS (bl_retV (pu_c).ev fun x82 => (rl_rt (rf_eq rfl (.cons .rfl (.cons .aa (.cons .aa (.cons .aa (.cons .aa (.cons .aa (.cons .aa (.cons .aa (.cons .aa (.cons .aa (.cons .aa (.cons .aa (.cons .aa (.cons .aa (.cons .aa (.cons .aa (.cons .aa (.cons .aa (.cons .aa (.cons .aa .nil))))))))))))))))))))))))) fun x81 => (bl_next (bl_last (bl_if (k := fun x92 => x92) ((ts_tst (pu2 Nv.op_neS ((pu1A Nv.op_repr ((Rd.any (((pu_lst (dp_cons ((pu_var 8 rfl)).tkP (dp_cons ((pu_var 9 rfl)).tkP dp_nil)) (fun x85 => ([(enc ((Prod.fst x85) : (List (List Int)))), (enc ((Prod.fst (Prod.snd x85)) : (List Int)))] : (List PyData))))).rdT ow_tree))).ra)).rd ((pu_var 12 rfl)).rd))).te' (fun x92 => (bl_retS (bl_retV (pu_c).ev fun x93 => (rl_rt (rf_eq rfl (.cons .rfl (.cons .aa (.cons .aa (.cons .aa (.cons .aa (.cons .aa (.cons .aa (.cons .aa (.cons .aa (.cons .aa (.cons .aa (.cons .aa (.cons .aa (.cons .aa (.cons .aa (.cons .aa (.cons .aa (.cons .aa (.cons .aa (.cons .aa .nil))))))))))))))))))))))))) fun x92 => (bl_next (bl_end (rl_nx (.cons .rfl (.cons .rfl (.cons .rfl (.cons .rfl (.cons .rfl (.cons .fz (.cons .rfl (.cons .rfl (.cons .trf (.cons .fz (.cons (.any rfl) (.cons .fz (.cons .fz (.cons .rfl (.cons .rfl (.cons .rfl (.cons .rfl (.cons .rfl (.cons .rfl (.cons .rfl .nil)))))))))))))))))))))))))))) fun x77 => (bl_assoc (bl_reT (k := 10) rfl fun x94 => (bl_ga [.eq (ow ((Prod.snd (Prod.fst x49)) : (List Int))), .eq (.fz (enc (a1 : Int))), .eq (.fz (enc (a2 : Int))), .tr (enc ((Prod.fst (Prod.snd s44)) : (List Int))), .pl, .eq (.fz (enc (x43 : Int))), .eq (.fz (enc ((Prod.fst (Prod.fst (Prod.fst x19))) : (List (List Int))))), .eq (ow ((Prod.fst (Prod.snd (Prod.snd s23))) : (List Int))), .eq (.fz (enc ((Prod.fst (Prod.snd (Prod.snd (Prod.snd (Prod.fst (Prod.snd x63)))))) : (List (List Int))))), .eq (.fz (enc ((Prod.fst (Prod.fst x49)) : (List Int)))), .eq (ow (x94 : (List Int))), .eq (.fz (enc ((Prod.fst x63) : Int))), .eq (.fz (enc ((Prod.fst (Prod.fst (Prod.snd x63))) : Str))), .pl, .pl, .pl, .pl, .pl, .pl, .eq .no] (by kernel_rfl) (bl_par (ag_cons ((pu_c).tkP).ev fun x95 => (ag_cons ((pu_none).tkP).ev fun x96 => ag_nil)) fun x99 => (bl_ga [.eq (ow ((Prod.snd (Prod.fst x49)) : (List Int))), .eq (.fz (enc (a1 : Int))), .eq (.fz (enc (a2 : Int))), .tr (enc ((Prod.fst (Prod.snd s44)) : (List Int))), .pl, .eq (.fz (enc (x43 : Int))), .eq (.fz (enc ((Prod.fst (Prod.fst (Prod.fst x19))) : (List (List Int))))), .eq (ow ((Prod.fst (Prod.snd (Prod.snd s23))) : (List Int))), .eq (.fz (enc ((Prod.fst (Prod.snd (Prod.snd (Prod.snd (Prod.fst (Prod.snd x63)))))) : (List (List Int))))), .eq (.fz (enc ((Prod.fst (Prod.fst x49)) : (List Int)))), .eq (ow (x94 : (List Int))), .eq (.fz (enc ((Prod.fst x63) : Int))), .eq (.fz (enc ((Prod.fst (Prod.fst (Prod.snd x63))) : Str))), .pl, .eq (.fz (enc ((Prod.fst x99) : Int))), .eq (.fz (enc ((Prod.fst (Prod.snd x99)) : Unit))), .pl, .pl, .pl, .eq .no] (by kernel_rfl) (bl_assoc (bl_for (vs := [13]) (xs := fun x101 => x101) (s0 := fun x101 => (((Prod.fst x99), (none : (Option (List Int)))) : (Int × (Option (List Int))))) (ΓL := fun x101 (s103 : (Int × (Option (List Int)))) => [.eq (ow ((Prod.snd (Prod.fst x49)) : (List Int))), .eq (.fz (enc (a1 : Int))), .eq (.fz (enc (a2 : Int))), .eq (.fz (enc (x101 : (List Int)))), .pl, .eq (.fz (enc (x43 : Int))), .eq (.fz (enc ((Prod.fst (Prod.fst (Prod.fst x19))) : (List (List Int))))), .eq (ow ((Prod.fst (Prod.snd (Prod.snd s23))) : (List Int))), .eq (.fz (enc ((Prod.fst (Prod.snd (Prod.snd (Prod.snd (Prod.fst (Prod.snd x63)))))) : (List (List Int))))), .eq (.fz (enc ((Prod.fst (Prod.fst x49)) : (List Int)))), .eq (ow (x94 : (List Int))), .eq (.fz (enc ((Prod.fst x63) : Int))), .eq (.fz (enc ((Prod.fst (Prod.fst (Prod.snd x63))) : Str))), .pl, .eq (.fz (enc ((Prod.fst s103) : Int))), .eq (.fz (enc ((Prod.snd s103) : (Option (List Int))))), .pl, .pl, .pl, .eq .no]) (it_seq (xs := fun x100 => x100) (tk_tr 3 rfl rfl)) (fun x101 => (gale_ga [.eq (ow ((Prod.snd (Prod.fst x49)) : (List Int))), .eq (.fz (enc (a1 : Int))), .eq (.fz (enc (a2 : Int))), .eq (.fz (enc (x101 : (List Int)))), .pl, .eq (.fz (enc (x43 : Int))), .eq (.fz (enc ((Prod.fst (Prod.fst (Prod.fst x19))) : (List (List Int))))), .eq (ow ((Prod.fst (Prod.snd (Prod.snd s23))) : (List Int))), .eq (.fz (enc ((Prod.fst (Prod.snd (Prod.snd (Prod.snd (Prod.fst (Prod.snd x63)))))) : (List (List Int))))), .eq (.fz (enc ((Prod.fst (Prod.fst x49)) : (List Int)))), .eq (ow (x94 : (List Int))), .eq (.fz (enc ((Prod.fst x63) : Int))), .eq (.fz (enc ((Prod.fst (Prod.fst (Prod.snd x63))) : Str))), .pl, .eq (.fz (enc ((Prod.fst x99) : Int))), .eq (.fz (enc ((Prod.fst (Prod.snd x99)) : Unit))), .pl, .pl, .pl, .eq .no] (by kernel_rfl) (.cons .rfl (.cons .rfl (.cons .rfl (.cons .rfl (.cons .rfl (.cons .rfl (.cons .rfl (.cons .rfl (.cons .rfl (.cons .rfl (.cons .rfl (.cons .rfl (.cons .rfl (.cons .rfl (.cons .rfl (.cons .rfl (.cons .rfl (.cons .rfl (.cons .rfl (.cons .rfl .nil)))))))))))))))))))))) (fun x101 s103 x102 => tg_n) (fun x101 s103 x102 => (bl_ga [.eq (ow ((Prod.snd (Prod.fst x49)) : (List Int))), .eq (.fz (enc (a1 : Int))), .eq (.fz (enc (a2 : Int))), .eq (.fz (enc (x101 : (List Int)))), .pl, .eq (.fz (enc (x43 : Int))), .eq (.fz (enc ((Prod.fst (Prod.fst (Prod.fst x19))) : (List (List Int))))), .eq (ow ((Prod.fst (Prod.snd (Prod.snd s23))) : (List Int))), .eq (.fz (enc ((Prod.fst (Prod.snd (Prod.snd (Prod.snd (Prod.fst (Prod.snd x63)))))) : (List (List Int))))), .eq (.fz (enc ((Prod.fst (Prod.fst x49)) : (List Int)))), .eq (ow (x94 : (List Int))), .eq (.fz (enc ((Prod.fst x63) : Int))), .eq (.fz (enc ((Prod.fst (Prod.fst (Prod.snd x63))) : Str))), .eq (.fz (enc (x102 : Int))), .eq (.fz (enc ((Prod.fst s103) : Int))), .eq (.fz (enc ((Prod.snd s103) : (Option (List Int))))), .pl, .pl, .pl, .eq .no] (by kernel_rfl) (bl_ifJ (k := fun x114 => x114) (ΓJ := fun x114 (j115 : (Option (List Int))) => [.eq (ow ((Prod.snd (Prod.fst x49)) : (List Int))), .eq (.fz (enc (a1 : Int))), .eq (.fz (enc (a2 : Int))), .eq (.fz (enc (x101 : (List Int)))), .pl, .eq (.fz (enc (x43 : Int))), .eq (.fz (enc ((Prod.fst (Prod.fst (Prod.fst x19))) : (List (List Int))))), .eq (ow ((Prod.fst (Prod.snd (Prod.snd s23))) : (List Int))), .eq (.fz (enc ((Prod.fst (Prod.snd (Prod.snd (Prod.snd (Prod.fst (Prod.snd x63)))))) : (List (List Int))))), .eq (.fz (enc ((Prod.fst (Prod.fst x49)) : (List Int)))), .eq (ow (x94 : (List Int))), .eq (.fz (enc ((Prod.fst x63) : Int))), .eq (.fz (enc ((Prod.fst (Prod.fst (Prod.snd x63))) : Str))), .eq (.fz (enc (x102 : Int))), .eq (.fz (enc ((Prod.fst s103) : Int))), .eq (.fz (enc (j115 : (Option (List Int))))), .pl, .pl, .pl, .eq .no]) ((ts_tst (pu_ch Nv.op_le Nv.op_lt ((pu_var 14 rfl)).rd ((pu2 Nv.op_fdivW ((pu_var 11 rfl)).rd (pu_c).rd)).rd ((pu2 Nv.op_add ((pu_var 14 rfl)).rd ((pu2 Nv.op_ix2 ((pu_var 9 rfl)).rd ((pu_var 13 rfl)).rd)).rd)).rd))).te' (fun x114 => (bl_last (bl_asgV (((pu2 Nv.op_ix2 ((pu_var 8 rfl)).rd ((pu_var 13 rfl)).rd)).tkP).ev fun x118 => (bl_ga [.eq (ow ((Prod.snd (Prod.fst x49)) : (List Int))), .eq (.fz (enc (a1 : Int))), .eq (.fz (enc (a2 : Int))), .eq (.fz (enc (x101 : (List Int)))), .pl, .eq (.fz (enc (x43 : Int))), .eq (.fz (enc ((Prod.fst (Prod.fst (Prod.fst x19))) : (List (List Int))))), .eq (ow ((Prod.fst (Prod.snd (Prod.snd s23))) : (List Int))), .eq (.fz (enc ((Prod.fst (Prod.snd (Prod.snd (Prod.snd (Prod.fst (Prod.snd x63)))))) : (List (List Int))))), .eq (.fz (enc ((Prod.fst (Prod.fst x49)) : (List Int)))), .eq (ow (x94 : (List Int))), .eq (.fz (enc ((Prod.fst x63) : Int))), .eq (.fz (enc ((Prod.fst (Prod.fst (Prod.snd x63))) : Str))), .eq (.fz (enc (x102 : Int))), .eq (.fz (enc ((Prod.fst s103) : Int))), .eq (.fz (enc (x118 : (List Int)))), .pl, .pl, .pl, .eq .no] (by kernel_rfl) (bl_end (rn_nx (.cons .rfl (.cons .rfl (.cons .rfl (.cons .rfl (.cons .rfl (.cons .rfl (.cons .rfl (.cons .rfl (.cons .rfl (.cons .rfl (.cons .rfl (.cons .rfl (.cons .rfl (.cons .rfl (.cons .rfl (.cons .rfl (.cons .rfl (.cons .rfl (.cons .rfl (.cons .rfl .nil)))))))))))))))))))))))))) (fun x114 => (bl_end (rn_nx (.cons .rfl (.cons .rfl (.cons .rfl (.cons .rfl (.cons .rfl (.cons .rfl (.cons .rfl (.cons .rfl (.cons .rfl (.cons .rfl (.cons .rfl (.cons .rfl (.cons .rfl (.cons .rfl (.cons .rfl (.cons .rfl (.cons .rfl (.cons .rfl (.cons .rfl (.cons .rfl .nil))))))))))))))))))))))) fun x114 j115 => (bl_last (bl_asgV (((pu2 Nv.op_add ((pu_var 14 rfl)).rd ((pu2 Nv.op_ix2 ((pu_var 9 rfl)).rd ((pu_var 13 rfl)).rd)).rd)).tkP).ev fun x123 => (bl_ga [.eq (ow ((Prod.snd (Prod.fst x49)) : (List Int))), .eq (.fz (enc (a1 : Int))), .eq (.fz (enc (a2 : Int))), .eq (.fz (enc (x101 : (List Int)))), .pl, .eq (.fz (enc (x43 : Int))), .eq (.fz (enc ((Prod.fst (Prod.fst (Prod.fst x19))) : (List (List Int))))), .eq (ow ((Prod.fst (Prod.snd (Prod.snd s23))) : (List Int))), .eq (.fz (enc ((Prod.fst (Prod.snd (Prod.snd (Prod.snd (Prod.fst (Prod.snd x63)))))) : (List (List Int))))), .eq (.fz (enc ((Prod.fst (Prod.fst x49)) : (List Int)))), .eq (ow (x94 : (List Int))), .eq (.fz (enc ((Prod.fst x63) : Int))), .eq (.fz (enc ((Prod.fst (Prod.fst (Prod.snd x63))) : Str))), .eq (.fz (enc (x102 : Int))), .eq (.fz (enc (x123 : Int))), .eq (.fz (enc (j115 : (Option (List Int))))), .pl, .pl, .pl, .eq .no] (by kernel_rfl) (bl_end (rs_nx (.cons .rfl (.cons .rfl (.cons .rfl (.cons .rfl (.cons .rfl (.cons .rfl (.cons .rfl (.cons .rfl (.cons .rfl (.cons .rfl (.cons .rfl (.cons .rfl (.cons .rfl (.cons .fz (.cons .rfl (.cons .rfl (.cons .rfl (.cons .rfl (.cons .rfl (.cons .rfl .nil)))))))))))))))))))))))))))) fun x101 s103 => (bl_assoc (bl_if (k := fun x130 => x130) ((ts_brw (Γ0 := [.eq (.fz (enc ((Prod.snd (Prod.fst x49)) : (List Int)))), .eq (.fz (enc (a1 : Int))), .eq (.fz (enc (a2 : Int))), .eq (.fz (enc (x101 : (List Int)))), .aa, .eq (.fz (enc (x43 : Int))), .eq (.fz (enc ((Prod.fst (Prod.fst (Prod.fst x19))) : (List (List Int))))), .eq (.fz (enc ((Prod.fst (Prod.snd (Prod.snd s23))) : (List Int)))), .eq (.fz (enc ((Prod.fst (Prod.snd (Prod.snd (Prod.snd (Prod.fst (Prod.snd x63)))))) : (List (List Int))))), .eq (.fz (enc ((Prod.fst (Prod.fst x49)) : (List Int)))), .eq (.fz (enc (x94 : (List Int)))), .eq (.fz (enc ((Prod.fst x63) : Int))), .eq (.fz (enc ((Prod.fst (Prod.fst (Prod.snd x63))) : Str))), .aa, .eq (.fz (enc ((Prod.fst s103) : Int))), .eq (.fz (enc ((Prod.snd s103) : (Option (List Int))))), .aa, .aa, .aa, .eq .no]) (.cons .ow (.cons .fz (.cons .fz (.cons .fz (.cons .aa (.cons .fz (.cons .fz (.cons .ow (.cons .fz (.cons .fz (.cons .ow (.cons .fz (.cons .fz (.cons .aa (.cons .fz (.cons .fz (.cons .aa (.cons .aa (.cons .aa (.cons .no .nil)))))))))))))))))))) (ts_tst (pu2 Nv.op_neS ((pu1A Nv.op_repr (((Pu.any (pu_var 10 rfl))).rd).ra)).rd ((pu1A Nv.op_repr (((Pu.any (pu_var 15 rfl))).rd).ra)).rd)))).te' (fun x130 => (bl_retS (bl_retV (pu_c).ev fun x131 => (rl_rt (rf_eq rfl (.cons .rfl (.cons .aa (.cons .aa (.cons .aa (.cons .aa (.cons .aa (.cons .aa (.cons .aa (.cons .aa (.cons .aa (.cons .aa (.cons .aa (.cons .aa (.cons .aa (.cons .aa (.cons .aa (.cons .aa (.cons .aa (.cons .aa (.cons .aa .nil))))))))))))))))))))))))) fun x130 => (bl_next (bl_assoc (bl_forF (Q := (RF (ρ := (Bool × (List Int))) (fun r => .eq (.fz (enc ((Prod.fst r) : Bool)))) fun r => [.eq (ow ((Prod.snd r) : (List Int))), .aa, .aa, .aa, .aa, .aa, .aa, .aa, .aa, .aa, .aa, .aa, .aa, .aa, .aa, .aa, .aa, .aa, .aa, .aa])) (vs := [16, 17]) (xs := fun x135 => x135) (s0 := fun x135 => (() : Unit)) (ΓL := fun x135 (s137 : Unit) => [.eq (ow ((Prod.snd (Prod.fst x49)) : (List Int))), .eq (.fz (enc (a1 : Int))), .eq (.fz (enc (a2 : Int))), .eq (.fz (enc (x101 : (List Int)))), .pl, .eq (.fz (enc (x43 : Int))), .eq (.fz (enc ((Prod.fst (Prod.fst (Prod.fst x19))) : (List (List Int))))), .eq (ow ((Prod.fst (Prod.snd (Prod.snd s23))) : (List Int))), .eq (.fz (enc ((Prod.fst (Prod.snd (Prod.snd (Prod.snd (Prod.fst (Prod.snd x63)))))) : (List (List Int))))), .eq (.fz (enc ((Prod.fst (Prod.fst x49)) : (List Int)))), .eq (ow (x94 : (List Int))), .eq (.fz (enc ((Prod.fst x63) : Int))), .eq (.fz (enc ((Prod.fst (Prod.fst (Prod.snd x63))) : Str))), .pl, .eq (.fz (enc ((Prod.fst s103) : Int))), .eq (.fz (enc ((Prod.snd s103) : (Option (List Int))))), .pl, .pl, .pl, .eq .no]) (kr := fun r185 => some (Fl.rt r185)) ((ip_seq (xs := fun v => v) (((pu_call (ap_cons ((pu_var 1 rfl)).tkP ap_nil) (fun x134 => V__law_pairs ((Prod.fst x134) : Int)))).tkTP ow_tree))).it (fun x135 => (.cons .rfl (.cons .rfl (.cons .rfl (.cons .rfl (.cons .rfl (.cons .rfl (.cons .rfl (.cons .rfl (.cons .rfl (.cons .rfl (.cons .rfl (.cons .rfl (.cons .rfl (.cons .rfl (.cons .rfl (.cons .rfl (.cons .rfl (.cons .rfl (.cons .rfl (.cons .rfl .nil))))))))))))))))))))) (fun x135 s137 x136 => (tg_t (tgs_cons tg_n (tgs_cons tg_n tgs_nil)))) (fun x135 s137 x136 => (bl_ga [.eq (ow ((Prod.snd (Prod.fst x49)) : (List Int))), .eq (.fz (enc (a1 : Int))), .eq (.fz (enc (a2 : Int))), .eq (.fz (enc (x101 : (List Int)))), .pl, .eq (.fz (enc (x43 : Int))), .eq (.fz (enc ((Prod.fst (Prod.fst (Prod.fst x19))) : (List (List Int))))), .eq (ow ((Prod.fst (Prod.snd (Prod.snd s23))) : (List Int))), .eq (.fz (enc ((Prod.fst (Prod.snd (Prod.snd (Prod.snd (Prod.fst (Prod.snd x63)))))) : (List (List Int))))), .eq (.fz (enc ((Prod.fst (Prod.fst x49)) : (List Int)))), .eq (ow (x94 : (List Int))), .eq (.fz (enc ((Prod.fst x63) : Int))), .eq (.fz (enc ((Prod.fst (Prod.fst (Prod.snd x63))) : Str))), .pl, .eq (.fz (enc ((Prod.fst s103) : Int))), .eq (.fz (enc ((Prod.snd s103) : (Option (List Int))))), .eq (.fz (enc ((Prod.fst x136) : Int))), .eq (.fz (enc ((Prod.snd x136) : Int))), .pl, .eq .no] (by kernel_rfl) (bl_asgV (((pu1A Nv.op_sum ((((pu_lc (vs := [19]) (ip_rng1 ((pu_var 2 rfl)).tkP) rfl rfl (fun x139 x140 => tg_n) (fun x139 x140 => (ts_ga [.eq (ow ((Prod.snd (Prod.fst x49)) : (List Int))), .eq (.fz (enc (a1 : Int))), .eq (.fz (enc (a2 : Int))), .eq (.fz (enc (x101 : (List Int)))), .pl, .eq (.fz (enc (x43 : Int))), .eq (.fz (enc ((Prod.fst (Prod.fst (Prod.fst x19))) : (List (List Int))))), .eq (ow ((Prod.fst (Prod.snd (Prod.snd s23))) : (List Int))), .eq (.fz (enc ((Prod.fst (Prod.snd (Prod.snd (Prod.snd (Prod.fst (Prod.snd x63)))))) : (List (List Int))))), .eq (.fz (enc ((Prod.fst (Prod.fst x49)) : (List Int)))), .eq (ow (x94 : (List Int))), .eq (.fz (enc ((Prod.fst x63) : Int))), .eq (.fz (enc ((Prod.fst (Prod.fst (Prod.snd x63))) : Str))), .pl, .eq (.fz (enc ((Prod.fst s103) : Int))), .eq (.fz (enc ((Prod.snd s103) : (Option (List Int))))), .eq (.fz (enc ((Prod.fst x136) : Int))), .eq (.fz (enc ((Prod.snd x136) : Int))), .pl, .eq (.fz (enc (x140 : Int)))] (by kernel_rfl) (ts_truB (((pu_call (ap_cons ((pu2 Nv.op_ix2 ((pu_var 8 rfl)).rd ((pu_var 19 rfl)).rd)).tkP (ap_cons ((pu_var 16 rfl)).tkP (ap_cons ((pu_var 17 rfl)).tkP ap_nil))) (fun x149 => V__law_above ((Prod.fst x149) : (List Int)) ((some (Prod.fst (Prod.snd x149))) : (Option Int)) ((Prod.fst (Prod.snd (Prod.snd x149))) : Int)))).rd).ra))) fun x139 x140 => (pu_ga [.eq (ow ((Prod.snd (Prod.fst x49)) : (List Int))), .eq (.fz (enc (a1 : Int))), .eq (.fz (enc (a2 : Int))), .eq (.fz (enc (x101 : (List Int)))), .pl, .eq (.fz (enc (x43 : Int))), .eq (.fz (enc ((Prod.fst (Prod.fst (Prod.fst x19))) : (List (List Int))))), .eq (ow ((Prod.fst (Prod.snd (Prod.snd s23))) : (List Int))), .eq (.fz (enc ((Prod.fst (Prod.snd (Prod.snd (Prod.snd (Prod.fst (Prod.snd x63)))))) : (List (List Int))))), .eq (.fz (enc ((Prod.fst (Prod.fst x49)) : (List Int)))), .eq (ow (x94 : (List Int))), .eq (.fz (enc ((Prod.fst x63) : Int))), .eq (.fz (enc ((Prod.fst (Prod.fst (Prod.snd x63))) : Str))), .pl, .eq (.fz (enc ((Prod.fst s103) : Int))), .eq (.fz (enc ((Prod.snd s103) : (Option (List Int))))), .eq (.fz (enc ((Prod.fst x136) : Int))), .eq (.fz (enc ((Prod.snd x136) : Int))), .pl, .eq (.fz (enc (x140 : Int)))] (by kernel_rfl) ((pu2 Nv.op_ix2 ((pu_var 9 rfl)).rd ((pu_var 19 rfl)).rd)).tkP))).rdT ow_tree)).ra)).tkP).ev fun x154 => (bl_ga [.eq (ow ((Prod.snd (Prod.fst x49)) : (List Int))), .eq (.fz (enc (a1 : Int))), .eq (.fz (enc (a2 : Int))), .eq (.fz (enc (x101 : (List Int)))), .pl, .eq (.fz (enc (x43 : Int))), .eq (.fz (enc ((Prod.fst (Prod.fst (Prod.fst x19))) : (List (List Int))))), .eq (ow ((Prod.fst (Prod.snd (Prod.snd s23))) : (List Int))), .eq (.fz (enc ((Prod.fst (Prod.snd (Prod.snd (Prod.snd (Prod.fst (Prod.snd x63)))))) : (List (List Int))))), .eq (.fz (enc ((Prod.fst (Prod.fst x49)) : (List Int)))), .eq (ow (x94 : (List Int))), .eq (.fz (enc ((Prod.fst x63) : Int))), .eq (.fz (enc ((Prod.fst (Prod.fst (Prod.snd x63))) : Str))), .pl, .eq (.fz (enc ((Prod.fst s103) : Int))), .eq (.fz (enc ((Prod.snd s103) : (Option (List Int))))), .eq (.fz (enc ((Prod.fst x136) : Int))), .eq (.fz (enc ((Prod.snd x136) : Int))), .eq (.fz (enc (x154 : Int))), .eq .no] (by kernel_rfl) (bl_last (bl_if (k := fun x168 => x168) ((ts_brw (Γ0 := [.eq (.fz (enc ((Prod.snd (Prod.fst x49)) : (List Int)))), .eq (.fz (enc (a1 : Int))), .eq (.fz (enc (a2 : Int))), .eq (.fz (enc (x101 : (List Int)))), .aa, .eq (.fz (enc (x43 : Int))), .eq (.fz (enc ((Prod.fst (Prod.fst (Prod.fst x19))) : (List (List Int))))), .eq (.fz (enc ((Prod.fst (Prod.snd (Prod.snd s23))) : (List Int)))), .eq (.fz (enc ((Prod.fst (Prod.snd (Prod.snd (Prod.snd (Prod.fst (Prod.snd x63)))))) : (List (List Int))))), .eq (.fz (enc ((Prod.fst (Prod.fst x49)) : (List Int)))), .eq (.fz (enc (x94 : (List Int)))), .eq (.fz (enc ((Prod.fst x63) : Int))), .eq (.fz (enc ((Prod.fst (Prod.fst (Prod.snd x63))) : Str))), .aa, .eq (.fz (enc ((Prod.fst s103) : Int))), .eq (.fz (enc ((Prod.snd s103) : (Option (List Int))))), .eq (.fz (enc ((Prod.fst x136) : Int))), .eq (.fz (enc ((Prod.snd x136) : Int))), .eq (.fz (enc (x154 : Int))), .eq .no]) (.cons .ow (.cons .fz (.cons .fz (.cons .fz (.cons .aa (.cons .fz (.cons .fz (.cons .ow (.cons .fz (.cons .fz (.cons .ow (.cons .fz (.cons .fz (.cons .aa (.cons .fz (.cons .fz (.cons .fz (.cons .fz (.cons .fz (.cons .no .nil)))))))))))))))))))) (ts_tst (pu2A Nv.op_ne (((pu_call (ap_cons ((pu_var 10 rfl)).tkP (ap_cons ((pu_var 16 rfl)).tkP (ap_cons ((pu_var 17 rfl)).tkP ap_nil))) (fun x161 => V__law_above ((Prod.fst x161) : (List Int)) ((some (Prod.fst (Prod.snd x161))) : (Option Int)) ((Prod.fst (Prod.snd (Prod.snd x161))) : Int)))).rd).ra (((pu2 Nv.op_gt ((pu2 Nv.op_mul (pu_c).rd ((pu_var 18 rfl)).rd)).rd ((pu_var 11 rfl)).rd)).rd).ra)))).te' (fun x168 => (bl_retS (bl_retV (pu_c).ev fun x169 => (rl_rt (rf_eq rfl (.cons .rfl (.cons .aa (.cons .aa (.cons .aa (.cons .aa (.cons .aa (.cons .aa (.cons .aa (.cons .aa (.cons .aa (.cons .aa (.cons .aa (.cons .aa (.cons .aa (.cons .aa (.cons .aa (.cons .aa (.cons .aa (.cons .aa (.cons .aa .nil))))))))))))))))))))))))) fun x168 => (bl_next (bl_end (rl_nx (.cons .rfl (.cons .rfl (.cons .rfl (.cons .rfl (.cons .rfl (.cons .rfl (.cons .rfl (.cons .rfl (.cons .rfl (.cons .rfl (.cons .rfl (.cons .rfl (.cons .rfl (.cons .rfl (.cons .rfl (.cons .rfl (.cons .fz (.cons .fz (.cons .fz (.cons .rfl .nil))))))))))))))))))))))))))))) (fun v z u d hz h => by cases (Option.some.inj hz); exact ⟨h, u, d, rfl⟩) fun x135 s137 => (bl_reL (k := 10) rfl (bl_ga [.eq (ow ((Prod.snd (Prod.fst x49)) : (List Int))), .eq (.fz (enc (a1 : Int))), .eq (.fz (enc (a2 : Int))), .eq (.fz (enc (x101 : (List Int)))), .pl, .eq (.fz (enc (x43 : Int))), .eq (.fz (enc ((Prod.fst (Prod.fst (Prod.fst x19))) : (List (List Int))))), .eq (ow ((Prod.fst (Prod.snd (Prod.snd s23))) : (List Int))), .eq (.fz (enc ((Prod.fst (Prod.snd (Prod.snd (Prod.snd (Prod.fst (Prod.snd x63)))))) : (List (List Int))))), .eq (.fz (enc ((Prod.fst (Prod.fst x49)) : (List Int)))), .eq (ow ((List.map enc (x94 : (List Int))) : (List PyData))), .eq (.fz (enc ((Prod.fst x63) : Int))), .eq (.fz (enc ((Prod.fst (Prod.fst (Prod.snd x63))) : Str))), .pl, .eq (.fz (enc ((Prod.fst s103) : Int))), .eq (.fz (enc ((Prod.snd s103) : (Option (List Int))))), .pl, .pl, .pl, .eq .no] (by kernel_rfl) (bl_expr (ev_appD (k := 10) (xs := fun x171 => ((List.map enc (x94 : (List Int))) : (List PyData))) rfl rfl ((pu_none).tkP).ev fun _ => rfl) fun x173 => (bl_ga [.eq (ow ((Prod.snd (Prod.fst x49)) : (List Int))), .eq (.fz (enc (a1 : Int))), .eq (.fz (enc (a2 : Int))), .eq (.fz (enc (x101 : (List Int)))), .pl, .eq (.fz (enc (x43 : Int))), .eq (.fz (enc ((Prod.fst (Prod.fst (Prod.fst x19))) : (List (List Int))))), .eq (ow ((Prod.fst (Prod.snd (Prod.snd s23))) : (List Int))), .eq (.fz (enc ((Prod.fst (Prod.snd (Prod.snd (Prod.snd (Prod.fst (Prod.snd x63)))))) : (List (List Int))))), .eq (.fz (enc ((Prod.fst (Prod.fst x49)) : (List Int)))), .any, .eq (.fz (enc ((Prod.fst x63) : Int))), .eq (.fz (enc ((Prod.fst (Prod.fst (Prod.snd x63))) : Str))), .pl, .eq (.fz (enc ((Prod.fst s103) : Int))), .eq (.fz (enc ((Prod.snd s103) : (Option (List Int))))), .pl, .pl, .pl, .eq .no] (by kernel_rfl) (bl_last (bl_if (k := fun x183 => x183) ((ts_tst (pu2 Nv.op_neS ((pu1A Nv.op_repr ((Rd.any (((pu_lst (dp_cons ((pu_var 8 rfl)).tkP (dp_cons ((pu_var 9 rfl)).tkP dp_nil)) (fun x176 => ([(enc ((Prod.fst x176) : (List (List Int)))), (enc ((Prod.fst (Prod.snd x176)) : (List Int)))] : (List PyData))))).rdT ow_tree))).ra)).rd ((pu_var 12 rfl)).rd))).te' (fun x183 => (bl_retS (bl_retV (pu_c).ev fun x184 => (rl_rt (rf_eq rfl (.cons .rfl (.cons .aa (.cons .aa (.cons .aa (.cons .aa (.cons .aa (.cons .aa (.cons .aa (.cons .aa (.cons .aa (.cons .aa (.cons .aa (.cons .aa (.cons .aa (.cons .aa (.cons .aa (.cons .aa (.cons .aa (.cons .aa (.cons .aa .nil))))))))))))))))))))))))) fun x183 => (bl_next (bl_end (rl_nx (.cons .rfl (.cons .rfl (.cons .rfl (.cons .trf (.cons .rfl (.cons .fz (.cons .rfl (.cons .rfl (.cons .trf (.cons .fz (.cons .rfl (.cons .fz (.cons .fz (.cons .rfl (.cons .fz (.cons .fz (.cons .rfl (.cons .rfl (.cons .rfl (.cons .rfl .nil)))))))))))))))))))))))))))))))))))))))))))))))))) (fun v z u d hz h => by cases (Option.some.inj hz); exact h) fun x42 s44 => (bl_retV (pu_c).ev fun x187 => (rf_eq rfl (.cons .rfl (.cons .aa (.cons .aa (.cons .aa (.cons .aa (.cons .aa (.cons .aa (.cons .aa (.cons .aa (.cons .aa (.cons .aa (.cons .aa (.cons .aa (.cons .aa (.cons .aa (.cons .aa (.cons .aa (.cons .aa (.cons .aa (.cons .aa .nil))))))))))))))))))))))))))))))))
end P
namespace P
open PySem PySem.Spec PyProof.Rows L2 Hb Nv
open Enc (enc)
def B_law_v8 : List Sl → Ot :=
    oSeq (oFor (wRng1 (s2 gMax2 (sC (.int 1)) (s2 gMin2 (sC (.int 4)) (s1 (gRd lenD) (sVar 0))))) (tgN 1) (oSeq (oAsg (sCall F__law_well [] (rCons (sTk (sVar 0)) (rCons (sTk (sVar 1)) (rNil)))) (tgN 3))
    (oSeq (oAsg (sTk (sLst (lCons (sTup (lCons (s2 gAdd (sC (.int 1)) (sCall F__law_pick [] (rIo 3 (rCons (sC (.int 4)) (rNil))))) (lCons (s2 gAdd (sC (.int 1)) (sCall F__law_pick [] (rIo 3 (rCons (sC (.int 6)) (rNil))))) (lNil)))) (lCons (sTup (lCons (sC (.int 8)) (lCons (s2 gAdd (sC (.int 1)) (sCall F__law_pick [] (rIo 3 (rCons (sC (.int 30)) (rNil))))) (lNil)))) (lCons (sTup (lCons (sC (.int 3)) (lCons (sC (.int 0)) (lNil)))) (lNil)))))) (tgN 4))
    (oFor (wSeq (s2 gAdd (sVar 4) (s2 gMulX (sLst (lCons (sTup (lCons (sC (.int 12)) (lCons (sC (.int 40)) (lNil)))) (lNil))) (s1 (gRd intD) (s2 gEq (sVar 1) (sC (.int 0))))))) (tgT 2 (tgCons (tgN 7) (tgCons (tgN 8) (tgNil)))) (oIf (sNot (sTru (sCall F__law_right_v8 [] (rIo 3 (rCons (sTk (sVar 7)) (rCons (sTk (sVar 8)) (rNil))))))) (oRet (sC (.bool false))) (oNext))))))
    (oSeq (oPar [5, 6] (rCons (sTk (sLst (lCons (sLst (lCons (sC (.int 0)) (lCons (sC (.int 1)) (lCons (sC (.int 2)) (lNil))))) (lCons (sLst (lCons (sC (.int 1)) (lCons (sC (.int 2)) (lCons (sC (.int 0)) (lNil))))) (lCons (sLst (lCons (sC (.int 2)) (lCons (sC (.int 0)) (lCons (sC (.int 1)) (lNil))))) (lNil)))))) (rCons (sTk (sLst (lCons (sLst (lCons (sC (.int 1)) (lCons (sC (.int 0)) (lCons (sC (.int 2)) (lNil))))) (lCons (sLst (lCons (sC (.int 0)) (lCons (sC (.int 1)) (lCons (sC (.int 2)) (lNil))))) (lCons (sLst (lCons (sC (.int 1)) (lCons (sC (.int 2)) (lCons (sC (.int 0)) (lNil))))) (lNil)))))) (rNil))))
    (oSeq (oAsg (sTk (sLst (lCons (sCall F__law_told_v5 [] (rCons (sC (.int 3)) (rCons (sTk (sVar 5)) (rCons (sTk (sLst (lCons (sC (.int 1)) (lCons (sC (.int 1)) (lCons (sC (.int 1)) (lNil)))))) (rNil))))) (lCons (sCall F__law_told_v5 [] (rCons (sC (.int 3)) (rCons (sTk (sVar 5)) (rCons (sTk (sLst (lCons (sC (.int 0)) (lCons (sC (.int 0)) (lCons (sC (.int 0)) (lNil)))))) (rNil))))) (lCons (sCall F__law_told_v5 [] (rCons (sC (.int 3)) (rCons (sTk (sVar 6)) (rCons (sTk (sLst (lCons (sC (.int 2)) (lCons (sC (.int 5)) (lCons (sC (.int 2)) (lNil)))))) (rNil))))) (lNil)))))) (tgN 2))
    (oRet (sAndV (s2 gEq (sVar 2) (sLst (lCons (sC (.str "row")) (lCons (sC (.str "row")) (lCons (sLst (lCons (sC (.int 0)) (lCons (sC (.int 1)) (lCons (sC (.int 2)) (lNil))))) (lNil)))))) (s2 gEq (sCall F__law_told_v5 [] (rCons (sC (.int 2)) (rCons (sTk (sLst (lNil))) (rCons (sTk (sLst (lNil))) (rNil))))) (sC (.str "even")))))))
def F_law_v8 : List Sl → FR := fnRun 1 9 [] B_law_v8
def n_law_v8 (a0 : (List Int)) : Option (Bool) :=
    (Option.bind (Option.bind (Option.bind (some (1 : Int)) fun x4 => Option.bind (Option.bind (some (4 : Int)) fun x2 => Option.bind (Option.bind (some a0) fun x1 => lenL x1) fun x3 => minI2 x2 x3) fun x5 => maxI2 x4 x5) fun x6 => ri1 x6) fun x7 => Option.bind (forF (ρ := (Bool)) x7 (() : Unit) fun s9 x8 => (Option.bind (Option.bind (Option.bind (some a0) fun x10 => Option.bind (Option.bind (some x8) fun x11 => Option.bind (some ()) fun x12 => some (x11, x12)) fun x13 => some (x10, x13)) fun x14 => n__law_well ((Prod.fst x14) : (List Int)) ((Prod.fst (Prod.snd x14)) : Int)) fun x15 => (Option.bind (Option.bind (Option.bind (Option.bind (Option.bind (Option.bind (some (1 : Int)) fun x22 => Option.bind (Option.bind (Option.bind (some (4 : Int)) fun x16 => Option.bind (some ()) fun x17 => some (x16, x17)) fun x18 => Option.bind (n__law_pick (x15 : (List Int)) ((Prod.fst x18) : Int)) fun x19 => some (x19, x18)) fun x20 => Option.bind (addI x22 (Prod.fst (Prod.fst x20))) fun x21 => some (x21, x22, x20)) fun x23 => Option.bind (Option.bind (Option.bind (some (1 : Int)) fun x30 => Option.bind (Option.bind (Option.bind (some (6 : Int)) fun x24 => Option.bind (some ()) fun x25 => some (x24, x25)) fun x26 => Option.bind (n__law_pick ((Prod.snd (Prod.fst (Prod.snd (Prod.snd x23)))) : (List Int)) ((Prod.fst x26) : Int)) fun x27 => some (x27, x26)) fun x28 => Option.bind (addI x30 (Prod.fst (Prod.fst x28))) fun x29 => some (x29, x30, x28)) fun x31 => Option.bind (some ()) fun x33 => some (x31, x33)) fun x34 => some (x23, x34)) fun x32 => some ((((Prod.fst (Prod.fst x32)), (Prod.fst (Prod.fst (Prod.snd x32)))) : (Int × Int)), x32)) fun x35 => Option.bind (Option.bind (Option.bind (Option.bind (some (8 : Int)) fun x36 => Option.bind (Option.bind (Option.bind (some (1 : Int)) fun x43 => Option.bind (Option.bind (Option.bind (some (30 : Int)) fun x37 => Option.bind (some ()) fun x38 => some (x37, x38)) fun x39 => Option.bind (n__law_pick ((Prod.snd (Prod.fst (Prod.snd (Prod.snd (Prod.fst (Prod.snd (Prod.snd x35))))))) : (List Int)) ((Prod.fst x39) : Int)) fun x40 => some (x40, x39)) fun x41 => Option.bind (addI x43 (Prod.fst (Prod.fst x41))) fun x42 => some (x42, x43, x41)) fun x44 => Option.bind (some ()) fun x46 => some (x44, x46)) fun x47 => some (x36, x47)) fun x45 => some ((((Prod.fst x45), (Prod.fst (Prod.fst (Prod.snd x45)))) : (Int × Int)), x45)) fun x48 => Option.bind (Option.bind (Option.bind (Option.bind (some (3 : Int)) fun x49 => Option.bind (Option.bind (some (0 : Int)) fun x50 => Option.bind (some ()) fun x52 => some (x50, x52)) fun x53 => some (x49, x53)) fun x51 => some (((Prod.fst x51), (Prod.fst (Prod.snd x51))) : (Int × Int))) fun x54 => Option.bind (some ()) fun x56 => some (x54, x56)) fun x57 => some (x48, x57)) fun x58 => some (x35, x58)) fun x55 => some (([(Prod.fst (Prod.fst x55)), (Prod.fst (Prod.fst (Prod.snd x55))), (Prod.fst (Prod.snd (Prod.snd x55)))] : (List (Int × Int))), x55)) fun x59 => (Option.bind (Option.bind (some (Prod.fst x59)) fun x73 => Option.bind (Option.bind (Option.bind (Option.bind (Option.bind (Option.bind (some (12 : Int)) fun x60 => Option.bind (Option.bind (some (40 : Int)) fun x61 => Option.bind (some ()) fun x63 => some (x61, x63)) fun x64 => some (x60, x64)) fun x62 => some (((Prod.fst x62), (Prod.fst (Prod.snd x62))) : (Int × Int))) fun x65 => Option.bind (some ()) fun x67 => some (x65, x67)) fun x66 => some ([(Prod.fst x66)] : (List (Int × Int)))) fun x71 => Option.bind (Option.bind (Option.bind (some x8) fun x68 => Option.bind (some (0 : Int)) fun x69 => eqN x68 x69) fun x70 => intB x70) fun x72 => repL x71 x72) fun x74 => catL x73 x74) fun x75 => Option.bind (forF (ρ := (Bool)) x75 ((Prod.snd (Prod.fst (Prod.snd (Prod.snd (Prod.fst (Prod.snd (Prod.snd (Prod.fst (Prod.snd (Prod.snd x59)))))))))) : (List Int)) fun s77 x76 => (Option.bind (Option.bind (Option.bind (some (Prod.fst x76)) fun x78 => Option.bind (Option.bind (some (Prod.snd x76)) fun x79 => Option.bind (some ()) fun x80 => some (x79, x80)) fun x81 => some (x78, x81)) fun x82 => Option.bind (n__law_right_v8 (s77 : (List Int)) ((Prod.fst x82) : Int) ((Prod.fst (Prod.snd x82)) : Int)) fun x83 => some (x83, x82)) fun x86 => if (!(Prod.fst (Prod.fst x86))) = true then (Option.bind (some false) fun x87 => some (.rt x87)) else some (.nx ((Prod.snd (Prod.fst x86)) : (List Int))))) fun o89 => Fl.el o89 (fun s77 => some (.nx (() : Unit))) fun r88 => some (Fl.rt r88))))) fun o232 => Fl.el o232 (fun s9 => (Option.bind (Option.bind (Option.bind (Option.bind (Option.bind (Option.bind (some (0 : Int)) fun x90 => Option.bind (Option.bind (some (1 : Int)) fun x91 => Option.bind (Option.bind (some (2 : Int)) fun x92 => Option.bind (some ()) fun x94 => some (x92, x94)) fun x95 => some (x91, x95)) fun x96 => some (x90, x96)) fun x93 => some ([(Prod.fst x93), (Prod.fst (Prod.snd x93)), (Prod.fst (Prod.snd (Prod.snd x93)))] : (List Int))) fun x97 => Option.bind (Option.bind (Option.bind (Option.bind (some (1 : Int)) fun x98 => Option.bind (Option.bind (some (2 : Int)) fun x99 => Option.bind (Option.bind (some (0 : Int)) fun x100 => Option.bind (some ()) fun x102 => some (x100, x102)) fun x103 => some (x99, x103)) fun x104 => some (x98, x104)) fun x101 => some ([(Prod.fst x101), (Prod.fst (Prod.snd x101)), (Prod.fst (Prod.snd (Prod.snd x101)))] : (List Int))) fun x105 => Option.bind (Option.bind (Option.bind (Option.bind (some (2 : Int)) fun x106 => Option.bind (Option.bind (some (0 : Int)) fun x107 => Option.bind (Option.bind (some (1 : Int)) fun x108 => Option.bind (some ()) fun x110 => some (x108, x110)) fun x111 => some (x107, x111)) fun x112 => some (x106, x112)) fun x109 => some ([(Prod.fst x109), (Prod.fst (Prod.snd x109)), (Prod.fst (Prod.snd (Prod.snd x109)))] : (List Int))) fun x113 => Option.bind (some ()) fun x115 => some (x113, x115)) fun x116 => some (x105, x116)) fun x117 => some (x97, x117)) fun x114 => some ([(Prod.fst x114), (Prod.fst (Prod.snd x114)), (Prod.fst (Prod.snd (Prod.snd x114)))] : (List (List Int)))) fun x118 => Option.bind (Option.bind (Option.bind (Option.bind (Option.bind (Option.bind (some (1 : Int)) fun x119 => Option.bind (Option.bind (some (0 : Int)) fun x120 => Option.bind (Option.bind (some (2 : Int)) fun x121 => Option.bind (some ()) fun x123 => some (x121, x123)) fun x124 => some (x120, x124)) fun x125 => some (x119, x125)) fun x122 => some ([(Prod.fst x122), (Prod.fst (Prod.snd x122)), (Prod.fst (Prod.snd (Prod.snd x122)))] : (List Int))) fun x126 => Option.bind (Option.bind (Option.bind (Option.bind (some (0 : Int)) fun x127 => Option.bind (Option.bind (some (1 : Int)) fun x128 => Option.bind (Option.bind (some (2 : Int)) fun x129 => Option.bind (some ()) fun x131 => some (x129, x131)) fun x132 => some (x128, x132)) fun x133 => some (x127, x133)) fun x130 => some ([(Prod.fst x130), (Prod.fst (Prod.snd x130)), (Prod.fst (Prod.snd (Prod.snd x130)))] : (List Int))) fun x134 => Option.bind (Option.bind (Option.bind (Option.bind (some (1 : Int)) fun x135 => Option.bind (Option.bind (some (2 : Int)) fun x136 => Option.bind (Option.bind (some (0 : Int)) fun x137 => Option.bind (some ()) fun x139 => some (x137, x139)) fun x140 => some (x136, x140)) fun x141 => some (x135, x141)) fun x138 => some ([(Prod.fst x138), (Prod.fst (Prod.snd x138)), (Prod.fst (Prod.snd (Prod.snd x138)))] : (List Int))) fun x142 => Option.bind (some ()) fun x144 => some (x142, x144)) fun x145 => some (x134, x145)) fun x146 => some (x126, x146)) fun x143 => some ([(Prod.fst x143), (Prod.fst (Prod.snd x143)), (Prod.fst (Prod.snd (Prod.snd x143)))] : (List (List Int)))) fun x147 => Option.bind (some ()) fun x148 => some (x147, x148)) fun x149 => some (x118, x149)) fun x150 => (Option.bind (Option.bind (Option.bind (Option.bind (Option.bind (some (3 : Int)) fun x151 => Option.bind (Option.bind (some (Prod.fst x150)) fun x152 => Option.bind (Option.bind (Option.bind (Option.bind (some (1 : Int)) fun x153 => Option.bind (Option.bind (some (1 : Int)) fun x154 => Option.bind (Option.bind (some (1 : Int)) fun x155 => Option.bind (some ()) fun x157 => some (x155, x157)) fun x158 => some (x154, x158)) fun x159 => some (x153, x159)) fun x156 => some ([(Prod.fst x156), (Prod.fst (Prod.snd x156)), (Prod.fst (Prod.snd (Prod.snd x156)))] : (List Int))) fun x160 => Option.bind (some ()) fun x161 => some (x160, x161)) fun x162 => some (x152, x162)) fun x163 => some (x151, x163)) fun x164 => n__law_told_v5 ((Prod.fst x164) : Int) ((Prod.fst (Prod.snd x164)) : (List (List Int))) ((Prod.fst (Prod.snd (Prod.snd x164))) : (List Int))) fun x165 => Option.bind (Option.bind (Option.bind (Option.bind (some (3 : Int)) fun x166 => Option.bind (Option.bind (some (Prod.fst x150)) fun x167 => Option.bind (Option.bind (Option.bind (Option.bind (some (0 : Int)) fun x168 => Option.bind (Option.bind (some (0 : Int)) fun x169 => Option.bind (Option.bind (some (0 : Int)) fun x170 => Option.bind (some ()) fun x172 => some (x170, x172)) fun x173 => some (x169, x173)) fun x174 => some (x168, x174)) fun x171 => some ([(Prod.fst x171), (Prod.fst (Prod.snd x171)), (Prod.fst (Prod.snd (Prod.snd x171)))] : (List Int))) fun x175 => Option.bind (some ()) fun x176 => some (x175, x176)) fun x177 => some (x167, x177)) fun x178 => some (x166, x178)) fun x179 => n__law_told_v5 ((Prod.fst x179) : Int) ((Prod.fst (Prod.snd x179)) : (List (List Int))) ((Prod.fst (Prod.snd (Prod.snd x179))) : (List Int))) fun x180 => Option.bind (Option.bind (Option.bind (Option.bind (some (3 : Int)) fun x181 => Option.bind (Option.bind (some (Prod.fst (Prod.snd x150))) fun x182 => Option.bind (Option.bind (Option.bind (Option.bind (some (2 : Int)) fun x183 => Option.bind (Option.bind (some (5 : Int)) fun x184 => Option.bind (Option.bind (some (2 : Int)) fun x185 => Option.bind (some ()) fun x187 => some (x185, x187)) fun x188 => some (x184, x188)) fun x189 => some (x183, x189)) fun x186 => some ([(Prod.fst x186), (Prod.fst (Prod.snd x186)), (Prod.fst (Prod.snd (Prod.snd x186)))] : (List Int))) fun x190 => Option.bind (some ()) fun x191 => some (x190, x191)) fun x192 => some (x182, x192)) fun x193 => some (x181, x193)) fun x194 => n__law_told_v5 ((Prod.fst x194) : Int) ((Prod.fst (Prod.snd x194)) : (List (List Int))) ((Prod.fst (Prod.snd (Prod.snd x194))) : (List Int))) fun x195 => Option.bind (some ()) fun x197 => some (x195, x197)) fun x198 => some (x180, x198)) fun x199 => some (x165, x199)) fun x196 => some ([(Prod.fst x196), (Prod.fst (Prod.snd x196)), (Prod.fst (Prod.snd (Prod.snd x196)))] : (List PyData))) fun x200 => (Option.bind (Option.bind (Option.bind (Option.bind (some x200) fun x215 => some (enc (x215 : (List PyData)))) fun x217 => Option.bind (Option.bind (Option.bind (Option.bind (some ("row" : Str)) fun x201 => Option.bind (Option.bind (some ("row" : Str)) fun x202 => Option.bind (Option.bind (Option.bind (Option.bind (some (0 : Int)) fun x203 => Option.bind (Option.bind (some (1 : Int)) fun x204 => Option.bind (Option.bind (some (2 : Int)) fun x205 => Option.bind (some ()) fun x207 => some (x205, x207)) fun x208 => some (x204, x208)) fun x209 => some (x203, x209)) fun x206 => some ([(Prod.fst x206), (Prod.fst (Prod.snd x206)), (Prod.fst (Prod.snd (Prod.snd x206)))] : (List Int))) fun x210 => Option.bind (some ()) fun x212 => some (x210, x212)) fun x213 => some (x202, x213)) fun x214 => some (x201, x214)) fun x211 => some ([(enc ((Prod.fst x211) : Str)), (enc ((Prod.fst (Prod.snd x211)) : Str)), (enc ((Prod.fst (Prod.snd (Prod.snd x211))) : (List Int)))] : (List PyData))) fun x216 => some (enc (x216 : (List PyData)))) fun x218 => eqA x217 x218) fun x229 => if x229 = true then (Option.bind (Option.bind (Option.bind (some (2 : Int)) fun x219 => Option.bind (Option.bind (some []) fun x220 => Option.bind (Option.bind (some []) fun x221 => Option.bind (some ()) fun x222 => some (x221, x222)) fun x223 => some (x220, x223)) fun x224 => some (x219, x224)) fun x225 => n__law_told_v5 ((Prod.fst x225) : Int) ((Prod.fst (Prod.snd x225)) : (List (List Int))) ((Prod.fst (Prod.snd (Prod.snd x225))) : (List Int))) fun x227 => Option.bind (Option.bind (some ("even" : Str)) fun x226 => some (enc (x226 : Str))) fun x228 => eqA x227 x228) else some false) fun x230 => some x230)))) fun r231 => some r231)
theorem V_law_v8 (a0 : (List Int)) : Fun F_law_v8 (n_law_v8 a0) [.fz (enc a0)] (fun r : (Bool) => .fz (enc (r : Bool))) fun r => [.no] :=
  fun_of (ΓR := fun r => [.aa, .aa, .aa, .aa, .aa, .aa, .aa, .aa, .aa]) (show Bl B_law_v8 _ _ _ from (bl_ga [.eq (.fz (enc (a0 : (List Int)))), .eq .no, .eq .no, .eq .no, .eq .no, .eq .no, .eq .no, .eq .no, .eq .no] (by kernel_rfl) (bl_forF (Q := (RF (ρ := (Bool)) (fun r => .eq (.fz (enc (r : Bool)))) fun r => [.aa, .aa, .aa, .aa, .aa, .aa, .aa, .aa, .aa])) (vs := [1]) (xs := fun x7 => x7) (s0 := fun x7 => (() : Unit)) (ΓL := fun x7 (s9 : Unit) => [.eq (.fz (enc (a0 : (List Int)))), .pl, .eq .no, .any, .pl, .eq .no, .eq .no, .pl, .pl]) (kr := fun r231 => some r231) ((ip_rng1 ((pu2 Nv.op_max2 (pu_c).rd ((pu2 Nv.op_min2 (pu_c).rd ((pu1A Nv.op_len (((pu_var 0 rfl)).rd).ra)).rd)).rd)).tkP)).it (fun x7 => (.cons .rfl (.cons .no (.cons .rfl (.cons (.any rfl) (.cons .no (.cons .rfl (.cons .rfl (.cons .no (.cons .no .nil)))))))))) (fun x7 s9 x8 => tg_n) (fun x7 s9 x8 => (bl_ga [.eq (.fz (enc (a0 : (List Int)))), .eq (.fz (enc (x8 : Int))), .eq .no, .any, .pl, .eq .no, .eq .no, .pl, .pl] (by kernel_rfl) (bl_asgT ((pu_call (ap_cons ((pu_var 0 rfl)).tkP (ap_cons ((pu_var 1 rfl)).tkP ap_nil)) (fun x14 => V__law_well ((Prod.fst x14) : (List Int)) ((Prod.fst (Prod.snd x14)) : Int)))).ev fun x15 => (bl_ga [.eq (.fz (enc (a0 : (List Int)))), .eq (.fz (enc (x8 : Int))), .eq .no, .eq (ow (x15 : (List Int))), .pl, .eq .no, .eq .no, .pl, .pl] (by kernel_rfl) (bl_asgV (((ev_lst (dl_cons ((ev_tup (dl_cons ((ev2g Nv.op_add (va := fun x22 => x22) (vb := fun x22 x20 => (Prod.fst (Prod.fst x20))) (pu_c).ev.er fun x22 => (((ev_callG (ag_io (k := 3) rfl rfl (ag_cons (pu_c).ev fun x16 => ag_nil)) (fun x18 => V__law_pick (x15 : (List Int)) ((Prod.fst x18) : Int)))).er).es)).tk fun x23 => (dl_ga [.eq (.fz (enc (a0 : (List Int)))), .eq (.fz (enc (x8 : Int))), .eq .no, .eq (ow ((Prod.snd (Prod.fst (Prod.snd (Prod.snd x23)))) : (List Int))), .pl, .eq .no, .eq .no, .pl, .pl] (by kernel_rfl) (dl_cons ((ev2g Nv.op_add (va := fun x30 => x30) (vb := fun x30 x28 => (Prod.fst (Prod.fst x28))) (pu_c).ev.er fun x30 => (((ev_callG (ag_io (k := 3) rfl rfl (ag_cons (pu_c).ev fun x24 => ag_nil)) (fun x26 => V__law_pick ((Prod.snd (Prod.fst (Prod.snd (Prod.snd x23)))) : (List Int)) ((Prod.fst x26) : Int)))).er).es)).tk fun x31 => (dl_ga [.eq (.fz (enc (a0 : (List Int)))), .eq (.fz (enc (x8 : Int))), .eq .no, .eq (ow ((Prod.snd (Prod.fst (Prod.snd (Prod.snd x31)))) : (List Int))), .pl, .eq .no, .eq .no, .pl, .pl] (by kernel_rfl) dl_nil)))) (fun x32 => (((Prod.fst (Prod.fst x32)), (Prod.fst (Prod.fst (Prod.snd x32)))) : (Int × Int))))).tk fun x35 => (dl_ga [.eq (.fz (enc (a0 : (List Int)))), .eq (.fz (enc (x8 : Int))), .eq .no, .eq (ow ((Prod.snd (Prod.fst (Prod.snd (Prod.snd (Prod.fst (Prod.snd (Prod.snd x35))))))) : (List Int))), .pl, .eq .no, .eq .no, .pl, .pl] (by kernel_rfl) (dl_cons ((ev_tup (dl_cons ((pu_c).tkP).ev fun x36 => (dl_cons ((ev2g Nv.op_add (va := fun x43 => x43) (vb := fun x43 x41 => (Prod.fst (Prod.fst x41))) (pu_c).ev.er fun x43 => (((ev_callG (ag_io (k := 3) rfl rfl (ag_cons (pu_c).ev fun x37 => ag_nil)) (fun x39 => V__law_pick ((Prod.snd (Prod.fst (Prod.snd (Prod.snd (Prod.fst (Prod.snd (Prod.snd x35))))))) : (List Int)) ((Prod.fst x39) : Int)))).er).es)).tk fun x44 => (dl_ga [.eq (.fz (enc (a0 : (List Int)))), .eq (.fz (enc (x8 : Int))), .eq .no, .eq (ow ((Prod.snd (Prod.fst (Prod.snd (Prod.snd x44)))) : (List Int))), .pl, .eq .no, .eq .no, .pl, .pl] (by kernel_rfl) dl_nil))) (fun x45 => (((Prod.fst x45), (Prod.fst (Prod.fst (Prod.snd x45)))) : (Int × Int))))).tk fun x48 => (dl_ga [.eq (.fz (enc (a0 : (List Int)))), .eq (.fz (enc (x8 : Int))), .eq .no, .eq (ow ((Prod.snd (Prod.fst (Prod.snd (Prod.snd (Prod.fst (Prod.snd (Prod.snd x48))))))) : (List Int))), .pl, .eq .no, .eq .no, .pl, .pl] (by kernel_rfl) (dl_cons (((pu_tup (dp_cons (pu_c).tkP (dp_cons (pu_c).tkP dp_nil)) (fun x51 => (((Prod.fst x51), (Prod.fst (Prod.snd x51))) : (Int × Int))))).tkP).ev fun x54 => dl_nil))))) (fun x55 => ([(Prod.fst (Prod.fst x55)), (Prod.fst (Prod.fst (Prod.snd x55))), (Prod.fst (Prod.snd (Prod.snd x55)))] : (List (Int × Int)))))).tkT fun _ => ow_tree _) fun x59 => (bl_ga [.eq (.fz (enc (a0 : (List Int)))), .eq (.fz (enc (x8 : Int))), .eq .no, .eq (ow ((Prod.snd (Prod.fst (Prod.snd (Prod.snd (Prod.fst (Prod.snd (Prod.snd (Prod.fst (Prod.snd (Prod.snd x59)))))))))) : (List Int))), .eq (.fz (enc ((Prod.fst x59) : (List (Int × Int))))), .eq .no, .eq .no, .pl, .pl] (by kernel_rfl) (bl_last (bl_forF (Q := (RF (ρ := (Bool)) (fun r => .eq (.fz (enc (r : Bool)))) fun r => [.aa, .aa, .aa, .aa, .aa, .aa, .aa, .aa, .aa])) (vs := [7, 8]) (xs := fun x75 => x75) (s0 := fun x75 => ((Prod.snd (Prod.fst (Prod.snd (Prod.snd (Prod.fst (Prod.snd (Prod.snd (Prod.fst (Prod.snd (Prod.snd x59)))))))))) : (List Int))) (ΓL := fun x75 (s77 : (List Int)) => [.eq (.fz (enc (a0 : (List Int)))), .eq (.fz (enc (x8 : Int))), .eq .no, .eq (ow (s77 : (List Int))), .eq (.fz (enc ((Prod.fst x59) : (List (Int × Int))))), .eq .no, .eq .no, .pl, .pl]) (kr := fun r88 => some (Fl.rt r88)) ((ip_seq (xs := fun v => v) (((pu2 Nv.op_cat ((pu_var 4 rfl)).rd (((pu2 Nv.op_rep (((pu_lst (dp_cons ((pu_tup (dp_cons (pu_c).tkP (dp_cons (pu_c).tkP dp_nil)) (fun x62 => (((Prod.fst x62), (Prod.fst (Prod.snd x62))) : (Int × Int))))).tkP dp_nil) (fun x66 => ([(Prod.fst x66)] : (List (Int × Int)))))).rdT ow_tree) ((pu1A Nv.op_intB (((pu2A Nv.op_eq (((pu_var 1 rfl)).rd).ra ((pu_c).rd).ra)).rd).ra)).rd)).rdT ow_tree))).tkTP ow_tree))).it (fun x75 => (.cons .rfl (.cons .rfl (.cons .rfl (.cons .rfl (.cons .rfl (.cons .rfl (.cons .rfl (.cons .rfl (.cons .rfl .nil)))))))))) (fun x75 s77 x76 => (tg_t (tgs_cons tg_n (tgs_cons tg_n tgs_nil)))) (fun x75 s77 x76 => (bl_ga [.eq (.fz (enc (a0 : (List Int)))), .eq (.fz (enc (x8 : Int))), .eq .no, .eq (ow (s77 : (List Int))), .eq (.fz (enc ((Prod.fst x59) : (List (Int × Int))))), .eq .no, .eq .no, .eq (.fz (enc ((Prod.fst x76) : Int))), .eq (.fz (enc ((Prod.snd x76) : Int)))] (by kernel_rfl) (bl_last (bl_if (k := fun x86 => (!(Prod.fst (Prod.fst x86)))) (te_not (k := fun x85 => (Prod.fst (Prod.fst x85))) (te_truB (k := fun x84 => (Prod.fst (Prod.fst x84))) (((ev_callG (ag_io (k := 3) rfl rfl (ag_cons (((pu_var 7 rfl)).tkP).ev fun x78 => (ag_cons (((pu_var 8 rfl)).tkP).ev fun x79 => ag_nil))) (fun x82 => V__law_right_v8 (s77 : (List Int)) ((Prod.fst x82) : Int) ((Prod.fst (Prod.snd x82)) : Int)))).er).es)) (fun x86 => (bl_ga [.eq (.fz (enc (a0 : (List Int)))), .eq (.fz (enc (x8 : Int))), .eq .no, .eq (ow ((Prod.snd (Prod.fst x86)) : (List Int))), .eq (.fz (enc ((Prod.fst x59) : (List (Int × Int))))), .eq .no, .eq .no, .eq (.fz (enc ((Prod.fst x76) : Int))), .eq (.fz (enc ((Prod.snd x76) : Int)))] (by kernel_rfl) (bl_retS (bl_retV (pu_c).ev fun x87 => (rl_rt (rf_eq rfl (.cons .aa (.cons .aa (.cons .aa (.cons .aa (.cons .aa (.cons .aa (.cons .aa (.cons .aa (.cons .aa .nil))))))))))))))) fun x86 => (bl_ga [.eq (.fz (enc (a0 : (List Int)))), .eq (.fz (enc (x8 : Int))), .eq .no, .eq (ow ((Prod.snd (Prod.fst x86)) : (List Int))), .eq (.fz (enc ((Prod.fst x59) : (List (Int × Int))))), .eq .no, .eq .no, .eq (.fz (enc ((Prod.fst x76) : Int))), .eq (.fz (enc ((Prod.snd x76) : Int)))] (by kernel_rfl) (bl_next (bl_end (rl_nx (.cons .rfl (.cons .rfl (.cons .rfl (.cons .rfl (.cons .rfl (.cons .rfl (.cons .rfl (.cons .fz (.cons .fz .nil))))))))))))))))) (fun v z u d hz h => by cases (Option.some.inj hz); exact ⟨h, u, d, rfl⟩) fun x75 s77 => (bl_end (rl_nx (.cons .rfl (.cons .fz (.cons .rfl (.cons (.any rfl) (.cons .fz (.cons .rfl (.cons .rfl (.cons .rfl (.cons .rfl .nil))))))))))))))))))) (fun v z u d hz h => by cases (Option.some.inj hz); exact h) fun x7 s9 => (bl_par (ag_cons ((((pu_lst (dp_cons (((pu_lst (dp_cons (pu_c).tkP (dp_cons (pu_c).tkP (dp_cons (pu_c).tkP dp_nil))) (fun x93 => ([(Prod.fst x93), (Prod.fst (Prod.snd x93)), (Prod.fst (Prod.snd (Prod.snd x93)))] : (List Int))))).tkTP ow_tree) (dp_cons (((pu_lst (dp_cons (pu_c).tkP (dp_cons (pu_c).tkP (dp_cons (pu_c).tkP dp_nil))) (fun x101 => ([(Prod.fst x101), (Prod.fst (Prod.snd x101)), (Prod.fst (Prod.snd (Prod.snd x101)))] : (List Int))))).tkTP ow_tree) (dp_cons (((pu_lst (dp_cons (pu_c).tkP (dp_cons (pu_c).tkP (dp_cons (pu_c).tkP dp_nil))) (fun x109 => ([(Prod.fst x109), (Prod.fst (Prod.snd x109)), (Prod.fst (Prod.snd (Prod.snd x109)))] : (List Int))))).tkTP ow_tree) dp_nil))) (fun x114 => ([(Prod.fst x114), (Prod.fst (Prod.snd x114)), (Prod.fst (Prod.snd (Prod.snd x114)))] : (List (List Int)))))).tkTP ow_tree)).ev fun x118 => (ag_cons ((((pu_lst (dp_cons (((pu_lst (dp_cons (pu_c).tkP (dp_cons (pu_c).tkP (dp_cons (pu_c).tkP dp_nil))) (fun x122 => ([(Prod.fst x122), (Prod.fst (Prod.snd x122)), (Prod.fst (Prod.snd (Prod.snd x122)))] : (List Int))))).tkTP ow_tree) (dp_cons (((pu_lst (dp_cons (pu_c).tkP (dp_cons (pu_c).tkP (dp_cons (pu_c).tkP dp_nil))) (fun x130 => ([(Prod.fst x130), (Prod.fst (Prod.snd x130)), (Prod.fst (Prod.snd (Prod.snd x130)))] : (List Int))))).tkTP ow_tree) (dp_cons (((pu_lst (dp_cons (pu_c).tkP (dp_cons (pu_c).tkP (dp_cons (pu_c).tkP dp_nil))) (fun x138 => ([(Prod.fst x138), (Prod.fst (Prod.snd x138)), (Prod.fst (Prod.snd (Prod.snd x138)))] : (List Int))))).tkTP ow_tree) dp_nil))) (fun x143 => ([(Prod.fst x143), (Prod.fst (Prod.snd x143)), (Prod.fst (Prod.snd (Prod.snd x143)))] : (List (List Int)))))).tkTP ow_tree)).ev fun x147 => ag_nil)) fun x150 => (bl_ga [.eq (.fz (enc (a0 : (List Int)))), .pl, .eq .no, .any, .pl, .eq (.fz (enc ((Prod.fst x150) : (List (List Int))))), .eq (.fz (enc ((Prod.fst (Prod.snd x150)) : (List (List Int))))), .pl, .pl] (by kernel_rfl) (bl_asgV ((((pu_lst (dp_cons (tk_callM (ap_cons pu_c (ap_cons ((pu_var 5 rfl)).tkP (ap_cons (((pu_lst (dp_cons (pu_c).tkP (dp_cons (pu_c).tkP (dp_cons (pu_c).tkP dp_nil))) (fun x156 => ([(Prod.fst x156), (Prod.fst (Prod.snd x156)), (Prod.fst (Prod.snd (Prod.snd x156)))] : (List Int))))).tkTP ow_tree) ap_nil))) (fun x164 => (V__law_told_v5 ((Prod.fst x164) : Int) ((Prod.fst (Prod.snd x164)) : (List (List Int))) ((Prod.fst (Prod.snd (Prod.snd x164))) : (List Int))).m)) (dp_cons (tk_callM (ap_cons pu_c (ap_cons ((pu_var 5 rfl)).tkP (ap_cons (((pu_lst (dp_cons (pu_c).tkP (dp_cons (pu_c).tkP (dp_cons (pu_c).tkP dp_nil))) (fun x171 => ([(Prod.fst x171), (Prod.fst (Prod.snd x171)), (Prod.fst (Prod.snd (Prod.snd x171)))] : (List Int))))).tkTP ow_tree) ap_nil))) (fun x179 => (V__law_told_v5 ((Prod.fst x179) : Int) ((Prod.fst (Prod.snd x179)) : (List (List Int))) ((Prod.fst (Prod.snd (Prod.snd x179))) : (List Int))).m)) (dp_cons (tk_callM (ap_cons pu_c (ap_cons ((pu_var 6 rfl)).tkP (ap_cons (((pu_lst (dp_cons (pu_c).tkP (dp_cons (pu_c).tkP (dp_cons (pu_c).tkP dp_nil))) (fun x186 => ([(Prod.fst x186), (Prod.fst (Prod.snd x186)), (Prod.fst (Prod.snd (Prod.snd x186)))] : (List Int))))).tkTP ow_tree) ap_nil))) (fun x194 => (V__law_told_v5 ((Prod.fst x194) : Int) ((Prod.fst (Prod.snd x194)) : (List (List Int))) ((Prod.fst (Prod.snd (Prod.snd x194))) : (List Int))).m)) dp_nil))) (fun x196 => ([(Prod.fst x196), (Prod.fst (Prod.snd x196)), (Prod.fst (Prod.snd (Prod.snd x196)))] : (List PyData))))).tkTP ow_tree)).ev fun x200 => (bl_ga [.eq (.fz (enc (a0 : (List Int)))), .pl, .eq (.fz (enc (x200 : (List PyData)))), .any, .pl, .eq (.fz (enc ((Prod.fst x150) : (List (List Int))))), .eq (.fz (enc ((Prod.fst (Prod.snd x150)) : (List (List Int))))), .pl, .pl] (by kernel_rfl) (bl_retV ((pu_andV (pu2A Nv.op_eqA (((Pu.any (pu_var 2 rfl))).rd).ra ((Rd.any (((pu_lst (dp_cons (pu_c).tkP (dp_cons (pu_c).tkP (dp_cons (((pu_lst (dp_cons (pu_c).tkP (dp_cons (pu_c).tkP (dp_cons (pu_c).tkP dp_nil))) (fun x206 => ([(Prod.fst x206), (Prod.fst (Prod.snd x206)), (Prod.fst (Prod.snd (Prod.snd x206)))] : (List Int))))).tkTP ow_tree) dp_nil))) (fun x211 => ([(enc ((Prod.fst x211) : Str)), (enc ((Prod.fst (Prod.snd x211)) : Str)), (enc ((Prod.fst (Prod.snd (Prod.snd x211))) : (List Int)))] : (List PyData))))).rdT ow_tree))).ra) (pu2A Nv.op_eqA ((rd_callM (ap_cons pu_c (ap_cons ((pu_nil).tkTP ow_tree) (ap_cons ((pu_nil).tkTP ow_tree) ap_nil))) (fun x225 => (V__law_told_v5 ((Prod.fst x225) : Int) ((Prod.fst (Prod.snd x225)) : (List (List Int))) ((Prod.fst (Prod.snd (Prod.snd x225))) : (List Int))).m))).ra (((Pu.any pu_c)).rd).ra))).ev fun x230 => (rf_eq rfl (.cons .aa (.cons .aa (.cons .aa (.cons .aa (.cons .aa (.cons .aa (.cons .aa (.cons .aa (.cons .aa .nil))))))))))))))))))
end P
namespace K24
open PySem PySem.Spec PyProof.Rows L2 Hb P
def topS (i : Nat) : Stmt := PySem.Challenge.pw_hillballots_k24_middle_ballots.main.body.getD i (.Pass ⟨0, 0, 0, 0⟩)
def d__law_well : He.DefD := ⟨("_law_well", none), "_law_well", "_law_well", defArgs (topS 30), defBody (topS 30), defScope (topS 30), [], []⟩
def d_is_integer : He.DefD := ⟨("is_integer", none), "is_integer", "is_integer", defArgs (topS 11), defBody (topS 11), defScope (topS 11), [.non], []⟩
def d_need_count : He.DefD := ⟨("need_count", none), "need_count", "need_count", defArgs (topS 14), defBody (topS 14), defScope (topS 14), [.int 12], []⟩
def d_is_each_once : He.DefD := ⟨("is_each_once", none), "is_each_once", "is_each_once", defArgs (topS 12), defBody (topS 12), defScope (topS 12), [], []⟩
def d_are_each_once : He.DefD := ⟨("are_each_once", none), "are_each_once", "are_each_once", defArgs (topS 13), defBody (topS 13), defScope (topS 13), [], []⟩
def d_need_ballots : He.DefD := ⟨("need_ballots", none), "need_ballots", "need_ballots", defArgs (topS 15), defBody (topS 15), defScope (topS 15), [], []⟩
def d_need_set : He.DefD := ⟨("need_set", none), "need_set", "need_set", defArgs (topS 17), defBody (topS 17), defScope (topS 17), [.int 12], []⟩
def d_need_voters : He.DefD := ⟨("need_voters", none), "need_voters", "need_voters", defArgs (topS 16), defBody (topS 16), defScope (topS 16), [], []⟩
def d_ranks_in : He.DefD := ⟨("ranks_in", none), "ranks_in", "ranks_in", defArgs (topS 18), defBody (topS 18), defScope (topS 18), [], []⟩
def d_pairs_turned : He.DefD := ⟨("pairs_turned", none), "pairs_turned", "pairs_turned", defArgs (topS 20), defBody (topS 20), defScope (topS 20), [], []⟩
def d_far_from : He.DefD := ⟨("far_from", none), "far_from", "far_from", defArgs (topS 24), defBody (topS 24), defScope (topS 24), [], []⟩
def d_places_in_twos : He.DefD := ⟨("places_in_twos", none), "places_in_twos", "places_in_twos", defArgs (topS 22), defBody (topS 22), defScope (topS 22), [], []⟩
def d_turns_once : He.DefD := ⟨("turns_once", none), "turns_once", "turns_once", defArgs (topS 23), defBody (topS 23), defScope (topS 23), [], []⟩
def d_least_row : He.DefD := ⟨("least_row", none), "least_row", "least_row", defArgs (topS 25), defBody (topS 25), defScope (topS 25), [], []⟩
def d_need_odd : He.DefD := ⟨("need_odd", none), "need_odd", "need_odd", defArgs (topS 27), defBody (topS 27), defScope (topS 27), [], []⟩
def d_middle_index : He.DefD := ⟨("middle_index", none), "middle_index", "middle_index", defArgs (topS 26), defBody (topS 26), defScope (topS 26), [], []⟩
def d_middle_ballot : He.DefD := ⟨("middle_ballot", none), "middle_ballot", "middle_ballot", defArgs (topS 28), defBody (topS 28), defScope (topS 28), [], []⟩
def d__law_told : He.DefD := ⟨("_law_told", none), "_law_told", "_law_told", defArgs (topS 37), defBody (topS 37), defScope (topS 37), [], []⟩
def d__law_pick : He.DefD := ⟨("_law_pick", none), "_law_pick", "_law_pick", defArgs (topS 31), defBody (topS 31), defScope (topS 31), [], []⟩
def d__law_vote : He.DefD := ⟨("_law_vote", none), "_law_vote", "_law_vote", defArgs (topS 33), defBody (topS 33), defScope (topS 33), [], []⟩
def d__law_turning : He.DefD := ⟨("_law_turning", none), "_law_turning", "_law_turning", defArgs (topS 34), defBody (topS 34), defScope (topS 34), [], []⟩
def d__law_crowd : He.DefD := ⟨("_law_crowd", none), "_law_crowd", "_law_crowd", defArgs (topS 38), defBody (topS 38), defScope (topS 38), [], []⟩
def d__law_pairs : He.DefD := ⟨("_law_pairs", none), "_law_pairs", "_law_pairs", defArgs (topS 36), defBody (topS 36), defScope (topS 36), [], []⟩
def d__law_above : He.DefD := ⟨("_law_above", none), "_law_above", "_law_above", defArgs (topS 35), defBody (topS 35), defScope (topS 35), [], []⟩
def d__law_right : He.DefD := ⟨("_law_right", none), "_law_right", "_law_right", defArgs (topS 39), defBody (topS 39), defScope (topS 39), [], []⟩
def d_law : He.DefD := ⟨("law", none), "law", "law", defArgs (topS 40), defBody (topS 40), defScope (topS 40), [], []⟩
def fn : List He.DefD := [d__law_well, d_is_integer, d_need_count, d_is_each_once, d_are_each_once, d_need_ballots, d_need_set, d_need_voters, d_ranks_in, d_pairs_turned, d_far_from, d_places_in_twos, d_turns_once, d_least_row, d_need_odd, d_middle_index, d_middle_ballot, d__law_told, d__law_pick, d__law_vote, d__law_turning, d__law_crowd, d__law_pairs, d__law_above, d__law_right, d_law]
def fa : List He.Fa := [.glo "_law_well", .glo "is_integer", .glo "need_count", .glo "is_each_once", .glo "are_each_once", .glo "need_ballots", .glo "need_set", .glo "need_voters", .glo "ranks_in", .glo "pairs_turned", .glo "far_from", .glo "places_in_twos", .glo "turns_once", .glo "least_row", .glo "need_odd", .glo "middle_index", .glo "middle_ballot", .glo "_law_told", .glo "_law_pick", .glo "_law_vote", .glo "_law_turning", .glo "_law_crowd", .glo "_law_pairs", .glo "_law_above", .glo "_law_right", .glo "law", .int "MOST_BALLOTS" 40, .int "MOST_VOTERS" 1000000000000000000000000000000, .free "abs", .free "all", .free "bool", .free "enumerate", .free "int", .free "isinstance", .free "len", .free "list", .free "max", .free "min", .free "range", .free "repr", .free "sorted", .free "sum", .glo "EvenVoters", .glo "InvalidBallots", .glo "InvalidCount", .glo "InvalidVoters", .glo "NoRow", .exc "EvenVoters", .exc "InvalidBallots", .exc "InvalidCount", .exc "InvalidVoters", .exc "NoRow", .exm "EvenVoters" "EvenVoters" true, .exm "EvenVoters" "NoRow" false, .exm "InvalidBallots" "EvenVoters" false, .exm "InvalidBallots" "NoRow" false, .exm "InvalidCount" "EvenVoters" false, .exm "InvalidCount" "NoRow" false, .exm "InvalidVoters" "EvenVoters" false, .exm "InvalidVoters" "NoRow" false, .exm "NoRow" "EvenVoters" false, .exm "NoRow" "NoRow" true]
structure Ctx (K : PySem.W.Frag) (mg : Str → Option Value) : Prop where
  c : He.SaysD fa fn K
  ex : ∃ h : Heap, K.In h ∧ h.Ns mainGlobals mg
variable {Pg : Program} {w : World} {K : PySem.W.Frag} {mg : Str → Option Value} {base : Heap}
theorem m_MOST_BALLOTS (Y : Ctx K mg) : ∃ t, mg "MOST_BALLOTS" = some (.int 40 t) := let ⟨_, X, G⟩ := Y.ex; He.int_ok X G (Y.c.fact 26)
theorem m_MOST_VOTERS (Y : Ctx K mg) : ∃ t, mg "MOST_VOTERS" = some (.int 1000000000000000000000000000000 t) := let ⟨_, X, G⟩ := Y.ex; He.int_ok X G (Y.c.fact 27)
theorem m_abs (Y : Ctx K mg) : mg "abs" = none := let ⟨_, X, G⟩ := Y.ex; He.free_ok X G (Y.c.fact 28)
theorem m_all (Y : Ctx K mg) : mg "all" = none := let ⟨_, X, G⟩ := Y.ex; He.free_ok X G (Y.c.fact 29)
theorem m_bool (Y : Ctx K mg) : mg "bool" = none := let ⟨_, X, G⟩ := Y.ex; He.free_ok X G (Y.c.fact 30)
theorem m_enumerate (Y : Ctx K mg) : mg "enumerate" = none := let ⟨_, X, G⟩ := Y.ex; He.free_ok X G (Y.c.fact 31)
theorem m_int (Y : Ctx K mg) : mg "int" = none := let ⟨_, X, G⟩ := Y.ex; He.free_ok X G (Y.c.fact 32)
theorem m_isinstance (Y : Ctx K mg) : mg "isinstance" = none := let ⟨_, X, G⟩ := Y.ex; He.free_ok X G (Y.c.fact 33)
theorem m_len (Y : Ctx K mg) : mg "len" = none := let ⟨_, X, G⟩ := Y.ex; He.free_ok X G (Y.c.fact 34)
theorem m_list (Y : Ctx K mg) : mg "list" = none := let ⟨_, X, G⟩ := Y.ex; He.free_ok X G (Y.c.fact 35)
theorem m_max (Y : Ctx K mg) : mg "max" = none := let ⟨_, X, G⟩ := Y.ex; He.free_ok X G (Y.c.fact 36)
theorem m_min (Y : Ctx K mg) : mg "min" = none := let ⟨_, X, G⟩ := Y.ex; He.free_ok X G (Y.c.fact 37)
theorem m_range (Y : Ctx K mg) : mg "range" = none := let ⟨_, X, G⟩ := Y.ex; He.free_ok X G (Y.c.fact 38)
theorem m_repr (Y : Ctx K mg) : mg "repr" = none := let ⟨_, X, G⟩ := Y.ex; He.free_ok X G (Y.c.fact 39)
theorem m_sorted (Y : Ctx K mg) : mg "sorted" = none := let ⟨_, X, G⟩ := Y.ex; He.free_ok X G (Y.c.fact 40)
theorem m_sum (Y : Ctx K mg) : mg "sum" = none := let ⟨_, X, G⟩ := Y.ex; He.free_ok X G (Y.c.fact 41)
theorem g_EvenVoters (Y : Ctx K mg) : mg "EvenVoters" = some (.ref (He.ga K "EvenVoters")) := let ⟨_, X, G⟩ := Y.ex; He.glo_ok X G (Y.c.fact 42)
theorem g_InvalidBallots (Y : Ctx K mg) : mg "InvalidBallots" = some (.ref (He.ga K "InvalidBallots")) := let ⟨_, X, G⟩ := Y.ex; He.glo_ok X G (Y.c.fact 43)
theorem g_InvalidCount (Y : Ctx K mg) : mg "InvalidCount" = some (.ref (He.ga K "InvalidCount")) := let ⟨_, X, G⟩ := Y.ex; He.glo_ok X G (Y.c.fact 44)
theorem g_InvalidVoters (Y : Ctx K mg) : mg "InvalidVoters" = some (.ref (He.ga K "InvalidVoters")) := let ⟨_, X, G⟩ := Y.ex; He.glo_ok X G (Y.c.fact 45)
theorem g_NoRow (Y : Ctx K mg) : mg "NoRow" = some (.ref (He.ga K "NoRow")) := let ⟨_, X, G⟩ := Y.ex; He.glo_ok X G (Y.c.fact 46)
theorem e_EvenVoters (Y : Ctx K mg) : ExcC K mg "EvenVoters" (He.ga K "EvenVoters") := let ⟨_, X, G⟩ := Y.ex; excC_of X G (g_EvenVoters Y) (Y.c.fact 47)
theorem e_InvalidBallots (Y : Ctx K mg) : ExcC K mg "InvalidBallots" (He.ga K "InvalidBallots") := let ⟨_, X, G⟩ := Y.ex; excC_of X G (g_InvalidBallots Y) (Y.c.fact 48)
theorem e_InvalidCount (Y : Ctx K mg) : ExcC K mg "InvalidCount" (He.ga K "InvalidCount") := let ⟨_, X, G⟩ := Y.ex; excC_of X G (g_InvalidCount Y) (Y.c.fact 49)
theorem e_InvalidVoters (Y : Ctx K mg) : ExcC K mg "InvalidVoters" (He.ga K "InvalidVoters") := let ⟨_, X, G⟩ := Y.ex; excC_of X G (g_InvalidVoters Y) (Y.c.fact 50)
theorem e_NoRow (Y : Ctx K mg) : ExcC K mg "NoRow" (He.ga K "NoRow") := let ⟨_, X, G⟩ := Y.ex; excC_of X G (g_NoRow Y) (Y.c.fact 51)
theorem mt_0 (Y : Ctx K mg) : MtOk K mg [("EvenVoters", "EvenVoters", true), ("EvenVoters", "NoRow", false), ("InvalidBallots", "EvenVoters", false), ("InvalidBallots", "NoRow", false), ("InvalidCount", "EvenVoters", false), ("InvalidCount", "NoRow", false), ("InvalidVoters", "EvenVoters", false), ("InvalidVoters", "NoRow", false), ("NoRow", "EvenVoters", false), ("NoRow", "NoRow", true)] := mtOk_of (List.forall_mem_cons.mpr ⟨⟨g_EvenVoters Y, g_EvenVoters Y, He.exm_ok (Y.c.fact 52)⟩, (List.forall_mem_cons.mpr ⟨⟨g_EvenVoters Y, g_NoRow Y, He.exm_ok (Y.c.fact 53)⟩, (List.forall_mem_cons.mpr ⟨⟨g_InvalidBallots Y, g_EvenVoters Y, He.exm_ok (Y.c.fact 54)⟩, (List.forall_mem_cons.mpr ⟨⟨g_InvalidBallots Y, g_NoRow Y, He.exm_ok (Y.c.fact 55)⟩, (List.forall_mem_cons.mpr ⟨⟨g_InvalidCount Y, g_EvenVoters Y, He.exm_ok (Y.c.fact 56)⟩, (List.forall_mem_cons.mpr ⟨⟨g_InvalidCount Y, g_NoRow Y, He.exm_ok (Y.c.fact 57)⟩, (List.forall_mem_cons.mpr ⟨⟨g_InvalidVoters Y, g_EvenVoters Y, He.exm_ok (Y.c.fact 58)⟩, (List.forall_mem_cons.mpr ⟨⟨g_InvalidVoters Y, g_NoRow Y, He.exm_ok (Y.c.fact 59)⟩, (List.forall_mem_cons.mpr ⟨⟨g_NoRow Y, g_EvenVoters Y, He.exm_ok (Y.c.fact 60)⟩, (List.forall_mem_cons.mpr ⟨⟨g_NoRow Y, g_NoRow Y, He.exm_ok (Y.c.fact 61)⟩, (fun _ h => nomatch h)⟩)⟩)⟩)⟩)⟩)⟩)⟩)⟩)⟩)⟩)
def N__law_well : List Str := ["_law_script", "_law_k", "_law_cell"]
theorem W__law_well (Y : Ctx K mg) {f : Addr} (cdv : Value) (A : Around) (outer : List Env) (s : Shared) (H : Hp) (E : XK) (hr : Room 0 (A.deeper (envOfC "_law_well" (defScope (topS 30)) s.heap.objs.size f cdv))) (hgd : A.guards = some []) :
    SSs (GX Pg w K mg base N__law_well "_law_well" (defScope (topS 30)) f cdv A outer s H E) (GW E) [] (defBody (topS 30)) B__law_well := by
  have h64 : (A.deeper (envOfC "_law_well" (defScope (topS 30)) s.heap.objs.size f cdv)).units + 64 < cLine := hr.units
  have h65 : (A.deeper (envOfC "_law_well" (defScope (topS 30)) s.heap.objs.size f cdv)).units + 65 < cLine := by have := hr.un; omega
  have h1 := unl1 h64
  have h0 := unl0 h64
  have nd : N__law_well.Nodup := by decide
  exact (ss_cons (ss_set 2 nd rfl (by first | exact Or.inl rfl | exact Or.inr rfl) (by decide) (se_tk (se_if (st_lt (se_var 1) (se_b1 call_lenU c1_len rfl (m_len Y) (by decide +kernel) (se_var 0))) (se_ix2 h64 (se_var 0) (se_var 1)) se_int)))
    (ss_one (ss_ret (se_lst (sa_cons (se_b2 (call_max2 rfl) c2_i rfl (m_max Y) (by decide +kernel) se_int (se_sub (se_var 2) (se_powW se_int se_int))) (sa_cons (se_add (se_add (se_mod (se_t1 call_int1 c1_int rfl (m_int Y) (by decide +kernel) (se_b1 call_abs c1_abs rfl (m_abs Y) (by decide +kernel) (se_var 2))) (se_add (se_powW se_int se_int) se_int)) (se_mul se_int (se_var 1))) se_int) (sa_cons se_int sa_nil)))))))
theorem S__law_well : FnScope N__law_well ["_law_script", "_law_k"] (defScope (topS 30)) := ⟨rfl, rfl, rfl, by decide, rfl, by decide +kernel, by decide +kernel⟩
theorem D__law_well_2 (Y : Ctx K mg) : Dfn Pg w K mg base 1 "_law_well" 2 F__law_well 2 [] := by
  obtain ⟨_, X, G⟩ := Y.ex
  obtain ⟨fd, FD⟩ := Y.c.def_ 0 (d := d__law_well)
  have hb : Binds K fd ["_law_script", "_law_k"] [] := FD.bindsN fun _ _ _ _ _ _ us h => by
    match us, h with
    | [a0, a1], _ => rfl
  exact ⟨⟨_, fd, ["_law_script", "_law_k"], [], He.glo_ok X G (Y.c.fact 0), FD.kp, fnG_D FD S__law_well rfl fun cdv A outer s H E hr hgd => W__law_well Y cdv A outer s H E hr hgd, hb, .nil, rfl, rfl⟩⟩
def N_is_integer : List Str := ["value", "low", "high"]
theorem W_is_integer (Y : Ctx K mg) {f : Addr} (cdv : Value) (A : Around) (outer : List Env) (s : Shared) (H : Hp) (E : XK) (hr : Room 0 (A.deeper (envOfC "is_integer" (defScope (topS 11)) s.heap.objs.size f cdv))) (hgd : A.guards = some []) :
    SSs (GX Pg w K mg base N_is_integer "is_integer" (defScope (topS 11)) f cdv A outer s H E) (GW E) [] (defBody (topS 11)) B_is_integer := by
  have h64 : (A.deeper (envOfC "is_integer" (defScope (topS 11)) s.heap.objs.size f cdv)).units + 64 < cLine := hr.units
  have h65 : (A.deeper (envOfC "is_integer" (defScope (topS 11)) s.heap.objs.size f cdv)).units + 65 < cLine := by have := hr.un; omega
  have h1 := unl1 h64
  have h0 := unl0 h64
  have nd : N_is_integer.Nodup := by decide
  exact (ss_cons (ss_if (st_w (sw_or (st_not (st_tru (se_isi (T := "int") (by decide +kernel) rfl (m_isinstance Y) rfl (m_int Y) (by decide +kernel) (se_var 0)))) (sw_or1 (st_tru (se_isi (T := "bool") (by decide +kernel) rfl (m_isinstance Y) rfl (m_bool Y) (by decide +kernel) (se_var 0)))))) (ss_one (ss_ret se_bl)) ss_nil)
    (ss_one (ss_ret (se_and (se_le (se_var 1) (se_var 0)) (se_oneA (se_or (se_is (se_var 2) se_non) (se_oneO (se_le (se_var 0) (se_var 2)))))))))
theorem S_is_integer : FnScope N_is_integer ["value", "low", "high"] (defScope (topS 11)) := ⟨rfl, rfl, rfl, by decide, rfl, by decide +kernel, by decide +kernel⟩
theorem D_is_integer_2 (Y : Ctx K mg) : Dfn Pg w K mg base 1 "is_integer" 3 F_is_integer 2 [.none] := by
  obtain ⟨_, X, G⟩ := Y.ex
  obtain ⟨fd, FD⟩ := Y.c.def_ 1 (d := d_is_integer)
  have hb := FD.binds1 (ps := ["value", "low", "high"]) 2 0 (fun z => nomatch z) rfl fun T kV doc pm an cdv ct us its h1 h2 => by
    match us, h1, its, h2 with
    | [a0, a1], _, [b0], _ => exact ⟨_, rfl, rfl⟩
  obtain ⟨ds, r, hb⟩ := hb
  exact ⟨⟨_, fd, ["value", "low", "high"], ds, He.glo_ok X G (Y.c.fact 1), FD.kp, fnG_D FD S_is_integer rfl fun cdv A outer s H E hr hgd => W_is_integer Y cdv A outer s H E hr hgd, hb, r, rfl, rfl⟩⟩
theorem D_is_integer_3 (Y : Ctx K mg) : Dfn Pg w K mg base 1 "is_integer" 3 F_is_integer 3 [] := by
  obtain ⟨_, X, G⟩ := Y.ex
  obtain ⟨fd, FD⟩ := Y.c.def_ 1 (d := d_is_integer)
  have hb := FD.binds1 (ps := ["value", "low", "high"]) 3 1 (fun z => nomatch z) rfl fun T kV doc pm an cdv ct us its h1 h2 => by
    match us, h1, its, h2 with
    | [a0, a1, a2], _, [b0], _ => exact ⟨_, rfl, rfl⟩
  obtain ⟨ds, r, hb⟩ := hb
  exact ⟨⟨_, fd, ["value", "low", "high"], ds, He.glo_ok X G (Y.c.fact 1), FD.kp, fnG_D FD S_is_integer rfl fun cdv A outer s H E hr hgd => W_is_integer Y cdv A outer s H E hr hgd, hb, r, rfl, rfl⟩⟩
def N_need_count : List Str := ["count", "most"]
theorem W_need_count (Y : Ctx K mg) {f : Addr} (cdv : Value) (A : Around) (outer : List Env) (s : Shared) (H : Hp) (E : XK) (hr : Room 1 (A.deeper (envOfC "need_count" (defScope (topS 14)) s.heap.objs.size f cdv))) (hgd : A.guards = some []) :
    SSs (GX Pg w K mg base N_need_count "need_count" (defScope (topS 14)) f cdv A outer s H E) (GW E) [] (defBody (topS 14)) B_need_count := by
  have h64 : (A.deeper (envOfC "need_count" (defScope (topS 14)) s.heap.objs.size f cdv)).units + 64 < cLine := hr.units
  have h65 : (A.deeper (envOfC "need_count" (defScope (topS 14)) s.heap.objs.size f cdv)).units + 65 < cLine := by have := hr.un; omega
  have h1 := unl1 h64
  have h0 := unl0 h64
  have nd : N_need_count.Nodup := by decide
  exact (ss_one (ss_if (st_not (st_tru (se_callD ((D_is_integer_3 Y).mono (by decide)) hr hgd gx_pass rfl (sr_cons (se_tk (se_var 0)) (sr_cons se_int (sr_cons (se_tk (se_var 1)) sr_nil))) (len_rCons (len_rCons (len_rCons len_rNil)))))) (ss_one (ss_raise rfl gx_takes (e_InvalidCount Y) rfl)) ss_nil))
theorem S_need_count : FnScope N_need_count ["count", "most"] (defScope (topS 14)) := ⟨rfl, rfl, rfl, by decide, rfl, by decide +kernel, by decide +kernel⟩
theorem D_need_count_2 (Y : Ctx K mg) : Dfn Pg w K mg base 2 "need_count" 2 F_need_count 2 [] := by
  obtain ⟨_, X, G⟩ := Y.ex
  obtain ⟨fd, FD⟩ := Y.c.def_ 2 (d := d_need_count)
  have hb := FD.binds1 (ps := ["count", "most"]) 2 1 (fun z => nomatch z) rfl fun T kV doc pm an cdv ct us its h1 h2 => by
    match us, h1, its, h2 with
    | [a0, a1], _, [b0], _ => exact ⟨_, rfl, rfl⟩
  obtain ⟨ds, r, hb⟩ := hb
  exact ⟨⟨_, fd, ["count", "most"], ds, He.glo_ok X G (Y.c.fact 2), FD.kp, fnG_D FD S_need_count rfl fun cdv A outer s H E hr hgd => W_need_count Y cdv A outer s H E hr hgd, hb, r, rfl, rfl⟩⟩
def N_is_each_once : List Str := ["count", "value", "item"]
theorem W_is_each_once (Y : Ctx K mg) {f : Addr} (cdv : Value) (A : Around) (outer : List Env) (s : Shared) (H : Hp) (E : XK) (hr : Room 1 (A.deeper (envOfC "is_each_once" (defScope (topS 12)) s.heap.objs.size f cdv))) (hgd : A.guards = some []) :
    SSs (GX Pg w K mg base N_is_each_once "is_each_once" (defScope (topS 12)) f cdv A outer s H E) (GW E) [] (defBody (topS 12)) B_is_each_once := by
  have h64 : (A.deeper (envOfC "is_each_once" (defScope (topS 12)) s.heap.objs.size f cdv)).units + 64 < cLine := hr.units
  have h65 : (A.deeper (envOfC "is_each_once" (defScope (topS 12)) s.heap.objs.size f cdv)).units + 65 < cLine := by have := hr.un; omega
  have h1 := unl1 h64
  have h0 := unl0 h64
  have nd : N_is_each_once.Nodup := by decide
  exact (ss_cons (ss_if (st_w (sw_or (st_not (st_tru (se_isi (T := "list") (by decide +kernel) rfl (m_isinstance Y) rfl (m_list Y) (by decide +kernel) (se_var 1)))) (sw_or (st_ne h64 (se_b1 call_lenU c1_len rfl (m_len Y) (by decide +kernel) (se_var 1)) (se_var 0)) (sw_or1 (st_not (st_tru (se_b1 (cr_all rfl) c1_all rfl (m_all Y) (by decide +kernel) (se_lc false rfl nd (si_seq (se_var 1)) (own := [("item", 2)]) (by kernel_rfl) (by decide) (by decide) (fun _ _ _ _ _ => (sg_name 2 nd rfl (by first | exact Or.inl rfl | exact Or.inr rfl) (by decide))) (fun _ _ _ _ _ => sts_nil) (fun _ _ _ _ _ => (se_tk (se_callD ((D_is_integer_2 Y).mono (by decide)) hr hgd w0_pass rfl (sr_cons (se_tk (se_var 2)) (sr_cons se_int sr_nil)) (len_rCons (len_rCons len_rNil))))))))))))) (ss_one (ss_ret se_bl)) ss_nil)
    (ss_one (ss_ret (se_eq h64 (se_b1 (cr_sortedD h64) c1_sortD rfl (m_sorted Y) (by decide +kernel) (se_var 1)) (se_lrg1 rfl rfl (m_list Y) rfl (m_range Y) (se_var 0))))))
theorem S_is_each_once : FnScope N_is_each_once ["count", "value"] (defScope (topS 12)) := ⟨rfl, rfl, rfl, by decide, rfl, by decide +kernel, by decide +kernel⟩
theorem D_is_each_once_2 (Y : Ctx K mg) : Dfn Pg w K mg base 2 "is_each_once" 2 F_is_each_once 2 [] := by
  obtain ⟨_, X, G⟩ := Y.ex
  obtain ⟨fd, FD⟩ := Y.c.def_ 3 (d := d_is_each_once)
  have hb : Binds K fd ["count", "value"] [] := FD.bindsN fun _ _ _ _ _ _ us h => by
    match us, h with
    | [a0, a1], _ => rfl
  exact ⟨⟨_, fd, ["count", "value"], [], He.glo_ok X G (Y.c.fact 3), FD.kp, fnG_D FD S_is_each_once rfl fun cdv A outer s H E hr hgd => W_is_each_once Y cdv A outer s H E hr hgd, hb, .nil, rfl, rfl⟩⟩
def N_are_each_once : List Str := ["count", "value", "one"]
theorem W_are_each_once (Y : Ctx K mg) {f : Addr} (cdv : Value) (A : Around) (outer : List Env) (s : Shared) (H : Hp) (E : XK) (hr : Room 2 (A.deeper (envOfC "are_each_once" (defScope (topS 13)) s.heap.objs.size f cdv))) (hgd : A.guards = some []) :
    SSs (GX Pg w K mg base N_are_each_once "are_each_once" (defScope (topS 13)) f cdv A outer s H E) (GW E) [] (defBody (topS 13)) B_are_each_once := by
  have h64 : (A.deeper (envOfC "are_each_once" (defScope (topS 13)) s.heap.objs.size f cdv)).units + 64 < cLine := hr.units
  have h65 : (A.deeper (envOfC "are_each_once" (defScope (topS 13)) s.heap.objs.size f cdv)).units + 65 < cLine := by have := hr.un; omega
  have h1 := unl1 h64
  have h0 := unl0 h64
  have nd : N_are_each_once.Nodup := by decide
  exact (ss_one (ss_ret (se_and (se_isi (T := "list") (by decide +kernel) rfl (m_isinstance Y) rfl (m_list Y) (by decide +kernel) (se_var 1)) (se_and (se_le (se_b1 call_lenU c1_len rfl (m_len Y) (by decide +kernel) (se_var 1)) (se_globI rfl (m_MOST_BALLOTS Y))) (se_oneA (se_b1 (cr_all rfl) c1_all rfl (m_all Y) (by decide +kernel) (se_lc false rfl nd (si_seq (se_var 1)) (own := [("one", 2)]) (by kernel_rfl) (by decide) (by decide) (fun _ _ _ _ _ => (sg_name 2 nd rfl (by first | exact Or.inl rfl | exact Or.inr rfl) (by decide))) (fun _ _ _ _ _ => sts_nil) (fun _ _ _ _ _ => (se_tk (se_callD ((D_is_each_once_2 Y).mono (by decide)) hr hgd w0_pass rfl (sr_cons (se_tk (se_var 0)) (sr_cons (se_tk (se_var 2)) sr_nil)) (len_rCons (len_rCons len_rNil))))))))))))
theorem S_are_each_once : FnScope N_are_each_once ["count", "value"] (defScope (topS 13)) := ⟨rfl, rfl, rfl, by decide, rfl, by decide +kernel, by decide +kernel⟩
theorem D_are_each_once_2 (Y : Ctx K mg) : Dfn Pg w K mg base 3 "are_each_once" 2 F_are_each_once 2 [] := by
  obtain ⟨_, X, G⟩ := Y.ex
  obtain ⟨fd, FD⟩ := Y.c.def_ 4 (d := d_are_each_once)
  have hb : Binds K fd ["count", "value"] [] := FD.bindsN fun _ _ _ _ _ _ us h => by
    match us, h with
    | [a0, a1], _ => rfl
  exact ⟨⟨_, fd, ["count", "value"], [], He.glo_ok X G (Y.c.fact 4), FD.kp, fnG_D FD S_are_each_once rfl fun cdv A outer s H E hr hgd => W_are_each_once Y cdv A outer s H E hr hgd, hb, .nil, rfl, rfl⟩⟩
def N_need_ballots : List Str := ["count", "ballots"]
theorem W_need_ballots (Y : Ctx K mg) {f : Addr} (cdv : Value) (A : Around) (outer : List Env) (s : Shared) (H : Hp) (E : XK) (hr : Room 3 (A.deeper (envOfC "need_ballots" (defScope (topS 15)) s.heap.objs.size f cdv))) (hgd : A.guards = some []) :
    SSs (GX Pg w K mg base N_need_ballots "need_ballots" (defScope (topS 15)) f cdv A outer s H E) (GW E) [] (defBody (topS 15)) B_need_ballots := by
  have h64 : (A.deeper (envOfC "need_ballots" (defScope (topS 15)) s.heap.objs.size f cdv)).units + 64 < cLine := hr.units
  have h65 : (A.deeper (envOfC "need_ballots" (defScope (topS 15)) s.heap.objs.size f cdv)).units + 65 < cLine := by have := hr.un; omega
  have h1 := unl1 h64
  have h0 := unl0 h64
  have nd : N_need_ballots.Nodup := by decide
  exact (ss_one (ss_if (st_not (st_tru (se_callD ((D_are_each_once_2 Y).mono (by decide)) hr hgd gx_pass rfl (sr_cons (se_tk (se_var 0)) (sr_cons (se_tk (se_var 1)) sr_nil)) (len_rCons (len_rCons len_rNil))))) (ss_one (ss_raise rfl gx_takes (e_InvalidBallots Y) rfl)) ss_nil))
theorem S_need_ballots : FnScope N_need_ballots ["count", "ballots"] (defScope (topS 15)) := ⟨rfl, rfl, rfl, by decide, rfl, by decide +kernel, by decide +kernel⟩
theorem D_need_ballots_2 (Y : Ctx K mg) : Dfn Pg w K mg base 4 "need_ballots" 2 F_need_ballots 2 [] := by
  obtain ⟨_, X, G⟩ := Y.ex
  obtain ⟨fd, FD⟩ := Y.c.def_ 5 (d := d_need_ballots)
  have hb : Binds K fd ["count", "ballots"] [] := FD.bindsN fun _ _ _ _ _ _ us h => by
    match us, h with
    | [a0, a1], _ => rfl
  exact ⟨⟨_, fd, ["count", "ballots"], [], He.glo_ok X G (Y.c.fact 5), FD.kp, fnG_D FD S_need_ballots rfl fun cdv A outer s H E hr hgd => W_need_ballots Y cdv A outer s H E hr hgd, hb, .nil, rfl, rfl⟩⟩
def N_need_set : List Str := ["count", "ballots", "most"]
theorem W_need_set (Y : Ctx K mg) {f : Addr} (cdv : Value) (A : Around) (outer : List Env) (s : Shared) (H : Hp) (E : XK) (hr : Room 4 (A.deeper (envOfC "need_set" (defScope (topS 17)) s.heap.objs.size f cdv))) (hgd : A.guards = some []) :
    SSs (GX Pg w K mg base N_need_set "need_set" (defScope (topS 17)) f cdv A outer s H E) (GW E) [] (defBody (topS 17)) B_need_set := by
  have h64 : (A.deeper (envOfC "need_set" (defScope (topS 17)) s.heap.objs.size f cdv)).units + 64 < cLine := hr.units
  have h65 : (A.deeper (envOfC "need_set" (defScope (topS 17)) s.heap.objs.size f cdv)).units + 65 < cLine := by have := hr.un; omega
  have h1 := unl1 h64
  have h0 := unl0 h64
  have nd : N_need_set.Nodup := by decide
  exact (ss_cons (ss_expr (se_callD ((D_need_count_2 Y).mono (by decide)) hr hgd gx_pass rfl (sr_cons (se_tk (se_var 0)) (sr_cons (se_tk (se_var 2)) sr_nil)) (len_rCons (len_rCons len_rNil))))
    (ss_one (ss_expr (se_callD ((D_need_ballots_2 Y).mono (by decide)) hr hgd gx_pass rfl (sr_cons (se_tk (se_var 0)) (sr_cons (se_tk (se_var 1)) sr_nil)) (len_rCons (len_rCons len_rNil))))))
theorem S_need_set : FnScope N_need_set ["count", "ballots", "most"] (defScope (topS 17)) := ⟨rfl, rfl, rfl, by decide, rfl, by decide +kernel, by decide +kernel⟩
theorem D_need_set_2 (Y : Ctx K mg) : Dfn Pg w K mg base 5 "need_set" 3 F_need_set 2 [.int 12] := by
  obtain ⟨_, X, G⟩ := Y.ex
  obtain ⟨fd, FD⟩ := Y.c.def_ 6 (d := d_need_set)
  have hb := FD.binds1 (ps := ["count", "ballots", "most"]) 2 0 (fun z => nomatch z) rfl fun T kV doc pm an cdv ct us its h1 h2 => by
    match us, h1, its, h2 with
    | [a0, a1], _, [b0], _ => exact ⟨_, rfl, rfl⟩
  obtain ⟨ds, r, hb⟩ := hb
  exact ⟨⟨_, fd, ["count", "ballots", "most"], ds, He.glo_ok X G (Y.c.fact 6), FD.kp, fnG_D FD S_need_set rfl fun cdv A outer s H E hr hgd => W_need_set Y cdv A outer s H E hr hgd, hb, r, rfl, rfl⟩⟩
def N_need_voters : List Str := ["ballots", "voters", "many"]
theorem W_need_voters (Y : Ctx K mg) {f : Addr} (cdv : Value) (A : Around) (outer : List Env) (s : Shared) (H : Hp) (E : XK) (hr : Room 1 (A.deeper (envOfC "need_voters" (defScope (topS 16)) s.heap.objs.size f cdv))) (hgd : A.guards = some []) :
    SSs (GX Pg w K mg base N_need_voters "need_voters" (defScope (topS 16)) f cdv A outer s H E) (GW E) [] (defBody (topS 16)) B_need_voters := by
  have h64 : (A.deeper (envOfC "need_voters" (defScope (topS 16)) s.heap.objs.size f cdv)).units + 64 < cLine := hr.units
  have h65 : (A.deeper (envOfC "need_voters" (defScope (topS 16)) s.heap.objs.size f cdv)).units + 65 < cLine := by have := hr.un; omega
  have h1 := unl1 h64
  have h0 := unl0 h64
  have nd : N_need_voters.Nodup := by decide
  exact (ss_cons (ss_if (st_w (sw_or (st_not (st_tru (se_isi (T := "list") (by decide +kernel) rfl (m_isinstance Y) rfl (m_list Y) (by decide +kernel) (se_var 1)))) (sw_or1 (st_ne h64 (se_b1 call_lenU c1_len rfl (m_len Y) (by decide +kernel) (se_var 1)) (se_b1 call_lenU c1_len rfl (m_len Y) (by decide +kernel) (se_var 0)))))) (ss_one (ss_raise rfl gx_takes (e_InvalidVoters Y) rfl)) ss_nil)
    (ss_one (ss_if (st_not (st_tru (se_b1 (cr_all rfl) c1_all rfl (m_all Y) (by decide +kernel) (se_lc false rfl nd (si_seq (se_var 1)) (own := [("many", 2)]) (by kernel_rfl) (by decide) (by decide) (fun _ _ _ _ _ => (sg_name 2 nd rfl (by first | exact Or.inl rfl | exact Or.inr rfl) (by decide))) (fun _ _ _ _ _ => sts_nil) (fun _ _ _ _ _ => (se_tk (se_callD ((D_is_integer_3 Y).mono (by decide)) hr hgd w0_pass rfl (sr_cons (se_tk (se_var 2)) (sr_cons se_int (sr_cons (se_tk (se_globI rfl (m_MOST_VOTERS Y))) sr_nil))) (len_rCons (len_rCons (len_rCons len_rNil)))))))))) (ss_one (ss_raise rfl gx_takes (e_InvalidVoters Y) rfl)) ss_nil)))
theorem S_need_voters : FnScope N_need_voters ["ballots", "voters"] (defScope (topS 16)) := ⟨rfl, rfl, rfl, by decide, rfl, by decide +kernel, by decide +kernel⟩
theorem D_need_voters_2 (Y : Ctx K mg) : Dfn Pg w K mg base 2 "need_voters" 2 F_need_voters 2 [] := by
  obtain ⟨_, X, G⟩ := Y.ex
  obtain ⟨fd, FD⟩ := Y.c.def_ 7 (d := d_need_voters)
  have hb : Binds K fd ["ballots", "voters"] [] := FD.bindsN fun _ _ _ _ _ _ us h => by
    match us, h with
    | [a0, a1], _ => rfl
  exact ⟨⟨_, fd, ["ballots", "voters"], [], He.glo_ok X G (Y.c.fact 7), FD.kp, fnG_D FD S_need_voters rfl fun cdv A outer s H E hr hgd => W_need_voters Y cdv A outer s H E hr hgd, hb, .nil, rfl, rfl⟩⟩
def N_ranks_in : List Str := ["ballot", "found", "index", "place"]
theorem W_ranks_in (Y : Ctx K mg) {f : Addr} (cdv : Value) (A : Around) (outer : List Env) (s : Shared) (H : Hp) (E : XK) (hr : Room 0 (A.deeper (envOfC "ranks_in" (defScope (topS 18)) s.heap.objs.size f cdv))) (hgd : A.guards = some []) :
    SSs (GX Pg w K mg base N_ranks_in "ranks_in" (defScope (topS 18)) f cdv A outer s H E) (GW E) [] (defBody (topS 18)) B_ranks_in := by
  have h64 : (A.deeper (envOfC "ranks_in" (defScope (topS 18)) s.heap.objs.size f cdv)).units + 64 < cLine := hr.units
  have h65 : (A.deeper (envOfC "ranks_in" (defScope (topS 18)) s.heap.objs.size f cdv)).units + 65 < cLine := by have := hr.un; omega
  have h1 := unl1 h64
  have h0 := unl0 h64
  have nd : N_ranks_in.Nodup := by decide
  exact (ss_cons (ss_set 1 nd rfl (by first | exact Or.inl rfl | exact Or.inr rfl) (by decide) (se_mul (se_lst (sa_cons se_int sa_nil)) (se_b1 call_lenU c1_len rfl (m_len Y) (by decide +kernel) (se_var 0))))
    (ss_cons (ss_for (passes_of rfl) rfl (si_enum rfl (m_enumerate Y) (se_var 0)) (sg_tup rfl (sgs_cons (sg_name 2 nd rfl (by first | exact Or.inl rfl | exact Or.inr rfl) (by decide)) (sgs_cons (sg_name 3 nd rfl (by first | exact Or.inl rfl | exact Or.inr rfl) (by decide)) sgs_nil))) (ss_one (ss_asg (se_var 2) (sg_sub (se_var 1) (se_var 3)))))
    (ss_one (ss_ret (se_var 1)))))
theorem S_ranks_in : FnScope N_ranks_in ["ballot"] (defScope (topS 18)) := ⟨rfl, rfl, rfl, by decide, rfl, by decide +kernel, by decide +kernel⟩
theorem D_ranks_in_1 (Y : Ctx K mg) : Dfn Pg w K mg base 1 "ranks_in" 1 F_ranks_in 1 [] := by
  obtain ⟨_, X, G⟩ := Y.ex
  obtain ⟨fd, FD⟩ := Y.c.def_ 8 (d := d_ranks_in)
  have hb : Binds K fd ["ballot"] [] := FD.bindsN fun _ _ _ _ _ _ us h => by
    match us, h with
    | [a0], _ => rfl
  exact ⟨⟨_, fd, ["ballot"], [], He.glo_ok X G (Y.c.fact 8), FD.kp, fnG_D FD S_ranks_in rfl fun cdv A outer s H E hr hgd => W_ranks_in Y cdv A outer s H E hr hgd, hb, .nil, rfl, rfl⟩⟩
def N_pairs_turned : List Str := ["ballot", "second", "one", "ranks", "others", "found", "other"]
theorem W_pairs_turned (Y : Ctx K mg) {f : Addr} (cdv : Value) (A : Around) (outer : List Env) (s : Shared) (H : Hp) (E : XK) (hr : Room 1 (A.deeper (envOfC "pairs_turned" (defScope (topS 20)) s.heap.objs.size f cdv))) (hgd : A.guards = some []) :
    SSs (GX Pg w K mg base N_pairs_turned "pairs_turned" (defScope (topS 20)) f cdv A outer s H E) (GW E) [] (defBody (topS 20)) B_pairs_turned := by
  have h64 : (A.deeper (envOfC "pairs_turned" (defScope (topS 20)) s.heap.objs.size f cdv)).units + 64 < cLine := hr.units
  have h65 : (A.deeper (envOfC "pairs_turned" (defScope (topS 20)) s.heap.objs.size f cdv)).units + 65 < cLine := by have := hr.un; omega
  have h1 := unl1 h64
  have h0 := unl0 h64
  have nd : N_pairs_turned.Nodup := by decide
  exact (ss_cons (ss_par3 rfl nd rfl rfl rfl (by decide) (by decide) (by decide) (by decide) rfl rfl rfl (sr_cons (se_tk (se_callD ((D_ranks_in_1 Y).mono (by decide)) hr hgd gx_pass rfl (sr_cons (se_tk (se_var 0)) sr_nil) (len_rCons len_rNil))) (sr_cons (se_tk (se_callD ((D_ranks_in_1 Y).mono (by decide)) hr hgd gx_pass rfl (sr_cons (se_tk (se_var 1)) sr_nil) (len_rCons len_rNil))) (sr_cons (se_lst sa_nil) sr_nil))))
    (ss_cons (ss_for (passes_of rfl) rfl (si_rng1 rfl (m_range Y) (se_b1 call_lenU c1_len rfl (m_len Y) (by decide +kernel) (se_var 0))) (sg_name 2 nd rfl (by first | exact Or.inl rfl | exact Or.inr rfl) (by decide)) (ss_one (ss_for (passes_of rfl) rfl (si_rng2 rfl (m_range Y) (se_add (se_var 2) se_int) (se_b1 call_lenU c1_len rfl (m_len Y) (by decide +kernel) (se_var 0))) (sg_name 6 nd rfl (by first | exact Or.inl rfl | exact Or.inr rfl) (by decide)) (ss_one (ss_if (st_ne h64 (se_lt (se_ix2 h64 (se_var 3) (se_var 2)) (se_ix2 h64 (se_var 3) (se_var 6))) (se_lt (se_ix2 h64 (se_var 4) (se_var 2)) (se_ix2 h64 (se_var 4) (se_var 6)))) (ss_one (ss_expr (se_app (se_var 5) (se_tup (sa_cons (se_var 2) (sa_cons (se_var 6) sa_nil)))))) ss_nil)))))
    (ss_one (ss_ret (se_var 5)))))
theorem S_pairs_turned : FnScope N_pairs_turned ["ballot", "second"] (defScope (topS 20)) := ⟨rfl, rfl, rfl, by decide, rfl, by decide +kernel, by decide +kernel⟩
theorem D_pairs_turned_2 (Y : Ctx K mg) : Dfn Pg w K mg base 2 "pairs_turned" 2 F_pairs_turned 2 [] := by
  obtain ⟨_, X, G⟩ := Y.ex
  obtain ⟨fd, FD⟩ := Y.c.def_ 9 (d := d_pairs_turned)
  have hb : Binds K fd ["ballot", "second"] [] := FD.bindsN fun _ _ _ _ _ _ us h => by
    match us, h with
    | [a0, a1], _ => rfl
  exact ⟨⟨_, fd, ["ballot", "second"], [], He.glo_ok X G (Y.c.fact 9), FD.kp, fnG_D FD S_pairs_turned rfl fun cdv A outer s H E hr hgd => W_pairs_turned Y cdv A outer s H E hr hgd, hb, .nil, rfl, rfl⟩⟩
def N_far_from : List Str := ["ballots", "ballot", "other"]
theorem W_far_from (Y : Ctx K mg) {f : Addr} (cdv : Value) (A : Around) (outer : List Env) (s : Shared) (H : Hp) (E : XK) (hr : Room 2 (A.deeper (envOfC "far_from" (defScope (topS 24)) s.heap.objs.size f cdv))) (hgd : A.guards = some []) :
    SSs (GX Pg w K mg base N_far_from "far_from" (defScope (topS 24)) f cdv A outer s H E) (GW E) [] (defBody (topS 24)) B_far_from := by
  have h64 : (A.deeper (envOfC "far_from" (defScope (topS 24)) s.heap.objs.size f cdv)).units + 64 < cLine := hr.units
  have h65 : (A.deeper (envOfC "far_from" (defScope (topS 24)) s.heap.objs.size f cdv)).units + 65 < cLine := by have := hr.un; omega
  have h1 := unl1 h64
  have h0 := unl0 h64
  have nd : N_far_from.Nodup := by decide
  exact (ss_one (ss_ret (se_lc false rfl nd (si_seq (se_var 0)) (own := [("other", 2)]) (by kernel_rfl) (by decide) (by decide) (fun _ _ _ _ _ => (sg_name 2 nd rfl (by first | exact Or.inl rfl | exact Or.inr rfl) (by decide))) (fun _ _ _ _ _ => sts_nil) (fun _ _ _ _ _ => (se_tk (se_b1 call_lenU c1_len rfl (m_len Y) (by decide +kernel) (se_callD ((D_pairs_turned_2 Y).mono (by decide)) hr hgd w0_pass rfl (sr_cons (se_tk (se_var 1)) (sr_cons (se_tk (se_var 2)) sr_nil)) (len_rCons (len_rCons len_rNil)))))))))
theorem S_far_from : FnScope N_far_from ["ballots", "ballot"] (defScope (topS 24)) := ⟨rfl, rfl, rfl, by decide, rfl, by decide +kernel, by decide +kernel⟩
theorem D_far_from_2 (Y : Ctx K mg) : Dfn Pg w K mg base 3 "far_from" 2 F_far_from 2 [] := by
  obtain ⟨_, X, G⟩ := Y.ex
  obtain ⟨fd, FD⟩ := Y.c.def_ 10 (d := d_far_from)
  have hb : Binds K fd ["ballots", "ballot"] [] := FD.bindsN fun _ _ _ _ _ _ us h => by
    match us, h with
    | [a0, a1], _ => rfl
  exact ⟨⟨_, fd, ["ballots", "ballot"], [], He.glo_ok X G (Y.c.fact 10), FD.kp, fnG_D FD S_far_from rfl fun cdv A outer s H E hr hgd => W_far_from Y cdv A outer s H E hr hgd, hb, .nil, rfl, rfl⟩⟩
def N_places_in_twos : List Str := ["count", "one", "other"]
theorem W_places_in_twos (Y : Ctx K mg) {f : Addr} (cdv : Value) (A : Around) (outer : List Env) (s : Shared) (H : Hp) (E : XK) (hr : Room 0 (A.deeper (envOfC "places_in_twos" (defScope (topS 22)) s.heap.objs.size f cdv))) (hgd : A.guards = some []) :
    SSs (GX Pg w K mg base N_places_in_twos "places_in_twos" (defScope (topS 22)) f cdv A outer s H E) (GW E) [] (defBody (topS 22)) B_places_in_twos := by
  have h64 : (A.deeper (envOfC "places_in_twos" (defScope (topS 22)) s.heap.objs.size f cdv)).units + 64 < cLine := hr.units
  have h65 : (A.deeper (envOfC "places_in_twos" (defScope (topS 22)) s.heap.objs.size f cdv)).units + 65 < cLine := by have := hr.un; omega
  have h1 := unl1 h64
  have h0 := unl0 h64
  have nd : N_places_in_twos.Nodup := by decide
  exact (ss_one (ss_ret (se_lc2 rfl nd (si_rng1 rfl (m_range Y) (se_var 0)) (own := [("one", 1), ("other", 2)]) (vs1 := [2]) (by kernel_rfl) (by decide) (by decide) (by decide) (by decide) (fun _ _ _ _ _ => (sg_name 1 nd rfl (by first | exact Or.inl rfl | exact Or.inr rfl) (by decide))) (fun _ _ _ _ _ => sts_nil) (fun _ _ _ _ _ => (si_rng2 rfl (m_range Y) (se_add (se_var 1) se_int) (se_var 0))) (fun _ _ _ _ _ => (sg_name 2 nd rfl (by first | exact Or.inl rfl | exact Or.inr rfl) (by decide))) (fun _ _ _ _ _ => sts_nil) (fun _ _ _ _ _ => (se_tk (se_tup (sa_cons (se_var 1) (sa_cons (se_var 2) sa_nil))))))))
theorem S_places_in_twos : FnScope N_places_in_twos ["count"] (defScope (topS 22)) := ⟨rfl, rfl, rfl, by decide, rfl, by decide +kernel, by decide +kernel⟩
theorem D_places_in_twos_1 (Y : Ctx K mg) : Dfn Pg w K mg base 1 "places_in_twos" 1 F_places_in_twos 1 [] := by
  obtain ⟨_, X, G⟩ := Y.ex
  obtain ⟨fd, FD⟩ := Y.c.def_ 11 (d := d_places_in_twos)
  have hb : Binds K fd ["count"] [] := FD.bindsN fun _ _ _ _ _ _ us h => by
    match us, h with
    | [a0], _ => rfl
  exact ⟨⟨_, fd, ["count"], [], He.glo_ok X G (Y.c.fact 11), FD.kp, fnG_D FD S_places_in_twos rfl fun cdv A outer s H E hr hgd => W_places_in_twos Y cdv A outer s H E hr hgd, hb, .nil, rfl, rfl⟩⟩
def N_turns_once : List Str := ["count", "ballots", "row", "all_ranks", "one", "other", "sides", "index", "ranks", "at"]
theorem W_turns_once (Y : Ctx K mg) {f : Addr} (cdv : Value) (A : Around) (outer : List Env) (s : Shared) (H : Hp) (E : XK) (hr : Room 1 (A.deeper (envOfC "turns_once" (defScope (topS 23)) s.heap.objs.size f cdv))) (hgd : A.guards = some []) :
    SSs (GX Pg w K mg base N_turns_once "turns_once" (defScope (topS 23)) f cdv A outer s H E) (GW E) [] (defBody (topS 23)) B_turns_once := by
  have h64 : (A.deeper (envOfC "turns_once" (defScope (topS 23)) s.heap.objs.size f cdv)).units + 64 < cLine := hr.units
  have h65 : (A.deeper (envOfC "turns_once" (defScope (topS 23)) s.heap.objs.size f cdv)).units + 65 < cLine := by have := hr.un; omega
  have h1 := unl1 h64
  have h0 := unl0 h64
  have nd : N_turns_once.Nodup := by decide
  exact (ss_cons (ss_setLcT false (i := 3) rfl nd rfl rfl (by decide) (sw_true rfl rfl rfl rfl) (si_seq (se_var 2)) (own := [("index", 7)]) (by kernel_rfl) (by decide) (by decide) (fun _ _ _ _ _ => (sg_name 7 nd rfl (by first | exact Or.inl rfl | exact Or.inr rfl) (by decide))) (fun _ _ _ _ _ => sts_nil) (fun _ _ _ _ _ => (se_tk (se_callD ((D_ranks_in_1 Y).mono (by decide)) hr hgd w0_pass rfl (sr_cons (se_tk (se_ix2 h64 (se_var 1) (se_var 7))) sr_nil) (len_rCons len_rNil)))))
    (ss_cons (ss_for (passes_of rfl) rfl (si_seq (se_callD ((D_places_in_twos_1 Y).mono (by decide)) hr hgd gx_pass rfl (sr_cons (se_tk (se_var 0)) sr_nil) (len_rCons len_rNil))) (sg_tup rfl (sgs_cons (sg_name 4 nd rfl (by first | exact Or.inl rfl | exact Or.inr rfl) (by decide)) (sgs_cons (sg_name 5 nd rfl (by first | exact Or.inl rfl | exact Or.inr rfl) (by decide)) sgs_nil))) (ss_cons (ss_set 6 nd rfl (by first | exact Or.inl rfl | exact Or.inr rfl) (by decide) (se_tk (se_lc false rfl nd (si_seq (se_var 3)) (own := [("ranks", 8)]) (by kernel_rfl) (by decide) (by decide) (fun _ _ _ _ _ => (sg_name 8 nd rfl (by first | exact Or.inl rfl | exact Or.inr rfl) (by decide))) (fun _ _ _ _ _ => sts_nil) (fun _ _ _ _ _ => (se_tk (se_lt (se_ix2 h64 (se_var 8) (se_var 4)) (se_ix2 h64 (se_var 8) (se_var 5))))))))
    (ss_one (ss_if (st_gt (se_b1 call_lenU c1_len rfl (m_len Y) (by decide +kernel) (se_lc false rfl nd (si_rng2 rfl (m_range Y) se_int (se_b1 call_lenU c1_len rfl (m_len Y) (by decide +kernel) (se_var 6))) (own := [("at", 9)]) (by kernel_rfl) (by decide) (by decide) (fun _ _ _ _ _ => (sg_name 9 nd rfl (by first | exact Or.inl rfl | exact Or.inr rfl) (by decide))) (fun _ _ _ _ _ => (sts_one (st_ne h64 (se_ix2 h64 (se_var 6) (se_var 9)) (se_ix2 h64 (se_var 6) (se_sub (se_var 9) se_int))))) (fun _ _ _ _ _ => (se_tk (se_var 9))))) se_int) (ss_one (ss_ret se_bl)) ss_nil))))
    (ss_one (ss_ret se_bl))))
theorem S_turns_once : FnScope N_turns_once ["count", "ballots", "row"] (defScope (topS 23)) := ⟨rfl, rfl, rfl, by decide, rfl, by decide +kernel, by decide +kernel⟩
theorem D_turns_once_3 (Y : Ctx K mg) : Dfn Pg w K mg base 2 "turns_once" 3 F_turns_once 3 [] := by
  obtain ⟨_, X, G⟩ := Y.ex
  obtain ⟨fd, FD⟩ := Y.c.def_ 12 (d := d_turns_once)
  have hb : Binds K fd ["count", "ballots", "row"] [] := FD.bindsN fun _ _ _ _ _ _ us h => by
    match us, h with
    | [a0, a1, a2], _ => rfl
  exact ⟨⟨_, fd, ["count", "ballots", "row"], [], He.glo_ok X G (Y.c.fact 12), FD.kp, fnG_D FD S_turns_once rfl fun cdv A outer s H E hr hgd => W_turns_once Y cdv A outer s H E hr hgd, hb, .nil, rfl, rfl⟩⟩
def N_least_row : List Str := ["count", "ballots", "begin", "end", "far", "rows", "way", "turned", "index"]
theorem W_least_row (Y : Ctx K mg) {f : Addr} (cdv : Value) (A : Around) (outer : List Env) (s : Shared) (H : Hp) (E : XK) (hr : Room 3 (A.deeper (envOfC "least_row" (defScope (topS 25)) s.heap.objs.size f cdv))) (hgd : A.guards = some []) :
    SSs (GX Pg w K mg base N_least_row "least_row" (defScope (topS 25)) f cdv A outer s H E) (GW E) [] (defBody (topS 25)) B_least_row := by
  have h64 : (A.deeper (envOfC "least_row" (defScope (topS 25)) s.heap.objs.size f cdv)).units + 64 < cLine := hr.units
  have h65 : (A.deeper (envOfC "least_row" (defScope (topS 25)) s.heap.objs.size f cdv)).units + 65 < cLine := by have := hr.un; omega
  have h1 := unl1 h64
  have h0 := unl0 h64
  have nd : N_least_row.Nodup := by decide
  exact (ss_cons (ss_if (st_eqE h64 (se_var 1) (se_lst sa_nil)) (ss_one (ss_ret (se_tk (se_lst sa_nil)))) ss_nil)
    (ss_cons (ss_set 2 nd rfl (by first | exact Or.inl rfl | exact Or.inr rfl) (by decide) (se_tk (se_callD ((D_far_from_2 Y).mono (by decide)) hr hgd gx_pass rfl (sr_cons (se_tk (se_var 1)) (sr_cons (se_tk (se_ix2 h64 (se_var 1) se_int)) sr_nil)) (len_rCons (len_rCons len_rNil)))))
    (ss_cons (ss_set 3 nd rfl (by first | exact Or.inl rfl | exact Or.inr rfl) (by decide) (se_tk (se_ix2 h64 (se_var 1) (se_index h65 (se_var 2) (se_b1 (cr_max rfl) c1_max rfl (m_max Y) (by decide +kernel) (se_var 2))))))
    (ss_cons (ss_set 4 nd rfl (by first | exact Or.inl rfl | exact Or.inr rfl) (by decide) (se_tk (se_callD ((D_far_from_2 Y).mono (by decide)) hr hgd gx_pass rfl (sr_cons (se_tk (se_var 1)) (sr_cons (se_tk (se_var 3)) sr_nil)) (len_rCons (len_rCons len_rNil)))))
    (ss_cons (ss_set 5 nd rfl (by first | exact Or.inl rfl | exact Or.inr rfl) (by decide) (se_lst sa_nil))
    (ss_cons (ss_for (passes_of rfl) rfl (si_seq (se_lst (sa_cons se_int (sa_cons (se_neg se_int) sa_nil)))) (sg_name 6 nd rfl (by first | exact Or.inl rfl | exact Or.inr rfl) (by decide)) (ss_one (ss_expr (se_app (se_var 5) (se_lc false rfl nd (si_seq (se_b1 (cr_sortedD h64) c1_sortD rfl (m_sorted Y) (by decide +kernel) (se_lc false rfl nd (si_rng1 rfl (m_range Y) (se_b1 call_lenU c1_len rfl (m_len Y) (by decide +kernel) (se_var 4))) (own := [("index", 8)]) (by kernel_rfl) (by decide) (by decide) (fun _ _ _ _ _ => (sg_name 8 nd rfl (by first | exact Or.inl rfl | exact Or.inr rfl) (by decide))) (fun _ _ _ _ _ => sts_nil) (fun _ _ _ _ _ => (se_tk (se_tup (sa_cons (se_mul (se_var 6) (se_ix2 h64 (se_var 4) (se_var 8))) (sa_cons (se_var 8) sa_nil)))))))) (own := [("turned", 7), ("index", 8)]) (by kernel_rfl) (by decide) (by decide) (fun _ _ _ _ _ => (sg_tup rfl (sgs_cons (sg_name 7 nd rfl (by first | exact Or.inl rfl | exact Or.inr rfl) (by decide)) (sgs_cons (sg_name 8 nd rfl (by first | exact Or.inl rfl | exact Or.inr rfl) (by decide)) sgs_nil)))) (fun _ _ _ _ _ => sts_nil) (fun _ _ _ _ _ => (se_tk (se_var 8))))))))
    (ss_one (ss_ret (se_tk (se_if (st_tru (se_callD ((D_turns_once_3 Y).mono (by decide)) hr hgd gx_pass rfl (sr_cons (se_tk (se_var 0)) (sr_cons (se_tk (se_var 1)) (sr_cons (se_tk (se_ix2 h64 (se_var 5) se_int)) sr_nil))) (len_rCons (len_rCons (len_rCons len_rNil))))) (se_b1 (cr_minD rfl h64) c1_minD rfl (m_min Y) (by decide +kernel) (se_var 5)) se_non))))))))))
theorem S_least_row : FnScope N_least_row ["count", "ballots"] (defScope (topS 25)) := ⟨rfl, rfl, rfl, by decide, rfl, by decide +kernel, by decide +kernel⟩
theorem D_least_row_2 (Y : Ctx K mg) : Dfn Pg w K mg base 4 "least_row" 2 F_least_row 2 [] := by
  obtain ⟨_, X, G⟩ := Y.ex
  obtain ⟨fd, FD⟩ := Y.c.def_ 13 (d := d_least_row)
  have hb : Binds K fd ["count", "ballots"] [] := FD.bindsN fun _ _ _ _ _ _ us h => by
    match us, h with
    | [a0, a1], _ => rfl
  exact ⟨⟨_, fd, ["count", "ballots"], [], He.glo_ok X G (Y.c.fact 13), FD.kp, fnG_D FD S_least_row rfl fun cdv A outer s H E hr hgd => W_least_row Y cdv A outer s H E hr hgd, hb, .nil, rfl, rfl⟩⟩
def N_need_odd : List Str := ["voters"]
theorem W_need_odd (Y : Ctx K mg) {f : Addr} (cdv : Value) (A : Around) (outer : List Env) (s : Shared) (H : Hp) (E : XK) (hr : Room 0 (A.deeper (envOfC "need_odd" (defScope (topS 27)) s.heap.objs.size f cdv))) (hgd : A.guards = some []) :
    SSs (GX Pg w K mg base N_need_odd "need_odd" (defScope (topS 27)) f cdv A outer s H E) (GW E) [] (defBody (topS 27)) B_need_odd := by
  have h64 : (A.deeper (envOfC "need_odd" (defScope (topS 27)) s.heap.objs.size f cdv)).units + 64 < cLine := hr.units
  have h65 : (A.deeper (envOfC "need_odd" (defScope (topS 27)) s.heap.objs.size f cdv)).units + 65 < cLine := by have := hr.un; omega
  have h1 := unl1 h64
  have h0 := unl0 h64
  have nd : N_need_odd.Nodup := by decide
  exact (ss_one (ss_if (st_eq h64 (se_mod (se_b1 (cr_sum rfl) c1_sum rfl (m_sum Y) (by decide +kernel) (se_var 0)) se_int) se_int) (ss_one (ss_raise rfl gx_takes (e_EvenVoters Y) rfl)) ss_nil))
theorem S_need_odd : FnScope N_need_odd ["voters"] (defScope (topS 27)) := ⟨rfl, rfl, rfl, by decide, rfl, by decide +kernel, by decide +kernel⟩
theorem D_need_odd_1 (Y : Ctx K mg) : Dfn Pg w K mg base 1 "need_odd" 1 F_need_odd 1 [] := by
  obtain ⟨_, X, G⟩ := Y.ex
  obtain ⟨fd, FD⟩ := Y.c.def_ 14 (d := d_need_odd)
  have hb : Binds K fd ["voters"] [] := FD.bindsN fun _ _ _ _ _ _ us h => by
    match us, h with
    | [a0], _ => rfl
  exact ⟨⟨_, fd, ["voters"], [], He.glo_ok X G (Y.c.fact 14), FD.kp, fnG_D FD S_need_odd rfl fun cdv A outer s H E hr hgd => W_need_odd Y cdv A outer s H E hr hgd, hb, .nil, rfl, rfl⟩⟩
def N_middle_index : List Str := ["voters", "row", "index", "passed", "whole"]
theorem W_middle_index (Y : Ctx K mg) {f : Addr} (cdv : Value) (A : Around) (outer : List Env) (s : Shared) (H : Hp) (E : XK) (hr : Room 0 (A.deeper (envOfC "middle_index" (defScope (topS 26)) s.heap.objs.size f cdv))) (hgd : A.guards = some []) :
    SSs (GX Pg w K mg base N_middle_index "middle_index" (defScope (topS 26)) f cdv A outer s H E) (GW E) [] (defBody (topS 26)) B_middle_index := by
  have h64 : (A.deeper (envOfC "middle_index" (defScope (topS 26)) s.heap.objs.size f cdv)).units + 64 < cLine := hr.units
  have h65 : (A.deeper (envOfC "middle_index" (defScope (topS 26)) s.heap.objs.size f cdv)).units + 65 < cLine := by have := hr.un; omega
  have h1 := unl1 h64
  have h0 := unl0 h64
  have nd : N_middle_index.Nodup := by decide
  exact (ss_cons (ss_par2 rfl nd rfl rfl (by decide) (by decide) rfl rfl (sr_cons (se_tk se_int) (sr_cons (se_tk (se_b1 (cr_sum rfl) c1_sum rfl (m_sum Y) (by decide +kernel) (se_var 0))) sr_nil)))
    (ss_cons (ss_for (passes_of rfl) rfl (si_seq (se_var 1)) (sg_name 2 nd rfl (by first | exact Or.inl rfl | exact Or.inr rfl) (by decide)) (ss_cons (ss_set 3 nd rfl (by first | exact Or.inl rfl | exact Or.inr rfl) (by decide) (se_tk (se_add (se_var 3) (se_ix2 h64 (se_var 0) (se_var 2)))))
    (ss_one (ss_if (st_gt (se_mul se_int (se_var 3)) (se_var 4)) (ss_one (ss_ret (se_var 2))) ss_nil))))
    (ss_one (ss_ret se_non))))
theorem S_middle_index : FnScope N_middle_index ["voters", "row"] (defScope (topS 26)) := ⟨rfl, rfl, rfl, by decide, rfl, by decide +kernel, by decide +kernel⟩
theorem D_middle_index_2 (Y : Ctx K mg) : Dfn Pg w K mg base 1 "middle_index" 2 F_middle_index 2 [] := by
  obtain ⟨_, X, G⟩ := Y.ex
  obtain ⟨fd, FD⟩ := Y.c.def_ 15 (d := d_middle_index)
  have hb : Binds K fd ["voters", "row"] [] := FD.bindsN fun _ _ _ _ _ _ us h => by
    match us, h with
    | [a0, a1], _ => rfl
  exact ⟨⟨_, fd, ["voters", "row"], [], He.glo_ok X G (Y.c.fact 15), FD.kp, fnG_D FD S_middle_index rfl fun cdv A outer s H E hr hgd => W_middle_index Y cdv A outer s H E hr hgd, hb, .nil, rfl, rfl⟩⟩
def N_middle_ballot : List Str := ["count", "ballots", "voters", "row"]
theorem W_middle_ballot (Y : Ctx K mg) {f : Addr} (cdv : Value) (A : Around) (outer : List Env) (s : Shared) (H : Hp) (E : XK) (hr : Room 5 (A.deeper (envOfC "middle_ballot" (defScope (topS 28)) s.heap.objs.size f cdv))) (hgd : A.guards = some []) :
    SSs (GX Pg w K mg base N_middle_ballot "middle_ballot" (defScope (topS 28)) f cdv A outer s H E) (GW E) [] (defBody (topS 28)) B_middle_ballot := by
  have h64 : (A.deeper (envOfC "middle_ballot" (defScope (topS 28)) s.heap.objs.size f cdv)).units + 64 < cLine := hr.units
  have h65 : (A.deeper (envOfC "middle_ballot" (defScope (topS 28)) s.heap.objs.size f cdv)).units + 65 < cLine := by have := hr.un; omega
  have h1 := unl1 h64
  have h0 := unl0 h64
  have nd : N_middle_ballot.Nodup := by decide
  exact (ss_cons (ss_expr (se_callD ((D_need_set_2 Y).mono (by decide)) hr hgd gx_pass rfl (sr_cons (se_tk (se_var 0)) (sr_cons (se_tk (se_var 1)) sr_nil)) (len_rCons (len_rCons len_rNil))))
    (ss_cons (ss_expr (se_callD ((D_need_voters_2 Y).mono (by decide)) hr hgd gx_pass rfl (sr_cons (se_tk (se_var 1)) (sr_cons (se_tk (se_var 2)) sr_nil)) (len_rCons (len_rCons len_rNil))))
    (ss_cons (ss_set 3 nd rfl (by first | exact Or.inl rfl | exact Or.inr rfl) (by decide) (se_tk (se_callD ((D_least_row_2 Y).mono (by decide)) hr hgd gx_pass rfl (sr_cons (se_tk (se_var 0)) (sr_cons (se_tk (se_var 1)) sr_nil)) (len_rCons (len_rCons len_rNil)))))
    (ss_cons (ss_if (st_is (se_var 3) se_non) (ss_one (ss_raise rfl gx_takes (e_NoRow Y) rfl)) ss_nil)
    (ss_cons (ss_expr (se_callD ((D_need_odd_1 Y).mono (by decide)) hr hgd gx_pass rfl (sr_cons (se_tk (se_var 2)) sr_nil) (len_rCons len_rNil)))
    (ss_one (ss_ret (se_t1 call_list_of c1_list rfl (m_list Y) (by decide +kernel) (se_ix2 h64 (se_var 1) (se_callD ((D_middle_index_2 Y).mono (by decide)) hr hgd gx_pass rfl (sr_cons (se_tk (se_var 2)) (sr_cons (se_tk (se_var 3)) sr_nil)) (len_rCons (len_rCons len_rNil))))))))))))
theorem S_middle_ballot : FnScope N_middle_ballot ["count", "ballots", "voters"] (defScope (topS 28)) := ⟨rfl, rfl, rfl, by decide, rfl, by decide +kernel, by decide +kernel⟩
theorem D_middle_ballot_3 (Y : Ctx K mg) : Dfn Pg w K mg base 6 "middle_ballot" 3 F_middle_ballot 3 [] := by
  obtain ⟨_, X, G⟩ := Y.ex
  obtain ⟨fd, FD⟩ := Y.c.def_ 16 (d := d_middle_ballot)
  have hb : Binds K fd ["count", "ballots", "voters"] [] := FD.bindsN fun _ _ _ _ _ _ us h => by
    match us, h with
    | [a0, a1, a2], _ => rfl
  exact ⟨⟨_, fd, ["count", "ballots", "voters"], [], He.glo_ok X G (Y.c.fact 16), FD.kp, fnG_D FD S_middle_ballot rfl fun cdv A outer s H E hr hgd => W_middle_ballot Y cdv A outer s H E hr hgd, hb, .nil, rfl, rfl⟩⟩
def N__law_told : List Str := ["_law_size", "_law_votes", "_law_crowd_here", "_law_found"]
theorem W__law_told (Y : Ctx K mg) {f : Addr} (cdv : Value) (A : Around) (outer : List Env) (s : Shared) (H : Hp) (E : XK) (hr : Room 6 (A.deeper (envOfC "_law_told" (defScope (topS 37)) s.heap.objs.size f cdv))) (hgd : A.guards = some []) :
    SSs (GX Pg w K mg base N__law_told "_law_told" (defScope (topS 37)) f cdv A outer s H E) (GW E) [] (defBody (topS 37)) B__law_told_v5 := by
  have h64 : (A.deeper (envOfC "_law_told" (defScope (topS 37)) s.heap.objs.size f cdv)).units + 64 < cLine := hr.units
  have h65 : (A.deeper (envOfC "_law_told" (defScope (topS 37)) s.heap.objs.size f cdv)).units + 65 < cLine := by have := hr.un; omega
  have h1 := unl1 h64
  have h0 := unl0 h64
  have nd : N__law_told.Nodup := by decide
  exact (ss_cons (ss_set 3 nd rfl (by first | exact Or.inl rfl | exact Or.inr rfl) (by decide) se_str)
    (ss_cons (ss_try rfl rfl gx_takes (mt_0 Y) (fun _ _ _ tk1 => (ss_one (ss_set 3 nd rfl (by first | exact Or.inl rfl | exact Or.inr rfl) (by decide) (se_callD ((D_middle_ballot_3 Y).mono (by decide)) hr hgd (passAt tk1) rfl (sr_cons (se_tk (se_var 0)) (sr_cons (se_tk (se_var 1)) (sr_cons (se_tk (se_var 2)) sr_nil))) (len_rCons (len_rCons (len_rCons len_rNil))))))) (.cons (g_EvenVoters Y) rfl (by decide) (fun _ _ _ => (ss_one (ss_set 3 nd rfl (by first | exact Or.inl rfl | exact Or.inr rfl) (by decide) se_str))) (.cons (g_NoRow Y) rfl (by decide) (fun _ _ _ => (ss_one (ss_set 3 nd rfl (by first | exact Or.inl rfl | exact Or.inr rfl) (by decide) se_str))) .nil)))
    (ss_one (ss_ret (se_var 3)))))
theorem S__law_told : FnScope N__law_told ["_law_size", "_law_votes", "_law_crowd_here"] (defScope (topS 37)) := ⟨rfl, rfl, rfl, by decide, rfl, by decide +kernel, by decide +kernel⟩
theorem D__law_told_3 (Y : Ctx K mg) : Dfn Pg w K mg base 7 "_law_told" 3 F__law_told_v5 3 [] := by
  obtain ⟨_, X, G⟩ := Y.ex
  obtain ⟨fd, FD⟩ := Y.c.def_ 17 (d := d__law_told)
  have hb : Binds K fd ["_law_size", "_law_votes", "_law_crowd_here"] [] := FD.bindsN fun _ _ _ _ _ _ us h => by
    match us, h with
    | [a0, a1, a2], _ => rfl
  exact ⟨⟨_, fd, ["_law_size", "_law_votes", "_law_crowd_here"], [], He.glo_ok X G (Y.c.fact 17), FD.kp, fnG_D FD S__law_told rfl fun cdv A outer s H E hr hgd => W__law_told Y cdv A outer s H E hr hgd, hb, .nil, rfl, rfl⟩⟩
def N__law_pick : List Str := ["_law_well_here", "_law_bound", "_law_stirred", "_law_found"]
theorem W__law_pick (Y : Ctx K mg) {f : Addr} (cdv : Value) (A : Around) (outer : List Env) (s : Shared) (H : Hp) (E : XK) (hr : Room 0 (A.deeper (envOfC "_law_pick" (defScope (topS 31)) s.heap.objs.size f cdv))) (hgd : A.guards = some []) :
    SSs (GX Pg w K mg base N__law_pick "_law_pick" (defScope (topS 31)) f cdv A outer s H E) (GW E) [0] (defBody (topS 31)) B__law_pick := by
  have h64 : (A.deeper (envOfC "_law_pick" (defScope (topS 31)) s.heap.objs.size f cdv)).units + 64 < cLine := hr.units
  have h65 : (A.deeper (envOfC "_law_pick" (defScope (topS 31)) s.heap.objs.size f cdv)).units + 65 < cLine := by have := hr.un; omega
  have h1 := unl1 h64
  have h0 := unl0 h64
  have nd : N__law_pick.Nodup := by decide
  exact (ss_cons (ss_if (st_gt (se_ix2 h64 (se_var 0) se_int) se_int) (ss_cons (ss_set 3 nd rfl (by first | exact Or.inl rfl | exact Or.inr rfl) (by decide) (se_mod (se_t1 call_int1 c1_int rfl (m_int Y) (by decide +kernel) (se_ix2 h64 (se_var 0) se_int)) (se_var 1)))
    (ss_cons (ss_asg (se_fdivW (se_ix2 h64 (se_var 0) se_int) (se_var 1)) (sg_sub (se_var 0) se_int))
    (ss_one (ss_ret (se_var 3))))) ss_nil)
    (ss_cons (ss_asg (se_add (se_ix2 h64 (se_var 0) se_int) se_int) (sg_sub (se_var 0) se_int))
    (ss_cons (ss_set 2 nd rfl (by first | exact Or.inl rfl | exact Or.inr rfl) (by decide) (se_tk (se_mod (se_t1 call_int1 c1_int rfl (m_int Y) (by decide +kernel) (se_powW (se_add (se_ix2 h64 (se_var 0) se_int) (se_mul se_int (se_ix2 h64 (se_var 0) se_int))) se_int)) (se_add (se_powW se_int se_int) se_int))))
    (ss_cons (ss_set 2 nd rfl (by first | exact Or.inl rfl | exact Or.inr rfl) (by decide) (se_tk (se_mod (se_t1 call_int1 c1_int rfl (m_int Y) (by decide +kernel) (se_powW (se_add (se_var 2) (se_mul se_int (se_ix2 h64 (se_var 0) se_int))) se_int)) (se_add (se_powW se_int se_int) se_int))))
    (ss_one (ss_ret (se_mod (se_t1 call_int1 c1_int rfl (m_int Y) (by decide +kernel) (se_fdivW (se_var 2) se_int)) (se_var 1))))))))
theorem S__law_pick : FnScope N__law_pick ["_law_well_here", "_law_bound"] (defScope (topS 31)) := ⟨rfl, rfl, rfl, by decide, rfl, by decide +kernel, by decide +kernel⟩
theorem D__law_pick_2 (Y : Ctx K mg) : Dfn Pg w K mg base 1 "_law_pick" 2 F__law_pick 2 [] := by
  obtain ⟨_, X, G⟩ := Y.ex
  obtain ⟨fd, FD⟩ := Y.c.def_ 18 (d := d__law_pick)
  have hb : Binds K fd ["_law_well_here", "_law_bound"] [] := FD.bindsN fun _ _ _ _ _ _ us h => by
    match us, h with
    | [a0, a1], _ => rfl
  exact ⟨⟨_, fd, ["_law_well_here", "_law_bound"], [], He.glo_ok X G (Y.c.fact 18), FD.kp, fnG_D FD S__law_pick rfl fun cdv A outer s H E hr hgd => W__law_pick Y cdv A outer s H E hr hgd, hb, .nil, rfl, rfl⟩⟩
def N__law_vote : List Str := ["_law_well_here", "_law_size", "_law_left", "_law_found"]
theorem W__law_vote (Y : Ctx K mg) {f : Addr} (cdv : Value) (A : Around) (outer : List Env) (s : Shared) (H : Hp) (E : XK) (hr : Room 1 (A.deeper (envOfC "_law_vote" (defScope (topS 33)) s.heap.objs.size f cdv))) (hgd : A.guards = some []) :
    SSs (GX Pg w K mg base N__law_vote "_law_vote" (defScope (topS 33)) f cdv A outer s H E) (GW E) [0] (defBody (topS 33)) B__law_vote := by
  have h64 : (A.deeper (envOfC "_law_vote" (defScope (topS 33)) s.heap.objs.size f cdv)).units + 64 < cLine := hr.units
  have h65 : (A.deeper (envOfC "_law_vote" (defScope (topS 33)) s.heap.objs.size f cdv)).units + 65 < cLine := by have := hr.un; omega
  have h1 := unl1 h64
  have h0 := unl0 h64
  have nd : N__law_vote.Nodup := by decide
  exact (ss_cons (ss_par2 rfl nd rfl rfl (by decide) (by decide) rfl rfl (sr_cons (se_lrg1 rfl rfl (m_list Y) rfl (m_range Y) (se_var 1)) (sr_cons (se_lst sa_nil) sr_nil)))
    (ss_cons (ss_while 1000 (passes_of rfl) (st_neE h64 (se_var 2) (se_lst sa_nil)) (ss_one (ss_expr (se_app (se_var 3) (se_pop1 (se_var 2) (se_callD ((D__law_pick_2 Y).mono (by decide)) hr hgd gx_pass rfl (sr_io 0 rfl (by first | exact Or.inl rfl | exact Or.inr (Or.inl rfl) | exact Or.inr (Or.inr rfl)) (sr_cons (se_tk (se_b1 call_lenU c1_len rfl (m_len Y) (by decide +kernel) (se_var 2))) sr_nil)) (len_rIo (len_rCons len_rNil))))))))
    (ss_one (ss_ret (se_var 3)))))
theorem S__law_vote : FnScope N__law_vote ["_law_well_here", "_law_size"] (defScope (topS 33)) := ⟨rfl, rfl, rfl, by decide, rfl, by decide +kernel, by decide +kernel⟩
theorem D__law_vote_2 (Y : Ctx K mg) : Dfn Pg w K mg base 2 "_law_vote" 2 F__law_vote 2 [] := by
  obtain ⟨_, X, G⟩ := Y.ex
  obtain ⟨fd, FD⟩ := Y.c.def_ 19 (d := d__law_vote)
  have hb : Binds K fd ["_law_well_here", "_law_size"] [] := FD.bindsN fun _ _ _ _ _ _ us h => by
    match us, h with
    | [a0, a1], _ => rfl
  exact ⟨⟨_, fd, ["_law_well_here", "_law_size"], [], He.glo_ok X G (Y.c.fact 19), FD.kp, fnG_D FD S__law_vote rfl fun cdv A outer s H E hr hgd => W__law_vote Y cdv A outer s H E hr hgd, hb, .nil, rfl, rfl⟩⟩
def N__law_turning : List Str := ["_law_well_here", "_law_size", "_law_many", "_law_begin", "_law_turn", "_law_here", "_law_found", "_law_step", "_law_spots", "_law_at"]
theorem W__law_turning (Y : Ctx K mg) {f : Addr} (cdv : Value) (A : Around) (outer : List Env) (s : Shared) (H : Hp) (E : XK) (hr : Room 2 (A.deeper (envOfC "_law_turning" (defScope (topS 34)) s.heap.objs.size f cdv))) (hgd : A.guards = some []) :
    SSs (GX Pg w K mg base N__law_turning "_law_turning" (defScope (topS 34)) f cdv A outer s H E) (GW E) [0] (defBody (topS 34)) B__law_turning := by
  have h64 : (A.deeper (envOfC "_law_turning" (defScope (topS 34)) s.heap.objs.size f cdv)).units + 64 < cLine := hr.units
  have h65 : (A.deeper (envOfC "_law_turning" (defScope (topS 34)) s.heap.objs.size f cdv)).units + 65 < cLine := by have := hr.un; omega
  have h1 := unl1 h64
  have h0 := unl0 h64
  have nd : N__law_turning.Nodup := by decide
  exact (ss_cons (ss_set 3 nd rfl (by first | exact Or.inl rfl | exact Or.inr rfl) (by decide) (se_tk (se_callD ((D__law_vote_2 Y).mono (by decide)) hr hgd gx_pass rfl (sr_io 0 rfl (by first | exact Or.inl rfl | exact Or.inr (Or.inl rfl) | exact Or.inr (Or.inr rfl)) (sr_cons (se_tk (se_var 1)) sr_nil)) (len_rIo (len_rCons len_rNil)))))
    (ss_cons (ss_parC2 rfl nd rfl rfl (by decide) (by first | exact Or.inl rfl | exact Or.inr rfl) (by first | exact Or.inl rfl | exact Or.inr rfl) (sr_cons (se_tk (se_t1 call_list_of c1_list rfl (m_list Y) (by decide +kernel) (se_var 3))) (sr_cons (se_lst sa_nil) sr_nil)))
    (ss_cons (ss_for (passes_of rfl) rfl (si_rng1 rfl (m_range Y) (se_var 2)) (sg_name 4 nd rfl (by first | exact Or.inl rfl | exact Or.inr rfl) (by decide)) (ss_cons (ss_for (passes_of rfl) rfl (si_rng1 rfl (m_range Y) (se_ix2 h64 (se_lst (sa_cons se_int (sa_cons se_int (sa_cons se_int (sa_cons se_int (sa_cons (se_callD ((D__law_pick_2 Y).mono (by decide)) hr hgd gx_pass rfl (sr_io 0 rfl (by first | exact Or.inl rfl | exact Or.inr (Or.inl rfl) | exact Or.inr (Or.inr rfl)) (sr_cons (se_tk (se_mul se_int (se_var 1))) sr_nil)) (len_rIo (len_rCons len_rNil))) sa_nil)))))) (se_callD ((D__law_pick_2 Y).mono (by decide)) hr hgd gx_pass rfl (sr_io 0 rfl (by first | exact Or.inl rfl | exact Or.inr (Or.inl rfl) | exact Or.inr (Or.inr rfl)) (sr_cons se_int sr_nil)) (len_rIo (len_rCons len_rNil))))) (sg_name 7 nd rfl (by first | exact Or.inl rfl | exact Or.inr rfl) (by decide)) (ss_cons (ss_setLcT false (i := 8) rfl nd rfl rfl (by decide) (sw_true rfl rfl rfl rfl) (si_rng1 rfl (m_range Y) (se_sub (se_var 1) se_int)) (own := [("_law_at", 9)]) (by kernel_rfl) (by decide) (by decide) (fun _ _ _ _ _ => (sg_name 9 nd rfl (by first | exact Or.inl rfl | exact Or.inr rfl) (by decide))) (fun _ _ _ _ _ => (sts_one (st_lt (se_index h65 (se_var 3) (se_ix2 h64 (se_var 5) (se_var 9))) (se_index h65 (se_var 3) (se_ix2 h64 (se_var 5) (se_add (se_var 9) se_int)))))) (fun _ _ _ _ _ => (se_tk (se_var 9))))
    (ss_one (ss_if (st_neE h64 (se_var 8) (se_lst sa_nil)) (ss_cons (ss_set 9 nd rfl (by first | exact Or.inl rfl | exact Or.inr rfl) (by decide) (se_tk (se_ix2 h64 (se_var 8) (se_callD ((D__law_pick_2 Y).mono (by decide)) hr hgd gx_pass rfl (sr_io 0 rfl (by first | exact Or.inl rfl | exact Or.inr (Or.inl rfl) | exact Or.inr (Or.inr rfl)) (sr_cons (se_tk (se_b1 call_lenU c1_len rfl (m_len Y) (by decide +kernel) (se_var 8))) sr_nil)) (len_rIo (len_rCons len_rNil))))))
    (ss_one (ss_set 5 nd rfl (by first | exact Or.inl rfl | exact Or.inr rfl) (by decide) (se_tk (se_add (se_add (se_sl (se_var 5) .no (.yes (se_var 9))) (se_lst (sa_cons (se_ix2 h64 (se_var 5) (se_add (se_var 9) se_int)) (sa_cons (se_ix2 h64 (se_var 5) (se_var 9)) sa_nil)))) (se_sl (se_var 5) (.yes (se_add (se_var 9) se_int)) .no)))))) ss_nil))))
    (ss_one (ss_expr (se_app (se_var 6) (se_t1 call_list_of c1_list rfl (m_list Y) (by decide +kernel) (se_var 5)))))))
    (ss_one (ss_ret (se_var 6))))))
theorem S__law_turning : FnScope N__law_turning ["_law_well_here", "_law_size", "_law_many"] (defScope (topS 34)) := ⟨rfl, rfl, rfl, by decide, rfl, by decide +kernel, by decide +kernel⟩
theorem D__law_turning_3 (Y : Ctx K mg) : Dfn Pg w K mg base 3 "_law_turning" 3 F__law_turning 3 [] := by
  obtain ⟨_, X, G⟩ := Y.ex
  obtain ⟨fd, FD⟩ := Y.c.def_ 20 (d := d__law_turning)
  have hb : Binds K fd ["_law_well_here", "_law_size", "_law_many"] [] := FD.bindsN fun _ _ _ _ _ _ us h => by
    match us, h with
    | [a0, a1, a2], _ => rfl
  exact ⟨⟨_, fd, ["_law_well_here", "_law_size", "_law_many"], [], He.glo_ok X G (Y.c.fact 20), FD.kp, fnG_D FD S__law_turning rfl fun cdv A outer s H E hr hgd => W__law_turning Y cdv A outer s H E hr hgd, hb, .nil, rfl, rfl⟩⟩
def N__law_crowd : List Str := ["_law_well_here", "_law_many", "_law_turn", "_law_way", "_law_found", "_law_one"]
theorem W__law_crowd (Y : Ctx K mg) {f : Addr} (cdv : Value) (A : Around) (outer : List Env) (s : Shared) (H : Hp) (E : XK) (hr : Room 1 (A.deeper (envOfC "_law_crowd" (defScope (topS 38)) s.heap.objs.size f cdv))) (hgd : A.guards = some []) :
    SSs (GX Pg w K mg base N__law_crowd "_law_crowd" (defScope (topS 38)) f cdv A outer s H E) (GW E) [0] (defBody (topS 38)) B__law_crowd_v2 := by
  have h64 : (A.deeper (envOfC "_law_crowd" (defScope (topS 38)) s.heap.objs.size f cdv)).units + 64 < cLine := hr.units
  have h65 : (A.deeper (envOfC "_law_crowd" (defScope (topS 38)) s.heap.objs.size f cdv)).units + 65 < cLine := by have := hr.un; omega
  have h1 := unl1 h64
  have h0 := unl0 h64
  have nd : N__law_crowd.Nodup := by decide
  exact (ss_cons (ss_par2 rfl nd rfl rfl (by decide) (by decide) rfl rfl (sr_cons (se_tk (se_callD ((D__law_pick_2 Y).mono (by decide)) hr hgd gx_pass rfl (sr_io 0 rfl (by first | exact Or.inl rfl | exact Or.inr (Or.inl rfl) | exact Or.inr (Or.inr rfl)) (sr_cons se_int sr_nil)) (len_rIo (len_rCons len_rNil)))) (sr_cons (se_lst sa_nil) sr_nil)))
    (ss_cons (ss_for (passes_of rfl) rfl (si_rng1 rfl (m_range Y) (se_var 1)) (sg_name 2 nd rfl (by first | exact Or.inl rfl | exact Or.inr rfl) (by decide)) (ss_cons (ss_set 5 nd rfl (by first | exact Or.inl rfl | exact Or.inr rfl) (by decide) (se_tk (se_ix2 h64 (se_lst (sa_cons (se_callD ((D__law_pick_2 Y).mono (by decide)) hr hgd gx_pass rfl (sr_io 0 rfl (by first | exact Or.inl rfl | exact Or.inr (Or.inl rfl) | exact Or.inr (Or.inr rfl)) (sr_cons se_int sr_nil)) (len_rIo (len_rCons len_rNil))) (sa_cons (se_callD ((D__law_pick_2 Y).mono (by decide)) hr hgd gx_pass rfl (sr_io 0 rfl (by first | exact Or.inl rfl | exact Or.inr (Or.inl rfl) | exact Or.inr (Or.inr rfl)) (sr_cons (se_tk (se_add (se_powW se_int se_int) se_int)) sr_nil)) (len_rIo (len_rCons len_rNil))) (sa_cons se_int sa_nil)))) (se_var 3))))
    (ss_one (ss_expr (se_app (se_var 4) (se_if (st_lt (se_var 3) se_int) (se_ix2 h64 (se_lst (sa_cons (se_var 5) (sa_cons (se_powW se_int se_int) (sa_cons (se_var 5) (sa_cons se_int sa_nil))))) (se_callD ((D__law_pick_2 Y).mono (by decide)) hr hgd gx_pass rfl (sr_io 0 rfl (by first | exact Or.inl rfl | exact Or.inr (Or.inl rfl) | exact Or.inr (Or.inr rfl)) (sr_cons se_int sr_nil)) (len_rIo (len_rCons len_rNil)))) (se_t1 call_int1 c1_int rfl (m_int Y) (by decide +kernel) (se_eq h64 (se_callD ((D__law_pick_2 Y).mono (by decide)) hr hgd gx_pass rfl (sr_io 0 rfl (by first | exact Or.inl rfl | exact Or.inr (Or.inl rfl) | exact Or.inr (Or.inr rfl)) (sr_cons se_int sr_nil)) (len_rIo (len_rCons len_rNil))) se_int))))))))
    (ss_one (ss_ret (se_var 4)))))
theorem S__law_crowd : FnScope N__law_crowd ["_law_well_here", "_law_many"] (defScope (topS 38)) := ⟨rfl, rfl, rfl, by decide, rfl, by decide +kernel, by decide +kernel⟩
theorem D__law_crowd_2 (Y : Ctx K mg) : Dfn Pg w K mg base 2 "_law_crowd" 2 F__law_crowd_v2 2 [] := by
  obtain ⟨_, X, G⟩ := Y.ex
  obtain ⟨fd, FD⟩ := Y.c.def_ 21 (d := d__law_crowd)
  have hb : Binds K fd ["_law_well_here", "_law_many"] [] := FD.bindsN fun _ _ _ _ _ _ us h => by
    match us, h with
    | [a0, a1], _ => rfl
  exact ⟨⟨_, fd, ["_law_well_here", "_law_many"], [], He.glo_ok X G (Y.c.fact 21), FD.kp, fnG_D FD S__law_crowd rfl fun cdv A outer s H E hr hgd => W__law_crowd Y cdv A outer s H E hr hgd, hb, .nil, rfl, rfl⟩⟩
def N__law_pairs : List Str := ["_law_size", "_law_found", "_law_one", "_law_other"]
theorem W__law_pairs (Y : Ctx K mg) {f : Addr} (cdv : Value) (A : Around) (outer : List Env) (s : Shared) (H : Hp) (E : XK) (hr : Room 0 (A.deeper (envOfC "_law_pairs" (defScope (topS 36)) s.heap.objs.size f cdv))) (hgd : A.guards = some []) :
    SSs (GX Pg w K mg base N__law_pairs "_law_pairs" (defScope (topS 36)) f cdv A outer s H E) (GW E) [] (defBody (topS 36)) B__law_pairs := by
  have h64 : (A.deeper (envOfC "_law_pairs" (defScope (topS 36)) s.heap.objs.size f cdv)).units + 64 < cLine := hr.units
  have h65 : (A.deeper (envOfC "_law_pairs" (defScope (topS 36)) s.heap.objs.size f cdv)).units + 65 < cLine := by have := hr.un; omega
  have h1 := unl1 h64
  have h0 := unl0 h64
  have nd : N__law_pairs.Nodup := by decide
  exact (ss_cons (ss_set 1 nd rfl (by first | exact Or.inl rfl | exact Or.inr rfl) (by decide) (se_lst sa_nil))
    (ss_cons (ss_for (passes_of rfl) rfl (si_rng1 rfl (m_range Y) (se_var 0)) (sg_name 2 nd rfl (by first | exact Or.inl rfl | exact Or.inr rfl) (by decide)) (ss_one (ss_expr (se_ext (se_var 1) (se_lc false rfl nd (si_rng2 rfl (m_range Y) (se_add (se_var 2) se_int) (se_var 0)) (own := [("_law_other", 3)]) (by kernel_rfl) (by decide) (by decide) (fun _ _ _ _ _ => (sg_name 3 nd rfl (by first | exact Or.inl rfl | exact Or.inr rfl) (by decide))) (fun _ _ _ _ _ => sts_nil) (fun _ _ _ _ _ => (se_tk (se_tup (sa_cons (se_var 2) (sa_cons (se_var 3) sa_nil))))))))))
    (ss_one (ss_ret (se_var 1)))))
theorem S__law_pairs : FnScope N__law_pairs ["_law_size"] (defScope (topS 36)) := ⟨rfl, rfl, rfl, by decide, rfl, by decide +kernel, by decide +kernel⟩
theorem D__law_pairs_1 (Y : Ctx K mg) : Dfn Pg w K mg base 1 "_law_pairs" 1 F__law_pairs 1 [] := by
  obtain ⟨_, X, G⟩ := Y.ex
  obtain ⟨fd, FD⟩ := Y.c.def_ 22 (d := d__law_pairs)
  have hb : Binds K fd ["_law_size"] [] := FD.bindsN fun _ _ _ _ _ _ us h => by
    match us, h with
    | [a0], _ => rfl
  exact ⟨⟨_, fd, ["_law_size"], [], He.glo_ok X G (Y.c.fact 22), FD.kp, fnG_D FD S__law_pairs rfl fun cdv A outer s H E hr hgd => W__law_pairs Y cdv A outer s H E hr hgd, hb, .nil, rfl, rfl⟩⟩
def N__law_above : List Str := ["_law_vote_here", "_law_one", "_law_other"]
theorem W__law_above (Y : Ctx K mg) {f : Addr} (cdv : Value) (A : Around) (outer : List Env) (s : Shared) (H : Hp) (E : XK) (hr : Room 0 (A.deeper (envOfC "_law_above" (defScope (topS 35)) s.heap.objs.size f cdv))) (hgd : A.guards = some []) :
    SSs (GX Pg w K mg base N__law_above "_law_above" (defScope (topS 35)) f cdv A outer s H E) (GW E) [] (defBody (topS 35)) B__law_above := by
  have h64 : (A.deeper (envOfC "_law_above" (defScope (topS 35)) s.heap.objs.size f cdv)).units + 64 < cLine := hr.units
  have h65 : (A.deeper (envOfC "_law_above" (defScope (topS 35)) s.heap.objs.size f cdv)).units + 65 < cLine := by have := hr.un; omega
  have h1 := unl1 h64
  have h0 := unl0 h64
  have nd : N__law_above.Nodup := by decide
  exact (ss_one (ss_ret (se_lt (se_index h65 (se_var 0) (se_var 1)) (se_index h65 (se_var 0) (se_var 2)))))
theorem S__law_above : FnScope N__law_above ["_law_vote_here", "_law_one", "_law_other"] (defScope (topS 35)) := ⟨rfl, rfl, rfl, by decide, rfl, by decide +kernel, by decide +kernel⟩
theorem D__law_above_3 (Y : Ctx K mg) : Dfn Pg w K mg base 1 "_law_above" 3 F__law_above 3 [] := by
  obtain ⟨_, X, G⟩ := Y.ex
  obtain ⟨fd, FD⟩ := Y.c.def_ 23 (d := d__law_above)
  have hb : Binds K fd ["_law_vote_here", "_law_one", "_law_other"] [] := FD.bindsN fun _ _ _ _ _ _ us h => by
    match us, h with
    | [a0, a1, a2], _ => rfl
  exact ⟨⟨_, fd, ["_law_vote_here", "_law_one", "_law_other"], [], He.glo_ok X G (Y.c.fact 23), FD.kp, fnG_D FD S__law_above rfl fun cdv A outer s H E hr hgd => W__law_above Y cdv A outer s H E hr hgd, hb, .nil, rfl, rfl⟩⟩
def N__law_right : List Str := ["_law_well_here", "_law_size", "_law_many", "_law_spots", "_law_vote_here", "_law_turn", "_law_left", "_law_sequence", "_law_votes", "_law_crowd_here", "_law_told_here", "_law_total", "_law_kept", "_law_spot", "_law_so_far", "_law_due", "_law_one", "_law_other", "_law_above_here", "_law_at"]
theorem W__law_right (Y : Ctx K mg) {f : Addr} (cdv : Value) (A : Around) (outer : List Env) (s : Shared) (H : Hp) (E : XK) (hr : Room 7 (A.deeper (envOfC "_law_right" (defScope (topS 39)) s.heap.objs.size f cdv))) (hgd : A.guards = some []) :
    SSs (GX Pg w K mg base N__law_right "_law_right" (defScope (topS 39)) f cdv A outer s H E) (GW E) [0] (defBody (topS 39)) B__law_right_v8 := by
  have h64 : (A.deeper (envOfC "_law_right" (defScope (topS 39)) s.heap.objs.size f cdv)).units + 64 < cLine := hr.units
  have h65 : (A.deeper (envOfC "_law_right" (defScope (topS 39)) s.heap.objs.size f cdv)).units + 65 < cLine := by have := hr.un; omega
  have h1 := unl1 h64
  have h0 := unl0 h64
  have nd : N__law_right.Nodup := by decide
  exact (ss_cons (ss_parC3 rfl nd rfl rfl rfl (by decide) (by first | exact Or.inl rfl | exact Or.inr rfl) (by first | exact Or.inl rfl | exact Or.inr rfl) (by first | exact Or.inl rfl | exact Or.inr rfl) (sr_cons (se_tk (se_callD ((D__law_turning_3 Y).mono (by decide)) hr hgd gx_pass rfl (sr_io 0 rfl (by first | exact Or.inl rfl | exact Or.inr (Or.inl rfl) | exact Or.inr (Or.inr rfl)) (sr_cons (se_tk (se_var 1)) (sr_cons (se_tk (se_var 2)) sr_nil))) (len_rIo (len_rCons (len_rCons len_rNil))))) (sr_cons (se_lrg1 rfl rfl (m_list Y) rfl (m_range Y) (se_var 2)) (sr_cons (se_mul (se_lst (sa_cons se_non sa_nil)) (se_var 2)) sr_nil))))
    (ss_cons (ss_set 3 nd rfl (by first | exact Or.inl rfl | exact Or.inr rfl) (by decide) (se_lst sa_nil))
    (ss_cons (ss_for (passes_of rfl) rfl (si_seq (se_var 6)) (sg_name 4 nd rfl (by first | exact Or.inl rfl | exact Or.inr rfl) (by decide)) (ss_cons (ss_expr (se_app (se_var 3) (se_pop1 (se_var 7) (se_callD ((D__law_pick_2 Y).mono (by decide)) hr hgd gx_pass rfl (sr_io 0 rfl (by first | exact Or.inl rfl | exact Or.inr (Or.inl rfl) | exact Or.inr (Or.inr rfl)) (sr_cons (se_tk (se_b1 call_lenU c1_len rfl (m_len Y) (by decide +kernel) (se_var 7))) sr_nil)) (len_rIo (len_rCons len_rNil))))))
    (ss_one (ss_asg (se_var 4) (sg_sub (se_var 8) (se_ix2 h64 (se_var 3) (se_neg se_int)))))))
    (ss_cons (ss_for (passes_of rfl) rfl (si_rng1 rfl (m_range Y) se_int) (sg_name 5 nd rfl (by first | exact Or.inl rfl | exact Or.inr rfl) (by decide)) (ss_cons (ss_set 9 nd rfl (by first | exact Or.inl rfl | exact Or.inr rfl) (by decide) (se_tk (se_callD ((D__law_crowd_2 Y).mono (by decide)) hr hgd gx_pass rfl (sr_io 0 rfl (by first | exact Or.inl rfl | exact Or.inr (Or.inl rfl) | exact Or.inr (Or.inr rfl)) (sr_cons (se_tk (se_var 2)) sr_nil)) (len_rIo (len_rCons len_rNil)))))
    (ss_cons (ss_par2 rfl nd rfl rfl (by decide) (by decide) rfl rfl (sr_cons (se_tk (se_b1 (cr_sum rfl) c1_sum rfl (m_sum Y) (by decide +kernel) (se_var 9))) (sr_cons (se_tk (se_b1 (call_reprT h64 hgd) c1_repr rfl (m_repr Y) (by decide +kernel) (se_lst (sa_cons (se_var 8) (sa_cons (se_var 9) sa_nil))))) sr_nil)))
    (ss_cons (ss_set 10 nd rfl (by first | exact Or.inl rfl | exact Or.inr rfl) (by decide) (se_callD ((D__law_told_3 Y).mono (by decide)) hr hgd gx_pass rfl (sr_cons (se_tk (se_var 1)) (sr_cons (se_tk (se_var 8)) (sr_cons (se_tk (se_var 9)) sr_nil))) (len_rCons (len_rCons (len_rCons len_rNil)))))
    (ss_cons (ss_if (st_eq h64 (se_mod (se_t1 call_int1 c1_int rfl (m_int Y) (by decide +kernel) (se_var 11)) se_int) se_int) (ss_one (ss_if (st_brw (st_ne h64 (se_var 10) se_str)) (ss_one (ss_ret se_bl)) ss_nil)) (ss_cons (ss_parC2 rfl nd rfl rfl (by decide) (by first | exact Or.inl rfl | exact Or.inr rfl) (by first | exact Or.inl rfl | exact Or.inr rfl) (sr_cons (se_tk se_int) (sr_cons (se_tk se_non) sr_nil)))
    (ss_cons (ss_for (passes_of rfl) rfl (si_seq (se_var 3)) (sg_name 13 nd rfl (by first | exact Or.inl rfl | exact Or.inr rfl) (by decide)) (ss_cons (ss_if (st_chain L2.op_le v2_b L2.op_lt v2_b (se_var 14) (se_fdivW (se_var 11) se_int) (se_add (se_var 14) (se_ix2 h64 (se_var 9) (se_var 13)))) (ss_one (ss_set 15 nd rfl (by first | exact Or.inl rfl | exact Or.inr rfl) (by decide) (se_tk (se_ix2 h64 (se_var 8) (se_var 13))))) ss_nil)
    (ss_one (ss_set 14 nd rfl (by first | exact Or.inl rfl | exact Or.inr rfl) (by decide) (se_tk (se_add (se_var 14) (se_ix2 h64 (se_var 9) (se_var 13))))))))
    (ss_cons (ss_if (st_brw (st_neS (se_b1 (call_reprT h64 hgd) c1_repr rfl (m_repr Y) (by decide +kernel) (se_var 10)) (se_b1 (call_reprT h64 hgd) c1_repr rfl (m_repr Y) (by decide +kernel) (se_var 15)))) (ss_one (ss_ret se_bl)) ss_nil)
    (ss_cons (ss_for (passes_of rfl) rfl (si_seq (se_callD ((D__law_pairs_1 Y).mono (by decide)) hr hgd gx_pass rfl (sr_cons (se_tk (se_var 1)) sr_nil) (len_rCons len_rNil))) (sg_tup rfl (sgs_cons (sg_name 16 nd rfl (by first | exact Or.inl rfl | exact Or.inr rfl) (by decide)) (sgs_cons (sg_name 17 nd rfl (by first | exact Or.inl rfl | exact Or.inr rfl) (by decide)) sgs_nil))) (ss_cons (ss_set 18 nd rfl (by first | exact Or.inl rfl | exact Or.inr rfl) (by decide) (se_tk (se_b1 (cr_sum rfl) c1_sum rfl (m_sum Y) (by decide +kernel) (se_lc false rfl nd (si_rng1 rfl (m_range Y) (se_var 2)) (own := [("_law_at", 19)]) (by kernel_rfl) (by decide) (by decide) (fun _ _ _ _ _ => (sg_name 19 nd rfl (by first | exact Or.inl rfl | exact Or.inr rfl) (by decide))) (fun _ _ _ _ _ => (sts_one (st_tru (se_callD ((D__law_above_3 Y).mono (by decide)) hr hgd w0_pass rfl (sr_cons (se_tk (se_ix2 h64 (se_var 8) (se_var 19))) (sr_cons (se_tk (se_var 16)) (sr_cons (se_tk (se_var 17)) sr_nil))) (len_rCons (len_rCons (len_rCons len_rNil))))))) (fun _ _ _ _ _ => (se_tk (se_ix2 h64 (se_var 9) (se_var 19))))))))
    (ss_one (ss_if (st_brw (st_ne h64 (se_callD ((D__law_above_3 Y).mono (by decide)) hr hgd gx_pass rfl (sr_cons (se_tk (se_var 10)) (sr_cons (se_tk (se_var 16)) (sr_cons (se_tk (se_var 17)) sr_nil))) (len_rCons (len_rCons (len_rCons len_rNil)))) (se_gt (se_mul se_int (se_var 18)) (se_var 11)))) (ss_one (ss_ret se_bl)) ss_nil))))
    (ss_one (ss_expr (se_app (se_var 10) se_non))))))))
    (ss_one (ss_if (st_neS (se_b1 (call_reprT h64 hgd) c1_repr rfl (m_repr Y) (by decide +kernel) (se_lst (sa_cons (se_var 8) (sa_cons (se_var 9) sa_nil)))) (se_var 12)) (ss_one (ss_ret se_bl)) ss_nil)))))))
    (ss_one (ss_ret se_bl))))))
theorem S__law_right : FnScope N__law_right ["_law_well_here", "_law_size", "_law_many"] (defScope (topS 39)) := ⟨rfl, rfl, rfl, by decide, rfl, by decide +kernel, by decide +kernel⟩
theorem D__law_right_3 (Y : Ctx K mg) : Dfn Pg w K mg base 8 "_law_right" 3 F__law_right_v8 3 [] := by
  obtain ⟨_, X, G⟩ := Y.ex
  obtain ⟨fd, FD⟩ := Y.c.def_ 24 (d := d__law_right)
  have hb : Binds K fd ["_law_well_here", "_law_size", "_law_many"] [] := FD.bindsN fun _ _ _ _ _ _ us h => by
    match us, h with
    | [a0, a1, a2], _ => rfl
  exact ⟨⟨_, fd, ["_law_well_here", "_law_size", "_law_many"], [], He.glo_ok X G (Y.c.fact 24), FD.kp, fnG_D FD S__law_right rfl fun cdv A outer s H E hr hgd => W__law_right Y cdv A outer s H E hr hgd, hb, .nil, rfl, rfl⟩⟩
def N_law : List Str := ["_law_script", "_law_k", "_law_told_here", "_law_well_here", "_law_sizes", "_law_wheel", "_law_turns", "_law_size", "_law_many"]
theorem W_law (Y : Ctx K mg) {f : Addr} (cdv : Value) (A : Around) (outer : List Env) (s : Shared) (H : Hp) (E : XK) (hr : Room 8 (A.deeper (envOfC "law" (defScope (topS 40)) s.heap.objs.size f cdv))) (hgd : A.guards = some []) :
    SSs (GX Pg w K mg base N_law "law" (defScope (topS 40)) f cdv A outer s H E) (GW E) [] (defBody (topS 40)) B_law_v8 := by
  have h64 : (A.deeper (envOfC "law" (defScope (topS 40)) s.heap.objs.size f cdv)).units + 64 < cLine := hr.units
  have h65 : (A.deeper (envOfC "law" (defScope (topS 40)) s.heap.objs.size f cdv)).units + 65 < cLine := by have := hr.un; omega
  have h1 := unl1 h64
  have h0 := unl0 h64
  have nd : N_law.Nodup := by decide
  exact (ss_cons (ss_for (passes_of rfl) rfl (si_rng1 rfl (m_range Y) (se_b2 (call_max2 rfl) c2_i rfl (m_max Y) (by decide +kernel) se_int (se_b2 (call_min2 rfl) c2_i rfl (m_min Y) (by decide +kernel) se_int (se_b1 call_lenU c1_len rfl (m_len Y) (by decide +kernel) (se_var 0))))) (sg_name 1 nd rfl (by first | exact Or.inl rfl | exact Or.inr rfl) (by decide)) (ss_cons (ss_set 3 nd rfl (by first | exact Or.inl rfl | exact Or.inr rfl) (by decide) (se_callD ((D__law_well_2 Y).mono (by decide)) hr hgd gx_pass rfl (sr_cons (se_tk (se_var 0)) (sr_cons (se_tk (se_var 1)) sr_nil)) (len_rCons (len_rCons len_rNil))))
    (ss_cons (ss_set 4 nd rfl (by first | exact Or.inl rfl | exact Or.inr rfl) (by decide) (se_tk (se_lst (sa_cons (se_tup (sa_cons (se_add se_int (se_callD ((D__law_pick_2 Y).mono (by decide)) hr hgd gx_pass rfl (sr_io 3 rfl (by first | exact Or.inl rfl | exact Or.inr (Or.inl rfl) | exact Or.inr (Or.inr rfl)) (sr_cons se_int sr_nil)) (len_rIo (len_rCons len_rNil)))) (sa_cons (se_add se_int (se_callD ((D__law_pick_2 Y).mono (by decide)) hr hgd gx_pass rfl (sr_io 3 rfl (by first | exact Or.inl rfl | exact Or.inr (Or.inl rfl) | exact Or.inr (Or.inr rfl)) (sr_cons se_int sr_nil)) (len_rIo (len_rCons len_rNil)))) sa_nil))) (sa_cons (se_tup (sa_cons se_int (sa_cons (se_add se_int (se_callD ((D__law_pick_2 Y).mono (by decide)) hr hgd gx_pass rfl (sr_io 3 rfl (by first | exact Or.inl rfl | exact Or.inr (Or.inl rfl) | exact Or.inr (Or.inr rfl)) (sr_cons se_int sr_nil)) (len_rIo (len_rCons len_rNil)))) sa_nil))) (sa_cons (se_tup (sa_cons se_int (sa_cons se_int sa_nil))) sa_nil))))))
    (ss_one (ss_for (passes_of rfl) rfl (si_seq (se_add (se_var 4) (se_mul (se_lst (sa_cons (se_tup (sa_cons se_int (sa_cons se_int sa_nil))) sa_nil)) (se_t1 call_int1 c1_int rfl (m_int Y) (by decide +kernel) (se_eq h64 (se_var 1) se_int))))) (sg_tup rfl (sgs_cons (sg_name 7 nd rfl (by first | exact Or.inl rfl | exact Or.inr rfl) (by decide)) (sgs_cons (sg_name 8 nd rfl (by first | exact Or.inl rfl | exact Or.inr rfl) (by decide)) sgs_nil))) (ss_one (ss_if (st_not (st_tru (se_callD ((D__law_right_3 Y).mono (by decide)) hr hgd gx_pass rfl (sr_io 3 rfl (by first | exact Or.inl rfl | exact Or.inr (Or.inl rfl) | exact Or.inr (Or.inr rfl)) (sr_cons (se_tk (se_var 7)) (sr_cons (se_tk (se_var 8)) sr_nil))) (len_rIo (len_rCons (len_rCons len_rNil)))))) (ss_one (ss_ret se_bl)) ss_nil)))))))
    (ss_cons (ss_par2 rfl nd rfl rfl (by decide) (by decide) rfl rfl (sr_cons (se_tk (se_lst (sa_cons (se_lst (sa_cons se_int (sa_cons se_int (sa_cons se_int sa_nil)))) (sa_cons (se_lst (sa_cons se_int (sa_cons se_int (sa_cons se_int sa_nil)))) (sa_cons (se_lst (sa_cons se_int (sa_cons se_int (sa_cons se_int sa_nil)))) sa_nil))))) (sr_cons (se_tk (se_lst (sa_cons (se_lst (sa_cons se_int (sa_cons se_int (sa_cons se_int sa_nil)))) (sa_cons (se_lst (sa_cons se_int (sa_cons se_int (sa_cons se_int sa_nil)))) (sa_cons (se_lst (sa_cons se_int (sa_cons se_int (sa_cons se_int sa_nil)))) sa_nil))))) sr_nil)))
    (ss_cons (ss_set 2 nd rfl (by first | exact Or.inl rfl | exact Or.inr rfl) (by decide) (se_tk (se_lst (sa_cons (se_callD ((D__law_told_3 Y).mono (by decide)) hr hgd gx_pass rfl (sr_cons se_int (sr_cons (se_tk (se_var 5)) (sr_cons (se_tk (se_lst (sa_cons se_int (sa_cons se_int (sa_cons se_int sa_nil))))) sr_nil))) (len_rCons (len_rCons (len_rCons len_rNil)))) (sa_cons (se_callD ((D__law_told_3 Y).mono (by decide)) hr hgd gx_pass rfl (sr_cons se_int (sr_cons (se_tk (se_var 5)) (sr_cons (se_tk (se_lst (sa_cons se_int (sa_cons se_int (sa_cons se_int sa_nil))))) sr_nil))) (len_rCons (len_rCons (len_rCons len_rNil)))) (sa_cons (se_callD ((D__law_told_3 Y).mono (by decide)) hr hgd gx_pass rfl (sr_cons se_int (sr_cons (se_tk (se_var 6)) (sr_cons (se_tk (se_lst (sa_cons se_int (sa_cons se_int (sa_cons se_int sa_nil))))) sr_nil))) (len_rCons (len_rCons (len_rCons len_rNil)))) sa_nil))))))
    (ss_one (ss_ret (se_and (se_eq h64 (se_var 2) (se_lst (sa_cons se_str (sa_cons se_str (sa_cons (se_lst (sa_cons se_int (sa_cons se_int (sa_cons se_int sa_nil)))) sa_nil))))) (se_oneA (se_eq h64 (se_callD ((D__law_told_3 Y).mono (by decide)) hr hgd gx_pass rfl (sr_cons se_int (sr_cons (se_tk (se_lst sa_nil)) (sr_cons (se_tk (se_lst sa_nil)) sr_nil))) (len_rCons (len_rCons (len_rCons len_rNil)))) se_str))))))))
theorem S_law : FnScope N_law ["_law_script"] (defScope (topS 40)) := ⟨rfl, rfl, rfl, by decide, rfl, by decide +kernel, by decide +kernel⟩
end K24
namespace Lw
open PySem Hb Nv L2
variable {α β γ σ ρ ζ : Type}
theorem bnd {p : Option α} {x : α} {f : α → Option β} {y : β} (h : p = some x) (h2 : f x = some y) : p.bind f = some y := by rw [h]; exact h2
theorem forS_inv (b : σ → α → Option σ) (P : Nat → σ → Prop) : ∀ (xs : List α) (k : Nat) (s : σ), P k s → (∀ (i : Nat) (x : α) (s : σ), xs[i]? = some x → P (k + i) s → ∃ s', b s x = some s' ∧ P (k + i + 1) s') → ∃ s', forS xs s b = some s' ∧ P (k + xs.length) s'
  | [], k, s, h, _ => ⟨s, rfl, h⟩
  | x :: r, k, s, h, hb => by
    obtain ⟨s1, e1, h1⟩ := hb 0 x s rfl h
    obtain ⟨s2, e2, h2⟩ := forS_inv b P r (k + 1) s1 h1 (fun i y s hy hp => by
      have e : k + 1 + i = k + (i + 1) := by omega
      rw [e] at hp ⊢
      exact hb (i + 1) y s (by simpa using hy) hp)
    refine ⟨s2, ?_, ?_⟩
    · show (b s x).bind _ = _
      rw [e1]; exact e2
    · rw [List.length_cons, show k + (r.length + 1) = k + 1 + r.length by omega]; exact h2
theorem forF_nx (b : σ → α → Option (Fl ρ σ)) (s : σ) : ∀ (xs : List α), (∀ x ∈ xs, b s x = some (.nx s)) → forF xs s b = some (.nx s)
  | [], _ => rfl
  | x :: r, h => by
    show (b s x).bind _ = _
    rw [h x (by simp)]
    exact forF_nx b s r fun y hy => h y (by simp [hy])
/-- a loop that only looks: it ends at the first item that is not well -/
theorem forF_all (b : Unit → α → Option (Fl ρ Unit)) (v : ρ) (p : α → Bool) : ∀ (xs : List α), (∀ x ∈ xs, b () x = some (if p x = true then .nx () else .rt v)) → forF xs () b = some (if xs.all p = true then .nx () else .rt v)
  | [], _ => rfl
  | x :: r, h => by
    show (b () x).bind _ = _
    rw [h x (by simp), List.all_cons]
    cases hp : p x with
    | true => exact forF_all b v p r fun y hy => h y (by simp [hy])
    | false => rfl
theorem mapF_ok (c : α → Option Bool) (g : α → Option γ) (p : α → Bool) (f : α → γ) : ∀ (xs : List α), (∀ x ∈ xs, c x = some (p x)) → (∀ x ∈ xs, p x = true → g x = some (f x)) → mapF xs c g = some ((xs.filter p).map f)
  | [], _, _ => rfl
  | x :: r, hc, hg => by
    have ih := mapF_ok c g p f r (fun y hy => hc y (by simp [hy])) (fun y hy => hg y (by simp [hy]))
    show (c x).bind _ = _
    rw [hc x (by simp), List.filter_cons]
    cases hp : p x with
    | true =>
      show (g x).bind _ = _
      rw [hg x (by simp) hp]
      show (mapF r c g).bind _ = _
      rw [ih]; rfl
    | false =>
      show mapF r c g = _
      rw [ih]; rfl
theorem mapT_ok (g : α → Option γ) (f : α → γ) (xs : List α) (hg : ∀ x ∈ xs, g x = some (f x)) : mapF xs (fun _ => some true) g = some (xs.map f) := by
  rw [mapF_ok (fun _ => some true) g (fun _ => true) f xs (fun _ _ => rfl) (fun x hx _ => hg x hx)]
  rw [List.filter_eq_self.mpr (fun _ _ => rfl)]
/-- the items that a test keeps -/
theorem mapC_ok (c : α → Option Bool) (p : α → Bool) (xs : List α) (hc : ∀ x ∈ xs, c x = some (p x)) : mapF xs c (fun x => some x) = some (xs.filter p) := by
  have := mapF_ok c (fun x => some x) p id xs hc (fun _ _ _ => rfl)
  rwa [List.map_id] at this
theorem whS_inv (c : σ → Option Bool) (b : σ → Option σ) (I : σ → Prop) (t : σ → Bool) (m : σ → Nat) (hc : ∀ s, I s → c s = some (t s)) (hb : ∀ s, I s → t s = true → ∃ s', b s = some s' ∧ I s' ∧ m s' < m s) : ∀ (n : Nat) (s : σ), I s → m s < n → ∃ s', whS n s c b = some s' ∧ I s' ∧ t s' = false
  | 0, s, _, h => absurd h (Nat.not_lt_zero _)
  | n + 1, s, hi, hm => by
    cases ht : t s with
    | false =>
      refine ⟨s, ?_, hi, ht⟩
      show (c s).bind _ = _
      rw [hc s hi, ht]; rfl
    | true =>
      obtain ⟨s1, e1, i1, m1⟩ := hb s hi ht
      obtain ⟨s2, e2, i2, t2⟩ := whS_inv c b I t m hc hb n s1 i1 (by omega)
      refine ⟨s2, ?_, i2, t2⟩
      show (c s).bind _ = _
      rw [hc s hi, ht]
      show (b s).bind _ = _
      rw [e1]; exact e2
def Wp (p : Option α) (Q : α → Prop) : Prop := ∃ z, p = some z ∧ Q z
theorem Wp.intro {p : Option α} {Q : α → Prop} {z : α} (h : p = some z) (q : Q z) : Wp p Q := ⟨z, h, q⟩
theorem Wp.some {Q : α → Prop} {z : α} (q : Q z) : Wp (some z) Q := ⟨z, rfl, q⟩
theorem Wp.bind {p : Option α} {f : α → Option β} {Q : β → Prop} {R : α → Prop} (h : Wp p R) (h2 : ∀ z, R z → Wp (f z) Q) : Wp (p.bind f) Q := by
  obtain ⟨z, e, r⟩ := h
  rw [e]; exact h2 z r
theorem Wp.mono {p : Option α} {Q R : α → Prop} (h : Wp p Q) (i : ∀ z, Q z → R z) : Wp p R := ⟨h.choose, h.choose_spec.1, i _ h.choose_spec.2⟩
theorem Wp.get {p : Option α} {Q : α → Prop} (h : Wp p Q) {z : α} (e : p = Option.some z) : Q z := by
  obtain ⟨y, e1, q⟩ := h
  cases e1.symm.trans e
  exact q
theorem Wp.wh {c : σ → Option Bool} {b : σ → Option σ} {n : Nat} {s : σ} {K : σ → Option ζ} {Q : ζ → Prop} (I : σ → Prop) (t : σ → Bool) (m : σ → Nat) (hc : ∀ s, I s → c s = Option.some (t s)) (hb : ∀ s, I s → t s = true → Wp (b s) fun s' => I s' ∧ m s' < m s) (hi : I s) (hm : m s < n) (hK : ∀ s, I s → t s = false → Wp (K s) Q) : Wp ((whS n s c b).bind K) Q := by
  obtain ⟨s', e, i, f⟩ := whS_inv c b I t m hc hb n s hi hm
  rw [e]; exact hK s' i f
theorem Wp.for {b : σ → α → Option σ} {xs : List α} {s : σ} {K : σ → Option ζ} {Q : ζ → Prop} (P : Nat → σ → Prop) (h : P 0 s) (hb : ∀ (i : Nat) (x : α) (s : σ), xs[i]? = Option.some x → P i s → Wp (b s x) (P (i + 1))) (hK : ∀ s, P xs.length s → Wp (K s) Q) : Wp ((forS xs s b).bind K) Q := by
  obtain ⟨s', e, i⟩ := forS_inv b P xs 0 s h (fun i x s hx hp => by rw [Nat.zero_add] at hp ⊢; exact hb i x s hx hp)
  rw [Nat.zero_add] at i
  rw [e]; exact hK s' i
theorem bs {α β : Type} (x : α) (f : α → Option β) : Option.bind (some x) f = f x := by rw [Option.bind_some]
theorem lenL_e {α : Type} (xs : List α) : lenL xs = some (xs.length : Int) := by unfold lenL; rfl
theorem addI_e (i j : Int) : addI i j = some (i + j) := by unfold addI; rfl
theorem subI_e (i j : Int) : subI i j = some (i - j) := by unfold subI; rfl
theorem negI_e (i : Int) : negI i = some (-i) := by unfold negI; rfl
theorem ltI_e (i j : Int) : ltI i j = some (decide (i < j)) := by unfold ltI; rfl
theorem leI_e (i j : Int) : leI i j = some (decide (i ≤ j)) := by unfold leI; rfl
theorem gtI_e (i j : Int) : gtI i j = some (decide (j < i)) := by unfold gtI; rfl
theorem eqN_e {α : Type} [DecidableEq α] (x y : α) : eqN x y = some (decide (x = y)) := by unfold eqN; rfl
theorem neN_e {α : Type} [DecidableEq α] (x y : α) : neN x y = some (!decide (x = y)) := by unfold neN; rfl
theorem listL_e {α : Type} (xs : List α) : listL xs = some xs := by unfold listL; rfl
theorem intI_e (i : Int) : intI i = some i := by unfold intI; rfl
theorem intB_e (k : Bool) : intB k = some (if k then 1 else 0) := by unfold intB; rfl
theorem absI_e (i : Int) : absI i = some (if i < 0 then -i else i) := by unfold absI; rfl
theorem allB_e (ns : List Bool) : allB ns = some (ns.all id) := by unfold allB; rfl
theorem sumI_e (ns : List Int) : sumI ns = some ns.sum := by unfold sumI; rfl
theorem neS_e (x y : Str) : neS x y = some !(x.cps.toList == y.cps.toList) := by unfold neS; rfl
theorem isiN_e (T : String) (d : PyData) : isiN T d = some (isiB (tyD d) T) := by unfold isiN; rfl
theorem maxI2_e (i j : Int) : maxI2 i j = some (if j > i then j else i) := by unfold maxI2; rfl
theorem minI2_e (i j : Int) : minI2 i j = some (if j < i then j else i) := by unfold minI2; rfl
/-- the numbers 0 .. n-1 -/
def iot (n : Nat) : List Int := (List.range n).map fun i : Nat => (i : Int)
theorem iot_len (n : Nat) : (iot n).length = n := by unfold iot; simp
theorem mem_iot {n : Nat} {x : Int} : x ∈ iot n ↔ 0 ≤ x ∧ x < n := by
  unfold iot
  rw [List.mem_map]
  constructor
  · rintro ⟨k, hk, rfl⟩
    rw [List.mem_range] at hk
    omega
  · rintro ⟨h0, h1⟩
    exact ⟨x.toNat, List.mem_range.mpr (by omega), by omega⟩
theorem iot_get {n k : Nat} (h : k < n) : (iot n)[k]? = some (k : Int) := by
  unfold iot
  rw [List.getElem?_map, List.getElem?_range h]; rfl
theorem iot_getI {n k : Nat} {x : Int} (h : (iot n)[k]? = some x) : x = k ∧ k < n := by
  unfold iot at h
  rw [List.getElem?_map] at h
  by_cases c : k < n
  · rw [List.getElem?_range c] at h
    exact ⟨(Option.some.inj h).symm, c⟩
  · rw [List.getElem?_eq_none (by simp; omega)] at h
    cases h
theorem iot_nodup (n : Nat) : (iot n).Nodup := by
  unfold iot
  exact List.Pairwise.map _ (fun a b (h : a ≠ b) e => h (by omega)) List.nodup_range
theorem iot_sorted (n : Nat) : (iot n).Pairwise (· ≤ ·) := by
  unfold iot
  exact List.Pairwise.map _ (fun a b (h : a < b) => by omega) (List.pairwise_lt_range (n := n))
theorem rgI0 (n : Nat) : rgI 0 n = iot n := by
  unfold rgI iot
  refine List.map_congr_left fun i _ => ?_
  omega
theorem ri1_ok (n : Int) (h : n ≤ 1000000) (h0 : 0 ≤ n) : ri1 n = some (iot n.toNat) := by
  unfold ri1
  rw [if_pos (by omega), rgI0]
theorem ri1_nat (n : Nat) (h : n ≤ 1000000) : ri1 (n : Int) = some (iot n) := by
  rw [ri1_ok _ (by omega) (by omega)]; rfl
theorem rg1_nat (n : Nat) (h : n ≤ 1000000) : rg1 (n : Int) = some (iot n) := by
  unfold rg1
  rw [if_pos (by omega)]
  unfold rgL iot
  congr 1
  rw [show ((n : Int) - 0).toNat = n by omega]
  refine List.map_congr_left fun i _ => ?_
  omega
theorem ixN_nat {n k : Nat} (h : k < n) : ixN n (k : Int) = some k := by
  unfold ixN
  rw [if_pos (by omega), if_pos (by omega)]; rfl
theorem atL_nat {xs : List α} {k : Nat} {x : α} (h : xs[k]? = some x) : atL xs (k : Int) = some x := by
  have hk : k < xs.length := (List.getElem?_eq_some_iff.mp h).1
  show atI xs _ = _
  unfold atI
  rw [ixN_nat hk]
  exact h
theorem atL_lt {xs : List α} {k : Nat} (h : k < xs.length) : atL xs (k : Int) = some xs[k] := atL_nat (List.getElem?_eq_getElem h)
theorem atL_int {xs : List α} {i : Int} (h0 : 0 ≤ i) (h1 : i < xs.length) : ∃ x, atL xs i = some x ∧ xs[i.toNat]? = some x ∧ x ∈ xs := by
  have hk : i.toNat < xs.length := by omega
  refine ⟨xs[i.toNat], ?_, List.getElem?_eq_getElem hk, List.getElem_mem hk⟩
  have := atL_lt hk
  rwa [show ((i.toNat : Nat) : Int) = i by omega] at this
theorem atL_last {xs : List α} {x : α} (h : xs.getLast? = some x) : atL xs (-1) = some x := by
  have hne : xs ≠ [] := fun e => by rw [e] at h; cases h
  have hl : 0 < xs.length := List.length_pos_iff.mpr hne
  show atI xs _ = _
  unfold atI ixN
  rw [if_neg (by omega), if_pos (by omega)]
  show xs[_]? = _
  rw [show ∀ j, j = xs.length - 1 → xs[j]? = some x from fun j e => by rw [e, ← List.getLast?_eq_getElem?]; exact h]
  omega
theorem stI_nat {xs : List α} {k : Nat} (v : α) (h : k < xs.length) : Nv.stI xs (k : Int) v = some (xs.set k v) := by
  unfold Nv.stI; rw [ixN_nat h]; rfl
theorem stI_int {xs : List α} {i : Int} (v : α) (h0 : 0 ≤ i) (h1 : i < xs.length) : Nv.stI xs i v = some (xs.set i.toNat v) := by
  have := stI_nat (xs := xs) (k := i.toNat) v (by omega)
  rwa [show ((i.toNat : Nat) : Int) = i by omega] at this
theorem cap_ge {n : Nat} (h : n ≤ 100000) : n ≤ cap := by
  have : (100000 : Nat) ≤ cap := by decide
  omega
theorem apL_ok {xs : List α} (x : α) (h : xs.length ≤ 100000) : apL xs x = some (xs ++ [x]) := by
  unfold apL; rw [if_pos (cap_ge h)]
theorem catL_ok {xs ys : List α} (h : xs.length ≤ 100000) (h2 : ys.length ≤ 100000) : catL xs ys = some (xs ++ ys) := by
  unfold catL; rw [if_pos ⟨cap_ge h, cap_ge h2⟩]
theorem popL_ok {xs : List α} {i : Int} (h0 : 0 ≤ i) (h1 : i < xs.length) (h : xs.length ≤ 100000) : ∃ x, popL xs i = some (x, xs.eraseIdx i.toNat) ∧ xs[i.toNat]? = some x := by
  have hk : i.toNat < xs.length := by omega
  refine ⟨xs[i.toNat], ?_, List.getElem?_eq_getElem hk⟩
  unfold popL
  have e := ixN_nat hk
  rw [show ((i.toNat : Nat) : Int) = i by omega] at e
  rw [e]
  show (xs[_]?).bind _ = _
  rw [List.getElem?_eq_getElem hk]
  show (if _ then _ else _) = _
  rw [if_pos (cap_ge h)]
theorem mapT_cap {α γ : Type} {g : α → Option γ} {xs : List α} (f : α → γ) (hl : xs.length ≤ 100000) (hg : ∀ x ∈ xs, g x = some (f x)) : (if List.length xs ≤ cap then mapF xs (fun _ => some true) g else none) = some (xs.map f) := by
  rw [if_pos (cap_ge hl)]; exact mapT_ok g f xs hg
theorem mapC_cap {α : Type} {c : α → Option Bool} {xs : List α} (p : α → Bool) (hl : xs.length ≤ 100000) (hc : ∀ x ∈ xs, c x = some (p x)) : (if List.length xs ≤ cap then mapF xs c (fun x => some x) else none) = some (xs.filter p) := by
  rw [if_pos (cap_ge hl)]; exact mapC_ok c p xs hc
theorem cut_from (xs : List α) (k : Nat) : cutL xs (some (k : Int)) none = xs.drop k := by
  unfold cutL
  have e : HT.sIx xs.length 0 (some (k : Int)) = min k xs.length := by
    unfold HT.sIx; simp only [show ¬ (k : Int) < 0 by omega, if_false]; omega
  have e2 : HT.sIx xs.length xs.length none = xs.length := by unfold HT.sIx; rfl
  rw [e, e2]
  by_cases c : k ≤ xs.length
  · rw [Nat.min_eq_left c, List.take_of_length_le (by simp)]
  · rw [Nat.min_eq_right (by omega), List.drop_eq_nil_of_le (Nat.le_refl _), List.drop_eq_nil_of_le (by omega)]
    simp
theorem cut_to (xs : List α) (k : Nat) : cutL xs none (some (k : Int)) = xs.take k := by
  unfold cutL
  have e : HT.sIx xs.length xs.length (some (k : Int)) = min k xs.length := by
    unfold HT.sIx; simp only [show ¬ (k : Int) < 0 by omega, if_false]; omega
  have e2 : HT.sIx xs.length 0 none = 0 := by unfold HT.sIx; rfl
  rw [e, e2]
  by_cases c : k ≤ xs.length
  · rw [Nat.min_eq_left c]; rfl
  · rw [Nat.min_eq_right (by omega), List.take_of_length_le (by simp), List.take_of_length_le (by omega)]; rfl
theorem neNil (xs : List α) : (true != List.isEmpty xs) = !xs.isEmpty := by cases xs <;> rfl
end Lw
namespace P
open PySem PySem.Spec PyProof.Rows L2 Hb Nv
open Enc (enc)
end P
namespace P
open PySem PySem.Spec PyProof.Rows L2 Hb Nv
open Enc (enc)
end P
namespace P
open PySem PySem.Spec PyProof.Rows L2 Hb Nv
open Enc (enc)
end P
namespace P
open PySem PySem.Spec PyProof.Rows L2 Hb Nv
open Enc (enc)
end P
namespace Lw
open PySem Hb Nv L2 P
theorem at0 (a b c : Int) : atL [a, b, c] 0 = some a := rfl
theorem at1 (a b c : Int) : atL [a, b, c] 1 = some b := rfl
theorem at2 (a b c : Int) : atL [a, b, c] 2 = some c := rfl
theorem st0 (a b c v : Int) : Nv.stI [a, b, c] 0 v = some [v, b, c] := rfl
theorem st2 (a b c v : Int) : Nv.stI [a, b, c] 2 v = some [a, b, v] := rfl
theorem pow18 : powW 10 18 = some 1000000000000000000 := by
  unfold powW; rw [if_pos (by decide)]; rfl
theorem modI_ok (i : Int) {j : Int} (h : 0 < j) : modI i j = some (i % j) := by unfold modI; rw [if_pos h]
theorem fdivW_ok (i : Int) {j : Int} (h : 0 < j) (h2 : j < 2 ^ 1000) : fdivW i j = some (i / j) := by unfold fdivW; rw [if_pos ⟨h, h2⟩]
theorem mulI_l (i j : Int) (h : i.natAbs < 2 ^ 64) : mulI i j = some (i * j) := by unfold mulI; rw [if_pos (.inl h)]
def Row (n : Nat) (r : List Int) : Prop := r.Perm (iot n)
theorem Row.len {n : Nat} {r : List Int} (h : Row n r) : r.length = n := by rw [List.Perm.length_eq h, iot_len]
theorem Row.mem {n : Nat} {r : List Int} (h : Row n r) {x : Int} : x ∈ r ↔ 0 ≤ x ∧ x < n := by rw [List.Perm.mem_iff h, mem_iot]
theorem Row.nodup {n : Nat} {r : List Int} (h : Row n r) : r.Nodup := (List.Perm.nodup_iff h).mpr (iot_nodup n)
theorem perm_erase {α : Type} : ∀ (l : List α) (j : Nat) (x : α), l[j]? = some x → (x :: l.eraseIdx j).Perm l
  | [], j, x, h => by simp at h
  | y :: r, 0, x, h => by
    simp at h; subst h; exact .refl _
  | y :: r, j + 1, x, h => by
    have ih := perm_erase r j x (by simpa using h)
    exact (List.Perm.swap y x _).trans (ih.cons y)
theorem perm_app1 {α : Type} (f : List α) (x : α) (l l' : List α) (h : (x :: l').Perm l) : (f ++ [x] ++ l').Perm (f ++ l) := by
  rw [List.append_assoc]
  exact List.Perm.append_left f h
end Lw
namespace P
open PySem PySem.Spec PyProof.Rows L2 Hb Nv
open Enc (enc)
end P
namespace P
open PySem PySem.Spec PyProof.Rows L2 Hb Nv
open Enc (enc)
end P
namespace P
open PySem PySem.Spec PyProof.Rows L2 Hb Nv
open Enc (enc)
end P
namespace Lw
open PySem Hb Nv L2 P
/-- where x stands -/
def pos (r : List Int) (x : Int) : Int := (r.idxOf x : Nat)
/-- what stands at k -/
def pat (r : List Int) (k : Int) : Int := (r[k.toNat]?).getD 0
theorem pos_nn (r : List Int) (x : Int) : 0 ≤ pos r x := by unfold pos; omega
theorem pos_lt {r : List Int} {x : Int} (h : x ∈ r) : pos r x < r.length := by
  have := List.idxOf_lt_length_of_mem h
  unfold pos; omega
theorem get_pos {r : List Int} {x : Int} (h : x ∈ r) : r[r.idxOf x]? = some x := by
  have hl := List.idxOf_lt_length_of_mem h
  rw [List.getElem?_eq_getElem hl, List.getElem_idxOf]
theorem pos_get {r : List Int} (hn : r.Nodup) {k : Nat} {x : Int} (h : r[k]? = some x) : pos r x = k := by
  obtain ⟨hk, e⟩ := List.getElem?_eq_some_iff.mp h
  unfold pos
  rw [← e, hn.idxOf_getElem]
theorem pat_get {r : List Int} {k : Nat} {x : Int} (h : r[k]? = some x) : pat r (k : Int) = x := by
  unfold pat
  rw [show ((k : Int)).toNat = k by omega, h]; rfl
theorem pat_pos {r : List Int} {x : Int} (h : x ∈ r) : pat r (pos r x) = x := pat_get (get_pos h)
theorem pos_pat {n : Nat} {r : List Int} (hr : Row n r) {k : Int} (h0 : 0 ≤ k) (h1 : k < n) : pos r (pat r k) = k := by
  have hk : k.toNat < r.length := by rw [hr.len]; omega
  have e := List.getElem?_eq_getElem hk
  have e2 := pat_get e
  rw [show ((k.toNat : Nat) : Int) = k by omega] at e2
  rw [e2, pos_get hr.nodup e]
  omega
theorem pos_inj {r : List Int} {x y : Int} (hx : x ∈ r) (hy : y ∈ r) (h : pos r x = pos r y) : x = y := by
  rw [← pat_pos hx, ← pat_pos hy, h]
theorem atL_pat {r : List Int} {k : Int} (h0 : 0 ≤ k) (h1 : k < r.length) : atL r k = some (pat r k) := by
  obtain ⟨x, e1, e2, _⟩ := atL_int h0 h1
  rw [e1]
  have := pat_get e2
  rw [show ((k.toNat : Nat) : Int) = k by omega] at this
  rw [this]
theorem map_pat {n : Nat} {r : List Int} (hl : r.length = n) : (iot n).map (pat r) = r := by
  apply List.ext_getElem?
  intro i
  rw [List.getElem?_map]
  by_cases c : i < n
  · rw [iot_get c]
    show some _ = _
    rw [List.getElem?_eq_getElem (by omega : i < r.length), pat_get (List.getElem?_eq_getElem (by omega : i < r.length))]
  · rw [List.getElem?_eq_none (by rw [iot_len]; omega), List.getElem?_eq_none (by omega)]; rfl
theorem map_pos_self {n : Nat} {r : List Int} (hr : Row n r) : r.map (pos r) = iot n := by
  apply List.ext_getElem?
  intro i
  rw [List.getElem?_map]
  by_cases c : i < n
  · have e := List.getElem?_eq_getElem (by rw [hr.len]; omega : i < r.length)
    rw [iot_get c, e]
    show some _ = _
    rw [pos_get hr.nodup e]
  · rw [List.getElem?_eq_none (by rw [hr.len]; omega), List.getElem?_eq_none (by rw [iot_len]; omega)]; rfl
/-- a row in the words of another -/
theorem map_pos_row {n : Nat} {p r : List Int} (hp : Row n p) (hr : Row n r) : (r.map (pos p)).Perm (iot n) := by
  have h : (r.map (pos p)).Perm (p.map (pos p)) := (List.Perm.trans hr (List.Perm.symm hp)).map _
  rw [map_pos_self hp] at h
  exact h
theorem map_pat_pos {r q : List Int} (h : ∀ x ∈ q, x ∈ r) : (q.map (pos r)).map (pat r) = q := by
  rw [List.map_map]
  have : ∀ x ∈ q, (pat r ∘ pos r) x = id x := fun x hx => pat_pos (h x hx)
  rw [List.map_congr_left this, List.map_id]
theorem ranks_ok {n : Nat} {r : List Int} (hr : Row n r) (hn : n ≤ 900) : Wp (n_ranks_in r) fun rk => ∀ x : Int, 0 ≤ x → x < n → atL rk x = some (pos r x) := by
  have hl := hr.len
  unfold n_ranks_in
  have e0 : repL [(0 : Int)] (r.length : Int) = some (List.replicate r.length (0 : Int)) := by
    unfold repL
    rw [if_pos ⟨by simp, by omega, by omega⟩]
    congr 1
    rw [show ((r.length : Int)).toNat = r.length by omega]
    generalize r.length = m
    induction m with
    | zero => rfl
    | succ m ih => rw [List.replicate_succ, List.flatten_cons, ih]; rfl
  simp only [bs, lenL_e, e0]
  refine Wp.for (fun i s => s.length = n ∧ ∀ j x, j < i → r[j]? = some x → s[x.toNat]? = some (j : Int)) ⟨by simp [hl], fun j x h => absurd h (Nat.not_lt_zero _)⟩ ?_ ?_
  · intro i y s hy ⟨hs, hi⟩
    unfold enumL at hy
    rw [List.getElem?_map, List.getElem?_zipIdx] at hy
    cases q : r[i]? with
    | none => rw [q] at hy; cases hy
    | some z =>
      rw [q] at hy
      have hy : ((0 + i : Nat) : Int) = y.1 ∧ z = y.2 := by
        have := Option.some.inj hy
        subst this
        exact ⟨rfl, rfl⟩
      have hz := hr.mem.mp (List.mem_of_getElem? q)
      refine ⟨s.set z.toNat y.1, ?_, by simp [hs], fun j x hj hx => ?_⟩
      · rw [← hy.2, stI_int _ hz.1 (by omega)]; rfl
      · have hx0 := hr.mem.mp (List.mem_of_getElem? hx)
        by_cases c : j = i
        · subst c
          rw [q] at hx
          cases hx
          rw [List.getElem?_set_self (by omega)]
          rw [← hy.1]; simp
        · have : z.toNat ≠ x.toNat := by
            intro e
            have : z = x := by omega
            subst this
            have e1 := pos_get hr.nodup q
            have e2 := pos_get hr.nodup hx
            omega
          rw [List.getElem?_set_ne this]
          exact hi j x (by omega) hx
  · intro s ⟨hs, hi⟩
    refine .some fun x h0 h1 => ?_
    have hx := hr.mem.mpr ⟨h0, h1⟩
    have e := hi (r.idxOf x) x (by unfold enumL; simp [List.idxOf_lt_length_of_mem hx]) (get_pos hx)
    have := atL_nat e
    rwa [show ((x.toNat : Nat) : Int) = x by omega] at this
def fl : Int → Int → List Int → Bool
  | _, _, [] => true
  | lo, hi, x :: r => if x = lo - 1 then fl (lo - 1) hi r else if x = hi + 1 then fl lo (hi + 1) r else false
end Lw
namespace Lw
open PySem Hb Nv L2 P
/-- the last first: what stands before is between -/
inductive Dn : Int → Int → List Int → Prop
  | one (x : Int) : Dn x x [x]
  | lo {lo hi : Int} {q : List Int} : Dn (lo + 1) hi q → Dn lo hi (lo :: q)
  | hi {lo hi : Int} {q : List Int} : Dn lo (hi - 1) q → Dn lo hi (hi :: q)
theorem Dn.mem {lo hi : Int} {q : List Int} (h : Dn lo hi q) : lo ≤ hi ∧ ∀ x, x ∈ q ↔ lo ≤ x ∧ x ≤ hi := by
  induction h with
  | one x => exact ⟨Int.le_refl _, fun y => by rw [List.mem_singleton]; omega⟩
  | lo _ ih => exact ⟨by omega, fun y => by rw [List.mem_cons, ih.2]; omega⟩
  | hi _ ih => exact ⟨by omega, fun y => by rw [List.mem_cons, ih.2]; omega⟩
theorem rgI_cons (a : Int) (k : Nat) : rgI a (k + 1) = a :: rgI (a + 1) k := by
  unfold rgI
  rw [List.range_succ_eq_map, List.map_cons, List.map_map]
  congr 1
  · omega
  · refine List.map_congr_left fun i _ => ?_
    show a + ((i + 1 : Nat) : Int) = _
    omega
theorem rgI_snoc (a : Int) (k : Nat) : rgI a (k + 1) = rgI a k ++ [a + (k : Int)] := by
  unfold rgI
  rw [List.range_succ, List.map_append]; rfl
theorem Dn.perm {lo hi : Int} {q : List Int} (h : Dn lo hi q) : q.Perm (rgI lo q.length) ∧ (q.length : Int) = hi - lo + 1 := by
  induction h with
  | one x => exact ⟨by show [x].Perm [x + ((0 : Nat) : Int)]; rw [show x + ((0 : Nat) : Int) = x by omega], by simp⟩
  | lo _ ih =>
    rw [List.length_cons, rgI_cons]
    exact ⟨ih.1.cons _, by have := ih.2; omega⟩
  | @hi lo hi q _ ih =>
    rw [List.length_cons, rgI_snoc]
    have e : lo + (q.length : Int) = hi := by have := ih.2; omega
    rw [e]
    exact ⟨(ih.1.cons hi).trans (by simpa using (List.perm_append_comm (l₁ := [hi]) (l₂ := rgI lo q.length))), by have := ih.2; omega⟩
theorem Dn.nodup {lo hi : Int} {q : List Int} (h : Dn lo hi q) : q.Nodup := by
  induction h with
  | one x => simp
  | @lo lo hi q d ih => exact List.nodup_cons.mpr ⟨fun m => by have := (d.mem.2 _).mp m; omega, ih⟩
  | @hi lo hi q d ih => exact List.nodup_cons.mpr ⟨fun m => by have := (d.mem.2 _).mp m; omega, ih⟩
end Lw
namespace P
open PySem PySem.Spec PyProof.Rows L2 Hb Nv
open Enc (enc)
end P
namespace P
open PySem PySem.Spec PyProof.Rows L2 Hb Nv
open Enc (enc)
end P
namespace Lw
open PySem Hb Nv L2 P
theorem pat_mem {r : List Int} {k : Int} (h0 : 0 ≤ k) (h1 : k < r.length) : pat r k ∈ r := by
  obtain ⟨x, _, e, m⟩ := atL_int h0 h1
  unfold pat
  rw [e]; exact m
theorem idxL_pos {s : List Int} {x : Int} (h : x ∈ s) : idxL s x = some (pos s x) := by
  unfold idxL
  have e : (s.findIdx? fun z => decide (z = x)) = some (s.idxOf x) := by
    have hf : (fun z : Int => decide (z = x)) = (fun z => z == x) := by
      funext z
      rfl
    rw [hf]
    rw [List.findIdx?_eq_some_iff_findIdx_eq]
    exact ⟨List.idxOf_lt_length_of_mem h, rfl⟩
  rw [e]; rfl
end Lw
namespace P
open PySem PySem.Spec PyProof.Rows L2 Hb Nv
open Enc (enc)
end P
namespace P
open PySem PySem.Spec PyProof.Rows L2 Hb Nv
open Enc (enc)
end P
namespace Lw
open PySem Hb Nv L2 P
/-- the row with the two at k and k+1 exchanged -/
def ex2 (r : List Int) (k : Nat) : List Int := r.take k ++ [pat r ((k : Int) + 1), pat r (k : Int)] ++ r.drop (k + 2)
theorem at_split {r : List Int} {k : Nat} (h : k + 1 < r.length) : ∃ u x y v, r = u ++ x :: y :: v ∧ u.length = k := by
  refine ⟨r.take k, r[k], r[k + 1], r.drop (k + 2), ?_, by simp; omega⟩
  have e1 : r.drop k = r[k] :: r.drop (k + 1) := List.drop_eq_getElem_cons (by omega)
  have e2 : r.drop (k + 1) = r[k + 1] :: r.drop (k + 2) := List.drop_eq_getElem_cons h
  rw [← e2, ← e1, List.take_append_drop]
theorem split_at (u v : List Int) (x y : Int) : pat (u ++ x :: y :: v) (u.length : Int) = x ∧ pat (u ++ x :: y :: v) ((u.length : Int) + 1) = y ∧ ex2 (u ++ x :: y :: v) u.length = u ++ y :: x :: v := by
  have h1 : pat (u ++ x :: y :: v) (u.length : Int) = x := pat_get (by simp)
  have h2 : pat (u ++ x :: y :: v) ((u.length : Int) + 1) = y := pat_get (k := u.length + 1) (by simp)
  refine ⟨h1, h2, ?_⟩
  unfold ex2
  rw [h1, h2]
  have e1 : (u ++ x :: y :: v).take u.length = u := by simp
  have e2 : (u ++ x :: y :: v).drop (u.length + 2) = v := by
    rw [List.drop_append]
    simp
  rw [e1, e2, List.append_assoc]
  rfl
theorem ex2_perm {r : List Int} {k : Nat} (h : k + 1 < r.length) : (ex2 r k).Perm r := by
  obtain ⟨u, x, y, v, rfl, rfl⟩ := at_split h
  rw [(split_at u v x y).2.2]
  exact List.Perm.append_left u (List.Perm.swap x y v)
theorem ex2_row {n : Nat} {r : List Int} {k : Nat} (hr : Row n r) (h : k + 1 < n) : Row n (ex2 r k) := List.Perm.trans (ex2_perm (by rw [hr.len]; exact h)) hr
theorem ex2_prog {r : List Int} {k : Nat} (h : k + 1 < r.length) (hl : r.length ≤ 1000) : atL r (k : Int) = some (pat r k) ∧ atL r ((k : Int) + 1) = some (pat r ((k : Int) + 1)) ∧ cutL r none (some (k : Int)) = r.take k ∧ cutL r (some ((k : Int) + 2)) none = r.drop (k + 2) ∧ catL (r.take k) [pat r ((k : Int) + 1), pat r (k : Int)] = some (r.take k ++ [pat r ((k : Int) + 1), pat r (k : Int)]) ∧ catL (r.take k ++ [pat r ((k : Int) + 1), pat r (k : Int)]) (r.drop (k + 2)) = some (ex2 r k) := by
  refine ⟨atL_pat (by omega) (by omega), atL_pat (by omega) (by omega), cut_to r k, cut_from r (k + 2), catL_ok (by simp; omega) (by simp), catL_ok (by simp; omega) (by simp; omega)⟩
end Lw
namespace P
open PySem PySem.Spec PyProof.Rows L2 Hb Nv
open Enc (enc)
end P
namespace P
open PySem PySem.Spec PyProof.Rows L2 Hb Nv
open Enc (enc)
end P
namespace P
open PySem PySem.Spec PyProof.Rows L2 Hb Nv
open Enc (enc)
end P
namespace P
open PySem PySem.Spec PyProof.Rows L2 Hb Nv
open Enc (enc)
end P
namespace P
open PySem PySem.Spec PyProof.Rows L2 Hb Nv
open Enc (enc)
end P
namespace Lw
open PySem Hb Nv L2 P
open Enc (enc)
def isInt : PyData → Bool
  | .int _ => true
  | _ => false
def isNn : PyData → Bool
  | .int i => decide (0 ≤ i)
  | _ => false
theorem isi_i (i : Int) : isiN "int" (.int i) = some true := rfl
theorem isi_ib (i : Int) : isiN "bool" (.int i) = some false := rfl
theorem isi_b (i : Bool) : isiN "int" (.bool i) = some true := rfl
theorem isi_bb (i : Bool) : isiN "bool" (.bool i) = some true := rfl
theorem isi_l (ds : List PyData) : isiN "list" (.list ds) = some true := rfl
theorem isi_nl {d : PyData} (h : ∀ ds, d ≠ .list ds) : isiN "list" d = some false := by
  cases d with
  | list ds => exact absurd rfl (h ds)
  | _ => rfl
theorem isi_ni {d : PyData} (h : ∀ i, d ≠ .int i) (h2 : ∀ i, d ≠ .bool i) : isiN "int" d = some false := by
  cases d with
  | int i => exact absurd rfl (h i)
  | bool i => exact absurd rfl (h2 i)
  | _ => rfl
theorem lenA_l (ds : List PyData) : lenA (.list ds) = some (ds.length : Int) := rfl
theorem seqA_l (ds : List PyData) : seqA (.list ds) = some ds := rfl
theorem asI_i (i : Int) : asIntA (.int i) = some i := rfl
theorem bnot_t : (!true) = false := rfl
theorem bnot_f : (!false) = true := rfl
theorem integer_ok (d : PyData) : n_is_integer d 0 none = some (isNn d) := by
  by_cases h1 : ∃ i, d = .int i
  · obtain ⟨i, rfl⟩ := h1
    unfold n_is_integer
    simp only [bs, isi_i, isi_ib, asI_i, leI_e, bnot_t, Bool.false_eq_true, if_false, Option.isNone_none, if_true]
    by_cases c : 0 ≤ i
    · rw [if_pos (decide_eq_true c)]
      show _ = some (decide (0 ≤ i))
      rw [decide_eq_true c]; rfl
    · rw [if_neg (by rw [decide_eq_true_eq]; exact c)]
      show _ = some (decide (0 ≤ i))
      rw [decide_eq_false c]; rfl
  · by_cases h2 : ∃ i, d = .bool i
    · obtain ⟨b, rfl⟩ := h2
      unfold n_is_integer
      simp only [bs, isi_b, isi_bb, bnot_t, Bool.false_eq_true, if_false, if_true]
      rfl
    · have n1 : ∀ i, d ≠ .int i := fun i e => h1 ⟨i, e⟩
      have n2 : ∀ i, d ≠ .bool i := fun i e => h2 ⟨i, e⟩
      unfold n_is_integer
      simp only [bs, isi_ni n1 n2, bnot_f, if_true]
      cases d with
      | int i => exact absurd rfl (n1 i)
      | _ => rfl
theorem ints_or (ds : List PyData) : (∃ ns, ds = ns.map PyData.int ∧ intsOf ds = some ns) ∨ (intsOf ds = none ∧ ds.all isInt = false) := by
  induction ds with
  | nil => exact .inl ⟨[], rfl, rfl⟩
  | cons d r ih =>
    cases d with
    | int i =>
      rcases ih with ⟨ns, e1, e2⟩ | ⟨e1, e2⟩
      · exact .inl ⟨i :: ns, by rw [e1]; rfl, by rw [intsOf, e2]; rfl⟩
      · exact .inr ⟨by rw [intsOf, e1]; rfl, by simp [isInt, e2]⟩
    | _ => exact .inr ⟨rfl, by simp [isInt]⟩
theorem ints_of (ns : List Int) : intsOf (ns.map PyData.int) = some ns := by
  induction ns with
  | nil => rfl
  | cons i r ih => rw [List.map_cons, intsOf, ih]; rfl
def rowB (n : Nat) : PyData → Bool
  | .list ds => match intsOf ds with
    | some ns => decide (sortI ns = iot n)
    | none => false
  | _ => false
theorem rowB_iff {n : Nat} {d : PyData} : rowB n d = true ↔ ∃ ns : List Int, d = enc ns ∧ Row n ns := by
  constructor
  · intro h
    cases d with
    | list ds =>
      change (match intsOf ds with
        | some ns => decide (sortI ns = iot n)
        | none => false) = true at h
      rcases ints_or ds with ⟨ns, rfl, e⟩ | ⟨e, _⟩
      · rw [e] at h
        have h := of_decide_eq_true h
        exact ⟨ns, rfl, by have := sortI_perm ns; rw [h] at this; exact this.symm⟩
      · rw [e] at h; cases h
    | _ => cases h
  · rintro ⟨ns, rfl, h⟩
    show (match intsOf (ns.map PyData.int) with
      | some ns => decide (sortI ns = iot n)
      | none => false) = true
    rw [ints_of]
    exact decide_eq_true (sortI_eq (List.Perm.symm h) (iot_sorted n)).symm
/-- a value whose lists are not too long -/
def Sml (d : PyData) : Prop := ∀ ds, d = .list ds → ds.length ≤ 100000
theorem each_ok {n : Nat} (hn : n ≤ 1000) {d : PyData} (hd : Sml d) : n_is_each_once (n : Int) d = some (rowB n d) := by
  by_cases hl : ∃ ds, d = .list ds
  · obtain ⟨ds, rfl⟩ := hl
    have hs := hd ds rfl
    unfold n_is_each_once
    simp only [bs, isi_l, bnot_t, Bool.false_eq_true, if_false, lenA_l, seqA_l, neN_e, allB_e]
    by_cases c : (ds.length : Int) = (n : Int)
    · simp only [c, decide_true, bnot_t, Bool.false_eq_true, if_false]
      rw [mapT_cap isNn hs (fun x _ => integer_ok x)]
      simp only [bs]
      rcases ints_or ds with ⟨ns, rfl, e⟩ | ⟨e, e2⟩
      · have e3 : srtAC (.list (ns.map PyData.int)) = some (sortI ns) := by
          show (intsOf _).bind _ = _
          rw [e]
          show (if _ then _ else _) = _
          rw [if_pos (cap_ge (by simpa using hs))]
        have e4 : rg1 (n : Int) = some (iot n) := rg1_nat n (by omega)
        have e5 : rowB n (.list (ns.map PyData.int)) = decide (sortI ns = iot n) := by
          show (match intsOf (ns.map PyData.int) with
            | some ns => decide (sortI ns = iot n)
            | none => false) = _
          rw [e]
        rw [e3, e4, e5]
        simp only [bs, eqN_e]
        by_cases a : (List.map isNn (List.map PyData.int ns)).all id = true
        · simp only [a, bnot_t, Bool.false_eq_true, if_false]
        · have a' : (List.map isNn (List.map PyData.int ns)).all id = false := by simpa using a
          simp only [a', bnot_f, if_true]
          congr 1
          refine (decide_eq_false fun hq => a ?_).symm
          rw [List.all_eq_true]
          intro b hb
          rw [List.map_map] at hb
          obtain ⟨i, hi, rfl⟩ := List.mem_map.mp hb
          have : i ∈ sortI ns := (sortI_perm ns).mem_iff.mpr hi
          rw [hq, mem_iot] at this
          show decide (0 ≤ i) = true
          exact decide_eq_true this.1
      · have a' : (List.map isNn ds).all id = false := by
          rw [List.all_eq_false] at e2 ⊢
          obtain ⟨x, hx, h⟩ := e2
          refine ⟨isNn x, List.mem_map_of_mem hx, ?_⟩
          cases x with
          | int i => exact absurd rfl h
          | _ => exact fun z => nomatch z
        simp only [a', bnot_f, if_true]
        show _ = some (match intsOf ds with
          | some ns => decide (sortI ns = iot n)
          | none => false)
        rw [e]
    · simp only [c, decide_false, bnot_f, if_true, bs]
      refine congrArg some (Eq.symm ?_)
      refine Bool.eq_false_iff.mpr fun h => ?_
      obtain ⟨ns, e, hr⟩ := rowB_iff.mp h
      have e : ds = ns.map PyData.int := PyData.list.inj e
      have := hr.len
      subst e
      simp at c
      omega
  · have hn : ∀ ds, d ≠ .list ds := fun ds e => hl ⟨ds, e⟩
    unfold n_is_each_once
    simp only [bs, isi_nl hn, bnot_f, if_true]
    cases d with
    | list ds => exact absurd rfl (hn ds)
    | _ => rfl
theorem sml_ints {ns : List Int} (h : ns.length ≤ 100000) : Sml (enc ns) := fun ds e => by
  have e : ns.map PyData.int = ds := PyData.list.inj e
  rw [← e]; simpa using h
theorem rowB_row {n : Nat} {r : List Int} (h : Row n r) : rowB n (enc r) = true := rowB_iff.mpr ⟨r, rfl, h⟩
theorem sml_row {n : Nat} {r : List Int} (h : Row n r) (hn : n ≤ 1000) : Sml (enc r) := sml_ints (by rw [h.len]; omega)
theorem integer12 {n : Nat} (h1 : 1 ≤ n) (h2 : n ≤ 12) : n_is_integer (.int (n : Int)) 1 (some 12) = some true := by
  unfold n_is_integer
  have a : (1 : Int) ≤ (n : Int) := by omega
  have b : (n : Int) ≤ 12 := by omega
  simp only [bs, isi_i, isi_ib, asI_i, leI_e, bnot_t, Bool.false_eq_true, if_false, Option.isNone_some, decide_eq_true a, decide_eq_true b, if_true]
end Lw
namespace P
open PySem PySem.Spec PyProof.Rows L2 Hb Nv
open Enc (enc)
end P
namespace Lw
open PySem Hb Nv L2 P
open Enc (enc)
/-- the two rank them otherwise -/
def Dis (r s : List Int) (a b : Int) : Bool := decide (pos r a < pos r b) != decide (pos s a < pos s b)
theorem iot_drop {n k : Nat} : (iot n).drop k = rgI (k : Int) (n - k) := by
  apply List.ext_getElem?
  intro i
  rw [List.getElem?_drop]
  unfold rgI
  rw [List.getElem?_map]
  by_cases c : i < n - k
  · rw [List.getElem?_range c, iot_get (by omega)]
    show some _ = some _
    congr 1
  · rw [List.getElem?_eq_none (by rw [iot_len]; omega), List.getElem?_eq_none (by simp; omega)]; rfl
theorem ri2_nat (a b : Nat) (h : b ≤ 1000000) (h2 : a ≤ 1000000) : ri2 (a : Int) (b : Int) = some ((iot b).drop a) := by
  unfold ri2
  rw [if_pos (by omega), iot_drop]
  congr 2
  omega
end Lw
namespace P
open PySem PySem.Spec PyProof.Rows L2 Hb Nv
open Enc (enc)
end P
namespace P
open PySem PySem.Spec PyProof.Rows L2 Hb Nv
open Enc (enc)
end P
namespace Lw
open PySem Hb Nv L2 P
open Enc (enc)
def Okv (v : PyData) : Prop := ∀ ds, v = .list ds → ds.length ≤ 100000 ∧ ∀ d ∈ ds, Sml d
theorem isi_rows (rows : List (List Int)) : isiN "list" (enc rows) = some true := rfl
theorem lenA_rows (rows : List (List Int)) : lenA (enc rows) = some (rows.length : Int) := by
  show some (((rows.map enc).length : Nat) : Int) = _
  rw [List.length_map]
theorem seqA_rows (rows : List (List Int)) : seqA (enc rows) = some (rows.map enc) := rfl
end Lw
namespace Lw
open PySem Hb Nv L2 P
open Enc (enc)
structure Vd (D W : Nat) (d : PyData) : Prop where
  hs : shw d = true
  hl : d.leavesShort 13 = true
  hd : d.depth ≤ D
  hw : d.weight ≤ W
structure Va (D W : Nat) (xs : List PyData) : Prop where
  s : shwAll xs = true
  l : PyData.leavesShortAll 13 xs = true
  d : PyData.depthAll xs ≤ D
  w : PyData.weightAll xs ≤ W
theorem Vd.mono {D W D' W' : Nat} {d : PyData} (h : Vd D W d) (h1 : D ≤ D') (h2 : W ≤ W') : Vd D' W' d := ⟨h.hs, h.hl, Nat.le_trans h.hd h1, Nat.le_trans h.hw h2⟩
theorem Va.mono {D W D' W' : Nat} {d : List PyData} (h : Va D W d) (h1 : D ≤ D') (h2 : W ≤ W') : Va D' W' d := ⟨h.s, h.l, Nat.le_trans h.d h1, Nat.le_trans h.w h2⟩
theorem Va.nil : Va 0 0 [] := ⟨by simp [shwAll], by simp [PyData.leavesShortAll], by simp [PyData.depthAll], by simp [PyData.weightAll]⟩
theorem Va.cons {D W W' : Nat} {x : PyData} {xs : List PyData} (h : Vd D W x) (h' : Va D W' xs) : Va D (W + 1 + W') (x :: xs) := by
  have a1 := h.hd
  have a2 := h.hw
  have a3 := h'.d
  have a4 := h'.w
  exact ⟨by simp [shwAll, h.hs, h'.s], by simp [PyData.leavesShortAll, h.hl, h'.l], by simp only [PyData.depthAll]; omega, by simp only [PyData.weightAll]; omega⟩
theorem shw_app : ∀ xs ys : List PyData, shwAll (xs ++ ys) = (shwAll xs && shwAll ys)
  | [], ys => by simp [shwAll]
  | x :: r, ys => by simp [shwAll, shw_app r ys, Bool.and_assoc]
theorem lsh_app : ∀ xs ys : List PyData, PyData.leavesShortAll 13 (xs ++ ys) = (PyData.leavesShortAll 13 xs && PyData.leavesShortAll 13 ys)
  | [], ys => by simp [PyData.leavesShortAll]
  | x :: r, ys => by simp [PyData.leavesShortAll, lsh_app r ys, Bool.and_assoc]
theorem dep_app : ∀ xs ys : List PyData, PyData.depthAll (xs ++ ys) = max (PyData.depthAll xs) (PyData.depthAll ys)
  | [], ys => by simp [PyData.depthAll]
  | x :: r, ys => by simp [PyData.depthAll, dep_app r ys, Nat.max_assoc]
theorem wei_app : ∀ xs ys : List PyData, PyData.weightAll (xs ++ ys) = PyData.weightAll xs + PyData.weightAll ys
  | [], ys => by simp [PyData.weightAll]
  | x :: r, ys => by simp [PyData.weightAll, wei_app r ys, Nat.add_assoc]
theorem Va.app {D W W' : Nat} {xs ys : List PyData} (h : Va D W xs) (h' : Va D W' ys) : Va D (W + W') (xs ++ ys) := by
  refine ⟨by rw [shw_app, h.s, h'.s]; rfl, by rw [lsh_app, h.l, h'.l]; rfl, ?_, ?_⟩
  · rw [dep_app]
    have h1 := h.d
    have h2 := h'.d
    omega
  · rw [wei_app]
    exact Nat.add_le_add h.w h'.w
theorem Va.list {D W : Nat} {xs : List PyData} (h : Va D W xs) : Vd (D + 1) W (.list xs) := by
  obtain ⟨h1, h2, h3, h4⟩ := h
  exact ⟨by simpa [shw] using h1, by simpa [PyData.leavesShort] using h2, by simp only [PyData.depth]; omega, by simpa only [PyData.weight] using h4⟩
theorem Va.tup {D W : Nat} {xs : List PyData} (h : Va D W xs) : Vd (D + 1) W (.tuple xs) := by
  obtain ⟨h1, h2, h3, h4⟩ := h
  exact ⟨by simpa [shw] using h1, by simpa [PyData.leavesShort] using h2, by simp only [PyData.depth]; omega, by simpa only [PyData.weight] using h4⟩
end Lw
namespace P
open PySem PySem.Spec PyProof.Rows L2 Hb Nv
open Enc (enc)
end P
namespace Lw
open PySem Hb Nv L2 P
open Enc (enc)
/-- a value to be judged -/
def Val (W : Nat) (d : PyData) : Prop := Okv d ∧ Vd 4 W d
theorem Val.mono {W W' : Nat} {d : PyData} (h : Val W d) (hw : W ≤ W') : Val W' d := ⟨h.1, h.2.mono (Nat.le_refl _) hw⟩
end Lw
namespace P
open PySem PySem.Spec PyProof.Rows L2 Hb Nv
open Enc (enc)
end P
namespace P
open PySem PySem.Spec PyProof.Rows L2 Hb Nv
open Enc (enc)
end P
namespace P
open PySem PySem.Spec PyProof.Rows L2 Hb Nv
open Enc (enc)
end P
namespace P
open PySem PySem.Spec PyProof.Rows L2 Hb Nv
open Enc (enc)
end P
namespace P
open PySem PySem.Spec PyProof.Rows L2 Hb Nv
open Enc (enc)
end P
namespace Lw
open PySem Hb Nv L2 P
open Enc (enc)
variable {α β γ σ ρ ζ : Type}
def inRng (lo : Int) (hi : Option Int) : PyData → Bool
  | .int i => decide (lo ≤ i) && (match hi with
    | none => true
    | some h => decide (i ≤ h))
  | _ => false
theorem integer_gen (d : PyData) (lo : Int) (hi : Option Int) : n_is_integer d lo hi = some (inRng lo hi d) := by
  by_cases h1 : ∃ i, d = .int i
  · obtain ⟨i, rfl⟩ := h1
    unfold n_is_integer inRng
    simp only [bs, isi_i, isi_ib, asI_i, leI_e, bnot_t, Bool.false_eq_true, if_false]
    by_cases c : lo ≤ i
    · rw [if_pos (decide_eq_true c)]
      simp only [decide_eq_true c, Bool.true_and]
      cases hi with
      | none => rfl
      | some h => rfl
    · rw [if_neg (by rw [decide_eq_true_eq]; exact c)]
      simp only [decide_eq_false c, Bool.false_and, bs]
  · by_cases h2 : ∃ i, d = .bool i
    · obtain ⟨b, rfl⟩ := h2
      unfold n_is_integer
      simp only [bs, isi_b, isi_bb, bnot_t, Bool.false_eq_true, if_false, if_true]
      rfl
    · have n1 : ∀ i, d ≠ .int i := fun i e => h1 ⟨i, e⟩
      have n2 : ∀ i, d ≠ .bool i := fun i e => h2 ⟨i, e⟩
      unfold n_is_integer
      simp only [bs, isi_ni n1 n2, bnot_f, if_true]
      cases d with
      | int i => exact absurd rfl (n1 i)
      | _ => rfl
theorem inRng_i {lo i : Int} {h : Int} (a : lo ≤ i) (b : i ≤ h) : inRng lo (some h) (.int i) = true := by
  unfold inRng
  simp only [decide_eq_true a, decide_eq_true b, Bool.and_self]
theorem count_ok {n : Nat} (h1 : 1 ≤ n) (hn : n ≤ 12) : n_need_count (enc (n : Int)) 12 = some () := by
  unfold n_need_count
  have e : n_is_integer (enc (n : Int)) 1 (some 12) = some true := integer12 h1 hn
  simp only [bs, e, bnot_t, Bool.false_eq_true, if_false]
theorem eachs_ok {n : Nat} {f : List (List Int)} (hf : ∀ z ∈ f, Row n z) (hn : n ≤ 1000) (hl : f.length ≤ 40) : n_are_each_once (n : Int) (enc f) = some true := by
  unfold n_are_each_once
  have e1 : isiN "list" (enc f) = some true := isi_rows f
  have e2 : lenA (enc f) = some (f.length : Int) := lenA_rows f
  have e3 : seqA (enc f) = some (f.map enc) := seqA_rows f
  simp only [bs, e1, e2, e3, leI_e, decide_eq_true (by omega : (f.length : Int) ≤ 40), if_true]
  refine bnd (bnd (mapT_cap (fun _ => true) (by rw [List.length_map]; omega) fun x hx => ?_) (allB_e _)) ?_
  · obtain ⟨z, hz, rfl⟩ := List.mem_map.mp hx
    rw [each_ok hn (sml_row (hf z hz) hn), rowB_row (hf z hz)]
  · congr 1
    rw [List.all_eq_true]
    intro b hb
    obtain ⟨z, _, rfl⟩ := List.mem_map.mp hb
    rfl
theorem ballots_ok {n : Nat} {f : List (List Int)} (hf : ∀ z ∈ f, Row n z) (hn : n ≤ 1000) (hl : f.length ≤ 40) : n_need_ballots (n : Int) (enc f) = some () := by
  unfold n_need_ballots
  simp only [bs, eachs_ok hf hn hl, bnot_t, Bool.false_eq_true, if_false]
theorem forS_fm {b : List γ → α → Option (List γ)} (F : α → List γ) {N : Nat} : ∀ {xs : List α} {s : List γ}, (∀ s, ∀ x ∈ xs, s.length ≤ N → b s x = some (s ++ F x)) → s.length + (xs.flatMap F).length ≤ N → forS xs s b = some (s ++ xs.flatMap F)
  | [], s, _, _ => by rw [List.flatMap_nil, List.append_nil]; rfl
  | x :: r, s, h, hl => by
    rw [List.flatMap_cons, List.length_append] at hl
    show (b s x).bind _ = _
    rw [h s x (by simp) (by omega), List.flatMap_cons, ← List.append_assoc]
    exact forS_fm F (fun s y hy => h s y (by simp [hy])) (by rw [List.length_append]; omega)
theorem fm_len {F : α → List γ} {k : Nat} (h : ∀ x, (F x).length ≤ k) : ∀ xs : List α, (xs.flatMap F).length ≤ xs.length * k
  | [] => by simp
  | x :: r => by
    rw [List.flatMap_cons, List.length_append, List.length_cons, Nat.add_mul, Nat.one_mul]
    have := fm_len h r
    have := h x
    omega
theorem fm_congr {F G : α → List γ} : ∀ {xs : List α}, (∀ x ∈ xs, F x = G x) → xs.flatMap F = xs.flatMap G
  | [], _ => rfl
  | x :: r, h => by
    rw [List.flatMap_cons, List.flatMap_cons, h x (by simp), fm_congr fun y hy => h y (by simp [hy])]
/-- the pairs (lesser first) of which D holds -/
def prsF (D : Int → Int → Bool) (a b : Int) : List (Int × Int) := if decide (a < b) && D a b then [(a, b)] else []
def prs (D : Int → Int → Bool) (n : Nat) : List (Int × Int) := (iot n).flatMap fun a => (iot n).flatMap fun b => prsF D a b
theorem prsF_len (D : Int → Int → Bool) (a b : Int) : (prsF D a b).length ≤ 1 := by
  unfold prsF; split <;> simp
theorem prs_len (D : Int → Int → Bool) (n : Nat) : (prs D n).length ≤ n * n := by
  have := fm_len (F := fun a => (iot n).flatMap fun b => prsF D a b) (k := n) (fun a => by
    have := fm_len (F := fun b => prsF D a b) (k := 1) (fun b => prsF_len D a b) (iot n)
    rw [iot_len] at this; omega) (iot n)
  rwa [iot_len] at this
theorem prs_drop {D : Int → Int → Bool} {n i : Nat} (hi : i < n) : (((iot n).drop (i + 1)).flatMap fun b => if D (i : Int) b = true then [((i : Int), b)] else []) = (iot n).flatMap fun b => prsF D (i : Int) b := by
  conv => rhs; rw [← List.take_append_drop (i + 1) (iot n), List.flatMap_append]
  have h0 : ((iot n).take (i + 1)).flatMap (fun b => prsF D (i : Int) b) = [] := by
    rw [List.flatMap_eq_nil_iff]
    intro b hb
    obtain ⟨k, hk, e⟩ := List.mem_iff_getElem?.mp hb |>.imp fun k h => (⟨(List.getElem?_eq_some_iff.mp h).1, h⟩ : k < ((iot n).take (i + 1)).length ∧ _)
    rw [List.length_take] at hk
    rw [List.getElem?_take_of_lt (by omega)] at e
    have := (iot_getI e).1
    unfold prsF
    rw [if_neg]
    rw [decide_eq_false (by omega)]
    simp
  rw [h0, List.nil_append]
  refine fm_congr fun b hb => ?_
  obtain ⟨k, hk⟩ := List.mem_iff_getElem?.mp hb
  rw [List.getElem?_drop] at hk
  have := (iot_getI hk).1
  unfold prsF
  rw [decide_eq_true (by omega : (i : Int) < b), Bool.true_and]
theorem turned_list {n : Nat} {r s : List Int} (hr : Row n r) (hs : Row n s) (hn : n ≤ 300) : n_pairs_turned r s = some (prs (Dis r s) n) := by
  obtain ⟨rk, e1, h1⟩ := ranks_ok hr (by omega)
  obtain ⟨sk, e2, h2⟩ := ranks_ok hs (by omega)
  have hb : n * n ≤ 300 * 300 := Nat.mul_le_mul hn hn
  unfold n_pairs_turned
  simp only [bs, e1, e2, lenL_e, hr.len, ri1_nat n (by omega : n ≤ 1000000), addI_e, ltI_e, neN_e]
  refine bnd (forS_fm (N := 90000) (fun a => (iot n).flatMap fun b => prsF (Dis r s) a b) (fun z a ha hz => ?_) ?_) ?_
  · have ha := mem_iot.mp ha
    obtain ⟨i, rfl⟩ : ∃ i : Nat, a = (i : Int) := ⟨a.toNat, by omega⟩
    have hi : i < n := by omega
    have e3 : ri2 ((i : Int) + 1) (n : Int) = some ((iot n).drop (i + 1)) := ri2_nat (i + 1) n (by omega) (by omega)
    rw [e3, bs, ← prs_drop hi]
    refine bnd (forS_fm (N := 100000) (fun b => if Dis r s (i : Int) b = true then [((i : Int), b)] else []) (fun y x hx hy => ?_) ?_) rfl
    · have hx := List.mem_of_mem_drop hx
      rw [mem_iot] at hx
      rw [h1 (i : Int) ha.1 ha.2, h1 x hx.1 hx.2, h2 (i : Int) ha.1 ha.2, h2 x hx.1 hx.2]
      simp only [bs]
      by_cases c : Dis r s (i : Int) x = true
      · have c' : (!decide (decide (pos r (i : Int) < pos r x) = decide (pos s (i : Int) < pos s x))) = true := by
          unfold Dis at c
          simpa using c
        rw [if_pos c', if_pos c, apL_ok _ hy]
        rfl
      · have c' : ¬ (!decide (decide (pos r (i : Int) < pos r x) = decide (pos s (i : Int) < pos s x))) = true := by
          unfold Dis at c
          simpa using c
        rw [if_neg c', if_neg c, List.append_nil]
    · have := fm_len (F := fun b => if Dis r s (i : Int) b = true then [((i : Int), b)] else []) (k := 1) (fun b => by split <;> simp) ((iot n).drop (i + 1))
      rw [List.length_drop, iot_len] at this
      omega
  · have := prs_len (Dis r s) n
    unfold prs at this
    simp only [List.length_nil, Nat.zero_add]
    omega
  · rw [List.nil_append]; rfl
theorem forF_unit {b : Unit → α → Option (Fl ρ Unit)} {xs : List α} (h : ∀ x ∈ xs, b () x = some (.nx ())) : forF xs () b = some (.nx ()) := forF_nx b () xs h
end Lw
namespace P
open PySem PySem.Spec PyProof.Rows L2 Hb Nv
open Enc (enc)
end P
namespace P
open PySem PySem.Spec PyProof.Rows L2 Hb Nv
open Enc (enc)
end P
namespace P
open PySem PySem.Spec PyProof.Rows L2 Hb Nv
open Enc (enc)
end P
namespace P
open PySem PySem.Spec PyProof.Rows L2 Hb Nv
open Enc (enc)
end P
namespace P
open PySem PySem.Spec PyProof.Rows L2 Hb Nv
open Enc (enc)
end P
namespace Lw
open PySem Hb Nv L2 P
open Enc (enc)
variable {α β γ σ ρ ζ : Type}
theorem pos_cons (x y : Int) (q : List Int) : pos (x :: q) y = if y = x then 0 else pos q y + 1 := by
  unfold pos
  rw [List.idxOf_cons]
  by_cases c : y = x
  · subst c; simp
  · rw [if_neg c]
    have : (x == y) = false := by simpa using fun e : x = y => c e.symm
    rw [this]; simp
theorem forF_allE {b : Unit → α → Option (Fl Bool Unit)} (p : α → Bool) {xs : List α} (h : ∀ x ∈ xs, b () x = some (if p x = true then .nx () else .rt false)) : ((forF xs () b).bind fun o => Fl.el o (fun _ => some true) fun r => some r) = some (xs.all p) := by
  rw [forF_all b false p xs h, bs]
  cases c : xs.all p with
  | true => rw [if_pos rfl]; rfl
  | false => rw [if_neg (by simp)]; rfl
theorem ri2_up {a : Int} {n : Nat} (h0 : 0 ≤ a) (h : a < n) (hn : n ≤ 1000) : ri2 (a + 1) (n : Int) = some ((iot n).drop (a.toNat + 1)) := by
  have := ri2_nat (a.toNat + 1) n (by omega) (by omega)
  rwa [show ((a.toNat + 1 : Nat) : Int) = a + 1 by omega] at this
theorem mem_drop {n k : Nat} {x : Int} : x ∈ (iot n).drop k ↔ (k : Int) ≤ x ∧ x < n := by
  rw [iot_drop]
  unfold rgI
  rw [List.mem_map]
  constructor
  · rintro ⟨i, hi, rfl⟩
    rw [List.mem_range] at hi
    omega
  · rintro ⟨h0, h1⟩
    exact ⟨(x - k).toNat, List.mem_range.mpr (by omega), by omega⟩
end Lw
namespace P
open PySem PySem.Spec PyProof.Rows L2 Hb Nv
open Enc (enc)
end P
namespace P
open PySem PySem.Spec PyProof.Rows L2 Hb Nv
open Enc (enc)
end P
namespace Lw
open PySem Hb Nv L2 P
def Well (K : Int) (t : List Int) : Prop := ∃ a b c : Int, t = [a, b, c] ∧ 0 ≤ b ∧ b < 10 ^ 33 ∧ 0 ≤ c ∧ c ≤ K
theorem Well.mono {K K' : Int} {t : List Int} (h : Well K t) (l : K ≤ K') : Well K' t := by
  obtain ⟨a, b, c, e, h1, h2, h3, h4⟩ := h
  exact ⟨a, b, c, e, h1, h2, h3, by omega⟩
theorem powW_ok {i : Int} {k : Nat} (hk : k ≤ 64) (h : i.natAbs < 2 ^ 1024) : powW i (k : Int) = some (i ^ k) := by
  unfold powW
  rw [if_pos ⟨by omega, by omega, h⟩]
  congr 2
theorem p1031 : powW 10 31 = some (10 ^ 31) := powW_ok (k := 31) (by omega) (by decide)
theorem p1033 : powW 10 33 = some (10 ^ 33) := powW_ok (k := 33) (by omega) (by decide)
theorem p1027 : powW 10 27 = some (10 ^ 27) := powW_ok (k := 27) (by omega) (by decide)
theorem p1030 : powW 10 30 = some (10 ^ 30) := powW_ok (k := 30) (by omega) (by decide)
theorem big1024 : (10 : Int) ^ 34 < 2 ^ 1024 := by decide
theorem nat_lt {x : Int} (h0 : 0 ≤ x) (h1 : x < 10 ^ 34) : x.natAbs < 2 ^ 1024 := by
  have := big1024
  have e : ((2 ^ 1024 : Nat) : Int) = (2 : Int) ^ 1024 := by norm_cast
  omega
theorem well_ok {ms : List Int} {k : Int} (h0 : 0 ≤ k) (h1 : k ≤ 100) : Wp (n__law_well ms k) (Well 0) := by
  have e0 : mulI 6700417 k = some (6700417 * k) := mulI_l _ _ (by decide)
  have e1 : ∀ x : Int, modI x (10 ^ 31 + 33) = some (x % (10 ^ 31 + 33)) := fun x => modI_ok x (by decide)
  have hb : ∀ x : Int, 0 ≤ x % (10 ^ 31 + 33) + 6700417 * k + 257 ∧ x % (10 ^ 31 + 33) + 6700417 * k + 257 < 10 ^ 33 := fun x => by
    have h2 := Int.emod_nonneg x (show ((10 : Int) ^ 31 + 33) ≠ 0 by decide)
    have h3 := Int.emod_lt_of_pos x (show (0 : Int) < 10 ^ 31 + 33 by decide)
    omega
  unfold n__law_well
  refine Wp.bind (R := fun _ => True) ?_ fun c _ => ?_
  · simp only [bs, lenL_e, ltI_e]
    by_cases c : k < ms.length
    · rw [if_pos (decide_eq_true c)]
      obtain ⟨x, ex, _⟩ := atL_int (xs := ms) h0 c
      exact .intro ex trivial
    · rw [if_neg (by simpa using c)]
      exact .some trivial
  · simp only [bs, pow18, subI_e, maxI2_e, absI_e, intI_e, p1031, addI_e, e0, e1]
    have e33 : (10 : Int) ^ 31 + 33 = 10 ^ 31 + 33 := rfl
    obtain ⟨g1, g2⟩ := hb (if c < 0 then -c else c)
    exact .some ⟨_, _, _, rfl, g1, g2, by omega, by omega⟩
theorem pick_ok {K : Int} {t : List Int} (ht : Well K t) (hK : K ≤ 10 ^ 15) {n : Int} (h0 : 0 < n) (h1 : n ≤ 10 ^ 31) : Wp (n__law_pick t n) fun z => Well (K + 1) z.2 ∧ 0 ≤ z.1 ∧ z.1 < n := by
  obtain ⟨a, b, c, rfl, b0, b1, c0, c1⟩ := ht
  have hn : n < 2 ^ 1000 := Int.lt_of_le_of_lt h1 (by decide)
  by_cases q : a > 0
  · refine ⟨(a % n, [a / n, b, c]), ?_, ⟨_, _, _, rfl, b0, b1, c0, by omega⟩, Int.emod_nonneg _ (by omega), Int.emod_lt_of_pos _ h0⟩
    unfold n__law_pick
    simp only [bs, at0, gtI_e, intI_e, modI_ok _ h0, fdivW_ok _ h0 hn, st0]
    rw [if_pos (decide_eq_true q)]
  · have m1 : mulI 524287 (c + 1) = some (524287 * (c + 1)) := mulI_l _ _ (by decide)
    have m2 : mulI 2097143 (c + 1) = some (2097143 * (c + 1)) := mulI_l _ _ (by decide)
    have q1 : powW (b + 524287 * (c + 1)) 5 = some ((b + 524287 * (c + 1)) ^ 5) := powW_ok (k := 5) (by omega) (nat_lt (by omega) (by omega))
    have e2 : ∀ x : Int, modI x (10 ^ 33 + 61) = some (x % (10 ^ 33 + 61)) := fun x => modI_ok x (by decide)
    have e3 : ∀ x : Int, modI x (10 ^ 27 + 103) = some (x % (10 ^ 27 + 103)) := fun x => modI_ok x (by decide)
    have e4 : ∀ x : Int, fdivW x 4093 = some (x / 4093) := fun x => fdivW_ok x (by decide) (by decide)
    have s0 := Int.emod_nonneg ((b + 524287 * (c + 1)) ^ 5) (show ((10 : Int) ^ 33 + 61) ≠ 0 by decide)
    have s1 := Int.emod_lt_of_pos ((b + 524287 * (c + 1)) ^ 5) (show (0 : Int) < 10 ^ 33 + 61 by decide)
    have q2 : powW ((b + 524287 * (c + 1)) ^ 5 % (10 ^ 33 + 61) + 2097143 * (c + 1)) 3 = some (((b + 524287 * (c + 1)) ^ 5 % (10 ^ 33 + 61) + 2097143 * (c + 1)) ^ 3) := by
      generalize (b + 524287 * (c + 1)) ^ 5 % (10 ^ 33 + 61) = s at s0 s1 ⊢
      exact powW_ok (k := 3) (by omega) (nat_lt (by omega) (by omega))
    refine ⟨((((b + 524287 * (c + 1)) ^ 5 % (10 ^ 33 + 61) + 2097143 * (c + 1)) ^ 3 % (10 ^ 27 + 103) / 4093) % n, [a, b, c + 1]), ?_, ⟨_, _, _, rfl, b0, b1, by omega, by omega⟩, Int.emod_nonneg _ (by omega), Int.emod_lt_of_pos _ h0⟩
    unfold n__law_pick
    simp only [bs, at0, at1, at2, gtI_e, addI_e, st2]
    rw [if_neg (by simpa using q)]
    simp only [at1, at2, bs, m1, m2, addI_e, q1, intI_e, p1033, p1027, e2, q2, e3, e4, modI_ok _ h0]
end Lw
namespace Lw
open PySem Hb Nv L2 P
open Enc (enc)
theorem noDics_pairs : ∀ ns : List (Int × Int), noDics (ns.map enc) = true
  | [] => by simp [noDics]
  | (a, b) :: r => by
    show noDics (PyData.tuple [.int a, .int b] :: r.map enc) = true
    simp [noDics, noDic, noDics_pairs r]
theorem sortOk_pairs {ns : List (Int × Int)} (h : ns.length ≤ cap) : sortOk (ns.map enc) = true := by
  unfold sortOk
  simp only [Bool.and_eq_true, Bool.or_eq_true, List.all_eq_true, decide_eq_true_eq, List.mem_map, List.length_map]
  refine ⟨⟨⟨⟨?_, .inl ?_⟩, ?_⟩, noDics_pairs ns⟩, h⟩
  · rintro _ ⟨⟨a, b⟩, _, rfl⟩ _ ⟨⟨c, d⟩, _, rfl⟩
    show PySem.W.alike (PyData.tuple [.int a, .int b]) (PyData.tuple [.int c, .int d]) = true
    simp [PySem.W.alike, PySem.W.alikeAll]
  · rintro _ ⟨⟨a, b⟩, _, rfl⟩
    rfl
  · rintro _ ⟨⟨a, b⟩, _, rfl⟩
    show (PyData.tuple [.int a, .int b]).depth ≤ 60
    simp [PyData.depth, PyData.depthAll]
/-- the weight at a place that the test wants -/
def wsI (q : Int → Bool) : List (Int × Int) → Int
  | [] => 0
  | z :: r => (if q z.1 = true then z.2 else 0) + wsI q r
def A (z : List (Int × Int)) (k : Int) : Int := wsI (fun x => decide (x < k)) z
/-- how the loop finds it -/
theorem mid_loop (T : Int) (wt : Int → Int) (b : Int → Int → Option (Fl (Option Int) Int)) : ∀ (L : List Int) (s : Int), (∀ i ∈ L, ∀ s, b s i = some (if 2 * (s + wt i) > T then .rt (some i) else .nx (s + wt i))) → 2 * s ≤ T → T < 2 * (s + (L.map wt).sum) → ∃ L1 i L2, L = L1 ++ i :: L2 ∧ forF L s b = some (.rt (some i)) ∧ 2 * (s + (L1.map wt).sum) ≤ T ∧ T < 2 * (s + (L1.map wt).sum + wt i)
  | [], s, _, h1, h2 => by
    have : ([] : List Int).map wt = [] := rfl
    rw [this, List.sum_nil] at h2
    omega
  | i :: r, s, h, h1, h2 => by
    by_cases c : 2 * (s + wt i) > T
    · refine ⟨[], i, r, rfl, ?_, ?_, ?_⟩
      · show (b s i).bind _ = _
        rw [h i (by simp) s, if_pos c]; rfl
      · show 2 * (s + ([] : List Int).sum) ≤ T
        rw [List.sum_nil]; omega
      · show T < 2 * (s + ([] : List Int).sum + wt i)
        rw [List.sum_nil]; omega
    · rw [List.map_cons, List.sum_cons] at h2
      obtain ⟨L1, j, L2, e1, e2, e3, e4⟩ := mid_loop T wt b r (s + wt i) (fun j hj => h j (by simp [hj])) (by omega) (by omega)
      refine ⟨i :: L1, j, L2, by rw [e1]; rfl, ?_, ?_, ?_⟩
      · show (b s i).bind _ = _
        rw [h i (by simp) s, if_neg c]
        exact e2
      · rw [List.map_cons, List.sum_cons]; omega
      · rw [List.map_cons, List.sum_cons]; omega
theorem middle_ok {w L : List Int} (hL : ∀ i ∈ L, 0 ≤ i ∧ i < w.length) (hT : 0 ≤ w.sum) (hT2 : w.sum < 2 * (L.map (pat w)).sum) : ∃ L1 i L2, L = L1 ++ i :: L2 ∧ n_middle_index w L = some (some i) ∧ 2 * (L1.map (pat w)).sum ≤ w.sum ∧ w.sum < 2 * ((L1.map (pat w)).sum + pat w i) := by
  have two : ∀ x : Int, mulI 2 x = some (2 * x) := fun x => mulI_l _ _ (by decide)
  unfold n_middle_index
  simp only [bs, sumI_e]
  obtain ⟨L1, i, L2, e1, e2, e3, e4⟩ := mid_loop w.sum (pat w) (b := fun s9 x8 => (Option.bind (Option.bind (atL w x8) fun x13 => addI s9 x13) fun x14 => Option.bind (Option.bind (mulI 2 x14) fun x17 => gtI x17 w.sum) fun x19 => if x19 = true then some (Fl.rt (some x8)) else some (Fl.nx x14))) L 0 (fun i hi s => by
    obtain ⟨a, b⟩ := hL i hi
    simp only [atL_pat a b, bs, addI_e, two, gtI_e]
    by_cases c : 2 * (s + pat w i) > w.sum
    · rw [if_pos (decide_eq_true c), if_pos c]
    · rw [if_neg (by simpa using c), if_neg c]) (by omega) (by omega)
  refine ⟨L1, i, L2, e1, ?_, by omega, by omega⟩
  rw [e2]; rfl
end Lw
namespace P
open PySem PySem.Spec PyProof.Rows L2 Hb Nv
open Enc (enc)
end P
namespace P
open PySem PySem.Spec PyProof.Rows L2 Hb Nv
open Enc (enc)
end P
namespace P
open PySem PySem.Spec PyProof.Rows L2 Hb Nv
open Enc (enc)
end P
namespace P
open PySem PySem.Spec PyProof.Rows L2 Hb Nv
open Enc (enc)
end P
namespace P
open PySem PySem.Spec PyProof.Rows L2 Hb Nv
open Enc (enc)
end P
namespace P
open PySem PySem.Spec PyProof.Rows L2 Hb Nv
open Enc (enc)
end P
namespace P
open PySem PySem.Spec PyProof.Rows L2 Hb Nv
open Enc (enc)
end P
namespace P
open PySem PySem.Spec PyProof.Rows L2 Hb Nv
open Enc (enc)
end P
namespace P
open PySem PySem.Spec PyProof.Rows L2 Hb Nv
open Enc (enc)
end P
namespace P
open PySem PySem.Spec PyProof.Rows L2 Hb Nv
open Enc (enc)
end P
namespace P
open PySem PySem.Spec PyProof.Rows L2 Hb Nv
open Enc (enc)
end P
namespace P
open PySem PySem.Spec PyProof.Rows L2 Hb Nv
open Enc (enc)
end P
namespace P
open PySem PySem.Spec PyProof.Rows L2 Hb Nv
open Enc (enc)
end P
namespace Lw
open PySem Hb Nv L2 P
open Enc (enc)
abbrev TI := T3 Int Int Int
def leA (u v : TI) : Bool := decide (u.a ≤ v.a)
/-- the sides of a stretch -/
def sid (p : List Int) (n lo hi : Int) : List TI := (if 0 < lo then [⟨pat p (lo - 1), lo - 1, hi⟩] else []) ++ (if hi + 1 < n then [⟨pat p (hi + 1), lo, hi + 1⟩] else [])
def nxt (p : List Int) (n lo hi : Int) : List TI := (sid p n lo hi).mergeSort leA
variable {n : Nat} {p : List Int}
/-- all ways on, in their order -/
def sl (p : List Int) (n : Int) : Nat → Int → Int → List (List Int)
  | 0, _, _ => [[]]
  | k + 1, lo, hi => (nxt p n lo hi).flatMap fun t => (sl p n k t.b t.c).map (t.a :: ·)
end Lw
namespace P
open PySem PySem.Spec PyProof.Rows L2 Hb Nv
open Enc (enc)
end P
namespace P
open PySem PySem.Spec PyProof.Rows L2 Hb Nv
open Enc (enc)
end P
namespace Lw
open PySem Hb Nv L2 P
theorem vote_ok {K : Int} {t : List Int} (ht : Well K t) {n : Nat} (hn : n ≤ 900) (hK : K + n ≤ 10 ^ 15) : Wp (n__law_vote t (n : Int)) fun z => Well (K + n) z.2 ∧ Row n z.1 := by
  unfold n__law_vote
  simp only [bs, rg1_nat n (by omega : n ≤ 1000000), neNil]
  refine Wp.wh (fun s => Well (K + s.2.2.length) s.1 ∧ (s.2.2 ++ s.2.1).Perm (iot n)) (fun s => !s.2.1.isEmpty) (fun s => s.2.1.length) (fun s _ => rfl) ?_ ⟨ht.mono (by simp), .refl _⟩ (by show (iot n).length < 1000; rw [iot_len]; omega) ?_
  · rintro ⟨T, left, found⟩ ⟨hT, hp⟩ hq
    have hp : (found ++ left).Perm (iot n) := hp
    have hT : Well (K + found.length) T := hT
    have hl := hp.length_eq
    rw [List.length_append, iot_len] at hl
    have hne : left ≠ [] := by
      rintro rfl; cases hq
    have hl0 : 0 < left.length := List.length_pos_iff.mpr hne
    obtain ⟨⟨k, T1⟩, e1, hT1, k0, k1⟩ := pick_ok hT (by omega) (n := (left.length : Int)) (by omega) (by omega)
    obtain ⟨x, e2, e3⟩ := popL_ok k0 k1 (by omega)
    have e4 := apL_ok (xs := found) x (by omega)
    refine ⟨(T1, left.eraseIdx k.toNat, found ++ [x]), ?_, ⟨hT1.mono ?_, ?_⟩, ?_⟩
    · simp only [bs, lenL_e, e1, e2, e4]
    · show _ ≤ K + ((found ++ [x]).length : Int)
      rw [List.length_append]
      show _ ≤ K + ((found.length + 1 : Nat) : Int)
      omega
    · exact (perm_app1 found x left _ (perm_erase left _ x e3)).trans hp
    · show (left.eraseIdx k.toNat).length < left.length
      rw [List.length_eraseIdx]
      have k1 : k < left.length := k1
      have k0 : 0 ≤ k := k0
      have : k.toNat < left.length := by omega
      rw [if_pos this]
      omega
  · rintro s ⟨hT, hp⟩ hs
    have : s.2.1 = [] := by
      cases q : s.2.1 with
      | nil => rfl
      | cons a r => rw [q] at hs; cases hs
    rw [this, List.append_nil] at hp
    have hl := hp.length_eq
    rw [iot_len] at hl
    exact .some ⟨hT.mono (by rw [hl]; exact Int.le_refl _), hp⟩
end Lw
namespace P
open PySem PySem.Spec PyProof.Rows L2 Hb Nv
open Enc (enc)
end P
namespace P
open PySem PySem.Spec PyProof.Rows L2 Hb Nv
open Enc (enc)
end P
namespace Lw
open PySem Hb Nv L2 P
open Enc (enc)
structure Vb (D W : Nat) (d : PyData) : Prop where
  hs : shw d = true
  hl : d.leavesShort 40 = true
  hd : d.depth ≤ D
  hw : d.bulk ≤ W
theorem Vb.mono {D W D' W' : Nat} {d : PyData} (h : Vb D W d) (h1 : D ≤ D') (h2 : W ≤ W') : Vb D' W' d := ⟨h.hs, h.hl, Nat.le_trans h.hd h1, Nat.le_trans h.hw h2⟩
theorem vb_int {i : Int} (h0 : 0 ≤ i) (h1 : i < 10 ^ 40) : Vb 0 0 (.int i) := by
  refine ⟨?_, ?_, by simp [PyData.depth], by simp [PyData.bulk]⟩
  · show decide _ = true
    refine decide_eq_true ?_
    by_cases c : i.natAbs = 0
    · rw [c]; decide
    · rw [Nat.log2_lt c]
      have : (10 : Nat) ^ 40 < 2 ^ 1920 := by decide
      omega
  · show decide _ = true
    exact decide_eq_true (PyProof.Rows.toString_length_le h0 (by omega) h1)
theorem vb_all {D W : Nat} : ∀ {xs : List PyData}, (∀ x ∈ xs, Vb D W x) → shwAll xs = true ∧ PyData.leavesShortAll 40 xs = true ∧ PyData.depthAll xs ≤ D ∧ PyData.bulkAll xs ≤ xs.length * (W + 1)
  | [], _ => ⟨by simp [shwAll], by simp [PyData.leavesShortAll], by simp [PyData.depthAll], by simp [PyData.bulkAll]⟩
  | x :: r, h => by
    obtain ⟨a, b, c, d⟩ := vb_all (xs := r) fun y hy => h y (List.mem_cons_of_mem _ hy)
    have hx := h x List.mem_cons_self
    have x3 := hx.hd
    have x4 := hx.hw
    refine ⟨by simp [shwAll, hx.hs, a], by simp [PyData.leavesShortAll, hx.hl, b], by simp only [PyData.depthAll]; omega, ?_⟩
    simp only [PyData.bulkAll]
    rw [List.length_cons, Nat.add_mul, Nat.one_mul]
    omega
theorem vb_list {D W L : Nat} {xs : List PyData} (h : ∀ x ∈ xs, Vb D W x) (hl : xs.length ≤ L) : Vb (D + 1) (L * (W + 1)) (.list xs) := by
  obtain ⟨h1, h2, h3, h4⟩ := vb_all h
  exact ⟨by simpa [shw] using h1, by simpa [PyData.leavesShort] using h2, by simp only [PyData.depth]; omega, by simpa only [PyData.bulk] using Nat.le_trans h4 (Nat.mul_le_mul_right _ hl)⟩
theorem vb_repr {D W : Nat} {d : PyData} (h : Vb D W d) (hD : D ≤ 60) (hW : W ≤ 2 ^ 18) : reprN d = some d.shown := by
  have h2 := h.hw
  have h3 := h.hd
  have h4 := PyData.shown_le_bulk 40 (by omega) d h.hl
  have h5 : d.shown.length ≤ sizeLine := by
    have : sizeLine = 2 ^ 24 := rfl
    omega
  unfold reprN
  rw [if_pos ⟨⟨h.hs, by omega⟩, h5⟩]
theorem vb_ints {w : List Int} {L : Nat} (h : ∀ x ∈ w, 0 ≤ x ∧ x < 10 ^ 40) (hl : w.length ≤ L) : Vb 1 (L * 1) (enc w) := vb_list (D := 0) (W := 0) (fun x hx => by
  obtain ⟨y, hy, rfl⟩ := List.mem_map.mp hx
  exact vb_int (h y hy).1 (h y hy).2) (by rw [List.length_map]; exact hl)
theorem vb_row {n : Nat} {r : List Int} (h : Row n r) (hn : n ≤ 12) : Vb 1 12 (enc r) := (vb_ints (L := 12) (fun x hx => by
  have := h.mem.mp hx
  have e : (12 : Int) < 10 ^ 40 := by decide
  omega) (by rw [h.len]; exact hn)).mono (by omega) (by omega)
theorem vb_rows {n : Nat} {f : List (List Int)} (h : ∀ z ∈ f, Row n z) (hn : n ≤ 12) (hl : f.length ≤ 40) : Vb 2 520 (enc f) := (vb_list (D := 1) (W := 12) (L := 40) (fun x hx => by
  obtain ⟨y, hy, rfl⟩ := List.mem_map.mp hx
  exact vb_row (h y hy) hn) (by rw [List.length_map]; exact hl)).mono (by omega) (by omega)
def Wts (w : List Int) : Prop := ∀ x ∈ w, 0 ≤ x ∧ x ≤ 10 ^ 30
theorem isi_ints (w : List Int) : isiN "list" (enc w) = some true := by
  rw [isiN_e]; rfl
theorem ints_all {w : List Int} (hw : Wts w) (hl : w.length ≤ 40) : (if List.length (w.map (enc : Int → PyData)) ≤ cap then mapF (w.map (enc : Int → PyData)) (fun x => some true) fun x => n_is_integer x 0 (some 1000000000000000000000000000000) else none) = some ((w.map (enc : Int → PyData)).map fun _ => true) := by
  refine mapT_cap (fun _ => true) (by rw [List.length_map]; omega) fun x hx => ?_
  obtain ⟨y, hy, rfl⟩ := List.mem_map.mp hx
  rw [integer_gen]
  refine congrArg some (inRng_i (hw y hy).1 ?_)
  have := (hw y hy).2
  have e : (10 : Int) ^ 30 = 1000000000000000000000000000000 := by decide
  omega
theorem all_true {α : Type} (xs : List α) : ((xs.map fun _ => true).all id) = true := by
  rw [List.all_eq_true]
  intro b hb
  obtain ⟨z, _, rfl⟩ := List.mem_map.mp hb
  rfl
theorem voters_ok {f : List (List Int)} {w : List Int} (hw : Wts w) (hl : w.length ≤ 40) (e : f.length = w.length) : n_need_voters f (enc w) = some () ∧ x_need_voters f (enc w) = none := by
  have e1 : lenA (enc w) = some (w.length : Int) := by
    show some (((w.map PyData.int).length : Nat) : Int) = _
    rw [List.length_map]
  have e2 : seqA (enc w) = some (w.map enc) := rfl
  have e3 := ints_all hw hl
  constructor
  · unfold n_need_voters
    simp only [bs, isi_ints, bnot_t, Bool.false_eq_true, if_false, e1, lenL_e, e, neN_e, decide_true, e2, e3, allB_e, all_true]
  · unfold x_need_voters
    simp only [bs, isi_ints, bnot_t, Bool.false_eq_true, if_false, e1, lenL_e, e, neN_e, decide_true, e2, e3, allB_e, all_true]
theorem ballots_x {n : Nat} {f : List (List Int)} (hf : ∀ z ∈ f, Row n z) (hn : n ≤ 1000) (hl : f.length ≤ 40) : x_need_ballots (n : Int) (enc f) = none := by
  unfold x_need_ballots
  simp only [bs, eachs_ok hf hn hl, bnot_t, Bool.false_eq_true, if_false]
theorem odd_e (w : List Int) : n_need_odd w = (if w.sum % 2 = 0 then none else some ()) ∧ x_need_odd w = (if w.sum % 2 = 0 then some (Str.ofString "EvenVoters") else none) := by
  have e : modI w.sum 2 = some (w.sum % 2) := modI_ok _ (by decide)
  constructor
  · unfold n_need_odd
    simp only [bs, sumI_e, e, eqN_e, decide_eq_true_eq]
  · unfold x_need_odd
    simp only [bs, sumI_e, e, eqN_e, decide_eq_true_eq]
end Lw
namespace P
open PySem PySem.Spec PyProof.Rows L2 Hb Nv
open Enc (enc)
end P
namespace P
open PySem PySem.Spec PyProof.Rows L2 Hb Nv
open Enc (enc)
end P
namespace P
open PySem PySem.Spec PyProof.Rows L2 Hb Nv
open Enc (enc)
end P
namespace P
open PySem PySem.Spec PyProof.Rows L2 Hb Nv
open Enc (enc)
end P
namespace P
open PySem PySem.Spec PyProof.Rows L2 Hb Nv
open Enc (enc)
end P
namespace P
open PySem PySem.Spec PyProof.Rows L2 Hb Nv
open Enc (enc)
end P
namespace P
open PySem PySem.Spec PyProof.Rows L2 Hb Nv
open Enc (enc)
end P
namespace P
open PySem PySem.Spec PyProof.Rows L2 Hb Nv
open Enc (enc)
end P
namespace P
open PySem PySem.Spec PyProof.Rows L2 Hb Nv
open Enc (enc)
end P
namespace P
open PySem PySem.Spec PyProof.Rows L2 Hb Nv
open Enc (enc)
end P
namespace P
open PySem PySem.Spec PyProof.Rows L2 Hb Nv
open Enc (enc)
end P
namespace Lw
open PySem Hb Nv L2 P
open Enc (enc)
section
variable {M : Int → Int → Int}
theorem up_sorted (n : Nat) : (iot n).Pairwise (· < ·) := by
  rw [← rgI0]
  unfold rgI
  rw [List.pairwise_map]
  refine List.pairwise_lt_range.imp ?_
  intro a b h
  omega
end
end Lw
namespace Lw
open PySem Hb Nv L2 P
open Enc (enc)
variable {n : Nat} {p : List Int}
theorem alike_intsR : ∀ a b : List Int, PySem.W.alikeAll (a.map PyData.int) (b.map PyData.int) = true
  | [], b => by simp [PySem.W.alikeAll]
  | x :: a, [] => by simp [PySem.W.alikeAll]
  | x :: a, y :: b => by simp [PySem.W.alikeAll, PySem.W.alike, alike_intsR a b]
theorem noDics_rows : ∀ ns : List (List Int), noDics (ns.map enc) = true
  | [] => by simp [noDics]
  | x :: r => by
    show noDics (PyData.list (x.map .int) :: r.map enc) = true
    simp [noDics, noDic, noDics_rows r, noDics_ints x]
theorem depth_ints : ∀ x : List Int, PyData.depthAll (x.map PyData.int) ≤ 1
  | [] => by simp [PyData.depthAll]
  | x :: r => by
    have := depth_ints r
    simp [PyData.depthAll, PyData.depth]
    omega
theorem sortOk_rows {ns : List (List Int)} (h : ns.length ≤ cap) : sortOk (ns.map enc) = true := by
  unfold sortOk
  simp only [Bool.and_eq_true, Bool.or_eq_true, List.all_eq_true, decide_eq_true_eq, List.mem_map, List.length_map]
  refine ⟨⟨⟨⟨?_, .inr ?_⟩, ?_⟩, noDics_rows ns⟩, h⟩
  · rintro _ ⟨a, _, rfl⟩ _ ⟨b, _, rfl⟩
    show PySem.W.alike (PyData.list (a.map .int)) (PyData.list (b.map .int)) = true
    simp [PySem.W.alike, alike_intsR]
  · rintro _ ⟨a, _, rfl⟩
    rfl
  · rintro _ ⟨a, _, rfl⟩
    show (PyData.list (a.map .int)).depth ≤ 60
    have := depth_ints a
    simp only [PyData.depth]
    omega
abbrev TR := T3 (List Int) Int Int
def g1 (p : List Int) (n : Nat) : List TR := (iot n).map fun x => ⟨[pat p x], x, x⟩
end Lw
namespace Lw
section
variable {π : Type}
/-- how many of the pairs are seen otherwise -/
def dst (P : List π) (u v : π → Bool) : Nat := P.countP fun p => u p != v p
def Alk (P : List π) (u v : π → Bool) : Prop := ∀ p ∈ P, u p = v p
def Once (P : List π) (g : Nat → π → Bool) (m : Nat) : Prop := ∀ i j k, i ≤ j → j ≤ k → k < m → ∀ p ∈ P, g i p = g k p → g j p = g i p
theorem count_le {q r : π → Bool} : ∀ {P : List π}, (∀ p ∈ P, q p = true → r p = true) → P.countP q ≤ P.countP r := fun h => List.countP_mono_left h
theorem count_eq {q r : π → Bool} : ∀ {P : List π}, (∀ p ∈ P, q p = true → r p = true) → P.countP r ≤ P.countP q → ∀ p ∈ P, r p = true → q p = true
  | [], _, _, p, hp, _ => by cases hp
  | x :: P, h, e, p, hp, hr => by
    have hs : ∀ p ∈ P, q p = true → r p = true := fun p hp => h p (by simp [hp])
    have le := count_le hs
    rw [List.countP_cons, List.countP_cons] at e
    have hx := h x (by simp)
    cases hq : q x with
    | true =>
      rw [hx hq, hq] at e
      rcases List.mem_cons.mp hp with rfl | hp
      · exact hq
      · exact count_eq hs (by simpa using e) p hp hr
    | false =>
      cases hr2 : r x with
      | true =>
        rw [hr2, hq] at e
        simp at e
        omega
      | false =>
        rw [hr2, hq] at e
        rcases List.mem_cons.mp hp with rfl | hp
        · rw [hr2] at hr; cases hr
        · exact count_eq hs (by simpa using e) p hp hr
variable {P : List π}
theorem dst_alk {u u' v v' : π → Bool} (h : Alk P u u') (h2 : Alk P v v') : dst P u v = dst P u' v' := by
  unfold dst
  refine List.countP_congr fun p hp => ?_
  rw [h p hp, h2 p hp]
theorem Alk.symm {u v : π → Bool} (h : Alk P u v) : Alk P v u := fun p hp => (h p hp).symm
theorem Alk.trans {u v w : π → Bool} (h : Alk P u v) (h2 : Alk P v w) : Alk P u w := fun p hp => (h p hp).trans (h2 p hp)
theorem Alk.refl (u : π → Bool) : Alk P u u := fun _ _ => rfl
/-- what v differs in, w differs in, too -/
def Sub (P : List π) (e u v : π → Bool) : Prop := ∀ p ∈ P, e p ≠ u p → e p ≠ v p
theorem Sub.le {e u v : π → Bool} (h : Sub P e u v) : dst P e u ≤ dst P e v := count_le fun p hp q => by
  have := h p hp
  simp only [bne_iff_ne] at q ⊢
  exact this q
theorem Sub.back {e u v : π → Bool} (h : Sub P e u v) (l : dst P e v ≤ dst P e u) : Sub P e v u := fun p hp q => by
  have := count_eq (q := fun p => e p != u p) (r := fun p => e p != v p) (fun p hp q => by
    have := h p hp
    simp only [bne_iff_ne] at q ⊢
    exact this q) l p hp (by simpa using q)
  simpa using this
theorem Sub.alk {e u v : π → Bool} (h : Sub P e u v) (h2 : Sub P e v u) : Alk P u v := fun p hp => by
  have a := h p hp
  have b := h2 p hp
  cases h1 : u p <;> cases h2 : v p <;> cases h3 : e p <;> simp_all
theorem Once.sub {g : Nat → π → Bool} {m : Nat} (h : Once P g m) {i j k : Nat} (hij : i ≤ j) (hjk : j ≤ k) (hk : k < m) : Sub P (g i) (g j) (g k) := fun p hp q e => q (h i j k hij hjk hk p hp e).symm
theorem Once.sub' {g : Nat → π → Bool} {m : Nat} (h : Once P g m) {i j k : Nat} (hij : i ≤ j) (hjk : j ≤ k) (hk : k < m) : Sub P (g k) (g j) (g i) := fun p hp q e => q (by rw [h i j k hij hjk hk p hp e.symm, e])
/-- a ballot farthest from any one is an end -/
theorem Once.end_ {g : Nat → π → Bool} {m : Nat} (h : Once P g m) {k t : Nat} (hk : k < m) (ht : t < m) (mx : ∀ s, s < m → dst P (g k) (g s) ≤ dst P (g k) (g t)) : Alk P (g t) (g 0) ∨ Alk P (g t) (g (m - 1)) := by
  rcases Nat.le_total k t with l | l
  · right
    have s1 := h.sub l (by omega : t ≤ m - 1) (by omega)
    exact (s1.alk (s1.back (mx (m - 1) (by omega))))
  · left
    have s1 := h.sub' (Nat.zero_le t) l hk
    exact (s1.alk (s1.back (mx 0 (by omega))))
/-- nested by the distance from e -/
def Nest (P : List π) (e : π → Bool) (f : Nat → π → Bool) (m : Nat) : Prop := ∀ a b, a < m → b < m → dst P e (f a) ≤ dst P e (f b) → Sub P e (f a) (f b)
theorem Sub.alkE {e e' u v : π → Bool} (h : Alk P e e') (s : Sub P e' u v) : Sub P e u v := fun p hp q => by
  rw [h p hp] at q ⊢
  exact s p hp q
theorem Once.nest {g f : Nat → π → Bool} {m : Nat} (h : Once P g m) {e : π → Bool} (he : Alk P e (g 0) ∨ Alk P e (g (m - 1))) (hf : ∀ j, j < m → ∃ t, t < m ∧ f j = g t) : Nest P e f m := fun a b ha hb l => by
  obtain ⟨s, hs, es⟩ := hf a ha
  obtain ⟨t, ht, et⟩ := hf b hb
  rw [es, et] at l ⊢
  rcases he with he | he
  · rw [dst_alk he (.refl _), dst_alk he (.refl _)] at l
    refine Sub.alkE he ?_
    rcases Nat.le_total s t with q | q
    · exact h.sub (Nat.zero_le s) q ht
    · exact (h.sub (Nat.zero_le t) q hs).back l
  · rw [dst_alk he (.refl _), dst_alk he (.refl _)] at l
    refine Sub.alkE he ?_
    rcases Nat.le_total t s with q | q
    · exact h.sub' q (by omega : s ≤ m - 1) (by omega)
    · exact (h.sub' q (by omega : t ≤ m - 1) (by omega)).back l
/-- what is equally far is alike -/
theorem Nest.alk {e : π → Bool} {f : Nat → π → Bool} {m : Nat} (h : Nest P e f m) {a b : Nat} (ha : a < m) (hb : b < m) (q : dst P e (f a) = dst P e (f b)) : Alk P (f a) (f b) :=
  (h a b ha hb (Nat.le_of_eq q)).alk (h b a hb ha (Nat.le_of_eq q.symm))
end
def chgs (s : List Bool) : List Int := ((iot s.length).drop 1).filter fun at_ => decide (s[at_.toNat]? ≠ s[(at_ - 1).toNat]?)
theorem chgs_one {s : List Bool} (h : ∀ i j k, i ≤ j → j ≤ k → k < s.length → s[i]? = s[k]? → s[j]? = s[i]?) : (chgs s).length ≤ 1 := by
  rcases Nat.lt_or_ge 1 (chgs s).length with l | l
  · exfalso
    have pw : (chgs s).Pairwise (· < ·) := (List.Pairwise.filter _ ((up_sorted s.length).drop))
    have h0 : (chgs s)[0] < (chgs s)[1] := List.pairwise_iff_getElem.mp pw 0 1 (by omega) l (by omega)
    have m0 : (chgs s)[0] ∈ chgs s := List.getElem_mem _
    have m1 : (chgs s)[1] ∈ chgs s := List.getElem_mem _
    generalize (chgs s)[0] = x at h0 m0
    generalize (chgs s)[1] = y at h0 m1
    obtain ⟨a1, a2⟩ := List.mem_filter.mp m0
    obtain ⟨b1, b2⟩ := List.mem_filter.mp m1
    have a3 := mem_drop.mp a1
    have b3 := mem_drop.mp b1
    have a2 : s[x.toNat]? ≠ s[(x - 1).toNat]? := of_decide_eq_true a2
    have b2 : s[y.toNat]? ≠ s[(y - 1).toNat]? := of_decide_eq_true b2
    have ex : s[x.toNat]? = some s[x.toNat] := List.getElem?_eq_getElem (by omega)
    have ex1 : s[(x - 1).toNat]? = some s[(x - 1).toNat] := List.getElem?_eq_getElem (by omega)
    have ey : s[y.toNat]? = some s[y.toNat] := List.getElem?_eq_getElem (by omega)
    have k1 : s[(x - 1).toNat]? ≠ s[y.toNat]? := fun e => a2 (h (x - 1).toNat x.toNat y.toNat (by omega) (by omega) (by omega) e)
    have a3 : s[x.toNat] ≠ s[(x - 1).toNat] := fun e => a2 (by rw [ex, ex1, e])
    have k4 : s[(x - 1).toNat] ≠ s[y.toNat] := fun e => k1 (by rw [ey, ex1, e])
    have k2 : s[x.toNat]? = s[y.toNat]? := by
      rw [ex, ey]
      congr 1
      revert a3 k4
      generalize s[x.toNat] = u
      generalize s[(x - 1).toNat] = v
      generalize s[y.toNat] = w
      cases u <;> cases v <;> cases w <;> simp
    have k3 := h x.toNat (y - 1).toNat y.toNat (by omega) (by omega) (by omega) k2
    exact b2 (by rw [k3, k2])
  · exact l
end Lw
namespace Lw
open PySem Hb Nv L2 P
open Enc (enc)
variable {n : Nat} {f : List (List Int)}
def pairs (n : Nat) : List (Int × Int) := prs (fun _ _ => true) n
def sd (r : List Int) (p : Int × Int) : Bool := decide (pos r p.1 < pos r p.2)
theorem mem_pairs {n : Nat} {p : Int × Int} : p ∈ pairs n ↔ (0 ≤ p.1 ∧ p.1 < n) ∧ (0 ≤ p.2 ∧ p.2 < n) ∧ p.1 < p.2 := by
  unfold pairs prs
  rw [List.mem_flatMap]
  constructor
  · rintro ⟨a, ha, h⟩
    obtain ⟨b, hb, h⟩ := List.mem_flatMap.mp h
    unfold prsF at h
    rw [Bool.and_true] at h
    split at h
    · rename_i c
      have c := of_decide_eq_true c
      rw [List.mem_singleton] at h
      subst h
      exact ⟨mem_iot.mp ha, mem_iot.mp hb, c⟩
    · cases h
  · rintro ⟨ha, hb, h⟩
    refine ⟨p.1, mem_iot.mpr ha, List.mem_flatMap.mpr ⟨p.2, mem_iot.mpr hb, ?_⟩⟩
    unfold prsF
    rw [Bool.and_true, if_pos (by simpa using h)]
    simp
theorem prs_filter (D : Int → Int → Bool) (n : Nat) : prs D n = (pairs n).filter fun p => D p.1 p.2 := by
  unfold pairs prs
  rw [List.filter_flatMap]
  refine fm_congr fun a _ => ?_
  rw [List.filter_flatMap]
  refine fm_congr fun b _ => ?_
  unfold prsF
  rw [Bool.and_true]
  by_cases c : a < b
  · cases h : D a b <;> simp [c, h]
  · simp [c]
theorem prs_dst (r s : List Int) (n : Nat) : (prs (Dis r s) n).length = dst (pairs n) (sd r) (sd s) := by
  rw [prs_filter, ← List.countP_eq_length_filter]
  rfl
theorem flF_ok {α γ : Type} {c : α → Option Bool} {g : α → Option (List γ)} {F : α → List γ} : ∀ {xs : List α}, (∀ x ∈ xs, c x = some true) → (∀ x ∈ xs, g x = some (F x)) → flF xs c g = some (xs.flatMap F)
  | [], _, _ => rfl
  | x :: r, hc, hg => by
    have ih := flF_ok (xs := r) (fun y hy => hc y (by simp [hy])) fun y hy => hg y (by simp [hy])
    unfold flF
    rw [hc x (by simp)]
    simp only [bs, if_true]
    rw [hg x (by simp)]
    simp only [bs]
    rw [ih]
    simp only [bs, List.flatMap_cons]
theorem behind (n : Nat) {a : Int} (h0 : 0 ≤ a) (h : a < n) : ((iot n).drop (a.toNat + 1)).map (fun b => (a, b)) = (iot n).flatMap fun b => prsF (fun _ _ => true) a b := by
  have := prs_drop (D := fun _ _ => true) (n := n) (i := a.toNat) (by omega)
  rw [show ((a.toNat : Nat) : Int) = a by omega] at this
  rw [← this, List.map_eq_flatMap]
  refine fm_congr fun b _ => ?_
  rw [if_pos rfl]
theorem pairs_len (n : Nat) : (pairs n).length ≤ n * n := prs_len _ n
theorem twos_ok (hn : n ≤ 300) : n_places_in_twos (n : Int) = some (pairs n) := by
  have hb : n * n ≤ 300 * 300 := Nat.mul_le_mul hn hn
  unfold n_places_in_twos
  simp only [bs, ri1_nat n (by omega : n ≤ 1000000), addI_e]
  rw [flF_ok (F := fun a => (iot n).flatMap fun b => prsF (fun _ _ => true) a b) (fun _ _ => rfl) fun a ha => ?_]
  · simp only [bs]
    have := pairs_len n
    rw [show (iot n).flatMap (fun a => (iot n).flatMap fun b => prsF (fun _ _ => true) a b) = pairs n from rfl, if_pos (cap_ge (show (pairs n).length ≤ 100000 by omega))]
    simp only [bs]
  · have ha := mem_iot.mp ha
    rw [ri2_up ha.1 ha.2 (by omega)]
    simp only [bs]
    rw [mapT_ok _ (fun b => (a, b)) _ fun b _ => rfl, behind n ha.1 ha.2]
theorem lpairs_ok (hn : n ≤ 300) : n__law_pairs (n : Int) = some (pairs n) := by
  have hb : n * n ≤ 300 * 300 := Nat.mul_le_mul hn hn
  have hp := pairs_len n
  unfold n__law_pairs
  simp only [bs, ri1_nat n (by omega : n ≤ 1000000), addI_e]
  refine bnd (forS_fm (N := 90000) (fun a => (iot n).flatMap fun b => prsF (fun _ _ => true) a b) (fun s a ha hs => ?_) (by rw [List.length_nil]; show 0 + (pairs n).length ≤ _; omega)) rfl
  have ha := mem_iot.mp ha
  rw [ri2_up ha.1 ha.2 (by omega)]
  simp only [bs]
  have l : ((iot n).drop (a.toNat + 1)).length ≤ n := by rw [List.length_drop, iot_len]; omega
  rw [mapT_cap (fun b => (a, b)) (by omega) fun b _ => rfl, behind n ha.1 ha.2]
  simp only [bs]
  have l2 : ((iot n).flatMap fun b => prsF (fun _ _ => true) a b).length ≤ n := by rw [← behind n ha.1 ha.2, List.length_map]; exact l
  unfold exL
  rw [if_pos ⟨cap_ge (by omega), cap_ge (by omega)⟩]
  simp only [bs]
/-- the ballot of an index -/
def ath (f : List (List Int)) (i : Int) : List Int := f.getD i.toNat []
theorem ath_at {i : Int} (h0 : 0 ≤ i) (h : i < f.length) : atL f i = some (ath f i) ∧ ath f i ∈ f := by
  obtain ⟨x, e1, e2, e3⟩ := atL_int h0 h
  have : ath f i = x := by unfold ath; rw [List.getD_eq_getElem?_getD, e2]; rfl
  rw [this]
  exact ⟨e1, e3⟩
/-- along a row each pair turns at most once -/
def fitsB (n : Nat) (f : List (List Int)) (L : List Int) : Bool := (pairs n).all fun p => decide ((chgs (L.map fun i => sd (ath f i) p)).length ≤ 1)
def rks (r : List Int) : List Int := (n_ranks_in r).getD []
theorem rks_ok {r : List Int} (hr : Row n r) (hn : n ≤ 900) : n_ranks_in r = some (rks r) ∧ ∀ x : Int, 0 ≤ x → x < n → atL (rks r) x = some (pos r x) := by
  obtain ⟨rk, e, h⟩ := ranks_ok hr hn
  unfold rks
  rw [e]
  exact ⟨rfl, h⟩
theorem once_ok (hf : ∀ z ∈ f, Row n z) (hn : n ≤ 300) {L : List Int} (hL : ∀ i ∈ L, 0 ≤ i ∧ i < f.length) (hl : L.length ≤ 1000) : n_turns_once (n : Int) f L = some (fitsB n f L) := by
  have row : ∀ i ∈ L, Row n (ath f i) := fun i hi => hf _ (ath_at (hL i hi).1 (hL i hi).2).2
  unfold n_turns_once
  simp only [bs]
  refine bnd (mapT_cap (fun i => rks (ath f i)) (by omega) fun i hi => ?_) ?_
  · rw [(ath_at (hL i hi).1 (hL i hi).2).1]
    simp only [bs]
    exact (rks_ok (row i hi) (by omega)).1
  rw [twos_ok hn]
  simp only [bs]
  refine forF_allE (fun p => decide ((chgs (L.map fun i => sd (ath f i) p)).length ≤ 1)) fun p hp => ?_
  obtain ⟨p1, p2, _⟩ := mem_pairs.mp hp
  have e1 : (if List.length (L.map fun i => rks (ath f i)) ≤ cap then mapF (L.map fun i => rks (ath f i)) (fun _ => some true) (fun x16 => Option.bind (atL x16 p.1) fun x21 => Option.bind (atL x16 p.2) fun x22 => ltI x21 x22) else none) = some (L.map fun i => sd (ath f i) p) := by
    rw [mapT_cap (fun rk => decide ((atL rk p.1).getD 0 < (atL rk p.2).getD 0)) (by rw [List.length_map]; omega) fun rk hrk => ?_, List.map_map]
    · congr 1
      refine List.map_congr_left fun i hi => ?_
      obtain ⟨_, h⟩ := rks_ok (row i hi) (by omega : n ≤ 900)
      show decide ((atL (rks (ath f i)) p.1).getD 0 < (atL (rks (ath f i)) p.2).getD 0) = _
      rw [h _ p1.1 p1.2, h _ p2.1 p2.2]
      rfl
    · obtain ⟨i, hi, rfl⟩ := List.mem_map.mp hrk
      obtain ⟨_, h⟩ := rks_ok (row i hi) (by omega : n ≤ 900)
      rw [h _ p1.1 p1.2, h _ p2.1 p2.2]
      rfl
  rw [e1]
  simp only [bs, lenL_e]
  generalize hs : L.map (fun i => sd (ath f i) p) = s
  have sl : s.length ≤ 1000 := by rw [← hs, List.length_map]; exact hl
  have e2 : ri2 1 (s.length : Int) = some ((iot s.length).drop 1) := by
    rcases Nat.eq_zero_or_pos s.length with z | z
    · rw [z]; rfl
    · exact ri2_up (a := 0) (by omega) (by omega) sl
  rw [e2]
  simp only [bs]
  rw [mapC_cap (fun at_ => decide (s[at_.toNat]? ≠ s[(at_ - 1).toNat]?)) (by rw [List.length_drop, iot_len]; omega) fun at_ ha => ?_]
  · simp only [bs, gtI_e]
    show (if decide (1 < ((chgs s).length : Int)) = true then some (Fl.rt false) else some (.nx ())) = some (if decide ((chgs s).length ≤ 1) = true then .nx () else .rt false)
    by_cases c : (chgs s).length ≤ 1
    · rw [if_neg (by simp only [decide_eq_true_eq]; omega), if_pos (by simpa using c)]
    · rw [if_pos (by simp only [decide_eq_true_eq]; omega), if_neg (by simpa using c)]
  · have ha := mem_drop.mp ha
    obtain ⟨x, q1, q2, _⟩ := atL_int (xs := s) (i := at_) (by omega) (by omega)
    obtain ⟨y, q3, q4, _⟩ := atL_int (xs := s) (i := at_ - 1) (by omega) (by omega)
    rw [q1]
    simp only [bs, subI_e]
    rw [q3]
    have q5 : (!decide (x = y)) = decide (some x ≠ some y) := by by_cases c : x = y <;> simp [c]
    rw [q2, q4, ← q5]
    simp only [bs, neN_e]
theorem far_ok (hf : ∀ z ∈ f, Row n z) {b : List Int} (hb : Row n b) (hn : n ≤ 300) (hl : f.length ≤ 1000) : n_far_from f b = some (f.map fun o => (dst (pairs n) (sd b) (sd o) : Int)) := by
  unfold n_far_from
  simp only [bs]
  rw [mapT_cap (fun o => (dst (pairs n) (sd b) (sd o) : Int)) (by omega) fun o ho => ?_]
  · simp only [bs]
  · rw [turned_list hb (hf o ho) hn]
    simp only [bs, lenL_e, prs_dst]
theorem srt_pairs2 {ns : List (Int × Int)} (h : ns.length ≤ 100000) : ∃ zs, srtD ns = some zs ∧ zs.Perm ns ∧ zs.Pairwise fun a b => a.1 < b.1 ∨ (a.1 = b.1 ∧ a.2 ≤ b.2) := by
  have e : (PySem.W.dataLe false (enc : Int × Int → PyData)) = fun p q => decide (p.1 < q.1 ∨ (p.1 = q.1 ∧ p.2 ≤ q.2)) := PySem.W.dataLe_ii (fun p : Int × Int => p.1) (fun p => p.2)
  refine ⟨ns.mergeSort (PySem.W.dataLe false enc), ?_, List.mergeSort_perm _ _, ?_⟩
  · unfold srtD
    rw [if_pos (sortOk_pairs (cap_ge h))]
  · rw [e]
    refine (List.pairwise_mergeSort (le := fun p q : Int × Int => decide (p.1 < q.1 ∨ (p.1 = q.1 ∧ p.2 ≤ q.2))) ?_ ?_ ns).imp ?_
    · rintro a b c h1 h2
      have h1 := of_decide_eq_true h1
      have h2 := of_decide_eq_true h2
      exact decide_eq_true (by omega)
    · rintro a b
      show (decide _ || decide _) = true
      rw [Bool.or_eq_true, decide_eq_true_eq, decide_eq_true_eq]
      omega
    · intro a b h
      exact of_decide_eq_true h
end Lw
namespace Lw
open PySem Hb Nv L2 P
open Enc (enc)
variable {n : Nat} {f : List (List Int)}
theorem foldl_max : ∀ (xs : List Int) (a : Int), (xs.foldl max a = a ∨ xs.foldl max a ∈ xs) ∧ a ≤ xs.foldl max a ∧ ∀ x ∈ xs, x ≤ xs.foldl max a
  | [], a => ⟨.inl rfl, Int.le_refl _, fun x h => by cases h⟩
  | y :: r, a => by
    obtain ⟨h1, h2, h3⟩ := foldl_max r (max a y)
    rw [List.foldl_cons]
    refine ⟨?_, by omega, fun x hx => ?_⟩
    · rcases h1 with h1 | h1
      · rw [h1]
        rcases Int.le_total a y with c | c
        · exact .inr (by rw [Int.max_eq_right c]; exact List.mem_cons_self)
        · exact .inl (Int.max_eq_left c)
      · exact .inr (List.mem_cons_of_mem _ h1)
    · rcases List.mem_cons.mp hx with rfl | hx
      · omega
      · exact h3 x hx
theorem maxL_ok {xs : List Int} (h : xs ≠ []) : ∃ M, maxL xs = some M ∧ M ∈ xs ∧ ∀ x ∈ xs, x ≤ M := by
  cases xs with
  | nil => exact absurd rfl h
  | cons a r =>
    obtain ⟨h1, h2, h3⟩ := foldl_max r a
    refine ⟨_, rfl, ?_, fun x hx => ?_⟩
    · rcases h1 with h1 | h1
      · rw [h1]; exact List.mem_cons_self
      · exact List.mem_cons_of_mem _ h1
    · rcases List.mem_cons.mp hx with rfl | hx
      · exact h2
      · exact h3 x hx
/-- how far the ballot of an index is -/
def farI (n : Nat) (e : List Int) (f : List (List Int)) (i : Int) : Int := (dst (pairs n) (sd e) (sd (ath f i)) : Int)
/-- sorted by the distance, then by the index -/
def SoBy (w : Int) (n : Nat) (e : List Int) (f : List (List Int)) (L : List Int) : Prop := L.Perm (iot f.length) ∧ L.Pairwise fun a b => w * farI n e f a < w * farI n e f b ∨ (w * farI n e f a = w * farI n e f b ∧ a < b)
theorem sorted_ok {w : Int} (hw : w = 1 ∨ w = -1) (hn : n ≤ 300) (hl : f.length ≤ 1000) (e : List Int) : ∃ zs L, srtD ((iot f.length).map fun i => (w * farI n e f i, i)) = some zs ∧ zs.map Prod.snd = L ∧ SoBy w n e f L := by
  obtain ⟨zs, e1, e2, e3⟩ := srt_pairs2 (ns := (iot f.length).map fun i => (w * farI n e f i, i)) (by rw [List.length_map, iot_len]; omega)
  refine ⟨zs, zs.map Prod.snd, e1, rfl, ?_, ?_⟩
  · have := e2.map Prod.snd
    rw [List.map_map] at this
    have h : (iot f.length).map (Prod.snd ∘ fun i => (w * farI n e f i, i)) = iot f.length := by
      show (iot f.length).map (fun i => i) = _
      exact List.map_id _
    rwa [h] at this
  · have hz : ∀ z ∈ zs, z.1 = w * farI n e f z.2 := fun z hz => by
      obtain ⟨i, _, rfl⟩ := List.mem_map.mp (e2.mem_iff.mp hz)
      rfl
    have nd : (zs.map Prod.snd).Nodup := by
      have := (e2.map Prod.snd).nodup_iff.mpr (by
        rw [List.map_map]
        show ((iot f.length).map fun i => i).Nodup
        rw [show (iot f.length).map (fun i => i) = iot f.length from List.map_id _]
        exact iot_nodup _)
      exact this
    rw [List.pairwise_map]
    have nd2 : zs.Pairwise fun a b => a.2 ≠ b.2 := List.pairwise_map.mp nd
    refine List.Pairwise.imp_of_mem (fun {a b} ha hb h => ?_) (e3.and nd2)
    rw [hz a ha, hz b hb] at h
    obtain ⟨h1, h2⟩ := h
    omega
theorem soby_mem {w : Int} {e : List Int} {L : List Int} (h : SoBy w n e f L) : ∀ i ∈ L, 0 ≤ i ∧ i < f.length := fun i hi => mem_iot.mp (h.1.mem_iff.mp hi)
theorem soby_len {w : Int} {e : List Int} {L : List Int} (h : SoBy w n e f L) : L.length = f.length := by rw [h.1.length_eq, iot_len]
theorem least_ok (hf : ∀ z ∈ f, Row n z) (hn : n ≤ 300) (hl : f.length ≤ 1000) (hne : f ≠ []) : ∃ e, e ∈ f ∧ (∀ o ∈ f, dst (pairs n) (sd (ath f 0)) (sd o) ≤ dst (pairs n) (sd (ath f 0)) (sd e)) ∧ ∃ L0 L1, SoBy 1 n e f L0 ∧ SoBy (-1) n e f L1 ∧
    n_least_row (n : Int) f = some (if fitsB n f L0 = true then some (if L1 < L0 then L1 else L0) else none) := by
  have hm : 0 < f.length := by
    cases f with
    | nil => exact absurd rfl hne
    | cons a b => simp
  obtain ⟨a0, b0⟩ := ath_at (f := f) (i := 0) (Int.le_refl 0) (by omega)
  generalize hb0 : ath f 0 = b0' at a0 b0
  have hbr := hf _ b0
  obtain ⟨M, m1, m2, m3⟩ := maxL_ok (xs := f.map fun o => (dst (pairs n) (sd b0') (sd o) : Int)) (by simpa using hne)
  have pl := pos_lt m2
  have pn := pos_nn (f.map fun o => (dst (pairs n) (sd b0') (sd o) : Int)) M
  rw [List.length_map] at pl
  obtain ⟨a1, b1⟩ := ath_at (f := f) pn pl
  have em : (dst (pairs n) (sd b0') (sd (ath f (pos (f.map fun o => (dst (pairs n) (sd b0') (sd o) : Int)) M))) : Int) = M := by
    have h1 := get_pos m2
    rw [List.getElem?_map] at h1
    unfold ath
    have h2 : (pos (f.map fun o => (dst (pairs n) (sd b0') (sd o) : Int)) M).toNat = (f.map fun o => (dst (pairs n) (sd b0') (sd o) : Int)).idxOf M := by unfold pos; omega
    rw [h2, List.getD_eq_getElem?_getD]
    cases q : f[(f.map fun o => (dst (pairs n) (sd b0') (sd o) : Int)).idxOf M]? with
    | none => rw [q] at h1; cases h1
    | some o => rw [q] at h1; exact Option.some.inj h1
  have eix := idxL_pos m2
  generalize pos (f.map fun o => (dst (pairs n) (sd b0') (sd o) : Int)) M = E at a1 b1 em eix
  generalize he : ath f E = e at a1 b1 em
  have her := hf _ b1
  obtain ⟨z0, L0, s0, k0, so0⟩ := sorted_ok (w := 1) (.inl rfl) hn hl e (f := f)
  obtain ⟨z1, L1, s1, k1, so1⟩ := sorted_ok (w := -1) (.inr rfl) hn hl e (f := f)
  refine ⟨e, b1, fun o ho => ?_, L0, L1, so0, so1, ?_⟩
  · have := m3 _ (List.mem_map.mpr ⟨o, ho, rfl⟩)
    omega
  have l0 := soby_len so0
  have l1 := soby_len so1
  unfold n_least_row
  simp only [bs]
  have emp : f.isEmpty = false := by cases f with
    | nil => exact absurd rfl hne
    | cons a b => rfl
  rw [emp, if_neg (by decide), a0]
  simp only [bs]
  rw [far_ok hf hbr hn hl]
  simp only [bs, m1, eix]
  rw [a1]
  simp only [bs]
  rw [far_ok hf her hn hl]
  simp only [bs, negI_e, lenL_e, List.length_map, ri1_nat f.length (by omega : f.length ≤ 1000000)]
  have turn : ∀ (s : List (List Int)) (w : Int) (z : List (Int × Int)), (w = 1 ∨ w = -1) → s.length ≤ 10 → srtD ((iot f.length).map fun i => (w * farI n e f i, i)) = some z → (((((if List.length (iot f.length) ≤ cap then mapF (iot f.length) (fun x37 => some true) fun x37 => (Option.bind (Option.bind (Option.bind (atL (f.map fun o => (dst (pairs n) (sd e) (sd o) : Int)) x37) fun x41 => mulI w x41) fun x42 => some (x42, x37, ())) fun x44 => some (x44.1, x44.2.1)) else none).bind fun x47 => srtD x47).bind fun x48 => if List.length x48 ≤ cap then mapF x48 (fun x49 => some true) (fun x49 => some x49.2) else none).bind fun x50 => (apL s x50).bind fun x51 => some (x51, x50)).bind fun x52 => some x52.1) = some (s ++ [z.map Prod.snd]) := by
    intro s w z hw hs hz
    have zl : z.length ≤ 1000 := by
      have := (srt_pairs2 (ns := (iot f.length).map fun i => (w * farI n e f i, i)) (by rw [List.length_map, iot_len]; omega))
      obtain ⟨zs, q1, q2, _⟩ := this
      rw [hz] at q1
      cases q1
      rw [q2.length_eq, List.length_map, iot_len]
      exact hl
    rw [mapT_cap (fun i => (w * farI n e f i, i)) (by rw [iot_len]; omega) fun i hi => ?_]
    · simp only [bs, hz]
      rw [mapT_cap Prod.snd (by omega) fun _ _ => rfl]
      simp only [bs]
      rw [apL_ok _ (by omega)]
      simp only [bs]
    · have hi := mem_iot.mp hi
      obtain ⟨c1, c2⟩ := ath_at hi.1 hi.2
      have c3 : atL (f.map fun o => (dst (pairs n) (sd e) (sd o) : Int)) i = some (farI n e f i) := by
        obtain ⟨x, d1, d2, d3⟩ := atL_int (xs := f.map fun o => (dst (pairs n) (sd e) (sd o) : Int)) hi.1 (by rw [List.length_map]; exact hi.2)
        rw [d1]
        rw [List.getElem?_map] at d2
        unfold farI ath
        rw [List.getD_eq_getElem?_getD]
        cases q : f[i.toNat]? with
        | none => rw [q] at d2; cases d2
        | some o => rw [q] at d2; exact congrArg some (Option.some.inj d2).symm
      rw [c3]
      simp only [bs]
      rw [mulI_l w _ (by rcases hw with rfl | rfl <;> decide)]
      rfl
  have t0 := turn [] 1 z0 (.inl rfl) (by simp) s0
  have t1 := turn ([] ++ [z0.map Prod.snd]) (-1) z1 (.inr rfl) (by simp) s1
  rw [k0] at t0 t1
  rw [k1] at t1
  refine bnd (x := [L0, L1]) ?_ ?_
  · exact bnd t0 (bnd t1 rfl)
  · rw [show atL [L0, L1] 0 = some L0 from rfl]
    simp only [bs]
    rw [once_ok hf hn (soby_mem so0) (by omega)]
    simp only [bs]
    by_cases c : fitsB n f L0 = true
    · rw [if_pos c, if_pos c]
      have : minR [L0, L1] = some (if L1 < L0 then L1 else L0) := by
        show (if sortOk (List.map enc [L0, L1]) = true then some (List.foldl (fun a y => if y < a then y else a) L0 [L1]) else none) = _
        rw [if_pos (sortOk_rows (ns := [L0, L1]) (cap_ge (show 2 ≤ 100000 by omega)))]
        rfl
      rw [this]
      rfl
    · rw [if_neg c, if_neg c]
      rfl
theorem least_nil : n_least_row (n : Int) [] = some (some []) := rfl
end Lw
namespace Lw
open PySem Hb Nv L2 P
open Enc (enc)
variable {n : Nat} {f : List (List Int)}
theorem row_alk {r s : List Int} (hr : Row n r) (hs : Row n s) (h : Alk (pairs n) (sd r) (sd s)) : r = s := by
  have key : ∀ a b : Int, a ∈ r → b ∈ r → pos r a < pos r b → pos s a < pos s b := fun a b ha hb l => by
    have ha' := hr.mem.mp ha
    have hb' := hr.mem.mp hb
    have ne : a ≠ b := fun e => by rw [e] at l; omega
    rcases Int.lt_or_gt_of_ne ne with c | c
    · have := h (a, b) (mem_pairs.mpr ⟨ha', hb', c⟩)
      unfold sd at this
      simp only [l, decide_true] at this
      exact of_decide_eq_true this.symm
    · have := h (b, a) (mem_pairs.mpr ⟨hb', ha', c⟩)
      unfold sd at this
      have l2 : ¬ pos r b < pos r a := by omega
      simp only [l2, decide_false] at this
      have l3 := of_decide_eq_false this.symm
      have ne2 : pos s a ≠ pos s b := fun e => ne (pos_inj (hs.mem.mpr ha') (hs.mem.mpr hb') e)
      omega
  have pw : (r.map (pos s)).Pairwise (· < ·) := by
    rw [List.pairwise_map, List.pairwise_iff_getElem]
    intro i j hi hj hij
    refine key _ _ (List.getElem_mem _) (List.getElem_mem _) ?_
    rw [pos_get hr.nodup (List.getElem?_eq_getElem hi), pos_get hr.nodup (List.getElem?_eq_getElem hj)]
    omega
  have e : r.map (pos s) = iot n := List.Perm.eq_of_pairwise (le := fun a b : Int => a < b) (fun a b _ _ h1 h2 => by omega) pw (up_sorted n) (map_pos_row hs hr)
  have e2 := map_pat_pos (r := s) (q := r) fun x hx => hs.mem.mpr (hr.mem.mp hx)
  rw [e, map_pat hs.len] at e2
  exact e2.symm
/-- nested by the distance from e -/
def Chn (n : Nat) (f : List (List Int)) (e : List Int) : Prop := Nest (pairs n) (sd e) (fun j => sd (ath f (j : Int))) f.length
theorem Chn.get {e : List Int} (h : Chn n f e) {a b : Int} (a0 : 0 ≤ a) (a1 : a < f.length) (b0 : 0 ≤ b) (b1 : b < f.length) (l : farI n e f a ≤ farI n e f b) : Sub (pairs n) (sd e) (sd (ath f a)) (sd (ath f b)) := by
  have := h a.toNat b.toNat (by omega) (by omega)
  simp only [Int.toNat_of_nonneg a0, Int.toNat_of_nonneg b0] at this
  exact this (by unfold farI at l; omega)
theorem chn_fits {e : List Int} (h : Chn n f e) {L : List Int} (hm : ∀ i ∈ L, 0 ≤ i ∧ i < f.length) (hs : L.Pairwise (fun a b => farI n e f a ≤ farI n e f b) ∨ L.Pairwise (fun a b => farI n e f b ≤ farI n e f a)) : fitsB n f L = true := by
  unfold fitsB
  rw [List.all_eq_true]
  intro p hp
  refine decide_eq_true (chgs_one fun i j k hij hjk hk q => ?_)
  rw [List.length_map] at hk
  have ei : ∀ t, (ht : t < L.length) → (L.map fun i => sd (ath f i) p)[t]? = some (sd (ath f L[t]) p) := fun t ht => by
    rw [List.getElem?_map, List.getElem?_eq_getElem ht]
    rfl
  rw [ei i (by omega), ei k hk] at q
  rw [ei i (by omega), ei j (by omega)]
  have mi := hm _ (List.getElem_mem (show i < L.length by omega))
  have mj := hm _ (List.getElem_mem (show j < L.length by omega))
  have mk := hm _ (List.getElem_mem hk)
  have qq : sd (ath f L[i]) p = sd (ath f L[k]) p := Option.some.inj q
  congr 1
  have B : ∀ a b c : Int, (0 ≤ a ∧ a < f.length) → (0 ≤ b ∧ b < f.length) → (0 ≤ c ∧ c < f.length) → farI n e f a ≤ farI n e f b → farI n e f b ≤ farI n e f c → sd (ath f a) p = sd (ath f c) p → sd (ath f b) p = sd (ath f a) p := fun a b c ha hb hc l1 l2 w => by
    have s1 := h.get ha.1 ha.2 hb.1 hb.2 l1 p hp
    have s2 := h.get hb.1 hb.2 hc.1 hc.2 l2 p hp
    cases h1 : sd (ath f a) p <;> cases h2 : sd (ath f b) p <;> cases h3 : sd (ath f c) p <;> cases h4 : sd e p <;> simp_all
  rcases hs with hs | hs
  · have pw := List.pairwise_iff_getElem.mp hs
    have g : ∀ s t, s ≤ t → (hs : s < L.length) → (ht : t < L.length) → farI n e f L[s] ≤ farI n e f L[t] := fun s t l h1 h2 => by
      rcases Nat.lt_or_ge s t with c | c
      · exact pw s t h1 h2 c
      · have : s = t := by omega
        subst this
        exact Int.le_refl _
    exact B _ _ _ mi mj mk (g i j hij _ _) (g j k hjk _ _) qq
  · have pw := List.pairwise_iff_getElem.mp hs
    have g : ∀ s t, s ≤ t → (hs : s < L.length) → (ht : t < L.length) → farI n e f L[t] ≤ farI n e f L[s] := fun s t l h1 h2 => by
      rcases Nat.lt_or_ge s t with c | c
      · exact pw s t h1 h2 c
      · have : s = t := by omega
        subst this
        exact Int.le_refl _
    rw [B _ _ _ mk mj mi (g j k hjk _ _) (g i j hij _ _) qq.symm, qq]
theorem soby_far {w : Int} {e : List Int} {L : List Int} (h : SoBy w n e f L) (hw : w = 1 ∨ w = -1) : L.Pairwise (fun a b => farI n e f a ≤ farI n e f b) ∨ L.Pairwise (fun a b => farI n e f b ≤ farI n e f a) := by
  rcases hw with rfl | rfl
  · exact .inl (h.2.imp fun {a b} q => by omega)
  · exact .inr (h.2.imp fun {a b} q => by omega)
theorem perm_sumI {a b : List Int} (h : a.Perm b) : a.sum = b.sum := by
  induction h with
  | nil => rfl
  | cons x _ ih => rw [List.sum_cons, List.sum_cons, ih]
  | swap x y l => rw [List.sum_cons, List.sum_cons, List.sum_cons, List.sum_cons]; omega
  | trans _ _ i j => exact i.trans j
/-- the weight of the indices of L that the test wants -/
def Wq (w : List Int) (q : Int → Bool) (L : List Int) : Int := ((L.filter q).map (pat w)).sum
variable {w : List Int}
theorem wq_app (q : Int → Bool) (A B : List Int) : Wq w q (A ++ B) = Wq w q A + Wq w q B := by
  unfold Wq
  rw [List.filter_append, List.map_append, List.sum_append]
theorem wq_cons (q : Int → Bool) (i : Int) (B : List Int) : Wq w q (i :: B) = (if q i = true then pat w i else 0) + Wq w q B := by
  unfold Wq
  rw [List.filter_cons]
  split
  · rw [List.map_cons, List.sum_cons]
  · omega
theorem sum_nnL : ∀ {l : List Int}, (∀ x ∈ l, 0 ≤ x) → 0 ≤ l.sum
  | [], _ => by simp
  | x :: r, h => by
    have a := h x (by simp)
    have b := sum_nnL (l := r) fun y hy => h y (by simp [hy])
    rw [List.sum_cons]
    omega
theorem wq_nn {q : Int → Bool} {L : List Int} (hw : ∀ i ∈ L, 0 ≤ pat w i) : 0 ≤ Wq w q L := sum_nnL fun x hx => by
  obtain ⟨i, hi, rfl⟩ := List.mem_map.mp hx
  exact hw i (List.mem_filter.mp hi).1
theorem wq_le {q r : Int → Bool} : ∀ {L : List Int}, (∀ i ∈ L, 0 ≤ pat w i) → (∀ i ∈ L, q i = true → r i = true) → Wq w q L ≤ Wq w r L
  | [], _, _ => Int.le_refl _
  | i :: L, hw, h => by
    have ih := wq_le (L := L) (fun i hi => hw i (by simp [hi])) fun i hi => h i (by simp [hi])
    have a := hw i (by simp)
    have b := h i (by simp)
    rw [wq_cons, wq_cons]
    by_cases c : q i = true
    · rw [if_pos c, if_pos (b c)]; omega
    · rw [if_neg c]
      split <;> omega
theorem wq_all (q : Int → Bool) {L : List Int} (h : ∀ i ∈ L, q i = true) : Wq w q L = (L.map (pat w)).sum := by
  unfold Wq
  rw [List.filter_eq_self.mpr h]
theorem wq_none (q : Int → Bool) {L : List Int} (h : ∀ i ∈ L, q i = false) : Wq w q L = 0 := by
  unfold Wq
  rw [List.filter_eq_nil_iff.mpr fun i hi => by rw [h i hi]; exact Bool.false_ne_true]
  rfl
theorem wq_perm (q : Int → Bool) {L M : List Int} (h : L.Perm M) : Wq w q L = Wq w q M := by
  unfold Wq
  exact perm_sumI ((h.filter q).map (pat w))
theorem wq_not (q : Int → Bool) : ∀ L : List Int, Wq w q L + Wq w (fun i => !q i) L = (L.map (pat w)).sum
  | [] => rfl
  | i :: L => by
    have ih := wq_not q L
    rw [wq_cons, wq_cons, List.map_cons, List.sum_cons]
    cases h : q i <;> simp <;> omega
/-- v is the distance at which the middle lies -/
def Med (w : List Int) (far : Int → Int) (L : List Int) (v : Int) : Prop := 2 * Wq w (fun i => decide (far i < v)) L ≤ (L.map (pat w)).sum ∧ (L.map (pat w)).sum < 2 * Wq w (fun i => decide (far i ≤ v)) L
theorem Med.uniq {far : Int → Int} {L : List Int} (hw : ∀ i ∈ L, 0 ≤ pat w i) {u v : Int} (h : Med w far L u) (h2 : Med w far L v) : u = v := by
  obtain ⟨a1, a2⟩ := h
  obtain ⟨b1, b2⟩ := h2
  rcases Int.lt_trichotomy u v with c | c | c
  · have := wq_le (q := fun i => decide (far i ≤ u)) (r := fun i => decide (far i < v)) hw fun i _ q => decide_eq_true (by have := of_decide_eq_true q; omega)
    omega
  · exact c
  · have := wq_le (q := fun i => decide (far i ≤ v)) (r := fun i => decide (far i < u)) hw fun i _ q => decide_eq_true (by have := of_decide_eq_true q; omega)
    omega
theorem Med.perm {far : Int → Int} {L M : List Int} (p : L.Perm M) {v : Int} (h : Med w far L v) : Med w far M v := by
  unfold Med at h ⊢
  rw [← wq_perm _ p, ← wq_perm _ p, ← perm_sumI (p.map (pat w))]
  exact h
theorem med_of {far : Int → Int} {S1 S2 : List Int} {i : Int} (hw : ∀ j ∈ S1 ++ i :: S2, 0 ≤ pat w j) (hs : (S1 ++ i :: S2).Pairwise (fun a b => far a ≤ far b) ∨ (S1 ++ i :: S2).Pairwise (fun a b => far b ≤ far a)) (odd : ((S1 ++ i :: S2).map (pat w)).sum % 2 ≠ 0)
    (h1 : 2 * (S1.map (pat w)).sum ≤ ((S1 ++ i :: S2).map (pat w)).sum) (h2 : ((S1 ++ i :: S2).map (pat w)).sum < 2 * ((S1.map (pat w)).sum + pat w i)) : Med w far (S1 ++ i :: S2) (far i) := by
  have hw1 : ∀ j ∈ S1, 0 ≤ pat w j := fun j hj => hw j (List.mem_append_left _ hj)
  have hwi : 0 ≤ pat w i := hw i (by simp)
  have hw2 : ∀ j ∈ S2, 0 ≤ pat w j := fun j hj => hw j (List.mem_append_right _ (List.mem_cons_of_mem _ hj))
  rcases hs with hs | hs
  · rw [List.pairwise_append, List.pairwise_cons] at hs
    obtain ⟨_, ⟨hs2, _⟩, hs3⟩ := hs
    have a1 : Wq w (fun j => decide (far j < far i)) (S1 ++ i :: S2) ≤ (S1.map (pat w)).sum := by
      rw [wq_app, wq_cons, if_neg (by simp), wq_none (L := S2) _ fun j hj => decide_eq_false (by have := hs2 j hj; omega)]
      have := wq_le (q := fun j => decide (far j < far i)) (r := fun _ => true) hw1 fun _ _ _ => rfl
      rw [wq_all (fun _ => true) fun _ _ => rfl] at this
      omega
    have a2 : (S1.map (pat w)).sum + pat w i ≤ Wq w (fun j => decide (far j ≤ far i)) (S1 ++ i :: S2) := by
      rw [wq_app, wq_cons, if_pos (by simp), wq_all _ fun j hj => decide_eq_true (hs3 j hj i (by simp))]
      have := wq_nn (q := fun j => decide (far j ≤ far i)) hw2
      omega
    exact ⟨by omega, by omega⟩
  · rw [List.pairwise_append, List.pairwise_cons] at hs
    obtain ⟨_, ⟨hs2, _⟩, hs3⟩ := hs
    have n1 := wq_not (w := w) (fun j => decide (far j < far i)) (S1 ++ i :: S2)
    have n2 := wq_not (w := w) (fun j => decide (far j ≤ far i)) (S1 ++ i :: S2)
    have a1 : Wq w (fun j => !decide (far j ≤ far i)) (S1 ++ i :: S2) ≤ (S1.map (pat w)).sum := by
      rw [wq_app, wq_cons, if_neg (by simp), wq_none (L := S2) _ fun j hj => by have := hs2 j hj; simp only [this, decide_true, Bool.not_true]]
      have := wq_le (q := fun j => !decide (far j ≤ far i)) (r := fun _ => true) hw1 fun _ _ _ => rfl
      rw [wq_all (fun _ => true) fun _ _ => rfl] at this
      omega
    have a2 : (S1.map (pat w)).sum + pat w i ≤ Wq w (fun j => !decide (far j < far i)) (S1 ++ i :: S2) := by
      rw [wq_app, wq_cons, if_pos (by simp), wq_all _ fun j hj => by have := hs3 j hj i (by simp); simp only [Bool.not_eq_true', decide_eq_false_iff_not]; omega]
      have := wq_nn (q := fun j => !decide (far j < far i)) hw2
      omega
    exact ⟨by omega, by omega⟩
end Lw
namespace Lw
open PySem Hb Nv L2 P
open Enc (enc)
variable {n : Nat} {f : List (List Int)} {w : List Int}
/-- a sequence of all indices along which each pair turns at most once -/
def Turn (n : Nat) (f : List (List Int)) (σ : List Int) : Prop := σ.Perm (iot f.length) ∧ Once (pairs n) (fun t => sd (ath f (pat σ (t : Int)))) f.length
theorem Turn.len {σ : List Int} (h : Turn n f σ) : σ.length = f.length := by rw [h.1.length_eq, iot_len]
theorem Turn.at_ {σ : List Int} (h : Turn n f σ) {i : Int} (h0 : 0 ≤ i) (h1 : i < f.length) : ∃ t : Nat, t < f.length ∧ pat σ (t : Int) = i := by
  have hi := h.1.mem_iff.mpr (mem_iot.mpr ⟨h0, h1⟩)
  have hl := pos_lt hi
  have hn := pos_nn σ i
  rw [h.len] at hl
  refine ⟨(pos σ i).toNat, by omega, ?_⟩
  rw [Int.toNat_of_nonneg hn]
  exact pat_pos hi
theorem mem_ath {e : List Int} (h : e ∈ f) : ∃ i : Int, 0 ≤ i ∧ i < f.length ∧ ath f i = e := by
  obtain ⟨k, hk, e1⟩ := List.mem_iff_getElem.mp h
  refine ⟨(k : Int), by omega, by omega, ?_⟩
  unfold ath
  rw [List.getD_eq_getElem?_getD, Int.toNat_natCast, List.getElem?_eq_getElem hk, e1]
  rfl
theorem turn_chn {σ : List Int} (h : Turn n f σ) {e : List Int} (he : e ∈ f) (mx : ∀ o ∈ f, dst (pairs n) (sd (ath f 0)) (sd o) ≤ dst (pairs n) (sd (ath f 0)) (sd e)) :
    Chn n f e ∧ (σ.Pairwise (fun a b => farI n e f a ≤ farI n e f b) ∨ σ.Pairwise (fun a b => farI n e f b ≤ farI n e f a)) := by
  have hm : 0 < f.length := List.length_pos_of_mem he
  obtain ⟨E, E0, E1, eE⟩ := mem_ath he
  obtain ⟨t, ht, et⟩ := h.at_ E0 E1
  obtain ⟨k, hk, ek⟩ := h.at_ (Int.le_refl 0) (by omega)
  have ends := h.2.end_ (k := k) (t := t) hk ht fun s hs => by
    simp only [ek, et, eE]
    exact mx _ (ath_at (mem_iot.mp (h.1.mem_iff.mp (pat_mem (r := σ) (k := (s : Int)) (by omega) (by rw [h.len]; omega)))).1 (mem_iot.mp (h.1.mem_iff.mp (pat_mem (r := σ) (k := (s : Int)) (by omega) (by rw [h.len]; omega)))).2).2
  simp only [et, eE] at ends
  refine ⟨h.2.nest ends fun j hj => ?_, ?_⟩
  · obtain ⟨s, hs, es⟩ := h.at_ (i := (j : Int)) (by omega) (by omega)
    exact ⟨s, hs, by simp only [es]⟩
  · have pg : ∀ i, (hi : i < σ.length) → σ[i] = pat σ (i : Int) := fun i hi => (pat_get (List.getElem?_eq_getElem hi)).symm
    rcases ends with q | q
    · refine .inl (List.pairwise_iff_getElem.mpr fun i j hi hj hij => ?_)
      rw [pg i hi, pg j hj]
      unfold farI
      rw [dst_alk q (.refl _), dst_alk q (.refl _)]
      have := (h.2.sub (Nat.zero_le i) (by omega : i ≤ j) (by rw [← h.len]; exact hj)).le
      exact Int.ofNat_le.mpr this
    · refine .inr (List.pairwise_iff_getElem.mpr fun i j hi hj hij => ?_)
      rw [pg i hi, pg j hj]
      unfold farI
      rw [dst_alk q (.refl _), dst_alk q (.refl _)]
      have hl := h.len
      have := (h.2.sub' (by omega : i ≤ j) (by omega : j ≤ f.length - 1) (by omega)).le
      exact Int.ofNat_le.mpr this
theorem same_far {e : List Int} (hf : ∀ z ∈ f, Row n z) (h : Chn n f e) {a b : Int} (a0 : 0 ≤ a) (a1 : a < f.length) (b0 : 0 ≤ b) (b1 : b < f.length) (q : farI n e f a = farI n e f b) : ath f a = ath f b :=
  row_alk (hf _ (ath_at a0 a1).2) (hf _ (ath_at b0 b1).2) ((h.get a0 a1 b0 b1 (Int.le_of_eq q)).alk (h.get b0 b1 a0 a1 (Int.le_of_eq q.symm)))
/-- all of the weights -/
theorem all_w (hl : w.length = f.length) : ((iot f.length).map (pat w)).sum = w.sum := by rw [map_pat hl]
theorem pat_nn (hw : ∀ x ∈ w, 0 ≤ x) (hl : w.length = f.length) {i : Int} (h : 0 ≤ i ∧ i < f.length) : 0 ≤ pat w i := hw _ (pat_mem h.1 (by rw [hl]; exact h.2))
/-- the middle one decides each pair -/
theorem med_pair {e : List Int} (h : Chn n f e) (hw : ∀ x ∈ w, 0 ≤ x) (hl : w.length = f.length) (odd : w.sum % 2 ≠ 0) {i : Int} (i0 : 0 ≤ i) (i1 : i < f.length) (md : Med w (farI n e f) (iot f.length) (farI n e f i)) {p : Int × Int} (hp : p ∈ pairs n) :
    sd (ath f i) p = decide (w.sum < 2 * Wq w (fun j => sd (ath f j) p) (iot f.length)) := by
  obtain ⟨m1, m2⟩ := md
  rw [all_w hl] at m1 m2
  have nn : ∀ j ∈ iot f.length, 0 ≤ pat w j := fun j hj => pat_nn hw hl (mem_iot.mp hj)
  have key : w.sum < 2 * Wq w (fun j => decide (sd (ath f j) p = sd (ath f i) p)) (iot f.length) := by
    by_cases c : sd e p = sd (ath f i) p
    · have := wq_le (w := w) (q := fun j => decide (farI n e f j ≤ farI n e f i)) (r := fun j => decide (sd (ath f j) p = sd (ath f i) p)) nn fun j hj q => by
        have hj := mem_iot.mp hj
        have s := h.get hj.1 hj.2 i0 i1 (of_decide_eq_true q) p hp
        refine decide_eq_true ?_
        by_cases c2 : sd e p = sd (ath f j) p
        · rw [← c2, c]
        · exact absurd c (s c2)
      omega
    · have := wq_le (w := w) (q := fun j => !decide (farI n e f j < farI n e f i)) (r := fun j => decide (sd (ath f j) p = sd (ath f i) p)) nn fun j hj q => by
        have hj := mem_iot.mp hj
        have q : ¬ farI n e f j < farI n e f i := by simpa using q
        have s := h.get i0 i1 hj.1 hj.2 (by omega) p hp c
        refine decide_eq_true ?_
        cases h1 : sd e p <;> cases h2 : sd (ath f i) p <;> cases h3 : sd (ath f j) p <;> simp_all
      have n1 := wq_not (w := w) (fun j => decide (farI n e f j < farI n e f i)) (iot f.length)
      rw [all_w hl] at n1
      omega
  have n2 := wq_not (w := w) (fun j => sd (ath f j) p) (iot f.length)
  rw [all_w hl] at n2
  cases b : sd (ath f i) p with
  | true =>
    rw [b] at key
    have e1 : (fun j => decide (sd (ath f j) p = true)) = fun j => sd (ath f j) p := by
      funext j
      cases sd (ath f j) p <;> rfl
    rw [e1] at key
    exact (decide_eq_true key).symm
  | false =>
    rw [b] at key
    have e1 : (fun j => decide (sd (ath f j) p = false)) = fun j => !sd (ath f j) p := by
      funext j
      cases sd (ath f j) p <;> rfl
    rw [e1] at key
    exact (decide_eq_false (by omega)).symm
/-- what is due, along the sequence -/
theorem due_loop {g : Int → List Int} {h : Int} (b : Int × Option (List Int) → Int → Option (Int × Option (List Int))) : ∀ (L : List Int) (s : Int × Option (List Int)), (∀ i ∈ L, 0 ≤ pat w i) → (∀ i ∈ L, ∀ s, b s i = some (s.1 + pat w i, if s.1 ≤ h ∧ h < s.1 + pat w i then some (g i) else s.2)) →
    (h < s.1 → forS L s b = some (s.1 + (L.map (pat w)).sum, s.2)) ∧ (s.1 ≤ h → h < s.1 + (L.map (pat w)).sum → ∃ S1 i S2, L = S1 ++ i :: S2 ∧ s.1 + (S1.map (pat w)).sum ≤ h ∧ h < s.1 + (S1.map (pat w)).sum + pat w i ∧ forS L s b = some (s.1 + (L.map (pat w)).sum, some (g i)))
  | [], s, _, _ => ⟨fun _ => by
      show some s = _
      simp, fun h1 h2 => by simp at h2; omega⟩
  | x :: L, s, hw, hb => by
    have hx := hw x (by simp)
    have ih := fun s => due_loop b L s (fun i hi => hw i (by simp [hi])) fun i hi => hb i (by simp [hi])
    have st : forS (x :: L) s b = forS L (s.1 + pat w x, if s.1 ≤ h ∧ h < s.1 + pat w x then some (g x) else s.2) b := by
      show (b s x).bind _ = _
      rw [hb x (by simp) s]
      rfl
    rw [st, List.map_cons, List.sum_cons]
    refine ⟨fun l => ?_, fun l1 l2 => ?_⟩
    · rw [if_neg (by omega)]
      have := (ih (s.1 + pat w x, s.2)).1 (by simp only []; omega)
      rw [this]
      simp only [Option.some.injEq, Prod.mk.injEq, and_true]
      omega
    · by_cases c : h < s.1 + pat w x
      · rw [if_pos ⟨l1, c⟩]
        have := (ih (s.1 + pat w x, some (g x))).1 c
        rw [this]
        refine ⟨[], x, L, rfl, by simp; exact l1, by simp; exact c, ?_⟩
        simp only [Option.some.injEq, Prod.mk.injEq, and_true]
        omega
      · rw [if_neg (by omega)]
        obtain ⟨S1, i, S2, e1, e2, e3, e4⟩ := (ih (s.1 + pat w x, s.2)).2 (by simp only []; omega) (by simp only []; omega)
        simp only [] at e2 e3 e4
        refine ⟨x :: S1, i, S2, by rw [e1]; rfl, by rw [List.map_cons, List.sum_cons]; omega, by rw [List.map_cons, List.sum_cons]; omega, ?_⟩
        rw [e4]
        simp only [Option.some.injEq, Prod.mk.injEq, and_true]
        omega
end Lw
namespace Lw
open PySem Hb Nv L2 P
open Enc (enc)
variable {n : Nat} {f : List (List Int)} {w : List Int}
theorem set_ok (hf : ∀ z ∈ f, Row n z) (h1 : 1 ≤ n) (hn : n ≤ 12) (hl : f.length ≤ 40) : n_need_set (n : Int) (enc f) 12 = some () ∧ x_need_set (n : Int) (enc f) 12 = none := by
  have e1 : x_need_count (enc (n : Int)) 12 = none := by
    unfold x_need_count
    have : n_is_integer (enc (n : Int)) 1 (some 12) = some true := integer12 h1 hn
    simp only [bs, this, bnot_t, Bool.false_eq_true, if_false]
  constructor
  · unfold n_need_set
    simp only [bs, count_ok h1 hn, ballots_ok hf (by omega : n ≤ 1000) hl]
  · unfold x_need_set
    simp only [bs, e1, count_ok h1 hn, ballots_x hf (by omega : n ≤ 1000) hl, ballots_ok hf (by omega : n ≤ 1000) hl]
    rfl
theorem turn_least {σ : List Int} (hT : Turn n f σ) (hf : ∀ z ∈ f, Row n z) (hn : n ≤ 300) (hl : f.length ≤ 1000) (hne : f ≠ []) : ∃ e L, Chn n f e ∧ (σ.Pairwise (fun a b => farI n e f a ≤ farI n e f b) ∨ σ.Pairwise (fun a b => farI n e f b ≤ farI n e f a)) ∧
    L.Perm (iot f.length) ∧ (L.Pairwise (fun a b => farI n e f a ≤ farI n e f b) ∨ L.Pairwise (fun a b => farI n e f b ≤ farI n e f a)) ∧ n_least_row (n : Int) f = some (some L) := by
  obtain ⟨e, he, mx, L0, L1, s0, s1, hL⟩ := least_ok hf hn hl hne
  obtain ⟨hc, hs⟩ := turn_chn hT he mx
  have ft := chn_fits hc (soby_mem s0) (soby_far s0 (.inl rfl))
  rw [if_pos ft] at hL
  refine ⟨e, _, hc, hs, ?_, ?_, hL⟩
  · split
    · exact s1.1
    · exact s0.1
  · split
    · exact soby_far s1 (.inr rfl)
    · exact soby_far s0 (.inl rfl)
theorem told_even5 {σ : List Int} (hT : Turn n f σ) (hf : ∀ z ∈ f, Row n z) (h1 : 1 ≤ n) (hn : n ≤ 12) (hl : f.length ≤ 40) (hw : Wts w) (hwl : w.length = f.length) (ev : w.sum % 2 = 0) : n__law_told_v5 (n : Int) f w = some (enc (Str.ofString "even")) := by
  obtain ⟨s1, s2⟩ := set_ok hf h1 hn hl
  obtain ⟨v1, v2⟩ := voters_ok hw (by omega) hwl.symm
  obtain ⟨o1, o2⟩ := odd_e w
  rw [if_pos ev] at o1 o2
  obtain ⟨L, hL⟩ : ∃ L, n_least_row (n : Int) f = some (some L) := by
    by_cases hne : f = []
    · rw [hne]; exact ⟨_, least_nil⟩
    · obtain ⟨_, L, _, _, _, _, h⟩ := turn_least hT hf (by omega) (by omega) hne
      exact ⟨L, h⟩
  have x1 : n_middle_ballot (n : Int) f w = none := by
    unfold n_middle_ballot
    simp only [bs, s1, v1, hL, Bool.false_eq_true, if_false, Option.isNone_some, o1]
    rfl
  have x2 : x_middle_ballot (n : Int) f w = some (Str.ofString "EvenVoters") := by
    unfold x_middle_ballot
    simp only [bs, s1, s2, v1, v2, hL, Bool.false_eq_true, if_false, Option.isNone_some, o1, o2]
    rfl
  unfold n__law_told_v5
  simp only [bs, x1, x2]
  rfl
theorem told_mid5 {σ : List Int} (hT : Turn n f σ) (hf : ∀ z ∈ f, Row n z) (h1 : 1 ≤ n) (hn : n ≤ 12) (hl : f.length ≤ 40) (hw : Wts w) (hwl : w.length = f.length) (odd : w.sum % 2 ≠ 0) : ∃ (e : List Int) (i : Int), Chn n f e ∧ (σ.Pairwise (fun a b => farI n e f a ≤ farI n e f b) ∨ σ.Pairwise (fun a b => farI n e f b ≤ farI n e f a)) ∧ 0 ≤ i ∧ i < f.length ∧ Med w (farI n e f) (iot f.length) (farI n e f i) ∧ n__law_told_v5 (n : Int) f w = some (enc (ath f i)) := by
  obtain ⟨s1, s2⟩ := set_ok hf h1 hn hl
  obtain ⟨v1, v2⟩ := voters_ok hw (by omega) hwl.symm
  obtain ⟨o1, o2⟩ := odd_e w
  rw [if_neg odd] at o1 o2
  have hne : f ≠ [] := fun e => by
    rw [e] at hwl
    have : w = [] := List.eq_nil_of_length_eq_zero hwl
    rw [this] at odd
    exact odd rfl
  obtain ⟨e, L, hc, hs, pL, sL, hL⟩ := turn_least hT hf (by omega) (by omega) hne
  have hm : ∀ i ∈ L, 0 ≤ i ∧ i < w.length := fun i hi => by rw [hwl]; exact mem_iot.mp (pL.mem_iff.mp hi)
  have sumL : (L.map (pat w)).sum = w.sum := by rw [perm_sumI (pL.map (pat w)), all_w hwl]
  have nn : 0 ≤ w.sum := sum_nnL fun x hx => (hw x hx).1
  obtain ⟨S1, i, S2, e1, e2, e3, e4⟩ := middle_ok hm nn (by rw [sumL]; omega)
  have hi := hm i (by rw [e1]; simp)
  rw [hwl] at hi
  have md : Med w (farI n e f) (S1 ++ i :: S2) (farI n e f i) := med_of (fun j hj => pat_nn (fun x hx => (hw x hx).1) hwl (by rw [← hwl]; exact hm j (by rw [e1]; exact hj))) (by rw [← e1]; exact sL) (by rw [← e1, sumL]; exact odd) (by rw [← e1, sumL]; exact e3) (by rw [← e1, sumL]; exact e4)
  rw [← e1] at md
  refine ⟨e, i, hc, hs, hi.1, hi.2, md.perm pL, ?_⟩
  have x1 : n_middle_ballot (n : Int) f w = some (ath f i) := by
    unfold n_middle_ballot
    simp only [bs, s1, v1, hL, Bool.false_eq_true, if_false, Option.isNone_some, o1, e2, (ath_at hi.1 hi.2).1, listL_e]
  unfold n__law_told_v5
  simp only [bs, x1]
  rfl
end Lw
namespace Lw
open PySem Hb Nv L2 P
open Enc (enc)
variable {n : Nat}
theorem pos_swap {x y a b : Int} (hxy : x ≠ y) (v : List Int) (h1 : ¬(a = x ∧ b = y)) (h2 : ¬(a = y ∧ b = x)) : ∀ u : List Int, (pos (u ++ x :: y :: v) a < pos (u ++ x :: y :: v) b ↔ pos (u ++ y :: x :: v) a < pos (u ++ y :: x :: v) b)
  | [] => by
    have na := pos_nn v a
    have nb := pos_nn v b
    simp only [List.nil_append, pos_cons]
    by_cases ax : a = x
    · have ay : a ≠ y := fun e => hxy (ax.symm.trans e)
      by_cases bx : b = x
      · have by_ : b ≠ y := fun e => hxy (bx.symm.trans e)
        simp only [if_pos ax, if_neg ay, if_pos bx, if_neg by_]; omega
      · have by_ : b ≠ y := fun e => h1 ⟨ax, e⟩
        simp only [if_pos ax, if_neg ay, if_neg bx, if_neg by_]; omega
    · by_cases ay : a = y
      · have bx : b ≠ x := fun e => h2 ⟨ay, e⟩
        by_cases by_ : b = y
        · simp only [if_neg ax, if_pos ay, if_neg bx, if_pos by_]; omega
        · simp only [if_neg ax, if_pos ay, if_neg bx, if_neg by_]; omega
      · by_cases bx : b = x
        · have by_ : b ≠ y := fun e => hxy (bx.symm.trans e)
          simp only [if_neg ax, if_neg ay, if_pos bx, if_neg by_]; omega
        · by_cases by_ : b = y
          · simp only [if_neg ax, if_neg ay, if_neg bx, if_pos by_]; omega
          · simp only [if_neg ax, if_neg ay, if_neg bx, if_neg by_]
  | c :: u => by
    have ih := pos_swap hxy v h1 h2 u
    have n1 := pos_nn (u ++ x :: y :: v) a
    have n2 := pos_nn (u ++ x :: y :: v) b
    have n3 := pos_nn (u ++ y :: x :: v) a
    have n4 := pos_nn (u ++ y :: x :: v) b
    simp only [List.cons_append, pos_cons]
    by_cases ac : a = c
    · by_cases bc : b = c
      · simp only [if_pos ac, if_pos bc]
      · simp only [if_pos ac, if_neg bc]; omega
    · by_cases bc : b = c
      · simp only [if_neg ac, if_pos bc]; omega
      · simp only [if_neg ac, if_neg bc]; omega
theorem pos_xy {x y : Int} (hxy : x ≠ y) (v : List Int) : ∀ {u : List Int}, x ∉ u → y ∉ u → pos (u ++ x :: y :: v) x < pos (u ++ x :: y :: v) y
  | [], _, _ => by
    simp only [List.nil_append, pos_cons, if_pos, if_neg (fun e : y = x => hxy e.symm)]; omega
  | c :: u, h1, h2 => by
    have ih := pos_xy hxy v (u := u) (fun h => h1 (by simp [h])) fun h => h2 (by simp [h])
    have a1 : x ≠ c := fun e => h1 (by simp [e])
    have a2 : y ≠ c := fun e => h2 (by simp [e])
    simp only [List.cons_append, pos_cons, if_neg a1, if_neg a2]
    omega
/-- turning a pair that stands as at first turns one pair more -/
theorem swap_sub {b l : List Int} (hl : Row n l) {k : Nat} (hk : k + 1 < n) (h : pos b (pat l k) < pos b (pat l ((k : Int) + 1))) : Sub (pairs n) (sd b) (sd l) (sd (ex2 l k)) := by
  have hn := hl.nodup
  obtain ⟨u, x, y, v, rfl, rfl⟩ := at_split (r := l) (k := k) (by rw [hl.len]; exact hk)
  obtain ⟨s1, s2, s3⟩ := split_at u v x y
  rw [s1, s2] at h
  rw [s3]
  rw [List.nodup_append] at hn
  obtain ⟨_, hn2, hn3⟩ := hn
  have hxy : x ≠ y := fun e => by rw [e] at h; omega
  have xu : x ∉ u := fun q => hn3 x q x (by simp) rfl
  have yu : y ∉ u := fun q => hn3 y q y (by simp) rfl
  have p1 := pos_xy hxy v xu yu
  intro p hp q
  by_cases c1 : p.1 = x ∧ p.2 = y
  · exfalso
    refine q ?_
    unfold sd
    rw [c1.1, c1.2, decide_eq_true h, decide_eq_true p1]
  · by_cases c2 : p.1 = y ∧ p.2 = x
    · exfalso
      refine q ?_
      unfold sd
      rw [c2.1, c2.2, decide_eq_false (by omega), decide_eq_false (by omega)]
    · have e : sd (u ++ x :: y :: v) p = sd (u ++ y :: x :: v) p := decide_eq_decide.mpr (pos_swap hxy v c1 c2 u)
      rwa [← e]
theorem Sub.trans' {P : List (Int × Int)} {e u v w : Int × Int → Bool} (h : Sub P e u v) (h2 : Sub P e v w) : Sub P e u w := fun p hp q => h2 p hp (h p hp q)
theorem once_of {P : List (Int × Int)} {e : Int × Int → Bool} {g : Nat → Int × Int → Bool} {m : Nat} (h : ∀ i j, i ≤ j → j < m → Sub P e (g i) (g j)) : Once P g m := fun i j k hij hjk hk p hp q => by
  have s1 := h i j hij (by omega) p hp
  have s2 := h j k hjk hk p hp
  cases h1 : e p <;> cases h2 : g i p <;> cases h3 : g j p <;> cases h4 : g k p <;> simp_all
theorem ath_app {f : List (List Int)} {r : List Int} {i : Nat} : (i < f.length → ath (f ++ [r]) (i : Int) = ath f (i : Int)) ∧ ath (f ++ [r]) (f.length : Int) = r := by
  constructor
  · intro h
    unfold ath
    rw [List.getD_eq_getElem?_getD, List.getD_eq_getElem?_getD, Int.toNat_natCast, List.getElem?_append_left h]
  · unfold ath
    rw [List.getD_eq_getElem?_getD, Int.toNat_natCast, List.getElem?_append_right (Nat.le_refl _), Nat.sub_self]
    rfl
/-- what has been found, and what is at hand -/
structure Tu (n : Nat) (b : List Int) (f : List (List Int)) (l : List Int) : Prop where
  row : Row n l
  rows : ∀ r ∈ f, Row n r
  up : ∀ i j : Nat, i ≤ j → j < f.length → Sub (pairs n) (sd b) (sd (ath f (i : Int))) (sd (ath f (j : Int)))
  last : ∀ i : Nat, i < f.length → Sub (pairs n) (sd b) (sd (ath f (i : Int))) (sd l)
theorem Tu.nil {b : List Int} (h : Row n b) : Tu n b [] b := by
  refine ⟨h, fun r hr => ?_, fun i j _ hj => ?_, fun i hi => ?_⟩
  · cases hr
  · exact absurd hj (Nat.not_lt_zero _)
  · exact absurd hi (Nat.not_lt_zero _)
theorem Tu.app {b l : List Int} {f : List (List Int)} (h : Tu n b f l) : Tu n b (f ++ [l]) l := by
  refine ⟨h.row, fun r hr => ?_, fun i j hij hj => ?_, fun i hi => ?_⟩
  · rcases List.mem_append.mp hr with hr | hr
    · exact h.rows r hr
    · rw [List.mem_singleton.mp hr]; exact h.row
  · rw [List.length_append] at hj
    have hj : j < f.length + 1 := hj
    rcases Nat.lt_or_ge j f.length with c | c
    · rw [ath_app.1 c, ath_app.1 (by omega : i < f.length)]
      exact h.up i j hij c
    · have : j = f.length := by omega
      subst this
      rw [(ath_app (i := 0)).2]
      rcases Nat.lt_or_ge i f.length with c2 | c2
      · rw [ath_app.1 c2]; exact h.last i c2
      · have : i = f.length := by omega
        subst this
        rw [(ath_app (i := 0)).2]
        exact fun p hp q => q
  · rw [List.length_append] at hi
    have hi : i < f.length + 1 := hi
    rcases Nat.lt_or_ge i f.length with c | c
    · rw [ath_app.1 c]; exact h.last i c
    · have : i = f.length := by omega
      subst this
      rw [(ath_app (i := 0)).2]
      exact fun p hp q => q
theorem Tu.swap {b l : List Int} {f : List (List Int)} (h : Tu n b f l) {k : Nat} (hk : k + 1 < n) (q : pos b (pat l k) < pos b (pat l ((k : Int) + 1))) : Tu n b f (ex2 l k) :=
  ⟨ex2_row h.row hk, h.rows, h.up, fun i hi => (h.last i hi).trans' (swap_sub h.row hk q)⟩
theorem turning_ok {K : Int} {t : List Int} (ht : Well K t) {m : Nat} (h1 : 1 ≤ n) (hn : n ≤ 12) (hm : m ≤ 40) (hK : K + 2000 ≤ 10 ^ 15) : Wp (n__law_turning t (n : Int) (m : Int)) fun z => Well (K + 2000) z.2 ∧ (∀ r ∈ z.1, Row n r) ∧ z.1.length = m ∧ Once (pairs n) (fun t => sd (ath z.1 (t : Int))) m := by
  obtain ⟨⟨b, T1⟩, e1, hT1, hb⟩ := vote_ok ht (n := n) (by omega) (by omega)
  have hT1 : Well (K + n) T1 := hT1
  have hb : Row n b := hb
  unfold n__law_turning
  simp only [bs, e1, listL_e, ri1_nat m (by omega : m ≤ 1000000)]
  refine Wp.for (fun i s => Well (K + n + 40 * i) s.1 ∧ Tu n b s.2.2 s.2.1 ∧ s.2.2.length = i) ⟨hT1.mono (by simp), Tu.nil hb, rfl⟩ ?_ ?_
  · rintro i x ⟨T, l, f⟩ hx ⟨hT, hu, hl⟩
    have hi := (iot_getI hx).2
    have hT : Well (K + n + 40 * i) T := hT
    have hu : Tu n b f l := hu
    have hl : f.length = i := hl
    have m2 : mulI 2 (n : Int) = some (2 * (n : Int)) := mulI_l _ _ (by decide)
    obtain ⟨⟨c, T2⟩, e2, hT2, c0, c1⟩ := pick_ok hT (by omega) (n := 2 * (n : Int)) (by omega) (by omega)
    have c0 : 0 ≤ c := c0
    have c1 : c < 2 * (n : Int) := c1
    have hT2 : Well (K + n + 40 * i + 1) T2 := hT2
    obtain ⟨⟨d, T3⟩, e3, hT3, d0, d1⟩ := pick_ok hT2 (by omega) (n := (5 : Int)) (by omega) (by omega)
    have d0 : 0 ≤ d := d0
    have d1 : d < 5 := d1
    have hT3 : Well (K + n + 40 * i + 1 + 1) T3 := hT3
    obtain ⟨g, eg, g0, g1⟩ : ∃ g : Nat, atL [0, 1, 1, 2, c] d = some (g : Int) ∧ (0 : Int) ≤ g ∧ (g : Int) ≤ 2 * n := by
      have : d = 0 ∨ d = 1 ∨ d = 2 ∨ d = 3 ∨ d = 4 := by omega
      rcases this with rfl | rfl | rfl | rfl | rfl
      · exact ⟨0, rfl, by omega, by omega⟩
      · exact ⟨1, rfl, by omega, by omega⟩
      · exact ⟨1, rfl, by omega, by omega⟩
      · exact ⟨2, rfl, by omega, by omega⟩
      · exact ⟨c.toNat, by rw [Int.toNat_of_nonneg c0]; rfl, by omega, by omega⟩
    simp only [bs, m2, e2, e3, eg, ri1_nat g (by omega : g ≤ 1000000)]
    refine Wp.for (fun j s => Well (K + n + 40 * i + 2 + j) s.1 ∧ Tu n b f s.2) ⟨hT3.mono (by simp; omega), hu⟩ ?_ ?_
    · rintro j y ⟨T, l⟩ hy ⟨hT, hu⟩
      have hj := (iot_getI hy).2
      have hT : Well (K + n + 40 * i + 2 + j) T := hT
      have hu : Tu n b f l := hu
      have ll := hu.row.len
      have e4 : ri1 ((n : Int) - 1) = some (iot (n - 1)) := by
        rw [show (n : Int) - 1 = ((n - 1 : Nat) : Int) by omega]
        exact ri1_nat _ (by omega)
      simp only [bs, subI_e, e4]
      rw [mapC_cap (fun k => decide (pos b (pat l k) < pos b (pat l (k + 1)))) (by rw [iot_len]; omega) fun k hk => ?_]
      · simp only [bs, neNil]
        generalize hup : List.filter (fun k => decide (pos b (pat l k) < pos b (pat l (k + 1)))) (iot (n - 1)) = ups
        have mups : ∀ k ∈ ups, 0 ≤ k ∧ k < n - 1 ∧ pos b (pat l k) < pos b (pat l (k + 1)) := fun k hk => by
          rw [← hup] at hk
          obtain ⟨a, b⟩ := List.mem_filter.mp hk
          have a := mem_iot.mp a
          exact ⟨a.1, by omega, of_decide_eq_true b⟩
        have lups : ups.length ≤ 12 := by
          rw [← hup]
          have := List.length_filter_le (fun k => decide (pos b (pat l k) < pos b (pat l (k + 1)))) (iot (n - 1))
          rw [iot_len] at this
          omega
        by_cases c : ups.isEmpty = true
        · rw [c]
          simp only [Bool.not_true, Bool.false_eq_true, if_false]
          exact .some ⟨hT.mono (by omega), hu⟩
        · have hne : 0 < ups.length := by
            cases ups with
            | nil => exact absurd rfl c
            | cons a r => simp
          rw [show ups.isEmpty = false by simpa using c]
          obtain ⟨⟨q, T4⟩, e5, hT4, q0, q1⟩ := pick_ok hT (by omega) (n := (ups.length : Int)) (by omega) (by omega)
          have q0 : 0 ≤ q := q0
          have q1 : q < ups.length := q1
          have hT4 : Well (K + n + 40 * i + 2 + j + 1) T4 := hT4
          obtain ⟨k, e6, _, e7⟩ := atL_int (xs := ups) q0 q1
          obtain ⟨k0, k1, k2⟩ := mups k e7
          obtain ⟨k, rfl⟩ := Int.eq_ofNat_of_zero_le k0
          obtain ⟨x1, x2, x3, x4, x5, x6⟩ := ex2_prog (r := l) (k := k) (by omega) (by omega)
          simp only [Bool.not_false, if_true, bs, lenL_e, e5, e6, addI_e, x1, x2, x3, x4, x5, x6]
          exact .some ⟨hT4.mono (by omega), hu.swap (by omega) k2⟩
      · have hk := mem_iot.mp hk
        have p1 : pat l k ∈ b := hb.mem.mpr (hu.row.mem.mp (pat_mem hk.1 (by omega)))
        have p2 : pat l (k + 1) ∈ b := hb.mem.mpr (hu.row.mem.mp (pat_mem (by omega) (by omega)))
        simp only [bs, addI_e, atL_pat (r := l) hk.1 (by omega), atL_pat (r := l) (k := k + 1) (by omega) (by omega), idxL_pos p1, idxL_pos p2, ltI_e]
    · rintro ⟨T, l⟩ ⟨hT, hu⟩
      have hT : Well (K + n + 40 * i + 2 + (iot g).length) T := hT
      rw [iot_len] at hT
      have hu : Tu n b f l := hu
      simp only [bs, apL_ok (xs := f) l (by omega)]
      refine .some ⟨hT.mono (by omega), hu.app, ?_⟩
      rw [List.length_append, hl]
      rfl
  · rintro ⟨T, l, f⟩ ⟨hT, hu, hl⟩
    have hT : Well (K + n + 40 * (iot m).length) T := hT
    have hl : f.length = (iot m).length := hl
    rw [iot_len] at hT hl
    have hu : Tu n b f l := hu
    exact .some ⟨hT.mono (by omega), hu.rows, hl, by
      rw [← hl]
      exact once_of hu.up⟩
theorem crowd2_ok {K : Int} {t : List Int} (ht : Well K t) {m : Nat} (hm : m ≤ 1000) (hK : K + 3 * m + 1 ≤ 10 ^ 15) : Wp (n__law_crowd_v2 t (m : Int)) fun z => Well (K + 3 * m + 1) z.2 ∧ z.1.length = m ∧ Wts z.1 := by
  obtain ⟨⟨w, T0⟩, e0, hT0, w0, w1⟩ := pick_ok ht (by omega) (n := (3 : Int)) (by omega) (by omega)
  have hT0 : Well (K + 1) T0 := hT0
  have w0 : 0 ≤ w := w0
  have w1 : w < 3 := w1
  unfold n__law_crowd_v2
  simp only [bs, e0, ri1_nat m (by omega : m ≤ 1000000)]
  refine Wp.for (fun i s => Well (K + 1 + 3 * i) s.1 ∧ s.2.length = i ∧ Wts s.2) ⟨hT0.mono (by simp), rfl, fun x hx => by cases hx⟩ ?_ ?_
  · rintro i x ⟨T, f⟩ hx ⟨hT, hl, hf⟩
    have hi := (iot_getI hx).2
    have hT : Well (K + 1 + 3 * i) T := hT
    have hl : f.length = i := hl
    have hf : Wts f := hf
    have app : ∀ y : Int, 0 ≤ y → y ≤ 10 ^ 30 → Wts (f ++ [y]) := fun y a b z hz => by
      rcases List.mem_append.mp hz with hz | hz
      · exact hf z hz
      · rw [List.mem_singleton.mp hz]; exact ⟨a, b⟩
    obtain ⟨⟨k, T1⟩, e1, hT1, k0, k1⟩ := pick_ok hT (by omega) (n := (4 : Int)) (by omega) (by omega)
    have k0 : 0 ≤ k := k0
    have k1 : k < 4 := k1
    have hT1 : Well (K + 1 + 3 * i + 1) T1 := hT1
    obtain ⟨⟨j, T2⟩, e2, hT2, j0, j1⟩ := pick_ok hT1 (by omega) (n := (10 : Int) ^ 30 + 1) (by omega) (by omega)
    have j0 : 0 ≤ j := j0
    have j1 : j < 10 ^ 30 + 1 := j1
    have hT2 : Well (K + 1 + 3 * i + 1 + 1) T2 := hT2
    obtain ⟨⟨q, T3⟩, e3, hT3, q0, q1⟩ := pick_ok hT2 (by omega) (n := (4 : Int)) (by omega) (by omega)
    have q0 : 0 ≤ q := q0
    have q1 : q < 4 := q1
    have hT3 : Well (K + 1 + 3 * i + 1 + 1 + 1) T3 := hT3
    obtain ⟨y, ey, y0, y1⟩ : ∃ y, atL [k, j, 0] w = some y ∧ 0 ≤ y ∧ y ≤ 10 ^ 30 := by
      have : w = 0 ∨ w = 1 ∨ w = 2 := by omega
      rcases this with rfl | rfl | rfl
      · exact ⟨k, rfl, k0, by omega⟩
      · exact ⟨j, rfl, j0, by omega⟩
      · exact ⟨0, rfl, by omega, by omega⟩
    obtain ⟨z, ez, z0, z1⟩ : ∃ z, atL [y, (10 : Int) ^ 30, y, 1] q = some z ∧ 0 ≤ z ∧ z ≤ 10 ^ 30 := by
      have : q = 0 ∨ q = 1 ∨ q = 2 ∨ q = 3 := by omega
      rcases this with rfl | rfl | rfl | rfl
      · exact ⟨y, rfl, y0, y1⟩
      · exact ⟨10 ^ 30, rfl, by omega, by omega⟩
      · exact ⟨y, rfl, y0, y1⟩
      · exact ⟨1, rfl, by omega, by omega⟩
    simp only [bs, e1, p1030, addI_e, e2, ey, ltI_e]
    by_cases c : w < 2
    · rw [if_pos (decide_eq_true c)]
      simp only [bs, e3, ez, apL_ok (xs := f) z (by omega)]
      exact .some ⟨hT3.mono (by omega), by simp [hl], app z z0 z1⟩
    · rw [if_neg (by simpa using c)]
      simp only [bs, e3, eqN_e, intB_e]
      have y2 : 0 ≤ (if decide (q = 0) = true then (1 : Int) else 0) ∧ (if decide (q = 0) = true then (1 : Int) else 0) ≤ 10 ^ 30 := by
        split <;> exact ⟨by omega, by omega⟩
      simp only [apL_ok (xs := f) _ (by omega : f.length ≤ 100000), bs]
      exact .some ⟨hT3.mono (by omega), by simp [hl], app _ y2.1 y2.2⟩
  · rintro ⟨T, f⟩ ⟨hT, hl, hf⟩
    have hT : Well (K + 1 + 3 * (iot m).length) T := hT
    have hl : f.length = (iot m).length := hl
    rw [iot_len] at hT hl
    exact .some ⟨hT.mono (by omega), hl, hf⟩
end Lw
namespace Lw
namespace K24
open PySem Hb Nv L2 P
open Enc (enc)
variable {α β γ σ ρ ζ : Type}
variable {n : Nat}
theorem asRows_map : ∀ f : List (List Int), asRows (f.map enc) = some f
  | [] => rfl
  | x :: f => by
    show ((rowA (enc x)).bind fun y => (asRows (f.map enc)).map (y :: ·)) = _
    rw [show rowA (enc x) = some x from ints_of x, asRows_map f]
    rfl
theorem Once.congr {P : List (Int × Int)} {g g' : Nat → Int × Int → Bool} {m : Nat} (h : Once P g m) (e : ∀ t, t < m → g' t = g t) : Once P g' m := fun i j k hij hjk hk p hp q => by
  rw [e i (by omega), e k hk] at q
  rw [e i (by omega), e j (by omega)]
  exact h i j k hij hjk hk p hp q
theorem votes_rows {left : List (List Int)} {m : Nat} (hl : left.length = m) (hr : ∀ r ∈ left, Row n r) (ho : Once (pairs n) (fun t => sd (ath left (t : Int))) m) {σ : List Int} (hs : σ.Perm (iot m)) {votes : List PyData} (hv : votes.length = m) (h : ∀ j : Nat, j < m → votes[(pat σ (j : Int)).toNat]? = some (enc (ath left (j : Int)))) :
    ∃ f, asRows votes = some f ∧ f.length = m ∧ (∀ r ∈ f, Row n r) ∧ Turn n f σ := by
  have sl : σ.length = m := by rw [hs.length_eq, iot_len]
  have sr : Row m σ := hs
  have fl : ((iot m).map fun i => ath left (pos σ i)).length = m := by rw [List.length_map, iot_len]
  have ps : ∀ i : Int, 0 ≤ i → i < m → 0 ≤ pos σ i ∧ pos σ i < m := fun i h0 h1 => by
    have := pos_lt (sr.mem.mpr ⟨h0, h1⟩)
    exact ⟨pos_nn σ i, by omega⟩
  have fa : ∀ i : Int, 0 ≤ i → i < m → ath ((iot m).map fun i => ath left (pos σ i)) i = ath left (pos σ i) := fun i h0 h1 => by
    obtain ⟨k, rfl⟩ := Int.eq_ofNat_of_zero_le h0
    show (List.getD _ ((k : Int).toNat) []) = _
    rw [List.getD_eq_getElem?_getD, Int.toNat_natCast, List.getElem?_map, iot_get (by omega)]
    rfl
  refine ⟨(iot m).map fun i => ath left (pos σ i), ?_, fl, fun r hr' => ?_, by rw [fl]; exact hs, ?_⟩
  · have : votes = ((iot m).map fun i => ath left (pos σ i)).map enc := by
      apply List.ext_getElem?
      intro i
      rcases Nat.lt_or_ge i m with c | c
      · obtain ⟨p0, p1⟩ := ps (i : Int) (by omega) (by omega)
        have := h (pos σ (i : Int)).toNat (by omega)
        rw [Int.toNat_of_nonneg p0, pat_pos (sr.mem.mpr ⟨by omega, by omega⟩), Int.toNat_natCast] at this
        rw [this, List.getElem?_map, List.getElem?_map, iot_get c]
        rfl
      · rw [List.getElem?_eq_none (by omega), List.getElem?_eq_none (by rw [List.length_map, fl]; exact c)]
    rw [this]
    exact asRows_map _
  · obtain ⟨i, hi, rfl⟩ := List.mem_map.mp hr'
    have hi := mem_iot.mp hi
    obtain ⟨p0, p1⟩ := ps i hi.1 hi.2
    exact hr _ (ath_at p0 (by omega)).2
  · rw [fl]
    refine Once.congr ho fun t ht => ?_
    have pm := sr.mem.mp (pat_mem (r := σ) (k := (t : Int)) (by omega) (by omega))
    show sd (ath _ (pat σ (t : Int))) = _
    rw [fa _ pm.1 pm.2, pos_pat sr (by omega) (by omega)]
theorem shown2 {f : List (List Int)} {w : List Int} (hf : ∀ z ∈ f, Row n z) (hn : n ≤ 12) (hl : f.length ≤ 40) (hw : Wts w) (hwl : w.length ≤ 40) : ∃ s, reprN (enc [enc f, enc w]) = some s := by
  refine ⟨_, vb_repr (vb_list (D := 2) (W := 520) (L := 2) (xs := [enc f, enc w].map fun d => d) ?_ (by simp)) (by omega) (by omega)⟩
  intro x hx
  rw [List.map_id'] at hx
  simp only [List.mem_cons, List.not_mem_nil, or_false] at hx
  rcases hx with rfl | rfl
  · exact vb_rows hf hn hl
  · exact (vb_ints (L := 40) (fun x hx => by
      have := hw x hx
      have e : (10 : Int) ^ 30 < 10 ^ 40 := by decide
      omega) hwl).mono (by omega) (by omega)
theorem above2 {r : List Int} (hr : Row n r) {p : Int × Int} (hp : p ∈ pairs n) : n__law_above r (some p.1) p.2 = some (sd r p) := by
  obtain ⟨p1, p2, _⟩ := mem_pairs.mp hp
  unfold n__law_above
  simp only [bs, idxL_pos (hr.mem.mpr p1), idxL_pos (hr.mem.mpr p2), ltI_e]
  rfl
theorem neA_self {s : Str} (hs : PyData.strOk s = true) : neA (enc s) (enc s) = some false := by
  have : (eqA (enc s) (enc s)).map (! ·) = some false := by
    have h : eqA (enc s) (enc s) = some true := by
      unfold eqA
      show (if _ then _ else _) = _
      simp [enc, PyData.eqv, SeqAt.shaped, PyData.canLay0, PyData.depth, hs]
    rw [h]; rfl
  exact this
theorem sok_even : PyData.strOk (Str.ofString "even") = true := by decide +kernel
theorem neS_self (s : Str) : neS s s = some false := by rw [neS_e, beq_self_eq_true]; rfl
theorem Wp.forFi {b : σ → α → Option (Fl ρ σ)} {K : Fl ρ σ → Option ζ} {Q : ζ → Prop} (P : Nat → σ → Prop) (N : Nat) : ∀ {xs : List α} {s : σ} (i : Nat), i + xs.length ≤ N → P i s → (∀ i s x, i < N → P i s → x ∈ xs → ∃ s', P (i + 1) s' ∧ b s x = Option.some (.nx s')) → (∀ s, P (i + xs.length) s → Wp (K (.nx s)) Q) → Wp ((forF xs s b).bind K) Q
  | [], s, i, _, h, _, hK => hK s h
  | x :: r, s, i, hN, h, hb, hK => by
    rw [List.length_cons] at hN
    obtain ⟨s', h1, e⟩ := hb i s x (by omega) h (by simp)
    have : forF (x :: r) s b = forF r s' b := by
      show (b s x).bind _ = _
      rw [e]; rfl
    rw [this]
    exact Wp.forFi P N (i + 1) (by omega) h1 (fun i s y hi hp hy => hb i s y hi hp (by simp [hy])) fun s h => hK s (by
      have e : i + 1 + r.length = i + (x :: r).length := by rw [List.length_cons]; omega
      rwa [e] at h)
variable {w : List Int}
theorem due_bnd {g : Int → List Int} {h : Int} {b : Int × Option (List Int) → Int → Option (Int × Option (List Int))} {L : List Int} {K : Int × Option (List Int) → Option ζ} {y : ζ} (hw : ∀ i ∈ L, 0 ≤ pat w i) (hb : ∀ i ∈ L, ∀ s, b s i = some (s.1 + pat w i, if s.1 ≤ h ∧ h < s.1 + pat w i then some (g i) else s.2)) (h0 : 0 ≤ h) (h1 : h < (L.map (pat w)).sum)
    (hk : ∀ S1 i S2, L = S1 ++ i :: S2 → (S1.map (pat w)).sum ≤ h → h < (S1.map (pat w)).sum + pat w i → K (0 + (L.map (pat w)).sum, some (g i)) = some y) : (forS L (0, none) b).bind K = some y := by
  obtain ⟨S1, i, S2, e1, e2, e3, e4⟩ := (due_loop b L (0, none) hw hb).2 h0 (by show h < 0 + _; omega)
  have e2 : 0 + (S1.map (pat w)).sum ≤ h := e2
  have e3 : h < 0 + (S1.map (pat w)).sum + pat w i := e3
  rw [e4]
  exact hk S1 i S2 e1 (by omega) (by omega)
theorem wq_at (f : List (List Int)) (w : List Int) (m : Nat) {p : Int × Int} (hf : ∀ z ∈ f, Row n z) (hl : f.length = m) (hwl : w.length = m) (hm : m ≤ 40) (hp : p ∈ pairs n) : (if List.length (iot m) ≤ cap then mapF (iot m) (fun x => Option.bind (Option.bind (atL f x) fun y => some (y, p.1, p.2, ())) fun z => n__law_above z.1 (some z.2.1) z.2.2.1) fun x => atL w x else none) = some (((iot m).filter fun j => sd (ath f j) p).map (pat w)) := by
  rw [if_pos (cap_ge (by rw [iot_len]; omega))]
  refine mapF_ok _ _ (fun j => sd (ath f j) p) (pat w) (iot m) (fun j hj => ?_) fun j hj _ => ?_
  · have hj := mem_iot.mp hj
    obtain ⟨a, b⟩ := ath_at (f := f) hj.1 (by omega)
    rw [a, bs, bs]
    exact above2 (hf _ b) hp
  · have hj := mem_iot.mp hj
    exact atL_pat hj.1 (by omega)
theorem right_ok {K : Int} {t : List Int} (ht : Well K t) (hK : K ≤ 10 ^ 12) {m : Nat} (h1 : 1 ≤ n) (hn : n ≤ 12) (hm : m ≤ 40) : Wp (n__law_right_v8 t (n : Int) (m : Int)) fun z => z.1 = true ∧ Well (K + 5000) z.2 := by
  obtain ⟨⟨left, T1⟩, e1, hT1, hr, hl, ho⟩ := turning_ok ht (n := n) (m := m) h1 hn hm (by omega)
  have hT1 : Well (K + 2000) T1 := hT1
  have hr : ∀ r ∈ left, Row n r := hr
  have hl : left.length = m := hl
  have ho : Once (pairs n) (fun t => sd (ath left (t : Int))) m := ho
  have e2 : repL [(enc () : PyData)] (m : Int) = some (List.replicate m (enc ())) := by
    unfold repL
    have : (List.replicate (m : Int).toNat [(enc () : PyData)]).flatten = List.replicate m (enc ()) := by
      rw [List.flatten_replicate_singleton]; congr 1
    rw [if_pos ⟨by simp, by omega, by omega⟩, this]
  unfold n__law_right_v8
  simp only [bs, e1, rg1_nat m (by omega : m ≤ 1000000), e2]
  refine Wp.for (fun i s => Well (K + 2000 + i) s.1 ∧ (s.2.1 ++ s.2.2.1).Perm (iot m) ∧ s.2.1.length = i ∧ s.2.2.2.length = m ∧ ∀ j : Nat, j < i → s.2.2.2[(pat s.2.1 (j : Int)).toNat]? = some (enc (ath left (j : Int)))) ⟨hT1.mono (by simp), .refl _, rfl, List.length_replicate, fun j hj => absurd hj (Nat.not_lt_zero _)⟩ ?_ ?_
  · rintro i r ⟨T, σ, sp, vt⟩ hx ⟨hT, hp, hs, hv, hj⟩
    have hT : Well (K + 2000 + i) T := hT
    have hp : (σ ++ sp).Perm (iot m) := hp
    have hs : σ.length = i := hs
    have hv : vt.length = m := hv
    have hj : ∀ j : Nat, j < i → vt[(pat σ (j : Int)).toNat]? = some (enc (ath left (j : Int))) := hj
    have hi : i < m := by
      have := (List.getElem?_eq_some_iff.mp hx).1
      omega
    have hlen := hp.length_eq
    rw [List.length_append, iot_len] at hlen
    obtain ⟨⟨k, T2⟩, e3, hT2, k0, k1⟩ := pick_ok hT (by omega) (n := (sp.length : Int)) (by omega) (by omega)
    have hT2 : Well (K + 2000 + i + 1) T2 := hT2
    have k0 : 0 ≤ k := k0
    have k1 : k < sp.length := k1
    obtain ⟨x, e4, e5⟩ := popL_ok k0 k1 (by omega)
    have e6 : atL (σ ++ [x]) (-1) = some x := atL_last (by simp)
    have hp2 : (σ ++ [x] ++ sp.eraseIdx k.toNat).Perm (iot m) := (perm_app1 σ x sp _ (perm_erase sp _ x e5)).trans hp
    have hx2 := mem_iot.mp (hp2.mem_iff.mp (show x ∈ σ ++ [x] ++ sp.eraseIdx k.toNat by simp))
    have hxn : x ∉ σ := fun q => by
      have := hp2.nodup_iff.mpr (iot_nodup m)
      rw [List.append_assoc, List.nodup_append] at this
      exact this.2.2 x q x (by simp) rfl
    simp only [bs, lenL_e, e3, e4, apL_ok (xs := σ) x (by omega), negI_e, e6, stI_int (xs := vt) (enc r) hx2.1 (by omega)]
    refine .some ⟨hT2.mono (by omega), hp2, by rw [List.length_append, hs]; rfl, by rw [List.length_set]; exact hv, fun j hji => ?_⟩
    show (vt.set x.toNat (enc r))[(pat (σ ++ [x]) (j : Int)).toNat]? = _
    rcases Nat.lt_or_ge j i with c | c
    · have q1 : pat (σ ++ [x]) (j : Int) = pat σ (j : Int) := by
        have : (σ ++ [x])[j]? = some (pat σ (j : Int)) := by
          rw [List.getElem?_append_left (by omega), List.getElem?_eq_getElem (by omega : j < σ.length), pat_get (List.getElem?_eq_getElem (by omega : j < σ.length))]
        exact pat_get this
      have q2 : pat σ (j : Int) ∈ σ := pat_mem (by omega) (by omega)
      have q3 := mem_iot.mp (hp.mem_iff.mp (List.mem_append_left sp q2))
      have q4 : pat σ (j : Int) ≠ x := fun e => hxn (e ▸ q2)
      rw [q1, List.getElem?_set_ne (by omega)]
      exact hj j c
    · have : j = i := by omega
      subst this
      have q1 : pat (σ ++ [x]) (j : Int) = x := pat_get (by
        rw [List.getElem?_append_right (by omega), hs, Nat.sub_self]
        rfl)
      rw [q1, List.getElem?_set_self (by omega)]
      congr 2
      unfold ath
      rw [List.getD_eq_getElem?_getD, Int.toNat_natCast, hx]
      rfl
  rintro ⟨T, σ, sp, vt⟩ ⟨hT, hp, hs, hv, hj⟩
  have hT : Well (K + 2000 + left.length) T := hT
  have hp : (σ ++ sp).Perm (iot m) := hp
  have hs : σ.length = left.length := hs
  have hv : vt.length = m := hv
  have hj : ∀ j : Nat, j < left.length → vt[(pat σ (j : Int)).toNat]? = some (enc (ath left (j : Int))) := hj
  rw [hl] at hT hs hj
  have hlen := hp.length_eq
  rw [List.length_append, iot_len] at hlen
  have : sp = [] := List.eq_nil_of_length_eq_zero (by omega)
  rw [this, List.append_nil] at hp
  obtain ⟨f, ef, fl, fr, hTu⟩ := votes_rows hl hr ho hp hv hj
  simp only [ef, bs, ri1_nat 3 (by omega), show ((3 : Nat) : Int) = 3 from rfl, show ri1 (3 : Int) = some (iot 3) from ri1_nat 3 (by omega)]
  refine Wp.forFi (fun i s => Well (K + 3000 + 300 * i) s.1 ∧ s.2.1 = σ ∧ s.2.2 = f) 3 0 (by rw [iot_len]; omega) ⟨hT.mono (by omega), rfl, rfl⟩ ?_ ?_
  · rintro i ⟨T, σ', f'⟩ x hi ⟨hTb, es, eff⟩ _
    have hTb : Well (K + 3000 + 300 * i) T := hTb
    have es : σ' = σ := es
    have eff : f' = f := eff
    subst es eff
    obtain ⟨⟨w, T2⟩, e3, hT2, hw, hW⟩ := crowd2_ok hTb (m := m) (by omega) (by omega)
    have hT2 : Well (K + 3000 + 300 * i + 3 * m + 1) T2 := hT2
    have hw : w.length = m := hw
    have hW : Wts w := hW
    obtain ⟨s, es⟩ := shown2 fr hn (by omega) hW (by omega)
    have e5 : modI w.sum 2 = some (w.sum % 2) := modI_ok _ (by decide)
    have e6 : fdivW w.sum 2 = some (w.sum / 2) := fdivW_ok _ (by decide) (by decide)
    have nnw : ∀ x ∈ w, 0 ≤ x := fun x hx => (hW x hx).1
    refine ⟨(T2, σ', f'), ⟨hT2.mono (by omega), rfl, rfl⟩, ?_⟩
    simp only [bs, e3, sumI_e, es, intI_e, e5, e6, eqN_e]
    by_cases q : w.sum % 2 = 0
    · have tl := told_even5 hTu fr h1 hn (by omega) hW (by omega) q
      have n1 : neA (enc (Str.ofString "even")) (enc ("even" : Str)) = some false := neA_self sok_even
      simp only [tl, bs, q, decide_true, if_true, n1, Bool.false_eq_true, if_false, neS_self]
    · obtain ⟨e, i', hc, hso, i0, i1, md, tl⟩ := told_mid5 hTu fr h1 hn (by omega) hW (by omega) q
      have q' : ¬ ((0 : Int) = w.sum % 2) := fun e => q e.symm
      have rA : rowA (enc (enc (ath f' i') : PyData)) = some (ath f' i') := ints_of _
      have toldRow := fr _ (ath_at i0 i1).2
      simp only [tl, bs, q, decide_false, Bool.false_eq_true, if_false, rA]
      have nn0 : 0 ≤ w.sum := sum_nnL nnw
      have sl : σ'.length = f'.length := hTu.len
      have ms : ∀ j ∈ σ', 0 ≤ j ∧ j < f'.length := fun j hj => mem_iot.mp (hTu.1.mem_iff.mp hj)
      have sumS : (σ'.map (pat w)).sum = w.sum := by rw [perm_sumI (hTu.1.map (pat w)), all_w (by omega)]
      have nnS : ∀ j ∈ σ', 0 ≤ pat w j := fun j hj => pat_nn nnw (by omega : w.length = f'.length) (ms j hj)
      refine due_bnd (w := w) (g := ath f') (h := w.sum / 2) nnS (fun j hj s => ?_) (by omega) (by rw [sumS]; omega) fun S1 d S2 d1 d2 d3 => ?_
      · have hj := ms j hj
        simp only [leI_e, bs, atL_pat (r := w) hj.1 (by omega), addI_e, ltI_e, (ath_at hj.1 hj.2).1]
        by_cases c1 : s.1 ≤ w.sum / 2
        · by_cases c2 : w.sum / 2 < s.1 + pat w j
          · simp only [c1, c2, decide_true, if_true, bs, and_self]
          · simp only [c1, c2, decide_true, decide_false, if_true, bs, and_false, if_false, Bool.false_eq_true]
        · simp only [c1, decide_false, bs, false_and, if_false, Bool.false_eq_true]
      · have md2 : Med w (farI n e f') (S1 ++ d :: S2) (farI n e f' d) := med_of (by rw [← d1]; exact nnS) (by rw [← d1]; exact hso) (by rw [← d1, sumS]; exact q) (by rw [← d1, sumS]; omega) (by rw [← d1, sumS]; omega)
        rw [← d1] at md2
        have hd := ms d (by rw [d1]; simp)
        have fe := Med.uniq (fun j hj => pat_nn nnw (by omega : w.length = f'.length) (mem_iot.mp hj)) (md2.perm hTu.1) md
        have same := same_far fr hc hd.1 hd.2 i0 i1 fe
        rw [same]
        obtain ⟨s2, es2⟩ : ∃ s, reprN (enc (ath f' i')) = some s := ⟨_, vb_repr (vb_row toldRow hn) (by omega) (by omega)⟩
        have es3 : reprN (enc (some (ath f' i') : Option (List Int))) = some s2 := es2
        simp only [es2, es3, bs, neS_self, Bool.false_eq_true, if_false, lpairs_ok (by omega : n ≤ 300), ri1_nat m (by omega : m ≤ 1000000)]
        refine bnd (x := Fl.nx ()) (forF_unit fun p hp => ?_) ?_
        · rw [wq_at f' w m fr fl hw hm hp, above2 toldRow hp]
          have mp := med_pair hc nnw (by omega) q i0 i1 md hp
          unfold Wq at mp
          rw [fl] at mp
          have two : ∀ x : Int, mulI 2 x = some (2 * x) := fun x => mulI_l _ _ (by decide)
          have gt : ∀ x : Int, gtI x w.sum = some (decide (w.sum < x)) := fun x => gtI_e _ _
          simp only [bs, two, gt, neN_e, ← mp, decide_true, Bool.not_true, Bool.false_eq_true, if_false]
        · simp only [Fl.el, bs]
          rw [if_pos (cap_ge (by rw [List.length_map, toldRow.len]; omega))]
          simp only [bs, neS_self, Bool.false_eq_true, if_false, es]
  · rintro ⟨T, σ', f'⟩ ⟨hT, es, eff⟩
    have hT : Well (K + 3000 + 300 * ((0 + (iot 3).length : Nat) : Int)) T := hT
    rw [iot_len] at hT
    simp only [Fl.el, bs]
    exact .some ⟨rfl, hT.mono (by omega)⟩
end K24
end Lw
namespace Lw
namespace K24
open PySem Hb Nv L2 P
open Enc (enc)
variable {α β γ σ ρ ζ : Type}
theorem forF_step {b : σ → α → Option (Fl ρ σ)} {x : α} {r : List α} {s s' : σ} (h : b s x = some (.nx s')) : forF (x :: r) s b = forF r s' b := by
  show (b s x).bind _ = _
  rw [h]; rfl
def whl : List (List Int) := [[0, 1, 2], [1, 2, 0], [2, 0, 1]]
theorem whl_row : ∀ z ∈ whl, Row 3 z := fun z hz => by
  unfold whl at hz
  simp only [List.mem_cons, List.not_mem_nil, or_false] at hz
  rcases hz with rfl | rfl | rfl <;> (unfold Row; decide)
theorem perm3 {L : List Int} (h : L.Perm (iot 3)) : L = [0, 1, 2] ∨ L = [0, 2, 1] ∨ L = [1, 0, 2] ∨ L = [1, 2, 0] ∨ L = [2, 0, 1] ∨ L = [2, 1, 0] := by
  have hl : L.length = 3 := h.length_eq
  have hn : L.Nodup := h.nodup_iff.mpr (iot_nodup 3)
  have hm : ∀ x ∈ L, 0 ≤ x ∧ x < 3 := fun x hx => mem_iot.mp (h.mem_iff.mp hx)
  match L, hl with
  | [a, b, c], _ =>
    have ha := hm a (by simp)
    have hb := hm b (by simp)
    have hc := hm c (by simp)
    simp only [List.nodup_cons, List.mem_cons, List.not_mem_nil, or_false, not_or] at hn
    obtain ⟨⟨n1, n2⟩, n3, _⟩ := hn
    simp only [List.cons.injEq, and_true]
    omega
theorem whl_fits {L : List Int} (h : L.Perm (iot 3)) : fitsB 3 whl L = false := by
  rcases perm3 h with rfl | rfl | rfl | rfl | rfl | rfl <;> decide +kernel
theorem whl_least : n_least_row 3 whl = some none := by
  obtain ⟨e, _, _, L0, L1, s0, _, h⟩ := least_ok (n := 3) whl_row (by omega) (by decide) (by decide)
  have : fitsB 3 whl L0 = false := whl_fits s0.1
  rw [this] at h
  exact h
theorem told_row {w : List Int} (hw : Wts w) (hl : w.length = 3) : n__law_told_v5 3 whl w = some (enc (Str.ofString "row")) := by
  obtain ⟨s1, s2⟩ := set_ok (n := 3) (f := whl) whl_row (by omega) (by omega) (by decide)
  obtain ⟨v1, v2⟩ := voters_ok (f := whl) hw (by omega) (by rw [hl]; rfl)
  have s1 : n_need_set 3 (enc whl) 12 = some () := s1
  have s2 : x_need_set 3 (enc whl) 12 = none := s2
  have x1 : n_middle_ballot 3 whl w = none := by
    unfold n_middle_ballot
    simp only [bs, s1, v1, whl_least, Bool.false_eq_true, if_false, Option.isNone_none, if_true]
  have x2 : x_middle_ballot 3 whl w = some (Str.ofString "NoRow") := by
    unfold x_middle_ballot
    simp only [bs, s1, s2, v1, v2, whl_least, Bool.false_eq_true, if_false, Option.isNone_none, if_true]
    rfl
  unfold n__law_told_v5
  simp only [bs, x1, x2]
  rfl
def thr : List (List Int) := [[1, 0, 2], [0, 1, 2], [1, 2, 0]]
theorem thr_row : ∀ z ∈ thr, Row 3 z := fun z hz => by
  unfold thr at hz
  simp only [List.mem_cons, List.not_mem_nil, or_false] at hz
  rcases hz with rfl | rfl | rfl <;> (unfold Row; decide)
theorem once3 {P : List (Int × Int)} {g : Nat → Int × Int → Bool} (h : ∀ p ∈ P, g 0 p = g 2 p → g 1 p = g 0 p) : Once P g 3 := fun i j k hij hjk hk p hp q => by
  have := h p hp
  have hi : i = 0 ∨ i = 1 ∨ i = 2 := by omega
  have hj : j = 0 ∨ j = 1 ∨ j = 2 := by omega
  have hk : k = 0 ∨ k = 1 ∨ k = 2 := by omega
  rcases hi with rfl | rfl | rfl <;> rcases hj with rfl | rfl | rfl <;> rcases hk with rfl | rfl | rfl <;> first | rfl | omega | exact q.symm | exact this q
theorem thr_turn : Turn 3 thr [1, 0, 2] := ⟨by decide, once3 (by decide +kernel)⟩
theorem wts {w : List Int} (h : (w.all fun x => decide (0 ≤ x) && decide (x ≤ 9)) = true) : Wts w := fun x hx => by
  have := List.all_eq_true.mp h x hx
  simp only [Bool.and_eq_true, decide_eq_true_eq] at this
  have e : (9 : Int) ≤ 10 ^ 30 := by decide
  omega
theorem told_thr : n__law_told_v5 3 thr [2, 5, 2] = some (enc [(0 : Int), 1, 2]) := by
  obtain ⟨e, i, hc, _, i0, i1, md, tl⟩ := told_mid5 (n := 3) thr_turn thr_row (by omega) (by omega) (by decide) (w := [2, 5, 2]) (wts (by decide)) rfl (by decide)
  have i1 : i < 3 := i1
  have mp := med_pair hc (w := [2, 5, 2]) (by decide) rfl (by decide) i0 i1 md (p := (0, 1)) (by decide +kernel)
  have tl : n__law_told_v5 3 thr [2, 5, 2] = some (enc (ath thr i)) := tl
  have : i = 0 ∨ i = 1 ∨ i = 2 := by omega
  rcases this with rfl | rfl | rfl
  · exact absurd mp (by decide +kernel)
  · exact tl
  · exact absurd mp (by decide +kernel)
theorem told_nil : n__law_told_v5 2 [] [] = some (enc (Str.ofString "even")) :=
  told_even5 (n := 2) (f := []) (σ := []) ⟨.refl _, fun i j k _ _ h => absurd h (Nat.not_lt_zero _)⟩ (fun z hz => by cases hz) (by omega) (by omega) (by decide) (fun x hx => by cases hx) rfl (by decide)
theorem eqs : eqA (enc [(enc (Str.ofString "row") : PyData), enc (Str.ofString "row"), enc [(0 : Int), 1, 2]]) (enc [(enc (Str.ofString "row") : PyData), enc (Str.ofString "row"), enc [(0 : Int), 1, 2]]) = some true := by
  unfold eqA eqD
  decide +kernel
theorem law_ok {ms : List Int} (hl : ms.length ≤ 63) : n_law_v8 ms = some true := by
  obtain ⟨k, hk, ek⟩ : ∃ k : Nat, k ≤ 4 ∧ (if (if (ms.length : Int) < 4 then (ms.length : Int) else 4) > 1 then (if (ms.length : Int) < 4 then (ms.length : Int) else 4) else 1) = (k : Int) := by
    refine ⟨(if (if (ms.length : Int) < 4 then (ms.length : Int) else 4) > 1 then (if (ms.length : Int) < 4 then (ms.length : Int) else 4) else 1 : Int).toNat, ?_, ?_⟩ <;> split <;> split <;> omega
  unfold n_law_v8
  simp only [bs, lenL_e, minI2_e, maxI2_e, ek, ri1_nat k (by omega : k ≤ 1000000)]
  refine bnd (forF_unit (xs := iot k) fun x hx => ?_) ?_
  · have hx := mem_iot.mp hx
    obtain ⟨T0, e0, h0⟩ := well_ok (ms := ms) hx.1 (by omega)
    obtain ⟨⟨a, T1⟩, e1, h1, a0, a1⟩ := pick_ok h0 (by omega) (n := (4 : Int)) (by omega) (by omega)
    obtain ⟨⟨b, T2⟩, e2, h2, b0, b1⟩ := pick_ok h1 (by omega) (n := (6 : Int)) (by omega) (by omega)
    obtain ⟨⟨c, T3⟩, e3, h3, c0, c1⟩ := pick_ok h2 (by omega) (n := (30 : Int)) (by omega) (by omega)
    have a0 : 0 ≤ a := a0
    have a1 : a < 4 := a1
    have b0 : 0 ≤ b := b0
    have b1 : b < 6 := b1
    have c0 : 0 ≤ c := c0
    have c1 : c < 30 := c1
    have h3 : Well 3 T3 := h3
    obtain ⟨n1, en1⟩ : ∃ n : Nat, 1 + a = (n : Int) := ⟨(1 + a).toNat, by omega⟩
    obtain ⟨m1, em1⟩ : ∃ n : Nat, 1 + b = (n : Int) := ⟨(1 + b).toNat, by omega⟩
    obtain ⟨m2, em2⟩ : ∃ n : Nat, 1 + c = (n : Int) := ⟨(1 + c).toNat, by omega⟩
    obtain ⟨⟨r1, U1⟩, f1, rfl, g1⟩ := right_ok h3 (by omega) (n := n1) (m := m1) (by omega) (by omega) (by omega)
    obtain ⟨⟨r2, U2⟩, f2, rfl, g2⟩ := right_ok g1 (by omega) (n := 8) (m := m2) (by omega) (by omega) (by omega)
    obtain ⟨⟨r3, U3⟩, f3, rfl, g3⟩ := right_ok g2 (by omega) (n := 3) (m := 0) (by omega) (by omega) (by omega)
    obtain ⟨⟨r4, U4⟩, f4, rfl, g4⟩ := right_ok g3 (by omega) (n := 12) (m := 40) (by omega) (by omega) (by omega)
    simp only [bs, e0, e1, e2, e3, addI_e, en1, em1, em2, eqN_e, intB_e]
    have f1 : n__law_right_v8 T3 (n1 : Int) (m1 : Int) = some (true, U1) := f1
    have f2 : n__law_right_v8 U1 8 (m2 : Int) = some (true, U2) := f2
    have f3 : n__law_right_v8 U2 3 0 = some (true, U3) := f3
    have f4 : n__law_right_v8 U3 12 40 = some (true, U4) := f4
    have st : ∀ {T U : List Int} {a b : Int}, n__law_right_v8 T a b = some (true, U) → (((n__law_right_v8 T a b).bind fun x83 => some (x83, a, b, ())).bind fun x86 => if (!x86.1.1) = true then some (Fl.rt false) else some (Fl.nx x86.1.2)) = (some (Fl.nx U) : Option (Fl Bool (List Int))) := fun h => by rw [h]; rfl
    by_cases c : x = 0
    · have e4 : repL [((12 : Int), (40 : Int))] (if decide (x = 0) = true then 1 else 0) = some [((12 : Int), (40 : Int))] := by
        rw [if_pos (decide_eq_true c)]; rfl
      simp only [e4, bs, catL_ok (xs := [((n1 : Int), (m1 : Int)), (8, (m2 : Int)), (3, 0)]) (ys := [((12 : Int), (40 : Int))]) (by simp) (by simp)]
      refine bnd (x := Fl.nx U4) ?_ rfl
      show forF [((n1 : Int), (m1 : Int)), (8, (m2 : Int)), (3, 0), (12, 40)] _ _ = _
      rw [forF_step (st f1), forF_step (st f2), forF_step (st f3), forF_step (st f4)]
      rfl
    · have e4 : repL [((12 : Int), (40 : Int))] (if decide (x = 0) = true then 1 else 0) = some [] := by
        rw [if_neg (by simpa using c)]; rfl
      simp only [e4, bs, catL_ok (xs := [((n1 : Int), (m1 : Int)), (8, (m2 : Int)), (3, 0)]) (ys := ([] : List (Int × Int))) (by simp) (by simp)]
      refine bnd (x := Fl.nx U3) ?_ rfl
      show forF [((n1 : Int), (m1 : Int)), (8, (m2 : Int)), (3, 0)] _ _ = _
      rw [forF_step (st f1), forF_step (st f2), forF_step (st f3)]
      rfl
  · have t1 : n__law_told_v5 3 [[0, 1, 2], [1, 2, 0], [2, 0, 1]] [1, 1, 1] = some (enc (Str.ofString "row")) := told_row (wts (by decide)) rfl
    have t2 : n__law_told_v5 3 [[0, 1, 2], [1, 2, 0], [2, 0, 1]] [0, 0, 0] = some (enc (Str.ofString "row")) := told_row (wts (by decide)) rfl
    have t3 : n__law_told_v5 3 [[1, 0, 2], [0, 1, 2], [1, 2, 0]] [2, 5, 2] = some (enc [(0 : Int), 1, 2]) := told_thr
    have q1 : eqA (enc [(enc (Str.ofString "row") : PyData), enc (Str.ofString "row"), enc [(0 : Int), 1, 2]]) (enc [(enc ("row" : Str) : PyData), enc ("row" : Str), enc [(0 : Int), 1, 2]]) = some true := eqs
    have q2 : eqA (enc (Str.ofString "even")) (enc ("even" : Str)) = some true := by
      unfold eqA eqD
      decide +kernel
    simp only [Fl.el, bs, t1, t2, t3]
    refine bnd (x := true) ?_ rfl
    refine bnd (x := true) q1 ?_
    rw [if_pos rfl]
    simp only [told_nil, bs]
    exact q2
end K24
end Lw
namespace K24
open PySem PySem.Spec PyProof.Rows L2 Hb
def names : List PySem.Str := (["is_integer", "is_each_once", "are_each_once", "need_count", "need_ballots", "need_voters", "need_set", "ranks_in", "pairs_turned", "places_in_twos", "turns_once", "far_from", "least_row", "middle_index", "need_odd", "middle_ballot", "_law_well", "_law_pick", "_law_mixed", "_law_vote", "_law_turning", "_law_above", "_law_pairs", "_law_told", "_law_crowd", "_law_right", "BallotError", "InvalidCount", "InvalidBallots", "InvalidVoters"] : List PySem.Str) ++ (["NoRow", "EvenVoters", "MOST_PLACES", "MOST_BALLOTS", "MOST_VOTERS"] : List PySem.Str)
abbrev R : PySem.W.OpenRow := PySem.W.OpenLaw.row PySem.Challenge.rw_hillballots_k24_middle_ballots
abbrev hk : PySem.W.Hook := He.hookD 6 fa fn
def ob (s : PySem.W.SharedT) : He.AlD := He.obsDG 6 fa fn (HandSHeadRun.getT s)
theorem ob_eq (s : PySem.W.SharedT) : ob s = hk.obs s.abs := He.obsDG_eq (HandSHeadRun.getT_eq s)
theorem run (w : World) : HandSHeadRun.RunEq R (PySem.W.view R.prog [40]) hk ob 5000 names w := by
  intro os
  kernel_rfl
theorem law_ok {ms : List Int} (hl : ms.length ≤ 63) : ∃ δ, P.F_law_v8 [.fz (.list (ms.map .int))] = .ok (.fz (.bool true)) δ :=
  ⟨_, P.V_law_v8 ms true (Lw.K24.law_ok hl)⟩
end K24
open PySem PySem.W PySem.Calls PyProof.Rows
theorem PySem.Challenge.cw_hillballots_k24_middle_ballots_holds : PySem.Challenge.rw_hillballots_k24_middle_ballots.Holds := by
  w_on; o_law
  refine HandSHeadRun.head_any (r := OpenLaw.row PySem.Challenge.rw_hillballots_k24_middle_ballots) (q := view (OpenLaw.row PySem.Challenge.rw_hillballots_k24_middle_ballots).prog [40]) (H := K24.hk) (ob := K24.ob) (M := 5000) (loose := K24.names) (d := HandSHeadRun.topDef (OpenLaw.row PySem.Challenge.rw_hillballots_k24_middle_ballots).prog 40) (kwd := []) K24.ob_eq
    (by kernel_rfl) (fun s => by kernel_rfl) K24.run (by kernel_rfl) (by kernel_rfl) (by kernel_rfl) (by rfl) (by first | assumption | decide +kernel) (by decide +kernel) ⟨rfl, rfl, rfl, rfl, rfl, by decide +kernel⟩ ?hw ?hc
  case hw => w_witness2
  case hc =>
    refine Hb.walkG (l := PySem.Challenge.rw_hillballots_k24_middle_ballots) (n := 63) (k := 9) (x := "_law_script") rfl (by decide) (by kernel_rfl) ⟨rfl, by decide, by decide⟩ ?F
    intro w mg fa h Y G hmg0
    obtain ⟨K, KX, c⟩ := Y
    have hmg : mg ("law" : PySem.Str) = some (.ref fa) := by
      have e : (HandSHeadRun.topDef (OpenLaw.row PySem.Challenge.rw_hillballots_k24_middle_ballots).prog 40).name = ("law" : PySem.Str) := by kernel_rfl
      rw [← e]
      exact hmg0
    have Y : K24.Ctx K mg := ⟨c, h, KX, G⟩
    obtain ⟨fd, FD⟩ := c.def_ 25 (d := K24.d_law)
    have hf : fa = He.fAd K ("law", none) := by
      have e2 := He.glo_ok KX G (c.fact 25 (f := .glo "law"))
      rw [hmg] at e2
      exact PySem.Value.ref.inj (Option.some.inj e2)
    refine ⟨K, fd, Hb.spF K mg 1 P.F_law_v8, KX, fun s u => ?_, fun H a ns hl hX => ?_, fun bs _ _ => ?_⟩
    · exact FD.bindsA (ps := ["_law_script"]) (fun _ _ _ _ _ _ us h => by
        match us, h with
        | [a0], _ => rfl) s [u] rfl
    · obtain ⟨δ, e⟩ := K24.law_ok hl
      exact Hb.sp_law hX e
    · rw [hf]
      exact Hb.fnG_D FD K24.S_law rfl fun cdv A outer s H E hr hgd => K24.W_law Y cdv A outer s H E hr hgd
