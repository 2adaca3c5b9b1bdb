import PyProof.Rows.All
import Wide.All
import OpenK.AllK
import Wide.FinOn
import KE.KStateDown
import Lean
import HandS.ForExc
import HandS.Defaults
import HandS.Head0
import HandS.Head1
import HandS.Head2
import HandS.HeadEnd
import HandS.HeadHook1
import HandS.HeadHook2
import HandS.ForMost
import HandS.Exc
import HandS.TryOnly
import HandS.ExcOwn
import HandS.WordsExc
import HandS.Wide
import HandS.Conv
import HandS.Flow
import HandS.Style
import HandS.Deep
import HandS.IsInst
import HandS.SortInts
import HandS.TupAny
import HandS.SortRule
import HandS.Star
import HandS.TupLen
import HandS.WordsDict
import HandS.Zip
import HandS.Rev
import HandS.RevRange
import KE.SortData
import PySem.Challenge.RW_hillballots_k16_ways_judged
set_option Elab.async false
set_option linter.all false
set_option maxRecDepth 100000
set_option exponentiation.threshold 3000
set_option maxHeartbeats 0
/-! part Hb0 -/
/-! trees in the place of heaps -/
namespace Hb
open PySem PySem.Spec PyProof.Rows L2

def kD : Key → PyData
  | .inl i => .int i
  | .inr x => .str x
/-- a list that may be read: tracked, locked, or one of the module's own in the plain form -/
def SqX (K : PySem.W.Frag) (H : Hp) (a : Addr) (xs : List V) : Prop :=
  Rd H a (.lst xs) ∨ ∃ (its : List Value) (n : Nat), K.lookup a = some { cls := .type "list", data := .seq its.toArray n } ∧ its.length ≤ sizeLine ∧ Vals xs its
theorem SqX.of {K : PySem.W.Frag} {H : Hp} {a : Addr} {xs : List V} (h : H a = some (.lst xs)) : SqX K H a xs := .inl (.inl h)
theorem SqX.sq {K : PySem.W.Frag} {H : Hp} {a : Addr} {xs : List V} (h : SqX K H a xs) : SqL K H a xs := by
  rcases h with h | ⟨its, n, h1, h2, h3⟩
  · exact .inl h
  · exact .inr ⟨_, its.toArray, n, h1, rfl, rfl, rfl, by simpa using h2, by simpa using h3⟩
theorem inv_lstX {X : Cx} {pins : List (Addr × Obj)} {σ : L2.St} {H : Hp} {s : Shared} {a : Addr} {xs : List V} (I : Inv X pins σ H s) (h : SqX X.K H a xs) :
    ∃ (its : List Value) (n : Nat), Vals xs its ∧ s.heap.get? a = some { cls := .type "list", data := .seq its.toArray n } ∧ xs.length ≤ sizeLine := by
  rcases h with h | ⟨its, n, h1, h2, h3⟩
  · obtain ⟨z, its, n, r, e⟩ := h.ok I.hok
    exact ⟨its, n, r, e, z⟩
  · exact ⟨its, n, h3, I.kIn a _ h1, by rw [h3.length]; exact h2⟩
mutual
/-- the value v stands, in the heap H, for the tree d -/
inductive Rp (K : PySem.W.Frag) (H : Hp) : V → PyData → Prop
  | non : Rp K H .non .none
  | bl (b : Bool) : Rp K H (.bl b) (.bool b)
  | int (i : Int) : Rp K H (.int i) (.int i)
  | str (x : Str) : Rp K H (.str x) (.str x)
  | lst {a : Addr} {xs : List V} {ds : List PyData} : SqX K H a xs → RpL K H xs ds → Rp K H (.ref a) (.list ds)
  | tup {a : Addr} {xs : List V} {ds : List PyData} : SqT K H a xs → RpL K H xs ds → Rp K H (.ref a) (.tuple ds)
  | dK {a : Addr} {kvs : List (Key × V)} {ds : List (PyData × PyData)} : H a = some (.dK kvs) → RpK K H kvs ds → Rp K H (.ref a) (.dict ds)
  | dT {a : Addr} {kvs : List (List Key × V)} {ds : List (PyData × PyData)} : H a = some (.dT kvs) → RpT K H kvs ds → Rp K H (.ref a) (.dict ds)
inductive RpL (K : PySem.W.Frag) (H : Hp) : List V → List PyData → Prop
  | nil : RpL K H [] []
  | cons {v : V} {vs : List V} {d : PyData} {ds : List PyData} : Rp K H v d → RpL K H vs ds → RpL K H (v :: vs) (d :: ds)
inductive RpK (K : PySem.W.Frag) (H : Hp) : List (Key × V) → List (PyData × PyData) → Prop
  | nil : RpK K H [] []
  | cons {k : Key} {v : V} {vs : List (Key × V)} {d : PyData} {ds : List (PyData × PyData)} : Rp K H v d → RpK K H vs ds → RpK K H ((k, v) :: vs) ((kD k, d) :: ds)
inductive RpT (K : PySem.W.Frag) (H : Hp) : List (List Key × V) → List (PyData × PyData) → Prop
  | nil : RpT K H [] []
  | cons {k : List Key} {v : V} {vs : List (List Key × V)} {d : PyData} {ds : List (PyData × PyData)} : Rp K H v d → RpT K H vs ds → RpT K H ((k, v) :: vs) ((.tuple (k.map kD), d) :: ds)
end

theorem same_sqT {K : PySem.W.Frag} {H H' : Hp} {a : Addr} {xs : List V} (e : Same H H') (h : SqT K H a xs) : SqT K H' a xs := by
  rcases h with (h | ⟨o, h⟩) | h
  · exact .inl (.inl (e _ _ h))
  · exact .inl (.inr ⟨o, e _ _ h⟩)
  · exact .inr h
theorem same_rd {H H' : Hp} {a : Addr} {u : HO} (e : Same H H') (h : Rd H a u) : Rd H' a u := by
  rcases h with h | ⟨o, h⟩
  · exact .inl (e _ _ h)
  · exact .inr ⟨o, e _ _ h⟩
theorem same_sqX {K : PySem.W.Frag} {H H' : Hp} {a : Addr} {xs : List V} (e : Same H H') (h : SqX K H a xs) : SqX K H' a xs := by
  rcases h with h | h
  · exact .inl (same_rd e h)
  · exact .inr h
section
variable {K : PySem.W.Frag} {H H' : Hp} (e : Same H H')
include e
mutual
theorem Rp.mono : ∀ {v : V} {d : PyData}, Rp K H v d → Rp K H' v d
  | _, _, .non => .non
  | _, _, .bl b => .bl b
  | _, _, .int i => .int i
  | _, _, .str x => .str x
  | _, _, .lst h1 h2 => .lst (same_sqX e h1) (RpL.mono h2)
  | _, _, .tup h1 h2 => .tup (same_sqT e h1) (RpL.mono h2)
  | _, _, .dK h1 h2 => .dK (e _ _ h1) (RpK.mono h2)
  | _, _, .dT h1 h2 => .dT (e _ _ h1) (RpT.mono h2)
theorem RpL.mono : ∀ {vs : List V} {ds : List PyData}, RpL K H vs ds → RpL K H' vs ds
  | _, _, .nil => .nil
  | _, _, .cons h1 h2 => .cons (Rp.mono h1) (RpL.mono h2)
theorem RpK.mono : ∀ {vs : List (Key × V)} {ds : List (PyData × PyData)}, RpK K H vs ds → RpK K H' vs ds
  | _, _, .nil => .nil
  | _, _, .cons h1 h2 => .cons (Rp.mono h1) (RpK.mono h2)
theorem RpT.mono : ∀ {vs : List (List Key × V)} {ds : List (PyData × PyData)}, RpT K H vs ds → RpT K H' vs ds
  | _, _, .nil => .nil
  | _, _, .cons h1 h2 => .cons (Rp.mono h1) (RpT.mono h2)
end
end
section
variable {K : PySem.W.Frag} {H : Hp}
theorem RpL.len : ∀ {vs : List V} {ds : List PyData}, RpL K H vs ds → vs.length = ds.length
  | _, _, .nil => rfl
  | _, _, .cons _ t => by simp [RpL.len t]
theorem RpL.get : ∀ {vs : List V} {ds : List PyData} {i : Nat} {d : PyData}, RpL K H vs ds → ds[i]? = some d → ∃ v, vs[i]? = some v ∧ Rp K H v d
  | _, _, _, _, .nil, e => by simp at e
  | _, _, 0, _, .cons r _, e => by simp at e; subst e; exact ⟨_, rfl, r⟩
  | _, _, i + 1, d, .cons _ t, e => by
    obtain ⟨u, h1, h2⟩ := RpL.get (i := i) (d := d) t (by simpa using e)
    exact ⟨u, by simpa using h1, h2⟩
theorem RpL.getV : ∀ {vs : List V} {ds : List PyData} {i : Nat} {v : V}, RpL K H vs ds → vs[i]? = some v → ∃ d, ds[i]? = some d ∧ Rp K H v d
  | _, _, _, _, .nil, e => by simp at e
  | _, _, 0, _, .cons r _, e => by simp at e; subst e; exact ⟨_, rfl, r⟩
  | _, _, i + 1, d, .cons _ t, e => by
    obtain ⟨u, h1, h2⟩ := RpL.getV (i := i) (v := d) t (by simpa using e)
    exact ⟨u, by simpa using h1, h2⟩
theorem RpL.append : ∀ {vs ws : List V} {ds es : List PyData}, RpL K H vs ds → RpL K H ws es → RpL K H (vs ++ ws) (ds ++ es)
  | _, _, _, _, .nil, s => s
  | _, _, _, _, .cons r t, s => .cons r (RpL.append t s)
theorem RpL.one {v : V} {d : PyData} (h : Rp K H v d) : RpL K H [v] [d] := .cons h .nil
theorem RpL.take : ∀ {vs : List V} {ds : List PyData} (n : Nat), RpL K H vs ds → RpL K H (vs.take n) (ds.take n)
  | _, _, 0, _ => by simp; exact .nil
  | _, _, n + 1, .nil => by simp; exact .nil
  | _, _, n + 1, .cons r t => .cons r (RpL.take n t)
theorem RpL.drop : ∀ {vs : List V} {ds : List PyData} (n : Nat), RpL K H vs ds → RpL K H (vs.drop n) (ds.drop n)
  | _, _, 0, h => h
  | _, _, n + 1, .nil => by simp; exact .nil
  | _, _, n + 1, .cons _ t => RpL.drop n t
theorem RpL.set {v : V} {d : PyData} (h : Rp K H v d) : ∀ {vs : List V} {ds : List PyData} (n : Nat), RpL K H vs ds → RpL K H (vs.set n v) (ds.set n d)
  | _, _, _, .nil => .nil
  | _, _, 0, .cons _ t => .cons h t
  | _, _, n + 1, .cons r t => .cons r (RpL.set h n t)
theorem RpL.eraseIdx : ∀ {vs : List V} {ds : List PyData} (n : Nat), RpL K H vs ds → RpL K H (vs.eraseIdx n) (ds.eraseIdx n)
  | _, _, _, .nil => .nil
  | _, _, 0, .cons _ t => t
  | _, _, n + 1, .cons r t => .cons r (RpL.eraseIdx n t)
theorem RpL.dropLast : ∀ {vs : List V} {ds : List PyData}, RpL K H vs ds → RpL K H vs.dropLast ds.dropLast
  | _, _, .nil => .nil
  | _, _, .cons _ .nil => .nil
  | _, _, .cons r (.cons r2 t) => .cons r (RpL.dropLast (.cons r2 t))
theorem RpL.reverse : ∀ {vs : List V} {ds : List PyData}, RpL K H vs ds → RpL K H vs.reverse ds.reverse
  | _, _, .nil => .nil
  | _, _, .cons r t => by
    rw [List.reverse_cons, List.reverse_cons]
    exact (RpL.reverse t).append (.one r)
theorem RpL.ints : ∀ {vs : List V} {ns : List Int}, RpL K H vs (ns.map .int) → vs = ns.map V.int
  | _, [], .nil => rfl
  | _, n :: ns, .cons r t => by
    cases r
    rw [RpL.ints t]
    rfl
theorem RpL.ofInts : ∀ ns : List Int, RpL K H (ns.map V.int) (ns.map .int)
  | [] => .nil
  | n :: ns => .cons (.int n) (RpL.ofInts ns)
theorem RpL.mem {vs : List V} {ds : List PyData} (h : RpL K H vs ds) {v : V} (hv : v ∈ vs) : ∃ d ∈ ds, Rp K H v d := by
  obtain ⟨i, hi, e⟩ := List.mem_iff_getElem.mp hv
  obtain ⟨d, e1, r⟩ := h.getV (i := i) (v := v) (by rw [← e]; exact List.getElem?_eq_getElem hi)
  exact ⟨d, List.mem_of_getElem? e1, r⟩
end

/-! ### what a name holds -/
/-- an item of a list that is one's own: a tree that stands still, or a list of one's own -/
inductive El where
  | fz (d : PyData) | ow (xs : List PyData)
def El.d : El → PyData
  | .fz d => d
  | .ow xs => .list xs
/-- a name: nothing is known; a tree that stands still; a list of one's own; a dict of one's own; the item j of the list of slot x -/
inductive Sl where
  | no | fz (d : PyData) | ol (xs : List El) | od (kvs : List (PyData × PyData)) | al (x j : Nat)

def ElR (K : PySem.W.Frag) (Fz H : Hp) (f : List Addr) (v : V) : El → Prop
  | .fz d => f = [] ∧ Rp K Fz v d
  | .ow xs => ∃ a vs, v = .ref a ∧ f = [a] ∧ H a = some (.lst vs) ∧ RpL K Fz vs xs
inductive ElL (K : PySem.W.Frag) (Fz H : Hp) : List Addr → List V → List El → Prop
  | nil : ElL K Fz H [] [] []
  | cons {f g : List Addr} {v : V} {vs : List V} {e : El} {es : List El} : ElR K Fz H f v e → ElL K Fz H g vs es → ElL K Fz H (f ++ g) (v :: vs) (e :: es)
def DcR (K : PySem.W.Frag) (Fz H : Hp) (a : Addr) (kvs : List (PyData × PyData)) : Prop :=
  (∃ ws, H a = some (.dK ws) ∧ RpK K Fz ws kvs) ∨ (∃ ws, H a = some (.dT ws) ∧ RpT K Fz ws kvs)
def SlH (K : PySem.W.Frag) (Fz H : Hp) (σ : L2.St) (f : List Addr) (o : Option V) : Sl → Prop
  | .no => f = []
  | .fz d => f = [] ∧ ∃ v, o = some v ∧ Rp K Fz v d
  | .ol xs => ∃ a vs g, o = some (.ref a) ∧ f = a :: g ∧ H a = some (.lst vs) ∧ ElL K Fz H g vs xs
  | .od kvs => ∃ a, o = some (.ref a) ∧ f = [a] ∧ DcR K Fz H a kvs
  | .al x j => f = [] ∧ ∃ a b vs, σ[x]? = some (some (.ref a)) ∧ H a = some (.lst vs) ∧ vs[j]? = some (.ref b) ∧ o = some (.ref b)

/-- what stays through a body: the ground B, what of it stands still (F0), the slots that stay (pin, as in so) -/
structure Bk where
  B : Hp
  F0 : Hp
  pin : List Nat
  so : L2.St
structure Rl (K : PySem.W.Frag) (b : Bk) (Fz : Hp) (F : Nat → List Addr) (δ : List Sl) (σ : L2.St) (H : Hp) : Prop where
  le : Same Fz H
  base : Same b.B H
  len : σ.length = δ.length
  slot : ∀ i s, δ[i]? = some s → SlH K Fz H σ (F i) (σ[i]?.join) s
  nd : ∀ i, (F i).Nodup
  dj : ∀ i j a, a ∈ F i → a ∈ F j → i = j
  offF : ∀ i a, a ∈ F i → Fz a = none
  offB : ∀ i a, a ∈ F i → b.B a = none
  on : ∀ i a, a ∈ F i → H a ≠ none
  keep : ∀ a, b.B a ≠ none → Fz a = b.F0 a
  f0 : ∀ a, b.F0 a ≠ none → b.B a ≠ none
  pin : ∀ i ∈ b.pin, σ[i]? = b.so[i]?
  als : ∀ (i x j : Nat), δ[i]? = some (.al x j) → ∃ xs, δ[x]? = some (.ol xs)

theorem ElR.keeps {K : PySem.W.Frag} {Fz Fz' H H' : Hp} {f : List Addr} {v : V} {e : El} (h : ElR K Fz H f v e) (hF : Same Fz Fz') (hH : ∀ a ∈ f, H' a = H a) : ElR K Fz' H' f v e := by
  cases e with
  | fz d => exact ⟨h.1, h.2.mono hF⟩
  | ow xs =>
    obtain ⟨a, vs, e1, e2, e3, e4⟩ := h
    exact ⟨a, vs, e1, e2, (hH a (by simp [e2])).trans e3, e4.mono hF⟩
theorem ElL.keeps {K : PySem.W.Frag} {Fz Fz' H H' : Hp} : ∀ {f : List Addr} {vs : List V} {es : List El}, ElL K Fz H f vs es → Same Fz Fz' → (∀ a ∈ f, H' a = H a) → ElL K Fz' H' f vs es
  | _, _, _, .nil, _, _ => .nil
  | _, _, _, .cons h t, hF, hH => .cons (h.keeps hF fun a ha => hH a (List.mem_append_left _ ha)) (t.keeps hF fun a ha => hH a (List.mem_append_right _ ha))
theorem DcR.keeps {K : PySem.W.Frag} {Fz Fz' H H' : Hp} {a : Addr} {kvs : List (PyData × PyData)} (h : DcR K Fz H a kvs) (hF : Same Fz Fz') (hH : H' a = H a) : DcR K Fz' H' a kvs := by
  rcases h with ⟨ws, h1, h2⟩ | ⟨ws, h1, h2⟩
  · exact .inl ⟨ws, hH.trans h1, h2.mono hF⟩
  · exact .inr ⟨ws, hH.trans h1, h2.mono hF⟩
/-- the slot's own objects, and (for an item of another slot) its list, are as they were -/
theorem SlH.keeps {K : PySem.W.Frag} {Fz Fz' H H' : Hp} {σ : L2.St} {f : List Addr} {o : Option V} {s : Sl} (h : SlH K Fz H σ f o s) (hF : Same Fz Fz') (hH : ∀ a ∈ f, H' a = H a)
    (hA : ∀ x j, s = .al x j → ∀ a, σ[x]? = some (some (.ref a)) → H' a = H a) : SlH K Fz' H' σ f o s := by
  cases s with
  | no => exact h
  | fz d =>
    obtain ⟨e, v, e2, r⟩ := h
    exact ⟨e, v, e2, r.mono hF⟩
  | ol xs =>
    obtain ⟨a, vs, g, e1, e2, e3, e4⟩ := h
    exact ⟨a, vs, g, e1, e2, (hH a (by simp [e2])).trans e3, e4.keeps hF fun c hc => hH c (by simp [e2, hc])⟩
  | od kvs =>
    obtain ⟨a, e1, e2, e3⟩ := h
    exact ⟨a, e1, e2, e3.keeps hF (hH a (by simp [e2]))⟩
  | al x j =>
    obtain ⟨e, a, b, vs, e1, e2, e3, e4⟩ := h
    exact ⟨e, a, b, vs, e1, (hA x j rfl a e1).trans e2, e3, e4⟩

theorem upd_new {H : Hp} {p b : Addr} {o : HO} (n : H p = none) (h : H b ≠ none) : upd H p o b = H b := upd_ne fun e => h (by rw [e]; exact n)
theorem same_new {H : Hp} {p : Addr} {o : HO} (n : H p = none) : Same H (upd H p o) := fun b x e => by
  rw [upd_new n (by rw [e]; simp)]
  exact e
section
variable {K : PySem.W.Frag} {b : Bk} {Fz : Hp} {F : Nat → List Addr} {δ : List Sl} {σ : L2.St} {H : Hp}
/-- the heap grew -/
theorem Rl.grow (R : Rl K b Fz F δ σ H) {H' : Hp} (s : Same H H') : Rl K b Fz F δ σ H' where
  le := R.le.trans s
  base := R.base.trans s
  len := R.len
  slot := fun i s' e => (R.slot i s' e).keeps (Same.refl _) (fun a ha => by
    cases q : H a with
    | none => exact absurd q (R.on i a ha)
    | some o => exact s a o q) fun x j _ a ha => by
      cases q : H a with
      | some o => exact s a o q
      | none =>
        rename_i e2
        subst e2
        obtain ⟨_, a', _, vs, e1, e2, _⟩ := R.slot i _ e
        rw [ha] at e1
        cases e1
        rw [q] at e2
        cases e2
  nd := R.nd
  dj := R.dj
  offF := R.offF
  offB := R.offB
  on := fun i a ha => by
    cases q : H a with
    | none => exact absurd q (R.on i a ha)
    | some o =>
      rw [s a o q]
      simp
  keep := R.keep
  f0 := R.f0
  pin := R.pin
  als := R.als
theorem Rl.new (R : Rl K b Fz F δ σ H) {p : Addr} (n : H p = none) (o : HO) : Rl K b Fz F δ σ (upd H p o) := R.grow (same_new n)
theorem Rl.offN (R : Rl K b Fz F δ σ H) {p : Addr} (n : H p = none) : Fz p = none ∧ b.B p = none ∧ ∀ i, p ∉ F i := by
  refine ⟨?_, ?_, fun i hi => R.on i p hi n⟩
  · cases q : Fz p with
    | none => rfl
    | some o =>
      have := R.le p o q
      rw [n] at this
      cases this
  · cases q : b.B p with
    | none => rfl
    | some o =>
      have := R.base p o q
      rw [n] at this
      cases this
/-- more stands still: objects at hand that nobody owns, outside the ground -/
theorem Rl.freeze (R : Rl K b Fz F δ σ H) {Fz' : Hp} (s : Same Fz Fz') (le : Same Fz' H) (off : ∀ a, Fz a = none → Fz' a ≠ none → b.B a = none ∧ ∀ i, a ∉ F i) : Rl K b Fz' F δ σ H where
  le := le
  base := R.base
  len := R.len
  slot := fun i s' e => (R.slot i s' e).keeps s (fun _ _ => rfl) fun _ _ _ _ _ => rfl
  nd := R.nd
  dj := R.dj
  offF := fun i a ha => by
    cases q : Fz' a with
    | none => rfl
    | some o => exact absurd ha ((off a (R.offF i a ha) (by rw [q]; simp)).2 i)
  offB := R.offB
  on := R.on
  keep := fun a ha => by
    rw [← R.keep a ha]
    cases q : Fz a with
    | some o => exact s a o q
    | none =>
      cases q' : Fz' a with
      | none => rfl
      | some o => exact absurd (off a q (by rw [q']; simp)).1 ha
  f0 := R.f0
  pin := R.pin
  als := R.als
end
end Hb

/-! part Hb1 -/
namespace Hb
open PySem PySem.Spec PyProof.Rows L2

/-- what an expression gives: a tree that stands still; the slot i by reference; a new thing of nobody's -/
inductive AV where
  | val (d : PyData) | ref (i : Nat) | tmp (s : Sl)
/-- an error: its class's name, the field that it bears -/
structure Exn where
  cls : Str
  arg : Option (Str × PyData) := none
inductive Rs (α : Type) where
  | ok (a : α) (δ : List Sl) | er (x : Exn) (δ : List Sl) | bad
def Rs.bind {α β : Type} (r : Rs α) (k : α → List Sl → Rs β) : Rs β := match r with
  | .ok a δ => k a δ
  | .er x δ => .er x δ
  | .bad => .bad
def Sl.tree : Sl → Option PyData
  | .fz d => some d
  | .ol xs => some (.list (xs.map El.d))
  | .od kvs => some (.dict kvs)
  | _ => none
/-- the tree that is read -/
def rdA (δ : List Sl) : AV → Option PyData
  | .val d => some d
  | .ref i => match δ[i]? with
    | some (.al x j) => (match δ[x]? with
      | some (.ol xs) => xs[j]?.map El.d
      | _ => none)
    | some s => s.tree
    | none => none
  | .tmp _ => none
def allFz : List El → Option (List PyData)
  | [] => some []
  | .fz d :: r => (allFz r).map (d :: ·)
  | .ow _ :: _ => none
/-- a list whose items stand still -/
def rdC (δ : List Sl) : AV → Option PyData
  | .val d => some d
  | .ref i => match δ[i]? with
    | some (.al x j) => (match δ[x]? with
      | some (.ol xs) => xs[j]?.map El.d
      | _ => none)
    | some (.fz d) => some d
    | some (.ol xs) => (allFz xs).map .list
    | _ => none
  | .tmp _ => none

def AvS (K : PySem.W.Frag) (Fz : Hp) (σ : L2.St) (v : V) : AV → Prop
  | .val d => Rp K Fz v d
  | .ref i => σ[i]? = some (some v)
  | .tmp _ => False
def AvR (K : PySem.W.Frag) (b : Bk) (Fz : Hp) (F : Nat → List Addr) (H : Hp) (σ : L2.St) (v : V) : AV → Prop
  | .val d => Rp K Fz v d
  | .ref i => σ[i]? = some (some v)
  | .tmp s => s.tree.isSome = true ∧ ∃ g, SlH K Fz H [] g (some v) s ∧ g.Nodup ∧ ∀ a ∈ g, Fz a = none ∧ b.B a = none ∧ H a ≠ none ∧ ∀ i, a ∉ F i
def ExR (K : PySem.W.Frag) (mg : Str → Option Value) (Fz H : Hp) (x : Exn) (c : Value) (dd : Option Addr) : Prop :=
  (∃ C, mg x.cls = some (.ref C) ∧ c = .ref C) ∧ match x.arg with
    | none => dd = none
    | some p => ∃ a v, dd = some a ∧ H a = some (.xd [(p.1, v)]) ∧ Rp K Fz v p.2
section
variable (K : PySem.W.Frag) (mg : Str → Option Value) (W : WX)
def PostX (b : Bk) (Fz : Hp) (σ : L2.St) (x : Exn) (δ : List Sl) : Prop := ∀ c dd H' Fz' F', Same Fz Fz' → Rl K b Fz' F' δ σ H' → ExR K mg Fz' H' x c dd → W c dd σ H'
def Post (b : Bk) (Fz : Hp) (σ : L2.St) (Q : VK) : Rs AV → Prop
  | .ok a δ => ∀ v H' Fz' F', Same Fz Fz' → Rl K b Fz' F' δ σ H' → AvR K b Fz' F' H' σ v a → Q v H'
  | .er x δ => PostX K mg W b Fz σ x δ
  | .bad => False
def rdE (pin : List Nat) (f : List Sl → Rs AV) : TE := fun σ H Q => ∃ b Fz F δ, b.pin = pin ∧ Rl K b Fz F δ σ H ∧ Post K mg W b Fz σ Q (f δ)
/-- a test -/
def PostT (b : Bk) (Fz : Hp) (σ : L2.St) (Q : Bool → Hp → Prop) : Rs Bool → Prop
  | .ok a δ => ∀ H' Fz' F', Same Fz Fz' → Rl K b Fz' F' δ σ H' → Q a H'
  | .er x δ => PostX K mg W b Fz σ x δ
  | .bad => False
def rdT (pin : List Nat) (f : List Sl → Rs Bool) : TT := fun σ H Q => ∃ b Fz F δ, b.pin = pin ∧ Rl K b Fz F δ σ H ∧ PostT K mg W b Fz σ Q (f δ)
end
abbrev SE (X : Cx) (W : WX) (pin : List Nat) (e : Expr) (f : List Sl → Rs AV) : Prop := PE X e (rdE X.K X.mg W pin f)
abbrev ST (X : Cx) (W : WX) (pin : List Nat) (e : Expr) (f : List Sl → Rs Bool) : Prop := PT X e (rdT X.K X.mg W pin f)
theorem pe_mono {X : Cx} {e : Expr} {t t' : TE} (h : PE X e t) (i : ∀ σ H Q, t' σ H Q → t σ H Q) : PE X e t' := ⟨fun pins s σ H Q I q => h.run pins s σ H Q I (i σ H Q q)⟩
theorem pt_mono {X : Cx} {e : Expr} {t t' : TT} (h : PT X e t) (i : ∀ σ H Q, t' σ H Q → t σ H Q) : PT X e t' := ⟨fun pins s σ H Q I q => h.run pins s σ H Q I (i σ H Q q)⟩

section
variable {K : PySem.W.Frag} {mg : Str → Option Value} {W : WX} {b : Bk} {Fz Fz1 : Hp} {F : Nat → List Addr} {δ : List Sl} {σ : L2.St} {H : Hp} {Q : VK}
theorem PostX.le {x : Exn} (s : Same Fz Fz1) (p : PostX K mg W b Fz σ x δ) : PostX K mg W b Fz1 σ x δ := fun c dd H' Fz' F' s' R e => p c dd H' Fz' F' (s.trans s') R e
theorem Post.le {r : Rs AV} (s : Same Fz Fz1) (p : Post K mg W b Fz σ Q r) : Post K mg W b Fz1 σ Q r := by
  cases r with
  | ok a δ => exact fun v H' Fz' F' s' R e => p v H' Fz' F' (s.trans s') R e
  | er x δ => exact PostX.le s p
  | bad => exact p
theorem PostT.le {Q : Bool → Hp → Prop} {r : Rs Bool} (s : Same Fz Fz1) (p : PostT K mg W b Fz σ Q r) : PostT K mg W b Fz1 σ Q r := by
  cases r with
  | ok a δ => exact fun H' Fz' F' s' R => p H' Fz' F' (s.trans s') R
  | er x δ => exact PostX.le s p
  | bad => exact p
theorem AvS.le {v : V} {a : AV} (s : Same Fz Fz1) (p : AvS K Fz σ v a) : AvS K Fz1 σ v a := by
  cases a with
  | val d => exact Rp.mono s p
  | ref i => exact p
  | tmp t => exact p
theorem AvR.of {v : V} {a : AV} (p : AvS K Fz σ v a) : AvR K b Fz F H σ v a := by
  cases a with
  | val d => exact p
  | ref i => exact p
  | tmp t => exact False.elim p
theorem ElL.tree {Fz H : Hp} (le : Same Fz H) : ∀ {f : List Addr} {vs : List V} {es : List El}, ElL K Fz H f vs es → RpL K H vs (es.map El.d)
  | _, _, _, .nil => .nil
  | _, _, _, .cons (e := .fz d) h t => .cons (h.2.mono le) (ElL.tree le t)
  | _, _, _, .cons (e := .ow xs) h t => by
    obtain ⟨a, vs, e1, e2, e3, e4⟩ := h
    subst e1
    exact .cons (.lst (SqX.of e3) (e4.mono le)) (ElL.tree le t)
theorem ElL.at_ {Fz H : Hp} : ∀ {f : List Addr} {vs : List V} {es : List El} {j : Nat} {e : El}, ElL K Fz H f vs es → es[j]? = some e → ∃ v g, vs[j]? = some v ∧ ElR K Fz H g v e ∧ ∀ a ∈ g, a ∈ f
  | _, _, _, _, _, .nil, e => by simp at e
  | _, _, _, 0, _, .cons (f := f) (v := v) h t, e => by
    simp at e
    subst e
    exact ⟨v, f, rfl, h, fun a ha => List.mem_append_left _ ha⟩
  | _, _, _, j + 1, _, .cons h t, e => by
    obtain ⟨v, g, e1, e2, e3⟩ := ElL.at_ t (by simpa using e)
    exact ⟨v, g, by simpa using e1, e2, fun a ha => List.mem_append_right _ (e3 a ha)⟩
theorem ElL.allFz {Fz H : Hp} : ∀ {f : List Addr} {vs : List V} {es : List El} {ds : List PyData}, ElL K Fz H f vs es → Hb.allFz es = some ds → RpL K Fz vs ds
  | _, _, _, _, .nil, e => by cases e; exact .nil
  | _, _, _, ds, .cons (e := .fz d) (es := es) h t, e => by
    cases q : Hb.allFz es with
    | none =>
      rw [Hb.allFz, q] at e
      cases e
    | some ds' =>
      rw [Hb.allFz, q] at e
      cases e
      exact .cons h.2 (ElL.allFz t q)
  | _, _, _, ds, .cons (e := .ow xs) h t, e => by cases e
/-- a value that is read -/
def RpC (K : PySem.W.Frag) (Fz H : Hp) (v : V) (d : PyData) : Prop := Rp K Fz v d ∨ ∃ a vs ds, v = .ref a ∧ d = .list ds ∧ H a = some (.lst vs) ∧ RpL K Fz vs ds
theorem join_some {o : Option (Option V)} {v : V} (h : o.join = some v) : o = some (some v) := by
  cases o with
  | none => cases h
  | some o => exact congrArg some h
theorem Rl.al (R : Rl K b Fz F δ σ H) {i x j : Nat} {xs : List El} {e : El} {v : V} (h : δ[i]? = some (.al x j)) (hx : δ[x]? = some (.ol xs)) (hj : xs[j]? = some e) (hv : σ[i]? = some (some v)) : ∃ g, ElR K Fz H g v e ∧ ∀ a ∈ g, a ∈ F x := by
  obtain ⟨_, a, c, vs, e1, e2, e3, e4⟩ := R.slot i _ h
  obtain ⟨a', vs', g, e5, e6, e7, e8⟩ := R.slot x _ hx
  rw [e1] at e5
  cases e5
  rw [e2] at e7
  cases e7
  obtain ⟨v', g', e9, e10, e11⟩ := e8.at_ hj
  rw [e3] at e9
  cases e9
  rw [hv] at e4
  cases e4
  exact ⟨g', e10, fun a ha => by rw [e6]; exact List.mem_cons_of_mem _ (e11 a ha)⟩
theorem rdA_ok (R : Rl K b Fz F δ σ H) {v : V} {a : AV} {d : PyData} (p : AvS K Fz σ v a) (h : rdA δ a = some d) : Rp K H v d := by
  cases a with
  | val d' =>
    cases h
    exact Rp.mono R.le p
  | tmp t => exact False.elim p
  | ref i =>
    have hv : σ[i]? = some (some v) := p
    cases q : δ[i]? with
    | none =>
      simp only [rdA, q] at h
      cases h
    | some s =>
      have hs := R.slot i s q
      rw [hv] at hs
      cases s with
      | no =>
        simp only [rdA, q] at h
        cases h
      | fz d' =>
        simp only [rdA, q] at h
        cases h
        obtain ⟨_, v', e1, e2⟩ := hs
        cases e1
        exact e2.mono R.le
      | ol xs =>
        simp only [rdA, q] at h
        cases h
        obtain ⟨a, vs, g, e1, e2, e3, e4⟩ := hs
        cases e1
        exact .lst (SqX.of e3) (e4.tree R.le)
      | od kvs =>
        simp only [rdA, q] at h
        cases h
        obtain ⟨a, e1, e2, e3⟩ := hs
        cases e1
        rcases e3 with ⟨ws, h1, h2⟩ | ⟨ws, h1, h2⟩
        · exact .dK h1 (h2.mono R.le)
        · exact .dT h1 (h2.mono R.le)
      | al x j =>
        cases q2 : δ[x]? with
        | none =>
          simp only [rdA, q, q2] at h
          cases h
        | some t =>
          cases t with
          | ol xs =>
            cases q3 : xs[j]? with
            | none =>
              simp only [rdA, q, q2, q3] at h
              cases h
            | some e =>
              simp only [rdA, q, q2, q3] at h
              cases h
              obtain ⟨g, e1, _⟩ := R.al q q2 q3 hv
              cases e with
              | fz d' => exact e1.2.mono R.le
              | ow ys =>
                obtain ⟨a, vs, f1, _, f3, f4⟩ := e1
                subst f1
                exact .lst (SqX.of f3) (f4.mono R.le)
          | _ =>
            simp only [rdA, q, q2] at h
            cases h
theorem rdC_ok (R : Rl K b Fz F δ σ H) {v : V} {a : AV} {d : PyData} (p : AvS K Fz σ v a) (h : rdC δ a = some d) : RpC K Fz H v d := by
  cases a with
  | val d' =>
    cases h
    exact .inl p
  | tmp t => exact False.elim p
  | ref i =>
    have hv : σ[i]? = some (some v) := p
    cases q : δ[i]? with
    | none =>
      simp only [rdC, q] at h
      cases h
    | some s =>
      have hs := R.slot i s q
      rw [hv] at hs
      cases s with
      | no =>
        simp only [rdC, q] at h
        cases h
      | fz d' =>
        simp only [rdC, q] at h
        cases h
        obtain ⟨_, v', e1, e2⟩ := hs
        cases e1
        exact .inl e2
      | ol xs =>
        simp only [rdC, q] at h
        cases q2 : allFz xs with
        | none =>
          rw [q2] at h
          cases h
        | some ds =>
          rw [q2] at h
          cases h
          obtain ⟨a, vs, g, e1, e2, e3, e4⟩ := hs
          cases e1
          exact .inr ⟨a, vs, ds, rfl, rfl, e3, e4.allFz q2⟩
      | od kvs =>
        simp only [rdC, q] at h
        cases h
      | al x j =>
        cases q2 : δ[x]? with
        | none =>
          simp only [rdC, q, q2] at h
          cases h
        | some t =>
          cases t with
          | ol xs =>
            cases q3 : xs[j]? with
            | none =>
              simp only [rdC, q, q2, q3] at h
              cases h
            | some e =>
              simp only [rdC, q, q2, q3] at h
              cases h
              obtain ⟨g, e1, _⟩ := R.al q q2 q3 hv
              cases e with
              | fz d' => exact .inl e1.2
              | ow ys =>
                obtain ⟨a, vs, f1, _, f3, f4⟩ := e1
                subst f1
                exact .inr ⟨a, vs, ys, rfl, rfl, f3, f4⟩
          | _ =>
            simp only [rdC, q, q2] at h
            cases h
theorem RpC.list {v : V} {ds : List PyData} (le : Same Fz H) (h : RpC K Fz H v (.list ds)) : ∃ a vs, v = .ref a ∧ SqX K H a vs ∧ RpL K Fz vs ds := by
  rcases h with h | ⟨a, vs, es, e1, e2, e3, e4⟩
  · cases h with
    | lst h1 h2 => exact ⟨_, _, rfl, same_sqX le h1, h2⟩
  · cases e2
    exact ⟨a, vs, e1, SqX.of e3, e4⟩
theorem RpC.tup {v : V} {ds : List PyData} (le : Same Fz H) (h : RpC K Fz H v (.tuple ds)) : ∃ a vs, v = .ref a ∧ SqT K H a vs ∧ RpL K Fz vs ds := by
  rcases h with h | ⟨a, vs, es, e1, e2, e3, e4⟩
  · cases h with
    | tup h1 h2 => exact ⟨_, _, rfl, same_sqT le h1, h2⟩
  · cases e2
theorem RpC.rp {v : V} {d : PyData} (le : Same Fz H) (h : RpC K Fz H v d) : Rp K H v d := by
  rcases h with h | ⟨a, vs, es, e1, e2, e3, e4⟩
  · exact h.mono le
  · subst e1 e2
    exact .lst (SqX.of e3) (e4.mono le)

/-! ### new things -/
theorem ElL.ofFz {H : Hp} : ∀ {vs : List V} {ds : List PyData}, RpL K Fz vs ds → ElL K Fz H [] vs (ds.map .fz)
  | _, _, .nil => .nil
  | _, _, .cons h t => .cons (f := []) ⟨rfl, h⟩ (ElL.ofFz t)
theorem post_newL (R : Rl K b Fz F δ σ H) {vs : List V} {ds : List PyData} (h : RpL K Fz vs ds) (P : Post K mg W b Fz σ Q (.ok (.tmp (.ol (ds.map .fz))) δ)) : ∀ p, H p = none → Q (.ref p) (upd H p (.lst vs)) := fun p n => by
  obtain ⟨n1, n2, n3⟩ := R.offN n
  refine P (.ref p) _ Fz F (Same.refl _) (R.new n _) ⟨rfl, [p], ⟨p, vs, [], rfl, rfl, upd_same, ElL.ofFz h⟩, by simp, fun a ha => ?_⟩
  rw [List.mem_singleton] at ha
  subst ha
  exact ⟨n1, n2, by rw [upd_same]; simp, n3⟩
theorem post_newD (R : Rl K b Fz F δ σ H) (P : Post K mg W b Fz σ Q (.ok (.tmp (.od [])) δ)) : ∀ p, H p = none → Q (.ref p) (upd H p (.dK [])) := fun p n => by
  obtain ⟨n1, n2, n3⟩ := R.offN n
  refine P (.ref p) _ Fz F (Same.refl _) (R.new n _) ⟨rfl, [p], ⟨p, rfl, rfl, .inl ⟨[], upd_same, .nil⟩⟩, by simp, fun a ha => ?_⟩
  rw [List.mem_singleton] at ha
  subst ha
  exact ⟨n1, n2, by rw [upd_same]; simp, n3⟩
theorem post_newDT (R : Rl K b Fz F δ σ H) (P : Post K mg W b Fz σ Q (.ok (.tmp (.od [])) δ)) : ∀ p, H p = none → Q (.ref p) (upd H p (.dT [])) := fun p n => by
  obtain ⟨n1, n2, n3⟩ := R.offN n
  refine P (.ref p) _ Fz F (Same.refl _) (R.new n _) ⟨rfl, [p], ⟨p, rfl, rfl, .inr ⟨[], upd_same, .nil⟩⟩, by simp, fun a ha => ?_⟩
  rw [List.mem_singleton] at ha
  subst ha
  exact ⟨n1, n2, by rw [upd_same]; simp, n3⟩
/-- a new thing that stands still at once -/
theorem Rl.newF (R : Rl K b Fz F δ σ H) {p : Addr} (n : H p = none) (o : HO) : Same Fz (upd Fz p o) ∧ Rl K b (upd Fz p o) F δ σ (upd H p o) := by
  obtain ⟨n1, n2, n3⟩ := R.offN n
  refine ⟨same_new n1, (R.new n o).freeze (same_new n1) (fun a x e => ?_) fun a ha hb => ?_⟩
  · by_cases q : a = p
    · subst q
      rw [upd_same] at e ⊢
      exact e
    · rw [upd_ne q] at e ⊢
      exact R.le a x e
  · by_cases q : a = p
    · subst q
      exact ⟨n2, n3⟩
    · rw [upd_ne q] at hb
      exact absurd ha hb
theorem post_newT (R : Rl K b Fz F δ σ H) {vs : List V} {ds : List PyData} (h : RpL K Fz vs ds) (P : Post K mg W b Fz σ Q (.ok (.val (.tuple ds)) δ)) : ∀ p, H p = none → Q (.ref p) (upd H p (.tup vs)) := fun p n => by
  obtain ⟨s, R'⟩ := R.newF n (.tup vs)
  exact P (.ref p) _ _ F s R' (.tup (SqT.of upd_same) (h.mono s))
/-! ### to stand still from now on -/
theorem ElL.treeF {H : Hp} {Fz' : Hp} (s : Same Fz Fz') : ∀ {f : List Addr} {vs : List V} {es : List El}, ElL K Fz H f vs es → (∀ a ∈ f, Fz' a = H a) → RpL K Fz' vs (es.map El.d)
  | _, _, _, .nil, _ => .nil
  | _, _, _, .cons (e := .fz d) h t, hg => .cons (h.2.mono s) (ElL.treeF s t fun a ha => hg a (List.mem_append_right _ ha))
  | _, _, _, .cons (e := .ow xs) h t, hg => by
    obtain ⟨a, vs, e1, e2, e3, e4⟩ := h
    subst e1
    have q := hg a (List.mem_append_left _ (by simp [e2]))
    exact .cons (.lst (SqX.of (q.trans e3)) (e4.mono s)) (ElL.treeF s t fun a ha => hg a (List.mem_append_right _ ha))
theorem SlH.treeF {Fz' : Hp} {σ0 : L2.St} {g : List Addr} {v : V} {t : Sl} {d : PyData} (h : SlH K Fz H σ0 g (some v) t) (ht : t.tree = some d) (s : Same Fz Fz') (hg : ∀ a ∈ g, Fz' a = H a) : Rp K Fz' v d := by
  cases t with
  | no => cases ht
  | fz d' =>
    cases ht
    obtain ⟨_, v', e1, e2⟩ := h
    cases e1
    exact e2.mono s
  | ol xs =>
    cases ht
    obtain ⟨a, vs, g', e1, e2, e3, e4⟩ := h
    cases e1
    exact .lst (SqX.of ((hg a (by simp [e2])).trans e3)) (e4.treeF s fun c hc => hg c (by simp [e2, hc]))
  | od kvs =>
    cases ht
    obtain ⟨a, e1, e2, e3⟩ := h
    cases e1
    have q := hg a (by simp [e2])
    rcases e3 with ⟨ws, h1, h2⟩ | ⟨ws, h1, h2⟩
    · exact .dK (q.trans h1) (h2.mono s)
    · exact .dT (q.trans h1) (h2.mono s)
  | al x j => cases ht
/-- Fz with the objects at g as they stand -/
def addF (Fz H : Hp) (g : List Addr) : Hp := fun a => if a ∈ g then H a else Fz a
theorem addF_in {Fz H : Hp} {g : List Addr} {a : Addr} (h : a ∈ g) : addF Fz H g a = H a := if_pos h
theorem addF_out {Fz H : Hp} {g : List Addr} {a : Addr} (h : a ∉ g) : addF Fz H g a = Fz a := if_neg h
theorem addF_same {Fz H : Hp} {g : List Addr} (h : ∀ a ∈ g, Fz a = none) : Same Fz (addF Fz H g) := fun a o e => by
  by_cases q : a ∈ g
  · rw [h a q] at e
    cases e
  · rw [addF_out q]
    exact e
theorem addF_le {Fz H : Hp} {g : List Addr} (le : Same Fz H) : Same (addF Fz H g) H := fun a o e => by
  by_cases q : a ∈ g
  · rw [addF_in q] at e
    exact e
  · rw [addF_out q] at e
    exact le a o e
theorem Rl.addF (R : Rl K b Fz F δ σ H) {g : List Addr} (hg : ∀ a ∈ g, Fz a = none ∧ b.B a = none ∧ ∀ i, a ∉ F i) : Same Fz (addF Fz H g) ∧ Rl K b (Hb.addF Fz H g) F δ σ H := by
  have s := addF_same (H := H) fun a ha => (hg a ha).1
  refine ⟨s, R.freeze s (addF_le R.le) fun a h1 h2 => ?_⟩
  by_cases q : a ∈ g
  · exact ⟨(hg a q).2.1, (hg a q).2.2⟩
  · rw [addF_out q] at h2
    exact absurd h1 h2
/-- aliases of slot i are forgotten -/
def dropAl (i : Nat) (δ : List Sl) : List Sl := δ.map fun s => match s with
  | .al x j => if x = i then .no else .al x j
  | s => s
def upS (i : Nat) (s : Sl) (δ : List Sl) : List Sl := (dropAl i δ).set i s
theorem dropAl_at {i k : Nat} {s : Sl} {δ : List Sl} (h : (dropAl i δ)[k]? = some s) : s = .no ∧ (∃ j, δ[k]? = some (.al i j)) ∨ δ[k]? = some s ∧ ∀ j, s ≠ .al i j := by
  unfold dropAl at h
  rw [List.getElem?_map] at h
  cases q : δ[k]? with
  | none =>
    rw [q] at h
    cases h
  | some t =>
    rw [q] at h
    cases t with
    | al x j =>
      by_cases e : x = i
      · subst e
        have h' : some (if x = x then Sl.no else Sl.al x j) = some s := h
        rw [if_pos rfl] at h'
        cases h'
        exact .inl ⟨rfl, j, rfl⟩
      · have h' : some (if x = i then Sl.no else Sl.al x j) = some s := h
        rw [if_neg e] at h'
        cases h'
        exact .inr ⟨rfl, fun j' z => by cases z; exact e rfl⟩
    | no => cases h; exact .inr ⟨rfl, fun j' z => nomatch z⟩
    | fz d => cases h; exact .inr ⟨rfl, fun j' z => nomatch z⟩
    | ol xs => cases h; exact .inr ⟨rfl, fun j' z => nomatch z⟩
    | od kvs => cases h; exact .inr ⟨rfl, fun j' z => nomatch z⟩
theorem dropAl_len {i : Nat} {δ : List Sl} : (dropAl i δ).length = δ.length := by simp [dropAl]
/-- slot i (not pinned, or its value the same) gets another value, another heap of its own -/
theorem Rl.put (R : Rl K b Fz F δ σ H) {i : Nat} {s : Sl} {g : List Addr} {σ' : L2.St} {H' : Hp} {Fz' : Hp} (sF : Same Fz Fz') (leF : Same Fz' H') (hb : Same b.B H')
    (hl : σ'.length = σ.length) (hσ : ∀ k, k ≠ i → σ'[k]? = σ[k]?) (hp : σ'[i]? = σ[i]? ∨ i ∉ b.pin)
    (hs : i < δ.length → SlH K Fz' H' σ' g (σ'[i]?.join) s) (ns : ∀ x j, s = .al x j → x ≠ i ∧ ∃ xs, δ[x]? = some (.ol xs))
    (hg : g.Nodup) (gF : ∀ a ∈ g, Fz' a = none) (gB : ∀ a ∈ g, b.B a = none) (gO : ∀ a ∈ g, ∀ k, k ≠ i → a ∉ F k) (gH : ∀ a ∈ g, H' a ≠ none)
    (oH : ∀ k, k ≠ i → ∀ a ∈ F k, H' a = H a) (oF : ∀ k, k ≠ i → ∀ a ∈ F k, Fz' a = none) (kF : ∀ a, b.B a ≠ none → Fz' a = Fz a) :
    Rl K b Fz' (fun k => if k = i then g else F k) (upS i s δ) σ' H' where
  le := leF
  base := hb
  len := by rw [hl, R.len, upS, List.length_set, dropAl_len]
  slot := fun k t e => by
    by_cases hk : k = i
    · subst hk
      unfold upS at e
      have hlt : k < δ.length := by
        have := (List.getElem?_eq_some_iff.mp e).1
        rw [List.length_set, dropAl_len] at this
        exact this
      rw [List.getElem?_set_self (by rw [dropAl_len]; exact hlt)] at e
      cases e
      rw [if_pos rfl]
      exact hs hlt
    · unfold upS at e
      rw [List.getElem?_set_ne (Ne.symm hk)] at e
      rw [if_neg hk]
      rcases dropAl_at e with ⟨e1, j, e2⟩ | ⟨e1, e2⟩
      · subst e1
        exact (R.slot k _ e2).1
      · have h0 := R.slot k t e1
        rw [hσ k hk]
        have h1 : SlH K Fz' H' σ (F k) (σ[k]?.join) t := h0.keeps sF (oH k hk) fun x j ej a ha => by
          subst ej
          have hx : x ≠ i := fun z => e2 j (by rw [z])
          obtain ⟨xs, hxs⟩ := R.als k x j e1
          obtain ⟨a2, vs2, g2, p1, p2, _⟩ := R.slot x _ hxs
          rw [ha] at p1
          cases p1
          exact oH x hx a (by rw [p2]; exact List.mem_cons_self)
        cases t with
        | al x j =>
          obtain ⟨f0, a1, c1, vs1, f1, f2, f3, f4⟩ := h1
          exact ⟨f0, a1, c1, vs1, by rw [hσ x (fun z => e2 j (by rw [z]))]; exact f1, f2, f3, f4⟩
        | no => exact h1
        | fz d => exact h1
        | ol xs => exact h1
        | od kvs => exact h1
  nd := fun k => by
    by_cases hk : k = i
    · rw [if_pos hk]; exact hg
    · rw [if_neg hk]; exact R.nd k
  dj := fun k l a h1 h2 => by
    by_cases hk : k = i
    · by_cases hl : l = i
      · rw [hk, hl]
      · rw [if_pos hk] at h1
        rw [if_neg hl] at h2
        exact absurd h2 (gO a h1 l hl)
    · by_cases hl : l = i
      · rw [if_pos hl] at h2
        rw [if_neg hk] at h1
        exact absurd h1 (gO a h2 k hk)
      · rw [if_neg hk] at h1
        rw [if_neg hl] at h2
        exact R.dj k l a h1 h2
  offF := fun k a h => by
    by_cases hk : k = i
    · rw [if_pos hk] at h; exact gF a h
    · rw [if_neg hk] at h; exact oF k hk a h
  offB := fun k a h => by
    by_cases hk : k = i
    · rw [if_pos hk] at h; exact gB a h
    · rw [if_neg hk] at h; exact R.offB k a h
  on := fun k a h => by
    by_cases hk : k = i
    · rw [if_pos hk] at h; exact gH a h
    · rw [if_neg hk] at h
      rw [oH k hk a h]
      exact R.on k a h
  keep := fun a h => (kF a h).trans (R.keep a h)
  f0 := R.f0
  pin := fun k hk => by
    by_cases e : k = i
    · subst e
      rcases hp with z | z
      · exact z.trans (R.pin k hk)
      · exact absurd hk z
    · rw [hσ k e]
      exact R.pin k hk
  als := fun k x j e => by
    unfold upS at e ⊢
    by_cases hk : k = i
    · subst hk
      have hlt : k < δ.length := by
        have := (List.getElem?_eq_some_iff.mp e).1
        rw [List.length_set, dropAl_len] at this
        exact this
      rw [List.getElem?_set_self (by rw [dropAl_len]; exact hlt)] at e
      cases e
      obtain ⟨hx, xs, e1⟩ := ns x j rfl
      refine ⟨xs, ?_⟩
      rw [List.getElem?_set_ne (Ne.symm hx), dropAl, List.getElem?_map, e1]
      rfl
    · rw [List.getElem?_set_ne (Ne.symm hk)] at e
      rcases dropAl_at e with ⟨e1, _⟩ | ⟨e1, e2⟩
      · cases e1
      · obtain ⟨xs, e3⟩ := R.als k x j e1
        refine ⟨xs, ?_⟩
        rw [List.getElem?_set_ne (fun z => e2 j (by rw [z])), dropAl, List.getElem?_map, e3]
        rfl
end
end Hb

/-! part Hb2 -/
namespace Hb
open PySem PySem.Spec PyProof.Rows L2

/-! ### stable, taken, moved -/
def sSt (f : List Sl → Rs AV) : List Sl → Rs AV := fun δ => match f δ with
  | .ok (.tmp s) δ' => (match s.tree with
    | some d => .ok (.val d) δ'
    | none => .bad)
  | r => r
/-- the slot i by reference: its tree stands still from now on -/
def takeI (i : Nat) (δ : List Sl) : Rs AV := match δ[i]? with
  | some (.fz d) => .ok (.val d) δ
  | some (.ol xs) => .ok (.val (.list (xs.map El.d))) (upS i (.fz (.list (xs.map El.d))) δ)
  | some (.od kvs) => .ok (.val (.dict kvs)) (upS i (.fz (.dict kvs)) δ)
  | some (.al x j) => (match δ[x]? with
    | some (.ol xs) => (match xs[j]? with
      | some (.fz d) => .ok (.val d) δ
      | _ => .bad)
    | _ => .bad)
  | _ => .bad
def sTk (f : List Sl → Rs AV) : List Sl → Rs AV := fun δ => match sSt f δ with
  | .ok (.ref i) δ' => takeI i δ'
  | r => r
/-- the slot i by reference: its thing is given away -/
def moveI (i : Nat) (δ : List Sl) : Rs AV := match δ[i]? with
  | some (.fz d) => .ok (.val d) δ
  | some (.ol xs) => .ok (.tmp (.ol xs)) (upS i .no δ)
  | some (.od kvs) => .ok (.tmp (.od kvs)) (upS i .no δ)
  | _ => .bad
def sMv (f : List Sl → Rs AV) : List Sl → Rs AV := fun δ => match f δ with
  | .ok (.ref i) δ' => moveI i δ'
  | r => r
section
variable {X : Cx} {W : WX} {pin : List Nat} {e : Expr} {f : List Sl → Rs AV}
theorem se_st (h : SE X W pin e f) : SE X W pin e (sSt f) := pe_mono h fun σ H Q ⟨b, Fz, F, δ, hp, R, P⟩ => by
  refine ⟨b, Fz, F, δ, hp, R, ?_⟩
  unfold sSt at P
  cases q : f δ with
  | bad => rw [q] at P; exact P
  | er x δ' => rw [q] at P; exact P
  | ok a δ' =>
    rw [q] at P
    cases a with
    | val d => exact P
    | ref i => exact P
    | tmp s =>
      intro v H' Fz' F' s1 R' ⟨ht, g, hs, hn, hg⟩
      cases q2 : s.tree with
      | none => rw [q2] at ht; cases ht
      | some d =>
        simp only [q2] at P
        obtain ⟨s2, R2⟩ := R'.addF (g := g) fun a ha => ⟨(hg a ha).1, (hg a ha).2.1, (hg a ha).2.2.2⟩
        exact P v H' _ F' (s1.trans s2) R2 (hs.treeF q2 s2 fun a ha => addF_in ha)
theorem take_ok {K : PySem.W.Frag} {b : Bk} {Fz : Hp} {F : Nat → List Addr} {δ : List Sl} {σ : L2.St} {H : Hp} {i : Nat} {s : Sl} {d : PyData} {v : V} (R : Rl K b Fz F δ σ H) (hs : δ[i]? = some s) (ht : s.tree = some d) (hv : σ[i]? = some (some v)) (na : ∀ x j, s ≠ .al x j) :
    ∃ Fz', Same Fz Fz' ∧ Rl K b Fz' (fun k => if k = i then [] else F k) (upS i (.fz d) δ) σ H ∧ Rp K Fz' v d := by
  have h := R.slot i s hs
  rw [hv] at h
  have sF := addF_same (H := H) (g := F i) fun a ha => R.offF i a ha
  have r : Rp K (addF Fz H (F i)) v d := by
    have h2 : SlH K Fz H [] (F i) (some v) s := by
      cases s with
      | al x j => exact absurd rfl (na x j)
      | _ => exact h
    exact h2.treeF ht sF fun a ha => addF_in ha
  have out : ∀ k, k ≠ i → ∀ a ∈ F k, a ∉ F i := fun k hk a ha hi => hk (R.dj k i a ha hi)
  refine ⟨addF Fz H (F i), sF, R.put sF (addF_le R.le) R.base rfl (fun _ _ => rfl) (.inl rfl) (fun _ => ⟨rfl, v, by rw [hv]; rfl, r⟩) (fun x j z => nomatch z) List.nodup_nil (fun _ z => nomatch z) (fun _ z => nomatch z) (fun _ z => nomatch z) (fun _ z => nomatch z) (fun _ _ _ _ => rfl) (fun k hk a ha => ?_) (fun a ha => ?_), r⟩
  · rw [addF_out (out k hk a ha)]
    exact R.offF k a ha
  · exact addF_out fun hi => ha (R.offB i a hi)
theorem post_take {K : PySem.W.Frag} {mg : Str → Option Value} {W : WX} {b : Bk} {Fz : Hp} {F : Nat → List Addr} {δ : List Sl} {σ : L2.St} {H : Hp} {Q : VK} {i : Nat} {v : V} (R : Rl K b Fz F δ σ H) (hv : σ[i]? = some (some v)) (P : Post K mg W b Fz σ Q (takeI i δ)) : Q v H := by
  unfold takeI at P
  cases q : δ[i]? with
  | none => simp only [q] at P; exact P.elim
  | some s =>
    cases s with
    | no => simp only [q] at P; exact P.elim
    | fz d =>
      simp only [q] at P
      obtain ⟨_, v', e1, e2⟩ := R.slot i _ q
      rw [hv] at e1
      cases e1
      exact P v H Fz F (Same.refl _) R e2
    | ol xs =>
      simp only [q] at P
      obtain ⟨Fz', s1, R', r⟩ := take_ok R q rfl hv (fun _ _ z => nomatch z)
      exact P v H Fz' _ s1 R' r
    | od kvs =>
      simp only [q] at P
      obtain ⟨Fz', s1, R', r⟩ := take_ok R q rfl hv (fun _ _ z => nomatch z)
      exact P v H Fz' _ s1 R' r
    | al x j =>
      simp only [q] at P
      cases q2 : δ[x]? with
      | none => simp only [q2] at P; exact P.elim
      | some t =>
        cases t with
        | ol xs =>
          simp only [q2] at P
          cases q3 : xs[j]? with
          | none => simp only [q3] at P; exact P.elim
          | some el =>
            cases el with
            | ow ys => simp only [q3] at P; exact P.elim
            | fz d =>
              simp only [q3] at P
              obtain ⟨g, e1, _⟩ := R.al q q2 q3 hv
              exact P v H Fz F (Same.refl _) R e1.2
        | _ => simp only [q2] at P; exact P.elim
theorem se_tk (h : SE X W pin e f) : SE X W pin e (sTk f) := pe_mono (se_st h) fun σ H Q ⟨b, Fz, F, δ, hp, R, P⟩ => by
  refine ⟨b, Fz, F, δ, hp, R, ?_⟩
  unfold sTk at P
  cases q : sSt f δ with
  | bad => rw [q] at P; exact P
  | er x δ' => rw [q] at P; exact P
  | ok a δ' =>
    rw [q] at P
    cases a with
    | val d => exact P
    | tmp s => exact P
    | ref i => exact fun v H' Fz' F' s1 R' hv => post_take R' hv (P.le s1)
theorem se_mv (h : SE X W pin e f) : SE X W pin e (sMv f) := pe_mono h fun σ H Q ⟨b, Fz, F, δ, hp, R, P⟩ => by
  refine ⟨b, Fz, F, δ, hp, R, ?_⟩
  unfold sMv at P
  cases q : f δ with
  | bad => rw [q] at P; exact P
  | er x δ' => rw [q] at P; exact P
  | ok a δ' =>
    rw [q] at P
    cases a with
    | val d => exact P
    | tmp s => exact P
    | ref i =>
      intro v H' Fz' F' s1 R' hv
      have hv' : σ[i]? = some (some v) := hv
      have P' := P.le s1
      unfold moveI at P'
      have go : ∀ s : Sl, δ'[i]? = some s → s.tree.isSome = true → (∀ x j, s ≠ .al x j) → (∀ d, s ≠ .fz d) → Post X.K X.mg W b Fz' σ Q (.ok (.tmp s) (upS i .no δ')) → Q v H' := fun s hs ht na nf PP => by
        have h0 := R'.slot i s hs
        rw [hv'] at h0
        have h2 : SlH X.K Fz' H' [] (F' i) (some v) s := by
          cases s with
          | al x j => exact absurd rfl (na x j)
          | _ => exact h0
        have R2 := R'.put (i := i) (s := .no) (g := []) (Same.refl _) R'.le R'.base rfl (fun _ _ => rfl) (.inl rfl) (fun _ => rfl) (fun x j z => nomatch z) List.nodup_nil (fun _ z => nomatch z) (fun _ z => nomatch z) (fun _ z => nomatch z) (fun _ z => nomatch z) (fun _ _ _ _ => rfl) (fun k _ a ha => R'.offF k a ha) (fun _ _ => rfl)
        refine PP v H' Fz' _ (Same.refl _) R2 ⟨ht, F' i, h2, R'.nd i, fun a ha => ⟨R'.offF i a ha, R'.offB i a ha, R'.on i a ha, fun k hk => ?_⟩⟩
        have hk' : a ∈ (if k = i then [] else F' k) := hk
        by_cases e : k = i
        · rw [if_pos e] at hk'
          cases hk'
        · rw [if_neg e] at hk'
          exact e (R'.dj k i a hk' ha)
      cases q2 : δ'[i]? with
      | none => simp only [q2] at P'; exact P'.elim
      | some s =>
        cases s with
        | no => simp only [q2] at P'; exact P'.elim
        | fz d =>
          simp only [q2] at P'
          obtain ⟨_, v', e1, e2⟩ := R'.slot i _ q2
          rw [hv'] at e1
          cases e1
          exact P' v H' Fz' F' (Same.refl _) R' e2
        | ol xs =>
          simp only [q2] at P'
          exact go _ q2 rfl (fun _ _ z => nomatch z) (fun _ z => nomatch z) P'
        | od kvs =>
          simp only [q2] at P'
          exact go _ q2 rfl (fun _ _ z => nomatch z) (fun _ z => nomatch z) P'
        | al x j => simp only [q2] at P'; exact P'.elim
end

/-! ### constants and names -/
def sC (d : PyData) : List Sl → Rs AV := fun δ => .ok (.val d) δ
def sVar (i : Nat) : List Sl → Rs AV := fun δ => match δ[i]? with
  | some (.fz d) => .ok (.val d) δ
  | some (.ol _) => .ok (.ref i) δ
  | some (.od _) => .ok (.ref i) δ
  | some (.al _ _) => .ok (.ref i) δ
  | _ => .bad
section
variable {X : Cx} {W : WX} {pin : List Nat} {pos : Pos}
theorem se_int {i : Int} {j : Nat} : SE X W pin (.Constant (.int i) j pos) (sC (.int i)) := pe_mono pe_int fun σ H Q ⟨b, Fz, F, δ, hp, R, P⟩ => P _ H Fz F (Same.refl _) R (.int i)
theorem se_bl {i : Bool} {j : Nat} : SE X W pin (.Constant (.bool i) j pos) (sC (.bool i)) := pe_mono pe_bl fun σ H Q ⟨b, Fz, F, δ, hp, R, P⟩ => P _ H Fz F (Same.refl _) R (.bl i)
theorem se_non {j : Nat} : SE X W pin (.Constant .none j pos) (sC .none) := pe_mono pe_non fun σ H Q ⟨b, Fz, F, δ, hp, R, P⟩ => P _ H Fz F (Same.refl _) R .non
theorem se_str {x : Str} {j : Nat} : SE X W pin (.Constant (.str x) j pos) (sC (.str x)) := pe_mono pe_str fun σ H Q ⟨b, Fz, F, δ, hp, R, P⟩ => P _ H Fz F (Same.refl _) R (.str x)
theorem se_globI {x : Str} {i : Int} (hg : Gl X x) (hm : ∃ t, X.mg x = some (.int i t)) (hd : (x == ("__debug__" : Str)) = false := by decide) : SE X W pin (.Name x pos) (sC (.int i)) := by
  obtain ⟨t, hm⟩ := hm
  exact pe_mono (pe_glob hg hm (v := .int i) ⟨t, rfl⟩ hd) fun σ H Q ⟨b, Fz, F, δ, hp, R, P⟩ => P _ H Fz F (Same.refl _) R (.int i)
theorem se_globS {x z : Str} (hg : Gl X x) (hm : ∃ t, X.mg x = some (.str z t)) (hd : (x == ("__debug__" : Str)) = false := by decide) : SE X W pin (.Name x pos) (sC (.str z)) := by
  obtain ⟨t, hm⟩ := hm
  exact pe_mono (pe_glob hg hm (v := .str z) ⟨t, rfl⟩ hd) fun σ H Q ⟨b, Fz, F, δ, hp, R, P⟩ => P _ H Fz F (Same.refl _) R (.str z)
theorem post_var {K : PySem.W.Frag} {mg : Str → Option Value} {b : Bk} {Fz : Hp} {F : Nat → List Addr} {δ : List Sl} {σ : L2.St} {H : Hp} {Q : VK} {i : Nat} (R : Rl K b Fz F δ σ H) (P : Post K mg W b Fz σ Q (sVar i δ)) : ∃ v, σ[i]? = some (some v) ∧ Q v H := by
  unfold sVar at P
  cases q : δ[i]? with
  | none => simp only [q] at P; exact P.elim
  | some s =>
    have h := R.slot i s q
    cases s with
    | no => simp only [q] at P; exact P.elim
    | fz d =>
      simp only [q] at P
      obtain ⟨_, v, e1, e2⟩ := h
      exact ⟨v, join_some e1, P v H Fz F (Same.refl _) R e2⟩
    | ol xs =>
      simp only [q] at P
      obtain ⟨a, vs, g, e1, _⟩ := h
      exact ⟨_, join_some e1, P _ H Fz F (Same.refl _) R (join_some e1)⟩
    | od kvs =>
      simp only [q] at P
      obtain ⟨a, e1, _⟩ := h
      exact ⟨_, join_some e1, P _ H Fz F (Same.refl _) R (join_some e1)⟩
    | al x j =>
      simp only [q] at P
      obtain ⟨_, a, c, vs, _, _, _, e1⟩ := h
      exact ⟨_, join_some e1, P _ H Fz F (Same.refl _) R (join_some e1)⟩
theorem se_var (i : Nat) {x : Str} (hN : X.N[i]? = some x := by rfl) (hv : Vis X.env.scope x := by first | exact Or.inl rfl | exact Or.inr (Or.inl rfl) | exact Or.inr (Or.inr rfl)) (hd : (x == ("__debug__" : Str)) = false := by decide)
    (hcd : (x == ("__classdict__" : Str)) = false := by decide) : SE X W pin (.Name x pos) (sVar i) := pe_mono (pe_var hN hv hd hcd) fun σ H Q ⟨b, Fz, F, δ, hp, R, P⟩ => post_var R P
end

/-! ### two operands -/
def s2 (g : AV → AV → List Sl → Rs AV) (fa fb : List Sl → Rs AV) : List Sl → Rs AV := fun δ => (sSt fa δ).bind fun x δ1 => (sSt fb δ1).bind fun y δ2 => g x y δ2
def s1 (g : AV → List Sl → Rs AV) (fa : List Sl → Rs AV) : List Sl → Rs AV := fun δ => (sSt fa δ).bind fun x δ1 => g x δ1
section
variable (K : PySem.W.Frag) (mg : Str → Option Value) (W : WX) (pin : List Nat)
def V2 (r : R2) (g : AV → AV → List Sl → Rs AV) : Prop := ∀ b Fz F δ σ H v w x y Q, b.pin = pin → Rl K b Fz F δ σ H → AvS K Fz σ v x → AvS K Fz σ w y → Post K mg W b Fz σ Q (g x y δ) → r v w H Q
def V1 (r : V → Hp → VK → Prop) (g : AV → List Sl → Rs AV) : Prop := ∀ b Fz F δ σ H v x Q, b.pin = pin → Rl K b Fz F δ σ H → AvS K Fz σ v x → Post K mg W b Fz σ Q (g x δ) → r v H Q
end
section
variable {X : Cx} {W : WX} {pin : List Nat} {fa fb : List Sl → Rs AV}
theorem sSt_notmp (f : List Sl → Rs AV) (δ : List Sl) (s : Sl) (δ' : List Sl) : sSt f δ ≠ .ok (.tmp s) δ' := by
  unfold sSt
  cases q : f δ with
  | bad => exact fun z => nomatch z
  | er x δ' => exact fun z => nomatch z
  | ok a δ2 =>
    cases a with
    | val d => exact fun z => nomatch z
    | ref i => exact fun z => nomatch z
    | tmp t =>
      cases q2 : t.tree with
      | none => simp only [q2]; exact fun z => nomatch z
      | some d => simp only [q2]; exact fun z => nomatch z
/-- behind one stable operand -/
theorem rd_bind {K : PySem.W.Frag} {mg : Str → Option Value} {σ : L2.St} {H : Hp} {b : Bk} {Fz : Hp} {F : Nat → List Addr} {δ : List Sl} {k : AV → List Sl → Rs AV} {Q R : VK} (hp : b.pin = pin) (Rr : Rl K b Fz F δ σ H) (P : Post K mg W b Fz σ Q ((sSt fa δ).bind k))
    (h : ∀ v H' Fz' F' x δ', Same Fz Fz' → Rl K b Fz' F' δ' σ H' → AvS K Fz' σ v x → Post K mg W b Fz' σ Q (k x δ') → R v H') : rdE K mg W pin (sSt fa) σ H R := by
  refine ⟨b, Fz, F, δ, hp, Rr, ?_⟩
  cases q : sSt fa δ with
  | bad => rw [q] at P; exact P
  | er x δ' => rw [q] at P; exact P
  | ok a δ' =>
    rw [q] at P
    intro v H' Fz' F' s R' A
    cases a with
    | tmp t => exact absurd q (sSt_notmp _ _ _ _)
    | val d => exact h v H' Fz' F' (.val d) δ' s R' A (Post.le s P)
    | ref i => exact h v H' Fz' F' (.ref i) δ' s R' A (Post.le s P)
theorem t2_ok {a c : Expr} {g : AV → AV → List Sl → Rs AV} {r : R2} (hv : V2 X.K X.mg W pin r g) : ∀ σ H Q, rdE X.K X.mg W pin (s2 g fa fb) σ H Q → tOp r (rdE X.K X.mg W pin (sSt fa)) (rdE X.K X.mg W pin (sSt fb)) σ H Q := fun σ H Q ⟨b, Fz, F, δ, hp, R, P⟩ => by
  refine rd_bind hp R P fun v H1 Fz1 F1 x δ1 s1 R1 A1 P1 => ?_
  refine rd_bind hp R1 P1 fun w H2 Fz2 F2 y δ2 s2 R2 A2 P2 => ?_
  exact hv b Fz2 F2 δ2 σ H2 v w x y Q hp R2 (A1.le s2) A2 P2
theorem t1_ok {g : AV → List Sl → Rs AV} {r : V → Hp → VK → Prop} (hv : V1 X.K X.mg W pin r g) : ∀ σ H Q, rdE X.K X.mg W pin (s1 g fa) σ H Q → tUn r (rdE X.K X.mg W pin (sSt fa)) σ H Q := fun σ H Q ⟨b, Fz, F, δ, hp, R, P⟩ => by
  refine rd_bind hp R P fun v H1 Fz1 F1 x δ1 s1 R1 A1 P1 => ?_
  exact hv b Fz1 F1 δ1 σ H1 v x Q hp R1 A1 P1
theorem se_bin {a c : Expr} {op : Operator} {pos : Pos} {g : AV → AV → List Sl → Rs AV} {r : R2} (ho : OpR X (binaryOp op) r) (hv : V2 X.K X.mg W pin r g) (ha : SE X W pin a fa) (hb : SE X W pin c fb) : SE X W pin (.BinOp a op c pos) (s2 g fa fb) :=
  pe_mono (pe_op ho (se_st ha) (se_st hb)) (t2_ok (a := a) (c := c) hv)
theorem se_cmp {a c : Expr} {op : CmpOp} {pos : Pos} {g : AV → AV → List Sl → Rs AV} {r : R2} (ho : OpR X (compareOp op) r) (hv : V2 X.K X.mg W pin r g) (ha : SE X W pin a fa) (hb : SE X W pin c fb) (hm : behindInMarks op c = false) : SE X W pin (.Compare a [op] [c] pos) (s2 g fa fb) :=
  pe_mono (pe_cmpR ho (se_st ha) (se_st hb) hm) (t2_ok (a := a) (c := c) hv)
theorem se_ix {a c : Expr} {pos : Pos} {g : AV → AV → List Sl → Rs AV} {r : R2} (hr : IxR X r) (hv : V2 X.K X.mg W pin r g) (ha : SE X W pin a fa) (hb : SE X W pin c fb) (hs : PlainIx c) : SE X W pin (.Subscript a c pos) (s2 g fa fb) :=
  pe_mono (pe_ix hr (se_st ha) (se_st hb) hs) (t2_ok (a := a) (c := c) hv)
theorem se_un {a : Expr} {op : UnaryOp} {pos : Pos} {g : AV → List Sl → Rs AV} {r : V → Hp → VK → Prop} (ho : UnR X (unaryOp op) r) (hv : V1 X.K X.mg W pin r g) (ha : SE X W pin a fa) : SE X W pin (.UnaryOp op a pos) (s1 g fa) :=
  pe_mono (pe_un ho (se_st ha)) (t1_ok hv)
/-- a test by a comparison -/
def sTst (f : List Sl → Rs AV) : List Sl → Rs Bool := fun δ => (f δ).bind fun a δ' => match a with
  | .val (.bool k) => .ok k δ'
  | _ => .bad
theorem tst_ok {K : PySem.W.Frag} {mg : Str → Option Value} {f : List Sl → Rs AV} : ∀ σ H Q, rdT K mg W pin (sTst f) σ H Q → rdE K mg W pin f σ H (fun x H' => ∃ k, x = .bl k ∧ Q k H') := fun σ H Q ⟨b, Fz, F, δ, hp, R, P⟩ => by
  refine ⟨b, Fz, F, δ, hp, R, ?_⟩
  unfold sTst at P
  cases q : f δ with
  | bad => rw [q] at P; exact P
  | er x δ' => rw [q] at P; exact P
  | ok a δ' =>
    rw [q] at P
    cases a with
    | tmp s => exact P.elim
    | ref i => exact P.elim
    | val d =>
      cases d with
      | bool k =>
        intro v H' Fz' F' s R' A
        cases (show Rp K Fz' v (.bool k) from A)
        exact ⟨k, rfl, P H' Fz' F' s R'⟩
      | _ => exact P.elim
theorem st_cmp {a c : Expr} {op : CmpOp} {pos : Pos} {g : AV → AV → List Sl → Rs AV} {r : R2} (ho : OpR X (compareOp op) r) (hv : V2 X.K X.mg W pin r g) (ha : SE X W pin a fa) (hb : SE X W pin c fb) (hm : behindInMarks op c = false) : ST X W pin (.Compare a [op] [c] pos) (sTst (s2 g fa fb)) :=
  pt_mono (pt_cmpR ho (se_st ha) (se_st hb) hm) fun σ H Q h => t2_ok (a := a) (c := c) hv σ H _ (tst_ok σ H Q h)
/-! ### truth -/
def truD : PyData → Option Bool
  | .none => some false
  | .bool b => some b
  | .int i => some (i != 0)
  | .list ds => some !ds.isEmpty
  | .tuple ds => some !ds.isEmpty
  | _ => none
theorem RpL.isEmpty {K : PySem.W.Frag} {H : Hp} {vs : List V} {ds : List PyData} (h : RpL K H vs ds) : vs.isEmpty = ds.isEmpty := by
  cases h <;> rfl
theorem truD_ok {K : PySem.W.Frag} {H : Hp} {v : V} {d : PyData} {k : Bool} (r : Rp K H v d) (h : truD d = some k) : TruV K v H k := by
  cases r with
  | non => cases h; rfl
  | bl b => cases h; rfl
  | int i => cases h; rfl
  | str x => cases h
  | lst h1 h2 => cases h; exact .inl ⟨_, h1.sq, by rw [h2.isEmpty]⟩
  | tup h1 h2 => cases h; exact .inr (.inl ⟨_, h1, by rw [h2.isEmpty]⟩)
  | dK h1 h2 => cases h
  | dT h1 h2 => cases h
def sTru (f : List Sl → Rs AV) : List Sl → Rs Bool := fun δ => (sSt f δ).bind fun a δ' => match (rdA δ' a).bind truD with
  | some k => .ok k δ'
  | none => .bad
theorem rd_bindT {K : PySem.W.Frag} {mg : Str → Option Value} {σ : L2.St} {H : Hp} {b : Bk} {Fz : Hp} {F : Nat → List Addr} {δ : List Sl} {k : AV → List Sl → Rs Bool} {Q : Bool → Hp → Prop} {R : VK} (hp : b.pin = pin) (Rr : Rl K b Fz F δ σ H) (P : PostT K mg W b Fz σ Q ((sSt fa δ).bind k))
    (h : ∀ v H' Fz' F' x δ', Same Fz Fz' → Rl K b Fz' F' δ' σ H' → AvS K Fz' σ v x → PostT K mg W b Fz' σ Q (k x δ') → R v H') : rdE K mg W pin (sSt fa) σ H R := by
  refine ⟨b, Fz, F, δ, hp, Rr, ?_⟩
  cases q : sSt fa δ with
  | bad => rw [q] at P; exact P
  | er x δ' => rw [q] at P; exact P
  | ok a δ' =>
    rw [q] at P
    intro v H' Fz' F' s R' A
    cases a with
    | tmp t => exact absurd q (sSt_notmp _ _ _ _)
    | val d => exact h v H' Fz' F' (.val d) δ' s R' A (PostT.le s P)
    | ref i => exact h v H' Fz' F' (.ref i) δ' s R' A (PostT.le s P)
theorem tru_mono {K : PySem.W.Frag} {mg : Str → Option Value} : ∀ σ H Q, rdT K mg W pin (sTru fa) σ H Q → rdE K mg W pin (sSt fa) σ H fun x H' => ∃ k, TruV K x H' k ∧ Q k H' := fun σ H Q ⟨b, Fz, F, δ, hp, R, P⟩ => by
  refine rd_bindT hp R P fun v H1 Fz1 F1 x δ1 s1 R1 A1 P1 => ?_
  cases q : rdA δ1 x with
  | none => simp only [q, Option.bind_none] at P1; exact P1.elim
  | some d =>
    cases q2 : truD d with
    | none => simp only [q, Option.bind_some, q2] at P1; exact P1.elim
    | some k =>
      simp only [q, Option.bind_some, q2] at P1
      exact ⟨k, truD_ok (rdA_ok R1 A1 q) q2, P1 H1 Fz1 F1 (Same.refl _) R1⟩
theorem st_tru {a : Expr} (ha : SE X W pin a fa) (he : ∀ whole, isTrue a X.env whole = (do let v ← whole; standAt a.pos; holding [v] (truthy v)) := by intro _; rfl) : ST X W pin a (sTru fa) :=
  pt_mono (pt_truth (se_st ha) he) fun σ H Q h => tru_mono σ H Q h
def sNot (t : List Sl → Rs Bool) : List Sl → Rs Bool := fun δ => (t δ).bind fun k δ' => .ok (!k) δ'
def sAnd (t u : List Sl → Rs Bool) : List Sl → Rs Bool := fun δ => (t δ).bind fun k δ' => if k = true then u δ' else .ok false δ'
def sOr (t u : List Sl → Rs Bool) : List Sl → Rs Bool := fun δ => (t δ).bind fun k δ' => if k = true then .ok true δ' else u δ'
def sIf (t : List Sl → Rs Bool) (f g : List Sl → Rs AV) : List Sl → Rs AV := fun δ => (t δ).bind fun k δ' => if k = true then f δ' else g δ'
/-- a test's value -/
def sVal (t : List Sl → Rs Bool) : List Sl → Rs AV := fun δ => (t δ).bind fun k δ' => .ok (.val (.bool k)) δ'
section
variable {K : PySem.W.Frag} {mg : Str → Option Value} {σ : L2.St} {H : Hp} {b : Bk} {Fz : Hp} {F : Nat → List Addr} {δ : List Sl} {t : List Sl → Rs Bool}
theorem rdT_bind {k : Bool → List Sl → Rs Bool} {Q : Bool → Hp → Prop} {R : Bool → Hp → Prop} (hp : b.pin = pin) (Rr : Rl K b Fz F δ σ H) (P : PostT K mg W b Fz σ Q ((t δ).bind k))
    (h : ∀ c H' Fz' F' δ', Same Fz Fz' → Rl K b Fz' F' δ' σ H' → PostT K mg W b Fz' σ Q (k c δ') → R c H') : rdT K mg W pin t σ H R := by
  refine ⟨b, Fz, F, δ, hp, Rr, ?_⟩
  cases q : t δ with
  | bad => rw [q] at P; exact P
  | er x δ' => rw [q] at P; exact P
  | ok a δ' =>
    rw [q] at P
    exact fun H' Fz' F' s R' => h a H' Fz' F' δ' s R' (PostT.le s P)
theorem rdT_bindE {k : Bool → List Sl → Rs AV} {Q : VK} {R : Bool → Hp → Prop} (hp : b.pin = pin) (Rr : Rl K b Fz F δ σ H) (P : Post K mg W b Fz σ Q ((t δ).bind k))
    (h : ∀ c H' Fz' F' δ', Same Fz Fz' → Rl K b Fz' F' δ' σ H' → Post K mg W b Fz' σ Q (k c δ') → R c H') : rdT K mg W pin t σ H R := by
  refine ⟨b, Fz, F, δ, hp, Rr, ?_⟩
  cases q : t δ with
  | bad => rw [q] at P; exact P
  | er x δ' => rw [q] at P; exact P
  | ok a δ' =>
    rw [q] at P
    exact fun H' Fz' F' s R' => h a H' Fz' F' δ' s R' (Post.le s P)
end
variable {a c d : Expr} {rest : List Expr} {pos : Pos} {t u : List Sl → Rs Bool} {f g : List Sl → Rs AV}
theorem st_not (h : ST X W pin a t) : ST X W pin (.UnaryOp .Not a pos) (sNot t) := pt_mono (pt_not h) fun σ H Q ⟨b, Fz, F, δ, hp, R, P⟩ =>
  rdT_bind hp R P fun c H' Fz' F' δ' s R' P' => P' H' Fz' F' (Same.refl _) R'
abbrev SW (X : Cx) (W : WX) (pin : List Nat) (e : Expr) (f : List Sl → Rs Bool) : Prop := PW X e (rdT X.K X.mg W pin f)
theorem pw_mono {e : Expr} {t t' : TT} (h : PW X e t) (i : ∀ σ H Q, t' σ H Q → t σ H Q) : PW X e t' := ⟨fun wh pins s σ H Q I q => h.run wh pins s σ H Q I (i σ H Q q)⟩
theorem sw_and1 (h : ST X W pin a t) : SW X W pin (.BoolOp .And [a] pos) t := pw_and1 h
theorem sw_or1 (h : ST X W pin a t) : SW X W pin (.BoolOp .Or [a] pos) t := pw_or1 h
theorem sw_and (h : ST X W pin a t) (h2 : SW X W pin (.BoolOp .And (c :: rest) pos) u) : SW X W pin (.BoolOp .And (a :: c :: rest) pos) (sAnd t u) := pw_mono (pw_and h h2) fun σ H Q ⟨b, Fz, F, δ, hp, R, P⟩ =>
  rdT_bind hp R P fun k H' Fz' F' δ' s R' P' => by
    by_cases e : k = true
    · rw [if_pos e] at P' ⊢
      exact ⟨b, Fz', F', δ', hp, R', P'⟩
    · rw [if_neg e] at P' ⊢
      exact P' H' Fz' F' (Same.refl _) R'
theorem sw_or (h : ST X W pin a t) (h2 : SW X W pin (.BoolOp .Or (c :: rest) pos) u) : SW X W pin (.BoolOp .Or (a :: c :: rest) pos) (sOr t u) := pw_mono (pw_or h h2) fun σ H Q ⟨b, Fz, F, δ, hp, R, P⟩ =>
  rdT_bind hp R P fun k H' Fz' F' δ' s R' P' => by
    by_cases e : k = true
    · rw [if_pos e] at P' ⊢
      exact P' H' Fz' F' (Same.refl _) R'
    · rw [if_neg e] at P' ⊢
      exact ⟨b, Fz', F', δ', hp, R', P'⟩
theorem st_w (h : SW X W pin a t) : ST X W pin a t := h.pt
theorem se_if (hc : ST X W pin a t) (ha : SE X W pin c f) (hb : SE X W pin d g) : SE X W pin (.IfExp a c d pos) (sIf t f g) := pe_mono (pe_ifExp hc ha hb) fun σ H Q ⟨b, Fz, F, δ, hp, R, P⟩ =>
  rdT_bindE hp R P fun k H' Fz' F' δ' s R' P' => by
    by_cases e : k = true
    · rw [if_pos e] at P' ⊢
      exact ⟨b, Fz', F', δ', hp, R', P'⟩
    · rw [if_neg e] at P' ⊢
      exact ⟨b, Fz', F', δ', hp, R', P'⟩
/-- and, or, not as values: the value's truth decides -/
def sAndV (f g : List Sl → Rs AV) : List Sl → Rs AV := fun δ => (sSt f δ).bind fun a δ' => match (rdA δ' a).bind truD with
  | some k => if k = true then g δ' else .ok a δ'
  | none => .bad
def sOrV (f g : List Sl → Rs AV) : List Sl → Rs AV := fun δ => (sSt f δ).bind fun a δ' => match (rdA δ' a).bind truD with
  | some k => if k = true then .ok a δ' else g δ'
  | none => .bad
def gNot (a : AV) (δ : List Sl) : Rs AV := match (rdA δ a).bind truD with
  | some k => .ok (.val (.bool !k)) δ
  | none => .bad
theorem se_and (ha : SE X W pin a f) (hb : SE X W pin (.BoolOp .And (c :: rest) pos) g) : SE X W pin (.BoolOp .And (a :: c :: rest) pos) (sAndV f g) := pe_mono (pe_andT (se_st ha) hb) fun σ H Q ⟨b, Fz, F, δ, hp, R, P⟩ =>
  rd_bind hp R P fun v H1 Fz1 F1 x δ1 s1 R1 A1 P1 => by
    cases q : rdA δ1 x with
    | none => simp only [q, Option.bind_none] at P1; exact P1.elim
    | some d =>
      cases q2 : truD d with
      | none => simp only [q, Option.bind_some, q2] at P1; exact P1.elim
      | some k =>
        simp only [q, Option.bind_some, q2] at P1
        refine ⟨k, truD_ok (rdA_ok R1 A1 q) q2, ?_⟩
        by_cases e : k = true
        · rw [if_pos e] at P1 ⊢
          exact ⟨b, Fz1, F1, δ1, hp, R1, P1⟩
        · rw [if_neg e] at P1 ⊢
          exact P1 v H1 Fz1 F1 (Same.refl _) R1 (AvR.of A1)
theorem se_or (ha : SE X W pin a f) (hb : SE X W pin (.BoolOp .Or (c :: rest) pos) g) : SE X W pin (.BoolOp .Or (a :: c :: rest) pos) (sOrV f g) := pe_mono (pe_orT (se_st ha) hb) fun σ H Q ⟨b, Fz, F, δ, hp, R, P⟩ =>
  rd_bind hp R P fun v H1 Fz1 F1 x δ1 s1 R1 A1 P1 => by
    cases q : rdA δ1 x with
    | none => simp only [q, Option.bind_none] at P1; exact P1.elim
    | some d =>
      cases q2 : truD d with
      | none => simp only [q, Option.bind_some, q2] at P1; exact P1.elim
      | some k =>
        simp only [q, Option.bind_some, q2] at P1
        refine ⟨k, truD_ok (rdA_ok R1 A1 q) q2, ?_⟩
        by_cases e : k = true
        · rw [if_pos e] at P1 ⊢
          exact P1 v H1 Fz1 F1 (Same.refl _) R1 (AvR.of A1)
        · rw [if_neg e] at P1 ⊢
          exact ⟨b, Fz1, F1, δ1, hp, R1, P1⟩
theorem se_oneO (ha : SE X W pin a f) : SE X W pin (.BoolOp .Or [a] pos) f := ha_one ha
where ha_one {X : Cx} {W : WX} {pin : List Nat} {a : Expr} {f : List Sl → Rs AV} {pos : Pos} (ha : SE X W pin a f) : SE X W pin (.BoolOp .Or [a] pos) f := pe_one ha
theorem se_oneA (ha : SE X W pin a f) : SE X W pin (.BoolOp .And [a] pos) f := pe_one ha
theorem se_not (ha : SE X W pin a f) : SE X W pin (.UnaryOp .Not a pos) (s1 gNot f) := pe_mono (pe_notT (se_st ha)) fun σ H Q ⟨b, Fz, F, δ, hp, R, P⟩ =>
  rd_bind hp R P fun v H1 Fz1 F1 x δ1 s1 R1 A1 P1 => by
    unfold gNot at P1
    cases q : rdA δ1 x with
    | none => simp only [q, Option.bind_none] at P1; exact P1.elim
    | some d =>
      cases q2 : truD d with
      | none => simp only [q, Option.bind_some, q2] at P1; exact P1.elim
      | some k =>
        simp only [q, Option.bind_some, q2] at P1
        exact ⟨k, truD_ok (rdA_ok R1 A1 q) q2, P1 _ H1 Fz1 F1 (Same.refl _) R1 (.bl _)⟩
end
end Hb

/-! part Hb3 -/
namespace Hb
open PySem PySem.Spec PyProof.Rows L2

abbrev cap : Nat := 1000000
theorem cap_line : cap + cap < sizeLine := by rw [sizeLine_eq]; decide
theorem le_line {n : Nat} (h : n ≤ cap) : n ≤ sizeLine := Nat.le_trans h (by rw [sizeLine_eq]; decide)
theorem lt_line {n : Nat} (h : n ≤ cap) : n < sizeLine := Nat.lt_of_le_of_lt h (by rw [sizeLine_eq]; decide)

/-! ### ints -/
def gI (C : Int → Int → Bool) (g : Int → Int → Int) (x y : AV) (δ : List Sl) : Rs AV := match rdC δ x, rdC δ y with
  | some (.int i), some (.int j) => if C i j = true then .ok (.val (.int (g i j))) δ else .bad
  | _, _ => .bad
def gB (g : Int → Int → Bool) (x y : AV) (δ : List Sl) : Rs AV := match rdC δ x, rdC δ y with
  | some (.int i), some (.int j) => .ok (.val (.bool (g i j))) δ
  | _, _ => .bad
def gNeg (x : AV) (δ : List Sl) : Rs AV := match rdC δ x with
  | some (.int i) => .ok (.val (.int (-i))) δ
  | _ => .bad
theorem rpc_int {K : PySem.W.Frag} {Fz H : Hp} {v : V} {i : Int} (h : RpC K Fz H v (.int i)) : v = .int i := by
  rcases h with h | ⟨a, vs, ds, e1, e2, _⟩
  · cases h; rfl
  · cases e2
theorem rpc_str {K : PySem.W.Frag} {Fz H : Hp} {v : V} {i : Str} (h : RpC K Fz H v (.str i)) : v = .str i := by
  rcases h with h | ⟨a, vs, ds, e1, e2, _⟩
  · cases h; rfl
  · cases e2
theorem rpc_non {K : PySem.W.Frag} {Fz H : Hp} {v : V} (h : RpC K Fz H v .none) : v = .non := by
  rcases h with h | ⟨a, vs, ds, e1, e2, _⟩
  · cases h; rfl
  · cases e2
theorem rpc_bl {K : PySem.W.Frag} {Fz H : Hp} {v : V} {i : Bool} (h : RpC K Fz H v (.bool i)) : v = .bl i := by
  rcases h with h | ⟨a, vs, ds, e1, e2, _⟩
  · cases h; rfl
  · cases e2
section
variable {K : PySem.W.Frag} {mg : Str → Option Value} {W : WX} {pin : List Nat}
theorem v2_i {C : Int → Int → Bool} {C' : Int → Int → Prop} {g : Int → Int → Int} (hC : ∀ i j, C i j = true → C' i j) : V2 K mg W pin (rI C' fun i j => .int (g i j)) (gI C g) := by
  intro b Fz F δ σ H v w x y Q hp R A B P
  unfold gI at P
  cases q1 : rdC δ x with
  | none => simp only [q1] at P; exact P.elim
  | some d =>
    cases q2 : rdC δ y with
    | none => cases d <;> (simp only [q1, q2] at P; exact P.elim)
    | some e =>
      cases d with
      | int i =>
        cases e with
        | int j =>
          simp only [q1, q2] at P
          by_cases c : C i j = true
          · rw [if_pos c] at P
            exact ⟨i, j, rpc_int (rdC_ok R A q1), rpc_int (rdC_ok R B q2), hC i j c, P _ H Fz F (Same.refl _) R (.int _)⟩
          · rw [if_neg c] at P
            exact P.elim
        | _ => simp only [q1, q2] at P; exact P.elim
      | _ => simp only [q1, q2] at P; exact P.elim
theorem v2_i0 {C : Int → Int → Bool} {g : Int → Int → Int} : V2 K mg W pin (rI0 fun i j => .int (g i j)) (gI C g) := by
  intro b Fz F δ σ H v w x y Q hp R A B P
  obtain ⟨i, j, h1, h2, _, q⟩ := v2_i (K := K) (mg := mg) (W := W) (C' := fun _ _ => True) (fun _ _ _ => trivial) b Fz F δ σ H v w x y Q hp R A B P
  exact ⟨i, j, h1, h2, q⟩
theorem v2_b {g : Int → Int → Bool} : V2 K mg W pin (rI0 fun i j => .bl (g i j)) (gB g) := by
  intro b Fz F δ σ H v w x y Q hp R A B P
  unfold gB at P
  cases q1 : rdC δ x with
  | none => simp only [q1] at P; exact P.elim
  | some d =>
    cases q2 : rdC δ y with
    | none => cases d <;> (simp only [q1, q2] at P; exact P.elim)
    | some e =>
      cases d with
      | int i =>
        cases e with
        | int j =>
          simp only [q1, q2] at P
          exact ⟨i, j, rpc_int (rdC_ok R A q1), rpc_int (rdC_ok R B q2), P _ H Fz F (Same.refl _) R (.bl _)⟩
        | _ => simp only [q1, q2] at P; exact P.elim
      | _ => simp only [q1, q2] at P; exact P.elim
theorem v1_neg : V1 K mg W pin (rU fun i => .int (-i)) gNeg := by
  intro b Fz F δ σ H v x Q hp R A P
  unfold gNeg at P
  cases q1 : rdC δ x with
  | none => simp only [q1] at P; exact P.elim
  | some d =>
    cases d with
    | int i =>
      simp only [q1] at P
      exact ⟨i, rpc_int (rdC_ok R A q1), P _ H Fz F (Same.refl _) R (.int _)⟩
    | _ => simp only [q1] at P; exact P.elim
end
def yes2 : Int → Int → Bool := fun _ _ => true
abbrev gSub := gI yes2 (· - ·)
abbrev gFdiv := gI (fun _ j => decide (0 < j ∧ j < 1073741824)) (· / ·)
abbrev gMod := gI (fun _ j => decide (0 < j)) (· % ·)
abbrev gPow := gI (fun i j => decide (0 ≤ j ∧ j ≤ 1000000 ∧ i.natAbs < 2 ^ 64)) (fun i j => i ^ j.toNat)
abbrev gShl := gI (fun i j => decide (0 ≤ j ∧ j ≤ 1000000 ∧ i.natAbs < 2 ^ 64)) (fun i j => i * 2 ^ j.toNat)
abbrev gShr := gI (fun _ j => decide (0 ≤ j)) (fun i j => i / 2 ^ j.toNat)
abbrev gAnd := gI yes2 Builtin.bitAnd
abbrev gOr := gI yes2 Builtin.bitOr
abbrev gXor := gI yes2 Builtin.bitXor
abbrev gLt := gB fun i j => decide (i < j)
abbrev gLe := gB fun i j => decide (i ≤ j)
abbrev gGt := gB fun i j => decide (j < i)
abbrev gGe := gB fun i j => decide (j ≤ i)

section
variable {X : Cx} {W : WX} {pin : List Nat} {fa fb : List Sl → Rs AV} {a c : Expr} {pos : Pos}
theorem se_sub (ha : SE X W pin a fa) (hb : SE X W pin c fb) : SE X W pin (.BinOp a .Sub c pos) (s2 gSub fa fb) := se_bin op_sub v2_i0 ha hb
theorem se_fdiv (ha : SE X W pin a fa) (hb : SE X W pin c fb) : SE X W pin (.BinOp a .FloorDiv c pos) (s2 gFdiv fa fb) := se_bin op_fdiv (v2_i fun i j h => (of_decide_eq_true h : 0 < j ∧ j < 1073741824)) ha hb
theorem se_mod (ha : SE X W pin a fa) (hb : SE X W pin c fb) : SE X W pin (.BinOp a .Mod c pos) (s2 gMod fa fb) := se_bin op_mod (v2_i fun _ _ h => of_decide_eq_true h) ha hb
theorem se_pow (ha : SE X W pin a fa) (hb : SE X W pin c fb) : SE X W pin (.BinOp a .Pow c pos) (s2 gPow fa fb) := se_bin op_pow (v2_i fun i j h => (of_decide_eq_true h : 0 ≤ j ∧ j ≤ 1000000 ∧ i.natAbs < 2 ^ 64)) ha hb
theorem se_shl (ha : SE X W pin a fa) (hb : SE X W pin c fb) : SE X W pin (.BinOp a .LShift c pos) (s2 gShl fa fb) := se_bin op_shl (v2_i fun i j h => (of_decide_eq_true h : 0 ≤ j ∧ j ≤ 1000000 ∧ i.natAbs < 2 ^ 64)) ha hb
theorem se_shr (ha : SE X W pin a fa) (hb : SE X W pin c fb) : SE X W pin (.BinOp a .RShift c pos) (s2 gShr fa fb) := se_bin op_shr (v2_i fun _ _ h => of_decide_eq_true h) ha hb
theorem se_band (ha : SE X W pin a fa) (hb : SE X W pin c fb) : SE X W pin (.BinOp a .BitAnd c pos) (s2 gAnd fa fb) := se_bin op_and v2_i0 ha hb
theorem se_bor (ha : SE X W pin a fa) (hb : SE X W pin c fb) : SE X W pin (.BinOp a .BitOr c pos) (s2 gOr fa fb) := se_bin op_or v2_i0 ha hb
theorem se_bxor (ha : SE X W pin a fa) (hb : SE X W pin c fb) : SE X W pin (.BinOp a .BitXor c pos) (s2 gXor fa fb) := se_bin op_xor v2_i0 ha hb
theorem se_neg (ha : SE X W pin a fa) : SE X W pin (.UnaryOp .USub a pos) (s1 gNeg fa) := se_un un_neg v1_neg ha
theorem se_lt (ha : SE X W pin a fa) (hb : SE X W pin c fb) : SE X W pin (.Compare a [.Lt] [c] pos) (s2 gLt fa fb) := se_cmp op_lt v2_b ha hb (nomark _)
theorem se_le (ha : SE X W pin a fa) (hb : SE X W pin c fb) : SE X W pin (.Compare a [.LtE] [c] pos) (s2 gLe fa fb) := se_cmp op_le v2_b ha hb (nomark _)
theorem se_gt (ha : SE X W pin a fa) (hb : SE X W pin c fb) : SE X W pin (.Compare a [.Gt] [c] pos) (s2 gGt fa fb) := se_cmp op_gt v2_b ha hb (nomark _)
theorem se_ge (ha : SE X W pin a fa) (hb : SE X W pin c fb) : SE X W pin (.Compare a [.GtE] [c] pos) (s2 gGe fa fb) := se_cmp op_ge v2_b ha hb (nomark _)
theorem st_lt (ha : SE X W pin a fa) (hb : SE X W pin c fb) : ST X W pin (.Compare a [.Lt] [c] pos) (sTst (s2 gLt fa fb)) := st_cmp op_lt v2_b ha hb (nomark _)
theorem st_le (ha : SE X W pin a fa) (hb : SE X W pin c fb) : ST X W pin (.Compare a [.LtE] [c] pos) (sTst (s2 gLe fa fb)) := st_cmp op_le v2_b ha hb (nomark _)
theorem st_gt (ha : SE X W pin a fa) (hb : SE X W pin c fb) : ST X W pin (.Compare a [.Gt] [c] pos) (sTst (s2 gGt fa fb)) := st_cmp op_gt v2_b ha hb (nomark _)
theorem st_ge (ha : SE X W pin a fa) (hb : SE X W pin c fb) : ST X W pin (.Compare a [.GtE] [c] pos) (sTst (s2 gGe fa fb)) := st_cmp op_ge v2_b ha hb (nomark _)
end

/-! ### + and * of more kinds -/
def rCatX (K : PySem.W.Frag) : R2 := fun x y H Q => ∃ l b xs zs, x = .ref l ∧ y = .ref b ∧ SqX K H l xs ∧ SqX K H b zs ∧ xs.length + zs.length ≤ sizeLine ∧ ∀ p, H p = none → Q (.ref p) (upd H p (.lst (xs ++ zs)))
theorem op_catX {X : Cx} : OpR X (binaryOp .Add) (rCatX X.K) := by
  intro pins s σ H x y v u Q I rx ry h
  obtain ⟨l, b, xs, zs, e1, e2, hX, hZ, hz, q⟩ := h
  subst e1 e2
  cases rx
  cases ry
  obtain ⟨i1, n1, r1, g1, z1⟩ := inv_lstX I hX
  obtain ⟨i2, n2, r2, g2, z2⟩ := inv_lstX I hZ
  have l1 := r1.length
  have l2 := r2.length
  refine PySem.P.add_list g1 g2 ?_ (by rw [List.size_toArray, List.size_toArray, ← l1, ← l2]; exact hz)
  rw [show i1.toArray ++ i2.toArray = (i1 ++ i2).toArray by simp]
  exact ⟨.ref _, _, I.lnew (t' := s.toks) (r1.append r2) (by rw [List.length_append]; exact hz), rfl, q _ I.fresh⟩
def rStrCat : R2 := fun x y H Q => ∃ i j, x = .str i ∧ y = .str j ∧ i.length + j.length ≤ sizeLine ∧ Q (.str (i ++ j)) H
def rAddU (K : PySem.W.Frag) : R2 := fun x y H Q => ((rI0 (fun i j => .int (i + j)) x y H Q ∨ rCatX K x y H Q) ∨ rStrCat x y H Q) ∨ rCatA K x y H Q
theorem op_addU {X : Cx} : OpR X (binaryOp .Add) (rAddU X.K) := OpR.or (OpR.or (OpR.or op_add op_catX) op_add_str) op_catA
def gAdd (x y : AV) (δ : List Sl) : Rs AV := match rdC δ x, rdC δ y with
  | some (.int i), some (.int j) => .ok (.val (.int (i + j))) δ
  | some (.list ds), some (.list es) => if ds.length ≤ cap ∧ es.length ≤ cap then .ok (.tmp (.ol ((ds ++ es).map .fz))) δ else .bad
  | some (.str s), some (.str t) => if s.length ≤ cap ∧ t.length ≤ cap then .ok (.val (.str (s ++ t))) δ else .bad
  | some (.tuple ds), some (.tuple es) => if ds.length ≤ cap ∧ es.length ≤ cap then .ok (.val (.tuple (ds ++ es))) δ else .bad
  | _, _ => .bad
section
variable {K : PySem.W.Frag} {mg : Str → Option Value} {W : WX} {pin : List Nat}
theorem v2_add : V2 K mg W pin (rAddU K) gAdd := by
  intro b Fz F δ σ H v w x y Q hp R A B P
  unfold gAdd at P
  cases q1 : rdC δ x with
  | none => simp only [q1] at P; exact P.elim
  | some d =>
    cases q2 : rdC δ y with
    | none => cases d <;> (simp only [q1, q2] at P; exact P.elim)
    | some e =>
      have h1 := rdC_ok R A q1
      have h2 := rdC_ok R B q2
      have cl := cap_line
      cases d with
      | int i =>
        cases e with
        | int j =>
          simp only [q1, q2] at P
          exact .inl (.inl (.inl ⟨i, j, rpc_int h1, rpc_int h2, P _ H Fz F (Same.refl _) R (.int _)⟩))
        | _ => simp only [q1, q2] at P; exact P.elim
      | str i =>
        cases e with
        | str j =>
          simp only [q1, q2] at P
          by_cases c : i.length ≤ cap ∧ j.length ≤ cap
          · rw [if_pos c] at P
            exact .inl (.inr ⟨i, j, rpc_str h1, rpc_str h2, by omega, P _ H Fz F (Same.refl _) R (.str _)⟩)
          · rw [if_neg c] at P; exact P.elim
        | _ => simp only [q1, q2] at P; exact P.elim
      | list ds =>
        cases e with
        | list es =>
          simp only [q1, q2] at P
          by_cases c : ds.length ≤ cap ∧ es.length ≤ cap
          · rw [if_pos c] at P
            obtain ⟨a1, v1, e1, s1, r1⟩ := h1.list R.le
            obtain ⟨a2, v2, e2, s2, r2⟩ := h2.list R.le
            have l1 := r1.len
            have l2 := r2.len
            exact .inl (.inl (.inr ⟨a1, a2, v1, v2, e1, e2, s1, s2, by omega, post_newL R (r1.append r2) P⟩))
          · rw [if_neg c] at P; exact P.elim
        | _ => simp only [q1, q2] at P; exact P.elim
      | tuple ds =>
        cases e with
        | tuple es =>
          simp only [q1, q2] at P
          by_cases c : ds.length ≤ cap ∧ es.length ≤ cap
          · rw [if_pos c] at P
            have k1 : Rp K Fz v (.tuple ds) := by
              rcases h1 with h | ⟨_, _, _, _, e2, _⟩
              · exact h
              · cases e2
            have k2 : Rp K Fz w (.tuple es) := by
              rcases h2 with h | ⟨_, _, _, _, e2, _⟩
              · exact h
              · cases e2
            obtain ⟨a1, v1, e1, s1, r1⟩ := h1.tup R.le
            obtain ⟨a2, v2, e2, s2, r2⟩ := h2.tup R.le
            have l1 := r1.len
            have l2 := r2.len
            refine .inr ⟨a1, a2, v1, v2, e1, e2, s1, s2, by omega, fun z => ?_, fun _ z => ?_, fun _ _ => post_newT R (r1.append r2) P⟩
            · subst z
              cases r1
              rw [← e2]
              exact P w H Fz F (Same.refl _) R k2
            · subst z
              cases r2
              rw [← e1]
              rw [List.append_nil] at P
              exact P v H Fz F (Same.refl _) R k1
          · rw [if_neg c] at P; exact P.elim
        | _ => simp only [q1, q2] at P; exact P.elim
      | _ => simp only [q1, q2] at P; exact P.elim
end
theorem se_add {X : Cx} {W : WX} {pin : List Nat} {fa fb : List Sl → Rs AV} {a c : Expr} {pos : Pos} (ha : SE X W pin a fa) (hb : SE X W pin c fb) : SE X W pin (.BinOp a .Add c pos) (s2 gAdd fa fb) := se_bin op_addU v2_add ha hb
def rMulU (K : PySem.W.Frag) : R2 := fun x y H Q => rI CMul (fun i j => .int (i * j)) x y H Q ∨ rI CMulW (fun i j => .int (i * j)) x y H Q
def gMul (x y : AV) (δ : List Sl) : Rs AV := match rdC δ x, rdC δ y with
  | some (.int i), some (.int j) => if i.natAbs < 2 ^ 64 ∨ j.natAbs < 2 ^ 64 then .ok (.val (.int (i * j))) δ else .bad
  | some (.list ds), some (.int k) => if ds.length ≤ 1000 ∧ k ≤ 1000 then .ok (.tmp (.ol ((List.replicate k.toNat ds).flatten.map .fz))) δ else .bad
  | _, _ => .bad

/-! ### == and != of data -/
mutual
theorem Rp.dp {K : PySem.W.Frag} {H : Hp} : ∀ {v : V} {d : PyData}, Rp K H v d → d.canLay0 = true → Dp K H v d
  | _, _, .non, _ => .non
  | _, _, .bl b, _ => .bl b
  | _, _, .int i, _ => .int i
  | _, _, .str x, _ => .str x
  | _, _, .lst (ds := ds) h1 h2, c => .lst h1.sq (RpL.dp h2 (by rw [PyData.canLay0] at c; exact c))
  | _, _, .tup (ds := ds) h1 h2, c => .tup h1 (RpL.dp h2 (by rw [PyData.canLay0] at c; exact c))
  | _, _, .dK h1 h2, c => by rw [PyData.canLay0] at c; cases c
  | _, _, .dT h1 h2, c => by rw [PyData.canLay0] at c; cases c
theorem RpL.dp {K : PySem.W.Frag} {H : Hp} : ∀ {vs : List V} {ds : List PyData}, RpL K H vs ds → PyData.canLayAll0 ds = true → DpAll K H vs ds
  | _, _, .nil, _ => .nil
  | _, _, .cons h t, c => by
    rw [PyData.canLayAll0, Bool.and_eq_true] at c
    exact .cons (Rp.dp h c.1) (RpL.dp t c.2)
end
theorem rp_dp {K : PySem.W.Frag} {H : Hp} {v : V} {d : PyData} (h : Rp K H v d) (c : SeqAt.shaped d = true) : Dp K H v d := h.dp (SeqAt.canLay_of_shaped c)
def eqD (d e : PyData) : Option Bool := if SeqAt.shaped d = true ∧ SeqAt.shaped e = true then some (PyData.eqv d e) else none
def gEq (x y : AV) (δ : List Sl) : Rs AV := match rdA δ x, rdA δ y with
  | some d, some e => (match eqD d e with
    | some k => .ok (.val (.bool k)) δ
    | none => .bad)
  | _, _ => .bad
def gNe (x y : AV) (δ : List Sl) : Rs AV := match rdA δ x, rdA δ y with
  | some d, some e => (match eqD d e with
    | some k => .ok (.val (.bool !k)) δ
    | none => .bad)
  | _, _ => .bad
section
variable {K : PySem.W.Frag} {mg : Str → Option Value} {W : WX} {pin : List Nat}
theorem v2_eq : V2 K mg W pin (rEqD K) gEq := by
  intro b Fz F δ σ H v w x y Q hp R A B P
  unfold gEq at P
  cases q1 : rdA δ x with
  | none => simp only [q1] at P; exact P.elim
  | some d =>
    cases q2 : rdA δ y with
    | none => simp only [q1, q2] at P; exact P.elim
    | some e =>
      simp only [q1, q2, eqD] at P
      by_cases c : SeqAt.shaped d = true ∧ SeqAt.shaped e = true
      · simp only [if_pos c] at P
        exact ⟨d, e, rp_dp (rdA_ok R A q1) c.1, rp_dp (rdA_ok R B q2) c.2, c.1, c.2, P _ H Fz F (Same.refl _) R (.bl _)⟩
      · simp only [if_neg c] at P
        exact P.elim
theorem v2_ne : V2 K mg W pin (rNeD K) gNe := by
  intro b Fz F δ σ H v w x y Q hp R A B P
  unfold gNe at P
  cases q1 : rdA δ x with
  | none => simp only [q1] at P; exact P.elim
  | some d =>
    cases q2 : rdA δ y with
    | none => simp only [q1, q2] at P; exact P.elim
    | some e =>
      simp only [q1, q2, eqD] at P
      by_cases c : SeqAt.shaped d = true ∧ SeqAt.shaped e = true
      · simp only [if_pos c] at P
        exact ⟨d, e, rp_dp (rdA_ok R A q1) c.1, rp_dp (rdA_ok R B q2) c.2, c.1, c.2, P _ H Fz F (Same.refl _) R (.bl _)⟩
      · simp only [if_neg c] at P
        exact P.elim
end
/-! ### in, not in -/
def flatD : PyData → Bool
  | .none | .bool _ | .int _ | .str _ => true
  | _ => false
theorem flatD_V {K : PySem.W.Frag} {H : Hp} {v : V} {d : PyData} (h : Rp K H v d) (f : flatD d = true) : flatV v = true := by
  cases h <;> first | rfl | cases f
theorem eqV_D {K : PySem.W.Frag} {H : Hp} {v w : V} {d e : PyData} (h : Rp K H v d) (h2 : Rp K H w e) (f : flatD d = true) (f2 : flatD e = true) : eqV v w = PyData.eqv d e := by
  cases h <;> first | (exact absurd f Bool.false_ne_true) | (cases h2 <;> first | (exact absurd f2 Bool.false_ne_true) | rfl | (simp only [eqV, PyData.eqv]))
theorem flatAll {K : PySem.W.Frag} {H : Hp} : ∀ {vs : List V} {ds : List PyData}, RpL K H vs ds → ds.all flatD = true → vs.all flatV = true
  | _, _, .nil, _ => rfl
  | _, _, .cons h t, f => by
    rw [List.all_cons, Bool.and_eq_true] at f ⊢
    exact ⟨flatD_V h f.1, flatAll t f.2⟩
theorem inV_D {K : PySem.W.Frag} {H : Hp} {v : V} {d : PyData} (h : Rp K H v d) (f : flatD d = true) : ∀ {vs : List V} {ds : List PyData}, RpL K H vs ds → ds.all flatD = true → inV v vs = ds.any fun z => PyData.eqv z d
  | _, _, .nil, _ => rfl
  | _, _, .cons h2 t, f2 => by
    rw [List.all_cons, Bool.and_eq_true] at f2
    unfold inV
    rw [List.any_cons, List.any_cons, eqV_D h2 h f2.1 f]
    exact congrArg (_ || ·) (inV_D h f t f2.2)
def inD (d : PyData) : PyData → Option Bool
  | .list ds => if SeqAt.shaped d = true ∧ SeqAt.shaped (.list ds) = true then some (ds.any fun z => PyData.eqv z d) else none
  | .tuple ds => if flatD d = true ∧ ds.all flatD = true then some (ds.any fun z => PyData.eqv z d) else none
  | _ => none
def rInU (K : PySem.W.Frag) (n : Bool) : R2 := fun x y H Q => (if n = true then rNotInD K x y H Q else rInD K x y H Q) ∨ rIn K n x y H Q
theorem op_inU {X : Cx} (hu : X.A.units + 65 < cLine) : OpR X (compareOp .In) (rInU X.K false) := OpR.or (op_inD hu) op_in_seq
theorem op_notInU {X : Cx} (hu : X.A.units + 65 < cLine) : OpR X (compareOp .NotIn) (rInU X.K true) := OpR.or (op_notInD hu) op_notIn_seq
def gIn (n : Bool) (x y : AV) (δ : List Sl) : Rs AV := match rdA δ x, rdA δ y with
  | some d, some e => (match inD d e with
    | some k => .ok (.val (.bool (if n = true then !k else k))) δ
    | none => .bad)
  | _, _ => .bad
theorem v2_in {K : PySem.W.Frag} {mg : Str → Option Value} {W : WX} {pin : List Nat} {n : Bool} : V2 K mg W pin (rInU K n) (gIn n) := by
  intro b Fz F δ σ H v w x y Q hp R A B P
  unfold gIn at P
  cases q1 : rdA δ x with
  | none => simp only [q1] at P; exact P.elim
  | some d =>
    cases q2 : rdA δ y with
    | none => simp only [q1, q2] at P; exact P.elim
    | some e =>
      simp only [q1, q2] at P
      have h1 := rdA_ok R A q1
      have h2 := rdA_ok R B q2
      cases e with
      | list ds =>
        unfold inD at P
        by_cases c : SeqAt.shaped d = true ∧ SeqAt.shaped (.list ds) = true
        · simp only [if_pos c] at P
          refine .inl ?_
          have q := P (.bl (if n = true then !(ds.any fun z => PyData.eqv z d) else ds.any fun z => PyData.eqv z d)) H Fz F (Same.refl _) R (.bl _)
          cases n with
          | true => exact ⟨d, ds, rp_dp h1 c.1, rp_dp h2 c.2, c.1, c.2, q⟩
          | false => exact ⟨d, ds, rp_dp h1 c.1, rp_dp h2 c.2, c.1, c.2, q⟩
        · simp only [if_neg c] at P
          exact P.elim
      | tuple ds =>
        unfold inD at P
        by_cases c : flatD d = true ∧ ds.all flatD = true
        · simp only [if_pos c] at P
          have q := P (.bl (if n = true then !(ds.any fun z => PyData.eqv z d) else ds.any fun z => PyData.eqv z d)) H Fz F (Same.refl _) R (.bl _)
          cases h2 with
          | tup s1 s2 =>
            refine .inr ⟨_, _, rfl, .inr s1, flatD_V h1 c.1, flatAll s2 c.2, ?_⟩
            rw [inV_D h1 c.1 s2 c.2]
            exact q
        · simp only [if_neg c] at P
          exact P.elim
      | _ => exact P.elim
/-! ### is -/
def rIsU : R2 := fun x y H Q => (y = .non ∧ Q (.bl (decide (x = .non))) H) ∨ rIsB x y H Q
def rIsNU : R2 := fun x y H Q => (y = .non ∧ Q (.bl (!decide (x = .non))) H) ∨ rNotB x y H Q
theorem op_isU {X : Cx} : OpR X (compareOp .Is) rIsU := OpR.or op_isN op_isBl
theorem op_isnU {X : Cx} : OpR X (compareOp .IsNot) rIsNU := OpR.or op_notN op_notBl
def isD : PyData → PyData → Option Bool
  | .none, .none => some true
  | _, .none => some false
  | .bool a, .bool b => some (a == b)
  | _, _ => none
def gIs (n : Bool) (x y : AV) (δ : List Sl) : Rs AV := match rdA δ x, rdA δ y with
  | some d, some e => (match isD d e with
    | some k => .ok (.val (.bool (if n = true then !k else k))) δ
    | none => .bad)
  | _, _ => .bad
theorem isD_ok {K : PySem.W.Frag} {H : Hp} {v w : V} {d e : PyData} {k : Bool} (h : Rp K H v d) (h2 : Rp K H w e) (i : isD d e = some k) : (w = .non ∧ k = decide (v = .non)) ∨ ∃ a c : Bool, v = .bl a ∧ w = .bl c ∧ k = decide (a = c) := by
  cases h2 with
  | non =>
    refine .inl ⟨rfl, ?_⟩
    cases h <;> (simp only [isD, Option.some.injEq] at i; subst i; simp)
  | bl c =>
    cases h with
    | bl a =>
      simp only [isD, Option.some.injEq] at i
      subst i
      refine .inr ⟨a, c, rfl, rfl, ?_⟩
      cases a <;> cases c <;> rfl
    | _ => simp [isD] at i
  | _ => cases h <;> simp [isD] at i
theorem v2_is {K : PySem.W.Frag} {mg : Str → Option Value} {W : WX} {pin : List Nat} : V2 K mg W pin rIsU (gIs false) := by
  intro b Fz F δ σ H v w x y Q hp R A B P
  unfold gIs at P
  cases q1 : rdA δ x with
  | none => simp only [q1] at P; exact P.elim
  | some d =>
    cases q2 : rdA δ y with
    | none => simp only [q1, q2] at P; exact P.elim
    | some e =>
      cases q3 : isD d e with
      | none => simp only [q1, q2, q3] at P; exact P.elim
      | some k =>
        simp only [q1, q2, q3] at P
        have q := P (.bl k) H Fz F (Same.refl _) R (.bl _)
        rcases isD_ok (rdA_ok R A q1) (rdA_ok R B q2) q3 with ⟨e1, e2⟩ | ⟨a, c, e1, e2, e3⟩
        · subst e2
          exact .inl ⟨e1, q⟩
        · subst e3
          exact .inr ⟨a, c, e1, e2, q⟩
theorem v2_isn {K : PySem.W.Frag} {mg : Str → Option Value} {W : WX} {pin : List Nat} : V2 K mg W pin rIsNU (gIs true) := by
  intro b Fz F δ σ H v w x y Q hp R A B P
  unfold gIs at P
  cases q1 : rdA δ x with
  | none => simp only [q1] at P; exact P.elim
  | some d =>
    cases q2 : rdA δ y with
    | none => simp only [q1, q2] at P; exact P.elim
    | some e =>
      cases q3 : isD d e with
      | none => simp only [q1, q2, q3] at P; exact P.elim
      | some k =>
        simp only [q1, q2, q3] at P
        have q := P (.bl (!k)) H Fz F (Same.refl _) R (.bl _)
        rcases isD_ok (rdA_ok R A q1) (rdA_ok R B q2) q3 with ⟨e1, e2⟩ | ⟨a, c, e1, e2, e3⟩
        · subst e2
          exact .inl ⟨e1, q⟩
        · subst e3
          exact .inr ⟨a, c, e1, e2, q⟩
section
variable {X : Cx} {W : WX} {pin : List Nat} {fa fb : List Sl → Rs AV} {a c : Expr} {pos : Pos}
theorem se_eq (hu : X.A.units + 64 < cLine) (ha : SE X W pin a fa) (hb : SE X W pin c fb) : SE X W pin (.Compare a [.Eq] [c] pos) (s2 gEq fa fb) := se_cmp (op_eqD hu) v2_eq ha hb (nomark _)
theorem se_ne (hu : X.A.units + 64 < cLine) (ha : SE X W pin a fa) (hb : SE X W pin c fb) : SE X W pin (.Compare a [.NotEq] [c] pos) (s2 gNe fa fb) := se_cmp (op_neD hu) v2_ne ha hb (nomark _)
theorem st_eq (hu : X.A.units + 64 < cLine) (ha : SE X W pin a fa) (hb : SE X W pin c fb) : ST X W pin (.Compare a [.Eq] [c] pos) (sTst (s2 gEq fa fb)) := st_cmp (op_eqD hu) v2_eq ha hb (nomark _)
theorem st_ne (hu : X.A.units + 64 < cLine) (ha : SE X W pin a fa) (hb : SE X W pin c fb) : ST X W pin (.Compare a [.NotEq] [c] pos) (sTst (s2 gNe fa fb)) := st_cmp (op_neD hu) v2_ne ha hb (nomark _)
theorem se_in (hu : X.A.units + 65 < cLine) (ha : SE X W pin a fa) (hb : SE X W pin c fb) (hm : behindInMarks .In c = false := by with_unfolding_all rfl) : SE X W pin (.Compare a [.In] [c] pos) (s2 (gIn false) fa fb) := se_cmp (op_inU hu) v2_in ha hb hm
theorem se_nin (hu : X.A.units + 65 < cLine) (ha : SE X W pin a fa) (hb : SE X W pin c fb) (hm : behindInMarks .NotIn c = false := by with_unfolding_all rfl) : SE X W pin (.Compare a [.NotIn] [c] pos) (s2 (gIn true) fa fb) := se_cmp (op_notInU hu) v2_in ha hb hm
theorem st_in (hu : X.A.units + 65 < cLine) (ha : SE X W pin a fa) (hb : SE X W pin c fb) (hm : behindInMarks .In c = false := by with_unfolding_all rfl) : ST X W pin (.Compare a [.In] [c] pos) (sTst (s2 (gIn false) fa fb)) := st_cmp (op_inU hu) v2_in ha hb hm
theorem st_nin (hu : X.A.units + 65 < cLine) (ha : SE X W pin a fa) (hb : SE X W pin c fb) (hm : behindInMarks .NotIn c = false := by with_unfolding_all rfl) : ST X W pin (.Compare a [.NotIn] [c] pos) (sTst (s2 (gIn true) fa fb)) := st_cmp (op_notInU hu) v2_in ha hb hm
theorem se_is (ha : SE X W pin a fa) (hb : SE X W pin c fb) : SE X W pin (.Compare a [.Is] [c] pos) (s2 (gIs false) fa fb) := se_cmp op_isU v2_is ha hb (nomark _)
theorem se_isn (ha : SE X W pin a fa) (hb : SE X W pin c fb) : SE X W pin (.Compare a [.IsNot] [c] pos) (s2 (gIs true) fa fb) := se_cmp op_isnU v2_isn ha hb (nomark _)
theorem st_is (ha : SE X W pin a fa) (hb : SE X W pin c fb) : ST X W pin (.Compare a [.Is] [c] pos) (sTst (s2 (gIs false) fa fb)) := st_cmp op_isU v2_is ha hb (nomark _)
theorem st_isn (ha : SE X W pin a fa) (hb : SE X W pin c fb) : ST X W pin (.Compare a [.IsNot] [c] pos) (sTst (s2 (gIs true) fa fb)) := st_cmp op_isnU v2_isn ha hb (nomark _)
end

/-! ### subscripts -/
/-- the item at a place, a tree that stands still -/
def itemD : PyData → PyData → Option PyData
  | .list ds, .int i => atI ds i
  | .tuple ds, .int i => atI ds i
  | _, _ => none
def El.fzd : El → Option PyData
  | .fz d => some d
  | .ow _ => none
def itemA (δ : List Sl) (x : AV) (i : PyData) : Option PyData := match x with
  | .val d => itemD d i
  | .ref k => match δ[k]? with
    | some (.fz d) => itemD d i
    | some (.ol xs) => (match i with
      | .int i => (atI xs i).bind El.fzd
      | _ => none)
    | some (.al x j) => (match δ[x]? with
      | some (.ol xs) => (match xs[j]? with
        | some (.ow ys) => itemD (.list ys) i
        | some (.fz d) => itemD d i
        | none => none)
      | _ => none)
    | _ => none
  | .tmp _ => none
def gIx (x y : AV) (δ : List Sl) : Rs AV := match rdC δ y with
  | some i => (match itemA δ x i with
    | some d => .ok (.val d) δ
    | none => .bad)
  | none => .bad
theorem atI_map {α β : Type} {f : α → β} {xs : List α} {i : Int} : atI (xs.map f) i = (atI xs i).map f := by
  unfold atI
  rw [List.length_map]
  cases ixN xs.length i with
  | none => rfl
  | some j => simp
theorem rpl_at {K : PySem.W.Frag} {H : Hp} {vs : List V} {ds : List PyData} {i : Int} {d : PyData} (h : RpL K H vs ds) (e : atI ds i = some d) : ∃ v, atI vs i = some v ∧ Rp K H v d := by
  unfold atI at e ⊢
  rw [h.len]
  cases q : ixN ds.length i with
  | none => rw [q] at e; cases e
  | some j =>
    rw [q] at e
    exact h.get e
def rIxU (K : PySem.W.Frag) : R2 := fun x y H Q => rIxL K x y H Q ∨ rIxT K x y H Q
theorem ix_U {X : Cx} : IxR X (rIxU X.K) := IxR.or ix_list ix_tup
theorem itemD_ok {K : PySem.W.Frag} {Fz H : Hp} {v w : V} {d i r : PyData} {Q : VK} (le : Same Fz H) (h : RpC K Fz H v d) (h2 : RpC K Fz H w i) (e : itemD d i = some r) (q : ∀ u, Rp K Fz u r → Q u H) : rIxU K v w H Q := by
  cases d with
  | list ds =>
    cases i with
    | int i =>
      obtain ⟨a, vs, e1, s1, r1⟩ := h.list le
      obtain ⟨u, e2, r2⟩ := rpl_at r1 (show atI ds i = some r from e)
      exact .inl ⟨a, vs, i, u, e1, rpc_int h2, s1.sq, e2, q u r2⟩
    | _ => cases e
  | tuple ds =>
    cases i with
    | int i =>
      obtain ⟨a, vs, e1, s1, r1⟩ := h.tup le
      obtain ⟨u, e2, r2⟩ := rpl_at r1 (show atI ds i = some r from e)
      exact .inr ⟨a, vs, i, u, e1, rpc_int h2, s1, e2, q u r2⟩
    | _ => cases e
  | _ => cases i <;> cases e
theorem ElL.len {K : PySem.W.Frag} {Fz H : Hp} : ∀ {f : List Addr} {vs : List V} {es : List El}, ElL K Fz H f vs es → vs.length = es.length
  | _, _, _, .nil => rfl
  | _, _, _, .cons _ t => by simp [ElL.len t]
theorem ElL.atI {K : PySem.W.Frag} {Fz H : Hp} {f : List Addr} {vs : List V} {es : List El} {i : Int} {e : El} (h : ElL K Fz H f vs es) (q : L2.atI es i = some e) : ∃ v g, L2.atI vs i = some v ∧ ElR K Fz H g v e := by
  unfold L2.atI at q ⊢
  rw [h.len]
  cases q1 : ixN es.length i with
  | none => rw [q1] at q; cases q
  | some j =>
    rw [q1] at q
    obtain ⟨v, g, e1, e2, _⟩ := h.at_ (j := j) q
    exact ⟨v, g, e1, e2⟩
theorem v2_ix {K : PySem.W.Frag} {mg : Str → Option Value} {W : WX} {pin : List Nat} : V2 K mg W pin (rIxU K) gIx := by
  intro b Fz F δ σ H v w x y Q hp R A B P
  unfold gIx at P
  cases q1 : rdC δ y with
  | none => simp only [q1] at P; exact P.elim
  | some i =>
    cases q2 : itemA δ x i with
    | none => simp only [q1, q2] at P; exact P.elim
    | some r =>
      simp only [q1, q2] at P
      have h2 := rdC_ok R B q1
      have fin : ∀ u, Rp K Fz u r → Q u H := fun u hu => P u H Fz F (Same.refl _) R hu
      cases x with
      | val d => exact itemD_ok R.le (.inl A) h2 q2 fin
      | tmp s => exact False.elim A
      | ref k =>
        have hv : σ[k]? = some (some v) := A
        unfold itemA at q2
        cases q3 : δ[k]? with
        | none => simp only [q3] at q2; cases q2
        | some s =>
          have hs := R.slot k s q3
          rw [hv] at hs
          cases s with
          | no => simp only [q3] at q2; cases q2
          | od kvs => simp only [q3] at q2; cases q2
          | fz d =>
            simp only [q3] at q2
            obtain ⟨_, v', e1, e2⟩ := hs
            cases e1
            exact itemD_ok R.le (.inl e2) h2 q2 fin
          | ol xs =>
            cases i with
            | int n =>
              simp only [q3] at q2
              cases q4 : atI xs n with
              | none => rw [q4] at q2; cases q2
              | some e =>
                rw [q4] at q2
                cases e with
                | ow ys => cases q2
                | fz d =>
                  cases q2
                  obtain ⟨a, vs, g, e1, e2, e3, e4⟩ := hs
                  cases e1
                  obtain ⟨u, g', f1, f2⟩ := e4.atI q4
                  exact .inl ⟨a, vs, n, u, rfl, rpc_int h2, SqL.of e3, f1, fin u f2.2⟩
            | _ => simp only [q3] at q2; cases q2
          | al x j =>
            simp only [q3] at q2
            cases q4 : δ[x]? with
            | none => simp only [q4] at q2; cases q2
            | some t =>
              cases t with
              | ol xs =>
                simp only [q4] at q2
                cases q5 : xs[j]? with
                | none => simp only [q5] at q2; cases q2
                | some e =>
                  obtain ⟨g, e1, _⟩ := R.al q3 q4 q5 hv
                  cases e with
                  | fz d =>
                    simp only [q5] at q2
                    exact itemD_ok R.le (.inl e1.2) h2 q2 fin
                  | ow ys =>
                    simp only [q5] at q2
                    obtain ⟨a, vs, f1, _, f3, f4⟩ := e1
                    exact itemD_ok R.le (.inr ⟨a, vs, ys, f1, rfl, f3, f4⟩) h2 q2 fin
              | _ => simp only [q4] at q2; cases q2
theorem se_sub_ix {X : Cx} {W : WX} {pin : List Nat} {fa fb : List Sl → Rs AV} {a c : Expr} {pos : Pos} (ha : SE X W pin a fa) (hb : SE X W pin c fb) (hs : PlainIx c := by intro _ _; rfl) : SE X W pin (.Subscript a c pos) (s2 gIx fa fb) := se_ix ix_U v2_ix ha hb hs
/-! ### slices -/
def cutD (ds : List PyData) (lo hi : Option Int) : List PyData := (ds.drop (HT.sIx ds.length 0 lo)).take (HT.sIx ds.length ds.length hi - HT.sIx ds.length 0 lo)
theorem rpl_cut {K : PySem.W.Frag} {H : Hp} {vs : List V} {ds : List PyData} (h : RpL K H vs ds) (lo hi : Option Int) : RpL K H (cutV vs lo hi) (cutD ds lo hi) := by
  unfold cutV cutD
  rw [h.len]
  exact (h.drop _).take _
/-- a part of a slice -/
def sPart : Option (List Sl → Rs AV) → List Sl → Rs AV
  | none => fun δ => .ok (.val .none) δ
  | some f => sSt f
def partI (δ : List Sl) (a : AV) : Option (Option Int) := match rdC δ a with
  | some (.int i) => some (some i)
  | some .none => some none
  | _ => none
def gSl (x : AV) (lo hi : Option Int) (δ : List Sl) : Rs AV := match rdC δ x with
  | some (.list ds) => .ok (.tmp (.ol ((cutD ds lo hi).map .fz))) δ
  | some (.tuple ds) => .ok (.val (.tuple (cutD ds lo hi))) δ
  | _ => .bad
end Hb

/-! part Hb4 -/
namespace Hb
open PySem PySem.Spec PyProof.Rows L2

/-! ### slices -/
def sPartO : Option (List Sl → Rs AV) → List Sl → Rs (Option Int)
  | none => fun δ => .ok none δ
  | some f => fun δ => (sSt f δ).bind fun a δ' => match rdC δ' a with
    | some (.int i) => .ok (some i) δ'
    | _ => .bad
def rdP (K : PySem.W.Frag) (mg : Str → Option Value) (W : WX) (pin : List Nat) : Option (List Sl → Rs AV) → TO
  | none => tNoPart
  | some f => tPart (rdE K mg W pin (sSt f))
inductive SPO (X : Cx) (W : WX) (pin : List Nat) : Option Expr → Option (List Sl → Rs AV) → Prop
  | no : SPO X W pin none none
  | yes {e : Expr} {f : List Sl → Rs AV} : SE X W pin e f → SPO X W pin (some e) (some f)
theorem SPO.po {X : Cx} {W : WX} {pin : List Nat} {e : Option Expr} {f : Option (List Sl → Rs AV)} (h : SPO X W pin e f) : PO X e (rdP X.K X.mg W pin f) := by
  cases h with
  | no => exact po_none
  | yes h => exact po_some (se_st h)
section
variable {K : PySem.W.Frag} {mg : Str → Option Value} {W : WX} {pin : List Nat}
theorem rdP_bind {o : Option (List Sl → Rs AV)} {σ : L2.St} {H : Hp} {b : Bk} {Fz : Hp} {F : Nat → List Addr} {δ : List Sl} {k : Option Int → List Sl → Rs AV} {Q : VK} {R : Option Int → Hp → Prop} (hp : b.pin = pin) (Rr : Rl K b Fz F δ σ H) (P : Post K mg W b Fz σ Q ((sPartO o δ).bind k))
    (h : ∀ i H' Fz' F' δ', Same Fz Fz' → Rl K b Fz' F' δ' σ H' → Post K mg W b Fz' σ Q (k i δ') → R i H') : rdP K mg W pin o σ H R := by
  cases o with
  | none => exact h none H Fz F δ (Same.refl _) Rr P
  | some f =>
    have P' : Post K mg W b Fz σ Q ((sSt f δ).bind fun a δ' => (match rdC δ' a with
      | some (.int i) => (.ok (some i) δ' : Rs (Option Int))
      | _ => .bad).bind k) := by
      simp only [sPartO] at P
      cases q : sSt f δ with
      | bad => rw [q] at P; exact P
      | er x δ' => rw [q] at P; exact P
      | ok a δ' => rw [q] at P; exact P
    refine rd_bind hp Rr P' fun v H' Fz' F' x δ' s R' A P2 => ?_
    cases q : rdC δ' x with
    | none => simp only [q] at P2; exact P2.elim
    | some d =>
      cases d with
      | int i =>
        simp only [q] at P2
        exact ⟨i, rpc_int (rdC_ok R' A q), h (some i) H' Fz' F' δ' s R' P2⟩
      | _ => simp only [q] at P2; exact P2.elim
def sSl (f : List Sl → Rs AV) (lo hi : Option (List Sl → Rs AV)) : List Sl → Rs AV := fun δ => (sSt f δ).bind fun x δ1 => (sPartO lo δ1).bind fun l δ2 => (sPartO hi δ2).bind fun u δ3 => gSl x l u δ3
def rSlU (K : PySem.W.Frag) : V → Option Int → Option Int → Hp → VK → Prop := fun x lo hi H Q => rSlL K x lo hi H Q ∨ rSlA K x lo hi H Q
theorem sl_U {X : Cx} : SlR X (rSlU X.K) := SlR.or sl_list sl_tupA
theorem cutV_whole (xs : List V) {lo hi : Option Int} (h : HT.sIx xs.length 0 lo = 0 ∧ HT.sIx xs.length xs.length hi = xs.length) : cutV xs lo hi = xs := by
  unfold cutV
  rw [h.1, h.2]
  simp
theorem gSl_ok {b : Bk} {Fz : Hp} {F : Nat → List Addr} {δ : List Sl} {σ : L2.St} {H : Hp} {Q : VK} {v : V} {x : AV} {lo hi : Option Int} (R : Rl K b Fz F δ σ H) (A : AvS K Fz σ v x) (P : Post K mg W b Fz σ Q (gSl x lo hi δ)) : rSlU K v lo hi H Q := by
  unfold gSl at P
  cases q : rdC δ x with
  | none => simp only [q] at P; exact P.elim
  | some d =>
    have h1 := rdC_ok R A q
    cases d with
    | list ds =>
      simp only [q] at P
      obtain ⟨a, vs, e1, s1, r1⟩ := h1.list R.le
      exact .inl ⟨a, vs, e1, s1.sq, post_newL R (rpl_cut r1 lo hi) P⟩
    | tuple ds =>
      simp only [q] at P
      obtain ⟨a, vs, e1, s1, r1⟩ := h1.tup R.le
      refine .inr ⟨a, vs, e1, s1, fun w => ?_, fun _ => post_newT R (rpl_cut r1 lo hi) P⟩
      have e2 : cutD ds lo hi = ds := by
        have w' := w
        rw [r1.len] at w'
        unfold cutD
        rw [w'.1, w'.2]
        simp
      rw [e2] at P
      rcases h1 with h | ⟨_, _, _, _, e3, _⟩
      · rw [← e1]
        exact P v H Fz F (Same.refl _) R h
      · cases e3
    | _ => simp only [q] at P; exact P.elim
end
theorem se_sl {X : Cx} {W : WX} {pin : List Nat} {fa : List Sl → Rs AV} {a : Expr} {lo hi : Option Expr} {fl fh : Option (List Sl → Rs AV)} {p2 pos : Pos} (ha : SE X W pin a fa) (hl : SPO X W pin lo fl) (hh : SPO X W pin hi fh) :
    SE X W pin (.Subscript a (.Slice lo hi none p2) pos) (sSl fa fl fh) := pe_mono (pe_slice sl_U (se_st ha) hl.po hh.po) fun σ H Q ⟨b, Fz, F, δ, hp, R, P⟩ => by
  refine rd_bind hp R P fun v H1 Fz1 F1 x δ1 s1 R1 A1 P1 => ?_
  refine rdP_bind hp R1 P1 fun l H2 Fz2 F2 δ2 s2 R2 P2 => ?_
  refine rdP_bind hp R2 P2 fun u H3 Fz3 F3 δ3 s3 R3 P3 => ?_
  exact gSl_ok R3 (A1.le (s2.trans s3)) P3
def gRev (x : AV) (δ : List Sl) : Rs AV := match rdC δ x with
  | some (.list ds) => .ok (.tmp (.ol (ds.reverse.map .fz))) δ
  | _ => .bad
theorem se_rev {X : Cx} {W : WX} {pin : List Nat} {fa : List Sl → Rs AV} {a : Expr} {k : Nat} {p1 p2 p3 pos : Pos} (ha : SE X W pin a fa) :
    SE X W pin (.Subscript a (.Slice none none (some (.UnaryOp .USub (.Constant (.int 1) k p1) p2)) p3) pos) (s1 gRev fa) := pe_mono (pe_revL (se_st ha)) fun σ H Q ⟨b, Fz, F, δ, hp, R, P⟩ => by
  refine rd_bind hp R P fun v H1 Fz1 F1 x δ1 s1 R1 A1 P1 => ?_
  unfold gRev at P1
  cases q : rdC δ1 x with
  | none => simp only [q] at P1; exact P1.elim
  | some d =>
    cases d with
    | list ds =>
      simp only [q] at P1
      obtain ⟨a, vs, e1, s1, r1⟩ := (rdC_ok R1 A1 q).list R1.le
      exact ⟨a, vs, e1, s1.sq, post_newL R1 r1.reverse P1⟩
    | _ => simp only [q] at P1; exact P1.elim

/-! ### several values, all of which stand still -/
section
variable (K : PySem.W.Frag) (mg : Str → Option Value) (W : WX)
def PostL (b : Bk) (Fz : Hp) (σ : L2.St) (Q : List V → Hp → Prop) : Rs (List PyData) → Prop
  | .ok ds δ => ∀ vs H' Fz' F', Same Fz Fz' → Rl K b Fz' F' δ σ H' → RpL K Fz' vs ds → Q vs H'
  | .er x δ => PostX K mg W b Fz σ x δ
  | .bad => False
def rdL (pin : List Nat) (f : List Sl → Rs (List PyData)) : TA := fun σ H Q => ∃ b Fz F δ, b.pin = pin ∧ Rl K b Fz F δ σ H ∧ PostL K mg W b Fz σ Q (f δ)
end
abbrev SA (X : Cx) (W : WX) (pin : List Nat) (es : List Expr) (f : List Sl → Rs (List PyData)) : Prop := PA X es (rdL X.K X.mg W pin f)
theorem pa_mono {X : Cx} {es : List Expr} {t t' : TA} (h : PA X es t) (i : ∀ σ H Q, t' σ H Q → t σ H Q) : PA X es t' := ⟨fun pos pins s σ H Q I q => h.run pos pins s σ H Q I (i σ H Q q)⟩
/-- a value taken -/
def Rs.val {α : Type} (r : Rs AV) (k : PyData → List Sl → Rs α) : Rs α := r.bind fun a δ => match a with
  | .val d => k d δ
  | _ => .bad
def lNil : List Sl → Rs (List PyData) := fun δ => .ok [] δ
def lCons (f : List Sl → Rs AV) (g : List Sl → Rs (List PyData)) : List Sl → Rs (List PyData) := fun δ => (sTk f δ).val fun d δ1 => (g δ1).bind fun ds δ2 => .ok (d :: ds) δ2
def seqD : PyData → Option (List PyData)
  | .list ds => some ds
  | .tuple ds => some ds
  | _ => none
/-- *x in a display -/
def lStar (f : List Sl → Rs AV) (g : List Sl → Rs (List PyData)) : List Sl → Rs (List PyData) := fun δ => (sTk f δ).val fun d δ1 => match seqD d with
  | some es => (g δ1).bind fun ds δ2 => .ok (es ++ ds) δ2
  | none => .bad
section
variable {X : Cx} {W : WX} {pin : List Nat} {f : List Sl → Rs AV} {g : List Sl → Rs (List PyData)} {e : Expr} {es : List Expr}
theorem PostL.le {K : PySem.W.Frag} {mg : Str → Option Value} {b : Bk} {Fz Fz1 : Hp} {σ : L2.St} {Q : List V → Hp → Prop} {r : Rs (List PyData)} (s : Same Fz Fz1) (p : PostL K mg W b Fz σ Q r) : PostL K mg W b Fz1 σ Q r := by
  cases r with
  | ok a δ => exact fun v H' Fz' F' s' R e => p v H' Fz' F' (s.trans s') R e
  | er x δ => exact PostX.le s p
  | bad => exact p
/-- behind a taken value -/
theorem rd_valL {K : PySem.W.Frag} {mg : Str → Option Value} {σ : L2.St} {H : Hp} {b : Bk} {Fz : Hp} {F : Nat → List Addr} {δ : List Sl} {k : PyData → List Sl → Rs (List PyData)} {Q : List V → Hp → Prop} {R : VK} (hp : b.pin = pin) (Rr : Rl K b Fz F δ σ H) (P : PostL K mg W b Fz σ Q ((sTk f δ).val k))
    (h : ∀ v H' Fz' F' d δ', Same Fz Fz' → Rl K b Fz' F' δ' σ H' → Rp K Fz' v d → PostL K mg W b Fz' σ Q (k d δ') → R v H') : rdE K mg W pin (sTk f) σ H R := by
  refine ⟨b, Fz, F, δ, hp, Rr, ?_⟩
  cases q : sTk f δ with
  | bad => rw [q] at P; exact P
  | er x δ' => rw [q] at P; exact P
  | ok a δ' =>
    rw [q] at P
    intro v H' Fz' F' s R' A
    cases a with
    | tmp t => exact False.elim P
    | ref i => exact False.elim P
    | val d => exact h v H' Fz' F' d δ' s R' A (PostL.le s P)
/-- behind the values -/
theorem rdL_bindL {K : PySem.W.Frag} {mg : Str → Option Value} {σ : L2.St} {H : Hp} {b : Bk} {Fz : Hp} {F : Nat → List Addr} {δ : List Sl} {k : List PyData → List Sl → Rs (List PyData)} {Q R : List V → Hp → Prop} (hp : b.pin = pin) (Rr : Rl K b Fz F δ σ H) (P : PostL K mg W b Fz σ Q ((g δ).bind k))
    (h : ∀ vs H' Fz' F' ds δ', Same Fz Fz' → Rl K b Fz' F' δ' σ H' → RpL K Fz' vs ds → PostL K mg W b Fz' σ Q (k ds δ') → R vs H') : rdL K mg W pin g σ H R := by
  refine ⟨b, Fz, F, δ, hp, Rr, ?_⟩
  cases q : g δ with
  | bad => rw [q] at P; exact P
  | er x δ' => rw [q] at P; exact P
  | ok a δ' =>
    rw [q] at P
    exact fun v H' Fz' F' s R' A => h v H' Fz' F' a δ' s R' A (PostL.le s P)
theorem rdL_bind {K : PySem.W.Frag} {mg : Str → Option Value} {σ : L2.St} {H : Hp} {b : Bk} {Fz : Hp} {F : Nat → List Addr} {δ : List Sl} {k : List PyData → List Sl → Rs AV} {Q : VK} {R : List V → Hp → Prop} (hp : b.pin = pin) (Rr : Rl K b Fz F δ σ H) (P : Post K mg W b Fz σ Q ((g δ).bind k))
    (h : ∀ vs H' Fz' F' ds δ', Same Fz Fz' → Rl K b Fz' F' δ' σ H' → RpL K Fz' vs ds → Post K mg W b Fz' σ Q (k ds δ') → R vs H') : rdL K mg W pin g σ H R := by
  refine ⟨b, Fz, F, δ, hp, Rr, ?_⟩
  cases q : g δ with
  | bad => rw [q] at P; exact P
  | er x δ' => rw [q] at P; exact P
  | ok a δ' =>
    rw [q] at P
    exact fun v H' Fz' F' s R' A => h v H' Fz' F' a δ' s R' A (Post.le s P)
theorem sa_nil : SA X W pin [] lNil := pa_mono pa_nil fun σ H Q ⟨b, Fz, F, δ, hp, R, P⟩ => P [] H Fz F (Same.refl _) R .nil
theorem sa_cons (h : SE X W pin e f) (h2 : SA X W pin es g) (hs : starEach (e :: es) X.env = (false, eval e X.env) :: starEach es X.env := by rfl) : SA X W pin (e :: es) (lCons f g) := pa_mono (pa_cons (se_tk h) h2 hs) fun σ H Q ⟨b, Fz, F, δ, hp, R, P⟩ => by
  refine rd_valL hp R P fun v H1 Fz1 F1 d δ1 s1 R1 A1 P1 => ?_
  refine rdL_bindL hp R1 P1 fun vs H2 Fz2 F2 ds δ2 s2 R2 A2 P2 => ?_
  exact P2 (v :: vs) H2 Fz2 F2 (Same.refl _) R2 (.cons (A1.mono s2) A2)
theorem sa_star {p : Pos} (h : SE X W pin e f) (h2 : SA X W pin es g) (hs : starEach (.Starred e p :: es) X.env = (true, eval e X.env) :: starEach es X.env := by rfl) : SA X W pin (.Starred e p :: es) (lStar f g) := pa_mono (StX.pa_star (se_tk h) h2 hs) fun σ H Q ⟨b, Fz, F, δ, hp, R, P⟩ => by
  refine rd_valL hp R P fun v H1 Fz1 F1 d δ1 s1 R1 A1 P1 => ?_
  cases d with
  | list es =>
    refine (?_ : ∃ p xs, _)
    cases A1 with
    | lst h1 h2 =>
      refine ⟨_, _, rfl, .inr (same_sqX R1.le h1).sq, ?_⟩
      refine rdL_bindL hp R1 P1 fun vs H2 Fz2 F2 ds δ2 s2 R2 A2 P2 => ?_
      exact P2 _ H2 Fz2 F2 (Same.refl _) R2 ((h2.mono s2).append A2)
  | tuple es =>
    cases A1 with
    | tup h1 h2 =>
      refine ⟨_, _, rfl, .inl (same_sqT R1.le h1), ?_⟩
      refine rdL_bindL hp R1 P1 fun vs H2 Fz2 F2 ds δ2 s2 R2 A2 P2 => ?_
      exact P2 _ H2 Fz2 F2 (Same.refl _) R2 ((h2.mono s2).append A2)
  | _ => exact P1.elim
/-! ### displays -/
def sLst (g : List Sl → Rs (List PyData)) : List Sl → Rs AV := fun δ => (g δ).bind fun ds δ' => if ds.length ≤ cap then .ok (.tmp (.ol (ds.map .fz))) δ' else .bad
def sTup (g : List Sl → Rs (List PyData)) : List Sl → Rs AV := fun δ => (g δ).bind fun ds δ' => if ds.length ≤ cap then .ok (.val (.tuple ds)) δ' else .bad
theorem se_lst {pos : Pos} (h : SA X W pin es g) : SE X W pin (.List es pos) (sLst g) := pe_mono (pe_lst h) fun σ H Q ⟨b, Fz, F, δ, hp, R, P⟩ => by
  refine rdL_bind hp R P fun vs H2 Fz2 F2 ds δ2 s2 R2 A2 P2 => ?_
  by_cases c : ds.length ≤ cap
  · rw [if_pos c] at P2
    exact ⟨by rw [A2.len]; exact le_line c, post_newL R2 A2 P2⟩
  · rw [if_neg c] at P2
    exact P2.elim
theorem se_tup {x1 : Nat} {pos : Pos} (h : SA X W pin es g) : SE X W pin (.Tuple es x1 pos) (sTup g) := pe_mono (pe_tup h) fun σ H Q ⟨b, Fz, F, δ, hp, R, P⟩ => by
  refine rdL_bind hp R P fun vs H2 Fz2 F2 ds δ2 s2 R2 A2 P2 => ?_
  by_cases c : ds.length ≤ cap
  · rw [if_pos c] at P2
    exact ⟨by rw [A2.len]; exact le_line c, post_newT R2 A2 P2⟩
  · rw [if_neg c] at P2
    exact P2.elim
def sDic0 : List Sl → Rs AV := fun δ => .ok (.tmp (.od [])) δ
theorem se_dic0 {pos : Pos} : SE X W pin (.Dict [] [] pos) sDic0 := pe_mono pe_dnewK fun σ H Q ⟨b, Fz, F, δ, hp, R, P⟩ => post_newD R P
theorem se_dic0T {pos : Pos} : SE X W pin (.Dict [] [] pos) sDic0 := pe_mono pe_dnewT fun σ H Q ⟨b, Fz, F, δ, hp, R, P⟩ => post_newDT R P
end

/-! ### built-ins of one argument, of two -/
section
variable (K : PySem.W.Frag) (mg : Str → Option Value) (W : WX) (pin : List Nat)
def C1 (r : List V → Hp → VK → Prop) (g : AV → List Sl → Rs AV) : Prop := ∀ b Fz F δ σ H v x Q, b.pin = pin → Rl K b Fz F δ σ H → AvS K Fz σ v x → Post K mg W b Fz σ Q (g x δ) → r [v] H Q
def C2 (r : List V → Hp → VK → Prop) (g : AV → AV → List Sl → Rs AV) : Prop := ∀ b Fz F δ σ H v w x y Q, b.pin = pin → Rl K b Fz F δ σ H → AvS K Fz σ v x → AvS K Fz σ w y → Post K mg W b Fz σ Q (g x y δ) → r [v, w] H Q
end
section
variable {X : Cx} {W : WX} {pin : List Nat} {fa fb : List Sl → Rs AV} {a c : Expr} {x : Str} {p pos : Pos} {id T : String} {r : List V → Hp → VK → Prop} {g : AV → List Sl → Rs AV} {g2 : AV → AV → List Sl → Rs AV}
theorem se_b1 (hc : CallR X (.builtin id) r) (hv : C1 X.K X.mg W pin r g) (hg : Gl X x) (hm : X.mg x = none) (hb : bootBuiltins x = some (.builtin id)) (ha : SE X W pin a fa) (hn : x ≠ "__name__" := by decide) (hdb : (x == ("__debug__" : Str)) = false := by decide)
    (he : starEach [a] X.env = (false, eval a X.env) :: starEach [] X.env := by rfl) : SE X W pin (.Call (.Name x p) [a] [] pos) (s1 g fa) := pe_mono (pe_callB hc hg hm hb (pa_cons (se_st ha) pa_nil he) hn hdb he rfl) fun σ H Q ⟨b, Fz, F, δ, hp, R, P⟩ => by
  refine rd_bind hp R P fun v H1 Fz1 F1 x δ1 s1 R1 A1 P1 => ?_
  exact hv b Fz1 F1 δ1 σ H1 v x Q hp R1 A1 P1
theorem se_t1 (hc : CallR X (.type T) r) (hv : C1 X.K X.mg W pin r g) (hg : Gl X x) (hm : X.mg x = none) (hb : bootBuiltins x = some (.type T)) (ha : SE X W pin a fa) (hn : x ≠ "__name__" := by decide) (hdb : (x == ("__debug__" : Str)) = false := by decide)
    (he : starEach [a] X.env = (false, eval a X.env) :: starEach [] X.env := by rfl) : SE X W pin (.Call (.Name x p) [a] [] pos) (s1 g fa) := pe_mono (pe_callTy hc hg hm hb (pa_cons (se_st ha) pa_nil he) hn hdb he rfl) fun σ H Q ⟨b, Fz, F, δ, hp, R, P⟩ => by
  refine rd_bind hp R P fun v H1 Fz1 F1 x δ1 s1 R1 A1 P1 => ?_
  exact hv b Fz1 F1 δ1 σ H1 v x Q hp R1 A1 P1
theorem se_b2 (hc : CallR X (.builtin id) r) (hv : C2 X.K X.mg W pin r g2) (hg : Gl X x) (hm : X.mg x = none) (hb : bootBuiltins x = some (.builtin id)) (ha : SE X W pin a fa) (hcc : SE X W pin c fb) (hn : x ≠ "__name__" := by decide) (hdb : (x == ("__debug__" : Str)) = false := by decide)
    (he : starEach [a, c] X.env = (false, eval a X.env) :: starEach [c] X.env := by rfl) (he2 : starEach [c] X.env = (false, eval c X.env) :: starEach [] X.env := by rfl) (hpl : (backTo pos (starEach [c] X.env)).any (·.1) = false := by rfl) : SE X W pin (.Call (.Name x p) [a, c] [] pos) (s2 g2 fa fb) := pe_mono (pe_callB hc hg hm hb (pa_cons (se_st ha) (pa_cons (se_st hcc) pa_nil he2) he) hn hdb he hpl) fun σ H Q ⟨b, Fz, F, δ, hp, R, P⟩ => by
  refine rd_bind hp R P fun v H1 Fz1 F1 x δ1 s1 R1 A1 P1 => ?_
  refine rd_bind hp R1 P1 fun w H2 Fz2 F2 y δ2 s2 R2 A2 P2 => ?_
  exact hv b Fz2 F2 δ2 σ H2 v w x y Q hp R2 (A1.le s2) A2 P2
end
/-- a look at a tree that gives a number, a truth value, a text -/
def gRd (k : PyData → Option PyData) (x : AV) (δ : List Sl) : Rs AV := match (rdA δ x).bind k with
  | some d => if flatD d = true then .ok (.val d) δ else .bad
  | none => .bad
def dV : PyData → V
  | .none => .non
  | .bool b => .bl b
  | .int i => .int i
  | .str s => .str s
  | _ => .non
theorem rp_flat {K : PySem.W.Frag} {H : Hp} {d : PyData} (h : flatD d = true) : Rp K H (dV d) d := by
  cases d with
  | none => exact .non
  | bool b => exact .bl b
  | int i => exact .int i
  | str s => exact .str s
  | _ => cases h
theorem c1_rd {K : PySem.W.Frag} {mg : Str → Option Value} {W : WX} {pin : List Nat} {k : PyData → Option PyData} {r : List V → Hp → VK → Prop} (h : ∀ v d e H (Q : VK), Rp K H v d → k d = some e → flatD e = true → Q (dV e) H → r [v] H Q) : C1 K mg W pin r (gRd k) := by
  intro b Fz F δ σ H v x Q hp R A P
  unfold gRd at P
  cases q : rdA δ x with
  | none => simp only [q, Option.bind_none] at P; exact P.elim
  | some d =>
    cases q2 : k d with
    | none => simp only [q, Option.bind_some, q2] at P; exact P.elim
    | some e =>
      simp only [q, Option.bind_some, q2] at P
      by_cases c : flatD e = true
      · rw [if_pos c] at P
        exact h v d e H Q (rdA_ok R A q) q2 c (P _ H Fz F (Same.refl _) R (rp_flat c))
      · rw [if_neg c] at P
        exact P.elim
def lenD : PyData → Option PyData
  | .list ds => some (.int ds.length)
  | .tuple ds => some (.int ds.length)
  | .str z => if z.length ≤ cap then some (.int z.length) else none
  | .dict ds => some (.int ds.length)
  | _ => none
theorem RpK.len {K : PySem.W.Frag} {H : Hp} : ∀ {vs : List (Key × V)} {ds : List (PyData × PyData)}, RpK K H vs ds → vs.length = ds.length
  | _, _, .nil => rfl
  | _, _, .cons _ t => by simp [RpK.len t]
theorem RpT.len {K : PySem.W.Frag} {H : Hp} : ∀ {vs : List (List Key × V)} {ds : List (PyData × PyData)}, RpT K H vs ds → vs.length = ds.length
  | _, _, .nil => rfl
  | _, _, .cons _ t => by simp [RpT.len t]
def rLenU (K : PySem.W.Frag) : List V → Hp → VK → Prop := fun xs H Q => ((∃ x n, xs = [x] ∧ LenV K x H n ∧ Q (.int n) H) ∨ ∃ a kvs, xs = [V.ref a] ∧ H a = some (.dK kvs) ∧ Q (.int kvs.length) H) ∨ ∃ a kvs, xs = [V.ref a] ∧ H a = some (.dT kvs) ∧ Q (.int kvs.length) H
theorem call_lenU {X : Cx} : CallR X (.builtin "len") (rLenU X.K) := CallR.or (CallR.or call_len call_lenD) call_len_dT
theorem c1_len {K : PySem.W.Frag} {mg : Str → Option Value} {W : WX} {pin : List Nat} : C1 K mg W pin (rLenU K) (gRd lenD) := c1_rd fun v d e H Q r k f q => by
  cases r with
  | lst h1 h2 =>
    cases k
    exact .inl (.inl ⟨_, _, rfl, .inl ⟨_, h1.sq, rfl⟩, by rw [h2.len]; exact q⟩)
  | tup h1 h2 =>
    cases k
    exact .inl (.inl ⟨_, _, rfl, .inr ⟨_, h1, rfl⟩, by rw [h2.len]; exact q⟩)
  | dK h1 h2 =>
    cases k
    exact .inl (.inr ⟨_, _, rfl, h1, by rw [h2.len]; exact q⟩)
  | dT h1 h2 =>
    cases k
    exact .inr ⟨_, _, rfl, h1, by rw [h2.len]; exact q⟩
  | str z =>
    simp only [lenD] at k
    by_cases c : z.length ≤ cap
    · rw [if_pos c] at k
      cases k
      exact .inl (.inl ⟨_, _, rfl, ⟨le_line c, rfl⟩, q⟩)
    · rw [if_neg c] at k
      cases k
  | _ => cases k
def absD : PyData → Option PyData
  | .int i => some (.int (if i < 0 then -i else i))
  | _ => none
theorem c1_abs {K : PySem.W.Frag} {mg : Str → Option Value} {W : WX} {pin : List Nat} : C1 K mg W pin (fun xs H Q => ∃ i, xs = [.int i] ∧ Q (.int (if i < 0 then -i else i)) H) (gRd absD) := c1_rd fun v d e H Q r k f q => by
  cases r with
  | int i =>
    cases k
    exact ⟨i, rfl, q⟩
  | _ => cases k
def intD : PyData → Option PyData
  | .int i => some (.int i)
  | .bool k => some (.int (if k then 1 else 0))
  | _ => none
theorem c1_int {K : PySem.W.Frag} {mg : Str → Option Value} {W : WX} {pin : List Nat} : C1 K mg W pin (fun xs H Q => (∃ i, xs = [.int i] ∧ Q (.int i) H) ∨ ∃ k, xs = [.bl k] ∧ Q (.int (if k then 1 else 0)) H) (gRd intD) := c1_rd fun v d e H Q r k f q => by
  cases r with
  | int i =>
    cases k
    exact .inl ⟨i, rfl, q⟩
  | bl b =>
    cases k
    exact .inr ⟨b, rfl, q⟩
  | _ => cases k
/-! lists of ints, of truth values -/
def intsOf : List PyData → Option (List Int)
  | [] => some []
  | .int i :: r => (intsOf r).map (i :: ·)
  | _ :: _ => none
theorem intsOf_eq : ∀ {ds : List PyData} {ns : List Int}, intsOf ds = some ns → ds = ns.map .int
  | [], _, h => by cases h; rfl
  | .int i :: r, ns, h => by
    rw [intsOf] at h
    cases q : intsOf r with
    | none => rw [q] at h; cases h
    | some ms =>
      rw [q] at h
      cases h
      rw [intsOf_eq q]
      rfl
  | .none :: r, _, h => by cases h
  | .bool _ :: r, _, h => by cases h
  | .str _ :: r, _, h => by cases h
  | .list _ :: r, _, h => by cases h
  | .tuple _ :: r, _, h => by cases h
  | .dict _ :: r, _, h => by cases h
theorem intsOf_map : ∀ ns : List Int, intsOf (ns.map .int) = some ns
  | [] => rfl
  | n :: ns => by
    rw [List.map_cons, intsOf, intsOf_map ns]
    rfl
def boolsOf : List PyData → Option (List Bool)
  | [] => some []
  | .bool i :: r => (boolsOf r).map (i :: ·)
  | _ :: _ => none
theorem boolsOf_eq : ∀ {ds : List PyData} {ns : List Bool}, boolsOf ds = some ns → ds = ns.map .bool
  | [], _, h => by cases h; rfl
  | .bool i :: r, ns, h => by
    rw [boolsOf] at h
    cases q : boolsOf r with
    | none => rw [q] at h; cases h
    | some ms =>
      rw [q] at h
      cases h
      rw [boolsOf_eq q]
      rfl
  | .none :: r, _, h => by cases h
  | .int _ :: r, _, h => by cases h
  | .str _ :: r, _, h => by cases h
  | .list _ :: r, _, h => by cases h
  | .tuple _ :: r, _, h => by cases h
  | .dict _ :: r, _, h => by cases h
theorem boolsOf_map : ∀ ns : List Bool, boolsOf (ns.map .bool) = some ns
  | [] => rfl
  | n :: ns => by
    rw [List.map_cons, boolsOf, boolsOf_map ns]
    rfl
theorem RpL.bools {K : PySem.W.Frag} {H : Hp} : ∀ {vs : List V} {ns : List Bool}, RpL K H vs (ns.map .bool) → vs = ns.map V.bl
  | _, [], .nil => rfl
  | _, n :: ns, .cons r t => by
    cases r
    rw [RpL.bools t]
    rfl
def overI (k : List Int → Option PyData) : PyData → Option PyData
  | .list ds => (intsOf ds).bind k
  | _ => none
def overB (k : List Bool → Option PyData) : PyData → Option PyData
  | .list ds => (boolsOf ds).bind k
  | _ => none
theorem c1_overI {K : PySem.W.Frag} {mg : Str → Option Value} {W : WX} {pin : List Nat} {k : List Int → Option PyData} {r : List V → Hp → VK → Prop} (h : ∀ a ns e H (Q : VK), SqL K H a (ns.map V.int) → k ns = some e → Q (dV e) H → r [.ref a] H Q) : C1 K mg W pin r (gRd (overI k)) := c1_rd fun v d e H Q rp ke f q => by
  cases rp with
  | lst h1 h2 =>
    rename_i ds
    simp only [overI] at ke
    cases q1 : intsOf ds with
    | none => rw [q1] at ke; cases ke
    | some ns =>
      rw [q1] at ke
      have e1 := intsOf_eq q1
      subst e1
      have e2 := h2.ints
      subst e2
      exact h _ ns e H Q h1.sq ke q
  | _ => cases ke
theorem c1_overB {K : PySem.W.Frag} {mg : Str → Option Value} {W : WX} {pin : List Nat} {k : List Bool → Option PyData} {r : List V → Hp → VK → Prop} (h : ∀ a ns e H (Q : VK), SqL K H a (ns.map V.bl) → k ns = some e → Q (dV e) H → r [.ref a] H Q) : C1 K mg W pin r (gRd (overB k)) := c1_rd fun v d e H Q rp ke f q => by
  cases rp with
  | lst h1 h2 =>
    rename_i ds
    simp only [overB] at ke
    cases q1 : boolsOf ds with
    | none => rw [q1] at ke; cases ke
    | some ns =>
      rw [q1] at ke
      have e1 := boolsOf_eq q1
      subst e1
      have e2 := h2.bools
      subst e2
      exact h _ ns e H Q h1.sq ke q
  | _ => cases ke
def maxI : List Int → Option PyData
  | [] => none
  | n :: ns => some (.int (ns.foldl max n))
def minI : List Int → Option PyData
  | [] => none
  | n :: ns => some (.int (ns.foldl min n))
theorem foldl_max : ∀ (ns : List Int) (n : Int), ns.foldl max n ∈ n :: ns ∧ n ≤ ns.foldl max n ∧ ∀ y ∈ ns, y ≤ ns.foldl max n
  | [], n => ⟨by simp, Int.le_refl _, fun y h => by cases h⟩
  | m :: ns, n => by
    obtain ⟨h1, h2, h3⟩ := foldl_max ns (max n m)
    rw [List.foldl_cons]
    refine ⟨?_, by omega, fun y hy => ?_⟩
    · rcases List.mem_cons.mp h1 with e | e
      · rw [e]
        by_cases c : n ≤ m
        · rw [Int.max_eq_right c]; simp
        · rw [Int.max_eq_left (by omega)]; simp
      · simp [e]
    · rcases List.mem_cons.mp hy with e | e
      · subst e; omega
      · exact h3 y e
theorem foldl_min : ∀ (ns : List Int) (n : Int), ns.foldl min n ∈ n :: ns ∧ ns.foldl min n ≤ n ∧ ∀ y ∈ ns, ns.foldl min n ≤ y
  | [], n => ⟨by simp, Int.le_refl _, fun y h => by cases h⟩
  | m :: ns, n => by
    obtain ⟨h1, h2, h3⟩ := foldl_min ns (min n m)
    rw [List.foldl_cons]
    refine ⟨?_, by omega, fun y hy => ?_⟩
    · rcases List.mem_cons.mp h1 with e | e
      · rw [e]
        by_cases c : n ≤ m
        · rw [Int.min_eq_left c]; simp
        · rw [Int.min_eq_right (by omega)]; simp
      · simp [e]
    · rcases List.mem_cons.mp hy with e | e
      · subst e; omega
      · exact h3 y e
section
variable {K : PySem.W.Frag} {mg : Str → Option Value} {W : WX} {pin : List Nat}
theorem c1_sum : C1 K mg W pin (rSum K) (gRd (overI fun ns => some (.int ns.sum))) := c1_overI fun a ns e H Q s k q => by
  cases k
  exact ⟨a, ns, rfl, s, q⟩
theorem c1_max : C1 K mg W pin (rMax K) (gRd (overI maxI)) := c1_overI fun a ns e H Q s k q => by
  cases ns with
  | nil => cases k
  | cons n ns =>
    cases k
    obtain ⟨h1, h2, h3⟩ := foldl_max ns n
    refine ⟨a, n :: ns, rfl, s, by simp, fun m hm hle => ?_⟩
    have e1 : m ≤ ns.foldl max n := by
      rcases List.mem_cons.mp hm with e | e
      · omega
      · exact h3 m e
    have e2 := hle _ h1
    rw [show m = ns.foldl max n by omega]
    exact q
theorem c1_min : C1 K mg W pin (rMin K) (gRd (overI minI)) := c1_overI fun a ns e H Q s k q => by
  cases ns with
  | nil => cases k
  | cons n ns =>
    cases k
    obtain ⟨h1, h2, h3⟩ := foldl_min ns n
    refine ⟨a, n :: ns, rfl, s, by simp, fun m hm hle => ?_⟩
    have e1 : ns.foldl min n ≤ m := by
      rcases List.mem_cons.mp hm with e | e
      · omega
      · exact h3 m e
    have e2 := hle _ h1
    rw [show m = ns.foldl min n by omega]
    exact q
theorem c1_all : C1 K mg W pin (rAll K) (gRd (overB fun ns => some (.bool (ns.all id)))) := c1_overB fun a ns e H Q s k q => by
  cases k
  exact ⟨a, ns, rfl, s, q⟩
theorem c1_any : C1 K mg W pin (rAny K) (gRd (overB fun ns => some (.bool (ns.any id)))) := c1_overB fun a ns e H Q s k q => by
  cases k
  exact ⟨a, ns, rfl, s, q⟩
abbrev gMax2 := gI yes2 fun i j => if j > i then j else i
abbrev gMin2 := gI yes2 fun i j => if j < i then j else i
theorem c2_i {g : Int → Int → Int} : C2 K mg W pin (fun xs H Q => ∃ i j, xs = [.int i, .int j] ∧ Q (.int (g i j)) H) (gI yes2 g) := by
  intro b Fz F δ σ H v w x y Q hp R A B P
  obtain ⟨i, j, h1, h2, _, q⟩ := v2_i (K := K) (mg := mg) (W := W) (C' := fun _ _ => True) (fun _ _ _ => trivial) b Fz F δ σ H v w x y Q hp R A B P
  exact ⟨i, j, by rw [h1, h2], q⟩
/-- list(xs), tuple(xs) -/
def gList (x : AV) (δ : List Sl) : Rs AV := match rdC δ x with
  | some (.list ds) => .ok (.tmp (.ol (ds.map .fz))) δ
  | some (.tuple ds) => .ok (.tmp (.ol (ds.map .fz))) δ
  | _ => .bad
def gTuple (x : AV) (δ : List Sl) : Rs AV := match rdC δ x with
  | some (.list ds) => .ok (.val (.tuple ds)) δ
  | some (.tuple ds) => .ok (.val (.tuple ds)) δ
  | _ => .bad
theorem c1_list : C1 K mg W pin (fun xs H Q => ∃ p ys, xs = [.ref p] ∧ (SqL K H p ys ∨ SqT K H p ys) ∧ ∀ l, H l = none → Q (.ref l) (upd H l (.lst ys))) gList := by
  intro b Fz F δ σ H v x Q hp R A P
  unfold gList at P
  cases q : rdC δ x with
  | none => simp only [q] at P; exact P.elim
  | some d =>
    cases d with
    | list ds =>
      simp only [q] at P
      obtain ⟨a, vs, e1, s1, r1⟩ := (rdC_ok R A q).list R.le
      exact ⟨a, vs, by rw [e1], .inl s1.sq, post_newL R r1 P⟩
    | tuple ds =>
      simp only [q] at P
      obtain ⟨a, vs, e1, s1, r1⟩ := (rdC_ok R A q).tup R.le
      exact ⟨a, vs, by rw [e1], .inr s1, post_newL R r1 P⟩
    | _ => simp only [q] at P; exact P.elim
theorem c1_tuple : C1 K mg W pin (fun xs H Q => ∃ p ys, xs = [.ref p] ∧ ((SqL K H p ys ∧ ∀ l, H l = none → Q (.ref l) (upd H l (.tup ys))) ∨ (SqT K H p ys ∧ Q (.ref p) H))) gTuple := by
  intro b Fz F δ σ H v x Q hp R A P
  unfold gTuple at P
  cases q : rdC δ x with
  | none => simp only [q] at P; exact P.elim
  | some d =>
    have h := rdC_ok R A q
    cases d with
    | list ds =>
      simp only [q] at P
      obtain ⟨a, vs, e1, s1, r1⟩ := h.list R.le
      exact ⟨a, vs, by rw [e1], .inl ⟨s1.sq, post_newT R r1 P⟩⟩
    | tuple ds =>
      simp only [q] at P
      obtain ⟨a, vs, e1, s1, r1⟩ := h.tup R.le
      refine ⟨a, vs, by rw [e1], .inr ⟨s1, ?_⟩⟩
      rcases h with h | ⟨_, _, _, _, e3, _⟩
      · rw [← e1]
        exact P v H Fz F (Same.refl _) R h
      · cases e3
    | _ => simp only [q] at P; exact P.elim
/-! ### sorted, of ints -/
def sortI (ns : List Int) : List Int := ns.mergeSort fun a b => decide (a ≤ b)
theorem sortI_perm (ns : List Int) : (sortI ns).Perm ns := List.mergeSort_perm _ _
theorem sortI_up (ns : List Int) : (sortI ns).Pairwise (· ≤ ·) := by
  have h := List.pairwise_mergeSort (le := fun a b : Int => decide (a ≤ b)) (fun a b c h1 h2 => by simp at *; omega) (fun a b => by simp; omega) ns
  exact h.imp fun {a b} q => of_decide_eq_true q
theorem up_unique : ∀ {xs ys : List Int}, xs.Perm ys → xs.Pairwise (· ≤ ·) → ys.Pairwise (· ≤ ·) → xs = ys
  | [], ys, p, _, _ => by rw [List.Perm.eq_nil (p.symm)]
  | x :: xs, [], p, _, _ => by cases p.eq_nil
  | x :: xs, y :: ys, p, h1, h2 => by
    rw [List.pairwise_cons] at h1 h2
    have e : x = y := by
      have a1 : x ∈ y :: ys := p.mem_iff.mp List.mem_cons_self
      have a2 : y ∈ x :: xs := p.mem_iff.mpr List.mem_cons_self
      rcases List.mem_cons.mp a1 with z | z
      · exact z
      · rcases List.mem_cons.mp a2 with w | w
        · exact w.symm
        · have := h1.1 y w
          have := h2.1 x z
          omega
    subst e
    rw [up_unique (List.Perm.cons_inv p) h1.2 h2.2]
theorem sortI_eq {ns ms : List Int} (p : ms.Perm ns) (h : ms.Pairwise (· ≤ ·)) : ms = sortI ns := up_unique (p.trans (sortI_perm ns).symm) h (sortI_up ns)
def gSortI (x : AV) (δ : List Sl) : Rs AV := match rdA δ x with
  | some (.list ds) => (match intsOf ds with
    | some ns => .ok (.tmp (.ol (((sortI ns).map .int).map .fz))) δ
    | none => .bad)
  | _ => .bad
theorem c1_sortI : C1 K mg W pin (rSortedI K) gSortI := by
  intro b Fz F δ σ H v x Q hp R A P
  unfold gSortI at P
  cases q : rdA δ x with
  | none => simp only [q] at P; exact P.elim
  | some d =>
    have h := rdA_ok R A q
    cases d with
    | list ds =>
      cases q1 : intsOf ds with
      | none => simp only [q, q1] at P; exact P.elim
      | some ns =>
        simp only [q, q1] at P
        have e1 := intsOf_eq q1
        subst e1
        cases h with
        | lst h1 h2 =>
          have e2 := h2.ints
          subst e2
          refine ⟨_, ns, rfl, h1.sq, fun ns' p pe up np => ?_⟩
          rw [sortI_eq pe up]
          exact post_newL R (RpL.ofInts _) P p np
    | _ => simp only [q] at P; exact P.elim
end
/-! ### isinstance -/
def tyD : PyData → String
  | .none => "NoneType"
  | .bool _ => "bool"
  | .int _ => "int"
  | .str _ => "str"
  | .list _ => "list"
  | .tuple _ => "tuple"
  | .dict _ => "dict"
def isiB (a b : String) : Bool := a == b || (a == "bool" && b == "int")
def gIsi (T : String) : AV → List Sl → Rs AV := gRd fun d => some (.bool (isiB (tyD d) T))
theorem tyx_of {K : PySem.W.Frag} {H : Hp} {v : V} {d : PyData} (h : Rp K H v d) : TyX K H v (.type (tyD d)) := by
  cases h with
  | non => exact .base .non
  | bl b => exact .base (.bl b)
  | int i => exact .base (.int i)
  | str x => exact .base (.str x)
  | lst h1 h2 =>
    rcases h1 with (h | ⟨o, h⟩) | ⟨its, n, h, _⟩
    · exact .base (.lst h)
    · exact .base (.frz h)
    · exact .kList h rfl
  | tup h1 h2 =>
    rcases h1 with (h | ⟨o, h⟩) | ⟨o, its, n, h, hc, _⟩
    · exact .base (.tup h)
    · exact .fTuple h
    · exact .kTuple h hc
  | dK h1 h2 => exact .base (.dK h1)
  | dT h1 h2 => exact .base (.dT h1)
def rIsi1 (K : PySem.W.Frag) (T : String) : List V → Hp → VK → Prop := fun xs H Q => ∃ x, xs = [x, .ty T] ∧ ∃ t b, TyX K H x (.type t) ∧ PySem.W.kitOne K (.type t) (.type T) = some b ∧ Q (.bl b) H
def kitAll (T : String) : Bool := ["NoneType", "bool", "int", "str", "list", "tuple", "dict"].all fun t => decide (kitB t T = some (isiB t T))
theorem se_isi {X : Cx} {W : WX} {pin : List Nat} {fa : List Sl → Rs AV} {a : Expr} {y : Str} {T : String} {p p2 pos : Pos} (hk : kitAll T = true) (hg : Gl X "isinstance") (hm : X.mg "isinstance" = none) (hg2 : Gl X y) (hm2 : X.mg y = none) (hv2 : bootBuiltins y = some (.type T)) (ha : SE X W pin a fa)
    (hn : y ≠ "__name__" := by decide) (hdb : (y == ("__debug__" : Str)) = false := by decide) (he : starEach [a, .Name y p2] X.env = (false, eval a X.env) :: starEach [.Name y p2] X.env := by rfl) : SE X W pin (.Call (.Name "isinstance" p) [a, .Name y p2] [] pos) (s1 (gIsi T) fa) :=
  pe_mono (pe_callB call_isi hg hm PyProof.Rows.boot_isinstance (pa_cons (se_st ha) (pa_cons (pe_bltn (v := .ty T) hg2 hm2 hv2 rfl hn hdb) pa_nil) he) (by decide) (by decide) he) fun σ H Q ⟨b, Fz, F, δ, hp, R, P⟩ => by
    refine rd_bind hp R P fun v H1 Fz1 F1 x δ1 s1 R1 A1 P1 => ?_
    unfold gIsi gRd at P1
    cases q : rdA δ1 x with
    | none => simp only [q, Option.bind_none] at P1; exact P1.elim
    | some d =>
      simp only [q, Option.bind_some, flatD, if_true] at P1
      have r := rdA_ok R1 A1 q
      refine ⟨v, .ty T, .type (tyD d), .type T, isiB (tyD d) T, rfl, .ty T, tyx_of r, kit_ty ?_, P1 _ H1 Fz1 F1 (Same.refl _) R1 (.bl _)⟩
      unfold kitAll at hk
      rw [List.all_eq_true] at hk
      have hin : tyD d ∈ ["NoneType", "bool", "int", "str", "list", "tuple", "dict"] := by cases d <;> simp [tyD]
      exact of_decide_eq_true (hk _ hin)
end Hb

/-! part Hb5 -/
namespace Hb
open PySem PySem.Spec PyProof.Rows L2

/-! ### a list of one's own changes -/
theorem Rl.mut {K : PySem.W.Frag} {b : Bk} {Fz : Hp} {F : Nat → List Addr} {δ : List Sl} {σ : L2.St} {H : Hp} (R : Rl K b Fz F δ σ H) {i : Nat} {xs es : List El} {l : Addr} {vs : List V} {g : List Addr}
    (hs : δ[i]? = some (.ol xs)) (hv : σ[i]? = some (some (.ref l))) (hE : ElL K Fz H g vs es) (hg : (l :: g).Nodup) (sub : ∀ a ∈ g, a ∈ F i) :
    Rl K b Fz (fun k => if k = i then l :: g else F k) (upS i (.ol es) δ) σ (upd H l (.lst vs)) := by
  obtain ⟨a, ws, g0, e1, e2, e3, e4⟩ := R.slot i _ hs
  rw [hv] at e1
  cases e1
  have hl : l ∈ F i := by rw [e2]; exact List.mem_cons_self
  have ne : ∀ c, Fz c ≠ none → c ≠ l := fun c hc z => hc (by rw [z]; exact R.offF i l hl)
  have neB : ∀ c, b.B c ≠ none → c ≠ l := fun c hc z => hc (by rw [z]; exact R.offB i l hl)
  have all : ∀ a ∈ l :: g, a ∈ F i := fun a ha => (List.mem_cons.mp ha).elim (fun z => by rw [z]; exact hl) (sub a)
  refine R.put (Same.refl _) (fun c o e => ?_) (fun c o e => ?_) rfl (fun _ _ => rfl) (.inl rfl) (fun _ => ?_) (fun x j z => nomatch z) hg (fun a ha => R.offF i a (all a ha)) (fun a ha => R.offB i a (all a ha)) (fun a ha k hk hin => hk (R.dj k i a hin (all a ha))) (fun a ha => ?_) (fun k hk a ha => ?_) (fun k hk a ha => R.offF k a ha) (fun _ _ => rfl)
  · rw [upd_ne (ne c (by rw [e]; simp))]
    exact R.le c o e
  · rw [upd_ne (neB c (by rw [e]; simp))]
    exact R.base c o e
  · rw [hv]
    refine ⟨l, vs, g, rfl, rfl, upd_same, hE.keeps (Same.refl _) fun c hc => upd_ne fun z => ?_⟩
    subst z
    exact (List.nodup_cons.mp hg).1 hc
  · by_cases z : a = l
    · rw [z, upd_same]; simp
    · rw [upd_ne z]
      exact R.on i a (all a ha)
  · exact upd_ne fun z => hk (R.dj k i a ha (by rw [z]; exact hl))
theorem Rl.own {K : PySem.W.Frag} {b : Bk} {Fz : Hp} {F : Nat → List Addr} {δ : List Sl} {σ : L2.St} {H : Hp} (R : Rl K b Fz F δ σ H) {i : Nat} {xs : List El} {v : V} (hs : δ[i]? = some (.ol xs)) (hv : σ[i]? = some (some v)) :
    ∃ l vs g, v = .ref l ∧ H l = some (.lst vs) ∧ ElL K Fz H g vs xs ∧ F i = l :: g ∧ (l :: g).Nodup := by
  obtain ⟨a, ws, g0, e1, e2, e3, e4⟩ := R.slot i _ hs
  rw [hv] at e1
  cases e1
  exact ⟨a, ws, g0, rfl, e3, e4, e2, by rw [← e2]; exact R.nd i⟩
theorem ElL.app {K : PySem.W.Frag} {Fz H : Hp} : ∀ {f g : List Addr} {vs ws : List V} {es ds : List El}, ElL K Fz H f vs es → ElL K Fz H g ws ds → ElL K Fz H (f ++ g) (vs ++ ws) (es ++ ds)
  | _, _, _, _, _, _, .nil, s => s
  | _, _, _, _, _, _, .cons h t, s => by
    rw [List.append_assoc]
    exact .cons h (t.app s)

/-! ### methods of lists -/
def appI (i : Nat) (d : PyData) (δ : List Sl) : Rs AV := match δ[i]? with
  | some (.ol xs) => if xs.length ≤ cap then .ok (.val .none) (upS i (.ol (xs ++ [.fz d])) δ) else .bad
  | _ => .bad
def appA (x : AV) (d : PyData) (δ : List Sl) : Rs AV := match x with
  | .ref i => appI i d δ
  | _ => .bad
def isLst (δ : List Sl) (x : AV) : Bool := match rdA δ x with
  | some (.list _) => true
  | _ => false
def sApp (fo fa : List Sl → Rs AV) : List Sl → Rs AV := fun δ => (sSt fo δ).bind fun x δ1 => if isLst δ1 x = true then (sTk fa δ1).val fun d δ2 => appA x d δ2
  else .bad
theorem isLst_ty {K : PySem.W.Frag} {b : Bk} {Fz : Hp} {F : Nat → List Addr} {δ : List Sl} {σ : L2.St} {H : Hp} {v : V} {x : AV} (R : Rl K b Fz F δ σ H) (A : AvS K Fz σ v x) (h : isLst δ x = true) : tyV K "list" v H := by
  unfold isLst at h
  cases q : rdA δ x with
  | none => rw [q] at h; cases h
  | some d =>
    rw [q] at h
    cases d with
    | list ds =>
      have r := rdA_ok R A q
      cases r with
      | lst h1 h2 => exact .inl ⟨rfl, _, h1.sq⟩
    | _ => cases h
section
variable {K : PySem.W.Frag} {mg : Str → Option Value} {W : WX} {pin : List Nat}
theorem rd_val {f : List Sl → Rs AV} {σ : L2.St} {H : Hp} {b : Bk} {Fz : Hp} {F : Nat → List Addr} {δ : List Sl} {k : PyData → List Sl → Rs AV} {Q : VK} {R : VK} (hp : b.pin = pin) (Rr : Rl K b Fz F δ σ H) (P : Post K mg W b Fz σ Q ((sTk f δ).val k))
    (h : ∀ v H' Fz' F' d δ', Same Fz Fz' → Rl K b Fz' F' δ' σ H' → Rp K Fz' v d → Post K mg W b Fz' σ Q (k d δ') → R v H') : rdE K mg W pin (sTk f) σ H R := by
  refine ⟨b, Fz, F, δ, hp, Rr, ?_⟩
  cases q : sTk f δ with
  | bad => rw [q] at P; exact P
  | er x δ' => rw [q] at P; exact P
  | ok a δ' =>
    rw [q] at P
    intro v H' Fz' F' s R' A
    cases a with
    | tmp t => exact False.elim P
    | ref i => exact False.elim P
    | val d => exact h v H' Fz' F' d δ' s R' A (Post.le s P)
theorem app_ok {b : Bk} {Fz : Hp} {F : Nat → List Addr} {δ : List Sl} {σ : L2.St} {H : Hp} {Q : VK} {v w : V} {x : AV} {d : PyData} (R : Rl K b Fz F δ σ H) (A : AvS K Fz σ v x) (r : Rp K Fz w d) (P : Post K mg W b Fz σ Q (appA x d δ)) : rAppend v [w] H Q := by
  cases x with
  | val e => exact P.elim
  | tmp s => exact P.elim
  | ref i =>
    have hv : σ[i]? = some (some v) := A
    have P : Post K mg W b Fz σ Q (appI i d δ) := P
    unfold appI at P
    cases q : δ[i]? with
    | none => simp only [q] at P; exact P.elim
    | some s =>
      cases s with
      | ol xs =>
        simp only [q] at P
        by_cases c : xs.length ≤ cap
        · rw [if_pos c] at P
          obtain ⟨l, vs, g, e1, e2, e3, e4, e5⟩ := R.own q hv
          subst e1
          have e6 : ElL K Fz H (g ++ ([] ++ [])) (vs ++ [w]) (xs ++ [.fz d]) := e3.app (.cons ⟨rfl, r⟩ .nil)
          rw [List.append_nil, List.append_nil] at e6
          have R' := R.mut q hv e6 e5 (fun a ha => by rw [e4]; exact List.mem_cons_of_mem _ ha)
          exact ⟨l, vs, w, rfl, rfl, e2, by rw [e3.len]; exact lt_line c, P .non _ Fz _ (Same.refl _) R' .non⟩
        · rw [if_neg c] at P
          exact P.elim
      | _ => simp only [q] at P; exact P.elim
end
section
variable {X : Cx} {W : WX} {pin : List Nat} {fo fa : List Sl → Rs AV} {o e : Expr} {apos cpos : Pos}
theorem se_app (ho : SE X W pin o fo) (ha : SE X W pin e fa) (hbase : attributeBase o "append" X.env (eval o X.env) = eval o X.env := by rfl) (hline : (apos.endLine == cpos.line) = true := by rfl)
    (hs : starEach [e] X.env = (false, eval e X.env) :: starEach [] X.env := by rfl) (hfew : ((backTo cpos (starEach [e] X.env)).all (fun x => !x.1) && (backToKw cpos (keywordEach [] X.env)).all (fun x => x.1.isSome)
      && decide ([e].length + ([] : List Keyword).length + (if ([] : List Keyword).isEmpty then 0 else 1) < 30)) = true := by rfl) :
    SE X W pin (.Call (.Attribute o "append" apos) [e] [] cpos) (sApp fo fa) :=
  pe_mono (pe_bm PySem.F.plainAttrs_list PySem.F.slot_list_append PySem.F.type_list_append mt_append (se_st ho) (pa_cons (se_tk ha) pa_nil hs) hbase hfew hline hs rfl) fun σ H Q ⟨b, Fz, F, δ, hp, R, P⟩ => by
    refine rd_bind hp R P fun v H1 Fz1 F1 x δ1 s1 R1 A1 P1 => ?_
    by_cases c : isLst δ1 x = true
    · rw [if_pos c] at P1
      refine ⟨isLst_ty R1 A1 c, ?_⟩
      refine rd_val hp R1 P1 fun w H2 Fz2 F2 d δ2 s2 R2 A2 P2 => ?_
      exact app_ok R2 (A1.le s2) A2 P2
    · rw [if_neg c] at P1
      exact P1.elim
/-- xs.pop(i) -/
def popI (i : Nat) (k : Int) (δ : List Sl) : Rs AV := match δ[i]? with
  | some (.ol xs) => (match allFz xs with
    | some ds => (match ixN ds.length k with
      | some j => (match ds[j]? with
        | some d => if ds.length ≤ cap then .ok (.val d) (upS i (.ol ((ds.eraseIdx j).map .fz)) δ) else .bad
        | none => .bad)
      | none => .bad)
    | none => .bad)
  | _ => .bad
def sPop1 (fo fa : List Sl → Rs AV) : List Sl → Rs AV := fun δ => (sSt fo δ).bind fun x δ1 => if isLst δ1 x = true then (sTk fa δ1).val fun d δ2 => match x, d with
  | .ref i, .int k => popI i k δ2
  | _, _ => .bad
  else .bad
theorem pop_ok {K : PySem.W.Frag} {mg : Str → Option Value} {b : Bk} {Fz : Hp} {F : Nat → List Addr} {δ : List Sl} {σ : L2.St} {H : Hp} {Q : VK} {v : V} {i : Nat} {k : Int} (R : Rl K b Fz F δ σ H) (hv : σ[i]? = some (some v)) (P : Post K mg W b Fz σ Q (popI i k δ)) :
    ∃ l vs j u, v = .ref l ∧ H l = some (.lst vs) ∧ ixN vs.length k = some j ∧ vs[j]? = some u ∧ vs.length ≤ cap ∧ Q u (upd H l (.lst (vs.eraseIdx j))) := by
  unfold popI at P
  cases q : δ[i]? with
  | none => simp only [q] at P; exact P.elim
  | some s =>
    cases s with
    | ol xs =>
      simp only [q] at P
      cases q2 : allFz xs with
      | none => simp only [q2] at P; exact P.elim
      | some ds =>
        simp only [q2] at P
        cases q3 : ixN ds.length k with
        | none => simp only [q3] at P; exact P.elim
        | some j =>
          simp only [q3] at P
          cases q4 : ds[j]? with
          | none => simp only [q4] at P; exact P.elim
          | some d =>
            simp only [q4] at P
            by_cases c : ds.length ≤ cap
            · rw [if_pos c] at P
              obtain ⟨l, vs, g, e1, e2, e3, e4, e5⟩ := R.own q hv
              subst e1
              have rp := e3.allFz q2
              obtain ⟨u, hu, ru⟩ := rp.get q4
              have R' := R.mut (g := []) q hv (ElL.ofFz (rp.eraseIdx j)) (by simp) (fun a ha => nomatch ha)
              exact ⟨l, vs, j, u, rfl, e2, by rw [rp.len]; exact q3, hu, by rw [rp.len]; exact c, P u _ Fz _ (Same.refl _) R' ru⟩
            · rw [if_neg c] at P
              exact P.elim
    | _ => simp only [q] at P; exact P.elim
theorem se_pop1 (ho : SE X W pin o fo) (ha : SE X W pin e fa) (hbase : attributeBase o "pop" X.env (eval o X.env) = eval o X.env := by rfl) (hline : (apos.endLine == cpos.line) = true := by rfl)
    (hs : starEach [e] X.env = (false, eval e X.env) :: starEach [] X.env := by rfl) (hfew : ((backTo cpos (starEach [e] X.env)).all (fun x => !x.1) && (backToKw cpos (keywordEach [] X.env)).all (fun x => x.1.isSome)
      && decide ([e].length + ([] : List Keyword).length + (if ([] : List Keyword).isEmpty then 0 else 1) < 30)) = true := by rfl) :
    SE X W pin (.Call (.Attribute o "pop" apos) [e] [] cpos) (sPop1 fo fa) :=
  pe_mono (pe_bm PySem.F.plainAttrs_list PySem.F.slot_list_pop PySem.F.type_list_pop mt_popAt (se_st ho) (pa_cons (se_tk ha) pa_nil hs) hbase hfew hline hs rfl) fun σ H Q ⟨b, Fz, F, δ, hp, R, P⟩ => by
    refine rd_bind hp R P fun v H1 Fz1 F1 x δ1 s1 R1 A1 P1 => ?_
    by_cases c : isLst δ1 x = true
    · rw [if_pos c] at P1
      refine ⟨isLst_ty R1 A1 c, ?_⟩
      refine rd_val hp R1 P1 fun w H2 Fz2 F2 d δ2 s2 R2 A2 P2 => ?_
      cases x with
      | val e => exact P2.elim
      | tmp s => exact P2.elim
      | ref i =>
        cases d with
        | int k =>
          cases (show Rp X.K Fz2 w (.int k) from A2)
          obtain ⟨l, vs, j, u, e1, e2, e3, e4, e5, e6⟩ := pop_ok R2 (show σ[i]? = some (some v) from A1) P2
          obtain ⟨k1, k2, k3, k4⟩ := ixN_seq e3
          have : vs.length ≤ 1000000 := e5
          exact ⟨l, vs, k, j, u, e1, rfl, e2, by omega, by omega, k1, e4, e6⟩
        | _ => exact P2.elim
    · rw [if_neg c] at P1
      exact P1.elim
/-- xs.pop() -/
def sPop0 (fo : List Sl → Rs AV) : List Sl → Rs AV := fun δ => (sSt fo δ).bind fun x δ1 => if isLst δ1 x = true then match x with
  | .ref i => popI i (-1) δ1
  | _ => .bad
  else .bad
theorem se_pop0 (ho : SE X W pin o fo) (hbase : attributeBase o "pop" X.env (eval o X.env) = eval o X.env := by rfl) (hline : (apos.endLine == cpos.line) = true := by rfl) :
    SE X W pin (.Call (.Attribute o "pop" apos) [] [] cpos) (sPop0 fo) :=
  pe_mono (pe_bm0 PySem.F.plainAttrs_list PySem.F.slot_list_pop PySem.F.type_list_pop mt_pop (se_st ho) hbase hline) fun σ H Q ⟨b, Fz, F, δ, hp, R, P⟩ => by
    refine rd_bind hp R P fun v H1 Fz1 F1 x δ1 s1 R1 A1 P1 => ?_
    by_cases c : isLst δ1 x = true
    · rw [if_pos c] at P1
      refine ⟨isLst_ty R1 A1 c, ?_⟩
      cases x with
      | val e => exact P1.elim
      | tmp s => exact P1.elim
      | ref i =>
        obtain ⟨l, vs, j, u, e1, e2, e3, e4, e5, e6⟩ := pop_ok R1 (show σ[i]? = some (some v) from A1) P1
        have ej : j = vs.length - 1 := by
          unfold ixN at e3
          rw [if_neg (by decide)] at e3
          by_cases h : -(vs.length : Int) ≤ -1
          · rw [if_pos h] at e3
            have := Option.some.inj e3
            omega
          · rw [if_neg h] at e3
            cases e3
        subst ej
        refine ⟨l, vs, u, e1, rfl, e2, e4, ?_⟩
        rw [List.eraseIdx_length_sub_one] at e6
        exact e6
    · rw [if_neg c] at P1
      exact P1.elim
end

/-! ### statements -/
inductive Ot where
  | nx (δ : List Sl) | rt (s : Sl) (δ : List Sl) | bk (δ : List Sl) | ct (δ : List Sl) | er (x : Exn) (δ : List Sl) | bad
section
variable (K : PySem.W.Frag) (mg : Str → Option Value) (W : WX)
def PostXS (b : Bk) (Fz : Hp) (x : Exn) (δ : List Sl) : Prop := ∀ c dd σ' H' Fz' F', Same Fz Fz' → Rl K b Fz' F' δ σ' H' → ExR K mg Fz' H' x c dd → W c dd σ' H'
def PostS (b : Bk) (Fz : Hp) (D : Ends) : Ot → Prop
  | .nx δ => ∀ σ' H' Fz' F', Same Fz Fz' → Rl K b Fz' F' δ σ' H' → D.nx σ' H'
  | .rt s δ => ∀ v σ' H' Fz' F', Same Fz Fz' → Rl K b Fz' F' δ σ' H' → AvR K b Fz' F' H' σ' v (.tmp s) → D.rt v H'
  | .bk δ => ∀ σ' H' Fz' F', Same Fz Fz' → Rl K b Fz' F' δ σ' H' → D.bk σ' H'
  | .ct δ => ∀ σ' H' Fz' F', Same Fz Fz' → Rl K b Fz' F' δ σ' H' → D.ct σ' H'
  | .er x δ => PostXS K mg W b Fz x δ
  | .bad => False
def rdS (pin : List Nat) (f : List Sl → Ot) : TS := fun D σ H => ∃ b Fz F δ, b.pin = pin ∧ Rl K b Fz F δ σ H ∧ PostS K mg W b Fz D (f δ)
end
abbrev SS (X : Cx) (W : WX) (pin : List Nat) (st : Stmt) (f : List Sl → Ot) : Prop := PS X st (rdS X.K X.mg W pin f)
abbrev SSs (X : Cx) (W : WX) (pin : List Nat) (st : List Stmt) (f : List Sl → Ot) : Prop := PSs X st (rdS X.K X.mg W pin f)
theorem ps_mono {X : Cx} {st : Stmt} {t t' : TS} (h : PS X st t) (i : ∀ D σ H, t' D σ H → t D σ H) : PS X st t' := ⟨fun pins s σ H D I q => h.run pins s σ H D I (i D σ H q)⟩
theorem pss_mono {X : Cx} {st : List Stmt} {t t' : TS} (h : PSs X st t) (i : ∀ D σ H, t' D σ H → t D σ H) : PSs X st t' := ⟨fun pins s σ H D I q => h.run pins s σ H D I (i D σ H q)⟩
def Rs.ot {α : Type} (r : Rs α) (k : α → List Sl → Ot) : Ot := match r with
  | .ok a δ => k a δ
  | .er x δ => .er x δ
  | .bad => .bad
def oNext : List Sl → Ot := fun δ => .nx δ
def oSeq (f g : List Sl → Ot) : List Sl → Ot := fun δ => match f δ with
  | .nx δ' => g δ'
  | r => r
def oIf (t : List Sl → Rs Bool) (f g : List Sl → Ot) : List Sl → Ot := fun δ => (t δ).ot fun k δ' => if k = true then f δ' else g δ'
def oDrop (f : List Sl → Rs AV) : List Sl → Ot := fun δ => (f δ).ot fun _ δ' => .nx δ'
def oRet (f : List Sl → Rs AV) : List Sl → Ot := fun δ => (sMv f δ).ot fun a δ' => match a with
  | .val d => .rt (.fz d) δ'
  | .tmp s => .rt s δ'
  | .ref _ => .bad
def oRetN : List Sl → Ot := fun δ => .rt (.fz .none) δ
section
variable {K : PySem.W.Frag} {mg : Str → Option Value} {W : WX} {pin : List Nat} {b : Bk} {Fz Fz1 : Hp}
theorem PostXS.le {x : Exn} {δ : List Sl} (s : Same Fz Fz1) (p : PostXS K mg W b Fz x δ) : PostXS K mg W b Fz1 x δ := fun c dd σ' H' Fz' F' s' R e => p c dd σ' H' Fz' F' (s.trans s') R e
theorem PostXS.at_ {x : Exn} {δ : List Sl} {σ : L2.St} (p : PostXS K mg W b Fz x δ) : PostX K mg W b Fz σ x δ := fun c dd H' Fz' F' s' R e => p c dd σ H' Fz' F' s' R e
theorem PostS.le {D : Ends} {r : Ot} (s : Same Fz Fz1) (p : PostS K mg W b Fz D r) : PostS K mg W b Fz1 D r := by
  cases r with
  | nx δ => exact fun σ' H' Fz' F' s' R => p σ' H' Fz' F' (s.trans s') R
  | rt t δ => exact fun v σ' H' Fz' F' s' R A => p v σ' H' Fz' F' (s.trans s') R A
  | bk δ => exact fun σ' H' Fz' F' s' R => p σ' H' Fz' F' (s.trans s') R
  | ct δ => exact fun σ' H' Fz' F' s' R => p σ' H' Fz' F' (s.trans s') R
  | er x δ => exact PostXS.le s p
  | bad => exact p
/-- behind an expression -/
theorem rdS_bind {f : List Sl → Rs AV} {σ : L2.St} {H : Hp} {F : Nat → List Addr} {δ : List Sl} {k : AV → List Sl → Ot} {D : Ends} {R : VK} (hp : b.pin = pin) (Rr : Rl K b Fz F δ σ H) (P : PostS K mg W b Fz D ((f δ).ot k))
    (h : ∀ v H' Fz' F' a δ', Same Fz Fz' → Rl K b Fz' F' δ' σ H' → AvR K b Fz' F' H' σ v a → PostS K mg W b Fz' D (k a δ') → R v H') : rdE K mg W pin f σ H R := by
  refine ⟨b, Fz, F, δ, hp, Rr, ?_⟩
  cases q : f δ with
  | bad => rw [q] at P; exact P
  | er x δ' => rw [q] at P; exact PostXS.at_ P
  | ok a δ' =>
    rw [q] at P
    exact fun v H' Fz' F' s R' A => h v H' Fz' F' a δ' s R' A (PostS.le s P)
theorem rdS_bindT {t : List Sl → Rs Bool} {σ : L2.St} {H : Hp} {F : Nat → List Addr} {δ : List Sl} {k : Bool → List Sl → Ot} {D : Ends} {R : Bool → Hp → Prop} (hp : b.pin = pin) (Rr : Rl K b Fz F δ σ H) (P : PostS K mg W b Fz D ((t δ).ot k))
    (h : ∀ c H' Fz' F' δ', Same Fz Fz' → Rl K b Fz' F' δ' σ H' → PostS K mg W b Fz' D (k c δ') → R c H') : rdT K mg W pin t σ H R := by
  refine ⟨b, Fz, F, δ, hp, Rr, ?_⟩
  cases q : t δ with
  | bad => rw [q] at P; exact P
  | er x δ' => rw [q] at P; exact PostXS.at_ P
  | ok a δ' =>
    rw [q] at P
    exact fun H' Fz' F' s R' => h a H' Fz' F' δ' s R' (PostS.le s P)
end
section
variable {X : Cx} {W : WX} {pin : List Nat} {st : Stmt} {rest : List Stmt} {e c : Expr} {pos : Pos} {f : List Sl → Rs AV} {t : List Sl → Rs Bool} {u w : List Sl → Ot}
theorem ss_nil : SSs X W pin [] oNext := pss_mono pss_nil fun D σ H ⟨b, Fz, F, δ, hp, R, P⟩ => P σ H Fz F (Same.refl _) R
theorem seq_ok {K : PySem.W.Frag} {mg : Str → Option Value} : ∀ D σ H, rdS K mg W pin (oSeq u w) D σ H → tSeq (rdS K mg W pin u) (rdS K mg W pin w) D σ H := fun D σ H ⟨b, Fz, F, δ, hp, R, P⟩ => by
  refine ⟨b, Fz, F, δ, hp, R, ?_⟩
  unfold oSeq at P
  cases q : u δ with
  | nx δ' =>
    rw [q] at P
    exact fun σ' H' Fz' F' s R' => ⟨b, Fz', F', δ', hp, R', PostS.le s P⟩
  | rt s δ' => rw [q] at P; exact P
  | bk δ' => rw [q] at P; exact P
  | ct δ' => rw [q] at P; exact P
  | er x δ' => rw [q] at P; exact P
  | bad => rw [q] at P; exact P
theorem ss_cons (h1 : SS X W pin st u) (h2 : SSs X W pin rest w) : SSs X W pin (st :: rest) (oSeq u w) := pss_mono (pss_cons h1 h2) seq_ok
theorem ss_one (h1 : SS X W pin st u) : SSs X W pin [st] u := pss_one h1
theorem ss_pass : SS X W pin (.Pass pos) oNext := ps_mono ps_pass fun D σ H ⟨b, Fz, F, δ, hp, R, P⟩ => P σ H Fz F (Same.refl _) R
theorem ss_break : SS X W pin (.Break pos) (fun δ => .bk δ) := ps_mono ps_break fun D σ H ⟨b, Fz, F, δ, hp, R, P⟩ => P σ H Fz F (Same.refl _) R
theorem ss_continue : SS X W pin (.Continue pos) (fun δ => .ct δ) := ps_mono ps_continue fun D σ H ⟨b, Fz, F, δ, hp, R, P⟩ => P σ H Fz F (Same.refl _) R
theorem ss_never : SS X W pin st (fun _ => .bad) := ps_mono ps_never fun D σ H ⟨b, Fz, F, δ, hp, R, P⟩ => P
theorem ss_expr (h : SE X W pin e f) (hs : swapsWith e none pos.line X.env = pure false := by rfl) : SS X W pin (.Expr e pos) (oDrop f) := ps_mono (ps_expr h hs) fun D σ H ⟨b, Fz, F, δ, hp, R, P⟩ =>
  rdS_bind hp R P fun v H' Fz' F' a δ' s R' A P' => P' σ H' Fz' F' (Same.refl _) R'
theorem ss_ret (h : SE X W pin e f) : SS X W pin (.Return (some e) pos) (oRet f) := ps_mono (ps_ret (se_mv h)) fun D σ H ⟨b, Fz, F, δ, hp, R, P⟩ =>
  rdS_bind hp R P fun v H' Fz' F' a δ' s R' A P' => by
    cases a with
    | val d => exact P' v σ H' Fz' F' (Same.refl _) R' ⟨rfl, [], ⟨rfl, v, rfl, A⟩, List.nodup_nil, fun _ z => nomatch z⟩
    | tmp s => exact P' v σ H' Fz' F' (Same.refl _) R' A
    | ref i => exact P'.elim
theorem ss_retN : SS X W pin (.Return none pos) oRetN := ps_mono ps_retN fun D σ H ⟨b, Fz, F, δ, hp, R, P⟩ =>
  P .non σ H Fz F (Same.refl _) R ⟨rfl, [], ⟨rfl, .non, rfl, .non⟩, List.nodup_nil, fun _ z => nomatch z⟩
theorem ss_if {a d : List Stmt} (hc : ST X W pin c t) (ha : SSs X W pin a u) (hb : SSs X W pin d w) : SS X W pin (.If c a d pos) (oIf t u w) := ps_mono (ps_if hc ha hb) fun D σ H ⟨b, Fz, F, δ, hp, R, P⟩ =>
  rdS_bindT hp R P fun k H' Fz' F' δ' s R' P' => by
    by_cases e : k = true
    · rw [if_pos e] at P' ⊢
      exact ⟨b, Fz', F', δ', hp, R', P'⟩
    · rw [if_neg e] at P' ⊢
      exact ⟨b, Fz', F', δ', hp, R', P'⟩
/-! ### while -/
def oWh (t : List Sl → Rs Bool) (f : List Sl → Ot) : Nat → List Sl → Ot
  | 0, _ => .bad
  | n + 1, δ => (t δ).ot fun k δ1 => if k = true then (match f δ1 with
    | .nx δ2 => oWh t f n δ2
    | .ct δ2 => oWh t f n δ2
    | .bk δ2 => .nx δ2
    | r => r) else .nx δ1
theorem ss_while (n : Nat) {body : List Stmt} (hp : PassesOwn (model X.prog X.w) X.A X.env X.xe) (hc : ST X W pin c t) (hb : SSs X W pin body u) : SS X W pin (.While c body [] pos) (oWh t u n) := ps_mono (ps_while hp hc hb) fun D σ H ⟨b, Fz, F, δ, hpin, R, P⟩ => by
  refine ⟨fun m σ H => ∃ Fz F δ, Rl X.K b Fz F δ σ H ∧ PostS X.K X.mg W b Fz D (oWh t u m δ), ⟨n, Fz, F, δ, R, P⟩, ?_⟩
  rintro m σ1 H1 ⟨Fz1, F1, δ1, R1, P1⟩
  cases m with
  | zero => exact P1.elim
  | succ m =>
    refine rdS_bindT hpin R1 P1 fun k H' Fz' F' δ' s R' P' => ?_
    by_cases e : k = true
    · rw [if_pos e] at P' ⊢
      refine ⟨fun σ H => ∃ Fz F δ, Rl X.K b Fz F δ σ H ∧ PostS X.K X.mg W b Fz D (oWh t u m δ), fun σ2 H2 h => ⟨m, Nat.lt_succ_self m, h⟩, b, Fz', F', δ', hpin, R', ?_⟩
      cases q : u δ' with
      | nx δ2 => rw [q] at P'; exact fun σ3 H3 Fz3 F3 s3 R3 => ⟨Fz3, F3, δ2, R3, PostS.le s3 P'⟩
      | ct δ2 => rw [q] at P'; exact fun σ3 H3 Fz3 F3 s3 R3 => ⟨Fz3, F3, δ2, R3, PostS.le s3 P'⟩
      | bk δ2 => rw [q] at P'; exact P'
      | rt s δ2 => rw [q] at P'; exact P'
      | er x δ2 => rw [q] at P'; exact P'
      | bad => rw [q] at P'; exact P'
    · rw [if_neg e] at P' ⊢
      exact P' σ1 H' Fz' F' (Same.refl _) R'
end
end Hb

/-! part Hb6 -/
namespace Hb
open PySem PySem.Spec PyProof.Rows L2

/-! ### targets: ts the slots that they store -/
/-- only the slots ts were stored -/
def Stored (ts : List Nat) (σ σ' : L2.St) : Prop := σ'.length = σ.length ∧ ∀ k, k ∉ ts → σ'[k]? = σ[k]?
theorem Stored.refl (ts : List Nat) (σ : L2.St) : Stored ts σ σ := ⟨rfl, fun _ _ => rfl⟩
section
variable (K : PySem.W.Frag) (mg : Str → Option Value) (W : WX)
def PostG (b : Bk) (Fz : Hp) (ts : List Nat) (σ : L2.St) (Q : L2.St → Hp → Prop) : Rs Unit → Prop
  | .ok _ δ => ∀ σ' H' Fz' F', Same Fz Fz' → Rl K b Fz' F' δ σ' H' → Stored ts σ σ' → Q σ' H'
  | .er x δ => PostXS K mg W b Fz x δ
  | .bad => False
def rdG (pin ts : List Nat) (t : AV → List Sl → Rs Unit) : TG := fun v σ H Q => ∃ b Fz F δ a, b.pin = pin ∧ Rl K b Fz F δ σ H ∧ AvR K b Fz F H σ v a ∧ PostG K mg W b Fz ts σ Q (t a δ)
def rdGs (pin ts : List Nat) (t : List PyData → List Sl → Rs Unit) : TGs := fun vs σ H Q => ∃ b Fz F δ ds, b.pin = pin ∧ Rl K b Fz F δ σ H ∧ RpL K Fz vs ds ∧ PostG K mg W b Fz ts σ Q (t ds δ)
end
abbrev SG (X : Cx) (W : WX) (pin ts : List Nat) (e : Expr) (t : AV → List Sl → Rs Unit) : Prop := PG X e (rdG X.K X.mg W pin ts t)
abbrev SGs (X : Cx) (W : WX) (pin ts : List Nat) (es : List Expr) (t : List PyData → List Sl → Rs Unit) : Prop := PGs X es (rdGs X.K X.mg W pin ts t)
theorem pg_mono {X : Cx} {e : Expr} {t t' : TG} (h : PG X e t) (i : ∀ v σ H Q, t' v σ H Q → t v σ H Q) : PG X e t' := ⟨fun pins s σ H v u Q I r q => h.run pins s σ H v u Q I r (i v σ H Q q)⟩
theorem pgs_mono {X : Cx} {e : List Expr} {t t' : TGs} (h : PGs X e t) (i : ∀ v σ H Q, t' v σ H Q → t v σ H Q) : PGs X e t' := ⟨fun pins s σ H v u Q I r q => h.run pins s σ H v u Q I r (i v σ H Q q)⟩
def tgN (i : Nat) (a : AV) (δ : List Sl) : Rs Unit := match a with
  | .val d => .ok () (upS i (.fz d) δ)
  | .tmp s => .ok () (upS i s δ)
  | .ref _ => .bad
def tgNil (ds : List PyData) (δ : List Sl) : Rs Unit := match ds with
  | [] => .ok () δ
  | _ => .bad
def tgCons (t : AV → List Sl → Rs Unit) (u : List PyData → List Sl → Rs Unit) (ds : List PyData) (δ : List Sl) : Rs Unit := match ds with
  | [] => .bad
  | d :: ds => (t (.val d) δ).bind fun _ δ' => u ds δ'
def tgT (n : Nat) (u : List PyData → List Sl → Rs Unit) (a : AV) (δ : List Sl) : Rs Unit := match a with
  | .val (.tuple ds) => if ds.length = n then u ds δ else .bad
  | _ => .bad
section
variable {K : PySem.W.Frag} {mg : Str → Option Value} {W : WX} {pin ts us : List Nat}
theorem PostG.le {b : Bk} {Fz Fz1 : Hp} {σ : L2.St} {Q : L2.St → Hp → Prop} {r : Rs Unit} (s : Same Fz Fz1) (p : PostG K mg W b Fz ts σ Q r) : PostG K mg W b Fz1 ts σ Q r := by
  cases r with
  | ok a δ => exact fun σ' H' Fz' F' s' R e => p σ' H' Fz' F' (s.trans s') R e
  | er x δ => exact PostXS.le s p
  | bad => exact p
theorem upd_slot {σ : L2.St} {i k : Nat} {v : V} (h : k ≠ i) : (σ.set i (some v))[k]? = σ[k]? := List.getElem?_set_ne (Ne.symm h)
/-- a name gets a value -/
theorem Rl.name {b : Bk} {Fz : Hp} {F : Nat → List Addr} {δ : List Sl} {σ : L2.St} {H : Hp} {i : Nat} {v : V} {s : Sl} {g : List Addr} (R : Rl K b Fz F δ σ H) (hi : i ∉ b.pin) (ht : s.tree.isSome = true) (hs : SlH K Fz H [] g (some v) s) (hn : g.Nodup)
    (hg : ∀ a ∈ g, Fz a = none ∧ b.B a = none ∧ H a ≠ none ∧ ∀ i, a ∉ F i) : Rl K b Fz (fun k => if k = i then g else F k) (upS i s δ) (σ.set i (some v)) H := by
  refine R.put (Same.refl _) R.le R.base (List.length_set) (fun k hk => upd_slot hk) (.inr hi) (fun hlt => ?_) (fun x j z => by subst z; cases ht) hn (fun a ha => (hg a ha).1) (fun a ha => (hg a ha).2.1) (fun a ha k _ => (hg a ha).2.2.2 k) (fun a ha => (hg a ha).2.2.1) (fun _ _ _ _ => rfl) (fun k _ a ha => R.offF k a ha) (fun _ _ => rfl)
  rw [List.getElem?_set_self (by rw [R.len]; exact hlt)]
  cases s with
  | no => cases ht
  | al x j => cases ht
  | fz d => exact hs
  | ol xs => exact hs
  | od kvs => exact hs
theorem tgN_ok {b : Bk} {Fz : Hp} {F : Nat → List Addr} {δ : List Sl} {σ : L2.St} {H : Hp} {i : Nat} {v : V} {a : AV} {Q : L2.St → Hp → Prop} (hi : i ∈ ts) (hpin : i ∉ b.pin) (R : Rl K b Fz F δ σ H) (A : AvR K b Fz F H σ v a) (P : PostG K mg W b Fz ts σ Q (tgN i a δ)) : Q (σ.set i (some v)) H := by
  have fr : Stored ts σ (σ.set i (some v)) := ⟨List.length_set, fun k hk => upd_slot fun z => hk (by rw [z]; exact hi)⟩
  cases a with
  | val d => exact P _ H Fz _ (Same.refl _) (R.name hpin rfl (g := []) ⟨rfl, v, rfl, A⟩ List.nodup_nil fun _ z => nomatch z) fr
  | tmp s =>
    obtain ⟨ht, g, h1, h2, h3⟩ := A
    exact P _ H Fz _ (Same.refl _) (R.name hpin ht h1 h2 h3) fr
  | ref j => exact P.elim
end
section
variable {X : Cx} {W : WX} {pin ts us : List Nat} {pos : Pos}
theorem sg_name (i : Nat) {x : Str} (hN : X.N.Nodup) (hi : X.N[i]? = some x) (hx : Loc X.env.scope x) (hp : i ∉ pin) (hf : X.fn x = true ∨ X.env.scope.names.lookup x = some .local := by first | exact .inl rfl | exact .inr rfl | assumption) : SG X W pin [i] (.Name x pos) (tgN i) :=
  pg_mono (pg_name hN hi hx hf) fun v σ H Q ⟨b, Fz, F, δ, a, hpin, R, A, P⟩ => tgN_ok (List.mem_singleton.mpr rfl) (by rw [hpin]; exact hp) R A P
theorem sgs_nil : SGs X W pin [] [] tgNil := pgs_mono pgs_nil fun vs σ H Q ⟨b, Fz, F, δ, ds, hpin, R, A, P⟩ => by
  cases A with
  | nil => exact ⟨rfl, P σ H Fz F (Same.refl _) R (Stored.refl _ _)⟩
  | cons h t => exact P.elim
theorem sgs_cons {e : Expr} {es : List Expr} {t : AV → List Sl → Rs Unit} {u : List PyData → List Sl → Rs Unit} (h1 : SG X W pin ts e t) (h2 : SGs X W pin us es u)
    (hs : (assignEach (e :: es) X.env).map (·.2) = assign e X.env :: (assignEach es X.env).map (·.2) := by rfl) : SGs X W pin (ts ++ us) (e :: es) (tgCons t u) := pgs_mono (pgs_cons h1 h2 hs) fun vs σ H Q ⟨b, Fz, F, δ, ds, hpin, R, A, P⟩ => by
  cases A with
  | nil => exact P.elim
  | @cons v0 vs0 d ds h r =>
    refine ⟨_, _, rfl, b, Fz, F, δ, .val d, hpin, R, h, ?_⟩
    have P : PostG X.K X.mg W b Fz (ts ++ us) σ Q ((t (.val d) δ).bind fun _ δ' => u ds δ') := P
    cases q : t (.val d) δ with
    | bad => rw [q] at P; exact P
    | er x δ' => rw [q] at P; exact P
    | ok a δ' =>
      rw [q] at P
      have P : PostG X.K X.mg W b Fz (ts ++ us) σ Q (u ds δ') := P
      intro σ1 H1 Fz1 F1 s1 R1 fr1
      refine ⟨b, Fz1, F1, δ', ds, hpin, R1, r.mono s1, ?_⟩
      cases q2 : u ds δ' with
      | bad => rw [q2] at P; exact P
      | er x δ2 => rw [q2] at P; exact PostXS.le s1 P
      | ok a δ2 =>
        rw [q2] at P
        exact fun σ2 H2 Fz2 F2 s2 R2 fr2 => P σ2 H2 Fz2 F2 (s1.trans s2) R2 ⟨fr2.1.trans fr1.1, fun k hk => (fr2.2 k fun z => hk (List.mem_append_right _ z)).trans (fr1.2 k fun z => hk (List.mem_append_left _ z))⟩
theorem sg_tup {es : List Expr} {k n : Nat} {u : List PyData → List Sl → Rs Unit} (hc : X.calm = true) (h : SGs X W pin ts es u)
    (hn : (assignEach es X.env).length = n := by rfl) (hst : (assignEach es X.env).findIdx? (·.1) = none := by rfl) : SG X W pin ts (.Tuple es k pos) (tgT n u) := pg_mono (pg_tup hc h hn hst) fun v σ H Q ⟨b, Fz, F, δ, a, hpin, R, A, P⟩ => by
  cases a with
  | tmp s => exact P.elim
  | ref i => exact P.elim
  | val d =>
    cases d with
    | tuple ds =>
      have P : PostG X.K X.mg W b Fz ts σ Q (if ds.length = n then u ds δ else .bad) := P
      by_cases c : ds.length = n
      · rw [if_pos c] at P
        cases (show Rp X.K Fz v (.tuple ds) from A) with
        | tup h1 h2 => exact ⟨_, _, rfl, same_sqT R.le h1, by rw [h2.len]; exact c, b, Fz, F, δ, ds, hpin, R, h2, P⟩
      · rw [if_neg c] at P
        exact P.elim
    | _ => exact P.elim

/-! ### assignments -/
def Rs.otU (r : Rs Unit) : Ot := match r with
  | .ok _ δ => .nx δ
  | .er x δ => .er x δ
  | .bad => .bad
def oAsg (f : List Sl → Rs AV) (t : AV → List Sl → Rs Unit) : List Sl → Ot := fun δ => (f δ).ot fun a δ' => (t a δ').otU
theorem asg_ok {K : PySem.W.Frag} {mg : Str → Option Value} {f : List Sl → Rs AV} {t : AV → List Sl → Rs Unit} : ∀ D σ H, rdS K mg W pin (oAsg f t) D σ H → tAsg (rdE K mg W pin f) (rdG K mg W pin ts t) D σ H := fun D σ H ⟨b, Fz, F, δ, hp, R, P⟩ => by
  refine rdS_bind hp R P fun v H' Fz' F' a δ' s R' A P' => ?_
  refine ⟨b, Fz', F', δ', a, hp, R', A, ?_⟩
  cases q : t a δ' with
  | bad => rw [q] at P'; exact P'
  | er x δ2 => rw [q] at P'; exact P'
  | ok u δ2 =>
    rw [q] at P'
    exact fun σ2 H2 Fz2 F2 s2 R2 _ => P' σ2 H2 Fz2 F2 s2 R2
theorem ss_set (i : Nat) {x : Str} {e : Expr} {f : List Sl → Rs AV} {pos' : Pos} (hN : X.N.Nodup) (hi : X.N[i]? = some x) (hx : Loc X.env.scope x) (hp : i ∉ pin) (he : SE X W pin e f) (hs : swapsWith e (some (.Name x pos')) pos.line X.env = pure false := by rfl) (hf : X.fn x = true ∨ X.env.scope.names.lookup x = some .local := by first | exact .inl rfl | exact .inr rfl | assumption) :
    SS X W pin (.Assign [.Name x pos'] e pos) (oAsg f (tgN i)) := ps_mono (ps_set hN hi hx he hs hf) fun D σ H h => by
  obtain ⟨b, Fz, F, δ, hpin, R, P⟩ := h
  refine rdS_bind hpin R P fun v H' Fz' F' a δ' s R' A P' => ?_
  refine tgN_ok (K := X.K) (mg := X.mg) (W := W) (b := b) (ts := [i]) (List.mem_singleton.mpr rfl) (by rw [hpin]; exact hp) R' A ?_
  cases q : tgN i a δ' with
  | bad => rw [q] at P'; exact P'
  | er x δ2 => rw [q] at P'; exact P'
  | ok u δ2 =>
    rw [q] at P'
    exact fun σ2 H2 Fz2 F2 s2 R2 _ => P' σ2 H2 Fz2 F2 s2 R2
theorem ss_asg {tg e : Expr} {f : List Sl → Rs AV} {t : AV → List Sl → Rs Unit} (he : SE X W pin e f) (hg : SG X W pin ts tg t) (hs : swapsWithSole [tg] e pos.line X.env = pure false := by rfl) (hw : swappedStores [tg] e X.env = pure none := by rfl)
    (h1 : (assignEach [tg] X.env).map (·.2) = [assign tg X.env] := by rfl) : SS X W pin (.Assign [tg] e pos) (oAsg f t) := ps_mono (ps_asg he hg hs hw h1) asg_ok
/-- x[i] = v -/
def setA (x y : AV) (d : PyData) (δ : List Sl) : Rs Unit := match x, rdC δ y with
  | .ref k, some (.int i) => (match δ[k]? with
    | some (.ol xs) => (match ixN xs.length i with
      | some j => (match allFz xs with
        | some ds => .ok () (upS k (.ol ((ds.set j d).map .fz)) δ)
        | none => .bad)
      | none => .bad)
    | some (.al x j) => (match δ[x]? with
      | some (.ol es) => (match es[j]? with
        | some (.ow ys) => (match ixN ys.length i with
          | some m => .ok () (δ.set x (.ol (es.set j (.ow (ys.set m d)))))
          | none => .bad)
        | _ => .bad)
      | _ => .bad)
    | _ => .bad)
  | _, _ => .bad
def tgS (fo fi : List Sl → Rs AV) (a : AV) (δ : List Sl) : Rs Unit := match a with
  | .val d => (sSt fo δ).bind fun x δ1 => (sSt fi δ1).bind fun y δ2 => setA x y d δ2
  | _ => .bad
theorem ElL.set_ow {K : PySem.W.Frag} {Fz H : Hp} {a : Addr} {ws : List V} {ys : List PyData} (hr : RpL K Fz ws ys) : ∀ {f : List Addr} {vs : List V} {es : List El} {j : Nat} {xs : List PyData}, ElL K Fz H f vs es → f.Nodup → es[j]? = some (.ow xs) → vs[j]? = some (.ref a) →
    a ∈ f ∧ ElL K Fz (upd H a (.lst ws)) f vs (es.set j (.ow ys))
  | _, _, _, _, _, .nil, _, e, _ => by simp at e
  | _, _, _, 0, xs, .cons (f := f) (g := g) (v := v) h t, nd, e, e2 => by
    simp at e e2
    subst e e2
    obtain ⟨a', us, e3, e4, e5, e6⟩ := h
    cases e3
    subst e4
    rw [List.nodup_append] at nd
    refine ⟨by simp, .cons ⟨a, ws, rfl, rfl, upd_same, hr⟩ (t.keeps (Same.refl _) fun c hc => upd_ne fun z => ?_)⟩
    subst z
    exact nd.2.2 c (by simp) c hc rfl
  | _, _, _, j + 1, xs, .cons (f := f) (g := g) (v := v) (e := e0) h t, nd, e, e2 => by
    rw [List.nodup_append] at nd
    obtain ⟨h1, h2⟩ := ElL.set_ow hr t nd.2.1 (by simpa using e) (by simpa using e2)
    refine ⟨List.mem_append_right _ h1, .cons (h.keeps (Same.refl _) fun c hc => upd_ne fun z => ?_) h2⟩
    subst z
    exact nd.2.2 c hc c h1 rfl
/-- a row of a list of one's own changes -/
theorem Rl.row {K : PySem.W.Frag} {b : Bk} {Fz : Hp} {F : Nat → List Addr} {δ : List Sl} {σ : L2.St} {H : Hp} (R : Rl K b Fz F δ σ H) {x j : Nat} {es : List El} {xs ys : List PyData} {l a : Addr} {vs ws : List V}
    (hs : δ[x]? = some (.ol es)) (hv : σ[x]? = some (some (.ref l))) (hl : H l = some (.lst vs)) (hj : es[j]? = some (.ow xs)) (ha : vs[j]? = some (.ref a)) (hr : RpL K Fz ws ys) : Rl K b Fz F (δ.set x (.ol (es.set j (.ow ys)))) σ (upd H a (.lst ws)) := by
  obtain ⟨l', vs', g, e1, e2, e3, e4⟩ := R.slot x _ hs
  rw [hv] at e1
  cases e1
  rw [hl] at e3
  cases e3
  have nd := R.nd x
  rw [e2] at nd
  obtain ⟨nl, ng⟩ := List.nodup_cons.mp nd
  obtain ⟨h1, h2⟩ := ElL.set_ow hr e4 ng hj ha
  have hal : a ≠ l := fun z => nl (by rw [← z]; exact h1)
  have haF : a ∈ F x := by rw [e2]; exact List.mem_cons_of_mem _ h1
  have hlF : l ∈ F x := by rw [e2]; exact List.mem_cons_self
  have xl : x < δ.length := (List.getElem?_eq_some_iff.mp hs).1
  have ne : ∀ c, Fz c ≠ none → c ≠ a := fun c hc z => hc (by rw [z]; exact R.offF x a haF)
  have neB : ∀ c, b.B c ≠ none → c ≠ a := fun c hc z => hc (by rw [z]; exact R.offB x a haF)
  refine ⟨fun c o e => ?_, fun c o e => ?_, by rw [List.length_set]; exact R.len, fun k t e => ?_, R.nd, R.dj, R.offF, R.offB, fun k c hc => ?_, R.keep, R.f0, R.pin, fun k y m e => ?_⟩
  · rw [upd_ne (ne c (by rw [e]; simp))]
    exact R.le c o e
  · rw [upd_ne (neB c (by rw [e]; simp))]
    exact R.base c o e
  · by_cases hk : k = x
    · subst hk
      rw [List.getElem?_set_self xl] at e
      cases e
      rw [hv]
      exact ⟨l, vs, g, rfl, e2, by rw [upd_ne hal.symm]; exact hl, h2⟩
    · rw [List.getElem?_set_ne (Ne.symm hk)] at e
      refine (R.slot k t e).keeps (Same.refl _) (fun c hc => upd_ne fun z => hk (R.dj k x a (by rw [← z]; exact hc) haF)) fun y m ey c hc => upd_ne fun z => ?_
      subst ey
      subst z
      obtain ⟨xs', f1⟩ := R.als k y m e
      obtain ⟨l2, vs2, g2, p1, p2, p3, p4⟩ := R.slot y _ f1
      rw [hc] at p1
      cases p1
      have hyx : y = x := R.dj y x c (by rw [p2]; exact List.mem_cons_self) haF
      subst hyx
      rw [hv] at hc
      cases hc
      exact hal rfl
  · by_cases z : c = a
    · rw [z, upd_same]; simp
    · rw [upd_ne z]; exact R.on k c hc
  · by_cases hk : k = x
    · subst hk
      rw [List.getElem?_set_self xl] at e
      cases e
    · rw [List.getElem?_set_ne (Ne.symm hk)] at e
      obtain ⟨xs', f1⟩ := R.als k y m e
      by_cases hy : y = x
      · subst hy
        exact ⟨_, List.getElem?_set_self xl⟩
      · exact ⟨xs', by rw [List.getElem?_set_ne (Ne.symm hy)]; exact f1⟩
theorem sg_sub {o i : Expr} {fo fi : List Sl → Rs AV} (ho : SE X W pin o fo) (hi : SE X W pin i fi)
    (ha : ∀ v, assign (.Subscript o i pos) X.env v = (do
      let ov ← holding [v] (eval o X.env)
      let iv ← holding [v, ov] (eval i X.env)
      standAt pos
      holding [v, ov, iv] (setItem ov iv v)
      release [v, ov, iv] []) := by intro _; rfl) : SG X W pin [] (.Subscript o i pos) (tgS fo fi) := pg_mono (pg_sub (se_st ho) (se_st hi) set_list ha) fun v σ H Q ⟨b, Fz, F, δ, a, hpin, R, A, P⟩ => by
  cases a with
  | tmp s => exact P.elim
  | ref i => exact P.elim
  | val d =>
    have A : Rp X.K Fz v d := A
    have P : PostG X.K X.mg W b Fz [] σ Q ((sSt fo δ).bind fun x δ1 => (sSt fi δ1).bind fun y δ2 => setA x y d δ2) := P
    -- the two operands
    have two : ∀ (f : List Sl → Rs AV) (Fz1 : Hp) (F1 : Nat → List Addr) (δ1 : List Sl) (H1 : Hp) (k : AV → List Sl → Rs Unit) (R' : VK), Rl X.K b Fz1 F1 δ1 σ H1 → PostG X.K X.mg W b Fz1 [] σ Q ((sSt f δ1).bind k) →
        (∀ v H' Fz' F' x δ', Same Fz1 Fz' → Rl X.K b Fz' F' δ' σ H' → AvS X.K Fz' σ v x → PostG X.K X.mg W b Fz' [] σ Q (k x δ') → R' v H') → rdE X.K X.mg W pin (sSt f) σ H1 R' := fun f Fz1 F1 δ1 H1 k R' Rr PP h => by
      refine ⟨b, Fz1, F1, δ1, hpin, Rr, ?_⟩
      cases q : sSt f δ1 with
      | bad => rw [q] at PP; exact PP
      | er x δ' => rw [q] at PP; exact PostXS.at_ PP
      | ok a δ' =>
        rw [q] at PP
        intro v H' Fz' F' s R2 A2
        cases a with
        | tmp t => exact absurd q (sSt_notmp _ _ _ _)
        | val d => exact h v H' Fz' F' (.val d) δ' s R2 A2 (PostG.le s PP)
        | ref i => exact h v H' Fz' F' (.ref i) δ' s R2 A2 (PostG.le s PP)
    refine two fo Fz F δ H _ _ R P fun ov H1 Fz1 F1 x δ1 s1 R1 A1 P1 => ?_
    refine two fi Fz1 F1 δ1 H1 _ _ R1 P1 fun iv H2 Fz2 F2 y δ2 s2 R2 A2 P2 => ?_
    have A0 : Rp X.K Fz2 v d := (A.mono s1).mono s2
    have A1 := A1.le s2
    unfold setA at P2
    cases x with
    | val e => cases q : rdC δ2 y <;> exact P2.elim
    | tmp e => exact A1.elim
    | ref k =>
      cases q : rdC δ2 y with
      | none => simp only [q] at P2; exact P2.elim
      | some n =>
        cases n with
        | int n =>
          simp only [q] at P2
          have ei := rpc_int (rdC_ok R2 A2 q)
          have hv : σ[k]? = some (some ov) := A1
          cases q2 : δ2[k]? with
          | none => simp only [q2] at P2; exact P2.elim
          | some t =>
            cases t with
            | ol xs =>
              simp only [q2] at P2
              cases q3 : ixN xs.length n with
              | none => simp only [q3] at P2; exact P2.elim
              | some j =>
                simp only [q3] at P2
                cases q4 : allFz xs with
                | none => simp only [q4] at P2; exact P2.elim
                | some ds =>
                  simp only [q4] at P2
                  obtain ⟨l, vs, g, e1, e2, e3, e4, e5⟩ := R2.own q2 hv
                  subst e1
                  have rp := e3.allFz q4
                  have R' := R2.mut (g := []) q2 hv (ElL.ofFz (rp.set A0 j)) (by simp) (fun a ha => nomatch ha)
                  exact ⟨l, vs, n, j, rfl, ei, e2, by rw [e3.len]; exact q3, P2 _ _ Fz2 _ (Same.refl _) R' (Stored.refl _ _)⟩
            | al x j =>
              simp only [q2] at P2
              cases q3 : δ2[x]? with
              | none => simp only [q3] at P2; exact P2.elim
              | some t =>
                cases t with
                | ol es =>
                  simp only [q3] at P2
                  cases q4 : es[j]? with
                  | none => simp only [q4] at P2; exact P2.elim
                  | some el =>
                    cases el with
                    | fz d' => simp only [q4] at P2; exact P2.elim
                    | ow ys =>
                      simp only [q4] at P2
                      cases q5 : ixN ys.length n with
                      | none => simp only [q5] at P2; exact P2.elim
                      | some m =>
                        simp only [q5] at P2
                        obtain ⟨_, l, c, vs, f1, f2, f3, f4⟩ := R2.slot k _ q2
                        rw [hv] at f4
                        cases f4
                        obtain ⟨g, ⟨c', ws, g1, g2, g3, g4⟩, _⟩ := R2.al q2 q3 q4 hv
                        cases g1
                        have R' := R2.row q3 f1 f2 q4 f3 (g4.set A0 m)
                        exact ⟨c, ws, n, m, rfl, ei, g3, by rw [g4.len]; exact q5, P2 _ _ Fz2 _ (Same.refl _) R' (Stored.refl _ _)⟩
                | _ => simp only [q3] at P2; exact P2.elim
            | _ => simp only [q2] at P2; exact P2.elim
        | _ => simp only [q] at P2; exact P2.elim
/-- name op= e, of ints -/
def oAug (i : Nat) (g : Int → Int → Int) (f : List Sl → Rs AV) : List Sl → Ot := fun δ => match δ[i]? with
  | some (.fz (.int n)) => (sSt f δ).ot fun a δ' => (match rdC δ' a with
    | some (.int m) => .nx (upS i (.fz (.int (g n m))) δ')
    | _ => .bad)
  | _ => .bad
theorem ss_aug (i : Nat) {x : Str} {e : Expr} {f : List Sl → Rs AV} {op : Operator} {g : Int → Int → Int} {pos' : Pos} (hN : X.N.Nodup) (hi : X.N[i]? = some x) (hx : Loc X.env.scope x) (hp : i ∉ pin) (he : SE X W pin e f) (ho : PIp X op (ipI g)) (hf : X.fn x = true ∨ X.env.scope.names.lookup x = some .local := by first | exact .inl rfl | exact .inr rfl | assumption) :
    SS X W pin (.AugAssign (.Name x pos') op e pos) (oAug i g f) := ps_mono (ps_aug hN hi hx (se_st he) ho hf) fun D σ H ⟨b, Fz, F, δ, hpin, R, P⟩ => by
  unfold oAug at P
  cases q : δ[i]? with
  | none => simp only [q] at P; exact P.elim
  | some s =>
    cases s with
    | fz d =>
      cases d with
      | int n =>
        simp only [q] at P
        obtain ⟨_, v, e1, e2⟩ := R.slot i _ q
        cases e2
        refine ⟨.int n, join_some e1, ?_⟩
        refine rdS_bind hpin R P fun w H' Fz' F' a δ' s R' A P' => ?_
        cases q2 : rdC δ' a with
        | none => simp only [q2] at P'; exact P'.elim
        | some d =>
          cases d with
          | int m =>
            simp only [q2] at P'
            have A' : AvS X.K Fz' σ w a := by
              cases a with
              | val d => exact A
              | ref j => exact A
              | tmp t => simp [rdC] at q2
            exact ⟨n, m, rfl, rpc_int (rdC_ok R' A' q2), P' _ H' Fz' _ (Same.refl _) (R'.name (s := .fz (.int (g n m))) (g := []) (by rw [hpin]; exact hp) rfl ⟨rfl, _, rfl, .int _⟩ List.nodup_nil fun _ z => nomatch z)⟩
          | _ => simp only [q2] at P'; exact P'.elim
      | _ => simp only [q] at P; exact P.elim
    | _ => simp only [q] at P; exact P.elim
/-- name = list[i], the item stays the list's own -/
def oAls (i x : Nat) (fi : List Sl → Rs AV) : List Sl → Ot := fun δ => match δ[x]? with
  | some (.ol es) => (sSt fi δ).ot fun a δ' => (match δ'[x]?, rdC δ' a with
    | some (.ol es), some (.int n) => (match ixN es.length n with
      | some j => (match es[j]? with
        | some (.ow _) => .nx (upS i (.al x j) δ')
        | some (.fz d) => .nx (upS i (.fz d) δ')
        | none => .bad)
      | none => .bad)
    | _, _ => .bad)
  | _ => .bad
theorem ss_als (i xs : Nat) {x y : Str} {e : Expr} {f : List Sl → Rs AV} {px py pos' : Pos} (hN : X.N.Nodup) (hi : X.N[i]? = some x) (hx : Loc X.env.scope x) (hp : i ∉ pin) (hix : xs ≠ i) (hy : X.N[xs]? = some y) (hyv : Vis X.env.scope y) (he : SE X W pin e f) (hpl : PlainIx e := by intro _ _; rfl)
    (hyd : (y == ("__debug__" : Str)) = false := by decide) (hyc : (y == ("__classdict__" : Str)) = false := by decide)
    (hs : swapsWith (.Subscript (.Name y py) e px) (some (.Name x pos')) pos.line X.env = pure false := by rfl) (hf : X.fn x = true ∨ X.env.scope.names.lookup x = some .local := by first | exact .inl rfl | exact .inr rfl | assumption) :
    SS X W pin (.Assign [.Name x pos'] (.Subscript (.Name y py) e px) pos) (oAls i xs f) := ps_mono (ps_set hN hi hx (pe_ix ix_list (pe_var hy hyv hyd hyc) (se_st he) hpl) hs hf) fun D σ H ⟨b, Fz, F, δ, hpin, R, P⟩ => by
  unfold oAls at P
  cases q : δ[xs]? with
  | none => simp only [q] at P; exact P.elim
  | some s =>
    cases s with
    | ol es0 =>
      simp only [q] at P
      obtain ⟨l, vs0, g0, e1, _, _, _⟩ := R.slot xs _ q
      refine ⟨.ref l, join_some e1, ?_⟩
      refine rdS_bind hpin R P fun w H' Fz' F' a δ' s R' A P' => ?_
      cases q1 : δ'[xs]? with
      | none => simp only [q1] at P'; exact P'.elim
      | some t =>
        cases t with
        | ol es =>
          cases q2 : rdC δ' a with
          | none => simp only [q1, q2] at P'; exact P'.elim
          | some d =>
            cases d with
            | int n =>
              simp only [q1, q2] at P'
              have A' : AvS X.K Fz' σ w a := by
                cases a with
                | val d => exact A
                | ref j => exact A
                | tmp t => simp [rdC] at q2
              have ew := rpc_int (rdC_ok R' A' q2)
              cases q3 : ixN es.length n with
              | none => simp only [q3] at P'; exact P'.elim
              | some j =>
                simp only [q3] at P'
                obtain ⟨l', vs, g, f1, f2, f3, f4, f5⟩ := R'.own q1 (join_some e1)
                cases f1
                cases q4 : es[j]? with
                | none => simp only [q4] at P'; exact P'.elim
                | some el =>
                  obtain ⟨v, g', h1, h2, h3⟩ := f3.at_ q4
                  have hat : atI vs n = some v := by
                    unfold atI
                    rw [f3.len, q3]
                    exact h1
                  refine ⟨l, vs, n, v, rfl, ew, SqL.of f2, hat, ?_⟩
                  show D.nx (σ.set i (some v)) H'
                  cases el with
                  | fz d =>
                    simp only [q4] at P'
                    exact P' _ H' Fz' _ (Same.refl _) (R'.name (s := .fz d) (g := []) (by rw [hpin]; exact hp) rfl ⟨rfl, _, rfl, h2.2⟩ List.nodup_nil fun _ z => nomatch z)
                  | ow ys =>
                    simp only [q4] at P'
                    obtain ⟨a', ws, k1, k2, k3, k4⟩ := h2
                    subst k1
                    refine P' _ H' Fz' _ (Same.refl _) (R'.put (i := i) (s := .al xs j) (g := []) (Same.refl _) R'.le R'.base List.length_set (fun k hk => upd_slot hk) (.inr (by rw [hpin]; exact hp)) (fun hlt => ⟨rfl, l, a', vs, ?_, f2, h1, ?_⟩) (fun x' j' z => ?_) List.nodup_nil (fun _ z => nomatch z) (fun _ z => nomatch z) (fun _ z => nomatch z) (fun _ z => nomatch z) (fun _ _ _ _ => rfl) (fun k _ a ha => R'.offF k a ha) (fun _ _ => rfl))
                    · rw [upd_slot hix]
                      exact join_some e1
                    · rw [List.getElem?_set_self (by rw [R'.len]; exact hlt)]
                      rfl
                    · cases z
                      exact ⟨hix, es, q1⟩
            | _ => simp only [q1, q2] at P'; exact P'.elim
        | _ => cases q2 : rdC δ' a <;> (simp only [q1, q2] at P'; exact P'.elim)
    | _ => simp only [q] at P; exact P.elim
end
end Hb

/-! part Hb7 -/
namespace Hb
open PySem PySem.Spec PyProof.Rows L2

/-! ### what is walked -/
/-- J gives the trees ds, one a turn -/
def Wk (K : PySem.W.Frag) (Fz0 : Hp) (J : It) (ds : List PyData) : Prop := ∀ b Fz F δ σ H, Same Fz0 Fz → Rl K b Fz F δ σ H →
  (∀ i, i < ds.length → J.go i H ∧ ∀ x H', J.yld i H x H' → ∃ Fz' d, ds[i]? = some d ∧ Same Fz Fz' ∧ Rl K b Fz' F δ σ H' ∧ Rp K Fz' x d) ∧ J.stop ds.length H
section
variable (K : PySem.W.Frag) (mg : Str → Option Value) (W : WX)
def PostI (b : Bk) (Fz : Hp) (σ : L2.St) (R : It → Hp → Prop) : Rs (List PyData) → Prop
  | .ok ds δ => ∀ J H' Fz' F', Same Fz Fz' → Rl K b Fz' F' δ σ H' → Wk K Fz' J ds → R J H'
  | .er x δ => PostX K mg W b Fz σ x δ
  | .bad => False
def rdI (pin : List Nat) (w : List Sl → Rs (List PyData)) : TI := fun σ H R => ∃ b Fz F δ, b.pin = pin ∧ Rl K b Fz F δ σ H ∧ PostI K mg W b Fz σ R (w δ)
end
abbrev SI (X : Cx) (W : WX) (pin : List Nat) (tg iter : Expr) (w : List Sl → Rs (List PyData)) : Prop := PI X tg iter (rdI X.K X.mg W pin w)
theorem pi_mono {X : Cx} {tg iter : Expr} {t t' : TI} (h : PI X tg iter t) (i : ∀ σ H R, t' σ H R → t σ H R) : PI X tg iter t' := ⟨fun pins s σ H R I q => h.run pins s σ H R I (i σ H R q)⟩
theorem pi_or {X : Cx} {tg iter : Expr} {t t' : TI} (h : PI X tg iter t) (h' : PI X tg iter t') : PI X tg iter (fun σ H R => t σ H R ∨ t' σ H R) := ⟨fun pins s σ H R I q => q.elim (h.run pins s σ H R I) (h'.run pins s σ H R I)⟩
section
variable {K : PySem.W.Frag} {mg : Str → Option Value} {W : WX} {pin : List Nat}
theorem PostI.le {b : Bk} {Fz Fz1 : Hp} {σ : L2.St} {R : It → Hp → Prop} {r : Rs (List PyData)} (s : Same Fz Fz1) (p : PostI K mg W b Fz σ R r) : PostI K mg W b Fz1 σ R r := by
  cases r with
  | ok a δ => exact fun J H' Fz' F' s' R e => p J H' Fz' F' (s.trans s') R e
  | er x δ => exact PostX.le s p
  | bad => exact p
theorem rd_valI {f : List Sl → Rs AV} {σ : L2.St} {H : Hp} {b : Bk} {Fz : Hp} {F : Nat → List Addr} {δ : List Sl} {k : PyData → List Sl → Rs (List PyData)} {Q : It → Hp → Prop} {R : VK} (hp : b.pin = pin) (Rr : Rl K b Fz F δ σ H) (P : PostI K mg W b Fz σ Q ((sTk f δ).val k))
    (h : ∀ v H' Fz' F' d δ', Same Fz Fz' → Rl K b Fz' F' δ' σ H' → Rp K Fz' v d → PostI K mg W b Fz' σ Q (k d δ') → R v H') : rdE K mg W pin (sTk f) σ H R := by
  refine ⟨b, Fz, F, δ, hp, Rr, ?_⟩
  cases q : sTk f δ with
  | bad => rw [q] at P; exact P
  | er x δ' => rw [q] at P; exact P
  | ok a δ' =>
    rw [q] at P
    intro v H' Fz' F' s R' A
    cases a with
    | tmp t => exact False.elim P
    | ref i => exact False.elim P
    | val d => exact h v H' Fz' F' d δ' s R' A (PostI.le s P)
theorem wk_list {Fz0 : Hp} {a : Addr} {vs : List V} {ds : List PyData} (h : SqX K Fz0 a vs) (r : RpL K Fz0 vs ds) : Wk K Fz0 (Itl K a) ds := fun b Fz F δ σ H s R => by
  have hq : SqL K H a vs := (same_sqX (s.trans R.le) h).sq
  refine ⟨fun i hi => ?_, ⟨vs, hq, by rw [r.len]; exact Nat.le_refl _⟩⟩
  obtain ⟨v, e1, e2⟩ := r.get (List.getElem?_eq_getElem hi)
  refine ⟨⟨vs, v, hq, e1⟩, fun x H' y => ?_⟩
  obtain ⟨rfl, y⟩ := y
  have := y vs hq
  rw [e1] at this
  cases this
  exact ⟨Fz, _, List.getElem?_eq_getElem hi, Same.refl _, R, e2.mono s⟩
theorem wk_tup {Fz0 : Hp} {a : Addr} {vs : List V} {ds : List PyData} (h : SqT K Fz0 a vs) (r : RpL K Fz0 vs ds) : Wk K Fz0 (Itt K a) ds := fun b Fz F δ σ H s R => by
  have hq : SqT K H a vs := same_sqT (s.trans R.le) h
  refine ⟨fun i hi => ?_, ⟨vs, hq, by rw [r.len]; exact Nat.le_refl _⟩⟩
  obtain ⟨v, e1, e2⟩ := r.get (List.getElem?_eq_getElem hi)
  refine ⟨⟨vs, v, hq, e1⟩, fun x H' y => ?_⟩
  obtain ⟨rfl, y⟩ := y
  have := y vs hq
  rw [e1] at this
  cases this
  exact ⟨Fz, _, List.getElem?_eq_getElem hi, Same.refl _, R, e2.mono s⟩
def rangeD (lo : Int) (n : Nat) : List PyData := (List.range n).map fun i => .int (lo + (i : Nat))
theorem rangeD_len (lo : Int) (n : Nat) : (rangeD lo n).length = n := by simp [rangeD]
theorem rangeD_at {lo : Int} {n i : Nat} (h : i < n) : (rangeD lo n)[i]? = some (.int (lo + (i : Nat))) := by
  unfold rangeD
  rw [List.getElem?_map, List.getElem?_range h]
  rfl
theorem wk_range {Fz0 : Hp} (lo : Int) (n : Nat) : Wk K Fz0 (Itr lo n) (rangeD lo n) := fun b Fz F δ σ H s R => by
  rw [rangeD_len]
  refine ⟨fun i hi => ⟨hi, fun x H' y => ?_⟩, Nat.le_refl n⟩
  obtain ⟨rfl, rfl⟩ := y
  exact ⟨Fz, _, rangeD_at hi, Same.refl _, R, .int _⟩
def enumD (ds : List PyData) : List PyData := ds.zipIdx.map fun p => .tuple [.int (p.2 : Nat), p.1]
theorem enumD_len (ds : List PyData) : (enumD ds).length = ds.length := by simp [enumD]
theorem enumD_at {ds : List PyData} {i : Nat} {d : PyData} (h : ds[i]? = some d) : (enumD ds)[i]? = some (.tuple [.int (i : Nat), d]) := by
  unfold enumD
  rw [List.getElem?_map, List.getElem?_zipIdx, h]
  simp
theorem wk_enum {Fz0 : Hp} {a : Addr} {vs : List V} {ds : List PyData} (h : SqX K Fz0 a vs) (r : RpL K Fz0 vs ds) : Wk K Fz0 (Ite K a) (enumD ds) := fun b Fz F δ σ H s R => by
  have hq : SqL K H a vs := (same_sqX (s.trans R.le) h).sq
  rw [enumD_len]
  refine ⟨fun i hi => ?_, ⟨vs, hq, by rw [r.len]; exact Nat.le_refl _⟩⟩
  obtain ⟨v, e1, e2⟩ := r.get (List.getElem?_eq_getElem hi)
  refine ⟨⟨vs, v, hq, e1⟩, fun x H' y => ?_⟩
  obtain ⟨T, u, rfl, nT, rfl, y⟩ := y
  have := y vs hq
  rw [e1] at this
  cases this
  obtain ⟨s2, R2⟩ := R.newF nT (.tup [.int (i : Nat), v])
  exact ⟨_, _, enumD_at (List.getElem?_eq_getElem hi), s2, R2, .tup (SqT.of upd_same) (.cons (.int _) (.cons (e2.mono (s.trans s2)) .nil))⟩
def zipD : List PyData → List PyData → List PyData
  | d :: ds, e :: es => .tuple [d, e] :: zipD ds es
  | _, _ => []
theorem zipD_len : ∀ ds es : List PyData, (zipD ds es).length = min ds.length es.length
  | [], es => by simp [zipD]
  | d :: ds, [] => by simp [zipD]
  | d :: ds, e :: es => by
    rw [zipD, List.length_cons, zipD_len ds es, List.length_cons, List.length_cons]
    omega
theorem zipD_at : ∀ {ds es : List PyData} {i : Nat} {d e : PyData}, ds[i]? = some d → es[i]? = some e → (zipD ds es)[i]? = some (.tuple [d, e])
  | [], _, _, _, _, h, _ => by simp at h
  | _ :: _, [], _, _, _, _, h => by simp at h
  | d :: ds, e :: es, 0, _, _, h, h2 => by
    simp at h h2
    subst h h2
    rfl
  | d :: ds, e :: es, i + 1, _, _, h, h2 => by
    rw [zipD, List.getElem?_cons_succ]
    exact zipD_at (by simpa using h) (by simpa using h2)
theorem wk_zip {Fz0 : Hp} {a c : Addr} {vs ws : List V} {ds es : List PyData} (h : SqX K Fz0 a vs) (r : RpL K Fz0 vs ds) (h2 : SqX K Fz0 c ws) (r2 : RpL K Fz0 ws es) : Wk K Fz0 (Itz K a c) (zipD ds es) := fun b Fz F δ σ H s R => by
  have hq : SqL K H a vs := (same_sqX (s.trans R.le) h).sq
  have hq2 : SqL K H c ws := (same_sqX (s.trans R.le) h2).sq
  have l1 := r.len
  have l2 := r2.len
  rw [zipD_len]
  refine ⟨fun i hi => ?_, ⟨vs, ws, hq, hq2, by omega⟩⟩
  obtain ⟨v, e1, e2⟩ := r.get (List.getElem?_eq_getElem (show i < ds.length by omega))
  obtain ⟨w, f1, f2⟩ := r2.get (List.getElem?_eq_getElem (show i < es.length by omega))
  refine ⟨⟨vs, ws, v, w, hq, hq2, e1, f1⟩, fun x H' y => ?_⟩
  obtain ⟨T, u, t, rfl, nT, rfl, y1, y2⟩ := y
  have z1 := y1 vs hq
  rw [e1] at z1
  cases z1
  have z2 := y2 ws hq2
  rw [f1] at z2
  cases z2
  obtain ⟨s2, R2⟩ := R.newF nT (.tup [v, w])
  exact ⟨_, _, zipD_at (List.getElem?_eq_getElem (show i < ds.length by omega)) (List.getElem?_eq_getElem (show i < es.length by omega)), s2, R2, .tup (SqT.of upd_same) (.cons (e2.mono (s.trans s2)) (.cons (f2.mono (s.trans s2)) .nil))⟩
theorem wk_zipT {Fz0 : Hp} {a c : Addr} {vs ws : List V} {ds es : List PyData} (h : SqT K Fz0 a vs) (r : RpL K Fz0 vs ds) (h2 : SqT K Fz0 c ws) (r2 : RpL K Fz0 ws es) : Wk K Fz0 (RZ.ItzT K a c) (zipD ds es) := fun b Fz F δ σ H s R => by
  have hq : SqT K H a vs := same_sqT (s.trans R.le) h
  have hq2 : SqT K H c ws := same_sqT (s.trans R.le) h2
  have l1 := r.len
  have l2 := r2.len
  rw [zipD_len]
  refine ⟨fun i hi => ?_, ⟨vs, ws, hq, hq2, by omega⟩⟩
  obtain ⟨v, e1, e2⟩ := r.get (List.getElem?_eq_getElem (show i < ds.length by omega))
  obtain ⟨w, f1, f2⟩ := r2.get (List.getElem?_eq_getElem (show i < es.length by omega))
  refine ⟨⟨vs, ws, v, w, hq, hq2, e1, f1⟩, fun x H' y => ?_⟩
  obtain ⟨T, u, t, rfl, nT, rfl, y1, y2⟩ := y
  have z1 := y1 vs hq
  rw [e1] at z1
  cases z1
  have z2 := y2 ws hq2
  rw [f1] at z2
  cases z2
  obtain ⟨s2, R2⟩ := R.newF nT (.tup [v, w])
  exact ⟨_, _, zipD_at (List.getElem?_eq_getElem (show i < ds.length by omega)) (List.getElem?_eq_getElem (show i < es.length by omega)), s2, R2, .tup (SqT.of upd_same) (.cons (e2.mono (s.trans s2)) (.cons (f2.mono (s.trans s2)) .nil))⟩
end
def wSeq (f : List Sl → Rs AV) : List Sl → Rs (List PyData) := fun δ => (sTk f δ).val fun d δ' => match seqD d with
  | some ds => .ok ds δ'
  | none => .bad
def wEnum (f : List Sl → Rs AV) : List Sl → Rs (List PyData) := fun δ => (sTk f δ).val fun d δ' => match d with
  | .list ds => .ok (enumD ds) δ'
  | _ => .bad
def wRng1 (f : List Sl → Rs AV) : List Sl → Rs (List PyData) := fun δ => (sTk f δ).val fun d δ' => match d with
  | .int n => if -(2 ^ 62) ≤ n ∧ n < 2 ^ 62 then .ok (rangeD 0 n.toNat) δ' else .bad
  | _ => .bad
def wRng2 (f g : List Sl → Rs AV) : List Sl → Rs (List PyData) := fun δ => (sTk f δ).val fun d δ1 => (sTk g δ1).val fun e δ2 => match d, e with
  | .int i, .int j => if -(2 ^ 62) ≤ i ∧ i < 2 ^ 62 ∧ -(2 ^ 62) ≤ j ∧ j < 2 ^ 62 then .ok (rangeD i (j - i).toNat) δ2 else .bad
  | _, _ => .bad
def wZip (f g : List Sl → Rs AV) : List Sl → Rs (List PyData) := fun δ => (sTk f δ).val fun d δ1 => (sTk g δ1).val fun e δ2 => match d, e with
  | .list ds, .list es => .ok (zipD ds es) δ2
  | .tuple ds, .tuple es => .ok (zipD ds es) δ2
  | _, _ => .bad
section
variable {X : Cx} {W : WX} {pin : List Nat} {f g : List Sl → Rs AV} {e c tg : Expr} {p pos tpos : Pos} {elts : List Expr} {kk : Nat}
theorem si_seq (h : SE X W pin e f) : SI X W pin tg e (wSeq f) := pi_mono (pi_or (pi_list (se_tk h)) (pi_tup (se_tk h))) fun σ H R ⟨b, Fz, F, δ, hp, Rr, P⟩ => by
  have P0 := P
  unfold wSeq at P
  cases q : sTk f δ with
  | bad => rw [q] at P; exact P.elim
  | er x δ' =>
    rw [q] at P
    exact .inl ⟨b, Fz, F, δ, hp, Rr, by rw [q]; exact P⟩
  | ok a δ' =>
    rw [q] at P
    cases a with
    | tmp t => exact P.elim
    | ref i => exact P.elim
    | val d =>
      cases d with
      | list ds =>
        refine .inl ⟨b, Fz, F, δ, hp, Rr, ?_⟩
        rw [q]
        intro v H' Fz' F' s R' A
        cases (show Rp X.K Fz' v (.list ds) from A) with
        | lst h1 h2 => exact ⟨_, rfl, ⟨_, (same_sqX R'.le h1).sq⟩, P (Itl X.K _) H' Fz' F' s R' (wk_list h1 h2)⟩
      | tuple ds =>
        refine .inr ⟨b, Fz, F, δ, hp, Rr, ?_⟩
        rw [q]
        intro v H' Fz' F' s R' A
        cases (show Rp X.K Fz' v (.tuple ds) from A) with
        | tup h1 h2 => exact ⟨_, rfl, ⟨_, same_sqT R'.le h1⟩, P (Itt X.K _) H' Fz' F' s R' (wk_tup h1 h2)⟩
      | _ => exact P.elim
theorem si_rng1 (hg : Gl X "range") (hm : X.mg "range" = none) (h : SE X W pin e f) (hs : starEach [e] X.env = [(false, eval e X.env)] := by rfl) : SI X W pin tg (.Call (.Name "range" p) [e] [] pos) (wRng1 f) :=
  pi_mono (pi_range1 hg hm (pa_cons (se_tk h) pa_nil hs) hs) fun σ H R ⟨b, Fz, F, δ, hp, Rr, P⟩ => by
    refine rd_valI hp Rr P fun v H' Fz' F' d δ' s R' A P' => ?_
    cases d with
    | int n =>
      cases A
      have P' : PostI X.K X.mg W b Fz' σ R (if -(2 ^ 62) ≤ n ∧ n < 2 ^ 62 then .ok (rangeD 0 n.toNat) δ' else .bad) := P'
      by_cases c : -(2 ^ 62) ≤ n ∧ n < 2 ^ 62
      · rw [if_pos c] at P'
        exact ⟨n, rfl, c.1, c.2, P' _ H' Fz' F' (Same.refl _) R' (wk_range 0 n.toNat)⟩
      · rw [if_neg c] at P'
        exact P'.elim
    | _ => exact P'.elim
theorem si_rng2 (hg : Gl X "range") (hm : X.mg "range" = none) (h : SE X W pin e f) (h2 : SE X W pin c g) (hs : starEach [e, c] X.env = [(false, eval e X.env), (false, eval c X.env)] := by rfl) (hs2 : starEach [c] X.env = [(false, eval c X.env)] := by rfl) : SI X W pin tg (.Call (.Name "range" p) [e, c] [] pos) (wRng2 f g) :=
  pi_mono (pi_range2 hg hm (pa_cons (se_tk h) (pa_cons (se_tk h2) pa_nil hs2) (by rw [hs, hs2])) hs hs2) fun σ H R ⟨b, Fz, F, δ, hp, Rr, P⟩ => by
    refine rd_valI hp Rr P fun v H1 Fz1 F1 d δ1 s1 R1 A1 P1 => ?_
    refine rd_valI hp R1 P1 fun w H2 Fz2 F2 e δ2 s2 R2 A2 P2 => ?_
    cases d with
    | int i =>
      cases e with
      | int j =>
        cases A1
        cases A2
        have P2 : PostI X.K X.mg W b Fz2 σ R (if -(2 ^ 62) ≤ i ∧ i < 2 ^ 62 ∧ -(2 ^ 62) ≤ j ∧ j < 2 ^ 62 then .ok (rangeD i (j - i).toNat) δ2 else .bad) := P2
        by_cases c : -(2 ^ 62) ≤ i ∧ i < 2 ^ 62 ∧ -(2 ^ 62) ≤ j ∧ j < 2 ^ 62
        · rw [if_pos c] at P2
          exact ⟨i, j, rfl, c, P2 _ H2 Fz2 F2 (Same.refl _) R2 (wk_range i (j - i).toNat)⟩
        · rw [if_neg c] at P2
          exact P2.elim
      | _ => exact P2.elim
    | _ => exact P2.elim
theorem si_enum (hg : Gl X "enumerate") (hm : X.mg "enumerate" = none) (h : SE X W pin e f) (hs : starEach [e] X.env = [(false, eval e X.env)] := by rfl) : SI X W pin (.Tuple elts kk tpos) (.Call (.Name "enumerate" p) [e] [] pos) (wEnum f) :=
  pi_mono (pi_enum hg hm (pa_cons (se_tk h) pa_nil hs) hs) fun σ H R ⟨b, Fz, F, δ, hp, Rr, P⟩ => by
    refine rd_valI hp Rr P fun v H' Fz' F' d δ' s R' A P' => ?_
    cases d with
    | list ds =>
      cases A with
      | lst h1 h2 => exact ⟨_, _, rfl, (same_sqX R'.le h1).sq, P' _ H' Fz' F' (Same.refl _) R' (wk_enum h1 h2)⟩
    | _ => exact P'.elim
theorem si_zip (hg : Gl X "zip") (hm : X.mg "zip" = none) (h : SE X W pin e f) (h2 : SE X W pin c g) (hs : starEach [e, c] X.env = (false, eval e X.env) :: starEach [c] X.env := by rfl) (hs2 : starEach [c] X.env = (false, eval c X.env) :: starEach [] X.env := by rfl) (hpl : (backTo pos (starEach [c] X.env)).any (·.1) = false := by rfl) :
    SI X W pin (.Tuple elts kk tpos) (.Call (.Name "zip" p) [e, c] [] pos) (wZip f g) :=
  pi_mono (RZ.pi_zipA hg hm (pa_cons (se_tk h) (pa_cons (se_tk h2) pa_nil hs2) hs) hs hpl) fun σ H R ⟨b, Fz, F, δ, hp, Rr, P⟩ => by
    refine rd_valI hp Rr P fun v H1 Fz1 F1 d δ1 s1 R1 A1 P1 => ?_
    refine rd_valI hp R1 P1 fun w H2 Fz2 F2 e δ2 s2 R2 A2 P2 => ?_
    cases d with
    | list ds =>
      cases e with
      | list es =>
        cases A1.mono s2 with
        | lst h1 h2 =>
          cases A2 with
          | lst h3 h4 => exact ⟨_, _, _, _, rfl, .inl ⟨(same_sqX R2.le h1).sq, (same_sqX R2.le h3).sq, P2 _ H2 Fz2 F2 (Same.refl _) R2 (wk_zip h1 h2 h3 h4)⟩⟩
      | _ => exact P2.elim
    | tuple ds =>
      cases e with
      | tuple es =>
        cases A1.mono s2 with
        | tup h1 h2 =>
          cases A2 with
          | tup h3 h4 => exact ⟨_, _, _, _, rfl, .inr ⟨same_sqT R2.le h1, same_sqT R2.le h3, P2 _ H2 Fz2 F2 (Same.refl _) R2 (wk_zipT h1 h2 h3 h4)⟩⟩
      | _ => exact P2.elim
    | _ => exact P2.elim
end
/-! ### for -/
def forL (t : AV → List Sl → Rs Unit) (f : List Sl → Ot) : List PyData → List Sl → Ot
  | [], δ => .nx δ
  | d :: r, δ => match t (.val d) δ with
    | .ok _ δ1 => (match f δ1 with
      | .nx δ2 => forL t f r δ2
      | .ct δ2 => forL t f r δ2
      | .bk δ2 => .nx δ2
      | o => o)
    | .er x δ1 => .er x δ1
    | .bad => .bad
def oFor (w : List Sl → Rs (List PyData)) (t : AV → List Sl → Rs Unit) (f : List Sl → Ot) : List Sl → Ot := fun δ => (w δ).ot fun ds δ' => forL t f ds δ'
theorem ss_for {X : Cx} {W : WX} {pin ts : List Nat} {tg iter : Expr} {body : List Stmt} {w : List Sl → Rs (List PyData)} {t : AV → List Sl → Rs Unit} {u : List Sl → Ot} {pos : Pos} (hp : PassesOwn (model X.prog X.w) X.A X.env X.xe) (hc : X.calm = true) (hi : SI X W pin tg iter w) (hg : SG X W pin ts tg t) (hb : SSs X W pin body u)
    (hs : ∀ x, foldedSetIterable iter X.env x = pure x := by intro _; rfl) : SS X W pin (.For tg iter body [] pos) (oFor w t u) := ps_mono (ps_for hp hc hi hg hb hs) fun D σ H ⟨b, Fz, F, δ, hpin, R, P⟩ => by
  unfold oFor at P
  refine ⟨b, Fz, F, δ, hpin, R, ?_⟩
  cases q : w δ with
  | bad => rw [q] at P; exact P
  | er x δ' => rw [q] at P; exact PostXS.at_ P
  | ok ds δ' =>
    rw [q] at P
    have P : PostS X.K X.mg W b Fz D (forL t u ds δ') := P
    intro J H1 Fz1 F1 s1 R1 hw
    refine ⟨fun i m σ H => m = ds.length - i ∧ i ≤ ds.length ∧ ∃ Fz F δ, Same Fz1 Fz ∧ Rl X.K b Fz F δ σ H ∧ PostS X.K X.mg W b Fz D (forL t u (ds.drop i) δ), ⟨ds.length, by simp, Nat.zero_le _, Fz1, F1, δ', Same.refl _, R1, by rw [List.drop_zero]; exact PostS.le s1 P⟩, ?_⟩
    rintro i m σ2 H2 ⟨rfl, hi, Fz2, F2, δ2, s2, R2, P2⟩
    obtain ⟨go, stop⟩ := hw b Fz2 F2 δ2 σ2 H2 s2 R2
    by_cases hlt : i < ds.length
    · obtain ⟨g1, g2⟩ := go i hlt
      refine .inr ⟨g1, fun σ H => ∃ Fz F δ, Same Fz1 Fz ∧ Rl X.K b Fz F δ σ H ∧ PostS X.K X.mg W b Fz D (forL t u (ds.drop (i + 1)) δ), fun σ3 H3 h3 => ⟨ds.length - (i + 1), by omega, rfl, hlt, h3⟩, fun x H3 y => ?_⟩
      obtain ⟨Fz3, d, e1, s3, R3, r3⟩ := g2 x H3 y
      have ed : ds.drop i = d :: ds.drop (i + 1) := by
        rw [List.drop_eq_getElem_cons hlt]
        rw [List.getElem?_eq_getElem hlt] at e1
        rw [Option.some.inj e1]
      rw [ed] at P2
      unfold forL at P2
      refine ⟨b, Fz3, F2, δ2, .val d, hpin, R3, r3, ?_⟩
      cases q2 : t (.val d) δ2 with
      | bad => rw [q2] at P2; exact P2
      | er x δ3 => rw [q2] at P2; exact PostXS.le s3 P2
      | ok a δ3 =>
        simp only [q2] at P2
        intro σ4 H4 Fz4 F4 s4 R4 _
        refine ⟨b, Fz4, F4, δ3, hpin, R4, ?_⟩
        have s24 := s3.trans s4
        cases q3 : u δ3 with
        | nx δ4 =>
          simp only [q3] at P2
          exact fun σ5 H5 Fz5 F5 s5 R5 => ⟨Fz5, F5, δ4, (s2.trans s24).trans s5, R5, PostS.le (s24.trans s5) P2⟩
        | ct δ4 =>
          simp only [q3] at P2
          exact fun σ5 H5 Fz5 F5 s5 R5 => ⟨Fz5, F5, δ4, (s2.trans s24).trans s5, R5, PostS.le (s24.trans s5) P2⟩
        | bk δ4 => simp only [q3] at P2; exact PostS.le s24 P2
        | rt s δ4 => simp only [q3] at P2; exact PostS.le (r := .rt s δ4) s24 P2
        | er x δ4 => simp only [q3] at P2; exact PostS.le (r := .er x δ4) s24 P2
        | bad => simp only [q3] at P2; exact P2
    · have e : i = ds.length := by omega
      subst e
      rw [List.drop_length] at P2
      exact .inl ⟨stop, P2 σ2 H2 Fz2 F2 (Same.refl _) R2⟩
end Hb

/-! part Hb8 -/
namespace Hb
open PySem PySem.Spec PyProof.Rows L2

/-! ### things in flight: they belong to the ground meanwhile -/
abbrev gd (b : Bk) (H : Hp) (g : List Addr) : Bk := ⟨Hb.addF b.B H g, b.F0, b.pin, b.so⟩
section
variable {K : PySem.W.Frag} {b : Bk} {Fz : Hp} {F : Nat → List Addr} {δ : List Sl} {σ : L2.St} {H : Hp}
theorem Rl.guard (R : Rl K b Fz F δ σ H) {g : List Addr} (hg : ∀ a ∈ g, Fz a = none ∧ b.B a = none ∧ ∀ k, a ∉ F k) : Rl K (gd b H g) Fz F δ σ H where
  le := R.le
  base := addF_le R.base
  len := R.len
  slot := R.slot
  nd := R.nd
  dj := R.dj
  offF := R.offF
  offB := fun i a ha => by
    show Hb.addF b.B H g a = none
    rw [addF_out (fun z => (hg a z).2.2 i ha)]
    exact R.offB i a ha
  on := R.on
  keep := fun a ha => by
    have ha : Hb.addF b.B H g a ≠ none := ha
    show Fz a = b.F0 a
    by_cases q : a ∈ g
    · rw [(hg a q).1]
      cases e : b.F0 a with
      | none => rfl
      | some o => exact absurd (hg a q).2.1 (R.f0 a (by rw [e]; simp))
    · rw [addF_out q] at ha
      exact R.keep a ha
  f0 := fun a ha => by
    have h := R.f0 a ha
    show Hb.addF b.B H g a ≠ none
    rw [addF_out fun z => h (hg a z).2.1]
    exact h
  pin := R.pin
  als := R.als
theorem Rl.guarded {H' Fz' : Hp} {F' : Nat → List Addr} {δ' : List Sl} {σ' : L2.St} {g : List Addr} (R : Rl K (gd b H g) Fz' F' δ' σ' H') (hB : ∀ a ∈ g, b.B a = none) (f0 : ∀ a, b.F0 a ≠ none → b.B a ≠ none) (hH : ∀ a ∈ g, H a ≠ none) :
    ∀ a ∈ g, H' a = H a ∧ Fz' a = none ∧ ∀ k, a ∉ F' k := fun a ha => by
  have e : (gd b H g).B a = H a := addF_in ha
  have n : (gd b H g).B a ≠ none := by rw [e]; exact hH a ha
  refine ⟨?_, ?_, fun k hk => n (R.offB k a hk)⟩
  · cases q : H a with
    | none => exact absurd q (hH a ha)
    | some o => exact R.base a o (e.trans q)
  · rw [R.keep a n]
    cases q : b.F0 a with
    | none => rfl
    | some o => exact absurd (hB a ha) (f0 a (by rw [q]; simp))
theorem Rl.unguard {H' : Hp} {g : List Addr} (R : Rl K (gd b H g) Fz F δ σ H') (hB : ∀ a ∈ g, b.B a = none) (f0 : ∀ a, b.F0 a ≠ none → b.B a ≠ none) : Rl K b Fz F δ σ H' where
  le := R.le
  base := fun a o e => R.base a o (by
    show Hb.addF b.B H g a = some o
    rw [addF_out fun z => by rw [hB a z] at e; cases e]
    exact e)
  len := R.len
  slot := R.slot
  nd := R.nd
  dj := R.dj
  offF := R.offF
  offB := fun i a ha => by
    have h : Hb.addF b.B H g a = none := R.offB i a ha
    by_cases q : a ∈ g
    · exact hB a q
    · rw [addF_out q] at h
      exact h
  on := R.on
  keep := fun a ha => R.keep a (by
    show Hb.addF b.B H g a ≠ none
    rw [addF_out fun z => ha (hB a z)]
    exact ha)
  f0 := f0
  pin := R.pin
  als := R.als
/-- what nobody here knows of changes -/
theorem Rl.other (R : Rl K b Fz F δ σ H) {D : Addr} {o : HO} (h1 : Fz D = none) (h2 : b.B D = none) (h3 : ∀ k, D ∉ F k) : Rl K b Fz F δ σ (upd H D o) where
  le := fun a x e => by
    rw [upd_ne fun z => by rw [z, h1] at e; cases e]
    exact R.le a x e
  base := fun a x e => by
    rw [upd_ne fun z => by rw [z, h2] at e; cases e]
    exact R.base a x e
  len := R.len
  slot := fun i s e => (R.slot i s e).keeps (Same.refl _) (fun a ha => upd_ne fun z => h3 i (by rw [← z]; exact ha)) fun x j ej a ha => upd_ne fun z => by
    subst ej
    subst z
    obtain ⟨xs, hx⟩ := R.als i x j e
    obtain ⟨l, vs, g, p1, p2, _⟩ := R.slot x _ hx
    rw [ha] at p1
    cases p1
    exact h3 x (by rw [p2]; exact List.mem_cons_self)
  nd := R.nd
  dj := R.dj
  offF := R.offF
  offB := R.offB
  on := fun i a ha => by
    rw [upd_ne fun z => h3 i (by rw [← z]; exact ha)]
    exact R.on i a ha
  keep := R.keep
  f0 := R.f0
  pin := R.pin
  als := R.als

/-! ### the slots of a comprehension's own names -/
def plainS : Option Sl → Bool
  | some .no => true
  | some (.fz _) => true
  | _ => false
def okW (vs : List Nat) (δ : List Sl) : Bool := vs.all fun v => plainS δ[v]?
def wipeD (vs : List Nat) (δ : List Sl) : List Sl := vs.foldr (fun v δ => δ.set v .no) δ
def unw (vs : List Nat) (δ δ' : List Sl) : List Sl := vs.foldr (fun v δ' => upS v (δ[v]?.getD .no) δ') δ'
theorem Rl.wipe1 (R : Rl K b Fz F δ σ H) {v : Nat} (hv : plainS δ[v]? = true) (hp : v ∉ b.pin) : Rl K b Fz F (δ.set v .no) (σ.set v none) H := by
  have hF : F v = [] := by
    cases q : δ[v]? with
    | none => rw [q] at hv; cases hv
    | some s =>
      have h := R.slot v s q
      rw [q] at hv
      cases s with
      | no => exact h
      | fz d => exact h.1
      | _ => cases hv
  have hx : ∀ (x : Nat) xs, δ[x]? = some (.ol xs) → x ≠ v := fun x xs e z => by
    rw [z] at e
    rw [e] at hv
    cases hv
  refine ⟨R.le, R.base, by rw [List.length_set, List.length_set]; exact R.len, fun i s e => ?_, R.nd, R.dj, R.offF, R.offB, R.on, R.keep, R.f0, fun i hi => ?_, fun i x j e => ?_⟩
  · by_cases q : i = v
    · subst q
      have hl : i < δ.length := by
        have := (List.getElem?_eq_some_iff.mp e).1
        rwa [List.length_set] at this
      rw [List.getElem?_set_self hl] at e
      cases e
      exact hF
    · rw [List.getElem?_set_ne (Ne.symm q)] at e
      have h := R.slot i s e
      rw [List.getElem?_set_ne (Ne.symm q)]
      cases s with
      | al x j =>
        obtain ⟨h0, a, c, ws, h1, h2⟩ := h
        obtain ⟨xs, e2⟩ := R.als i x j e
        exact ⟨h0, a, c, ws, by rw [List.getElem?_set_ne (Ne.symm (hx x xs e2))]; exact h1, h2⟩
      | no => exact h
      | fz d => exact h
      | ol xs => exact h
      | od kvs => exact h
  · rw [List.getElem?_set_ne fun z => hp (by rw [z]; exact hi)]
    exact R.pin i hi
  · by_cases q : i = v
    · subst q
      have hl : i < δ.length := by
        have := (List.getElem?_eq_some_iff.mp e).1
        rwa [List.length_set] at this
      rw [List.getElem?_set_self hl] at e
      cases e
    · rw [List.getElem?_set_ne (Ne.symm q)] at e
      obtain ⟨xs, e2⟩ := R.als i x j e
      exact ⟨xs, by rw [List.getElem?_set_ne (Ne.symm (hx x xs e2))]; exact e2⟩
theorem plain_wipe {v : Nat} {δ : List Sl} (h : plainS δ[v]? = true) : ∀ vs : List Nat, plainS (wipeD vs δ)[v]? = true
  | [] => h
  | w :: vs => by
    show plainS ((wipeD vs δ).set w .no)[v]? = true
    have ih := plain_wipe h vs
    by_cases e : v = w
    · subst e
      by_cases hl : v < (wipeD vs δ).length
      · rw [List.getElem?_set_self hl]; rfl
      · rw [List.getElem?_eq_none (by omega)] at ih
        cases ih
    · rw [List.getElem?_set_ne (Ne.symm e)]
      exact ih
theorem Rl.wipe (R : Rl K b Fz F δ σ H) : ∀ {vs : List Nat}, okW vs δ = true → (∀ v ∈ vs, v ∉ b.pin) → Rl K b Fz F (wipeD vs δ) (L2.wipe σ vs) H
  | [], _, _ => R
  | v :: vs, h, hp => by
    have h' : plainS δ[v]? = true ∧ okW vs δ = true := by
      unfold okW at h ⊢
      rwa [List.all_cons, Bool.and_eq_true] at h
    exact (R.wipe h'.2 fun w hw => hp w (List.mem_cons_of_mem _ hw)).wipe1 (plain_wipe h'.1 vs) (hp v List.mem_cons_self)
theorem wipe_get {σ : L2.St} {k : Nat} : ∀ {vs : List Nat}, k ∉ vs → (L2.wipe σ vs)[k]? = σ[k]?
  | [], _ => rfl
  | v :: vs, h => by
    unfold L2.wipe
    rw [List.getElem?_set_ne fun z => h (by rw [z]; exact List.mem_cons_self)]
    exact wipe_get fun z => h (List.mem_cons_of_mem _ z)
theorem wipe_in {σ : L2.St} {k : Nat} : ∀ {vs : List Nat}, k ∈ vs → k < σ.length → (L2.wipe σ vs)[k]? = some none
  | v :: vs, h, hl => by
    unfold L2.wipe
    by_cases e : k = v
    · subst e
      rw [List.getElem?_set_self (by rw [L2.wipe_length]; exact hl)]
    · rw [List.getElem?_set_ne (Ne.symm e)]
      exact wipe_in ((List.mem_cons.mp h).resolve_left e) hl
theorem wipe_eq {σ σ2 : L2.St} {vs : List Nat} (hl : σ2.length = σ.length) (h : ∀ k, k ∉ vs → σ2[k]? = σ[k]?) : L2.wipe σ2 vs = L2.wipe σ vs := by
  refine List.ext_getElem? fun k => ?_
  by_cases q : k ∈ vs
  · by_cases hk : k < σ.length
    · rw [wipe_in q hk, wipe_in q (by rw [hl]; exact hk)]
    · rw [List.getElem?_eq_none (by rw [L2.wipe_length]; omega), List.getElem?_eq_none (by rw [L2.wipe_length]; omega)]
  · rw [wipe_get q, wipe_get q]
    exact h k q
def rst (vs : List Nat) (σ σ2 : L2.St) : L2.St := vs.foldr (fun v τ => τ.set v (σ[v]?.join)) σ2
theorem rst_len (vs : List Nat) (σ σ2 : L2.St) : (rst vs σ σ2).length = σ2.length := by
  induction vs with
  | nil => rfl
  | cons v vs ih =>
    show ((rst vs σ σ2).set v _).length = _
    rw [List.length_set, ih]
theorem rst_eq {vs : List Nat} {σ σ2 : L2.St} (hl : σ2.length = σ.length) (h : ∀ k, k ∉ vs → σ2[k]? = σ[k]?) : rst vs σ σ2 = σ := by
  have key : ∀ ws : List Nat, ∀ k, (k ∈ ws → (rst ws σ σ2)[k]? = σ[k]?) ∧ (k ∉ ws → (rst ws σ σ2)[k]? = σ2[k]?) := by
    intro ws
    induction ws with
    | nil => exact fun k => ⟨(fun z => nomatch z), fun _ => rfl⟩
    | cons v ws ih =>
      intro k
      have e : rst (v :: ws) σ σ2 = (rst ws σ σ2).set v (σ[v]?.join) := rfl
      rw [e]
      by_cases q : k = v
      · subst q
        refine ⟨fun _ => ?_, fun z => absurd List.mem_cons_self z⟩
        by_cases hk : k < σ.length
        · rw [List.getElem?_set_self (by rw [rst_len]; omega), List.getElem?_eq_getElem hk]
          rfl
        · rw [List.getElem?_eq_none (by rw [List.length_set, rst_len]; omega), List.getElem?_eq_none (by omega)]
      · rw [List.getElem?_set_ne (Ne.symm q)]
        exact ⟨fun z => (ih k).1 ((List.mem_cons.mp z).resolve_left q), fun z => (ih k).2 fun y => z (List.mem_cons_of_mem _ y)⟩
  refine List.ext_getElem? fun k => ?_
  by_cases q : k ∈ vs
  · exact (key vs k).1 q
  · rw [(key vs k).2 q]
    exact h k q
/-- the outer slots come back -/
theorem Rl.unwipe {δ' : List Sl} {σ2 : L2.St} (R2 : Rl K b Fz F δ' σ2 H) (hl : σ2.length = σ.length) : ∀ {vs : List Nat}, (∀ v ∈ vs, v ∉ b.pin) → (∀ v ∈ vs, ∀ s, δ[v]? = some s → SlH K Fz H [] [] (σ[v]?.join) s ∧ (∀ x j, s ≠ .al x j)) →
    ∃ F', Rl K b Fz F' (unw vs δ δ') (rst vs σ σ2) H ∧ ∀ k a, a ∈ F' k → a ∈ F k
  | [], _, _ => ⟨F, R2, fun _ _ h => h⟩
  | v :: vs, hp, hs => by
    obtain ⟨F1, R1, h1⟩ := Rl.unwipe R2 hl (vs := vs) (fun w hw => hp w (List.mem_cons_of_mem _ hw)) fun w hw => hs w (List.mem_cons_of_mem _ hw)
    have e1 : rst (v :: vs) σ σ2 = (rst vs σ σ2).set v (σ[v]?.join) := rfl
    have e2 : unw (v :: vs) δ δ' = upS v (δ[v]?.getD .no) (unw vs δ δ') := rfl
    rw [e1, e2]
    refine ⟨fun k => if k = v then [] else F1 k, R1.put (Same.refl _) R1.le R1.base List.length_set (fun k hk => List.getElem?_set_ne (Ne.symm hk)) (.inr (hp v List.mem_cons_self)) (fun hlt => ?_) (fun x j z => ?_) List.nodup_nil (fun _ z => nomatch z) (fun _ z => nomatch z) (fun _ z => nomatch z) (fun _ z => nomatch z) (fun _ _ _ _ => rfl) (fun k _ a ha => R1.offF k a ha) (fun _ _ => rfl), fun k a ha => ?_⟩
    · rw [List.getElem?_set_self (by rw [R1.len]; exact hlt)]
      cases q : δ[v]? with
      | none => exact rfl
      | some s =>
        obtain ⟨g1, g2⟩ := hs v List.mem_cons_self s q
        cases s with
        | al x j => exact absurd rfl (g2 x j)
        | no => exact g1
        | fz d => exact g1
        | ol xs => exact g1
        | od kvs => exact g1
    · cases q : δ[v]? with
      | none => rw [q] at z; cases z
      | some s =>
        rw [q] at z
        exact absurd z ((hs v List.mem_cons_self s q).2 x j)
    · have ha : a ∈ (if k = v then [] else F1 k) := ha
      by_cases q : k = v
      · rw [if_pos q] at ha; cases ha
      · rw [if_neg q] at ha
        exact h1 k a ha
end
/-! ### list comprehensions -/
abbrev W0 : WX := fun _ _ _ _ => False
/-- an item for the list: a tree, or (w) a list of its own -/
def elOf (w : Bool) : AV → Option El
  | .val d => some (.fz d)
  | .tmp (.ol xs) => if w = true then (allFz xs).map .ow else none
  | _ => none
def lcL (w : Bool) (vs : List Nat) (t : AV → List Sl → Rs Unit) (tt : List Sl → Rs Bool) (f : List Sl → Rs AV) : List PyData → List El → List Sl → Rs (List El)
  | [], es, δ => .ok es δ
  | d :: r, es, δ => if okW vs δ = true then (match t (.val d) (wipeD vs δ) with
    | .ok _ δ1 => (match tt δ1 with
      | .ok k δ2 => if k = true then (match f δ2 with
        | .ok a δ3 => (match elOf w a with
          | some e => if es.length ≤ cap then lcL w vs t tt f r (es ++ [e]) (unw vs δ δ3) else .bad
          | none => .bad)
        | _ => .bad) else lcL w vs t tt f r es (unw vs δ δ2)
      | _ => .bad)
    | _ => .bad) else .bad
def sLc (w : Bool) (wi : List Sl → Rs (List PyData)) (vs : List Nat) (t : AV → List Sl → Rs Unit) (tt : List Sl → Rs Bool) (f : List Sl → Rs AV) : List Sl → Rs AV := fun δ => (wi δ).bind fun ds δ1 => (lcL w vs t tt f ds [] δ1).bind fun es δ2 => .ok (.tmp (.ol es)) δ2
def tOk : List Sl → Rs Bool := fun δ => .ok true δ
theorem elOf_ok {K : PySem.W.Frag} {b : Bk} {Fz : Hp} {F : Nat → List Addr} {σ : L2.St} {H : Hp} {w : Bool} {a : AV} {e : El} {y : V} (A : AvR K b Fz F H σ y a) (h : elOf w a = some e) :
    ∃ g, ElR K Fz H g y e ∧ g.Nodup ∧ ∀ a ∈ g, Fz a = none ∧ b.B a = none ∧ H a ≠ none ∧ ∀ i, a ∉ F i := by
  cases a with
  | val d => cases h; exact ⟨[], ⟨rfl, A⟩, List.nodup_nil, fun _ z => nomatch z⟩
  | ref i => cases h
  | tmp s =>
    cases s with
    | ol xs =>
      unfold elOf at h
      by_cases c : w = true
      · simp only [if_pos c] at h
        cases q : allFz xs with
        | none => rw [q] at h; cases h
        | some ds =>
          rw [q] at h
          cases h
          obtain ⟨_, g, ⟨l, vs, g', e1, e2, e3, e4⟩, hn, hg⟩ := A
          cases e1
          have rp := e4.allFz q
          refine ⟨[l], ⟨l, vs, rfl, rfl, e3, rp⟩, by simp, fun c hc => hg c ?_⟩
          rw [List.mem_singleton] at hc
          rw [hc, e2]
          exact List.mem_cons_self
      · simp only [if_neg c] at h
        cases h
    | _ => cases h
theorem lc_ok {K : PySem.W.Frag} {mg : Str → Option Value} {W : WX} {pin ts vs : List Nat} {w : Bool} {wi : List Sl → Rs (List PyData)} {t : AV → List Sl → Rs Unit} {tt : List Sl → Rs Bool} {f : List Sl → Rs AV} {tT : TT} (hv : ∀ v ∈ vs, v ∉ pin) (hts : ∀ v ∈ ts, v ∈ vs) (hT : ∀ σ H Q, rdT K mg W0 pin tt σ H Q → tT σ H Q) :
    ∀ σ H Q, rdE K mg W pin (sLc w wi vs t tt f) σ H Q → tLc (rdI K mg W pin wi) (rdG K mg W0 pin ts t) tT (rdE K mg W0 pin f) vs σ H Q := fun σ H Q ⟨b, Fz, F, δ, hpin, R, P⟩ => by
  refine ⟨b, Fz, F, δ, hpin, R, ?_⟩
  unfold sLc at P
  cases q : wi δ with
  | bad => rw [q] at P; exact P
  | er x δ' => rw [q] at P; exact P
  | ok ds δ1 =>
    rw [q] at P
    have P : Post K mg W b Fz σ Q ((lcL w vs t tt f ds [] δ1).bind fun es δ2 => .ok (.tmp (.ol es)) δ2) := P
    intro J H1 Fz1 F1 s1 R1 hw D hD
    obtain ⟨d1, d2, d3⟩ := R1.offN hD
    refine ⟨fun i m H => m = ds.length - i ∧ i ≤ ds.length ∧ ∃ Fz F δ acc es g, Same Fz1 Fz ∧ Rl K b Fz F δ σ H ∧ H D = some (.lst acc) ∧ ElL K Fz H g acc es ∧ (D :: g).Nodup ∧ (∀ a ∈ D :: g, Fz a = none ∧ b.B a = none ∧ H a ≠ none ∧ ∀ k, a ∉ F k) ∧ Post K mg W b Fz σ Q ((lcL w vs t tt f (ds.drop i) es δ).bind fun es δ2 => .ok (.tmp (.ol es)) δ2),
      ⟨ds.length, by simp, Nat.zero_le _, Fz1, F1, δ1, [], [], [], Same.refl _, R1.new hD _, upd_same, .nil, by simp, fun a ha => ?_, by rw [List.drop_zero]; exact P.le s1⟩, ?_⟩
    · rw [List.mem_singleton] at ha
      subst ha
      exact ⟨d1, d2, by rw [upd_same]; simp, d3⟩
    rintro i m H2 ⟨rfl, hi, Fz2, F2, δ2, acc, es, g, s2, R2, hacc, hes, hnd, hg, P2⟩
    have gB : ∀ a ∈ D :: g, b.B a = none := fun a ha => (hg a ha).2.1
    have gH : ∀ a ∈ D :: g, H2 a ≠ none := fun a ha => (hg a ha).2.2.1
    have Rg := R2.guard (g := D :: g) fun a ha => ⟨(hg a ha).1, (hg a ha).2.1, (hg a ha).2.2.2⟩
    obtain ⟨go, stop⟩ := hw _ Fz2 F2 δ2 σ H2 s2 Rg
    by_cases hlt : i < ds.length
    · obtain ⟨g1, g2⟩ := go i hlt
      refine .inr ⟨g1, fun H => ∃ Fz F δ acc es g, Same Fz1 Fz ∧ Rl K b Fz F δ σ H ∧ H D = some (.lst acc) ∧ ElL K Fz H g acc es ∧ (D :: g).Nodup ∧ (∀ a ∈ D :: g, Fz a = none ∧ b.B a = none ∧ H a ≠ none ∧ ∀ k, a ∉ F k) ∧ Post K mg W b Fz σ Q ((lcL w vs t tt f (ds.drop (i + 1)) es δ).bind fun es δ2 => .ok (.tmp (.ol es)) δ2),
        fun H3 h3 => ⟨ds.length - (i + 1), by omega, rfl, hlt, h3⟩, fun x H3 y => ?_⟩
      obtain ⟨Fz3, d, e1, s3, R3, r3⟩ := g2 x H3 y
      have ed : ds.drop i = d :: ds.drop (i + 1) := by
        rw [List.drop_eq_getElem_cons hlt]
        rw [List.getElem?_eq_getElem hlt] at e1
        rw [Option.some.inj e1]
      rw [ed] at P2
      unfold lcL at P2
      by_cases cw : okW vs δ2 = true
      · rw [if_pos cw] at P2
        have hvb : ∀ v ∈ vs, v ∉ b.pin := by rw [hpin]; exact hv
        have R4 := R3.wipe cw hvb
        -- how it ends for a state behind the turn
        have back : ∀ {δ5 : List Sl} {σ5 : L2.St} {H5 Fz5 : Hp} {F5 : Nat → List Addr}, Same Fz2 Fz5 → Rl K (gd b H2 (D :: g)) Fz5 F5 δ5 σ5 H5 → σ5.length = σ.length → (∀ k, k ∉ vs → σ5[k]? = σ[k]?) → ∃ F6, Rl K b Fz5 F6 (unw vs δ2 δ5) σ H5 ∧ ∀ k a, a ∈ F6 k → a ∈ F5 k := by
          intro δ5 σ5 H5 Fz5 F5 s25 R5 hl5 fr5
          have R6 := R5.unguard gB R2.f0
          obtain ⟨F6, R7, h7⟩ := Rl.unwipe (σ := σ) (δ := δ2) R6 hl5 (vs := vs) hvb fun v hvv s hs => by
            have h0 := R2.slot v s hs
            have hpl : plainS δ2[v]? = true := by
              unfold okW at cw
              exact List.all_eq_true.mp cw v hvv
            rw [hs] at hpl
            cases s with
            | no => exact ⟨rfl, fun x j z => nomatch z⟩
            | fz d' =>
              obtain ⟨_, v', k1, k2⟩ := h0
              exact ⟨⟨rfl, v', k1, k2.mono s25⟩, fun x j z => nomatch z⟩
            | _ => cases hpl
          rw [rst_eq hl5 fr5] at R7
          exact ⟨F6, R7, h7⟩
        have fits : ∀ {δ5 : List Sl} {σ5 : L2.St} {H5 Fz5 : Hp} {F5 : Nat → List Addr}, Rl K (gd b H2 (D :: g)) Fz5 F5 δ5 σ5 H5 → ∀ a ∈ D :: g, H5 a = H2 a ∧ Fz5 a = none ∧ ∀ k, a ∉ F5 k := fun R5 => R5.guarded gB R2.f0 gH
        refine ⟨gd b H2 (D :: g), Fz3, F2, wipeD vs δ2, .val d, hpin, R4, r3, ?_⟩
        cases q2 : t (.val d) (wipeD vs δ2) with
        | bad => simp only [q2] at P2; exact P2
        | er x δ3 => simp only [q2] at P2; exact P2.elim
        | ok u δ3 =>
          simp only [q2] at P2
          intro σ4 H4 Fz4 F4 s4 R5 fr
          have hl4 : σ4.length = σ.length := by rw [fr.1, L2.wipe_length]
          have fr4 : ∀ k, k ∉ vs → σ4[k]? = σ[k]? := fun k hk => (fr.2 k fun z => hk (hts k z)).trans (wipe_get hk)
          refine ⟨wipe_eq hl4 fr4, ?_⟩
          have s24 : Same Fz2 Fz4 := s3.trans s4
          refine hT _ _ _ ⟨gd b H2 (D :: g), Fz4, F4, δ3, hpin, R5, ?_⟩
          cases q3 : tt δ3 with
          | bad => simp only [q3] at P2; exact P2.elim
          | er x δ4 => simp only [q3] at P2; exact P2.elim
          | ok k δ4 =>
            simp only [q3] at P2
            intro H5 Fz5 F5 s5 R6
            by_cases ck : k = true
            · rw [if_pos ck] at P2 ⊢
              refine ⟨gd b H2 (D :: g), Fz5, F5, δ4, hpin, R6, ?_⟩
              cases q4 : f δ4 with
              | bad => simp only [q4] at P2; exact P2.elim
              | er x δ5 => simp only [q4] at P2; exact P2.elim
              | ok a δ5 =>
                simp only [q4] at P2
                cases q5 : elOf w a with
                | none => simp only [q5] at P2; exact P2.elim
                | some e =>
                  simp only [q5] at P2
                  by_cases cl : es.length ≤ cap
                  · rw [if_pos cl] at P2
                    intro y H6 Fz6 F6 s6 R7 A
                    have s26 : Same Fz2 Fz6 := (s24.trans s5).trans s6
                    obtain ⟨ge, he, hne, hge⟩ := elOf_ok A q5
                    obtain ⟨F7, R8, h7⟩ := back s26 R7 hl4 fr4
                    have fit := fits R7
                    have fD := fit D List.mem_cons_self
                    have eD : H6 D = some (.lst acc) := fD.1.trans hacc
                    refine ⟨acc, eD, by rw [hes.len]; exact lt_line cl, ?_⟩
                    have gnot : ∀ a ∈ ge, a ∉ D :: g := fun a ha z => by
                      have h1 : (gd b H2 (D :: g)).B a = none := (hge a ha).2.1
                      have h2 : Hb.addF b.B H2 (D :: g) a = H2 a := addF_in z
                      have h3 : H2 a = none := h2.symm.trans h1
                      exact gH a z h3
                    have geB : ∀ a ∈ ge, b.B a = none := fun a ha => by
                      have h1 : Hb.addF b.B H2 (D :: g) a = none := (hge a ha).2.1
                      rwa [addF_out (gnot a ha)] at h1
                    have neD : ∀ a ∈ g, a ≠ D := fun a ha z => (List.nodup_cons.mp hnd).1 (by rw [← z]; exact ha)
                    have neD2 : ∀ a ∈ ge, a ≠ D := fun a ha z => gnot a ha (by rw [z]; exact List.mem_cons_self)
                    have R9 := R8.other (D := D) (o := .lst (acc ++ [y])) fD.2.1 (gB D List.mem_cons_self) fun k hk => fD.2.2 k (h7 k D hk)
                    have E1 : ElL K Fz6 (upd H6 D (.lst (acc ++ [y]))) g acc es := hes.keeps s26 fun a ha => by
                      rw [upd_ne (neD a ha)]
                      exact (fit a (List.mem_cons_of_mem _ ha)).1
                    have E2 : ElL K Fz6 (upd H6 D (.lst (acc ++ [y]))) (ge ++ []) [y] [e] := .cons (he.keeps (Same.refl _) fun a ha => upd_ne (neD2 a ha)) .nil
                    rw [List.append_nil] at E2
                    refine ⟨Fz6, F7, _, acc ++ [y], es ++ [e], g ++ ge, s2.trans s26, R9, upd_same, E1.app E2, ?_, fun a ha => ?_, P2.le s26⟩
                    · rw [List.nodup_cons, List.nodup_append]
                      refine ⟨fun z => ?_, (List.nodup_cons.mp hnd).2, hne, fun a ha c hc z => ?_⟩
                      · rcases List.mem_append.mp z with z | z
                        · exact (List.nodup_cons.mp hnd).1 z
                        · exact gnot D z List.mem_cons_self
                      · subst z
                        exact gnot a hc (List.mem_cons_of_mem _ ha)
                    · have cases3 : a = D ∨ a ∈ g ∨ a ∈ ge := by
                        rcases List.mem_cons.mp ha with z | z
                        · exact .inl z
                        · exact .inr (List.mem_append.mp z)
                      rcases cases3 with z | z | z
                      · subst z
                        exact ⟨fD.2.1, gB a List.mem_cons_self, by rw [upd_same]; simp, fun k hk => fD.2.2 k (h7 k a hk)⟩
                      · have fa := fit a (List.mem_cons_of_mem _ z)
                        exact ⟨fa.2.1, gB a (List.mem_cons_of_mem _ z), by rw [upd_ne (neD a z), fa.1]; exact gH a (List.mem_cons_of_mem _ z), fun k hk => fa.2.2 k (h7 k a hk)⟩
                      · have fa := hge a z
                        exact ⟨fa.1, geB a z, by rw [upd_ne (neD2 a z)]; exact fa.2.2.1, fun k hk => fa.2.2.2 k (h7 k a hk)⟩
                  · rw [if_neg cl] at P2
                    exact P2.elim
            · rw [if_neg ck] at P2 ⊢
              have s25 : Same Fz2 Fz5 := s24.trans s5
              obtain ⟨F7, R8, h7⟩ := back s25 R6 hl4 fr4
              have fit := fits R6
              refine ⟨Fz5, F7, _, acc, es, g, s2.trans s25, R8, (fit D List.mem_cons_self).1.trans hacc, hes.keeps s25 fun a ha => (fit a (List.mem_cons_of_mem _ ha)).1, hnd, fun a ha => ?_, P2.le s25⟩
              have fa := fit a ha
              exact ⟨fa.2.1, gB a ha, by rw [fa.1]; exact gH a ha, fun k hk => fa.2.2 k (h7 k a hk)⟩
      · rw [if_neg cw] at P2
        exact P2.elim
    · have e : i = ds.length := by omega
      subst e
      rw [List.drop_length] at P2
      refine .inl ⟨stop, ?_⟩
      exact P2 (.ref D) H2 Fz2 F2 (Same.refl _) R2 ⟨rfl, D :: g, ⟨D, acc, g, rfl, rfl, hacc, hes⟩, hnd, fun a ha => hg a ha⟩
section
variable {X : Cx} {W : WX} {pin ts : List Nat} {elt tg iter : Expr} {ifs : List Expr} {scope : Scope} {own : List (Str × Nat)} {pos : Pos} {wi : List Sl → Rs (List PyData)} {t : AV → List Sl → Rs Unit} {tt : List Sl → Rs Bool} {f : List Sl → Rs AV}
/-- the block's context -/
abbrev BX (X : Cx) (scope : Scope) (s : Shared) (H : Hp) (C : Addr) (cl : List (Str × Addr)) (fp : List Addr) : Cx := X.blk s H scope (compEnvC scope cl C X.env) fp
abbrev STs (X : Cx) (pin : List Nat) (ifs : List Expr) (tt : List Sl → Rs Bool) : Prop := PTs X ifs (rdT X.K X.mg W0 pin tt)
theorem pts_mono {X : Cx} {es : List Expr} {t t' : TT} (h : PTs X es t) (i : ∀ σ H Q, t' σ H Q → t σ H Q) : PTs X es t' := ⟨fun pins s σ H Q I q => h.run pins s σ H Q I (i σ H Q q)⟩
theorem sts_nil {X : Cx} : STs X pin [] tOk := pts_mono pts_nil fun σ H Q ⟨b, Fz, F, δ, hp, R, P⟩ => P H Fz F (Same.refl _) R
theorem sts_one {X : Cx} {c : Expr} (h : ST X W0 pin c tt) : STs X pin [c] tt := pts_one h
theorem se_lc (w : Bool) (hc : X.calm = true) (hN : X.N.Nodup) (hi : SI X W pin tg iter wi) (ok : blkC X.N X.env.scope scope own = true) (hv : ∀ v ∈ own.map (·.2), v ∉ pin) (hts : ∀ v ∈ ts, v ∈ own.map (·.2))
    (hg : ∀ s H C cl fp, SG (BX X scope s H C cl fp) W0 pin ts tg t) (ht : ∀ s H C cl fp, STs (BX X scope s H C cl fp) pin ifs tt) (he : ∀ s H C cl fp, SE (BX X scope s H C cl fp) W0 pin elt f) (hs : ∀ x, foldedSetIterable iter X.env x = pure x := by intro _; rfl) :
    SE X W pin (.ListComp elt [⟨tg, iter, ifs, 0⟩] scope pos) (sLc w wi (own.map (·.2)) t tt f) :=
  pe_mono (pe_lc hc hN hi (blkOk_by ok) hg ht he hs) (lc_ok hv hts fun _ _ _ h => h)
theorem ss_setLc (w : Bool) {i : Nat} {y : Str} {py spos : Pos} (hc : X.calm = true) (hN : X.N.Nodup) (hy : X.N[i]? = some y) (hyl : X.env.scope.names.lookup y = some .local) (hp : i ∉ pin)
    (hsw : swapsWith (.ListComp elt [⟨tg, iter, ifs, 0⟩] scope pos) (some (.Name y py)) spos.line X.env = pure true) (hi : SI X W pin tg iter wi) (ok : blkC X.N X.env.scope scope own = true) (hv : ∀ v ∈ own.map (·.2), v ∉ pin) (hts : ∀ v ∈ ts, v ∈ own.map (·.2))
    (hg : ∀ s H C cl fp, SG (BX X scope s H C cl fp) W0 pin ts tg t) (ht : ∀ s H C cl fp, STs (BX X scope s H C cl fp) pin ifs tt) (he : ∀ s H C cl fp, SE (BX X scope s H C cl fp) W0 pin elt f) (hs : ∀ x, foldedSetIterable iter X.env x = pure x := by intro _; rfl) :
    SS X W pin (.Assign [.Name y py] (.ListComp elt [⟨tg, iter, ifs, 0⟩] scope pos) spos) (oAsg (sLc w wi (own.map (·.2)) t tt f) (tgN i)) :=
  ps_mono (L2.ps_setLc hc hN hy hyl hsw hi (blkOk_by ok) hg ht he hs) fun D σ H ⟨b, Fz, F, δ, hpin, R, P⟩ => by
    refine lc_ok (K := X.K) (mg := X.mg) (W := W) (w := w) (wi := wi) (t := t) (tt := tt) (f := f) (tT := rdT X.K X.mg W0 pin tt) hv hts (fun _ _ _ h => h) σ H _ ?_
    refine rdS_bind hpin R P fun v H' Fz' F' a δ' s R' A P' => ?_
    refine tgN_ok (K := X.K) (mg := X.mg) (W := W) (b := b) (ts := [i]) (List.mem_singleton.mpr rfl) (by rw [hpin]; exact hp) R' A ?_
    cases q : tgN i a δ' with
    | bad => rw [q] at P'; exact P'
    | er x δ2 => rw [q] at P'; exact P'
    | ok u δ2 =>
      rw [q] at P'
      exact fun σ2 H2 Fz2 F2 s2 R2 _ => P' σ2 H2 Fz2 F2 s2 R2
end
end Hb

/-! part Hb9 -/
namespace Hb
open PySem PySem.Spec PyProof.Rows L2

/-! ### arguments -/
/-- an argument: a tree that stands still; the slot k by reference; a new thing of the callee's own -/
inductive Ar where
  | fz (d : PyData) | io (k : Nat) | own (s : Sl)
def ArH (K : PySem.W.Frag) (Fz H : Hp) (σ : L2.St) (f : List Addr) (v : V) : Ar → Prop
  | .fz d => f = [] ∧ Rp K Fz v d
  | .io k => f = [] ∧ σ[k]? = some (some v)
  | .own s => s.tree.isSome = true ∧ SlH K Fz H [] f (some v) s
structure ArOk (K : PySem.W.Frag) (b : Bk) (Fz : Hp) (F : Nat → List Addr) (H : Hp) (σ : L2.St) (vs : List V) (ars : List Ar) (G : Nat → List Addr) : Prop where
  len : vs.length = ars.length
  at_ : ∀ (j : Nat) (a : Ar), ars[j]? = some a → ∃ v, vs[j]? = some v ∧ ArH K Fz H σ (G j) v a
  nd : ∀ j, (G j).Nodup
  dj : ∀ i j a, a ∈ G i → a ∈ G j → i = j
  off : ∀ j a, a ∈ G j → Fz a = none ∧ b.B a = none ∧ H a ≠ none ∧ ∀ k, a ∉ F k
section
variable (K : PySem.W.Frag) (mg : Str → Option Value) (W : WX)
def PostAr (b : Bk) (Fz : Hp) (σ : L2.St) (Q : List V → Hp → Prop) : Rs (List Ar) → Prop
  | .ok ars δ => ∀ vs H' Fz' F' G, Same Fz Fz' → Rl K b Fz' F' δ σ H' → ArOk K b Fz' F' H' σ vs ars G → Q vs H'
  | .er x δ => PostX K mg W b Fz σ x δ
  | .bad => False
def rdAr (pin : List Nat) (f : List Sl → Rs (List Ar)) : TA := fun σ H Q => ∃ b Fz F δ, b.pin = pin ∧ Rl K b Fz F δ σ H ∧ PostAr K mg W b Fz σ Q (f δ)
end
abbrev SAr (X : Cx) (W : WX) (pin : List Nat) (es : List Expr) (f : List Sl → Rs (List Ar)) : Prop := PA X es (rdAr X.K X.mg W pin f)
def rNil : List Sl → Rs (List Ar) := fun δ => .ok [] δ
def arOf : AV → Option Ar
  | .val d => some (.fz d)
  | .tmp s => some (.own s)
  | .ref _ => none
/-- a value, or a new thing -/
def rCons (f : List Sl → Rs AV) (g : List Sl → Rs (List Ar)) : List Sl → Rs (List Ar) := fun δ => (f δ).bind fun a δ1 => match arOf a with
  | some r => (g δ1).bind fun rs δ2 => .ok (r :: rs) δ2
  | none => .bad
/-- a name by reference -/
def rIo (k : Nat) (g : List Sl → Rs (List Ar)) : List Sl → Rs (List Ar) := fun δ => (sVar k δ).bind fun _ δ1 => (g δ1).bind fun rs δ2 => .ok (.io k :: rs) δ2
section
variable {K : PySem.W.Frag} {mg : Str → Option Value} {W : WX} {pin : List Nat}
theorem PostAr.le {b : Bk} {Fz Fz1 : Hp} {σ : L2.St} {Q : List V → Hp → Prop} {r : Rs (List Ar)} (s : Same Fz Fz1) (p : PostAr K mg W b Fz σ Q r) : PostAr K mg W b Fz1 σ Q r := by
  cases r with
  | ok a δ => exact fun v H' Fz' F' G s' R e => p v H' Fz' F' G (s.trans s') R e
  | er x δ => exact PostX.le s p
  | bad => exact p
theorem arOk_nil {b : Bk} {Fz : Hp} {F : Nat → List Addr} {H : Hp} {σ : L2.St} : ArOk K b Fz F H σ [] [] (fun _ => []) := ⟨rfl, fun j a h => by simp at h, fun _ => List.nodup_nil, fun _ _ _ h => (nomatch h), fun _ _ h => (nomatch h)⟩
/-- one more argument ahead of the rest, which was reckoned while its thing belonged to the ground -/
theorem ArOk.cons {b : Bk} {Fz1 Fz2 : Hp} {F1 F2 : Nat → List Addr} {H1 H2 : Hp} {δ2 : List Sl} {σ : L2.St} {v : V} {vs : List V} {a : Ar} {ars : List Ar} {g : List Addr} {G : Nat → List Addr} (hs : Same Fz1 Fz2) (h1 : ArH K Fz1 H1 σ g v a) (hn : g.Nodup)
    (hg : ∀ c ∈ g, Fz1 c = none ∧ b.B c = none ∧ H1 c ≠ none ∧ ∀ k, c ∉ F1 k) (f0 : ∀ c, b.F0 c ≠ none → b.B c ≠ none) (R2 : Rl K (gd b H1 g) Fz2 F2 δ2 σ H2) (h2 : ArOk K (gd b H1 g) Fz2 F2 H2 σ vs ars G) :
    ArOk K b Fz2 F2 H2 σ (v :: vs) (a :: ars) (fun j => match j with
      | 0 => g
      | j + 1 => G j) := by
  have fit := R2.guarded (fun c hc => (hg c hc).2.1) f0 fun c hc => (hg c hc).2.2.1
  have notg : ∀ j c, c ∈ G j → c ∉ g := fun j c hc z => by
    have e1 : Hb.addF b.B H1 g c = none := (h2.off j c hc).2.1
    rw [addF_in z] at e1
    exact (hg c z).2.2.1 e1
  refine ⟨congrArg Nat.succ h2.len, fun j r e => ?_, fun j => ?_, fun i j c hi hj => ?_, fun j c hc => ?_⟩
  · cases j with
    | zero =>
      simp at e
      subst e
      refine ⟨v, rfl, ?_⟩
      cases a with
      | fz d => exact ⟨h1.1, h1.2.mono hs⟩
      | io k => exact h1
      | own s => exact ⟨h1.1, h1.2.keeps hs (fun c hc => (fit c hc).1) fun x j ej _ hx => by
          have := h1.1
          rw [ej] at this
          cases this⟩
    | succ j =>
      obtain ⟨u, e1, e2⟩ := h2.at_ j r (by simpa using e)
      exact ⟨u, by simpa using e1, e2⟩
  · cases j with
    | zero => exact hn
    | succ j => exact h2.nd j
  · cases i with
    | zero =>
      cases j with
      | zero => rfl
      | succ j => exact absurd hi (notg j c hj)
    | succ i =>
      cases j with
      | zero => exact absurd hj (notg i c hi)
      | succ j => exact congrArg Nat.succ (h2.dj i j c hi hj)
  · cases j with
    | zero =>
      obtain ⟨e1, e2, e3⟩ := fit c hc
      exact ⟨e2, (hg c hc).2.1, by rw [e1]; exact (hg c hc).2.2.1, e3⟩
    | succ j =>
      obtain ⟨e1, e2, e3⟩ := h2.off j c hc
      have e2 : Hb.addF b.B H1 g c = none := e2
      rw [addF_out (notg j c hc)] at e2
      exact ⟨e1, e2, e3⟩
end
section
variable {X : Cx} {W : WX} {pin : List Nat} {f : List Sl → Rs AV} {g : List Sl → Rs (List Ar)} {e : Expr} {es : List Expr}
theorem sr_nil : SAr X W pin [] rNil := pa_mono pa_nil fun σ H Q ⟨b, Fz, F, δ, hp, R, P⟩ => P [] H Fz F _ (Same.refl _) R arOk_nil
/-- the rest, while things of the ground's -/
theorem rest_ok {K : PySem.W.Frag} {mg : Str → Option Value} {b : Bk} {Fz1 : Hp} {F1 : Nat → List Addr} {δ1 : List Sl} {σ : L2.St} {H1 : Hp} {Q : List V → Hp → Prop} {v : V} {a : Ar} {gs : List Addr} (hp : b.pin = pin) (R1 : Rl K b Fz1 F1 δ1 σ H1) (h1 : ArH K Fz1 H1 σ gs v a) (hn : gs.Nodup)
    (hg : ∀ c ∈ gs, Fz1 c = none ∧ b.B c = none ∧ H1 c ≠ none ∧ ∀ k, c ∉ F1 k) (P : PostAr K mg W b Fz1 σ Q ((g δ1).bind fun rs δ2 => .ok (a :: rs) δ2)) : rdAr K mg W pin g σ H1 fun vs H2 => Q (v :: vs) H2 := by
  refine ⟨gd b H1 gs, Fz1, F1, δ1, hp, R1.guard fun c hc => ⟨(hg c hc).1, (hg c hc).2.1, (hg c hc).2.2.2⟩, ?_⟩
  have un : ∀ {Fz' F' δ' H'}, Rl K (gd b H1 gs) Fz' F' δ' σ H' → Rl K b Fz' F' δ' σ H' := fun R => R.unguard (fun c hc => (hg c hc).2.1) R1.f0
  cases q : g δ1 with
  | bad => rw [q] at P; exact P
  | er x δ' =>
    rw [q] at P
    exact fun c dd H' Fz' F' s R e => P c dd H' Fz' F' s (un R) e
  | ok ars δ' =>
    rw [q] at P
    exact fun vs H' Fz' F' G s R A => P (v :: vs) H' Fz' F' _ s (un R) (ArOk.cons s h1 hn hg R1.f0 R A)
theorem sr_cons (h : SE X W pin e f) (h2 : SAr X W pin es g) (hs : starEach (e :: es) X.env = (false, eval e X.env) :: starEach es X.env := by rfl) : SAr X W pin (e :: es) (rCons f g) := pa_mono (pa_cons h h2 hs) fun σ H Q ⟨b, Fz, F, δ, hp, R, P⟩ => by
  refine ⟨b, Fz, F, δ, hp, R, ?_⟩
  unfold rCons at P
  cases q : f δ with
  | bad => rw [q] at P; exact P
  | er x δ' => rw [q] at P; exact P
  | ok a δ1 =>
    rw [q] at P
    intro v H1 Fz1 F1 s1 R1 A
    have P := PostAr.le s1 P
    cases a with
    | ref i => exact P.elim
    | val d => exact rest_ok hp R1 (a := .fz d) (gs := []) ⟨rfl, A⟩ List.nodup_nil (fun _ z => nomatch z) P
    | tmp s =>
      obtain ⟨ht, gs, k1, k2, k3⟩ := A
      exact rest_ok hp R1 (a := .own s) (gs := gs) ⟨ht, k1⟩ k2 k3 P
theorem sr_io (k : Nat) {x : Str} {pos : Pos} (hN : X.N[k]? = some x) (hv : Vis X.env.scope x) (h2 : SAr X W pin es g) (hd : (x == ("__debug__" : Str)) = false := by decide) (hcd : (x == ("__classdict__" : Str)) = false := by decide)
    (hs : starEach (.Name x pos :: es) X.env = (false, eval (.Name x pos) X.env) :: starEach es X.env := by rfl) : SAr X W pin (.Name x pos :: es) (rIo k g) := pa_mono (pa_cons (pe_var hN hv hd hcd) h2 hs) fun σ H Q ⟨b, Fz, F, δ, hp, R, P⟩ => by
  unfold rIo at P
  have hvar : ∃ v, σ[k]? = some (some v) ∧ ∃ a, sVar k δ = .ok a δ := by
    cases q : sVar k δ with
    | bad => rw [q] at P; exact P.elim
    | er x δ' => unfold sVar at q; split at q <;> cases q
    | ok a δ' =>
      unfold sVar at q
      cases q2 : δ[k]? with
      | none => rw [q2] at q; cases q
      | some s =>
        have h := R.slot k s q2
        rw [q2] at q
        cases s with
        | no => cases q
        | fz d => cases q; obtain ⟨_, v, e1, _⟩ := h; exact ⟨v, join_some e1, _, rfl⟩
        | ol xs => cases q; obtain ⟨a, _, _, e1, _⟩ := h; exact ⟨_, join_some e1, _, rfl⟩
        | od kvs => cases q; obtain ⟨a, e1, _⟩ := h; exact ⟨_, join_some e1, _, rfl⟩
        | al y j => cases q; obtain ⟨_, a, c, vs, _, _, _, e1⟩ := h; exact ⟨_, join_some e1, _, rfl⟩
  obtain ⟨v, e1, a, e2⟩ := hvar
  rw [e2] at P
  exact ⟨v, e1, rest_ok hp R (a := .io k) (gs := []) ⟨rfl, e1⟩ List.nodup_nil (fun _ z => nomatch z) P⟩
end

/-! ### what a def does, over trees -/
inductive FR where
  | ok (r : Sl) (δ : List Sl) | er (x : Exn) (δ : List Sl) | bad
section
variable (K : PySem.W.Frag) (mg : Str → Option Value)
def PostF (b : Bk) (Fz : Hp) (vs : List V) (Q : VK) (E : XK) : FR → Prop
  | .ok r δ => ∀ v H' Fz' F', Same Fz Fz' → Rl K b Fz' F' δ (vs.map some) H' → AvR K b Fz' F' H' (vs.map some) v (.tmp r) → Q v H'
  | .er x δ => ∀ c dd H' Fz' F', Same Fz Fz' → Rl K b Fz' F' δ (vs.map some) H' → ExR K mg Fz' H' x c dd → E c dd H'
  | .bad => False
/-- the promise: n parameters -/
def spF (n : Nat) (f : List Sl → FR) : Sp := fun vs H Q E => vs.length = n ∧ ∃ b Fz F δ, Rl K b Fz F δ (vs.map some) H ∧ PostF K mg b Fz vs Q E (f δ)
end
def argS (δ : List Sl) : Ar → Option Sl
  | .fz d => some (.fz d)
  | .own s => some s
  | .io k => match δ[k]? with
    | some (.fz d) => some (.fz d)
    | some (.ol xs) => some (.ol xs)
    | some (.od kvs) => some (.od kvs)
    | _ => none
def argsS (δ : List Sl) : List Ar → Option (List Sl)
  | [] => some []
  | a :: r => match argS δ a, argsS δ r with
    | some s, some l => some (s :: l)
    | _, _ => none
/-- the slots that were handed over -/
def iosOf (δ : List Sl) : List Ar → List Nat
  | [] => []
  | .io k :: r => (match δ[k]? with
    | some (.ol _) => k :: iosOf δ r
    | some (.od _) => k :: iosOf δ r
    | _ => iosOf δ r)
  | _ :: r => iosOf δ r
/-- .. and come back -/
def clr (ks : List Nat) (δ : List Sl) : List Sl := ks.foldr (fun k δ => upS k .no δ) δ
def noAl : Sl → Sl
  | .al _ _ => .no
  | s => s
def putB (ks : List Nat) : List Ar → List Sl → List Sl → List Sl
  | .io k :: r, s :: l, δ => putB ks r l (if k ∈ ks then upS k (noAl s) δ else δ)
  | .fz _ :: r, _ :: l, δ => putB ks r l δ
  | .own _ :: r, _ :: l, δ => putB ks r l δ
  | _, _, δ => δ
def AV.ofSl : Sl → AV
  | .fz d => .val d
  | s => .tmp s
def backS (ars : List Ar) (δ' δ : List Sl) : List Sl := putB (iosOf δ ars) ars δ' (clr (iosOf δ ars) δ)
def callF (f : List Sl → FR) (ars : List Ar) (δ : List Sl) : Rs AV := if (iosOf δ ars).Nodup then (match argsS δ ars with
  | some δa => (match f δa with
    | .ok r δ' => .ok (AV.ofSl r) (backS ars δ' δ)
    | .er x δ' => .er x (backS ars δ' δ)
    | .bad => .bad)
  | none => .bad) else .bad
def sCall (f : List Sl → FR) (dd : List PyData) (g : List Sl → Rs (List Ar)) : List Sl → Rs AV := fun δ => (g δ).bind fun ars δ1 => callF f (ars ++ dd.map .fz) δ1
section
variable {δ : List Sl}
def ownS : Option Sl → Bool
  | some (.ol _) => true
  | some (.od _) => true
  | _ => false
theorem ios_cons_io {k : Nat} {r : List Ar} : iosOf δ (.io k :: r) = if ownS δ[k]? = true then k :: iosOf δ r else iosOf δ r := by
  cases q : δ[k]? with
  | none => simp [iosOf, q, ownS]
  | some s => cases s <;> simp [iosOf, q, ownS]
theorem ios_own {k : Nat} : ∀ {ars : List Ar}, k ∈ iosOf δ ars → ownS δ[k]? = true
  | [], h => by cases h
  | .fz d :: r, h => ios_own (ars := r) h
  | .own s :: r, h => ios_own (ars := r) h
  | .io j :: r, h => by
    rw [ios_cons_io] at h
    by_cases c : ownS δ[j]? = true
    · rw [if_pos c] at h
      rcases List.mem_cons.mp h with e | e
      · rw [e]; exact c
      · exact ios_own e
    · rw [if_neg c] at h
      exact ios_own h
theorem ios_mem {k : Nat} (c : ownS δ[k]? = true) : ∀ {ars : List Ar} {j : Nat}, ars[j]? = some (.io k) → k ∈ iosOf δ ars
  | [], _, h => by simp at h
  | a :: r, 0, h => by
    simp at h
    subst h
    rw [ios_cons_io, if_pos c]
    exact List.mem_cons_self
  | a :: r, j + 1, h => by
    have ih := ios_mem c (ars := r) (j := j) (by simpa using h)
    cases a with
    | fz d => exact ih
    | own s => exact ih
    | io m =>
      rw [ios_cons_io]
      by_cases e : ownS δ[m]? = true
      · rw [if_pos e]; exact List.mem_cons_of_mem _ ih
      · rw [if_neg e]; exact ih
theorem ios_uniq {k : Nat} (c : ownS δ[k]? = true) : ∀ {ars : List Ar} {i j : Nat}, (iosOf δ ars).Nodup → ars[i]? = some (.io k) → ars[j]? = some (.io k) → i = j
  | [], _, _, _, h, _ => by simp at h
  | a :: r, 0, 0, _, _, _ => rfl
  | a :: r, 0, j + 1, nd, h, h2 => by
    simp at h
    subst h
    rw [ios_cons_io, if_pos c] at nd
    exact absurd (ios_mem c (ars := r) (j := j) (by simpa using h2)) (List.nodup_cons.mp nd).1
  | a :: r, i + 1, 0, nd, h, h2 => by
    simp at h2
    subst h2
    rw [ios_cons_io, if_pos c] at nd
    exact absurd (ios_mem c (ars := r) (j := i) (by simpa using h)) (List.nodup_cons.mp nd).1
  | a :: r, i + 1, j + 1, nd, h, h2 => by
    have nd' : (iosOf δ r).Nodup := by
      cases a with
      | fz d => exact nd
      | own s => exact nd
      | io m =>
        rw [ios_cons_io] at nd
        by_cases e : ownS δ[m]? = true
        · rw [if_pos e] at nd; exact (List.nodup_cons.mp nd).2
        · rw [if_neg e] at nd; exact nd
    exact congrArg Nat.succ (ios_uniq c nd' (by simpa using h) (by simpa using h2))
theorem argsS_get : ∀ {ars : List Ar} {l : List Sl}, argsS δ ars = some l → l.length = ars.length ∧ ∀ (j : Nat) (a : Ar), ars[j]? = some a → ∃ s, l[j]? = some s ∧ argS δ a = some s
  | [], _, h => by
    cases h
    exact ⟨rfl, fun j a h => by simp at h⟩
  | a :: r, l, h => by
    unfold argsS at h
    cases q1 : argS δ a with
    | none => rw [q1] at h; cases h
    | some s =>
      cases q2 : argsS δ r with
      | none => rw [q1, q2] at h; cases h
      | some l' =>
        rw [q1, q2] at h
        cases h
        obtain ⟨e1, e2⟩ := argsS_get q2
        refine ⟨by simp [e1], fun j b hb => ?_⟩
        cases j with
        | zero =>
          simp at hb
          subst hb
          exact ⟨s, rfl, q1⟩
        | succ j =>
          obtain ⟨t, e3, e4⟩ := e2 j b (by simpa using hb)
          exact ⟨t, by simpa using e3, e4⟩
end
section
variable {K : PySem.W.Frag} {mg : Str → Option Value} {b : Bk} {Fz : Hp} {F : Nat → List Addr} {δ : List Sl} {σ : L2.St} {H : Hp}
theorem Rl.clear (R : Rl K b Fz F δ σ H) : ∀ ks : List Nat, Rl K b Fz (fun k => if k ∈ ks then [] else F k) (clr ks δ) σ H
  | [] => by
    have e : (fun k => if k ∈ ([] : List Nat) then [] else F k) = F := by funext k; simp
    rw [e]
    exact R
  | m :: ks => by
    have R1 := R.clear ks
    have R2 := R1.put (i := m) (s := .no) (g := []) (Same.refl _) R1.le R1.base rfl (fun _ _ => rfl) (.inl rfl) (fun _ => rfl) (fun x j z => nomatch z) List.nodup_nil (fun _ z => nomatch z) (fun _ z => nomatch z) (fun _ z => nomatch z) (fun _ z => nomatch z) (fun _ _ _ _ => rfl) (fun k _ a ha => R1.offF k a ha) (fun _ _ => rfl)
    have e : (fun k => if k = m then [] else if k ∈ ks then [] else F k) = fun k => if k ∈ m :: ks then [] else F k := by
      funext k
      by_cases q : k = m
      · simp [q]
      · simp [q]
    rw [e] at R2
    exact R2
theorem Rl.move (R : Rl K b Fz F δ σ H) {Fz' H' : Hp} (s : Same Fz Fz') (le : Same Fz' H') (base : Same b.B H') (hF : ∀ k a, a ∈ F k → H' a = H a ∧ Fz' a = none) (hB : ∀ a, b.B a ≠ none → Fz' a = Fz a) : Rl K b Fz' F δ σ H' where
  le := le
  base := base
  len := R.len
  slot := fun i t e => (R.slot i t e).keeps s (fun a ha => (hF i a ha).1) fun x j ej a ha => by
    subst ej
    obtain ⟨xs, hx⟩ := R.als i x j e
    obtain ⟨l, vs, g, p1, p2, _⟩ := R.slot x _ hx
    rw [ha] at p1
    cases p1
    exact (hF x a (by rw [p2]; exact List.mem_cons_self)).1
  nd := R.nd
  dj := R.dj
  offF := fun i a ha => (hF i a ha).2
  offB := R.offB
  on := fun i a ha => by
    rw [(hF i a ha).1]
    exact R.on i a ha
  keep := fun a ha => (hB a ha).trans (R.keep a ha)
  f0 := R.f0
  pin := R.pin
  als := R.als
def Fput (Fc : Nat → List Addr) (F' : Nat → List Addr) (ks : List Nat) : Nat → List Ar → Nat → List Addr
  | _, [] => Fc
  | j, .io k :: r => Fput (if k ∈ ks then (fun m => if m = k then F' j else Fc m) else Fc) F' ks (j + 1) r
  | j, _ :: r => Fput Fc F' ks (j + 1) r
theorem noAl_ok {Fz H : Hp} {σ1 σ2 : L2.St} {f : List Addr} {o : Option V} {s : Sl} (h : SlH K Fz H σ1 f o s) : SlH K Fz H σ2 f o (noAl s) := by
  cases s with
  | al x j => exact h.1
  | no => exact h
  | fz d => exact h
  | ol xs => exact h
  | od kvs => exact h
/-- the slots that were handed over come back, one by one -/
theorem Rl.putBack {ks : List Nat} {Fz' H' : Hp} {F' : Nat → List Addr} {δ' : List Sl} {vs : List V} {b' : Bk} (R' : Rl K b' Fz' F' δ' (vs.map some) H') (hb : ∀ a, b.B a ≠ none → b'.B a ≠ none) :
    ∀ (ars : List Ar) (l : List Sl) (j : Nat) (Fc : Nat → List Addr) (δc : List Sl), Rl K b Fz' Fc δc σ H' → l.length = ars.length → (∀ i s, l[i]? = some s → δ'[j + i]? = some s) → (∀ i k, ars[i]? = some (.io k) → ∃ v, vs[j + i]? = some v ∧ σ[k]? = some (some v)) →
      (∀ m a, a ∈ Fc m → b'.B a ≠ none ∨ ∃ i, i < j ∧ a ∈ F' i) → ∃ Fn, Rl K b Fz' Fn (putB ks ars l δc) σ H' ∧ ∀ m a, a ∈ Fn m → b'.B a ≠ none ∨ ∃ i, a ∈ F' i
  | [], l, j, Fc, δc, R, _, _, _, h => ⟨Fc, by cases l <;> exact R, fun m a ha => (h m a ha).imp id fun ⟨i, _, e⟩ => ⟨i, e⟩⟩
  | a :: r, [], _, _, _, _, hl, _, _, _ => by cases hl
  | .fz d :: r, s :: l, j, Fc, δc, R, hl, h1, h2, h3 => by
    refine Rl.putBack R' hb r l (j + 1) Fc δc R (by simpa using hl) (fun i t e => ?_) (fun i k e => ?_) fun m c hc => (h3 m c hc).imp id fun ⟨i, e1, e2⟩ => ⟨i, by omega, e2⟩
    · have := h1 (i + 1) t (by simpa using e)
      rwa [show j + (i + 1) = j + 1 + i by omega] at this
    · have := h2 (i + 1) k (by simpa using e)
      rwa [show j + (i + 1) = j + 1 + i by omega] at this
  | .own d :: r, s :: l, j, Fc, δc, R, hl, h1, h2, h3 => by
    refine Rl.putBack R' hb r l (j + 1) Fc δc R (by simpa using hl) (fun i t e => ?_) (fun i k e => ?_) fun m c hc => (h3 m c hc).imp id fun ⟨i, e1, e2⟩ => ⟨i, by omega, e2⟩
    · have := h1 (i + 1) t (by simpa using e)
      rwa [show j + (i + 1) = j + 1 + i by omega] at this
    · have := h2 (i + 1) k (by simpa using e)
      rwa [show j + (i + 1) = j + 1 + i by omega] at this
  | .io k :: r, s :: l, j, Fc, δc, R, hl, h1, h2, h3 => by
    have n1 : ∀ i t, l[i]? = some t → δ'[j + 1 + i]? = some t := fun i t e => by
      have := h1 (i + 1) t (by simpa using e)
      rwa [show j + (i + 1) = j + 1 + i by omega] at this
    have n2 : ∀ i k', r[i]? = some (.io k') → ∃ v, vs[j + 1 + i]? = some v ∧ σ[k']? = some (some v) := fun i k' e => by
      have := h2 (i + 1) k' (by simpa using e)
      rwa [show j + (i + 1) = j + 1 + i by omega] at this
    by_cases c : k ∈ ks
    · have e0 : putB ks (.io k :: r) (s :: l) δc = putB ks r l (upS k (noAl s) δc) := by
        show putB ks r l (if k ∈ ks then upS k (noAl s) δc else δc) = _
        rw [if_pos c]
      rw [e0]
      obtain ⟨v, v1, v2⟩ := h2 0 k rfl
      have hs := R'.slot j s (by simpa using h1 0 s rfl)
      have hvj : (vs.map some)[j]? = some (some v) := by
        rw [List.getElem?_map, show vs[j]? = some v by simpa using v1]
        rfl
      rw [hvj] at hs
      refine Rl.putBack R' hb r l (j + 1) _ _ (R.put (i := k) (s := noAl s) (g := F' j) (Same.refl _) R.le R.base rfl (fun _ _ => rfl) (.inl rfl) (fun _ => ?_) (fun x i z => ?_) (R'.nd j) (fun a ha => R'.offF j a ha) (fun a ha => ?_) (fun a ha m hm hin => ?_) (fun a ha => R'.on j a ha) (fun _ _ _ _ => rfl) (fun m _ a ha => R.offF m a ha) (fun _ _ => rfl)) (by simpa using hl) n1 n2 (fun m a ha => ?_)
      · rw [v2]
        exact noAl_ok hs
      · cases s <;> cases z
      · cases q : b.B a with
        | none => rfl
        | some o => exact absurd (R'.offB j a ha) (hb a (by rw [q]; simp))
      · rcases h3 m a hin with z | ⟨i, z1, z2⟩
        · exact z (R'.offB j a ha)
        · have := R'.dj i j a z2 ha
          omega
      · have ha : a ∈ (if m = k then F' j else Fc m) := ha
        by_cases q : m = k
        · rw [if_pos q] at ha
          exact .inr ⟨j, Nat.lt_succ_self j, ha⟩
        · rw [if_neg q] at ha
          exact (h3 m a ha).imp id fun ⟨i, e1, e2⟩ => ⟨i, by omega, e2⟩
    · have e0 : putB ks (.io k :: r) (s :: l) δc = putB ks r l δc := by
        show putB ks r l (if k ∈ ks then upS k (noAl s) δc else δc) = _
        rw [if_neg c]
      rw [e0]
      exact Rl.putBack R' hb r l (j + 1) Fc δc R (by simpa using hl) n1 n2 fun m a ha => (h3 m a ha).imp id fun ⟨i, e1, e2⟩ => ⟨i, by omega, e2⟩
end
end Hb

/-! part Hb10 -/
namespace Hb
open PySem PySem.Spec PyProof.Rows L2

section
variable {K : PySem.W.Frag} {mg : Str → Option Value} {W : WX} {b : Bk} {Fz : Hp} {F : Nat → List Addr} {δ : List Sl} {σ : L2.St} {H : Hp}
/-- what is handed over -/
def passL (δ : List Sl) (F G : Nat → List Addr) (ars : List Ar) : List Addr := (iosOf δ ars).flatMap F ++ (List.range ars.length).flatMap G
/-- the callee's ground: all else -/
def calB (H : Hp) (p : List Addr) : Hp := fun a => if a ∈ p then none else H a
def calF0 (H Fz : Hp) (p : List Addr) : Hp := fun a => if a ∈ p then none else if H a = none then none else Fz a
def calF (δ : List Sl) (F G : Nat → List Addr) (ars : List Ar) (j : Nat) : List Addr := match ars[j]? with
  | some (.io k) => if ownS δ[k]? = true then F k else []
  | some (.own _) => G j
  | _ => []
theorem call_ok {Q : VK} {vs : List V} {ars : List Ar} {G : Nat → List Addr} {f : List Sl → FR} (R : Rl K b Fz F δ σ H) (A : ArOk K b Fz F H σ vs ars G) (P : Post K mg W b Fz σ Q (callF f ars δ)) :
    spF K mg ars.length f vs H Q (fun c dd H' => W c dd σ H') := by
  refine ⟨A.len, ?_⟩
  unfold callF at P
  by_cases nd : (iosOf δ ars).Nodup
  · rw [if_pos nd] at P
    cases q1 : argsS δ ars with
    | none => simp only [q1] at P; exact P.elim
    | some δa =>
      simp only [q1] at P
      obtain ⟨la, ga⟩ := argsS_get q1
      obtain ⟨p, hp⟩ : ∃ p, p = passL δ F G ars := ⟨_, rfl⟩
      have pio : ∀ k, k ∈ iosOf δ ars → ∀ a ∈ F k, a ∈ p := fun k hk a ha => by
        rw [hp]
        exact List.mem_append_left _ (List.mem_flatMap.mpr ⟨k, hk, ha⟩)
      have pown : ∀ j, j < ars.length → ∀ a ∈ G j, a ∈ p := fun j hj a ha => by
        rw [hp]
        exact List.mem_append_right _ (List.mem_flatMap.mpr ⟨j, List.mem_range.mpr hj, ha⟩)
      have pin : ∀ a ∈ p, (∃ k, k ∈ iosOf δ ars ∧ a ∈ F k) ∨ ∃ j, a ∈ G j := fun a ha => by
        rw [hp] at ha
        rcases List.mem_append.mp ha with z | z
        · obtain ⟨k, e1, e2⟩ := List.mem_flatMap.mp z
          exact .inl ⟨k, e1, e2⟩
        · obtain ⟨j, _, e2⟩ := List.mem_flatMap.mp z
          exact .inr ⟨j, e2⟩
      have pFz : ∀ a ∈ p, Fz a = none := fun a ha => (pin a ha).elim (fun ⟨k, _, e⟩ => R.offF k a e) fun ⟨j, e⟩ => (A.off j a e).1
      have pB : ∀ a ∈ p, b.B a = none := fun a ha => (pin a ha).elim (fun ⟨k, _, e⟩ => R.offB k a e) fun ⟨j, e⟩ => (A.off j a e).2.1
      have getV : ∀ j a, ars[j]? = some a → ∃ s v, δa[j]? = some s ∧ argS δ a = some s ∧ vs[j]? = some v ∧ ArH K Fz H σ (G j) v a := fun j a e => by
        obtain ⟨s, e1, e2⟩ := ga j a e
        obtain ⟨v, e3, e4⟩ := A.at_ j a e
        exact ⟨s, v, e1, e2, e3, e4⟩
      have cF : ∀ j a, a ∈ calF δ F G ars j → (∃ k, ars[j]? = some (.io k) ∧ ownS δ[k]? = true ∧ a ∈ F k) ∨ ∃ s, ars[j]? = some (.own s) ∧ a ∈ G j := fun j a ha => by
        unfold calF at ha
        cases q : ars[j]? with
        | none => rw [q] at ha; cases ha
        | some r =>
          rw [q] at ha
          cases r with
          | fz d => cases ha
          | own s => exact .inr ⟨s, rfl, ha⟩
          | io k =>
            have ha : a ∈ (if ownS δ[k]? = true then F k else []) := ha
            by_cases c : ownS δ[k]? = true
            · rw [if_pos c] at ha
              exact .inl ⟨k, rfl, c, ha⟩
            · rw [if_neg c] at ha
              cases ha
      have cp : ∀ j a, a ∈ calF δ F G ars j → a ∈ p := fun j a ha => (cF j a ha).elim (fun ⟨k, e1, e2, e3⟩ => pio k (ios_mem e2 e1) a e3) fun ⟨s, e1, e2⟩ => pown j (List.getElem?_eq_some_iff.mp e1).1 a e2
      have Rc : Rl K ⟨calB H p, calF0 H Fz p, [], []⟩ Fz (calF δ F G ars) δa (vs.map some) H := by
        refine ⟨R.le, fun a o e => ?_, by rw [List.length_map, A.len, la], fun j s e => ?_, fun j => ?_, fun i j a h1 h2 => ?_, fun j a h => pFz a (cp j a h), fun j a h => if_pos (cp j a h), fun j a h => ?_, fun a h => ?_, fun a h => ?_, fun _ z => (nomatch z), fun j x m e => ?_⟩
        · have e : (if a ∈ p then none else H a) = some o := e
          by_cases c : a ∈ p
          · rw [if_pos c] at e; cases e
          · rw [if_neg c] at e; exact e
        · have hj : j < ars.length := by rw [← la]; exact (List.getElem?_eq_some_iff.mp e).1
          obtain ⟨s', v, e1, e2, e3, e4⟩ := getV j _ (List.getElem?_eq_getElem hj)
          rw [e] at e1
          cases e1
          have hv : (vs.map some)[j]?.join = some v := by rw [List.getElem?_map, e3]; rfl
          rw [hv]
          unfold calF
          rw [List.getElem?_eq_getElem hj]
          generalize ars[j] = r at e2 e4
          cases r with
          | fz d =>
            cases e2
            exact ⟨rfl, v, rfl, e4.2⟩
          | own t =>
            cases e2
            have h2 := e4.2
            cases s with
            | al x m => have := e4.1; cases this
            | no => exact h2
            | fz d => exact h2
            | ol xs => exact h2
            | od kvs => exact h2
          | io k =>
            have hk : σ[k]? = some (some v) := e4.2
            unfold argS at e2
            cases q2 : δ[k]? with
            | none => simp only [q2] at e2; cases e2
            | some t =>
              have hs := R.slot k t q2
              rw [hk] at hs
              cases t with
              | fz d => simp only [q2] at e2; cases e2; exact ⟨by simp [ownS, q2], hs.2⟩
              | ol xs => simp only [q2] at e2; cases e2; simp only [ownS, q2, if_true]; exact hs
              | od kvs => simp only [q2] at e2; cases e2; simp only [ownS, q2, if_true]; exact hs
              | no => simp only [q2] at e2; cases e2
              | al x m => simp only [q2] at e2; cases e2
        · unfold calF
          cases q : ars[j]? with
          | none => exact List.nodup_nil
          | some r =>
            cases r with
            | fz d => exact List.nodup_nil
            | own s => exact A.nd j
            | io k =>
              show (if ownS δ[k]? = true then F k else []).Nodup
              by_cases c : ownS δ[k]? = true
              · rw [if_pos c]; exact R.nd k
              · rw [if_neg c]; exact List.nodup_nil
        · rcases cF i a h1 with ⟨k, e1, e2, e3⟩ | ⟨s, e1, e2⟩
          · rcases cF j a h2 with ⟨m, f1, f2, f3⟩ | ⟨t, f1, f2⟩
            · have := R.dj k m a e3 f3
              subst this
              exact ios_uniq e2 nd e1 f1
            · exact absurd e3 ((A.off j a f2).2.2.2 k)
          · rcases cF j a h2 with ⟨m, f1, f2, f3⟩ | ⟨t, f1, f2⟩
            · exact absurd f3 ((A.off i a e2).2.2.2 m)
            · exact A.dj i j a e2 f2
        · rcases cF j a h with ⟨k, e1, e2, e3⟩ | ⟨s, e1, e2⟩
          · exact R.on k a e3
          · exact (A.off j a e2).2.2.1
        · have h : (if a ∈ p then none else H a) ≠ none := h
          show Fz a = if a ∈ p then none else if H a = none then none else Fz a
          by_cases c : a ∈ p
          · rw [if_pos c] at h; exact absurd rfl h
          · rw [if_neg c] at h ⊢
            rw [if_neg h]
        · have h : (if a ∈ p then none else if H a = none then none else Fz a) ≠ none := h
          show (if a ∈ p then none else H a) ≠ none
          by_cases c : a ∈ p
          · rw [if_pos c] at h; exact absurd rfl h
          · rw [if_neg c] at h ⊢
            by_cases c2 : H a = none
            · rw [if_pos c2] at h; exact absurd rfl h
            · exact c2
        · have hj : j < ars.length := by rw [← la]; exact (List.getElem?_eq_some_iff.mp e).1
          obtain ⟨s', v, e1, e2, e3, e4⟩ := getV j _ (List.getElem?_eq_getElem hj)
          rw [e] at e1
          cases e1
          generalize ars[j] = r at e2 e4
          cases r with
          | fz d => cases e2
          | own t =>
            cases e2
            have := e4.1
            cases this
          | io k =>
            unfold argS at e2
            cases q2 : δ[k]? with
            | none => simp only [q2] at e2; cases e2
            | some t => cases t <;> (simp only [q2] at e2; cases e2)
      refine ⟨_, Fz, _, δa, Rc, ?_⟩
      have calN : ∀ a, H a ≠ none → a ∉ p → calB H p a ≠ none := fun a h1 h2 => by
        show (if a ∈ p then none else H a) ≠ none
        rw [if_neg h2]
        exact h1
      -- what comes back
      have fin : ∀ {δ' : List Sl} {H' Fz' : Hp} {F' : Nat → List Addr}, Same Fz Fz' → Rl K ⟨calB H p, calF0 H Fz p, [], []⟩ Fz' F' δ' (vs.map some) H' → ∃ Fn, Rl K b Fz' Fn (backS ars δ' δ) σ H' ∧ ∀ m a, a ∈ Fn m → calB H p a ≠ none ∨ ∃ i, a ∈ F' i := by
        intro δ' H' Fz' F' s R'
        have outF : ∀ k, k ∉ iosOf δ ars → ∀ a ∈ F k, a ∉ p := fun k hk a ha z => by
          rcases pin a z with ⟨m, e1, e2⟩ | ⟨j, e⟩
          · exact hk (by rw [R.dj k m a ha e2]; exact e1)
          · exact (A.off j a e).2.2.2 k ha
        have R1 := (R.clear (iosOf δ ars)).move (Fz' := Fz') (H' := H') s R'.le (fun a o e => ?_) (fun k a ha => ?_) (fun a ha => ?_)
        · refine Rl.putBack (b := b) R' (fun a ha => ?_) ars δ' 0 _ _ R1 (by have := R'.len; rw [List.length_map, A.len] at this; exact this.symm) (fun i t e => by rwa [Nat.zero_add]) (fun i k e => ?_) (fun m a ha => ?_)
          · cases q : b.B a with
            | none => exact absurd q ha
            | some o => exact calN a (by rw [R.base a o q]; simp) fun z => by rw [pB a z] at q; cases q
          · obtain ⟨v, e1, e2⟩ := A.at_ i _ e
            exact ⟨v, by rwa [Nat.zero_add], e2.2⟩
          · have ha : a ∈ (if m ∈ iosOf δ ars then [] else F m) := ha
            by_cases c : m ∈ iosOf δ ars
            · rw [if_pos c] at ha; cases ha
            · rw [if_neg c] at ha
              exact .inl (calN a (R.on m a ha) (outF m c a ha))
        · have hn : a ∉ p := fun z => by rw [pB a z] at e; cases e
          exact R'.base a o (by
            show (if a ∈ p then none else H a) = some o
            rw [if_neg hn]
            exact R.base a o e)
        · have ha : a ∈ (if k ∈ iosOf δ ars then [] else F k) := ha
          by_cases c : k ∈ iosOf δ ars
          · rw [if_pos c] at ha; cases ha
          · rw [if_neg c] at ha
            have hn := outF k c a ha
            have nn := calN a (R.on k a ha) hn
            refine ⟨?_, ?_⟩
            · cases q : H a with
              | none => exact absurd q (R.on k a ha)
              | some o => exact R'.base a o (by
                  show (if a ∈ p then none else H a) = some o
                  rw [if_neg hn]
                  exact q)
            · rw [R'.keep a nn]
              show (if a ∈ p then none else if H a = none then none else Fz a) = none
              rw [if_neg hn, if_neg (R.on k a ha)]
              exact R.offF k a ha
        · have hn : a ∉ p := fun z => ha (pB a z)
          have hH : H a ≠ none := by
            cases q : b.B a with
            | none => exact absurd q ha
            | some o => rw [R.base a o q]; simp
          rw [R'.keep a (calN a hH hn)]
          show (if a ∈ p then none else if H a = none then none else Fz a) = Fz a
          rw [if_neg hn, if_neg hH]
      cases q2 : f δa with
      | bad => simp only [q2] at P; exact P
      | er x δ' =>
        simp only [q2] at P
        intro c dd H' Fz' F' s R' e
        obtain ⟨Fn, Rn, _⟩ := fin s R'
        exact P c dd H' Fz' Fn s Rn e
      | ok r δ' =>
        simp only [q2] at P
        intro v H' Fz' F' s R' Ar
        obtain ⟨Fn, Rn, hn⟩ := fin s R'
        refine P v H' Fz' Fn s Rn ?_
        obtain ⟨ht, g, h1, h2, h3⟩ := Ar
        have gn : ∀ a ∈ g, calB H p a = none := fun a ha => (h3 a ha).2.1
        have gen : AvR K b Fz' Fn H' σ v (.tmp r) := ⟨ht, g, h1, h2, fun a ha => ⟨(h3 a ha).1, ?_, (h3 a ha).2.2.1, fun m hm => ?_⟩⟩
        · cases r with
          | fz d =>
            obtain ⟨e, v', e1, e2⟩ := h1
            cases e1
            exact e2
          | no => cases ht
          | al x j => cases ht
          | ol xs => exact gen
          | od kvs => exact gen
        · cases q : b.B a with
          | none => rfl
          | some o => exact absurd (gn a ha) (calN a (by rw [R.base a o q]; simp) fun z => by rw [pB a z] at q; cases q)
        · rcases hn m a hm with z | ⟨i, z⟩
          · exact z (gn a ha)
          · exact (h3 a ha).2.2.2 i z
  · rw [if_neg nd] at P
    exact P.elim
end

/-! ### a def: it knows that no repr is running -/
structure FnG (P : Program) (w : World) (K : PySem.W.Frag) (mg : Str → Option Value) (base : Heap) (k : Nat) (f : Addr) (fd : FuncData) (ps : List Str) (sp : Sp) : Prop where
  len : ∀ vs H Q E, sp vs H Q E → vs.length = ps.length
  run : ∀ (A : Around) (outer : List Env) (s : Shared) (H : Hp) (args : Args) (us : List Value) (vs : List V) (Q : VK) (E : XK), A.guards = some [] → Room k A → Env0 P w K mg base A outer s H → BindsTo s fd args (ps.zip us) → Vals vs us → sp vs H Q E →
    codeAny (model P w) A (.call (.ref f) args) (CR (L2.CX P w) outer P w H s Q E) s
theorem FnG.mono {P : Program} {w : World} {K : PySem.W.Frag} {mg : Str → Option Value} {base : Heap} {j k : Nat} {f : Addr} {fd : FuncData} {ps : List Str} {sp : Sp} (F : FnG P w K mg base j f fd ps sp) (h : j ≤ k) : FnG P w K mg base k f fd ps sp :=
  ⟨F.len, fun A outer s H args us vs Q E hg hr => F.run A outer s H args us vs Q E hg (hr.mono h)⟩
section
variable {X : Cx} {k : Nat} {f : Addr} {fd : FuncData} {ps : List Str} {W : WX} {pin : List Nat} {x : Str} {p pos : Pos} {e : Expr} {es : List Expr} {n : Nat} {F : List Sl → FR} {g : List Sl → Rs (List Ar)} {ds : List Value} {dd : List PyData}
/-- a call of it, by values -/
theorem run_G (G : FnG X.prog X.w X.K X.mg X.base k f fd ps (spF X.K X.mg n F)) (hr : Room k X.A) (hgd : X.A.guards = some []) {pins : List (Addr × Obj)} {σ : L2.St} {H : Hp} {s : Shared} {Q : VK} {us : List Value} {vs dvs : List V} (hx : PassesAt (L2.CX X.prog X.w) X σ (WE W σ))
    (hb : Binds X.K fd ps ds) (hd : Vals dvs ds) (I : Inv X pins σ H s) (r : Vals vs us) (h : spF X.K X.mg n F (vs ++ dvs) H Q (WE W σ)) : wpAny (model X.prog X.w) X.A (call (.ref f) us) (EP X pins σ Q) X.xe s := by
  have r2 := r.append hd
  have hl : (us ++ ds).length = ps.length := r2.length.symm.trans (G.len _ _ _ _ h)
  have go := G.run X.A X.stack s H ⟨us, []⟩ (us ++ ds) (vs ++ dvs) Q (WE W σ) hgd hr I.env0 (hb s us I.kIn hl) r2 h
  refine wpAny_call (codeAny_mono go fun res s' hq => ?_)
  match res, hq with
  | .error err, hq => exact hx pins H s err s' I hq
  | .ok (.ret u), hq => exact I.after hq
theorem arOk_dfl {K : PySem.W.Frag} {b : Bk} {Fz : Hp} {F : Nat → List Addr} {H : Hp} {σ : L2.St} {vs : List V} {ars : List Ar} {G : Nat → List Addr} (A : ArOk K b Fz F H σ vs ars G) {dvs : List V} (h : RpL K Fz dvs dd) :
    ArOk K b Fz F H σ (vs ++ dvs) (ars ++ dd.map .fz) (fun j => if j < ars.length then G j else []) := by
  refine ⟨by simp [A.len, h.len], fun j a e => ?_, fun j => ?_, fun i j a h1 h2 => ?_, fun j a h1 => ?_⟩
  · by_cases c : j < ars.length
    · rw [List.getElem?_append_left c] at e
      obtain ⟨v, e1, e2⟩ := A.at_ j a e
      exact ⟨v, by rw [List.getElem?_append_left (by rw [A.len]; exact c)]; exact e1, by rw [if_pos c]; exact e2⟩
    · rw [List.getElem?_append_right (by omega), List.getElem?_map] at e
      cases q : dd[j - ars.length]? with
      | none => rw [q] at e; cases e
      | some d =>
        rw [q] at e
        cases e
        obtain ⟨v, e1, e2⟩ := h.get q
        exact ⟨v, by rw [List.getElem?_append_right (by rw [A.len]; omega), A.len]; exact e1, by rw [if_neg c], e2⟩
  · by_cases c : j < ars.length
    · rw [if_pos c]; exact A.nd j
    · rw [if_neg c]; exact List.nodup_nil
  · have h1 : a ∈ (if i < ars.length then G i else []) := h1
    have h2 : a ∈ (if j < ars.length then G j else []) := h2
    by_cases c : i < ars.length
    · by_cases c2 : j < ars.length
      · rw [if_pos c] at h1
        rw [if_pos c2] at h2
        exact A.dj i j a h1 h2
      · rw [if_neg c2] at h2; cases h2
    · rw [if_neg c] at h1; cases h1
  · have h1 : a ∈ (if j < ars.length then G j else []) := h1
    by_cases c : j < ars.length
    · rw [if_pos c] at h1; exact A.off j a h1
    · rw [if_neg c] at h1; cases h1
theorem rpl_flat {K : PySem.W.Frag} {H : Hp} : ∀ {dd : List PyData}, dd.all flatD = true → RpL K H (dd.map dV) dd
  | [], _ => .nil
  | d :: dd, h => by
    rw [List.all_cons, Bool.and_eq_true] at h
    exact .cons (rp_flat h.1) (rpl_flat h.2)
theorem call_rd {K : PySem.W.Frag} {mg : Str → Option Value} {W : WX} (hflat : dd.all flatD = true) (hlen : ∀ δ ars δ', g δ = .ok ars δ' → ars.length + dd.length = n) : ∀ σ H Q, rdE K mg W pin (sCall F dd g) σ H Q → rdAr K mg W pin g σ H fun vs H1 => spF K mg n F (vs ++ dd.map dV) H1 Q (WE W σ) := fun σ H Q ⟨b, Fz, Ff, δ, hp, R, P⟩ => by
  refine ⟨b, Fz, Ff, δ, hp, R, ?_⟩
  unfold sCall at P
  cases q : g δ with
  | bad => rw [q] at P; exact P
  | er x δ' => rw [q] at P; exact P
  | ok ars δ' =>
    rw [q] at P
    intro vs H' Fz' F' G s R' A
    have A' := arOk_dfl (dd := dd) A (rpl_flat hflat)
    have h := call_ok (mg := mg) (W := W) (f := F) R' A' (Post.le s P)
    have e : (ars ++ dd.map Ar.fz).length = n := by
      rw [List.length_append, List.length_map]
      exact hlen _ _ _ q
    rw [e] at h
    exact h
theorem se_call (G : FnG X.prog X.w X.K X.mg X.base k f fd ps (spF X.K X.mg n F)) (hr : Room k X.A) (hgd : X.A.guards = some []) (hx : ∀ σ, PassesAt (L2.CX X.prog X.w) X σ (WE W σ)) (hg : Gl X x) (hm : X.mg x = some (.ref f)) (hk : PySem.W.keepIn X.K (.ref f) = true)
    (hb : Binds X.K fd ps ds) (hd : Vals (dd.map dV) ds) (hflat : dd.all flatD = true) (ha : SAr X W pin (e :: es) g) (hlen : ∀ δ ars δ', g δ = .ok ars δ' → ars.length + dd.length = n)
    (hdb : (x == ("__debug__" : Str)) = false := by decide) (he : starEach (e :: es) X.env = (false, eval e X.env) :: starEach es X.env := by rfl) (hpl : (backTo pos (starEach es X.env)).any (·.1) = false := by rfl) :
    SE X W pin (.Call (.Name x p) (e :: es) [] pos) (sCall F dd g) := by
  refine ⟨fun pins s σ H Q I h => wpAny_Call_Name_kw (ld_glob I hg hm ?_ hdb)⟩
  have h2 := call_rd (n := n) hflat hlen σ H Q h
  refine PySem.W.callWith_K (h₀ := X.base) I.ok.mod.kin hk (thn (ha.run pos pins s σ H _ I h2) fun us s1 q => ?_) he hpl
  obtain ⟨vs, H1, I1, r, q⟩ := q
  exact ⟨I1.kIn, run_G G hr hgd (hx σ) hb hd I1 r q⟩
theorem se_call0 (G : FnG X.prog X.w X.K X.mg X.base k f fd ps (spF X.K X.mg n F)) (hr : Room k X.A) (hgd : X.A.guards = some []) (hx : ∀ σ, PassesAt (L2.CX X.prog X.w) X σ (WE W σ)) (hg : Gl X x) (hm : X.mg x = some (.ref f)) (hk : PySem.W.keepIn X.K (.ref f) = true)
    (hb : Binds X.K fd ps ds) (hd : Vals (dd.map dV) ds) (hflat : dd.all flatD = true) (hlen : dd.length = n) (hdb : (x == ("__debug__" : Str)) = false := by decide) :
    SE X W pin (.Call (.Name x p) [] [] pos) (sCall F dd rNil) := by
  refine ⟨fun pins s σ H Q I h => wpAny_Call_Name_kw (ld_glob I hg hm ?_ hdb)⟩
  have h2 := call_rd (n := n) (g := rNil) hflat (fun δ ars δ' e => by cases e; simpa using hlen) σ H Q h
  obtain ⟨b, Fz, Ff, δ, hp, R, P⟩ := h2
  have q := P [] H Fz Ff _ (Same.refl _) R arOk_nil
  exact PySem.W.callWith_K0 I.kIn hk (run_G (us := []) G hr hgd (hx σ) hb hd I .nil q)
theorem len_rNil : ∀ δ ars δ', rNil δ = .ok ars δ' → ars.length = 0 := fun _ _ _ e => by cases e; rfl
theorem len_rCons {f : List Sl → Rs AV} {m : Nat} (h : ∀ δ ars δ', g δ = .ok ars δ' → ars.length = m) : ∀ δ ars δ', rCons f g δ = .ok ars δ' → ars.length = m + 1 := fun δ ars δ' e => by
  unfold rCons at e
  cases q : f δ with
  | bad => rw [q] at e; cases e
  | er x d => rw [q] at e; cases e
  | ok a δ1 =>
    rw [q] at e
    have e : (match arOf a with
      | some r => (g δ1).bind fun rs δ2 => .ok (r :: rs) δ2
      | none => .bad) = Rs.ok ars δ' := e
    cases q2 : arOf a with
    | none => simp only [q2] at e; cases e
    | some r =>
      simp only [q2] at e
      cases q3 : g δ1 with
      | bad => rw [q3] at e; cases e
      | er x d => rw [q3] at e; cases e
      | ok rs δ2 =>
        rw [q3] at e
        cases e
        simp [h _ _ _ q3]
theorem len_rIo {j m : Nat} (h : ∀ δ ars δ', g δ = .ok ars δ' → ars.length = m) : ∀ δ ars δ', rIo j g δ = .ok ars δ' → ars.length = m + 1 := fun δ ars δ' e => by
  unfold rIo at e
  cases q : sVar j δ with
  | bad => rw [q] at e; cases e
  | er x d => rw [q] at e; cases e
  | ok a δ1 =>
    rw [q] at e
    have e : ((g δ1).bind fun rs δ2 => Rs.ok (Ar.io j :: rs) δ2) = Rs.ok ars δ' := e
    cases q3 : g δ1 with
    | bad => rw [q3] at e; cases e
    | er x d => rw [q3] at e; cases e
    | ok rs δ2 =>
      rw [q3] at e
      cases e
      simp [h _ _ _ q3]
end
end Hb

/-! part Hb11 -/
namespace Hb
open PySem PySem.Spec PyProof.Rows L2

/-! ### a def by its body -/
def outs (n : Nat) (pin : List Nat) (δ : List Sl) : List Sl := (List.range n).map fun i => if i ∈ pin then noAl ((δ[i]?).getD .no) else .no
def fnRun (n m : Nat) (pin : List Nat) (body : List Sl → Ot) : List Sl → FR := fun δ => match body (δ ++ List.replicate (m - n) .no) with
  | .nx δ' => .ok (.fz .none) (outs n pin δ')
  | .rt s δ' => .ok s (outs n pin δ')
  | .er x δ' => .er x (outs n pin δ')
  | _ => .bad
def oF (pin : List Nat) (n : Nat) (F : Nat → List Addr) : Nat → List Addr := fun i => if i < n ∧ i ∈ pin then F i else []
theorem no_al {s : Sl} {x j : Nat} : noAl s ≠ .al x j := by cases s <;> simp [noAl]
theorem start_get {N : List Str} {vs : List V} {i : Nat} (h : i < vs.length) : (L2.start N vs)[i]? = (vs.map some)[i]? := by
  unfold L2.start
  rw [List.getElem?_append_left (by simpa using h)]
section
variable {K : PySem.W.Frag} {mg : Str → Option Value} {b : Bk} {Fz : Hp} {F : Nat → List Addr} {δ : List Sl} {H : Hp} {vs : List V} {N : List Str} {pin : List Nat}
theorem rl_in (R : Rl K b Fz F δ (vs.map some) H) (hN : vs.length ≤ N.length) : Rl K ⟨b.B, b.F0, pin, L2.start N vs⟩ Fz (fun i => if i < vs.length then F i else []) (δ ++ List.replicate (N.length - vs.length) .no) (L2.start N vs) H := by
  have hl : δ.length = vs.length := by have := R.len; simpa using this.symm
  refine ⟨R.le, R.base, ?_, fun i s e => ?_, fun i => ?_, fun i j a h1 h2 => ?_, fun i a h => ?_, fun i a h => ?_, fun i a h => ?_, R.keep, R.f0, fun _ _ => rfl, fun i x j e => ?_⟩
  · unfold L2.start
    simp [hl]
  · by_cases c : i < vs.length
    · rw [List.getElem?_append_left (by omega)] at e
      rw [start_get c, if_pos c]
      have h := R.slot i s e
      cases s with
      | al x j =>
        obtain ⟨h1, a, b', ws, h2, h3⟩ := h
        refine ⟨h1, a, b', ws, ?_, h3⟩
        have hx : x < vs.length := by
          by_cases q : x < vs.length
          · exact q
          · rw [List.getElem?_eq_none (by simpa using q)] at h2
            cases h2
        rw [start_get hx]
        exact h2
      | no => exact h
      | fz d => exact h
      | ol xs => exact h
      | od kvs => exact h
    · rw [List.getElem?_append_right (by omega), List.getElem?_replicate] at e
      split at e
      · cases e
        exact if_neg c
      · cases e
  · by_cases c : i < vs.length
    · rw [if_pos c]; exact R.nd i
    · rw [if_neg c]; exact List.nodup_nil
  · have h1 : a ∈ (if i < vs.length then F i else []) := h1
    have h2 : a ∈ (if j < vs.length then F j else []) := h2
    by_cases c : i < vs.length
    · by_cases c2 : j < vs.length
      · rw [if_pos c] at h1
        rw [if_pos c2] at h2
        exact R.dj i j a h1 h2
      · rw [if_neg c2] at h2; cases h2
    · rw [if_neg c] at h1; cases h1
  · have h : a ∈ (if i < vs.length then F i else []) := h
    by_cases c : i < vs.length
    · rw [if_pos c] at h; exact R.offF i a h
    · rw [if_neg c] at h; cases h
  · have h : a ∈ (if i < vs.length then F i else []) := h
    by_cases c : i < vs.length
    · rw [if_pos c] at h; exact R.offB i a h
    · rw [if_neg c] at h; cases h
  · have h : a ∈ (if i < vs.length then F i else []) := h
    by_cases c : i < vs.length
    · rw [if_pos c] at h; exact R.on i a h
    · rw [if_neg c] at h; cases h
  · by_cases c : i < δ.length
    · rw [List.getElem?_append_left c] at e
      obtain ⟨xs, hx⟩ := R.als i x j e
      exact ⟨xs, by rw [List.getElem?_append_left (List.getElem?_eq_some_iff.mp hx).1]; exact hx⟩
    · rw [List.getElem?_append_right (by omega), List.getElem?_replicate] at e
      split at e <;> cases e
theorem rl_out {Fz0 : Hp} {F0 : Nat → List Addr} {δ0 : List Sl} {H0 : Hp} (R0 : Rl K b Fz0 F0 δ0 (vs.map some) H0) {σ : L2.St} (R : Rl K ⟨b.B, b.F0, pin, L2.start N vs⟩ Fz F δ σ H) : Rl K b Fz (oF pin vs.length F) (outs vs.length pin δ) (vs.map some) H := by
  have inF : ∀ i a, a ∈ oF pin vs.length F i → i < vs.length ∧ i ∈ pin ∧ a ∈ F i := fun i a h => by
    unfold oF at h
    by_cases c : i < vs.length ∧ i ∈ pin
    · rw [if_pos c] at h
      exact ⟨c.1, c.2, h⟩
    · rw [if_neg c] at h
      cases h
  have gt : ∀ i, i < vs.length → (outs vs.length pin δ)[i]? = some (if i ∈ pin then noAl ((δ[i]?).getD .no) else .no) := fun i h => by
    unfold outs
    rw [List.getElem?_map, List.getElem?_range h]
    rfl
  refine ⟨R.le, R.base, by simp [outs], fun i s e => ?_, fun i => ?_, fun i j a h1 h2 => R.dj i j a (inF i a h1).2.2 (inF j a h2).2.2, fun i a h => R.offF i a (inF i a h).2.2, fun i a h => R.offB i a (inF i a h).2.2, fun i a h => R.on i a (inF i a h).2.2, R.keep, R.f0, R0.pin, fun i x j e => ?_⟩
  · have hi : i < vs.length := by
      have := (List.getElem?_eq_some_iff.mp e).1
      simpa [outs] using this
    rw [gt i hi] at e
    cases e
    unfold oF
    by_cases c : i ∈ pin
    · rw [if_pos c, if_pos ⟨hi, c⟩]
      have hp : σ[i]? = (L2.start N vs)[i]? := R.pin i c
      rw [start_get hi] at hp
      rw [← hp]
      cases q : δ[i]? with
      | none =>
        exfalso
        have h1 : i < σ.length := by
          have : σ[i]? = some (some vs[i]) := by rw [hp, List.getElem?_map, List.getElem?_eq_getElem hi]; rfl
          exact (List.getElem?_eq_some_iff.mp this).1
        rw [R.len] at h1
        rw [List.getElem?_eq_getElem h1] at q
        cases q
      | some t => exact noAl_ok (R.slot i t q)
    · rw [if_neg c, if_neg (fun z => c z.2)]
      rfl
  · unfold oF
    by_cases c : i < vs.length ∧ i ∈ pin
    · rw [if_pos c]; exact R.nd i
    · rw [if_neg c]; exact List.nodup_nil
  · have hi : i < vs.length := by
      have := (List.getElem?_eq_some_iff.mp e).1
      simpa [outs] using this
    rw [gt i hi] at e
    by_cases c : i ∈ pin
    · rw [if_pos c] at e
      exact absurd (Option.some.inj e) no_al
    · rw [if_neg c] at e
      cases e
theorem av_out {σ : L2.St} {v : V} {s : Sl} {n : Nat} (A : AvR K b Fz F H σ v (.tmp s)) : AvR K b Fz (oF pin n F) H (vs.map some) v (.tmp s) := by
  obtain ⟨h1, g, h2, h3, h4⟩ := A
  refine ⟨h1, g, h2, h3, fun a ha => ⟨(h4 a ha).1, (h4 a ha).2.1, (h4 a ha).2.2.1, fun i hi => ?_⟩⟩
  unfold oF at hi
  by_cases c : i < n ∧ i ∈ pin
  · rw [if_pos c] at hi
    exact (h4 a ha).2.2.2 i hi
  · rw [if_neg c] at hi
    cases hi
end
theorem body_ok {K : PySem.W.Frag} {mg : Str → Option Value} {N : List Str} {vs : List V} {H : Hp} {Q : VK} {E : XK} {n : Nat} {pin : List Nat} {body : List Sl → Ot} (hN : n ≤ N.length) (h : spF K mg n (fnRun n N.length pin body) vs H Q E) :
    rdS K mg (fun cls d _ H => E cls d H) pin body { nx := fun _ H' => Q .non H', rt := Q } (L2.start N vs) H := by
  obtain ⟨hl, b, Fz, F, δ, R, P⟩ := h
  subst hl
  refine ⟨_, Fz, _, _, rfl, rl_in (pin := pin) R hN, ?_⟩
  unfold fnRun at P
  cases q : body (δ ++ List.replicate (N.length - vs.length) .no) with
  | bad => rw [q] at P; exact P
  | bk δ' => rw [q] at P; exact P.elim
  | ct δ' => rw [q] at P; exact P.elim
  | nx δ' =>
    rw [q] at P
    exact fun σ' H' Fz' F' s R' => P .non H' Fz' _ s (rl_out R R') ⟨rfl, [], ⟨rfl, _, rfl, .non⟩, List.nodup_nil, fun _ z => nomatch z⟩
  | rt t δ' =>
    rw [q] at P
    exact fun v σ' H' Fz' F' s R' A => P v H' Fz' _ s (rl_out R R') (av_out (b := b) (σ := σ') A)
  | er x δ' =>
    rw [q] at P
    exact fun c dd σ' H' Fz' F' s R' e => P c dd H' Fz' _ s (rl_out R R') e
/-- the context of a def's body -/
abbrev GX (P : Program) (w : World) (K : PySem.W.Frag) (mg : Str → Option Value) (base : Heap) (N : List Str) (qual : Str) (scope : Scope) (f : Addr) (cd : Value) (A : Around) (outer : List Env) (s : Shared) (H : Hp) (E : XK) : Cx := cxOf (L2.CX P w) P w K mg base N qual scope f cd A outer s H E
abbrev GW (E : XK) : WX := fun cls d _ H => E cls d H
theorem fnG_of {P : Program} {w : World} {K : PySem.W.Frag} {mg : Str → Option Value} {base : Heap} {k : Nat} {f : Addr} {name qual : Str} {params : Arguments} {body : List Stmt} {scope : Scope} {dV kV doc pm cdv ct oc : Value} {an od : Option Addr}
    {osl : Array (Option Value)} {N ps : List Str} {n : Nat} {pin : List Nat} {fb : List Sl → Ot} (lk : K.lookup f = some ⟨oc, od, .func (PySem.W.fnOf name qual params body scope dV kV doc pm an cdv ct), osl⟩) (hcd : PySem.W.codeIn K cdv qual = true) (S : FnScope N ps scope)
    (hn : ps.length = n)
    (hbody : ∀ (A : Around) (outer : List Env) (s : Shared) (H : Hp) (E : XK), Room k (A.deeper (envOfC qual scope s.heap.objs.size f cdv)) → A.guards = some [] →
      SSs (GX P w K mg base N qual scope f cdv A outer s H E) (GW E) pin body fb) :
    FnG P w K mg base (k + 1) f (PySem.W.fnOf name qual params body scope dV kV doc pm an cdv ct) ps (spF K mg n (fnRun n N.length pin fb)) := by
  have hpl : n ≤ N.length := by have := congrArg List.length S.pre; rw [List.length_take] at this; omega
  refine ⟨fun vs H Q E h => h.1.trans hn.symm, fun A outer s H args us vs Q E hgd hr e0 hb r hsp => ?_⟩
  have hl : vs.length = ps.length := hsp.1.trans hn.symm
  have KX : K.In s.heap := e0.mod.kin.keeps fun b o e => (e0.bs b o e).1
  have lim : s.heap.NoLimit := e0.mod.nolimit.keeps fun b o e => (e0.bs b o e).1
  have hkind : ∀ y ∈ ps.zip us, scope.names.lookup y.1 = some .local ∨ (scope.names.lookup y.1 = some .cell ∧ ((cellsFrom (s.heap.objs.size + 1) scope.names []).lookup y.1).isSome = true) := fun ⟨n, v⟩ hy => by
    rcases S.par n (List.of_mem_zip hy).1 with q | q
    · exact .inl q
    · exact .inr ⟨q, PySem.W.cellsFrom_some _ _ _ (.inl q)⟩
  refine codeAny_call_function hr.depth (KX _ _ lk) rfl S.co S.gen rfl (PySem.W.codeRec_of KX hcd) (hb _ _ _ _ ?_)
  refine wpAny_newFunctionEnv_cells S.kind hkind fun env he s1 x => ?_
  subst he
  refine ⟨lim.keeps x.toInCall.keep, codeAny_func ?_⟩
  have ht := hbody A outer s H E (hr.deeper _) hgd
  have hq := body_ok hpl hsp
  have I : Inv (GX P w K mg base N qual scope f cdv A outer s H E) [] (L2.start N vs) H s1 := inv_start S hr.hd e0 hl r x
  refine wpAny_mono (ht.run [] s1 (L2.start N vs) H _ I hq) (fun fl s' hs => ?_) fun e s' hs => hs
  have fin : ∀ {σ' : L2.St} {H' : Hp} {v : V} {u : Value}, Inv (GX P w K mg base N qual scope f cdv A outer s H E) [] σ' H' s' → RelV v u → Q v H' → CE outer P w H s Q u s' :=
    fun {σ' H' v u} J rv q => ⟨v, H', J.os, J.bare, J.base, J.hok, rv, q⟩
  cases fl with
  | ret u =>
    obtain ⟨v, σ', H', J, rv, q⟩ := hs
    exact fin J rv q
  | next =>
    obtain ⟨σ', H', J, q⟩ := hs
    exact fin (v := V.non) (u := Value.none) J rfl q
  | brk =>
    obtain ⟨_, _, _, q⟩ := hs
    exact False.elim q
  | cont =>
    obtain ⟨_, _, _, q⟩ := hs
    exact False.elim q
theorem gx_pass {P : Program} {w : World} {K : PySem.W.Frag} {mg : Str → Option Value} {base : Heap} {N : List Str} {qual : Str} {scope : Scope} {f : Addr} {cd : Value} {A : Around} {outer : List Env} {s : Shared} {H : Hp} {E : XK} :
    ∀ σ, PassesAt (L2.CX P w) (GX P w K mg base N qual scope f cd A outer s H E) σ (WE (GW E) σ) := passAt (X := GX P w K mg base N qual scope f cd A outer s H E) (W := GW E) (takes_of rfl rfl rfl rfl)
theorem w0_pass {X : Cx} {P : Program} {w : World} : ∀ σ, PassesAt (L2.CX P w) X σ (WE W0 σ) := fun σ pins H s e s' I h => by
  obtain ⟨_, _, _, _, _, _, _, _, _, _, _, _, z⟩ := h
  exact z.elim
/-! ### the law's end -/
theorem sp_law {K : PySem.W.Frag} {mg : Str → Option Value} {F : List Sl → FR} {H : Hp} {a : Addr} {ns : List Int} {δ : List Sl} (hX : SqX K H a (ns.map V.int)) (h : F [.fz (.list (ns.map PyData.int))] = .ok (.fz (.bool true)) δ) :
    spF K mg 1 F [.ref a] H (fun v _ => v = .bl true) fun _ _ _ => False := by
  have rL : ∀ ns : List Int, RpL K H (ns.map V.int) (ns.map PyData.int) := fun ns => by
    induction ns with
    | nil => exact .nil
    | cons n r ih => exact .cons (.int n) ih
  refine ⟨rfl, ⟨H, H, [], []⟩, H, fun _ => [], [.fz (.list (ns.map PyData.int))], ⟨Same.refl _, Same.refl _, rfl, fun i s e => ?_, fun _ => List.nodup_nil, fun _ _ _ z => (nomatch z), fun _ _ z => (nomatch z), fun _ _ z => (nomatch z), fun _ _ z => (nomatch z), fun _ _ => rfl, fun _ h => h, fun _ z => (nomatch z), fun i x j e => ?_⟩, ?_⟩
  · cases i with
    | zero =>
      cases e
      exact ⟨rfl, _, rfl, .lst hX (rL ns)⟩
    | succ i => cases e
  · cases i with
    | zero => cases e
    | succ i => cases e
  · rw [h]
    intro v H' Fz' F' s R A
    obtain ⟨_, g, ⟨_, v', e, r⟩, _⟩ := A
    cases e
    cases r
    rfl
/-- the head's end: the law is called over a ground that shows nothing but the script -/
theorem lawG {P : Program} {w : World} {K : PySem.W.Frag} {mg mb : Str → Option Value} {k : Nat} {fa a : Addr} {fd : FuncData} {x : Str} {sp : Sp} {s₁ : Shared} {vs : List Value} {ns : List Int}
    (KX : K.In s₁.heap) (hns : s₁.heap.Ns mainGlobals mg) (hb : s₁.heap.Ns builtinsNs mb) (hbb : ∀ x : Str, x ≠ "__name__" → mb x = bootBuiltins x) (hlim : s₁.heap.NoLimit) (hg : s₁.gens = #[])
    (ha : s₁.heap.get? a = some { cls := .type "list", data := .seq vs.toArray }) (hi : IntsAre vs ns) (hl : ns.length ≤ sizeLine) (hr : Room k callerA)
    (FF : ∀ bs : Heap, K.In bs → bs.Ns mainGlobals mg → FnG P w K mg bs k fa fd [x] sp) (hbind : ∀ (s : Shared) (u : Value), BindsTo s fd ⟨[u], []⟩ [(x, u)])
    (hsp : ∀ H : Hp, SqX K H a (ns.map V.int) → sp [.ref a] H (fun v _ => v = .bl true) fun _ _ _ => False) :
    codeAny (model P w) callerA (.call (.ref fa) ⟨[.ref a], []⟩) (fun r s' => r = .ok (.ret (.bool true)) ∧ OldK s₁.heap s'.heap ∧ s'.os = s₁.os ∧ AllBare s'.gens) s₁ := by
  have rv := vals_ints hi
  have nv := hi.length
  have main : ∀ G : Hp, Only G → SqX K G a (ns.map V.int) → HOk P w G s₁.heap → (∀ c, G c ≠ none → c = a) → (G a ≠ none → K.lookup a = none) →
      codeAny (model P w) callerA (.call (.ref fa) ⟨[.ref a], []⟩) (fun r s' => r = .ok (.ret (.bool true)) ∧ OldK s₁.heap s'.heap ∧ s'.os = s₁.os ∧ AllBare s'.gens) s₁ := by
    intro G gO gS gok gA gK
    have at_a : ∀ {c : Addr} {u : HO}, G c = some u → c = a := fun {c u} e => gA c (by rw [e]; simp)
    have free : ∀ {c : Addr} {o : Obj} {es : Array DictEntry} {ep : Nat}, s₁.heap.get? c = some o → o.data = .dict es ep → G c = none := fun {c o es ep} e d => by
      cases q : G c with
      | none => rfl
      | some u =>
        have e2 := at_a q
        subst e2
        rw [ha] at e
        cases e
        exact absurd d (by intro z; cases z)
    have names : ∀ {c : Addr} {m : Str → Option Value}, s₁.heap.Ns c m → (hidT s₁.heap G).Ns c m := fun {c m} ⟨o, es, ep, e, d, r⟩ => ⟨o, es, ep, hidT_get e (free e d), d, r⟩
    have kin : K.In (hidT s₁.heap G) := fun c o e => hidT_get (KX c o e) (by
      cases q : G c with
      | none => rfl
      | some u =>
        have e2 := at_a q
        subst e2
        rw [gK (by rw [q]; simp)] at e
        cases e)
    have md : Mod K mg (hidT s₁.heap G) := ⟨kin, names hns, ⟨mb, names hb, hbb⟩, let ⟨mc, h1, h2⟩ := hlim; ⟨mc, names h1, h2⟩⟩
    have e0 : Env0 P w K mg (hidT s₁.heap G) callerA [] s₁ G := ⟨rfl, md, fun c o e => of_hidT e, Nat.le_of_eq (hidT_size _ _), trivial, fun c z => absurd (show c ∈ ([] : List Addr) from z) (by simp), gok, .of_eq hg⟩
    refine codeAny_mono ((FF _ kin (names hns)).run callerA [] s₁ G ⟨[.ref a], []⟩ [.ref a] [.ref a] _ _ rfl hr e0 (hbind s₁ (.ref a)) (.cons rfl .nil) (hsp G gS)) fun r s' h => ?_
    cases r with
    | error e =>
      obtain ⟨_, _, _, _, _, _, _, _, _, _, _, _, z⟩ := h
      exact z.elim
    | ok fl =>
      cases fl with
      | next => exact False.elim h
      | brk => exact False.elim h
      | cont => exact False.elim h
      | ret u =>
        obtain ⟨v, G2, os, bare, un, ok2, r2, q⟩ := h
        have q : v = .bl true := q
        subst q
        obtain rfl : u = Value.bool true := r2
        refine ⟨rfl, OldK.of_keep fun c o e => ?_, os, bare⟩
        cases q2 : G c with
        | none => exact un.keep c o e q2 (fun z => absurd (show c ∈ ([] : List Addr) from z) (by simp)) (by simp)
        | some u =>
          rcases gO c with z | ⟨oc, xs, z⟩
          · rw [q2] at z; cases z
          · obtain ⟨e1, _⟩ := gok c _ z
            obtain ⟨e2, _⟩ := ok2 c _ (un.frzs c oc _ z)
            rw [e] at e1
            cases e1
            exact e2
  cases hk : K.lookup a with
  | some o =>
    have e := KX a o hk
    rw [ha] at e
    cases e
    exact main (fun _ => none) (fun _ => .inl rfl) (.inr ⟨vs, 0, hk, by rw [nv]; exact hl, rv⟩) (fun c u z => nomatch z) (fun c z => absurd rfl z) fun z => absurd rfl z
  | none =>
    refine main (fun c => if c = a then some (.frz { cls := .type "list", data := .seq vs.toArray } (.lst (ns.map V.int))) else none) (fun c => ?_) (.inl (.inr ⟨_, if_pos rfl⟩)) (fun c u z => ?_) (fun c z => ?_) fun _ => hk
    · by_cases hc : c = a
      · exact .inr ⟨_, _, if_pos hc⟩
      · exact .inl (if_neg hc)
    · by_cases hc : c = a
      · have z2 := (if_pos hc).symm.trans z
        cases z2
        subst hc
        exact ⟨ha, by rw [List.length_map]; exact hl, vs, _, rv, ha⟩
      · have z2 := (if_neg hc).symm.trans z
        cases z2
    · by_cases hc : c = a
      · exact hc
      · exact absurd (if_neg hc) z
theorem walkG {l : PySem.W.OpenLaw} {n k : Nat} {q : Program} {loose : List Str} {XP : (Str → Option Value) → Heap → Prop} {YP : World → Heap → Prop} {d : DefRec} {x : Str}
    (hn : l.most = some n) (hn2 : n ≤ sizeLine) (hdf : d.params.defaults = []) (hr : Room k callerA)
    (FF : ∀ (w : World) (mg : Str → Option Value) (fa : Addr) (h : Heap), YP w h → h.Ns mainGlobals mg → mg d.name = some (.ref fa) →
      ∃ (K : PySem.W.Frag) (fd : FuncData) (sp : Sp), K.In h ∧ (∀ (s : Shared) (u : Value), BindsTo s fd ⟨[u], []⟩ [(x, u)]) ∧
        (∀ (H : Hp) (a : Addr) (ns : List Int), ns.length ≤ n → SqX K H a (ns.map V.int) → sp [.ref a] H (fun v _ => v = .bl true) fun _ _ _ => False) ∧
        ∀ bs : Heap, K.In bs → bs.Ns mainGlobals mg → FnG l.prog w K mg bs k fa fd [x] sp) :
    PySem.W.WalkO q loose XP YP l.row.toRowW d [] (fun f vs => PySem.call f vs) := by
  refine Att.attach_call hn hdf fun w s₀ s₁ mg mb fa o pm cd doc a vs ns G Y ho hd hcd hmg hobj hints hlen hg => ?_
  obtain ⟨K, fd, sp, KX, hb, hsp, hF⟩ := FF w mg fa _ Y G.T.g hmg
  exact lawG KX G.T.g G.T.b G.T.builtins G.T.nolimit hg hobj hints (Nat.le_trans hlen hn2) hr hF hb fun H hS => hsp H a ns hlen hS
end Hb

/-! part Hb12 -/
namespace Hb
open PySem PySem.Spec PyProof.Rows L2

/-! ### the text of a tree -/
mutual
def shw : PyData → Bool
  | .none => true
  | .bool _ => true
  | .str _ => true
  | .int i => decide (i.natAbs.log2 < 1920)
  | .list xs => shwAll xs
  | .tuple xs => shwAll xs
  | .dict kvs => kvs.isEmpty
def shwAll : List PyData → Bool
  | [] => true
  | x :: xs => shw x && shwAll xs
end
section
variable {X : Cx} {pins : List (Addr × Obj)} {σ : L2.St} {H : Hp} {s : Shared}
def RR (X : Cx) (h : Heap) (u : Value) (d : PyData) : Prop := ∃ bs as, Reads h u d as ∧ ReadAtMost h d.depth bs ∧ ReprK X.prog X.w bs h d.depth u d.shown
def RRs (X : Cx) (h : Heap) (us : List Value) (ds : List PyData) : Prop := ∃ bs as, ReadsAll h us ds as ∧ ReadAtMost h (PyData.depthAll ds) bs ∧ ReprAllK X.prog X.w bs h (PyData.depthAll ds) us (PyData.shownAll ds)
theorem rr_cons {h : Heap} {u : Value} {us : List Value} {d : PyData} {ds : List PyData} : RR X h u d → RRs X h us ds → RRs X h (u :: us) (d :: ds) := fun ⟨b1, a1, r1, m1, k1⟩ ⟨b2, a2, r2, m2, k2⟩ => by
  refine ⟨b1 ++ b2, _, .cons r1 r2, ?_, ?_⟩
  · simp only [PyData.depthAll]
    exact (m1.mono (Nat.le_max_left _ _)).append (m2.mono (Nat.le_max_right _ _))
  · simp only [PyData.depthAll, PyData.shownAll]
    exact .cons ((k1.more fun b hb => List.mem_append_left _ hb).level_le (Nat.le_max_left _ _)) (k2.more_le (fun b hb => List.mem_append_right _ hb) (Nat.le_max_right _ _))
theorem rr_leaf {h : Heap} {u : Value} {d : PyData} (r : Reads h u d []) (k : ReprIs X.prog X.w u d.shown) : RR X h u d := ⟨[], _, r, fun _ z => (nomatch z), .of_is k _ _ _⟩
theorem rr_list {h : Heap} {a : Addr} {its : List Value} {n : Nat} {ds : List PyData} (e : h.get? a = some { cls := .type "list", data := .seq its.toArray n }) : RRs X h its ds → RR X h (.ref a) (.list ds) := fun ⟨bs, as, r, m, k⟩ => by
  have rr : Reads h (.ref a) (.list ds) _ := .list e rfl rfl (by simpa using r)
  have na : a ∉ bs := not_mem_of_deeper rr (by simp only [PyData.depth]; omega) m
  refine ⟨a :: bs, _, rr, ReadAtMost.cons rr (by simp only [PyData.depth]; omega) m, ?_⟩
  simp only [PyData.depth, PyData.shown]
  cases its with
  | nil =>
    cases r
    simp only [PyData.shownAll, listText_nil]
    exact ReprK.listEmpty e rfl rfl
  | cons x l => exact ReprK.list e rfl rfl na (by simpa using k.length_eq) fun i y q => k.item i y (by simpa using q)
theorem rr_tup {h : Heap} {a : Addr} {o : Obj} {its : List Value} {n : Nat} {ds : List PyData} (e : h.get? a = some o) (hc : o.cls = .type "tuple") (hd : o.data = .seq its.toArray n) : RRs X h its ds → RR X h (.ref a) (.tuple ds) := fun ⟨bs, as, r, m, k⟩ => by
  have rr : Reads h (.ref a) (.tuple ds) _ := .tuple e hc hd (by simpa using r)
  have na : a ∉ bs := not_mem_of_deeper rr (by simp only [PyData.depth]; omega) m
  refine ⟨a :: bs, _, rr, ReadAtMost.cons rr (by simp only [PyData.depth]; omega) m, ?_⟩
  simp only [PyData.depth, PyData.shown]
  exact ReprK.tuple e hc hd na (by simpa using k)
theorem rr_dic {h : Heap} {a : Addr} {o : Obj} {n : Nat} (e : h.get? a = some o) (hc : o.cls = .type "dict") (hd : o.data = .dict #[] n) (hs : (a == sysModules) = false) : RR X h (.ref a) (.dict []) := by
  have rr : Reads h (.ref a) (.dict []) _ := .dict e hc hd (by simpa using ReadsAll.nil) (by simpa using ReadsAll.nil)
  have m : ReadAtMost h (PyData.depthKv []) [] := fun _ z => (nomatch z)
  refine ⟨a :: [], _, rr, ReadAtMost.cons rr (by simp only [PyData.depth]; omega) m, ?_⟩
  simp only [PyData.depth, PyData.shown]
  exact ReprK.dict e hc hd hs (by simp) (by simpa [PyData.shownKv] using ReprEntriesK.nil)
mutual
theorem rr_of (I : Inv X pins σ H s) : ∀ {v : V} {d : PyData} {u : Value}, Rp X.K H v d → RelV v u → shw d = true → d.shown.length ≤ sizeLine → RR X s.heap u d
  | _, _, _, .non, e, _, _ => by
    obtain rfl : _ = Value.none := e
    exact rr_leaf .none (by simp only [PyData.shown]; exact ReprIs.none)
  | _, _, _, .bl b, e, _, _ => by
    obtain rfl : _ = Value.bool b := e
    exact rr_leaf (.bool b) (by simp only [PyData.shown]; exact ReprIs.bool b)
  | _, _, _, .int i, e, hs, _ => by
    obtain ⟨t, rfl⟩ := e
    exact rr_leaf (.int i t) (by simp only [PyData.shown]; exact ReprIs.int t (by simpa [shw] using hs))
  | _, _, _, .str x, e, _, hz => by
    obtain ⟨t, rfl⟩ := e
    exact rr_leaf (.str x t) (by simp only [PyData.shown] at hz ⊢; exact ReprIs.str x t hz)
  | _, _, _, .lst (ds := ds) h1 h2, e, hs, hz => by
    obtain rfl : _ = Value.ref _ := e
    obtain ⟨its, n, r, e, _⟩ := inv_lstX I h1
    have hz' : (listText (PyData.shownAll ds)).length ≤ sizeLine := by simpa only [PyData.shown] using hz
    exact rr_list e (rrs_of I h2 r (by simpa [shw] using hs) fun t ht => Nat.le_trans (listText_mem_le ht) hz')
  | _, _, _, .tup (ds := ds) h1 h2, e, hs, hz => by
    obtain rfl : _ = Value.ref _ := e
    obtain ⟨its, r, ⟨o, e, hc, n, hd⟩, _⟩ := I.tuple h1
    have hz' : (tupleText (PyData.shownAll ds)).length ≤ sizeLine := by simpa only [PyData.shown] using hz
    exact rr_tup e hc hd (rrs_of I h2 r (by simpa [shw] using hs) fun t ht => Nat.le_trans (tupleText_mem_le ht) hz')
  | _, _, _, .dK h1 h2, e, hs, _ => by
    obtain rfl : _ = Value.ref _ := e
    cases h2 with
    | cons _ _ => simp [shw] at hs
    | nil =>
      obtain ⟨_, hy, vs, kv, o, es, ep, e, hx, hd, _, pr, _⟩ := I.hok _ _ h1
      cases kv
      have : es.toList = [] := by
        generalize es.toList = l at pr
        cases pr
        rfl
      have e2 : es = #[] := by simpa using this
      subst e2
      exact rr_dic e hx.1 hd hy
  | _, _, _, .dT h1 h2, e, hs, _ => by
    obtain rfl : _ = Value.ref _ := e
    cases h2 with
    | cons _ _ => simp [shw] at hs
    | nil =>
      obtain ⟨_, hy, xs, kv, o, es, ep, e, hx, hd, pr, _⟩ := I.hok _ _ h1
      cases kv
      have e2 : es = #[] := by simpa using pr
      subst e2
      exact rr_dic e hx.1 hd hy
theorem rrs_of (I : Inv X pins σ H s) : ∀ {vs : List V} {ds : List PyData} {us : List Value}, RpL X.K H vs ds → Vals vs us → shwAll ds = true → (∀ t ∈ PyData.shownAll ds, t.length ≤ sizeLine) → RRs X s.heap us ds
  | _, _, _, .nil, r, _, _ => by
    cases r
    exact ⟨[], _, .nil, fun _ z => (nomatch z), by simp only [PyData.shownAll]; exact .nil⟩
  | _, _, _, .cons (d := d) (ds := ds) h t, r, hs, hz => by
    cases r with
    | cons r1 r2 =>
      have hs2 : shw d = true ∧ shwAll ds = true := by simpa [shwAll] using hs
      exact rr_cons (rr_of I h r1 hs2.1 (hz _ (by simp only [PyData.shownAll]; exact List.mem_cons_self))) (rrs_of I t r2 hs2.2 fun t ht => hz _ (by simp only [PyData.shownAll]; exact List.mem_cons_of_mem _ ht))
end
/-- repr(v): no repr is running -/
def rRepr (K : PySem.W.Frag) : List V → Hp → VK → Prop := fun xs H Q => ∃ v d, xs = [v] ∧ Rp K H v d ∧ (shw d = true ∧ d.depth ≤ 60) ∧ d.shown.length ≤ sizeLine ∧ Q (.str d.shown) H
theorem call_reprT (hu : X.A.units + 64 < cLine) (hg : X.A.guards = some []) : CallR X (.builtin "repr") (rRepr X.K) := by
  intro pins s σ H xs us Q I r h
  obtain ⟨v, d, rfl, hr, ⟨hs, hd⟩, hz, q⟩ := h
  obtain ⟨u, rfl, rv⟩ := vals1 r
  have fin : ∀ h' tk tk2, (∀ b o, s.heap.get? b = some o → h'.get? b = some o) → EP X pins σ Q (.str d.shown tk) { s with heap := h', toks := tk2 } := fun h' tk tk2 k => ⟨.str d.shown, H, I.kept k, ⟨_, rfl⟩, q⟩
  cases hr with
  | non =>
    obtain rfl : _ = Value.none := rv
    exact PySem.P.repr_of_none (by simpa [PyData.shown] using fin s.heap _ _ fun _ _ e => e)
  | bl b =>
    obtain rfl : _ = Value.bool b := rv
    exact PySem.P.repr_of_bool (by simpa [PyData.shown] using fin s.heap _ _ fun _ _ e => e)
  | int i =>
    obtain ⟨t, rfl⟩ := rv
    exact PySem.P.repr_of_int (by simpa [shw] using hs) (by simpa [PyData.shown] using fin s.heap _ _ fun _ _ e => e)
  | str x =>
    obtain ⟨t, rfl⟩ := rv
    exact PySem.P.repr_of_str (by simpa [PyData.shown] using fin s.heap _ _ fun _ _ e => e) (by simpa [PyData.shown] using hz)
  | lst h1 h2 =>
    rename_i a xs ds
    obtain rfl : _ = Value.ref a := rv
    obtain ⟨its, n, r, e, _⟩ := inv_lstX I h1
    have hz' : (listText (PyData.shownAll ds)).length ≤ sizeLine := by simpa only [PyData.shown] using hz
    obtain ⟨bs, as, rs, m, k⟩ := rrs_of I h2 r (by simpa [shw] using hs) fun t ht => Nat.le_trans (listText_mem_le ht) hz'
    have rr : Reads s.heap (.ref a) (.list ds) _ := .list e rfl rfl (by simpa using rs)
    have na : a ∉ bs := not_mem_of_deeper rr (by simp only [PyData.depth]; omega) m
    simp only [PyData.depth] at hd
    simp only [PyData.shown] at fin
    refine call_repr_slot (T := "list") (by omega) ⟨_, e, rfl⟩ F.slot_list_repr.toG ?_
    cases its with
    | nil =>
      cases rs
      simp only [PyData.shownAll, listText_nil] at fin
      exact call_list_repr_empty ⟨_, e, rfl⟩ e rfl ⟨_, _, rfl, fin s.heap _ _ fun _ _ e => e⟩
    | cons x l =>
      exact call_list_reprK e rfl rfl na (by simpa using k.length_eq) (fun i y q => k.item i y (by simpa using q)) hg (fun b _ => Clear.nil b) (by show X.A.units + 1 + _ < cLine; omega) (fun _ _ e => e) (fun h' u tk kk => ⟨_, _, rfl, fin h' _ _ kk⟩) hz'
  | tup h1 h2 =>
    rename_i a xs ds
    obtain rfl : _ = Value.ref a := rv
    obtain ⟨its, r, ⟨o, e, hc, n, hdd⟩, _⟩ := I.tuple h1
    have hz' : (tupleText (PyData.shownAll ds)).length ≤ sizeLine := by simpa only [PyData.shown] using hz
    obtain ⟨bs, as, rs, m, k⟩ := rrs_of I h2 r (by simpa [shw] using hs) fun t ht => Nat.le_trans (tupleText_mem_le ht) hz'
    have rr : Reads s.heap (.ref a) (.tuple ds) _ := .tuple e hc hdd (by simpa using rs)
    have na : a ∉ bs := not_mem_of_deeper rr (by simp only [PyData.depth]; omega) m
    simp only [PyData.depth] at hd
    simp only [PyData.shown] at fin
    refine call_repr_slot (T := "tuple") (by omega) ⟨_, e, hc⟩ F.slot_tuple_repr ?_
    exact call_tuple_reprK e hc hdd na (by simpa using k) hg (fun b _ => Clear.nil b) (by show X.A.units + 1 + _ < cLine; omega) (fun _ _ e => e) (fun h' u tk kk => ⟨_, _, rfl, fin h' _ _ kk⟩) hz'
  | dK h1 h2 =>
    cases h2 with
    | cons _ _ => simp [shw] at hs
    | nil =>
      rename_i a
      obtain rfl : _ = Value.ref a := rv
      obtain ⟨_, hy, vs, kv, o, es, ep, e, hx, hdd, _, pr, _⟩ := I.hok _ _ h1
      cases kv
      have e1 : es.toList = [] := by
        generalize es.toList = l at pr
        cases pr
        rfl
      have e2 : es = #[] := by simpa using e1
      subst e2
      simp only [PyData.shown] at fin hz
      refine call_repr_slot (T := "dict") (by omega) ⟨_, e, hx.1⟩ F.slot_dict_repr ?_
      exact call_dict_reprK (as := []) (d := 0) e hx.1 hdd hy (by simp) .nil hg (fun b _ => Clear.nil b) (by show X.A.units + 1 + _ < cLine; omega) (fun _ _ e => e) (fun h' u tk kk => ⟨_, _, rfl, by simpa [PyData.shownKv] using fin h' _ _ kk⟩) (by simpa [PyData.shownKv] using hz)
  | dT h1 h2 =>
    cases h2 with
    | cons _ _ => simp [shw] at hs
    | nil =>
      rename_i a
      obtain rfl : _ = Value.ref a := rv
      obtain ⟨_, hy, xs, kv, o, es, ep, e, hx, hdd, pr, _⟩ := I.hok _ _ h1
      cases kv
      have e2 : es = #[] := by simpa using pr
      subst e2
      simp only [PyData.shown] at fin hz
      refine call_repr_slot (T := "dict") (by omega) ⟨_, e, hx.1⟩ F.slot_dict_repr ?_
      exact call_dict_reprK (as := []) (d := 0) e hx.1 hdd hy (by simp) .nil hg (fun b _ => Clear.nil b) (by show X.A.units + 1 + _ < cLine; omega) (fun _ _ e => e) (fun h' u tk kk => ⟨_, _, rfl, by simpa [PyData.shownKv] using fin h' _ _ kk⟩) (by simpa [PyData.shownKv] using hz)
def reprD (d : PyData) : Option PyData := if (shw d = true ∧ d.depth ≤ 60) ∧ d.shown.length ≤ sizeLine then some (.str d.shown) else none
theorem c1_repr {K : PySem.W.Frag} {mg : Str → Option Value} {W : WX} {pin : List Nat} : C1 K mg W pin (rRepr K) (gRd reprD) := c1_rd fun v d e H Q r k f q => by
  unfold reprD at k
  split at k
  · rename_i h
    cases k
    exact ⟨v, d, rfl, r, h.1, h.2, q⟩
  · cases k
end
end Hb

/-! part Hb13 -/
namespace Hb
open PySem PySem.Spec PyProof.Rows L2

/-! ### products -/
def rRepX (K : PySem.W.Frag) : R2 := fun x y H Q => ∃ l k xs, x = .ref l ∧ y = .int k ∧ SqX K H l xs ∧ -(2 ^ 63) ≤ k ∧ k < 2 ^ 63 ∧ xs.length * k.toNat ≤ sizeLine ∧
  ∀ p, H p = none → Q (.ref p) (upd H p (.lst (List.replicate k.toNat xs).flatten))
theorem op_repX {X : Cx} : OpR X (binaryOp .Mult) (rRepX X.K) := by
  intro pins s σ H x y v u Q I rx ry h
  obtain ⟨l, k, xs, rfl, rfl, hX, k1, k2, hz, q⟩ := h
  cases rx
  obtain ⟨t, rfl⟩ := ry
  obtain ⟨its, n, r, e, z⟩ := inv_lstX I hX
  have hl := r.length
  have hlen : its.toArray.size * k.toNat ≤ sizeLine := by rw [List.size_toArray, ← hl]; exact hz
  have line8 : (sizeLine : Nat) ≤ (2 ^ 63 - 1) / 8 := by decide
  have notcap : ¬ its.toArray.size * k.toNat > (2 ^ 63 - 1) / 8 := by omega
  have fit : ¬ (!Builtin.List.listFitsIndex k) = true := by
    rw [fitsIndex_both k1 k2]
    exact Bool.false_ne_true
  have notlong : ¬ Builtin.List.listTooLong (its.toArray.size * k.toNat) = true := by
    rw [notLongL hlen]
    exact Bool.false_ne_true
  have made : List.foldl (fun x1 x2 => x1 ++ x2) #[] (List.replicate (if its.toArray.isEmpty = true then 0 else k.toNat) its.toArray) = (List.replicate k.toNat its).flatten.toArray := by
    have f0 : ∀ m : Nat, List.foldl (fun x1 x2 => x1 ++ x2) #[] (List.replicate m its.toArray) = (List.replicate m its).flatten.toArray := fun m => by
      have g := foldl_rep its m []
      rwa [List.nil_append] at g
    rw [f0]
    cases its with
    | nil => simp
    | cons a r' => rw [if_neg (by simp)]
  refine wpAny_binaryOp_repeat_ref (T := "list") (U := "int") (by decide) ⟨_, e, rfl⟩ (fun s' => typeIs_int s' k t) noFill_list_mul F.fills_int_mul F.slot_int_rmul repeat_list F.slot_int_index.lookup
    (call_meets F.slot_int_rmul (typeIs_int s k t) F.entry_int_rmul (F.args_int_rmul_2 _ _) (int___rmul___int_list k t l its.toArray n)
      ⟨e, rfl, ⟨_, e, rfl⟩, call_meets F.slot_list_mul ⟨_, e, rfl⟩ F.entry_list_mul (F.args_list_mul_2 _ _) (AutoListH.list___mul___list_int_3 l its.toArray n k t fit notcap notlong) ⟨e, ?_⟩⟩)
  rw [made]
  exact ⟨.ref _, _, I.lnew (t' := s.toks) (r.rep k.toNat) (by rw [PyProof.Rows.lm_len_rep_flat, Nat.mul_comm]; exact hz), rfl, q _ I.fresh⟩
def rMulX (K : PySem.W.Frag) : R2 := fun x y H Q => (rI CMul (fun i j => .int (i * j)) x y H Q ∨ rI CMulW (fun i j => .int (i * j)) x y H Q) ∨ rRepX K x y H Q
theorem op_mulX2 {X : Cx} : OpR X (binaryOp .Mult) (rMulX X.K) := OpR.or (OpR.or op_mul op_mulW) op_repX
theorem RpL.rep {K : PySem.W.Frag} {H : Hp} {vs : List V} {ds : List PyData} (h : RpL K H vs ds) : ∀ k : Nat, RpL K H (List.replicate k vs).flatten (List.replicate k ds).flatten
  | 0 => .nil
  | k + 1 => by
    rw [List.replicate_succ, List.replicate_succ, List.flatten_cons, List.flatten_cons]
    exact h.append (RpL.rep h k)
theorem len_rep {α : Type} (xs : List α) (k : Nat) : (List.replicate k xs).flatten.length = xs.length * k := by
  rw [PyProof.Rows.lm_len_rep_flat, Nat.mul_comm]
def gMulX (x y : AV) (δ : List Sl) : Rs AV := match rdC δ x, rdC δ y with
  | some (.int i), some (.int j) => if i.natAbs < 2 ^ 64 ∨ j.natAbs < 2 ^ 64 then .ok (.val (.int (i * j))) δ else .bad
  | some (.list ds), some (.int k) => if ds.length ≤ 1000 ∧ 0 ≤ k ∧ k ≤ 1000 then .ok (.tmp (.ol ((List.replicate k.toNat ds).flatten.map .fz))) δ else .bad
  | _, _ => .bad
section
variable {K : PySem.W.Frag} {mg : Str → Option Value} {W : WX} {pin : List Nat}
theorem v2_mul : V2 K mg W pin (rMulX K) gMulX := by
  intro b Fz F δ σ H v w x y Q hp R A B P
  unfold gMulX at P
  cases q1 : rdC δ x with
  | none => simp only [q1] at P; exact P.elim
  | some d =>
    cases q2 : rdC δ y with
    | none => cases d <;> (simp only [q1, q2] at P; exact P.elim)
    | some e =>
      have h1 := rdC_ok R A q1
      have h2 := rdC_ok R B q2
      cases d with
      | int i =>
        cases e with
        | int j =>
          simp only [q1, q2] at P
          by_cases c : i.natAbs < 2 ^ 64 ∨ j.natAbs < 2 ^ 64
          · rw [if_pos c] at P
            exact .inl (.inl ⟨i, j, rpc_int h1, rpc_int h2, by unfold CMul; omega, P _ H Fz F (Same.refl _) R (.int _)⟩)
          · rw [if_neg c] at P; exact P.elim
        | _ => simp only [q1, q2] at P; exact P.elim
      | list ds =>
        cases e with
        | int k =>
          simp only [q1, q2] at P
          by_cases c : ds.length ≤ 1000 ∧ 0 ≤ k ∧ k ≤ 1000
          · rw [if_pos c] at P
            obtain ⟨a1, v1, e1, s1, r1⟩ := h1.list R.le
            have l1 := r1.len
            have hk : k.toNat ≤ 1000 := by omega
            refine .inr ⟨a1, k, v1, e1, rpc_int h2, s1, by omega, by omega, ?_, post_newL R (r1.rep k.toNat) P⟩
            have := Nat.mul_le_mul (Nat.le_of_eq l1) hk
            have h3 := Nat.mul_le_mul_right 1000 c.1
            rw [sizeLine_eq]
            omega
          · rw [if_neg c] at P; exact P.elim
        | _ => simp only [q1, q2] at P; exact P.elim
      | _ => cases e <;> (simp only [q1, q2] at P; exact P.elim)
end
section
variable {X : Cx} {W : WX} {pin : List Nat} {fa fb : List Sl → Rs AV} {a c : Expr} {pos : Pos}
theorem se_mul (ha : SE X W pin a fa) (hb : SE X W pin c fb) : SE X W pin (.BinOp a .Mult c pos) (s2 gMulX fa fb) := se_bin op_mulX2 v2_mul ha hb

/-! ### list(range(..)) -/
def rgD (a b : Int) : List PyData := (List.range (b - a).toNat).map fun i => PyData.int (a + (i : Nat))
theorem rgD_rp {K : PySem.W.Frag} {H : Hp} (a b : Int) : RpL K H (rgV a b) (rgD a b) := by
  unfold rgV rgD
  generalize List.range _ = l
  induction l with
  | nil => exact .nil
  | cons i r ih => exact .cons (.int _) ih
def mkRg (a b : Int) (δ : List Sl) : Rs AV := if (-1000000 ≤ a ∧ a ≤ 1000000) ∧ -1000000 ≤ b ∧ b ≤ 1000000 then .ok (.tmp (.ol ((rgD a b).map .fz))) δ else .bad
def gRg1 (x : AV) (δ : List Sl) : Rs AV := match rdC δ x with
  | some (.int n) => mkRg 0 n δ
  | _ => .bad
def gRg2 (x y : AV) (δ : List Sl) : Rs AV := match rdC δ x, rdC δ y with
  | some (.int m), some (.int n) => mkRg m n δ
  | _, _ => .bad
theorem mkRg_ok {K : PySem.W.Frag} {mg : Str → Option Value} {b : Bk} {Fz : Hp} {F : Nat → List Addr} {δ : List Sl} {σ : L2.St} {H : Hp} {Q : VK} {m n : Int} (R : Rl K b Fz F δ σ H) (P : Post K mg W b Fz σ Q (mkRg m n δ)) :
    RgOk m n ∧ ∀ q, H q = none → Q (.ref q) (upd H q (.lst (rgV m n))) := by
  unfold mkRg at P
  by_cases c : (-1000000 ≤ m ∧ m ≤ 1000000) ∧ -1000000 ≤ n ∧ n ≤ 1000000
  · rw [if_pos c] at P
    exact ⟨by unfold RgOk; omega, post_newL R (rgD_rp m n) P⟩
  · rw [if_neg c] at P
    exact P.elim
theorem se_lrg1 {p p2 pos2 : Pos} (hc : X.calm = true) (hg : Gl X "list") (hm : X.mg "list" = none) (hg2 : Gl X "range") (hm2 : X.mg "range" = none) (ha : SE X W pin a fa) (na : starEach [a] X.env = (false, eval a X.env) :: starEach [] X.env := by rfl)
    (nb : starEach [.Call (.Name "range" p2) [a] [] pos2] X.env = (false, eval (.Call (.Name "range" p2) [a] [] pos2) X.env) :: starEach [] X.env := by rfl) :
    SE X W pin (.Call (.Name "list" p) [.Call (.Name "range" p2) [a] [] pos2] [] pos) (s1 gRg1 fa) := pe_mono (pe_listRg hc hg hm (prg_1 hg2 hm2 (se_st ha) na) nb) fun σ H Q ⟨b, Fz, F, δ, hp, R, P⟩ => by
  refine rd_bind hp R P fun v H1 Fz1 F1 x δ1 s1 R1 A1 P1 => ?_
  unfold gRg1 at P1
  cases q : rdC δ1 x with
  | none => simp only [q] at P1; exact P1.elim
  | some d =>
    cases d with
    | int n =>
      simp only [q] at P1
      exact ⟨n, rpc_int (rdC_ok R1 A1 q), mkRg_ok R1 P1⟩
    | _ => simp only [q] at P1; exact P1.elim
theorem se_lrg2 {p p2 pos2 : Pos} (hc : X.calm = true) (hg : Gl X "list") (hm : X.mg "list" = none) (hg2 : Gl X "range") (hm2 : X.mg "range" = none) (ha : SE X W pin a fa) (hb : SE X W pin c fb)
    (na : starEach [a, c] X.env = (false, eval a X.env) :: starEach [c] X.env := by rfl) (nc : starEach [c] X.env = (false, eval c X.env) :: starEach [] X.env := by rfl) (hpl : (backTo pos2 (starEach [c] X.env)).any (·.1) = false := by rfl)
    (nb : starEach [.Call (.Name "range" p2) [a, c] [] pos2] X.env = (false, eval (.Call (.Name "range" p2) [a, c] [] pos2) X.env) :: starEach [] X.env := by rfl) :
    SE X W pin (.Call (.Name "list" p) [.Call (.Name "range" p2) [a, c] [] pos2] [] pos) (s2 gRg2 fa fb) := pe_mono (pe_listRg hc hg hm (prg_2 hg2 hm2 (se_st ha) (se_st hb) na nc hpl) nb) fun σ H Q ⟨b, Fz, F, δ, hp, R, P⟩ => by
  refine rd_bind hp R P fun v H1 Fz1 F1 x δ1 s1 R1 A1 P1 => ?_
  refine rd_bind hp R1 P1 fun w H2 Fz2 F2 y δ2 s2 R2 A2 P2 => ?_
  have A1 := A1.le s2
  unfold gRg2 at P2
  cases q : rdC δ2 x with
  | none => simp only [q] at P2; exact P2.elim
  | some d =>
    cases q2 : rdC δ2 y with
    | none => cases d <;> (simp only [q, q2] at P2; exact P2.elim)
    | some e =>
      cases d with
      | int m =>
        cases e with
        | int n =>
          simp only [q, q2] at P2
          exact ⟨m, n, rpc_int (rdC_ok R2 A1 q), rpc_int (rdC_ok R2 A2 q2), mkRg_ok R2 P2⟩
        | _ => simp only [q, q2] at P2; exact P2.elim
      | _ => cases e <;> (simp only [q, q2] at P2; exact P2.elim)
end

/-! ### str(v) -/
def strD : PyData → Option PyData
  | .int i => if i.natAbs.log2 < 1920 then some (.str (toString i)) else none
  | .str x => some (.str x)
  | _ => none
theorem call_strU {X : Cx} : CallR X (.type "str") (fun xs H Q => (∃ i, xs = [V.int i] ∧ i.natAbs.log2 < 1920 ∧ Q (.str (toString i)) H) ∨ ∃ a, xs = [V.str a] ∧ Q (.str a) H) := by
  intro pins s σ H xs us Q I r h
  rcases h with h | ⟨a, rfl, q⟩
  · exact call_str_int pins s σ H xs us Q I r h
  · obtain ⟨u, rfl, t, rfl⟩ := vals1 r
    exact PySem.P.str_of_str ⟨.str a, H, I, ⟨t, rfl⟩, q⟩
theorem c1_str {K : PySem.W.Frag} {mg : Str → Option Value} {W : WX} {pin : List Nat} : C1 K mg W pin (fun xs H Q => (∃ i, xs = [V.int i] ∧ i.natAbs.log2 < 1920 ∧ Q (.str (toString i)) H) ∨ ∃ a, xs = [V.str a] ∧ Q (.str a) H) (gRd strD) := c1_rd fun v d e H Q r k f q => by
  cases r with
  | int i =>
    have k : (if i.natAbs.log2 < 1920 then some (PyData.str (toString i)) else none) = some e := k
    by_cases c : i.natAbs.log2 < 1920
    · rw [if_pos c] at k
      cases k
      exact .inl ⟨i, rfl, c, q⟩
    · rw [if_neg c] at k
      cases k
  | str x =>
    cases k
    exact .inr ⟨x, rfl, q⟩
  | _ => cases k

/-! ### l.index(x) -/
def gIdx (x y : AV) (δ : List Sl) : Rs AV := match rdC δ x, rdC δ y with
  | some (.list ds), some d => if SeqAt.shaped (.list ds) = true ∧ SeqAt.shaped d = true then (match ds.findIdx? (fun z => PyData.eqv z d) with
    | some j => .ok (.val (.int (j : Nat))) δ
    | none => .bad) else .bad
  | _, _ => .bad
section
variable {X : Cx} {W : WX} {pin : List Nat} {fo fa : List Sl → Rs AV} {o e : Expr} {apos cpos : Pos}
def sIdx (fo fa : List Sl → Rs AV) : List Sl → Rs AV := fun δ => (sSt fo δ).bind fun x δ1 => if isLst δ1 x = true then (sSt fa δ1).bind fun y δ2 => gIdx x y δ2 else .bad
theorem se_index (hu : X.A.units + 65 < cLine) (ho : SE X W pin o fo) (ha : SE X W pin e fa) (hbase : attributeBase o "index" X.env (eval o X.env) = eval o X.env := by rfl) (hline : (apos.endLine == cpos.line) = true := by rfl)
    (hs : starEach [e] X.env = (false, eval e X.env) :: starEach [] X.env := by rfl) (hfew : ((backTo cpos (starEach [e] X.env)).all (fun x => !x.1) && (backToKw cpos (keywordEach [] X.env)).all (fun x => x.1.isSome)
      && decide ([e].length + ([] : List Keyword).length + (if ([] : List Keyword).isEmpty then 0 else 1) < 30)) = true := by rfl) :
    SE X W pin (.Call (.Attribute o "index" apos) [e] [] cpos) (sIdx fo fa) :=
  pe_mono (pe_bm PySem.F.plainAttrs_list PySem.F.slot_list_index PySem.F.type_list_index (mt_indexD hu) (se_st ho) (pa_cons (se_st ha) pa_nil hs) hbase hfew hline hs rfl) fun σ H Q ⟨b, Fz, F, δ, hp, R, P⟩ => by
    refine rd_bind hp R P fun v H1 Fz1 F1 x δ1 s1 R1 A1 P1 => ?_
    by_cases c : isLst δ1 x = true
    · rw [if_pos c] at P1
      refine ⟨isLst_ty R1 A1 c, ?_⟩
      refine rd_bind hp R1 P1 fun w H2 Fz2 F2 y δ2 s2 R2 A2 P2 => ?_
      have A1 := A1.le s2
      unfold gIdx at P2
      cases q : rdC δ2 x with
      | none => simp only [q] at P2; exact P2.elim
      | some d =>
        cases q2 : rdC δ2 y with
        | none => cases d <;> (simp only [q, q2] at P2; exact P2.elim)
        | some z =>
          cases d with
          | list ds =>
            simp only [q, q2] at P2
            by_cases c2 : SeqAt.shaped (.list ds) = true ∧ SeqAt.shaped z = true
            · rw [if_pos c2] at P2
              cases q3 : ds.findIdx? (fun u => PyData.eqv u z) with
              | none => simp only [q3] at P2; exact P2.elim
              | some j =>
                simp only [q3] at P2
                have r1 := (rdC_ok R2 A1 q).rp R2.le
                have r2 := (rdC_ok R2 A2 q2).rp R2.le
                obtain ⟨hj, hz, hn⟩ := List.findIdx?_eq_some_iff_getElem.mp q3
                cases r1 with
                | lst h1 h2 =>
                  exact ⟨_, w, z, ds, j, ds[j], rfl, rfl, rp_dp (.lst h1 h2) c2.1, rp_dp r2 c2.2, c2.1, c2.2, List.getElem?_eq_getElem hj, hz, fun m z' hm e => by
                    obtain ⟨hm2, e2⟩ := List.getElem?_eq_some_iff.mp e
                    subst e2
                    simpa using hn m hm, P2 _ H2 Fz2 F2 (Same.refl _) R2 (.int _)⟩
            · rw [if_neg c2] at P2; exact P2.elim
          | _ => cases z <;> (simp only [q, q2] at P2; exact P2.elim)
    · rw [if_neg c] at P1
      exact P1.elim
end

/-! ### a, b = x, y -/
def noIo : List Ar → Bool
  | [] => true
  | .io _ :: _ => false
  | .fz _ :: r => noIo r
  | .own _ :: r => noIo r
def asgA : List Nat → List Ar → List Sl → Ot
  | [], [], δ => .nx δ
  | k :: ks, .fz d :: r, δ => asgA ks r (upS k (.fz d) δ)
  | k :: ks, .own s :: r, δ => asgA ks r (upS k s δ)
  | _, _, _ => .bad
def oPar (ks : List Nat) (g : List Sl → Rs (List Ar)) : List Sl → Ot := fun δ => match g δ with
  | .ok ars δ' => if noIo ars = true then asgA ks ars δ' else .bad
  | .er x δ' => .er x δ'
  | .bad => .bad
def setL (σ : L2.St) : List Nat → List V → L2.St
  | k :: ks, v :: vs => setL (σ.set k (some v)) ks vs
  | _, _ => σ
def ParH (K : PySem.W.Frag) (Fz H : Hp) (g : List Addr) (v : V) : Ar → Prop
  | .fz d => g = [] ∧ Rp K Fz v d
  | .own s => s.tree.isSome = true ∧ SlH K Fz H [] g (some v) s
  | .io _ => False
def ParOk (K : PySem.W.Frag) (b : Bk) (Fz H : Hp) : (Addr → Prop) → List V → List Ar → Prop
  | _, [], [] => True
  | U, v :: vs, a :: r => ∃ g : List Addr, ParH K Fz H g v a ∧ g.Nodup ∧ (∀ c ∈ g, Fz c = none ∧ b.B c = none ∧ H c ≠ none ∧ ¬U c) ∧ ParOk K b Fz H (fun c => U c ∨ c ∈ g) vs r
  | _, _, _ => False
theorem parOk_of {K : PySem.W.Frag} {b : Bk} {Fz H : Hp} {σ : L2.St} : ∀ {ars : List Ar} {vs : List V} {G : Nat → List Addr} {U : Addr → Prop}, vs.length = ars.length → (∀ (j : Nat) (a : Ar), ars[j]? = some a → ∃ v, vs[j]? = some v ∧ ArH K Fz H σ (G j) v a) → (∀ j, (G j).Nodup) →
    (∀ i j a, a ∈ G i → a ∈ G j → i = j) → (∀ j c, c ∈ G j → Fz c = none ∧ b.B c = none ∧ H c ≠ none ∧ ¬U c) → noIo ars = true → ParOk K b Fz H U vs ars
  | [], [], _, _, _, _, _, _, _, _ => trivial
  | [], v :: vs, _, _, h, _, _, _, _, _ => by cases h
  | a :: r, [], _, _, h, _, _, _, _, _ => by cases h
  | a :: r, v :: vs, G, U, h, hA, nd, dj, off, io => by
    obtain ⟨w, e1, e2⟩ := hA 0 a rfl
    cases e1
    refine ⟨G 0, ?_, nd 0, off 0, parOk_of (σ := σ) (G := fun j => G (j + 1)) (by simpa using h) (fun j c e => ?_) (fun j => nd _) (fun i j c h1 h2 => by have := dj _ _ c h1 h2; omega) (fun j c hc => ?_) ?_⟩
    · cases a with
      | fz d => exact e2
      | own s => exact e2
      | io k => cases io
    · obtain ⟨w, e3, e4⟩ := hA (j + 1) c (by simpa using e)
      exact ⟨w, by simpa using e3, e4⟩
    · obtain ⟨h1, h2, h3, h4⟩ := off (j + 1) c hc
      exact ⟨h1, h2, h3, fun z => z.elim h4 fun z => by have := dj _ _ c hc z; omega⟩
    · cases a with
      | fz d => exact io
      | own s => exact io
      | io k => cases io
theorem asgA_ok {K : PySem.W.Frag} {mg : Str → Option Value} {W : WX} {b : Bk} {Fz H : Hp} {D : Ends} : ∀ {ks : List Nat} {ars : List Ar} {vs : List V} {F : Nat → List Addr} {δ : List Sl} {σ : L2.St} {U : Addr → Prop}, (∀ k ∈ ks, k ∉ b.pin) → (∀ k c, c ∈ F k → U c) → Rl K b Fz F δ σ H → ParOk K b Fz H U vs ars →
    PostS K mg W b Fz D (asgA ks ars δ) → vs.length = ks.length ∧ D.nx (setL σ ks vs) H
  | [], [], [], F, δ, σ, U, _, _, R, A, P => ⟨rfl, P σ H Fz F (Same.refl _) R⟩
  | _, [], v :: vs, _, _, _, _, _, _, _, A, _ => A.elim
  | _, a :: r, [], _, _, _, _, _, _, _, A, _ => A.elim
  | [], .fz d :: r, _, _, _, _, _, _, _, _, _, P => P.elim
  | [], .own d :: r, _, _, _, _, _, _, _, _, _, P => P.elim
  | k :: ks, [], _, _, _, _, _, _, _, _, _, P => P.elim
  | _, .io m :: r, v :: vs, _, _, _, _, _, _, _, A, _ => by
    obtain ⟨_, z, _⟩ := A
    exact z.elim
  | k :: ks, .fz d :: r, v :: vs, F, δ, σ, U, hp, hU, R, A, P => by
    obtain ⟨g, ⟨h0, h1⟩, h2, h3, h4⟩ := A
    subst h0
    have R1 := R.name (s := .fz d) (v := v) (hp k List.mem_cons_self) rfl (g := []) ⟨rfl, v, rfl, h1⟩ List.nodup_nil fun _ z => nomatch z
    have hU2 : ∀ m c, c ∈ (fun m => if m = k then [] else F m) m → U c ∨ c ∈ ([] : List Addr) := fun m c hc => by
      have hc : c ∈ (if m = k then [] else F m) := hc
      by_cases e : m = k
      · rw [if_pos e] at hc; cases hc
      · rw [if_neg e] at hc; exact .inl (hU m c hc)
    obtain ⟨q1, q2⟩ := asgA_ok (fun m hm => hp m (List.mem_cons_of_mem _ hm)) hU2 R1 h4 P
    exact ⟨by simp [q1], q2⟩
  | k :: ks, .own s :: r, v :: vs, F, δ, σ, U, hp, hU, R, A, P => by
    obtain ⟨g, ⟨h0, h1⟩, h2, h3, h4⟩ := A
    have R1 := R.name (s := s) (v := v) (hp k List.mem_cons_self) h0 (g := g) h1 h2 fun c hc => ⟨(h3 c hc).1, (h3 c hc).2.1, (h3 c hc).2.2.1, fun m z => (h3 c hc).2.2.2 (hU m c z)⟩
    have hU2 : ∀ m c, c ∈ (fun m => if m = k then g else F m) m → U c ∨ c ∈ g := fun m c hc => by
      have hc : c ∈ (if m = k then g else F m) := hc
      by_cases e : m = k
      · rw [if_pos e] at hc; exact .inr hc
      · rw [if_neg e] at hc; exact .inl (hU m c hc)
    obtain ⟨q1, q2⟩ := asgA_ok (fun m hm => hp m (List.mem_cons_of_mem _ hm)) hU2 R1 h4 P
    exact ⟨by simp [q1], q2⟩
theorem par_ok {K : PySem.W.Frag} {mg : Str → Option Value} {W : WX} {pin ks : List Nat} {g : List Sl → Rs (List Ar)} {D : Ends} {σ : L2.St} {H : Hp} (hp : ∀ k ∈ ks, k ∉ pin) : rdS K mg W pin (oPar ks g) D σ H → rdAr K mg W pin g σ H fun vs H' => vs.length = ks.length ∧ D.nx (setL σ ks vs) H' :=
  fun ⟨b, Fz, F, δ, hb, R, P⟩ => by
    refine ⟨b, Fz, F, δ, hb, R, ?_⟩
    unfold oPar at P
    cases q : g δ with
    | bad => rw [q] at P; exact P
    | er x δ' => rw [q] at P; exact PostXS.at_ P
    | ok ars δ' =>
      rw [q] at P
      simp only at P
      by_cases c : noIo ars = true
      · rw [if_pos c] at P
        intro vs H' Fz' F' G s R' A
        exact asgA_ok (U := fun c => ∃ k, c ∈ F' k) (by rw [hb]; exact hp) (fun k c hc => ⟨k, hc⟩) R' (parOk_of A.len A.at_ A.nd A.dj (fun j c hc => ⟨(A.off j c hc).1, (A.off j c hc).2.1, (A.off j c hc).2.2.1, fun ⟨k, z⟩ => (A.off j c hc).2.2.2 k z⟩) c) (PostS.le s P)
      · rw [if_neg c] at P
        exact P.elim
section
variable {X : Cx} {W : WX} {pin : List Nat} {a c e : Expr} {g : List Sl → Rs (List Ar)} {pos : Pos}
theorem ss_par2 {i j : Nat} {x y : Str} {px py pt : Pos} {kt k2 pt2} (hc : X.calm = true) (hN : X.N.Nodup) (hi : X.N[i]? = some x) (hj : X.N[j]? = some y) (hij : i ≠ j) (hp : ∀ k ∈ [i, j], k ∉ pin)
    (hx : X.env.scope.names.lookup x = some .local) (hy : X.env.scope.names.lookup y = some .local) (ha : SAr X W pin [a, c] g)
    (hw : swappedStores [.Tuple [.Name x px, .Name y py] kt pt] (.Tuple [a, c] k2 pt2) X.env = pure (some [x, y]) := by rfl)
    (hs : swapsWithSole [.Tuple [.Name x px, .Name y py] kt pt] (.Tuple [a, c] k2 pt2) pos.line X.env = pure false := by rfl) :
    SS X W pin (.Assign [.Tuple [.Name x px, .Name y py] kt pt] (.Tuple [a, c] k2 pt2) pos) (oPar [i, j] g) := ps_mono (ps_par hc hN hi hj hij hx hy ha hw hs) fun D σ H h => by
  obtain ⟨b, Fz, F, δ, hb, R, P⟩ := par_ok hp h
  refine ⟨b, Fz, F, δ, hb, R, ?_⟩
  cases q : g δ with
  | bad => rw [q] at P; exact P
  | er x δ' => rw [q] at P; exact P
  | ok ars δ' =>
    rw [q] at P
    intro vs H' Fz' F' G s R' A
    obtain ⟨hl, q⟩ := P vs H' Fz' F' G s R' A
    match vs, hl with
    | [v, w], _ => exact ⟨v, w, rfl, q⟩
theorem ss_par3 {i j l : Nat} {x y z : Str} {px py pz pt : Pos} {kt k2 pt2} (hc : X.calm = true) (hN : X.N.Nodup) (hi : X.N[i]? = some x) (hj : X.N[j]? = some y) (hl : X.N[l]? = some z) (hij : i ≠ j) (hil : i ≠ l) (hjl : j ≠ l) (hp : ∀ k ∈ [i, j, l], k ∉ pin)
    (hx : X.env.scope.names.lookup x = some .local) (hy : X.env.scope.names.lookup y = some .local) (hz : X.env.scope.names.lookup z = some .local) (ha : SAr X W pin [a, c, e] g)
    (hw : swappedStores [.Tuple [.Name x px, .Name y py, .Name z pz] kt pt] (.Tuple [a, c, e] k2 pt2) X.env = pure (some [x, y, z]) := by rfl)
    (hs : swapsWithSole [.Tuple [.Name x px, .Name y py, .Name z pz] kt pt] (.Tuple [a, c, e] k2 pt2) pos.line X.env = pure false := by rfl) :
    SS X W pin (.Assign [.Tuple [.Name x px, .Name y py, .Name z pz] kt pt] (.Tuple [a, c, e] k2 pt2) pos) (oPar [i, j, l] g) := ps_mono (L2.ps_par3 hc hN hi hj hl hij hil hjl hx hy hz ha hw hs) fun D σ H h => by
  obtain ⟨b, Fz, F, δ, hb, R, P⟩ := par_ok hp h
  refine ⟨b, Fz, F, δ, hb, R, ?_⟩
  cases q : g δ with
  | bad => rw [q] at P; exact P
  | er x δ' => rw [q] at P; exact P
  | ok ars δ' =>
    rw [q] at P
    intro vs H' Fz' F' G s R' A
    obtain ⟨hl, q⟩ := P vs H' Fz' F' G s R' A
    match vs, hl with
    | [u, v, w], _ => exact ⟨u, v, w, rfl, q⟩
end
end Hb

/-! part Hb14 -/
namespace Hb
open PySem PySem.Spec PyProof.Rows L2

/-! ### a def of the module, with so many values given -/
structure Dfn (P : Program) (w : World) (K : PySem.W.Frag) (mg : Str → Option Value) (base : Heap) (k : Nat) (x : Str) (n : Nat) (F : List Sl → FR) (m : Nat) (dd : List PyData) : Prop where
  ex : ∃ (f : Addr) (fd : FuncData) (ps : List Str) (ds : List Value), mg x = some (.ref f) ∧ PySem.W.keepIn K (.ref f) = true ∧ FnG P w K mg base k f fd ps (spF K mg n F) ∧ Binds K fd ps ds ∧ Vals (dd.map dV) ds ∧ m + dd.length = n ∧ dd.all flatD = true
theorem Dfn.mono {P : Program} {w : World} {K : PySem.W.Frag} {mg : Str → Option Value} {base : Heap} {k j : Nat} {x : Str} {n : Nat} {F : List Sl → FR} {m : Nat} {dd : List PyData} (D : Dfn P w K mg base k x n F m dd) (h : k ≤ j) : Dfn P w K mg base j x n F m dd := by
  obtain ⟨f, fd, ps, ds, h1, h2, h3, h4⟩ := D.ex
  exact ⟨f, fd, ps, ds, h1, h2, h3.mono h, h4⟩
section
variable {X : Cx} {k : Nat} {W : WX} {pin : List Nat} {x : Str} {p pos : Pos} {e : Expr} {es : List Expr} {n m : Nat} {F : List Sl → FR} {g : List Sl → Rs (List Ar)} {dd : List PyData}
theorem se_callD (D : Dfn X.prog X.w X.K X.mg X.base k x n F m dd) (hr : Room k X.A) (hgd : X.A.guards = some []) (hx : ∀ σ, PassesAt (L2.CX X.prog X.w) X σ (WE W σ)) (hg : Gl X x)
    (ha : SAr X W pin (e :: es) g) (hlen : ∀ δ ars δ', g δ = .ok ars δ' → ars.length = m)
    (hdb : (x == ("__debug__" : Str)) = false := by decide) (he : starEach (e :: es) X.env = (false, eval e X.env) :: starEach es X.env := by rfl) (hpl : (backTo pos (starEach es X.env)).any (·.1) = false := by rfl) :
    SE X W pin (.Call (.Name x p) (e :: es) [] pos) (sCall F dd g) := by
  obtain ⟨f, fd, ps, ds, hm, hk, G, hb, hd, hn, hf⟩ := D.ex
  exact se_call G hr hgd hx hg hm hk hb hd hf ha (fun δ ars δ' q => by rw [hlen δ ars δ' q]; exact hn) hdb he hpl
theorem se_callD0 (D : Dfn X.prog X.w X.K X.mg X.base k x n F 0 dd) (hr : Room k X.A) (hgd : X.A.guards = some []) (hx : ∀ σ, PassesAt (L2.CX X.prog X.w) X σ (WE W σ)) (hg : Gl X x) (hdb : (x == ("__debug__" : Str)) = false := by decide) :
    SE X W pin (.Call (.Name x p) [] [] pos) (sCall F dd rNil) := by
  obtain ⟨f, fd, ps, ds, hm, hk, G, hb, hd, hn, hf⟩ := D.ex
  exact se_call0 G hr hgd hx hg hm hk hb hd hf (by omega) hdb
end
def dvD : He.Dv → PyData
  | .non => .none
  | .bl b => .bool b
  | .int i => .int i
  | .str x => .str x
  | _ => .none
section
variable {P : Program} {w : World} {K : PySem.W.Frag} {mg : Str → Option Value} {base : Heap} {name qual : Str} {params : Arguments} {body : List Stmt} {scope : Scope} {dvs : List V} {kws : List (Str × V)} {f : Addr} {fd : FuncData} {N ps : List Str} {n k : Nat} {pin : List Nat} {fb : List Sl → Ot}
theorem fnG_D (FD : FunD K name qual params body scope dvs kws f fd) (S : FnScope N ps scope) (hn : ps.length = n)
    (hbody : ∀ (cdv : Value) (A : Around) (outer : List Env) (s : Shared) (H : Hp) (E : XK), Room k (A.deeper (envOfC qual scope s.heap.objs.size f cdv)) → A.guards = some [] →
      SSs (GX P w K mg base N qual scope f cdv A outer s H E) (GW E) pin body fb) : FnG P w K mg base (k + 1) f fd ps (spF K mg n (fnRun n N.length pin fb)) := by
  obtain ⟨oc, od, dV, kV, doc, pm, an, cdv, ct, osl, rfl, lk, hcd, _, _⟩ := FD.ex
  exact fnG_of lk hcd S hn (hbody cdv)
end
end Hb

/-! part Hb15 -/
namespace Hb
open PySem PySem.Spec PyProof.Rows L2

/-! ### xs == [], whatever xs holds -/
def rEqE (K : PySem.W.Frag) (n : Bool) : R2 := fun x y H Q => ∃ a b xs, x = V.ref a ∧ y = V.ref b ∧ SqX K H a xs ∧ SqX K H b [] ∧ Q (.bl (n != xs.isEmpty)) H
section
variable {X : Cx}
theorem isList_of {h : Heap} {a : Addr} {its : List Value} {n : Nat} (e : h.get? a = some { cls := .type "list", data := .seq its.toArray n }) : h.IsList a its.toArray := ⟨_, e, rfl, n, rfl⟩
theorem op_eqE (hu : X.A.units + 64 < cLine) : OpR X (compareOp .Eq) (rEqE X.K false) := by
  intro pins s σ H x y v u Q I rx ry h
  obtain ⟨a, b, xs, rfl, rfl, h1, h2, q⟩ := h
  cases rx
  cases ry
  obtain ⟨i1, n1, r1, g1, _⟩ := inv_lstX I h1
  obtain ⟨i2, n2, r2, g2, _⟩ := inv_lstX I h2
  cases r2
  have hu0 : X.A.units < cLine := by omega
  cases r1 with
  | nil =>
    exact SeqAt.eq_listAt (e := fun _ => true) (isList_of g1) (isList_of g2) rfl hu0 (fun j h => nomatch h) ⟨.bl _, H, I, rfl, q⟩
  | cons r0 rt => exact SeqAt.eq_list_lengthsAt (isList_of g1) (isList_of g2) (by simp) hu0 ⟨.bl _, H, I, rfl, q⟩
theorem op_neE (hu : X.A.units + 64 < cLine) : OpR X (compareOp .NotEq) (rEqE X.K true) := by
  intro pins s σ H x y v u Q I rx ry h
  obtain ⟨a, b, xs, rfl, rfl, h1, h2, q⟩ := h
  cases rx
  cases ry
  obtain ⟨i1, n1, r1, g1, _⟩ := inv_lstX I h1
  obtain ⟨i2, n2, r2, g2, _⟩ := inv_lstX I h2
  cases r2
  have hu0 : X.A.units < cLine := by omega
  cases r1 with
  | nil => exact SeqAt.RcNeAt.lists (e := fun _ => true) (isList_of g1) (isList_of g2) rfl hu0 (fun j h => nomatch h) X.prog X.w _ _ ⟨.bl _, H, I, rfl, q⟩
  | cons r0 rt => exact SeqAt.RcNeAt.lists_lengths (isList_of g1) (isList_of g2) (by simp) hu0 X.prog X.w _ _ ⟨.bl _, H, I, rfl, q⟩
end
def gEqE (n : Bool) (x y : AV) (δ : List Sl) : Rs AV := match rdA δ x, rdA δ y with
  | some (.list ds), some (.list []) => .ok (.val (.bool (n != ds.isEmpty))) δ
  | _, _ => .bad
section
variable {K : PySem.W.Frag} {mg : Str → Option Value} {W : WX} {pin : List Nat}
theorem v2_eqE {n : Bool} : V2 K mg W pin (rEqE K n) (gEqE n) := by
  intro b Fz F δ σ H v w x y Q hp R A B P
  unfold gEqE at P
  cases q1 : rdA δ x with
  | none => simp only [q1] at P; exact P.elim
  | some d =>
    cases q2 : rdA δ y with
    | none => cases d <;> (simp only [q1, q2] at P; exact P.elim)
    | some e =>
      cases d with
      | list ds =>
        cases e with
        | list es =>
          cases es with
          | cons e0 er => simp only [q1, q2] at P; exact P.elim
          | nil =>
            simp only [q1, q2] at P
            have r1 := rdA_ok R A q1
            have r2 := rdA_ok R B q2
            cases r1 with
            | lst s1 l1 =>
              cases r2 with
              | lst s2 l2 =>
                cases l2
                refine ⟨_, _, _, rfl, rfl, s1, s2, ?_⟩
                have := P _ H Fz F (Same.refl _) R (.bl _)
                cases l1 with
                | nil => exact this
                | cons _ _ => exact this
        | _ => simp only [q1, q2] at P; exact P.elim
      | _ => cases e <;> (simp only [q1, q2] at P; exact P.elim)
end
section
variable {X : Cx} {W : WX} {pin : List Nat} {fa fb : List Sl → Rs AV} {a c : Expr} {pos : Pos}
theorem se_eqE (hu : X.A.units + 64 < cLine) (ha : SE X W pin a fa) (hb : SE X W pin c fb) : SE X W pin (.Compare a [.Eq] [c] pos) (s2 (gEqE false) fa fb) := se_cmp (op_eqE hu) v2_eqE ha hb (nomark _)
theorem se_neE (hu : X.A.units + 64 < cLine) (ha : SE X W pin a fa) (hb : SE X W pin c fb) : SE X W pin (.Compare a [.NotEq] [c] pos) (s2 (gEqE true) fa fb) := se_cmp (op_neE hu) v2_eqE ha hb (nomark _)
theorem st_eqE (hu : X.A.units + 64 < cLine) (ha : SE X W pin a fa) (hb : SE X W pin c fb) : ST X W pin (.Compare a [.Eq] [c] pos) (sTst (s2 (gEqE false) fa fb)) := st_cmp (op_eqE hu) v2_eqE ha hb (nomark _)
theorem st_neE (hu : X.A.units + 64 < cLine) (ha : SE X W pin a fa) (hb : SE X W pin c fb) : ST X W pin (.Compare a [.NotEq] [c] pos) (sTst (s2 (gEqE true) fa fb)) := st_cmp (op_neE hu) v2_eqE ha hb (nomark _)
end

/-! ### == of texts -/
def rEqS (n : Bool) : R2 := fun x y H Q => ∃ i j : Str, x = V.str i ∧ y = V.str j ∧ Q (.bl (n != (i.cps.toList == j.cps.toList))) H
section
variable {X : Cx}
theorem op_eqS : OpR X (compareOp .Eq) (rEqS false) := by
  intro pins s σ H x y v u Q I rx ry h
  obtain ⟨i, j, rfl, rfl, q⟩ := h
  obtain ⟨t, rfl⟩ := rx
  obtain ⟨t', rfl⟩ := ry
  exact PySem.P.eq_str ⟨.bl _, H, I, rfl, by simpa using q⟩
theorem op_neS : OpR X (compareOp .NotEq) (rEqS true) := by
  intro pins s σ H x y v u Q I rx ry h
  obtain ⟨i, j, rfl, rfl, q⟩ := h
  obtain ⟨t, rfl⟩ := rx
  obtain ⟨t', rfl⟩ := ry
  exact PySem.P.ne_str ⟨.bl _, H, I, rfl, by simpa [bne] using q⟩
end
def gEqS (n : Bool) (x y : AV) (δ : List Sl) : Rs AV := match rdC δ x, rdC δ y with
  | some (.str i), some (.str j) => .ok (.val (.bool (n != (i.cps.toList == j.cps.toList)))) δ
  | _, _ => .bad
section
variable {K : PySem.W.Frag} {mg : Str → Option Value} {W : WX} {pin : List Nat}
theorem v2_eqS {n : Bool} : V2 K mg W pin (rEqS n) (gEqS n) := by
  intro b Fz F δ σ H v w x y Q hp R A B P
  unfold gEqS at P
  cases q1 : rdC δ x with
  | none => simp only [q1] at P; exact P.elim
  | some d =>
    cases q2 : rdC δ y with
    | none => cases d <;> (simp only [q1, q2] at P; exact P.elim)
    | some e =>
      cases d with
      | str i =>
        cases e with
        | str j =>
          simp only [q1, q2] at P
          exact ⟨i, j, rpc_str (rdC_ok R A q1), rpc_str (rdC_ok R B q2), P _ H Fz F (Same.refl _) R (.bl _)⟩
        | _ => simp only [q1, q2] at P; exact P.elim
      | _ => cases e <;> (simp only [q1, q2] at P; exact P.elim)
end
section
variable {X : Cx} {W : WX} {pin : List Nat} {fa fb : List Sl → Rs AV} {a c : Expr} {pos : Pos}
theorem se_eqS (ha : SE X W pin a fa) (hb : SE X W pin c fb) : SE X W pin (.Compare a [.Eq] [c] pos) (s2 (gEqS false) fa fb) := se_cmp op_eqS v2_eqS ha hb (nomark _)
theorem se_neS (ha : SE X W pin a fa) (hb : SE X W pin c fb) : SE X W pin (.Compare a [.NotEq] [c] pos) (s2 (gEqS true) fa fb) := se_cmp op_neS v2_eqS ha hb (nomark _)
theorem st_eqS (ha : SE X W pin a fa) (hb : SE X W pin c fb) : ST X W pin (.Compare a [.Eq] [c] pos) (sTst (s2 (gEqS false) fa fb)) := st_cmp op_eqS v2_eqS ha hb (nomark _)
theorem st_neS (ha : SE X W pin a fa) (hb : SE X W pin c fb) : ST X W pin (.Compare a [.NotEq] [c] pos) (sTst (s2 (gEqS true) fa fb)) := st_cmp op_neS v2_eqS ha hb (nomark _)
end
end Hb

/-! part M0 -/
namespace Hb
open PySem L2
abbrev fi (i : Int) : El := .fz (.int i)
section
variable {f fa fb fo : List Sl → Rs AV} {δ δ1 δ2 : List Sl} {a x y : AV} {d e : PyData} {u w : List Sl → Ot} {t : List Sl → Rs Bool}
@[simp] theorem e_sC : sC d δ = .ok (.val d) δ := rfl
@[simp] theorem e_val : sSt (fun δ => .ok (.val d) δ) δ = .ok (.val d) δ := rfl
@[simp] theorem e_bind {α β : Type} {v : α} {k : α → List Sl → Rs β} : (Rs.ok v δ).bind k = k v δ := rfl
@[simp] theorem e_bindb {α β : Type} {k : α → List Sl → Rs β} : (Rs.bad : Rs α).bind k = .bad := rfl
@[simp] theorem e_ot {α : Type} {v : α} {k : α → List Sl → Ot} : (Rs.ok v δ).ot k = k v δ := rfl
@[simp] theorem e_otU {v : Unit} : (Rs.ok v δ).otU = .nx δ := rfl
@[simp] theorem e_oNext : oNext δ = .nx δ := rfl
@[simp] theorem e_rdAv : rdA δ (.val d) = some d := rfl
@[simp] theorem e_rdCv : rdC δ (.val d) = some d := rfl
@[simp] theorem e_allFz (ds : List PyData) : allFz (ds.map El.fz) = some ds := by
  induction ds with
  | nil => rfl
  | cons d r ih => simp [allFz, ih]
theorem e_s2 (g : AV → AV → List Sl → Rs AV) (h1 : sSt fa δ = .ok x δ1) (h2 : sSt fb δ1 = .ok y δ2) : s2 g fa fb δ = g x y δ2 := by
  unfold s2
  rw [h1, e_bind, h2, e_bind]
theorem e_s1 (g : AV → List Sl → Rs AV) (h1 : sSt fa δ = .ok x δ1) : s1 g fa δ = g x δ1 := by
  unfold s1
  rw [h1, e_bind]
theorem e_oSeq (h : u δ = .nx δ1) : oSeq u w δ = w δ1 := by
  unfold oSeq
  rw [h]
theorem e_oSeqR {s : Sl} (h : u δ = .rt s δ1) : oSeq u w δ = .rt s δ1 := by
  unfold oSeq
  rw [h]
theorem e_oIf {k : Bool} (h : t δ = .ok k δ1) : oIf t u w δ = if k = true then u δ1 else w δ1 := by
  unfold oIf
  rw [h, e_ot]
end
/-! ### comprehensions, loops -/
/-- nothing changes but the block's own names -/
theorem lc_pure {vs : List Nat} {t : AV → List Sl → Rs Unit} {tt : List Sl → Rs Bool} {f : List Sl → Rs AV} {δ : List Sl} (p : PyData → Bool) (g : PyData → PyData) (hw : okW vs δ = true) : ∀ {ds : List PyData} {es : List El}, es.length + ds.length ≤ cap →
    (∀ d ∈ ds, ∃ δ1 δ2, t (.val d) (wipeD vs δ) = .ok () δ1 ∧ tt δ1 = .ok (p d) δ2 ∧ (p d = false → unw vs δ δ2 = δ) ∧ (p d = true → ∃ δ3, f δ2 = .ok (.val (g d)) δ3 ∧ unw vs δ δ3 = δ)) →
    lcL false vs t tt f ds es δ = .ok (es ++ (((ds.filter p).map g).map El.fz)) δ
  | [], es, _, _ => by simp [lcL]
  | d :: r, es, hl, h => by
    obtain ⟨δ1, δ2, h1, h2, h3, h4⟩ := h d List.mem_cons_self
    simp only [List.length_cons] at hl
    have hr : ∀ x ∈ r, _ := fun x hx => h x (List.mem_cons_of_mem _ hx)
    unfold lcL
    rw [if_pos hw, h1]
    simp only [h2]
    cases q : p d with
    | false =>
      rw [if_neg (by simp), h3 q, lc_pure p g hw (by omega) hr]
      simp [q]
    | true =>
      obtain ⟨δ3, h5, h6⟩ := h4 q
      simp only [if_true, h5, elOf]
      rw [if_pos (by show es.length ≤ cap; omega), h6, lc_pure p g hw (by simp; omega) hr]
      simp [q]
/-- with an invariant: each turn makes an item -/
theorem lc_inv {vs : List Nat} {t : AV → List Sl → Rs Unit} {tt : List Sl → Rs Bool} {f : List Sl → Rs AV} (I : List Sl → Prop) (G : PyData → Prop) (hw : ∀ δ, I δ → okW vs δ = true) : ∀ {ds : List PyData} {es : List El} {δ : List Sl}, es.length + ds.length ≤ cap → I δ →
    (∀ d ∈ ds, ∀ δ, I δ → ∃ δ1 δ2 y δ3, t (.val d) (wipeD vs δ) = .ok () δ1 ∧ tt δ1 = .ok true δ2 ∧ f δ2 = .ok (.val y) δ3 ∧ I (unw vs δ δ3) ∧ G y) →
    ∃ (ys : List PyData) (δ' : List Sl), lcL false vs t tt f ds es δ = .ok (es ++ ys.map El.fz) δ' ∧ I δ' ∧ ys.length = ds.length ∧ ∀ y ∈ ys, G y
  | [], es, δ, _, hI, _ => ⟨[], δ, by simp [lcL], hI, rfl, fun _ z => nomatch z⟩
  | d :: r, es, δ, hl, hI, h => by
    obtain ⟨δ1, δ2, y, δ3, h1, h2, h3, h4, h5⟩ := h d List.mem_cons_self δ hI
    simp only [List.length_cons] at hl
    obtain ⟨ys, δ', q1, q2, q3, q4⟩ := lc_inv I G hw (ds := r) (es := es ++ [.fz y]) (by simp; omega) h4 fun x hx => h x (List.mem_cons_of_mem _ hx)
    refine ⟨y :: ys, δ', ?_, q2, by simp [q3], fun z hz => ?_⟩
    · unfold lcL
      rw [if_pos (hw δ hI), h1]
      simp only [h2, if_true, h3, elOf]
      rw [if_pos (by show es.length ≤ cap; omega), q1]
      simp
    · rcases List.mem_cons.mp hz with e | e
      · rw [e]; exact h5
      · exact q4 z e
theorem for_inv {t : AV → List Sl → Rs Unit} {f : List Sl → Ot} (I : Nat → List Sl → Prop) : ∀ {ds : List PyData} {k : Nat} {δ : List Sl}, I k δ →
    (∀ j d δ, ds[j]? = some d → I (k + j) δ → ∃ δ1 δ2, t (.val d) δ = .ok () δ1 ∧ f δ1 = .nx δ2 ∧ I (k + j + 1) δ2) → ∃ δ', forL t f ds δ = .nx δ' ∧ I (k + ds.length) δ'
  | [], k, δ, hI, _ => ⟨δ, rfl, hI⟩
  | d :: r, k, δ, hI, h => by
    obtain ⟨δ1, δ2, h1, h2, h3⟩ := h 0 d δ rfl hI
    obtain ⟨δ', q1, q2⟩ := for_inv I (ds := r) (k := k + 1) (δ := δ2) h3 fun j x δ e hj => by
      have := h (j + 1) x δ (by simpa using e) (by rwa [show k + (j + 1) = k + 1 + j by omega])
      rwa [show k + (j + 1) + 1 = k + 1 + j + 1 by omega] at this
    refine ⟨δ', ?_, by rwa [show k + (d :: r).length = k + 1 + r.length by simp; omega]⟩
    unfold forL
    rw [h1]
    simp only [h2]
    exact q1
theorem eqvAll_ints : ∀ ns ms : List Int, PyData.eqvAll (ns.map .int) (ms.map .int) = decide (ns = ms)
  | [], [] => by simp [PyData.eqvAll]
  | [], m :: ms => by simp [PyData.eqvAll]
  | n :: ns, [] => by simp [PyData.eqvAll]
  | n :: ns, m :: ms => by
    simp only [List.map_cons, PyData.eqvAll, eqvAll_ints ns ms, PyData.eqv]
    by_cases h : n = m <;> by_cases h2 : ns = ms <;> simp [h, h2]
theorem canLay_ints : ∀ ns : List Int, PyData.canLayAll0 (ns.map .int) = true
  | [] => by simp [PyData.canLayAll0]
  | n :: ns => by simp [PyData.canLayAll0, canLay_ints ns, PyData.canLay0]
theorem depth_ints : ∀ ns : List Int, PyData.depthAll (ns.map .int) = 0
  | [] => by simp [PyData.depthAll]
  | n :: ns => by simp [PyData.depthAll, depth_ints ns, PyData.depth]
theorem shaped_ints (ns : List Int) : SeqAt.shaped (.list (ns.map .int)) = true := by
  simp [SeqAt.shaped, PyData.canLay0, canLay_ints, PyData.depth, depth_ints]
theorem eqD_ints (ns ms : List Int) : eqD (.list (ns.map .int)) (.list (ms.map .int)) = some (decide (ns = ms)) := by
  unfold eqD
  rw [if_pos ⟨shaped_ints ns, shaped_ints ms⟩]
  show some (PyData.eqvAll _ _) = _
  rw [eqvAll_ints]
theorem intsOf_ints : ∀ ns : List Int, intsOf (ns.map .int) = some ns
  | [] => rfl
  | n :: r => by simp [intsOf, intsOf_ints r]
theorem boolsOf_bools : ∀ ns : List Bool, boolsOf (ns.map .bool) = some ns
  | [] => rfl
  | n :: r => by simp [boolsOf, boolsOf_bools r]
theorem eqD_int (n m : Int) : eqD (.int n) (.int m) = some (decide (n = m)) := by
  simp [eqD, SeqAt.shaped, PyData.canLay0, PyData.depth, PyData.eqv]
  by_cases h : n = m <;> simp [h]
/-! ### the tap -/
abbrev tapS (a b c : Int) : Sl := .ol [fi a, fi b, fi c]
def TapOk (a b c : Int) : Prop := c.natAbs < 2 ^ 64
end Hb

/-! part N0 -/
/-! values in the place of slots -/
namespace Nv
open PySem Hb L2

/-- a value of Lean's, as a tree -/
class Enc (α : Type) where
  enc : α → PyData
open Enc (enc)
instance : Enc Int := ⟨.int⟩
instance : Enc Bool := ⟨.bool⟩
instance : Enc Str := ⟨.str⟩
instance : Enc Unit := ⟨fun _ => .none⟩
instance : Enc PyData := ⟨fun d => d⟩
instance {α : Type} [Enc α] : Enc (List α) := ⟨fun xs => .list (xs.map enc)⟩
instance {α : Type} [Enc α] : Enc (Option α) := ⟨fun x => match x with
  | none => .none
  | some x => enc x⟩
instance {α β : Type} [Enc α] [Enc β] : Enc (α × β) := ⟨fun x => .tuple [enc x.1, enc x.2]⟩
structure T3 (α β γ : Type) where
  a : α
  b : β
  c : γ
deriving DecidableEq
structure T4 (α β γ δ : Type) where
  a : α
  b : β
  c : γ
  d : δ
deriving DecidableEq
/-- a tuple of any length -/
structure Tp (α : Type) where
  l : List α
deriving DecidableEq
/-- a dict -/
structure Dc (κ α : Type) where
  l : List (κ × α)
deriving DecidableEq
instance {α β γ : Type} [Enc α] [Enc β] [Enc γ] : Enc (T3 α β γ) := ⟨fun x => .tuple [enc x.a, enc x.b, enc x.c]⟩
instance {α β γ δ : Type} [Enc α] [Enc β] [Enc γ] [Enc δ] : Enc (T4 α β γ δ) := ⟨fun x => .tuple [enc x.a, enc x.b, enc x.c, enc x.d]⟩
instance {α : Type} [Enc α] : Enc (Tp α) := ⟨fun x => .tuple (x.l.map enc)⟩
instance {κ α : Type} [Enc κ] [Enc α] : Enc (Dc κ α) := ⟨fun x => .dict (x.l.map fun p => (enc p.1, enc p.2))⟩

/-- a list of one's own whose items stand still; .. whose items are rows of one's own; a dict of one's own -/
def ow {α : Type} [Enc α] (xs : List α) : Sl := .ol ((xs.map enc).map .fz)
def oww {α : Type} [Enc α] (xs : List (List α)) : Sl := .ol (xs.map fun r => .ow (r.map enc))
def od {κ α : Type} [Enc κ] [Enc α] (x : Dc κ α) : Sl := .od (x.l.map fun p => (enc p.1, enc p.2))
section
variable {α : Type} [Enc α]
theorem map_fzd (ds : List PyData) : (ds.map El.fz).map El.d = ds := by
  rw [List.map_map]
  exact List.map_id' ds
theorem ow_tree (xs : List α) : (ow xs).tree = some (enc xs) := by
  show some (PyData.list _) = some (PyData.list _)
  rw [map_fzd]
theorem allFz_map : ∀ ds : List PyData, allFz (ds.map .fz) = some ds
  | [] => rfl
  | d :: r => by
    show (allFz (r.map .fz)).map (d :: ·) = _
    rw [allFz_map r]
    rfl
theorem oww_tree (xs : List (List α)) : (oww xs).tree = some (enc xs) := by
  show some (PyData.list _) = some (PyData.list _)
  rw [List.map_map]
  rfl
end

/-! ### patterns of slots -/
inductive Pt where
  | aa | any | pl | eq (s : Sl) | tr (d : PyData)
def isAl : Sl → Bool
  | .al _ _ => true
  | _ => false
def Pt.Ok : Pt → Sl → Prop
  | .aa, _ => True
  | .any, s => isAl s = false
  | .pl, s => plainS (some s) = true
  | .eq t, s => s = t
  | .tr d, s => s.tree = some d ∧ (∃ ds : List PyData, s = .ol (ds.map .fz)) ∨ s = .fz d
abbrev Ga := List Pt
inductive Sat : Ga → List Sl → Prop
  | nil : Sat [] []
  | cons {p : Pt} {s : Sl} {Γ : Ga} {δ : List Sl} : p.Ok s → Sat Γ δ → Sat (p :: Γ) (s :: δ)
theorem Sat.len {Γ : Ga} {δ : List Sl} (h : Sat Γ δ) : Γ.length = δ.length := by
  induction h with
  | nil => rfl
  | cons _ _ ih => simp [ih]
theorem Sat.get {Γ : Ga} {δ : List Sl} (h : Sat Γ δ) : ∀ {k : Nat} {p : Pt}, Γ[k]? = some p → ∃ s, δ[k]? = some s ∧ p.Ok s := by
  induction h with
  | nil => intro k p e; simp at e
  | cons h1 _ ih =>
    intro k p e
    cases k with
    | zero => simp at e; subst e; exact ⟨_, rfl, h1⟩
    | succ k => exact ih (by simpa using e)
theorem Sat.at_ {Γ : Ga} {δ : List Sl} (h : Sat Γ δ) {k : Nat} {s : Sl} (e : Γ[k]? = some (.eq s)) : δ[k]? = some s := by
  obtain ⟨t, e1, e2⟩ := h.get e
  rw [e1, show t = s from e2]
theorem Sat.set {Γ : Ga} {δ : List Sl} (h : Sat Γ δ) {p : Pt} {s : Sl} (hp : p.Ok s) : ∀ (k : Nat), Sat (Γ.set k p) (δ.set k s) := by
  induction h with
  | nil => intro k; cases k <;> exact .nil
  | cons h1 h2 ih =>
    intro k
    cases k with
    | zero => exact .cons hp h2
    | succ k => exact .cons h1 (ih k)
def dropP (i : Nat) : Pt → Pt
  | .eq (.al x j) => if x = i then .eq .no else .eq (.al x j)
  | p => p
def upP (i : Nat) (p : Pt) (Γ : Ga) : Ga := (Γ.map (dropP i)).set i p
def dropS (i : Nat) : Sl → Sl
  | .al x j => if x = i then .no else .al x j
  | s => s
theorem dropAl_eq (i : Nat) (δ : List Sl) : dropAl i δ = δ.map (dropS i) := by
  unfold dropAl
  congr 1
theorem dropP_ok {i : Nat} {p : Pt} {s : Sl} (h : p.Ok s) : (dropP i p).Ok (dropS i s) := by
  cases p with
  | aa => trivial
  | any =>
    cases s with
    | al x j => cases h
    | _ => exact h
  | pl =>
    cases s with
    | al x j => cases h
    | _ => exact h
  | eq t =>
    have h : s = t := h
    subst h
    cases s with
    | al x j =>
      show (if x = i then Pt.eq .no else .eq (.al x j)).Ok (if x = i then .no else .al x j)
      by_cases c : x = i
      · rw [if_pos c, if_pos c]; rfl
      · rw [if_neg c, if_neg c]; rfl
    | _ => rfl
  | tr d =>
    cases s with
    | al x j =>
      rcases h with ⟨h, _⟩ | h <;> cases h
    | _ => exact h
theorem Sat.drop {Γ : Ga} {δ : List Sl} (h : Sat Γ δ) (i : Nat) : Sat (Γ.map (dropP i)) (dropAl i δ) := by
  rw [dropAl_eq]
  induction h with
  | nil => exact .nil
  | cons h1 _ ih => exact .cons (dropP_ok h1) ih
theorem Sat.up {Γ : Ga} {δ : List Sl} (h : Sat Γ δ) {i : Nat} {p : Pt} {s : Sl} (hp : p.Ok s) : Sat (upP i p Γ) (upS i s δ) := (h.drop i).set hp i
def calmP : Pt → Bool
  | .aa => false
  | .eq s => !isAl s
  | _ => true
/-- weaker -/
inductive PtLe : Pt → Pt → Prop
  | rfl {p : Pt} : PtLe p p
  | aa {p : Pt} : PtLe p .aa
  | any {p : Pt} (h : calmP p = true := by rfl) : PtLe p .any
  | no : PtLe (.eq .no) .pl
  | fz {d : PyData} : PtLe (.eq (.fz d)) .pl
  | trf {d : PyData} : PtLe (.eq (.fz d)) (.tr d)
  | tro {α : Type} [Enc α] {xs : List α} {d : PyData} : enc xs = d → PtLe (.eq (ow xs)) (.tr d)
theorem PtLe.ok {p q : Pt} (h : PtLe p q) {s : Sl} (hs : p.Ok s) : q.Ok s := by
  cases h with
  | rfl => exact hs
  | aa => trivial
  | any h =>
    cases p with
    | aa => cases h
    | any => exact hs
    | pl => cases s <;> first | rfl | cases hs
    | eq t =>
      cases (show s = t from hs)
      show isAl s = false
      simpa [calmP] using h
    | tr d =>
      rcases hs with ⟨_, ds, rfl⟩ | rfl <;> rfl
  | no => cases (show s = .no from hs); rfl
  | fz => cases (show s = .fz _ from hs); rfl
  | trf => exact .inr hs
  | @tro α _ xs d e =>
    cases (show s = ow xs from hs)
    exact .inl ⟨by rw [← e]; exact ow_tree xs, xs.map enc, Eq.refl _⟩
inductive GaLe : Ga → Ga → Prop
  | nil : GaLe [] []
  | cons {p q : Pt} {Γ Δ : Ga} : PtLe p q → GaLe Γ Δ → GaLe (p :: Γ) (q :: Δ)
theorem Sat.wk {Γ Δ : Ga} {δ : List Sl} (h : Sat Γ δ) (l : GaLe Γ Δ) : Sat Δ δ := by
  induction l generalizing δ with
  | nil => exact h
  | cons h1 _ ih =>
    cases h with
    | cons a b => exact .cons (h1.ok a) (ih b)

/-! ### judgements -/
section
variable {β : Type}
/-- what it gives, and what stands behind -/
def Ev (f : List Sl → Rs AV) (Γ : Ga) (p : Option β) (a : β → AV) (Γ' : β → Ga) : Prop := ∀ v, p = some v → ∀ δ, Sat Γ δ → ∃ δ', f δ = .ok (a v) δ' ∧ Sat (Γ' v) δ'
/-- nothing changes -/
def Pu (f : List Sl → Rs AV) (Γ : Ga) (p : Option β) (a : β → AV) : Prop := ∀ v, p = some v → ∀ δ, Sat Γ δ → f δ = .ok (a v) δ
/-- nothing changes, and its tree may be read -/
def Ra (f : List Sl → Rs AV) (Γ : Ga) (p : Option β) (d : β → PyData) : Prop := ∀ v, p = some v → ∀ δ, Sat Γ δ → ∃ a, sSt f δ = .ok a δ ∧ rdA δ a = some (d v)
def Rd (f : List Sl → Rs AV) (Γ : Ga) (p : Option β) (d : β → PyData) : Prop := ∀ v, p = some v → ∀ δ, Sat Γ δ → ∃ a, sSt f δ = .ok a δ ∧ rdC δ a = some (d v) ∧ rdA δ a = some (d v)
/-- a value -/
def Er (f : List Sl → Rs AV) (Γ : Ga) (p : Option β) (d : β → PyData) (Γ' : β → Ga) : Prop := ∀ v, p = some v → ∀ δ, Sat Γ δ → ∃ δ', sSt f δ = .ok (.val (d v)) δ' ∧ Sat (Γ' v) δ'
/-- its tree may be read -/
def Es (f : List Sl → Rs AV) (Γ : Ga) (p : Option β) (d : β → PyData) (Γ' : β → Ga) : Prop := ∀ v, p = some v → ∀ δ, Sat Γ δ → ∃ a δ', sSt f δ = .ok a δ' ∧ rdC δ' a = some (d v) ∧ rdA δ' a = some (d v) ∧ Sat (Γ' v) δ'
/-- tests -/
def Ts (t : List Sl → Rs Bool) (Γ : Ga) (p : Option Bool) : Prop := ∀ v, p = some v → ∀ δ, Sat Γ δ → t δ = .ok v δ
def Te (t : List Sl → Rs Bool) (Γ : Ga) (p : Option β) (k : β → Bool) (Γ' : β → Ga) : Prop := ∀ v, p = some v → ∀ δ, Sat Γ δ → ∃ δ', t δ = .ok (k v) δ' ∧ Sat (Γ' v) δ'
/-- statements -/
def Bl (f : List Sl → Ot) (Γ : Ga) (p : Option β) (R : β → Ot → Prop) : Prop := ∀ v, p = some v → ∀ δ, Sat Γ δ → R v (f δ)
end
section
variable {α β γ ε : Type} {f fa fb g : List Sl → Rs AV} {Γ : Ga} {Γ' : β → Ga} {p : Option β} {a : β → AV} {d : β → PyData}
theorem some_of {α : Type} {x v : α} (h : some x = some v) : v = x := (Option.some.inj h).symm
theorem bind_of {α β : Type} {p : Option α} {k : α → Option β} {v : β} (h : p.bind k = some v) : ∃ x, p = some x ∧ k x = some v := by
  cases p with
  | none => cases h
  | some x => exact ⟨x, rfl, h⟩
theorem sSt_val {δ δ' : List Sl} {x : PyData} (h : f δ = .ok (.val x) δ') : sSt f δ = .ok (.val x) δ' := by
  unfold sSt; rw [h]
theorem sSt_ref {δ δ' : List Sl} {x : Nat} (h : f δ = .ok (.ref x) δ') : sSt f δ = .ok (.ref x) δ' := by
  unfold sSt; rw [h]
theorem sSt_tmp {δ δ' : List Sl} {s : Sl} {x : PyData} (h : f δ = .ok (.tmp s) δ') (e : s.tree = some x) : sSt f δ = .ok (.val x) δ' := by
  unfold sSt; rw [h]; simp only [e]
theorem Pu.ev (h : Pu f Γ p a) : Ev f Γ p a fun _ => Γ := fun v e δ s => ⟨δ, h v e δ s, s⟩
theorem Pu.rd (h : Pu f Γ p fun v => .val (d v)) : Rd f Γ p d := fun v e δ s => ⟨_, sSt_val (h v e δ s), rfl, rfl⟩
theorem Pu.rdT {s : β → Sl} (h : Pu f Γ p fun v => .tmp (s v)) (ht : ∀ v, (s v).tree = some (d v)) : Rd f Γ p d := fun v e δ z => ⟨_, sSt_tmp (h v e δ z) (ht v), rfl, rfl⟩
theorem Rd.ra (h : Rd f Γ p d) : Ra f Γ p d := fun v e δ s => let ⟨x, h1, _, h3⟩ := h v e δ s; ⟨x, h1, h3⟩
theorem Ev.er (h : Ev f Γ p (fun v => .val (d v)) Γ') : Er f Γ p d Γ' := fun v e δ s => let ⟨δ', h1, h2⟩ := h v e δ s; ⟨δ', sSt_val h1, h2⟩
theorem Ev.erT {s : β → Sl} (h : Ev f Γ p (fun v => .tmp (s v)) Γ') (ht : ∀ v, (s v).tree = some (d v)) : Er f Γ p d Γ' := fun v e δ z => let ⟨δ', h1, h2⟩ := h v e δ z; ⟨δ', sSt_tmp h1 (ht v), h2⟩
theorem Er.es (h : Er f Γ p d Γ') : Es f Γ p d Γ' := fun v e δ s => let ⟨δ', h1, h2⟩ := h v e δ s; ⟨_, δ', h1, rfl, rfl, h2⟩
theorem Rd.es (h : Rd f Γ p d) : Es f Γ p d fun _ => Γ := fun v e δ s => let ⟨x, h1, h2, h3⟩ := h v e δ s; ⟨x, δ, h1, h2, h3, s⟩

/-! constants, names -/
theorem pu_c [Enc α] {x : α} {y : PyData} (h : enc x = y := by rfl) : Pu (sC y) Γ (some x) fun v => .val (enc v) := fun v e δ _ => by
  cases some_of e
  show _ = Rs.ok (AV.val (enc x)) δ
  rw [h]
  rfl
theorem pu_var [Enc α] {x : α} (k : Nat) (h : Γ[k]? = some (.eq (.fz (enc x)))) : Pu (sVar k) Γ (some x) fun v => .val (enc v) := fun v e δ s => by
  cases some_of e
  unfold sVar
  rw [s.at_ h]
theorem pu_own [Enc α] {x : List α} (k : Nat) (h : Γ[k]? = some (.eq (ow x))) : Pu (sVar k) Γ (some x) fun _ => .ref k := fun v e δ s => by
  cases some_of e
  unfold sVar
  rw [s.at_ h]
  rfl
theorem rd_own [Enc α] {x : List α} (k : Nat) (h : Γ[k]? = some (.eq (ow x))) : Rd (sVar k) Γ (some x) enc := fun v e δ s => by
  cases some_of e
  refine ⟨.ref k, sSt_ref (pu_own k h x rfl δ s), ?_, ?_⟩
  · simp only [rdC, s.at_ h, ow]
    show (allFz _).map _ = _
    rw [allFz_map]
    rfl
  · simp only [rdA, s.at_ h, ow]
    exact ow_tree x
theorem ra_oww [Enc α] {x : List (List α)} (k : Nat) (h : Γ[k]? = some (.eq (oww x))) : Ra (sVar k) Γ (some x) enc := fun v e δ s => by
  cases some_of e
  refine ⟨.ref k, sSt_ref (by unfold sVar; rw [s.at_ h]; rfl), ?_⟩
  simp only [rdA, s.at_ h, oww]
  exact oww_tree x
theorem ra_od [Enc α] [Enc γ] {x : Dc α γ} (k : Nat) (h : Γ[k]? = some (.eq (od x))) : Ra (sVar k) Γ (some x) enc := fun v e δ s => by
  cases some_of e
  refine ⟨.ref k, sSt_ref (by unfold sVar; rw [s.at_ h]; rfl), ?_⟩
  simp only [rdA, s.at_ h, od]
  rfl
theorem rd_tr [Enc α] {x : α} (k : Nat) (h : Γ[k]? = some (.tr (enc x))) : Rd (sVar k) Γ (some x) enc := fun v e δ s => by
  cases some_of e
  obtain ⟨t, e1, e2⟩ := s.get h
  rcases e2 with ⟨e2, ds, e3⟩ | e2
  · subst e3
    refine ⟨.ref k, sSt_ref (by unfold sVar; rw [e1]), ?_, ?_⟩
    · simp only [rdC, e1]
      show (allFz _).map _ = _
      have : (Sl.ol (ds.map .fz)).tree = some (.list ds) := by
        show some (PyData.list _) = _
        rw [map_fzd]
      rw [this] at e2
      rw [allFz_map, ← e2]
      rfl
    · simp only [rdA, e1]
      exact e2
  · subst e2
    exact ⟨.val (enc x), sSt_val (by unfold sVar; rw [e1]), rfl, rfl⟩
/-! taken -/
theorem Pu.tk (h : Pu f Γ p fun v => .val (d v)) : Ev (sTk f) Γ p (fun v => .val (d v)) fun _ => Γ := fun v e δ s => ⟨δ, by unfold sTk; rw [sSt_val (h v e δ s)], s⟩
theorem Pu.tkP (h : Pu f Γ p fun v => .val (d v)) : Pu (sTk f) Γ p (fun v => .val (d v)) := fun v e δ s => by unfold sTk; rw [sSt_val (h v e δ s)]
theorem Pu.tkTP {s : β → Sl} (h : Pu f Γ p fun v => .tmp (s v)) (ht : ∀ v, (s v).tree = some (d v)) : Pu (sTk f) Γ p (fun v => .val (d v)) := fun v e δ z => by unfold sTk; rw [sSt_tmp (h v e δ z) (ht v)]
theorem Ev.tk (h : Ev f Γ p (fun v => .val (d v)) Γ') : Ev (sTk f) Γ p (fun v => .val (d v)) Γ' := fun v e δ s => let ⟨δ', h1, h2⟩ := h v e δ s; ⟨δ', by unfold sTk; rw [sSt_val h1], h2⟩
theorem Ev.tkT {s : β → Sl} (h : Ev f Γ p (fun v => .tmp (s v)) Γ') (ht : ∀ v, (s v).tree = some (d v)) : Ev (sTk f) Γ p (fun v => .val (d v)) Γ' := fun v e δ z => let ⟨δ', h1, h2⟩ := h v e δ z; ⟨δ', by unfold sTk; rw [sSt_tmp h1 (ht v)], h2⟩
theorem tk_own [Enc α] {x : List α} (k : Nat) (h : Γ[k]? = some (.eq (ow x))) : Ev (sTk (sVar k)) Γ (some x) (fun v => .val (enc v)) fun v => upP k (.eq (.fz (enc v))) Γ := fun v e δ s => by
  cases some_of e
  refine ⟨upS k (.fz (enc x)) δ, ?_, s.up rfl⟩
  unfold sTk
  rw [sSt_ref (pu_own k h x rfl δ s)]
  show takeI k δ = _
  unfold takeI
  rw [s.at_ h]
  simp only [ow, map_fzd]
  rfl
theorem tk_oww [Enc α] {x : List (List α)} (k : Nat) (h : Γ[k]? = some (.eq (oww x))) : Ev (sTk (sVar k)) Γ (some x) (fun v => .val (enc v)) fun v => upP k (.eq (.fz (enc v))) Γ := fun v e δ s => by
  cases some_of e
  refine ⟨upS k (.fz (enc x)) δ, ?_, s.up rfl⟩
  unfold sTk
  rw [sSt_ref (by unfold sVar; rw [s.at_ h]; rfl)]
  show takeI k δ = _
  unfold takeI
  rw [s.at_ h]
  simp only [oww, List.map_map]
  rfl
theorem tk_tr [Enc α] {x : α} (k : Nat) (h : Γ[k]? = some (.tr (enc x))) (hm : Γ.map (dropP k) = Γ) : Ev (sTk (sVar k)) Γ (some x) (fun v => .val (enc v)) fun v => Γ.set k (.eq (.fz (enc v))) := fun v e δ s => by
  cases some_of e
  obtain ⟨t, e1, e2⟩ := s.get h
  rcases e2 with ⟨e2, ds, e3⟩ | e2
  · subst e3
    refine ⟨upS k (.fz (enc x)) δ, ?_, ?_⟩
    · unfold sTk
      rw [sSt_ref (by unfold sVar; rw [e1])]
      show takeI k δ = _
      unfold takeI
      rw [e1]
      have : (Sl.ol (ds.map .fz)).tree = some (.list ds) := by
        show some (PyData.list _) = _
        rw [map_fzd]
      rw [this] at e2
      have e4 : PyData.list ds = enc x := Option.some.inj e2
      simp only [map_fzd, e4]
    · have := s.up (i := k) (p := .eq (.fz (enc x))) rfl
      unfold upP at this
      rwa [hm] at this
  · subst e2
    refine ⟨δ, by unfold sTk; rw [sSt_val (by unfold sVar; rw [e1])], ?_⟩
    have := s.set (p := .eq (.fz (enc x))) rfl k
    have e3 : δ.set k (.fz (enc x)) = δ := by
      apply List.ext_getElem?
      intro i
      by_cases c : i = k
      · subst c
        rw [List.getElem?_set_self (List.getElem?_eq_some_iff.mp e1).1, e1]
      · rw [List.getElem?_set_ne (Ne.symm c)]
    rwa [e3] at this
end
end Nv

/-! part N1 -/
namespace Nv
open PySem Hb L2
open Enc (enc)

/-! ### operations -/
section
variable {α β γ : Type} [Enc α] [Enc β]
def Op2 (g : AV → AV → List Sl → Rs AV) (op : α → β → Option γ) (a : γ → AV) : Prop := ∀ v w r δ x y, rdC δ x = some (enc v) → rdA δ x = some (enc v) → rdC δ y = some (enc w) → rdA δ y = some (enc w) → op v w = some r → g x y δ = .ok (a r) δ
def Op2A (g : AV → AV → List Sl → Rs AV) (op : α → β → Option γ) (a : γ → AV) : Prop := ∀ v w r δ x y, rdA δ x = some (enc v) → rdA δ y = some (enc w) → op v w = some r → g x y δ = .ok (a r) δ
def Op1 (g : AV → List Sl → Rs AV) (op : α → Option γ) (a : γ → AV) : Prop := ∀ v r δ x, rdC δ x = some (enc v) → rdA δ x = some (enc v) → op v = some r → g x δ = .ok (a r) δ
def Op1A (g : AV → List Sl → Rs AV) (op : α → Option γ) (a : γ → AV) : Prop := ∀ v r δ x, rdA δ x = some (enc v) → op v = some r → g x δ = .ok (a r) δ
end
section
variable {α β γ ε ζ : Type} [Enc α] [Enc β] {Γ : Ga} {fa fb : List Sl → Rs AV} {g : AV → AV → List Sl → Rs AV} {h : AV → List Sl → Rs AV} {op : α → β → Option γ} {op1 : α → Option γ} {a : γ → AV}
theorem Op2A.to (o : Op2A g op a) : Op2 g op a := fun v w r δ x y _ h1 _ h2 e => o v w r δ x y h1 h2 e
theorem Op1A.to (o : Op1A h op1 a) : Op1 h op1 a := fun v r δ x _ h1 e => o v r δ x h1 e
theorem pu2 (o : Op2 g op a) {pa : Option α} {pb : Option β} (ha : Rd fa Γ pa enc) (hb : Rd fb Γ pb enc) : Pu (s2 g fa fb) Γ (pa.bind fun v => pb.bind fun w => op v w) a := fun r e δ s => by
  obtain ⟨v, e1, e⟩ := bind_of e
  obtain ⟨w, e2, e⟩ := bind_of e
  obtain ⟨x, h1, h2, h3⟩ := ha v e1 δ s
  obtain ⟨y, k1, k2, k3⟩ := hb w e2 δ s
  unfold s2
  rw [h1]
  show (sSt fb δ).bind _ = _
  rw [k1]
  exact o v w r δ x y h2 h3 k2 k3 e
theorem pu2A (o : Op2A g op a) {pa : Option α} {pb : Option β} (ha : Ra fa Γ pa enc) (hb : Ra fb Γ pb enc) : Pu (s2 g fa fb) Γ (pa.bind fun v => pb.bind fun w => op v w) a := fun r e δ s => by
  obtain ⟨v, e1, e⟩ := bind_of e
  obtain ⟨w, e2, e⟩ := bind_of e
  obtain ⟨x, h1, h3⟩ := ha v e1 δ s
  obtain ⟨y, k1, k3⟩ := hb w e2 δ s
  unfold s2
  rw [h1]
  show (sSt fb δ).bind _ = _
  rw [k1]
  exact o v w r δ x y h3 k3 e
theorem pu1 (o : Op1 h op1 a) {pa : Option α} (ha : Rd fa Γ pa enc) : Pu (s1 h fa) Γ (pa.bind op1) a := fun r e δ s => by
  obtain ⟨v, e1, e⟩ := bind_of e
  obtain ⟨x, h1, h2, h3⟩ := ha v e1 δ s
  unfold s1
  rw [h1]
  exact o v r δ x h2 h3 e
theorem pu1A (o : Op1A h op1 a) {pa : Option α} (ha : Ra fa Γ pa enc) : Pu (s1 h fa) Γ (pa.bind op1) a := fun r e δ s => by
  obtain ⟨v, e1, e⟩ := bind_of e
  obtain ⟨x, h1, h3⟩ := ha v e1 δ s
  unfold s1
  rw [h1]
  exact o v r δ x h3 e
/-- with effects: both operands' values in the words of what they give -/
theorem ev2 (o : Op2 g op a) {pa : Option ε} {va : ε → α} {Γ1 : ε → Ga} {pb : ε → Option ζ} {vb : ζ → β} {Γ2 : ζ → Ga} (ha : Er fa Γ pa (fun x => enc (va x)) Γ1) (hb : ∀ x, Es fb (Γ1 x) (pb x) (fun y => enc (vb y)) Γ2) :
    Ev (s2 g fa fb) Γ (pa.bind fun x => (pb x).bind fun y => (op (va x) (vb y)).map fun r => (r, y)) (fun r => a r.1) (fun r => Γ2 r.2) := fun r e δ s => by
  obtain ⟨v, e1, e⟩ := bind_of e
  obtain ⟨w, e2, e⟩ := bind_of e
  cases q : op (va v) (vb w) with
  | none => rw [q] at e; cases e
  | some z =>
    rw [q] at e
    cases e
    obtain ⟨δ1, h1, s1⟩ := ha v e1 δ s
    obtain ⟨y, δ2, k1, k2, k3, s2⟩ := hb v w e2 δ1 s1
    refine ⟨δ2, ?_, s2⟩
    unfold Hb.s2
    rw [h1]
    show (sSt fb δ1).bind _ = _
    rw [k1]
    exact o (va v) (vb w) z δ2 (.val (enc (va v))) y rfl rfl k2 k3 q
/-- the first operand a name that stands -/
theorem ev2v (o : Op2 g op a) {v : α} {pb : Option ζ} {vb : ζ → β} {Γ2 : ζ → Ga} (ha : Rd fa Γ (some v) enc) (hr : ∀ y, Rd fa (Γ2 y) (some v) enc) (hf : ∀ δ δ' x, sSt fa δ = .ok x δ → sSt fa δ' = .ok x δ' ∨ x = .val (enc v)) (hb : Es fb Γ pb (fun y => enc (vb y)) Γ2) :
    Ev (s2 g fa fb) Γ (pb.bind fun y => (op v (vb y)).map fun r => (r, y)) (fun r => a r.1) (fun r => Γ2 r.2) := fun r e δ s => by
  obtain ⟨w, e2, e⟩ := bind_of e
  cases q : op v (vb w) with
  | none => rw [q] at e; cases e
  | some z =>
    rw [q] at e
    cases e
    obtain ⟨x, h1, h2, h3⟩ := ha v rfl δ s
    obtain ⟨y, δ2, k1, k2, k3, s2⟩ := hb w e2 δ s
    obtain ⟨x', h1', h2', h3'⟩ := hr w v rfl δ2 s2
    refine ⟨δ2, ?_, s2⟩
    unfold Hb.s2
    rw [h1]
    show (sSt fb δ).bind _ = _
    rw [k1]
    rcases hf δ δ2 x h1 with z2 | z2
    · rw [z2] at h1'
      cases h1'
      exact o v (vb w) z δ2 x y h2' h3' k2 k3 q
    · subst z2
      exact o v (vb w) z δ2 _ y rfl rfl k2 k3 q
theorem ev1 (o : Op1 h op1 a) {pa : Option ε} {va : ε → α} {Γ1 : ε → Ga} (ha : Es fa Γ pa (fun x => enc (va x)) Γ1) : Ev (s1 h fa) Γ (pa.bind fun x => (op1 (va x)).map fun r => (r, x)) (fun r => a r.1) (fun r => Γ1 r.2) := fun r e δ s => by
  obtain ⟨v, e1, e⟩ := bind_of e
  cases q : op1 (va v) with
  | none => rw [q] at e; cases e
  | some z =>
    rw [q] at e
    cases e
    obtain ⟨x, δ1, h1, h2, h3, s1⟩ := ha v e1 δ s
    refine ⟨δ1, ?_, s1⟩
    unfold Hb.s1
    rw [h1]
    exact o (va v) z δ1 x h2 h3 q
/-- another shape of what it gives -/
theorem Ev.map {f : List Sl → Rs AV} {p : Option ε} {aa : ε → AV} {Γ1 : ε → Ga} {bb : ζ → AV} {Γ2 : ζ → Ga} (hh : Ev f Γ p aa Γ1) (k : ε → ζ) (h1 : ∀ x, bb (k x) = aa x := by intro _; rfl) (h2 : ∀ x, Γ2 (k x) = Γ1 x := by intro _; rfl) : Ev f Γ (p.bind fun x => some (k x)) bb Γ2 := fun r e δ s => by
  obtain ⟨v, e1, e⟩ := bind_of e
  cases some_of e
  obtain ⟨δ', q1, q2⟩ := hh v e1 δ s
  exact ⟨δ', by rw [h1]; exact q1, by rw [h2]; exact q2⟩
/-- coercions of what is read -/
theorem Rd.asI {f : List Sl → Rs AV} {p : Option PyData} (hh : Rd f Γ p enc) : Rd f Γ (p.bind fun d => match d with
  | .int i => some i
  | _ => none) (enc : Int → PyData) := fun r e δ s => by
  obtain ⟨v, e1, e⟩ := bind_of e
  obtain ⟨x, h1, h2, h3⟩ := hh v e1 δ s
  cases v with
  | int i => cases some_of e; exact ⟨x, h1, h2, h3⟩
  | _ => cases e
theorem Rd.un {f : List Sl → Rs AV} {p : Option (Option α)} (hh : Rd f Γ p enc) : Rd f Γ (p.bind fun d => d) (enc : α → PyData) := fun r e δ s => by
  obtain ⟨v, e1, e⟩ := bind_of e
  subst e
  exact hh _ e1 δ s
theorem Rd.any {f : List Sl → Rs AV} {p : Option α} (hh : Rd f Γ p enc) : Rd f Γ (p.bind fun d => some (enc d)) (enc : PyData → PyData) := fun r e δ s => by
  obtain ⟨v, e1, e⟩ := bind_of e
  cases some_of e
  exact hh _ e1 δ s
end

/-! ### what the operations do -/
def addI (i j : Int) : Option Int := some (i + j)
def subI (i j : Int) : Option Int := some (i - j)
def mulI (i j : Int) : Option Int := if i.natAbs < 2 ^ 64 ∨ j.natAbs < 2 ^ 64 then some (i * j) else none
def fdivI (i j : Int) : Option Int := if 0 < j ∧ j < 1073741824 then some (i / j) else none
def modI (i j : Int) : Option Int := if 0 < j then some (i % j) else none
def powI (i j : Int) : Option Int := if 0 ≤ j ∧ j ≤ 1000000 ∧ i.natAbs < 2 ^ 64 then some (i ^ j.toNat) else none
def shlI (i j : Int) : Option Int := if 0 ≤ j ∧ j ≤ 1000000 ∧ i.natAbs < 2 ^ 64 then some (i * 2 ^ j.toNat) else none
def shrI (i j : Int) : Option Int := if 0 ≤ j then some (i / 2 ^ j.toNat) else none
def andI (i j : Int) : Option Int := some (Builtin.bitAnd i j)
def orI (i j : Int) : Option Int := some (Builtin.bitOr i j)
def xorI (i j : Int) : Option Int := some (Builtin.bitXor i j)
def ltI (i j : Int) : Option Bool := some (decide (i < j))
def leI (i j : Int) : Option Bool := some (decide (i ≤ j))
def gtI (i j : Int) : Option Bool := some (decide (j < i))
def geI (i j : Int) : Option Bool := some (decide (j ≤ i))
def maxI2 (i j : Int) : Option Int := some (if j > i then j else i)
def minI2 (i j : Int) : Option Int := some (if j < i then j else i)
def negI (i : Int) : Option Int := some (-i)
section
variable {g : Int → Int → Int} {C : Int → Int → Bool}
theorem op_gI {op : Int → Int → Option Int} (h : ∀ i j r, op i j = some r → C i j = true ∧ r = g i j) : Op2 (gI C g) op fun r => .val (enc r) := fun v w r δ x y h1 _ h2 _ e => by
  obtain ⟨c, rfl⟩ := h v w r e
  have h1 : rdC δ x = some (.int v) := h1
  have h2 : rdC δ y = some (.int w) := h2
  simp only [gI, h1, h2, c]
  rfl
theorem op_gI0 : Op2 (gI yes2 g) (fun i j => some (g i j)) fun r => .val (enc r) := op_gI fun i j r e => ⟨rfl, some_of e⟩
theorem op_gIc {C : Int → Int → Prop} [∀ i j, Decidable (C i j)] : Op2 (gI (fun i j => decide (C i j)) g) (fun i j => if C i j then some (g i j) else none) fun r => .val (enc r) := op_gI fun i j r e => by
  have e : (if C i j then some (g i j) else none) = some r := e
  by_cases c : C i j
  · rw [if_pos c] at e
    exact ⟨decide_eq_true c, some_of e⟩
  · rw [if_neg c] at e
    cases e
theorem op_gB {g : Int → Int → Bool} : Op2 (gB g) (fun i j => some (g i j)) fun r => .val (enc r) := fun v w r δ x y h1 _ h2 _ e => by
  have h1 : rdC δ x = some (.int v) := h1
  have h2 : rdC δ y = some (.int w) := h2
  cases some_of e
  simp only [gB, h1, h2]
  rfl
theorem op_sub : Op2 gSub subI fun r => .val (enc r) := op_gI0
theorem op_and : Op2 gAnd andI fun r => .val (enc r) := op_gI0
theorem op_or : Op2 gOr orI fun r => .val (enc r) := op_gI0
theorem op_xor : Op2 gXor xorI fun r => .val (enc r) := op_gI0
theorem op_max2 : Op2 gMax2 maxI2 fun r => .val (enc r) := op_gI0
theorem op_min2 : Op2 gMin2 minI2 fun r => .val (enc r) := op_gI0
theorem op_fdiv : Op2 gFdiv fdivI fun r => .val (enc r) := op_gIc (C := fun _ j => 0 < j ∧ j < 1073741824)
theorem op_mod : Op2 gMod modI fun r => .val (enc r) := op_gIc (C := fun _ j => 0 < j)
theorem op_pow : Op2 gPow powI fun r => .val (enc r) := op_gIc (C := fun i j => 0 ≤ j ∧ j ≤ 1000000 ∧ i.natAbs < 2 ^ 64)
theorem op_shl : Op2 gShl shlI fun r => .val (enc r) := op_gIc (C := fun i j => 0 ≤ j ∧ j ≤ 1000000 ∧ i.natAbs < 2 ^ 64)
theorem op_shr : Op2 gShr shrI fun r => .val (enc r) := op_gIc (C := fun _ j => 0 ≤ j)
theorem op_lt : Op2 gLt ltI fun r => .val (enc r) := op_gB
theorem op_le : Op2 gLe leI fun r => .val (enc r) := op_gB
theorem op_gt : Op2 gGt gtI fun r => .val (enc r) := op_gB
theorem op_ge : Op2 gGe geI fun r => .val (enc r) := op_gB
theorem op_neg : Op1 gNeg negI fun r => .val (enc r) := fun v r δ x h1 _ e => by
  have h1 : rdC δ x = some (.int v) := h1
  cases some_of e
  simp only [gNeg, h1]
  rfl
theorem op_add : Op2 gAdd addI fun r => .val (enc r) := fun v w r δ x y h1 _ h2 _ e => by
  have h1 : rdC δ x = some (.int v) := h1
  have h2 : rdC δ y = some (.int w) := h2
  cases some_of e
  simp only [gAdd, h1, h2]
  rfl
theorem op_mul : Op2 gMulX mulI fun r => .val (enc r) := fun v w r δ x y h1 _ h2 _ e => by
  have h1 : rdC δ x = some (.int v) := h1
  have h2 : rdC δ y = some (.int w) := h2
  unfold mulI at e
  by_cases c : v.natAbs < 2 ^ 64 ∨ w.natAbs < 2 ^ 64
  · rw [if_pos c] at e
    cases some_of e
    simp only [gMulX, h1, h2, if_pos c]
    rfl
  · rw [if_neg c] at e
    cases e
end
/-! lists -/
def catL {α : Type} (xs ys : List α) : Option (List α) := if xs.length ≤ cap ∧ ys.length ≤ cap then some (xs ++ ys) else none
def repL {α : Type} (xs : List α) (k : Int) : Option (List α) := if xs.length ≤ 1000 ∧ 0 ≤ k ∧ k ≤ 1000 then some (List.replicate k.toNat xs).flatten else none
def catT {α : Type} (xs ys : Tp α) : Option (Tp α) := if xs.l.length ≤ cap ∧ ys.l.length ≤ cap then some ⟨xs.l ++ ys.l⟩ else none
def catS (x y : Str) : Option Str := if x.length ≤ cap ∧ y.length ≤ cap then some (x ++ y) else none
def lenL {α : Type} (xs : List α) : Option Int := some xs.length
def lenT {α : Type} (xs : Tp α) : Option Int := some xs.l.length
def lenC {κ α : Type} (xs : Dc κ α) : Option Int := some xs.l.length
def lenS (x : Str) : Option Int := if x.length ≤ cap then some x.length else none
def lenA (d : PyData) : Option Int := (lenD d).bind fun d => match d with
  | .int i => some i
  | _ => none
def revL {α : Type} (xs : List α) : Option (List α) := some xs.reverse
def atL {α : Type} (xs : List α) (i : Int) : Option α := atI xs i
def atT {α : Type} (xs : Tp α) (i : Int) : Option α := atI xs.l i
def cutL {α : Type} (xs : List α) (lo hi : Option Int) : List α := (xs.drop (HT.sIx xs.length 0 lo)).take (HT.sIx xs.length xs.length hi - HT.sIx xs.length 0 lo)
def rgL (a b : Int) : List Int := (List.range (b - a).toNat).map fun i => a + (i : Nat)
def rg1 (n : Int) : Option (List Int) := if (-1000000 ≤ (0 : Int) ∧ (0 : Int) ≤ 1000000) ∧ -1000000 ≤ n ∧ n ≤ 1000000 then some (rgL 0 n) else none
def rg2 (m n : Int) : Option (List Int) := if (-1000000 ≤ m ∧ m ≤ 1000000) ∧ -1000000 ≤ n ∧ n ≤ 1000000 then some (rgL m n) else none
def absI (i : Int) : Option Int := some (if i < 0 then -i else i)
def intI (i : Int) : Option Int := some i
def intB (k : Bool) : Option Int := some (if k then 1 else 0)
def sumI (ns : List Int) : Option Int := some ns.sum
def allB (ns : List Bool) : Option Bool := some (ns.all id)
def anyB (ns : List Bool) : Option Bool := some (ns.any id)
def maxL : List Int → Option Int
  | [] => none
  | n :: ns => some (ns.foldl max n)
def minL : List Int → Option Int
  | [] => none
  | n :: ns => some (ns.foldl min n)
def listL {α : Type} (xs : List α) : Option (List α) := some xs
def listT {α : Type} (xs : Tp α) : Option (List α) := some xs.l
def tupL {α : Type} (xs : List α) : Option (Tp α) := some ⟨xs⟩
def srtI (ns : List Int) : Option (List Int) := some (sortI ns)
def srtA : PyData → Option (List Int)
  | .list ds => (intsOf ds).bind fun ns => some (sortI ns)
  | _ => none
def isiN (T : String) (d : PyData) : Option Bool := some (isiB (tyD d) T)
def reprN (d : PyData) : Option Str := if (shw d = true ∧ d.depth ≤ 60) ∧ d.shown.length ≤ sizeLine then some d.shown else none
def strI (i : Int) : Option Str := if i.natAbs.log2 < 1920 then some (toString i : String) else none
theorem enc_ints (ns : List Int) : (enc ns : PyData) = .list (ns.map .int) := rfl
theorem allFz_inv : ∀ {xs : List El} {ds : List PyData}, allFz xs = some ds → xs = ds.map .fz
  | [], _, h => by cases h; rfl
  | .fz d :: r, ds, h => by
    have h : (allFz r).map (d :: ·) = some ds := h
    cases q : allFz r with
    | none => rw [q] at h; cases h
    | some es =>
      rw [q] at h
      cases h
      rw [allFz_inv q]
      rfl
  | .ow _ :: _, _, h => by cases h
section
variable {α β : Type} [Enc α] [Enc β]
theorem op_cat : Op2 gAdd (catL (α := α)) fun r => .tmp (ow r) := fun v w r δ x y h1 _ h2 _ e => by
  have h1 : rdC δ x = some (.list (v.map enc)) := h1
  have h2 : rdC δ y = some (.list (w.map enc)) := h2
  unfold catL at e
  by_cases c : v.length ≤ cap ∧ w.length ≤ cap
  · rw [if_pos c] at e
    cases some_of e
    simp only [gAdd, h1, h2, List.length_map, if_pos c, ow, List.map_append]
  · rw [if_neg c] at e
    cases e
theorem op_catT : Op2 gAdd (catT (α := α)) fun r => .val (enc r) := fun v w r δ x y h1 _ h2 _ e => by
  have h1 : rdC δ x = some (.tuple (v.l.map enc)) := h1
  have h2 : rdC δ y = some (.tuple (w.l.map enc)) := h2
  unfold catT at e
  by_cases c : v.l.length ≤ cap ∧ w.l.length ≤ cap
  · rw [if_pos c] at e
    cases some_of e
    simp only [gAdd, h1, h2, List.length_map, if_pos c]
    show Rs.ok (AV.val (.tuple _)) δ = Rs.ok (AV.val (.tuple _)) δ
    rw [List.map_append]
  · rw [if_neg c] at e
    cases e
theorem op_catS : Op2 gAdd catS fun r => .val (enc r) := fun v w r δ x y h1 _ h2 _ e => by
  have h1 : rdC δ x = some (.str v) := h1
  have h2 : rdC δ y = some (.str w) := h2
  unfold catS at e
  by_cases c : v.length ≤ cap ∧ w.length ≤ cap
  · rw [if_pos c] at e
    cases some_of e
    simp only [gAdd, h1, h2, if_pos c]
    rfl
  · rw [if_neg c] at e
    cases e
theorem op_rep : Op2 gMulX (repL (α := α)) fun r => .tmp (ow r) := fun v w r δ x y h1 _ h2 _ e => by
  have h1 : rdC δ x = some (.list (v.map enc)) := h1
  have h2 : rdC δ y = some (.int w) := h2
  unfold repL at e
  by_cases c : v.length ≤ 1000 ∧ 0 ≤ w ∧ w ≤ 1000
  · rw [if_pos c] at e
    cases some_of e
    simp only [gMulX, h1, h2, List.length_map, if_pos c, ow]
    simp only [List.map_flatten, List.map_replicate]
  · rw [if_neg c] at e
    cases e
theorem op_rev : Op1 gRev (revL (α := α)) fun r => .tmp (ow r) := fun v r δ x h1 _ e => by
  have h1 : rdC δ x = some (.list (v.map enc)) := h1
  cases some_of e
  simp only [gRev, h1, ow, List.map_reverse]
theorem item_list {δ : List Sl} {x : AV} {ds : List PyData} (h : rdC δ x = some (.list ds)) (i : Int) : itemA δ x (.int i) = atI ds i := by
  cases x with
  | val d => cases h; rfl
  | tmp s => cases h
  | ref k =>
    unfold rdC at h
    unfold itemA
    cases q : δ[k]? with
    | none => simp only [q] at h; cases h
    | some s =>
      cases s with
      | no => simp only [q] at h; cases h
      | od kvs => simp only [q] at h; cases h
      | fz d => simp only [q] at h ⊢; cases h; rfl
      | ol xs =>
        simp only [q] at h ⊢
        cases q2 : allFz xs with
        | none => rw [q2] at h; cases h
        | some es =>
          rw [q2] at h
          cases h
          rw [allFz_inv q2, atI_map]
          cases atI ds i <;> rfl
      | al y j =>
        simp only [q] at h ⊢
        cases q2 : δ[y]? with
        | none => simp only [q2] at h; cases h
        | some t =>
          cases t with
          | ol xs =>
            simp only [q2] at h ⊢
            cases q3 : xs[j]? with
            | none => rw [q3] at h; cases h
            | some el =>
              rw [q3] at h
              cases el with
              | fz d => cases h; rfl
              | ow ys => cases h; rfl
          | _ => simp only [q2] at h; cases h
theorem item_tup {δ : List Sl} {x : AV} {ds : List PyData} (h : rdC δ x = some (.tuple ds)) (i : Int) : itemA δ x (.int i) = atI ds i := by
  cases x with
  | val d => cases h; rfl
  | tmp s => cases h
  | ref k =>
    unfold rdC at h
    unfold itemA
    cases q : δ[k]? with
    | none => simp only [q] at h; cases h
    | some s =>
      cases s with
      | no => simp only [q] at h; cases h
      | od kvs => simp only [q] at h; cases h
      | fz d => simp only [q] at h ⊢; cases h; rfl
      | ol xs =>
        simp only [q] at h
        cases q2 : allFz xs with
        | none => rw [q2] at h; cases h
        | some es => rw [q2] at h; cases h
      | al y j =>
        simp only [q] at h ⊢
        cases q2 : δ[y]? with
        | none => simp only [q2] at h; cases h
        | some t =>
          cases t with
          | ol xs =>
            simp only [q2] at h ⊢
            cases q3 : xs[j]? with
            | none => rw [q3] at h; cases h
            | some el =>
              rw [q3] at h
              cases el with
              | fz d => cases h; rfl
              | ow ys => cases h
          | _ => simp only [q2] at h; cases h
theorem op_ix : Op2 gIx (atL (α := α)) fun r => .val (enc r) := fun v w r δ x y h1 _ h2 _ e => by
  have h2 : rdC δ y = some (.int w) := h2
  simp only [gIx, h2, item_list (show rdC δ x = some (.list (v.map enc)) from h1), atI_map]
  have e : atI v w = some r := e
  rw [e]
  rfl
theorem op_ixT : Op2 gIx (atT (α := α)) fun r => .val (enc r) := fun v w r δ x y h1 _ h2 _ e => by
  have h2 : rdC δ y = some (.int w) := h2
  simp only [gIx, h2, item_tup (show rdC δ x = some (.tuple (v.l.map enc)) from h1), atI_map]
  have e : atI v.l w = some r := e
  rw [e]
  rfl
/-- x[k], k written, of a tuple of other things -/
theorem pu_tix {γ : Type} [Enc γ] {Γ : Ga} {fa : List Sl → Rs AV} {pa : Option α} {π : α → γ} {k : Int} {ds : α → List PyData} (ha : Rd fa Γ pa enc) (h1 : ∀ v : α, enc v = .tuple (ds v)) (h2 : ∀ v, atI (ds v) k = some (enc (π v))) : Pu (s2 gIx fa (sC (.int k))) Γ (pa.bind fun v => some (π v)) fun r => .val (enc r) := fun r e δ s => by
  obtain ⟨v, e1, e⟩ := bind_of e
  cases some_of e
  obtain ⟨x, q1, q2, q3⟩ := ha v e1 δ s
  unfold Hb.s2
  rw [q1]
  show gIx x (.val (.int k)) δ = _
  rw [h1] at q2
  simp only [gIx, rdC, item_tup q2, h2]
theorem op_len : Op1A (gRd lenD) (lenL (α := α)) fun r => .val (enc r) := fun v r δ x h e => by
  have h : rdA δ x = some (.list (v.map enc)) := h
  cases some_of e
  simp only [gRd, h, Option.bind_some, lenD, List.length_map, flatD, if_true]
  rfl
theorem op_lenT : Op1A (gRd lenD) (lenT (α := α)) fun r => .val (enc r) := fun v r δ x h e => by
  have h : rdA δ x = some (.tuple (v.l.map enc)) := h
  cases some_of e
  simp only [gRd, h, Option.bind_some, lenD, List.length_map, flatD, if_true]
  rfl
theorem op_lenC : Op1A (gRd lenD) (lenC (κ := β) (α := α)) fun r => .val (enc r) := fun v r δ x h e => by
  have h : rdA δ x = some (.dict (v.l.map fun p => (enc p.1, enc p.2))) := h
  cases some_of e
  simp only [gRd, h, Option.bind_some, lenD, List.length_map, flatD, if_true]
  rfl
theorem op_lenS : Op1A (gRd lenD) lenS fun r => .val (enc r) := fun v r δ x h e => by
  have h : rdA δ x = some (.str v) := h
  unfold lenS at e
  by_cases c : v.length ≤ cap
  · rw [if_pos c] at e
    cases some_of e
    simp only [gRd, h, Option.bind_some, lenD, if_pos c, flatD, if_true]
    rfl
  · rw [if_neg c] at e
    cases e
theorem op_lenA : Op1A (gRd lenD) lenA fun r => .val (enc r) := fun v r δ x h e => by
  have h : rdA δ x = some v := h
  unfold lenA at e
  obtain ⟨d, e1, e2⟩ := bind_of e
  cases d with
  | int i =>
    cases some_of e2
    simp only [gRd, h, Option.bind_some, e1, flatD, if_true]
    rfl
  | _ => cases e2
theorem op_rd {k : PyData → Option PyData} {op : α → Option β} (hf : ∀ v r, op v = some r → k (enc v) = some (enc r) ∧ flatD (enc r) = true) : Op1A (gRd k) op fun r => .val (enc r) := fun v r δ x h e => by
  obtain ⟨h1, h2⟩ := hf v r e
  simp only [gRd, h, Option.bind_some, h1, h2, if_true]
theorem op_abs : Op1A (gRd absD) absI fun r => .val (enc r) := op_rd fun v r e => by cases some_of e; exact ⟨rfl, rfl⟩
theorem op_int : Op1A (gRd intD) intI fun r => .val (enc r) := op_rd fun v r e => by cases some_of e; exact ⟨rfl, rfl⟩
theorem op_intB : Op1A (gRd intD) intB fun r => .val (enc r) := op_rd fun v r e => by cases some_of e; exact ⟨rfl, rfl⟩
theorem op_sum : Op1A (gRd (overI fun ns => some (.int ns.sum))) sumI fun r => .val (enc r) := op_rd fun v r e => by
  cases some_of e
  refine ⟨?_, rfl⟩
  show (intsOf (v.map .int)).bind _ = _
  rw [intsOf_map]
  rfl
theorem op_maxL : Op1A (gRd (overI maxI)) maxL fun r => .val (enc r) := op_rd fun v r e => by
  refine ⟨?_, rfl⟩
  show (intsOf (v.map .int)).bind _ = _
  rw [intsOf_map]
  cases v with
  | nil => cases e
  | cons n ns => cases some_of e; rfl
theorem op_minL : Op1A (gRd (overI minI)) minL fun r => .val (enc r) := op_rd fun v r e => by
  refine ⟨?_, rfl⟩
  show (intsOf (v.map .int)).bind _ = _
  rw [intsOf_map]
  cases v with
  | nil => cases e
  | cons n ns => cases some_of e; rfl
theorem op_all : Op1A (gRd (overB fun ns => some (.bool (ns.all id)))) allB fun r => .val (enc r) := op_rd fun v r e => by
  cases some_of e
  refine ⟨?_, rfl⟩
  show (boolsOf (v.map .bool)).bind _ = _
  rw [boolsOf_map]
  rfl
theorem op_any : Op1A (gRd (overB fun ns => some (.bool (ns.any id)))) anyB fun r => .val (enc r) := op_rd fun v r e => by
  cases some_of e
  refine ⟨?_, rfl⟩
  show (boolsOf (v.map .bool)).bind _ = _
  rw [boolsOf_map]
  rfl
theorem op_isi {T : String} : Op1A (gIsi T) (isiN T) fun r => .val (enc r) := op_rd fun v r e => by
  cases some_of e
  exact ⟨rfl, rfl⟩
theorem op_repr : Op1A (gRd reprD) reprN fun r => .val (enc r) := op_rd fun v r e => by
  unfold reprN at e
  split at e
  · rename_i c
    cases some_of e
    exact ⟨if_pos c, rfl⟩
  · cases e
theorem op_strI : Op1A (gRd strD) strI fun r => .val (enc r) := op_rd fun v r e => by
  unfold strI at e
  split at e
  · rename_i c
    cases some_of e
    exact ⟨if_pos c, rfl⟩
  · cases e
theorem op_list : Op1 gList (listL (α := α)) fun r => .tmp (ow r) := fun v r δ x h _ e => by
  have h : rdC δ x = some (.list (v.map enc)) := h
  cases some_of e
  simp only [gList, h, ow]
theorem op_listT : Op1 gList (listT (α := α)) fun r => .tmp (ow r) := fun v r δ x h _ e => by
  have h : rdC δ x = some (.tuple (v.l.map enc)) := h
  cases some_of e
  simp only [gList, h, ow]
theorem op_tup : Op1 gTuple (tupL (α := α)) fun r => .val (enc r) := fun v r δ x h _ e => by
  have h : rdC δ x = some (.list (v.map enc)) := h
  cases some_of e
  simp only [gTuple, h]
  rfl
theorem op_srt : Op1A gSortI srtI fun r => .tmp (ow r) := fun v r δ x h e => by
  have h : rdA δ x = some (.list (v.map .int)) := h
  cases some_of e
  simp only [gSortI, h, intsOf_map]
  rfl
theorem op_srtA : Op1A gSortI srtA fun r => .tmp (ow r) := fun v r δ x h e => by
  have h : rdA δ x = some v := h
  cases v with
  | list ds =>
    have e : (intsOf ds).bind (fun ns => some (sortI ns)) = some r := e
    obtain ⟨ns, e1, e2⟩ := bind_of e
    cases some_of e2
    simp only [gSortI, h, e1]
    rfl
  | _ => cases e
theorem rgD_L (m n : Int) : rgD m n = (rgL m n).map enc := by
  unfold rgD rgL
  rw [List.map_map]
  rfl
theorem op_rg1 : Op1 gRg1 rg1 fun r => .tmp (ow r) := fun v r δ x h _ e => by
  have h : rdC δ x = some (.int v) := h
  unfold rg1 at e
  split at e
  · rename_i c
    cases some_of e
    simp only [gRg1, h, mkRg, if_pos c, rgD_L]
    rfl
  · cases e
theorem op_rg2 : Op2 gRg2 rg2 fun r => .tmp (ow r) := fun v w r δ x y h1 _ h2 _ e => by
  have h1 : rdC δ x = some (.int v) := h1
  have h2 : rdC δ y = some (.int w) := h2
  unfold rg2 at e
  split at e
  · rename_i c
    cases some_of e
    simp only [gRg2, h1, h2, mkRg, if_pos c, rgD_L]
    rfl
  · cases e
end
end Nv

/-! part N2 -/
namespace Nv
open PySem Hb L2
open Enc (enc)

/-! ### equality -/
class EncEq (α : Type) [Enc α] [DecidableEq α] where
  n : Nat
  eqv : ∀ x y : α, PyData.eqv (enc x) (enc y) = decide (x = y)
  lay : ∀ x : α, (enc x).canLay0 = true
  dep : ∀ x : α, (enc x).depth ≤ n
class NotNone (α : Type) [Enc α] : Prop where
  a : ∀ x : α, PyData.eqv (enc x) .none = false
  b : ∀ x : α, PyData.eqv .none (enc x) = false
  c : ∀ x : α, enc x ≠ .none
instance : NotNone Int := ⟨fun _ => by simp [enc, PyData.eqv], fun _ => by simp [enc, PyData.eqv], fun _ h => nomatch h⟩
instance : NotNone Bool := ⟨fun _ => by simp [enc, PyData.eqv], fun _ => by simp [enc, PyData.eqv], fun _ h => nomatch h⟩
instance : NotNone Str := ⟨fun _ => by simp [enc, PyData.eqv], fun _ => by simp [enc, PyData.eqv], fun _ h => nomatch h⟩
instance {α : Type} [Enc α] : NotNone (List α) := ⟨fun _ => by simp [enc, PyData.eqv], fun _ => by simp [enc, PyData.eqv], fun _ h => nomatch h⟩
instance {α : Type} [Enc α] : NotNone (Tp α) := ⟨fun _ => by simp [enc, PyData.eqv], fun _ => by simp [enc, PyData.eqv], fun _ h => nomatch h⟩
instance {α β : Type} [Enc α] [Enc β] : NotNone (α × β) := ⟨fun _ => by simp [enc, PyData.eqv], fun _ => by simp [enc, PyData.eqv], fun _ h => nomatch h⟩
instance {α β γ : Type} [Enc α] [Enc β] [Enc γ] : NotNone (T3 α β γ) := ⟨fun _ => by simp [enc, PyData.eqv], fun _ => by simp [enc, PyData.eqv], fun _ h => nomatch h⟩
instance : EncEq Int := ⟨0, fun x y => by simp [enc, PyData.eqv]; by_cases h : x = y <;> simp [h], fun _ => by simp [enc, PyData.canLay0], fun _ => by simp [enc, PyData.depth]⟩
instance : EncEq Bool := ⟨0, fun x y => by cases x <;> cases y <;> simp [enc, PyData.eqv], fun _ => by simp [enc, PyData.canLay0], fun _ => by simp [enc, PyData.depth]⟩
instance : EncEq Unit := ⟨0, fun x y => by simp [enc, PyData.eqv], fun _ => by simp [enc, PyData.canLay0], fun _ => by simp [enc, PyData.depth]⟩
section
variable {α : Type} [Enc α] [DecidableEq α] [EncEq α]
theorem eqvAll_enc : ∀ xs ys : List α, PyData.eqvAll (xs.map enc) (ys.map enc) = decide (xs = ys)
  | [], [] => by simp [PyData.eqvAll]
  | [], y :: ys => by simp [PyData.eqvAll]
  | x :: xs, [] => by simp [PyData.eqvAll]
  | x :: xs, y :: ys => by
    simp only [List.map_cons, PyData.eqvAll, eqvAll_enc xs ys, EncEq.eqv]
    by_cases h : x = y <;> by_cases h2 : xs = ys <;> simp [h, h2]
theorem layAll_enc : ∀ xs : List α, PyData.canLayAll0 (xs.map enc) = true
  | [] => by simp [PyData.canLayAll0]
  | x :: xs => by simp [PyData.canLayAll0, EncEq.lay, layAll_enc xs]
theorem depAll_enc : ∀ xs : List α, PyData.depthAll (xs.map enc) ≤ EncEq.n α
  | [] => by simp [PyData.depthAll]
  | x :: xs => by
    have h1 := EncEq.dep x
    have h2 := depAll_enc xs
    simp only [List.map_cons, PyData.depthAll]
    omega
end
instance {α : Type} [Enc α] [DecidableEq α] [EncEq α] : EncEq (List α) := ⟨EncEq.n α + 1, fun x y => by
    show PyData.eqv (.list _) (.list _) = _
    simp only [PyData.eqv]
    exact eqvAll_enc x y, fun x => by
    show PyData.canLay0 (.list _) = true
    simp only [PyData.canLay0]
    exact layAll_enc x, fun x => by
    show PyData.depth (.list _) ≤ _
    simp only [PyData.depth]
    have := depAll_enc x
    omega⟩
instance {α : Type} [Enc α] [DecidableEq α] [EncEq α] : EncEq (Tp α) := ⟨EncEq.n α + 1, fun x y => by
    show PyData.eqv (.tuple _) (.tuple _) = _
    simp only [PyData.eqv]
    rw [eqvAll_enc]
    cases x; cases y
    simp, fun x => by
    show PyData.canLay0 (.tuple _) = true
    simp only [PyData.canLay0]
    exact layAll_enc x.l, fun x => by
    show PyData.depth (.tuple _) ≤ _
    simp only [PyData.depth]
    have := depAll_enc x.l
    omega⟩
instance {α β : Type} [Enc α] [DecidableEq α] [EncEq α] [Enc β] [DecidableEq β] [EncEq β] : EncEq (α × β) := ⟨max (EncEq.n α) (EncEq.n β) + 1, fun x y => by
    show PyData.eqv (.tuple _) (.tuple _) = _
    simp only [PyData.eqv, PyData.eqvAll, EncEq.eqv, Bool.and_true]
    cases x; cases y
    rw [← Bool.decide_and]
    simp, fun x => by
    show PyData.canLay0 (.tuple _) = true
    simp only [PyData.canLay0, PyData.canLayAll0, EncEq.lay, Bool.and_true], fun x => by
    show PyData.depth (.tuple _) ≤ _
    simp only [PyData.depth, PyData.depthAll]
    have h1 := EncEq.dep x.1
    have h2 := EncEq.dep x.2
    omega⟩
instance {α β γ : Type} [Enc α] [DecidableEq α] [EncEq α] [Enc β] [DecidableEq β] [EncEq β] [Enc γ] [DecidableEq γ] [EncEq γ] : EncEq (T3 α β γ) := ⟨max (EncEq.n α) (max (EncEq.n β) (EncEq.n γ)) + 1, fun x y => by
    show PyData.eqv (.tuple _) (.tuple _) = _
    simp only [PyData.eqv, PyData.eqvAll, EncEq.eqv, Bool.and_true]
    cases x; cases y
    rw [← Bool.decide_and, ← Bool.decide_and]
    simp, fun x => by
    show PyData.canLay0 (.tuple _) = true
    simp only [PyData.canLay0, PyData.canLayAll0, EncEq.lay, Bool.and_true], fun x => by
    show PyData.depth (.tuple _) ≤ _
    simp only [PyData.depth, PyData.depthAll]
    have h1 := EncEq.dep x.a
    have h2 := EncEq.dep x.b
    have h3 := EncEq.dep x.c
    omega⟩
instance {α : Type} [Enc α] [DecidableEq α] [EncEq α] [NotNone α] : EncEq (Option α) := ⟨EncEq.n α, fun x y => by
    cases x with
    | none =>
      cases y with
      | none => simp [enc, PyData.eqv]
      | some y => exact (NotNone.b y).trans (by simp)
    | some x =>
      cases y with
      | none => exact (NotNone.a x).trans (by simp)
      | some y =>
        show PyData.eqv (enc x) (enc y) = _
        rw [EncEq.eqv]
        simp, fun x => by
    cases x with
    | none => simp [enc, PyData.canLay0]
    | some x => exact EncEq.lay x, fun x => by
    cases x with
    | none => simp [enc, PyData.depth]
    | some x => exact EncEq.dep x⟩
def eqN {α : Type} [DecidableEq α] (x y : α) : Option Bool := some (decide (x = y))
def neN {α : Type} [DecidableEq α] (x y : α) : Option Bool := some (!decide (x = y))
def eqA (x y : PyData) : Option Bool := eqD x y
def neA (x y : PyData) : Option Bool := (eqD x y).map (! ·)
def isE {α : Type} (xs : List α) : Option Bool := some xs.isEmpty
def neE {α : Type} (xs : List α) : Option Bool := some !xs.isEmpty
def eqS (x y : Str) : Option Bool := some (x.cps.toList == y.cps.toList)
def neS (x y : Str) : Option Bool := some !(x.cps.toList == y.cps.toList)
def inL {α : Type} [DecidableEq α] (x : α) (xs : List α) : Option Bool := some (decide (x ∈ xs))
def ninL {α : Type} [DecidableEq α] (x : α) (xs : List α) : Option Bool := some (!decide (x ∈ xs))
def isN {α : Type} (x : Option α) : Option Bool := some x.isNone
def isnN {α : Type} (x : Option α) : Option Bool := some x.isSome
def isB (x y : Bool) : Option Bool := some (x == y)
def isnB (x y : Bool) : Option Bool := some !(x == y)
def notB (x : Bool) : Option Bool := some !x
def notL {α : Type} (x : List α) : Option Bool := some x.isEmpty
def idxL {α : Type} [DecidableEq α] (xs : List α) (x : α) : Option Int := (xs.findIdx? fun z => decide (z = x)).map fun i => (i : Int)
section
variable {α β : Type} [Enc α] [DecidableEq α] [EncEq α]
theorem shaped_enc (h : EncEq.n α ≤ 64) (x : α) : SeqAt.shaped (enc x) = true := by
  unfold SeqAt.shaped
  have := EncEq.dep x
  rw [EncEq.lay, Bool.true_and, decide_eq_true_eq]
  omega
theorem eqD_enc (h : EncEq.n α ≤ 64) (x y : α) : eqD (enc x) (enc y) = some (decide (x = y)) := by
  unfold eqD
  rw [if_pos ⟨shaped_enc h x, shaped_enc h y⟩, EncEq.eqv]
theorem op_eq (h : EncEq.n α ≤ 64 := by decide) : Op2A gEq (eqN (α := α)) fun r => .val (enc r) := fun v w r δ x y h1 h2 e => by
  cases some_of e
  simp only [gEq, h1, h2, eqD_enc h]
  rfl
theorem op_ne (h : EncEq.n α ≤ 64 := by decide) : Op2A gNe (neN (α := α)) fun r => .val (enc r) := fun v w r δ x y h1 h2 e => by
  cases some_of e
  simp only [gNe, h1, h2, eqD_enc h]
  rfl
theorem op_eqA : Op2A gEq eqA fun r => .val (enc r) := fun v w r δ x y h1 h2 e => by
  have e : eqD v w = some r := e
  have h1 : rdA δ x = some v := h1
  have h2 : rdA δ y = some w := h2
  simp only [gEq, h1, h2, e]
  rfl
theorem op_neA : Op2A gNe neA fun r => .val (enc r) := fun v w r δ x y h1 h2 e => by
  have h1 : rdA δ x = some v := h1
  have h2 : rdA δ y = some w := h2
  unfold neA at e
  cases q : eqD v w with
  | none => rw [q] at e; cases e
  | some k =>
    rw [q] at e
    cases some_of e
    simp only [gNe, h1, h2, q]
    rfl
theorem any_enc (x : α) : ∀ xs : List α, ((xs.map enc).any fun z => PyData.eqv z (enc x)) = decide (x ∈ xs)
  | [] => by simp
  | y :: ys => by
    rw [List.map_cons, List.any_cons, any_enc x ys, EncEq.eqv]
    by_cases h : y = x
    · simp [h]
    · have h2 : x ≠ y := fun z => h z.symm
      simp [h, h2]
theorem op_in (h : EncEq.n α ≤ 63 := by decide) : Op2A (gIn false) (inL (α := α)) fun r => .val (enc r) := fun v w r δ x y h1 h2 e => by
  cases some_of e
  have h2 : rdA δ y = some (.list (w.map enc)) := h2
  have hs : SeqAt.shaped (.list (w.map enc)) = true := shaped_enc (α := List α) (by show EncEq.n α + 1 ≤ 64; omega) w
  simp only [gIn, h1, h2, inD, if_pos (And.intro (shaped_enc (by omega) v) hs), any_enc]
  rfl
theorem op_nin (h : EncEq.n α ≤ 63 := by decide) : Op2A (gIn true) (ninL (α := α)) fun r => .val (enc r) := fun v w r δ x y h1 h2 e => by
  cases some_of e
  have h2 : rdA δ y = some (.list (w.map enc)) := h2
  have hs : SeqAt.shaped (.list (w.map enc)) = true := shaped_enc (α := List α) (by show EncEq.n α + 1 ≤ 64; omega) w
  simp only [gIn, h1, h2, inD, if_pos (And.intro (shaped_enc (by omega) v) hs), any_enc]
  rfl
theorem op_idx (h : EncEq.n α ≤ 63 := by decide) : Op2 gIdx (idxL (α := α)) fun r => .val (enc r) := fun v w r δ x y h1 _ h2 _ e => by
  have h1 : rdC δ x = some (.list (v.map enc)) := h1
  have hs : SeqAt.shaped (.list (v.map enc)) = true := shaped_enc (α := List α) (by show EncEq.n α + 1 ≤ 64; omega) v
  have ef : (v.map enc).findIdx? (fun z => PyData.eqv z (enc w)) = v.findIdx? fun z => decide (z = w) := by
    rw [List.findIdx?_map]
    congr 1
    funext z
    exact EncEq.eqv z w
  unfold idxL at e
  cases q : v.findIdx? fun z => decide (z = w) with
  | none => rw [q] at e; cases e
  | some j =>
    rw [q] at e
    cases some_of e
    simp only [gIdx, h1, h2, if_pos (And.intro hs (shaped_enc (by omega) w)), ef, q]
    rfl
end
def isNA (d : PyData) : Option Bool := some (match d with
  | .none => true
  | _ => false)
def isnNA (d : PyData) : Option Bool := some (match d with
  | .none => false
  | _ => true)
section
variable {α β : Type} [Enc α] {Γ : Ga} {fa fb : List Sl → Rs AV}
theorem rdA_val (d : PyData) (δ : List Sl) : rdA δ (.val d) = some d := rfl
theorem sSt_c (d : PyData) (δ : List Sl) : sSt (sC d) δ = .ok (.val d) δ := rfl
theorem sSt_nil (δ : List Sl) : sSt (sLst lNil) δ = .ok (.val (.list [])) δ := rfl
theorem pu_eqE {n : Bool} {pa : Option (List α)} (ha : Ra fa Γ pa enc) : Pu (s2 (gEqE n) fa (sLst lNil)) Γ (pa.bind fun x => some (n != x.isEmpty)) fun r => .val (enc r) := fun r e δ s => by
  obtain ⟨v, e1, e⟩ := bind_of e
  cases some_of e
  obtain ⟨x, h1, h3⟩ := ha v e1 δ s
  unfold s2
  rw [h1]
  have h3 : rdA δ x = some (.list (v.map enc)) := h3
  show gEqE n x (.val (.list [])) δ = _
  simp only [gEqE, h3, rdA_val, List.isEmpty_map]
  rfl
theorem ev_eqE {ε : Type} {n : Bool} {pa : Option ε} {va : ε → List α} {Γ' : ε → Ga} (ha : Es fa Γ pa (fun x => enc (va x)) Γ') : Ev (s2 (gEqE n) fa (sLst lNil)) Γ (pa.bind fun x => some (n != (va x).isEmpty, x)) (fun r => .val (enc r.1)) fun r => Γ' r.2 := fun r e δ s => by
  obtain ⟨v, e1, e⟩ := bind_of e
  cases some_of e
  obtain ⟨x, δ1, h1, h2, h3, s1⟩ := ha v e1 δ s
  refine ⟨δ1, ?_, s1⟩
  unfold s2
  rw [h1]
  have h3 : rdA δ1 x = some (.list ((va v).map enc)) := h3
  show gEqE n x (.val (.list [])) δ1 = _
  simp only [gEqE, h3, rdA_val, List.isEmpty_map]
  rfl
def noneD : PyData → Bool
  | .none => true
  | _ => false
theorem isD_none {d : PyData} : isD d .none = some (noneD d) := by cases d <;> rfl
theorem pu_isX {n : Bool} {pa : Option PyData} (ha : Ra fa Γ pa enc) : Pu (s2 (gIs n) fa (sC .none)) Γ (pa.bind fun d => some (if n = true then !(noneD d) else noneD d)) fun r => .val (enc r) := fun r e δ s => by
  obtain ⟨v, e1, e⟩ := bind_of e
  cases some_of e
  obtain ⟨x, h1, h3⟩ := ha v e1 δ s
  unfold s2
  rw [h1]
  have h3 : rdA δ x = some v := h3
  show gIs n x (.val .none) δ = _
  simp only [gIs, h3, rdA_val, isD_none]
  rfl
theorem isNone_m [NotNone α] (x : Option α) : noneD (enc x : PyData) = x.isNone := by
  cases x with
  | none => rfl
  | some x =>
    show noneD (enc x : PyData) = false
    have := NotNone.c x
    cases q : (enc x : PyData) <;> first | rfl | exact absurd q this
theorem pu_isN [NotNone α] {n : Bool} {pa : Option (Option α)} (ha : Ra fa Γ pa enc) : Pu (s2 (gIs n) fa (sC .none)) Γ (pa.bind fun x => some (if n = true then x.isSome else x.isNone)) fun r => .val (enc r) := fun r e δ s => by
  obtain ⟨v, e1, e⟩ := bind_of e
  have h : Ra fa Γ (some (enc v : PyData)) (enc : PyData → PyData) := fun u eu δ s => by
    cases some_of eu
    exact ha v e1 δ s
  have k := pu_isX (n := n) h r (by
    rw [← e]
    show some _ = some _
    rw [isNone_m]
    cases n with
    | false => rfl
    | true =>
      cases v <;> rfl) δ s
  exact k
theorem op_isB : Op2A (gIs false) isB fun r => .val (enc r) := fun v w r δ x y h1 h2 e => by
  have h1 : rdA δ x = some (.bool v) := h1
  have h2 : rdA δ y = some (.bool w) := h2
  cases some_of e
  simp only [gIs, h1, h2, isD]
  rfl
theorem op_isnB : Op2A (gIs true) isnB fun r => .val (enc r) := fun v w r δ x y h1 h2 e => by
  have h1 : rdA δ x = some (.bool v) := h1
  have h2 : rdA δ y = some (.bool w) := h2
  cases some_of e
  simp only [gIs, h1, h2, isD]
  rfl
theorem op_notB : Op1A gNot notB fun r => .val (enc r) := fun v r δ x h e => by
  have h : rdA δ x = some (.bool v) := h
  cases some_of e
  simp only [gNot, h, Option.bind_some, truD]
  rfl
theorem op_notL : Op1A gNot (notL (α := α)) fun r => .val (enc r) := fun v r δ x h e => by
  have h : rdA δ x = some (.list (v.map enc)) := h
  cases some_of e
  simp only [gNot, h, Option.bind_some, truD, List.isEmpty_map, Bool.not_not]
  rfl
theorem op_eqS : Op2 (gEqS false) eqS fun r => .val (enc r) := fun v w r δ x y h1 _ h2 _ e => by
  have h1 : rdC δ x = some (.str v) := h1
  have h2 : rdC δ y = some (.str w) := h2
  cases some_of e
  simp only [gEqS, h1, h2]
  show Rs.ok (AV.val (.bool _)) δ = Rs.ok (AV.val (.bool _)) δ
  cases (v.cps.toList == w.cps.toList) <;> rfl
theorem op_neS : Op2 (gEqS true) neS fun r => .val (enc r) := fun v w r δ x y h1 _ h2 _ e => by
  have h1 : rdC δ x = some (.str v) := h1
  have h2 : rdC δ y = some (.str w) := h2
  cases some_of e
  simp only [gEqS, h1, h2]
  show Rs.ok (AV.val (.bool _)) δ = Rs.ok (AV.val (.bool _)) δ
  cases (v.cps.toList == w.cps.toList) <;> rfl
end

/-! ### tests -/
section
variable {α β ε ζ : Type} {Γ : Ga} {f : List Sl → Rs AV} {t u : List Sl → Rs Bool}
theorem ts_tst {p : Option Bool} (h : Pu f Γ p fun b => .val (enc b)) : Ts (sTst f) Γ p := fun v e δ s => by
  unfold sTst
  rw [h v e δ s]
  rfl
theorem ts_truB {p : Option Bool} (h : Ra f Γ p enc) : Ts (sTru f) Γ p := fun v e δ s => by
  obtain ⟨x, h1, h2⟩ := h v e δ s
  unfold sTru
  rw [h1]
  show (match (rdA δ x).bind truD with
    | some k => Rs.ok k δ
    | none => .bad) = _
  rw [h2]
  rfl
theorem ts_truL [Enc α] {p : Option (List α)} (h : Ra f Γ p enc) : Ts (sTru f) Γ (p.bind fun x => some !x.isEmpty) := fun r e δ s => by
  obtain ⟨v, e1, e⟩ := bind_of e
  cases some_of e
  obtain ⟨x, h1, h2⟩ := h v e1 δ s
  have h2 : rdA δ x = some (.list (v.map enc)) := h2
  unfold sTru
  rw [h1]
  show (match (rdA δ x).bind truD with
    | some k => Rs.ok k δ
    | none => .bad) = _
  rw [h2]
  simp only [Option.bind_some, truD, List.isEmpty_map]
theorem ts_truI {p : Option Int} (h : Ra f Γ p enc) : Ts (sTru f) Γ (p.bind fun x => some (x != 0)) := fun r e δ s => by
  obtain ⟨v, e1, e⟩ := bind_of e
  cases some_of e
  obtain ⟨x, h1, h2⟩ := h v e1 δ s
  unfold sTru
  rw [h1]
  show (match (rdA δ x).bind truD with
    | some k => Rs.ok k δ
    | none => .bad) = _
  rw [h2]
  rfl
theorem ts_not {p : Option Bool} (h : Ts t Γ p) : Ts (sNot t) Γ (p.bind fun b => some !b) := fun r e δ s => by
  obtain ⟨v, e1, e⟩ := bind_of e
  cases some_of e
  unfold sNot
  rw [h v e1 δ s]
  rfl
theorem ts_and {p q : Option Bool} (h : Ts t Γ p) (k : Ts u Γ q) : Ts (sAnd t u) Γ (p.bind fun b => if b = true then q else some false) := fun r e δ s => by
  obtain ⟨v, e1, e⟩ := bind_of e
  unfold sAnd
  rw [h v e1 δ s]
  cases v with
  | true => exact k r e δ s
  | false => cases some_of e; rfl
theorem ts_or {p q : Option Bool} (h : Ts t Γ p) (k : Ts u Γ q) : Ts (sOr t u) Γ (p.bind fun b => if b = true then some true else q) := fun r e δ s => by
  obtain ⟨v, e1, e⟩ := bind_of e
  unfold sOr
  rw [h v e1 δ s]
  cases v with
  | true => cases some_of e; rfl
  | false => exact k r e δ s
theorem ts_ok : Ts tOk Γ (some true) := fun r e δ s => by cases some_of e; rfl
theorem Ts.te {p : Option Bool} (h : Ts t Γ p) : Te t Γ p id fun _ => Γ := fun v e δ s => ⟨δ, h v e δ s, s⟩
theorem te_tst {p : Option ε} {k : ε → Bool} {Γ' : ε → Ga} (h : Ev f Γ p (fun v => .val (enc (k v))) Γ') : Te (sTst f) Γ p k Γ' := fun v e δ s => by
  obtain ⟨δ', h1, s1⟩ := h v e δ s
  refine ⟨δ', ?_, s1⟩
  unfold sTst
  rw [h1]
  rfl
theorem te_truB {p : Option ε} {k : ε → Bool} {Γ' : ε → Ga} (h : Es f Γ p (fun v => enc (k v)) Γ') : Te (sTru f) Γ p k Γ' := fun v e δ s => by
  obtain ⟨x, δ', h1, h2, h3, s1⟩ := h v e δ s
  refine ⟨δ', ?_, s1⟩
  unfold sTru
  rw [h1]
  show (match (rdA δ' x).bind truD with
    | some k => Rs.ok k δ'
    | none => .bad) = _
  rw [h3]
  rfl
theorem te_not {p : Option ε} {k : ε → Bool} {Γ' : ε → Ga} (h : Te t Γ p k Γ') : Te (sNot t) Γ p (fun v => !k v) Γ' := fun v e δ s => by
  obtain ⟨δ', h1, s1⟩ := h v e δ s
  refine ⟨δ', ?_, s1⟩
  unfold sNot
  rw [h1]
  rfl
theorem te_and {p : Option ε} {k : ε → Bool} {Γ1 : ε → Ga} {q : ε → Option ζ} {k2 : ζ → Bool} {Γ2 : ζ → Ga} {z : ε → ζ} (h : Te t Γ p k Γ1) (h2 : ∀ v, Te u (Γ1 v) (q v) k2 Γ2) (hz : ∀ v, k2 (z v) = false ∧ Γ2 (z v) = Γ1 v) : Te (sAnd t u) Γ (p.bind fun v => if k v = true then q v else some (z v)) k2 Γ2 := fun r e δ s => by
  obtain ⟨v, e1, e⟩ := bind_of e
  obtain ⟨δ', h1, s1⟩ := h v e1 δ s
  unfold sAnd
  rw [h1]
  by_cases c : k v = true
  · rw [if_pos c] at e
    show ∃ δ2, (if k v = true then u δ' else .ok false δ') = _ ∧ _
    rw [if_pos c]
    exact h2 v r e δ' s1
  · rw [if_neg c] at e
    cases some_of e
    show ∃ δ2, (if k v = true then u δ' else .ok false δ') = _ ∧ _
    rw [if_neg c]
    exact ⟨δ', by rw [(hz v).1], by rw [(hz v).2]; exact s1⟩
theorem te_or {p : Option ε} {k : ε → Bool} {Γ1 : ε → Ga} {q : ε → Option ζ} {k2 : ζ → Bool} {Γ2 : ζ → Ga} {z : ε → ζ} (h : Te t Γ p k Γ1) (h2 : ∀ v, Te u (Γ1 v) (q v) k2 Γ2) (hz : ∀ v, k2 (z v) = true ∧ Γ2 (z v) = Γ1 v) : Te (sOr t u) Γ (p.bind fun v => if k v = true then some (z v) else q v) k2 Γ2 := fun r e δ s => by
  obtain ⟨v, e1, e⟩ := bind_of e
  obtain ⟨δ', h1, s1⟩ := h v e1 δ s
  unfold sOr
  rw [h1]
  by_cases c : k v = true
  · rw [if_pos c] at e
    cases some_of e
    show ∃ δ2, (if k v = true then .ok true δ' else u δ') = _ ∧ _
    rw [if_pos c]
    exact ⟨δ', by rw [(hz v).1], by rw [(hz v).2]; exact s1⟩
  · rw [if_neg c] at e
    show ∃ δ2, (if k v = true then .ok true δ' else u δ') = _ ∧ _
    rw [if_neg c]
    exact h2 v r e δ' s1
/-! choices -/
theorem pu_if {fa fb : List Sl → Rs AV} {pt : Option Bool} {pa pb : Option β} {a : β → AV} (h : Ts t Γ pt) (ha : Pu fa Γ pa a) (hb : Pu fb Γ pb a) : Pu (sIf t fa fb) Γ (pt.bind fun c => if c = true then pa else pb) a := fun r e δ s => by
  obtain ⟨v, e1, e⟩ := bind_of e
  unfold sIf
  rw [h v e1 δ s]
  cases v with
  | true => exact ha r e δ s
  | false => exact hb r e δ s
theorem ev_if {fa fb : List Sl → Rs AV} {p : Option ε} {k : ε → Bool} {Γ1 : ε → Ga} {pa pb : ε → Option β} {a : β → AV} {Γ2 : β → Ga} (h : Te t Γ p k Γ1) (ha : ∀ v, Ev fa (Γ1 v) (pa v) a Γ2) (hb : ∀ v, Ev fb (Γ1 v) (pb v) a Γ2) : Ev (sIf t fa fb) Γ (p.bind fun v => if k v = true then pa v else pb v) a Γ2 := fun r e δ s => by
  obtain ⟨v, e1, e⟩ := bind_of e
  obtain ⟨δ', h1, s1⟩ := h v e1 δ s
  unfold sIf
  rw [h1]
  by_cases c : k v = true
  · rw [if_pos c] at e
    show ∃ δ2, (if k v = true then fa δ' else fb δ') = _ ∧ _
    rw [if_pos c]
    exact ha v r e δ' s1
  · rw [if_neg c] at e
    show ∃ δ2, (if k v = true then fa δ' else fb δ') = _ ∧ _
    rw [if_neg c]
    exact hb v r e δ' s1
theorem pu_andV {fa fb : List Sl → Rs AV} {pa pb : Option Bool} (ha : Pu fa Γ pa fun b => .val (enc b)) (hb : Pu fb Γ pb fun b => .val (enc b)) : Pu (sAndV fa fb) Γ (pa.bind fun b => if b = true then pb else some false) fun b => .val (enc b) := fun r e δ s => by
  obtain ⟨v, e1, e⟩ := bind_of e
  unfold sAndV
  rw [sSt_val (ha v e1 δ s)]
  cases v with
  | true => exact hb r e δ s
  | false => cases some_of e; rfl
theorem pu_orV {fa fb : List Sl → Rs AV} {pa pb : Option Bool} (ha : Pu fa Γ pa fun b => .val (enc b)) (hb : Pu fb Γ pb fun b => .val (enc b)) : Pu (sOrV fa fb) Γ (pa.bind fun b => if b = true then some true else pb) fun b => .val (enc b) := fun r e δ s => by
  obtain ⟨v, e1, e⟩ := bind_of e
  unfold sOrV
  rw [sSt_val (ha v e1 δ s)]
  cases v with
  | true => cases some_of e; rfl
  | false => exact hb r e δ s
theorem ev_andV {fa fb : List Sl → Rs AV} {p : Option ε} {k : ε → Bool} {Γ1 : ε → Ga} {q : ε → Option ζ} {k2 : ζ → Bool} {Γ2 : ζ → Ga} {z : ε → ζ} (h : Ev fa Γ p (fun v => .val (enc (k v))) Γ1) (h2 : ∀ v, Ev fb (Γ1 v) (q v) (fun w => .val (enc (k2 w))) Γ2) (hz : ∀ v, k2 (z v) = false ∧ Γ2 (z v) = Γ1 v) : Ev (sAndV fa fb) Γ (p.bind fun v => if k v = true then q v else some (z v)) (fun w => .val (enc (k2 w))) Γ2 := fun r e δ s => by
  obtain ⟨v, e1, e⟩ := bind_of e
  obtain ⟨δ', h1, s1⟩ := h v e1 δ s
  unfold sAndV
  rw [sSt_val h1]
  show ∃ δ2, (if k v = true then fb δ' else .ok (.val (enc (k v))) δ') = _ ∧ _
  by_cases c : k v = true
  · rw [if_pos c] at e ⊢
    exact h2 v r e δ' s1
  · rw [if_neg c] at e ⊢
    cases some_of e
    exact ⟨δ', by show _ = Rs.ok (AV.val (enc (k2 (z v)))) δ'; rw [(hz v).1, (Bool.not_eq_true _).mp c], by rw [(hz v).2]; exact s1⟩
theorem ev_orV {fa fb : List Sl → Rs AV} {p : Option ε} {k : ε → Bool} {Γ1 : ε → Ga} {q : ε → Option ζ} {k2 : ζ → Bool} {Γ2 : ζ → Ga} {z : ε → ζ} (h : Ev fa Γ p (fun v => .val (enc (k v))) Γ1) (h2 : ∀ v, Ev fb (Γ1 v) (q v) (fun w => .val (enc (k2 w))) Γ2) (hz : ∀ v, k2 (z v) = true ∧ Γ2 (z v) = Γ1 v) : Ev (sOrV fa fb) Γ (p.bind fun v => if k v = true then some (z v) else q v) (fun w => .val (enc (k2 w))) Γ2 := fun r e δ s => by
  obtain ⟨v, e1, e⟩ := bind_of e
  obtain ⟨δ', h1, s1⟩ := h v e1 δ s
  unfold sOrV
  rw [sSt_val h1]
  show ∃ δ2, (if k v = true then .ok (.val (enc (k v))) δ' else fb δ') = _ ∧ _
  by_cases c : k v = true
  · rw [if_pos c] at e ⊢
    cases some_of e
    exact ⟨δ', by show _ = Rs.ok (AV.val (enc (k2 (z v)))) δ'; rw [(hz v).1, c], by rw [(hz v).2]; exact s1⟩
  · rw [if_neg c] at e ⊢
    exact h2 v r e δ' s1
end
end Nv

/-! part N3 -/
namespace Nv
open PySem Hb L2
open Enc (enc)

/-! ### displays -/
section
variable {α β γ ε ζ : Type} {Γ : Ga} {f : List Sl → Rs AV}
def Dl (g : List Sl → Rs (List PyData)) (Γ : Ga) (p : Option β) (ds : β → List PyData) (Γ' : β → Ga) : Prop := ∀ v, p = some v → ∀ δ, Sat Γ δ → ∃ δ', g δ = .ok (ds v) δ' ∧ Sat (Γ' v) δ'
def DlP (g : List Sl → Rs (List PyData)) (Γ : Ga) (p : Option β) (ds : β → List PyData) : Prop := ∀ v, p = some v → ∀ δ, Sat Γ δ → g δ = .ok (ds v) δ
variable {g : List Sl → Rs (List PyData)}
theorem dp_nil : DlP lNil Γ (some ()) fun _ => [] := fun v _ δ _ => rfl
theorem dp_cons {p : Option ε} {d : ε → PyData} {q : Option ζ} {ds : ζ → List PyData} (h : Pu (sTk f) Γ p fun v => .val (d v)) (h2 : DlP g Γ q ds) : DlP (lCons f g) Γ (p.bind fun x => q.bind fun y => some (x, y)) fun v => d v.1 :: ds v.2 := fun r e δ s => by
  obtain ⟨v, e1, e⟩ := bind_of e
  obtain ⟨w, e2, e⟩ := bind_of e
  cases some_of e
  unfold lCons Rs.val
  rw [h v e1 δ s]
  show (g δ).bind _ = _
  rw [h2 w e2 δ s]
  rfl
theorem dl_nil : Dl lNil Γ (some ()) (fun _ => []) fun _ => Γ := fun v _ δ s => ⟨δ, rfl, s⟩
theorem dl_cons {p : Option ε} {d : ε → PyData} {Γ1 : ε → Ga} {q : ε → Option ζ} {ds : ζ → List PyData} {Γ2 : ε → ζ → Ga} (h : Ev (sTk f) Γ p (fun v => .val (d v)) Γ1) (h2 : ∀ x, Dl g (Γ1 x) (q x) ds (Γ2 x)) : Dl (lCons f g) Γ (p.bind fun x => (q x).bind fun y => some (x, y)) (fun v => d v.1 :: ds v.2) fun v => Γ2 v.1 v.2 := fun r e δ s => by
  obtain ⟨v, e1, e⟩ := bind_of e
  obtain ⟨w, e2, e⟩ := bind_of e
  cases some_of e
  obtain ⟨δ1, h1, s1⟩ := h v e1 δ s
  obtain ⟨δ2, h3, s2⟩ := h2 v w e2 δ1 s1
  refine ⟨δ2, ?_, s2⟩
  unfold lCons Rs.val
  rw [h1]
  show (g δ1).bind _ = _
  rw [h3]
  rfl
theorem pu_lst [Enc α] {p : Option β} {ds : β → List PyData} (h : DlP g Γ p ds) (xs : β → List α) (hx : ∀ v, ds v = (xs v).map enc := by intro _; rfl) (hl : ∀ v, (xs v).length ≤ cap := by intro _; exact Nat.le_of_ble_eq_true rfl) : Pu (sLst g) Γ (p.bind fun v => some (xs v)) fun r => .tmp (ow r) := fun r e δ s => by
  obtain ⟨v, e1, e⟩ := bind_of e
  cases some_of e
  unfold sLst
  rw [h v e1 δ s]
  show (if (ds v).length ≤ cap then _ else _) = _
  rw [hx v, List.length_map, if_pos (hl v)]
  rfl
theorem pu_tup [Enc α] {p : Option β} {ds : β → List PyData} (h : DlP g Γ p ds) (t : β → α) (hx : ∀ v, enc (t v) = .tuple (ds v) := by intro _; rfl) (hl : ∀ v, (ds v).length ≤ cap := by intro _; exact Nat.le_of_ble_eq_true rfl) : Pu (sTup g) Γ (p.bind fun v => some (t v)) fun r => .val (enc r) := fun r e δ s => by
  obtain ⟨v, e1, e⟩ := bind_of e
  cases some_of e
  unfold sTup
  rw [h v e1 δ s]
  show (if (ds v).length ≤ cap then _ else _) = _
  rw [if_pos (hl v)]
  show Rs.ok (AV.val (.tuple (ds v))) δ = Rs.ok (AV.val (enc (t v))) δ
  rw [hx]
theorem ev_lst [Enc α] {p : Option β} {ds : β → List PyData} {Γ' : β → Ga} (h : Dl g Γ p ds Γ') (xs : β → List α) (hx : ∀ v, ds v = (xs v).map enc := by intro _; rfl) (hl : ∀ v, (xs v).length ≤ cap := by intro _; exact Nat.le_of_ble_eq_true rfl) : Ev (sLst g) Γ (p.bind fun v => some (xs v, v)) (fun r => .tmp (ow r.1)) fun r => Γ' r.2 := fun r e δ s => by
  obtain ⟨v, e1, e⟩ := bind_of e
  cases some_of e
  obtain ⟨δ1, h1, s1⟩ := h v e1 δ s
  refine ⟨δ1, ?_, s1⟩
  unfold sLst
  rw [h1]
  show (if (ds v).length ≤ cap then _ else _) = _
  rw [hx v, List.length_map, if_pos (hl v)]
  rfl
theorem ev_tup [Enc α] {p : Option β} {ds : β → List PyData} {Γ' : β → Ga} (h : Dl g Γ p ds Γ') (t : β → α) (hx : ∀ v, enc (t v) = .tuple (ds v) := by intro _; rfl) (hl : ∀ v, (ds v).length ≤ cap := by intro _; exact Nat.le_of_ble_eq_true rfl) : Ev (sTup g) Γ (p.bind fun v => some (t v, v)) (fun r => .val (enc r.1)) fun r => Γ' r.2 := fun r e δ s => by
  obtain ⟨v, e1, e⟩ := bind_of e
  cases some_of e
  obtain ⟨δ1, h1, s1⟩ := h v e1 δ s
  refine ⟨δ1, ?_, s1⟩
  unfold sTup
  rw [h1]
  show (if (ds v).length ≤ cap then _ else _) = _
  rw [if_pos (hl v)]
  show Rs.ok (AV.val (.tuple (ds v))) δ1 = Rs.ok (AV.val (enc (t v))) δ1
  rw [hx]
theorem pu_dic0 : Pu sDic0 Γ (some ()) fun _ => .tmp (.od []) := fun v e δ s => rfl
end

/-! ### slices -/
section
variable {α β γ ε ζ : Type} {Γ : Ga} {f fl fh : List Sl → Rs AV}
/-- a bound -/
inductive Sb (Γ : Ga) : Option (List Sl → Rs AV) → Option (Option Int) → Prop
  | no : Sb Γ none (some none)
  | yes {f : List Sl → Rs AV} {p : Option Int} : Rd f Γ p enc → Sb Γ (some f) (p.bind fun i => some (some i))
theorem Sb.run {o : Option (List Sl → Rs AV)} {p : Option (Option Int)} (h : Sb Γ o p) {v : Option Int} (e : p = some v) {δ : List Sl} (s : Sat Γ δ) : sPartO o δ = .ok v δ := by
  cases h with
  | no => cases some_of e; rfl
  | yes h =>
    obtain ⟨i, e1, e⟩ := bind_of e
    cases some_of e
    obtain ⟨x, h1, h2, _⟩ := h i e1 δ s
    show (sSt _ δ).bind _ = _
    rw [h1]
    show (match rdC δ x with
      | some (.int i) => Rs.ok (some i) δ
      | _ => .bad) = _
    rw [h2]
    rfl
theorem cutD_map [Enc α] (xs : List α) (lo hi : Option Int) : cutD (xs.map enc) lo hi = (cutL xs lo hi).map enc := by
  unfold cutD cutL
  rw [List.length_map, List.map_take, List.map_drop]
theorem pu_sl [Enc α] {p : Option (List α)} {ol oh : Option (List Sl → Rs AV)} {pl ph : Option (Option Int)} (h : Rd f Γ p enc) (hl : Sb Γ ol pl) (hh : Sb Γ oh ph) : Pu (sSl f ol oh) Γ (p.bind fun x => pl.bind fun l => ph.bind fun u => some (cutL x l u)) fun r => .tmp (ow r) := fun r e δ s => by
  obtain ⟨v, e1, e⟩ := bind_of e
  obtain ⟨l, e2, e⟩ := bind_of e
  obtain ⟨u, e3, e⟩ := bind_of e
  cases some_of e
  obtain ⟨x, h1, h2, _⟩ := h v e1 δ s
  have h2 : rdC δ x = some (.list (v.map enc)) := h2
  unfold sSl
  rw [h1]
  show (sPartO ol δ).bind _ = _
  rw [hl.run e2 s]
  show (sPartO oh δ).bind _ = _
  rw [hh.run e3 s]
  show gSl x l u δ = _
  simp only [gSl, h2, cutD_map]
  rfl
theorem pu_slT [Enc α] {p : Option (Tp α)} {ol oh : Option (List Sl → Rs AV)} {pl ph : Option (Option Int)} (h : Rd f Γ p enc) (hl : Sb Γ ol pl) (hh : Sb Γ oh ph) : Pu (sSl f ol oh) Γ (p.bind fun x => pl.bind fun l => ph.bind fun u => some (Tp.mk (cutL x.l l u))) fun r => .val (enc r) := fun r e δ s => by
  obtain ⟨v, e1, e⟩ := bind_of e
  obtain ⟨l, e2, e⟩ := bind_of e
  obtain ⟨u, e3, e⟩ := bind_of e
  cases some_of e
  obtain ⟨x, h1, h2, _⟩ := h v e1 δ s
  have h2 : rdC δ x = some (.tuple (v.l.map enc)) := h2
  unfold sSl
  rw [h1]
  show (sPartO ol δ).bind _ = _
  rw [hl.run e2 s]
  show (sPartO oh δ).bind _ = _
  rw [hh.run e3 s]
  show gSl x l u δ = _
  simp only [gSl, h2, cutD_map]
  rfl
end

/-! ### l.index(x), l.append(x), l.pop(i) -/
section
variable {α β γ ε ζ : Type} {Γ : Ga} {fo fa : List Sl → Rs AV}
theorem isLst_of [Enc α] {δ : List Sl} {x : AV} {v : List α} (h : rdA δ x = some (enc v)) : isLst δ x = true := by
  have h : rdA δ x = some (.list (v.map enc)) := h
  simp only [isLst, h]
theorem pu_idx [Enc α] [DecidableEq α] [EncEq α] {pa : Option (List α)} {pb : Option α} (ha : Rd fo Γ pa enc) (hb : Rd fa Γ pb enc) (hn : EncEq.n α ≤ 63 := by decide) : Pu (sIdx fo fa) Γ (pa.bind fun v => pb.bind fun w => idxL v w) fun r => .val (enc r) := fun r e δ s => by
  obtain ⟨v, e1, e⟩ := bind_of e
  obtain ⟨w, e2, e⟩ := bind_of e
  obtain ⟨x, h1, h2, h3⟩ := ha v e1 δ s
  obtain ⟨y, k1, k2, k3⟩ := hb w e2 δ s
  unfold sIdx
  rw [h1]
  show (if isLst δ x = true then _ else _) = _
  rw [if_pos (isLst_of h3), k1]
  exact op_idx hn v w r δ x y h2 h3 k2 k3 e
theorem sVar_own {k : Nat} {δ : List Sl} {xs : List El} (h : δ[k]? = some (.ol xs)) : sVar k δ = .ok (.ref k) δ := by
  unfold sVar; rw [h]
theorem isLst_ref {k : Nat} {δ : List Sl} {xs : List El} (h : δ[k]? = some (.ol xs)) : isLst δ (.ref k) = true := by
  simp only [isLst, rdA, h, Sl.tree]
def apL {α : Type} (xs : List α) (x : α) : Option (List α) := if xs.length ≤ cap then some (xs ++ [x]) else none
/-- the item's value in the words of what it gives -/
theorem ev_app [Enc α] {k : Nat} {p : Option ε} {va : ε → α} {xs : ε → List α} {Γ1 : ε → Ga} {s0 : Sl} {es : List El} (h0 : Γ[k]? = some (.eq s0)) (hs0 : s0 = .ol es) (ha : Ev (sTk fa) Γ p (fun x => .val (enc (va x))) Γ1) (h1 : ∀ x, (Γ1 x)[k]? = some (.eq (ow (xs x)))) :
    Ev (sApp (sVar k) fa) Γ (p.bind fun x => (apL (xs x) (va x)).bind fun ys => some (ys, x)) (fun _ => .val .none) fun r => upP k (.eq (ow r.1)) (Γ1 r.2) := fun r e δ s => by
  obtain ⟨v, e1, e⟩ := bind_of e
  obtain ⟨ys, e2, e⟩ := bind_of e
  cases some_of e
  obtain ⟨δ1, q1, s1⟩ := ha v e1 δ s
  subst hs0
  have hk := s.at_ h0
  have hk1 := s1.at_ (h1 v)
  unfold apL at e2
  by_cases c : (xs v).length ≤ cap
  · rw [if_pos c] at e2
    cases some_of e2
    refine ⟨_, ?_, s1.up (p := .eq (ow (xs v ++ [va v]))) rfl⟩
    unfold sApp
    rw [sSt_ref (sVar_own hk)]
    show (if isLst δ (.ref k) = true then _ else _) = _
    rw [if_pos (isLst_ref hk)]
    unfold Rs.val
    rw [q1]
    show appI k (enc (va v)) δ1 = _
    unfold appI
    rw [hk1]
    simp only [ow, List.length_map, if_pos c, List.map_append]
    rfl
  · rw [if_neg c] at e2
    cases e2
def popL {α : Type} (xs : List α) (i : Int) : Option (α × List α) := (ixN xs.length i).bind fun j => (xs[j]?).bind fun x => if xs.length ≤ cap then some (x, xs.eraseIdx j) else none
theorem erase_map {α β : Type} (f : α → β) : ∀ (xs : List α) (j : Nat), (xs.map f).eraseIdx j = (xs.eraseIdx j).map f
  | [], _ => rfl
  | x :: r, 0 => rfl
  | x :: r, j + 1 => by
    show f x :: (r.map f).eraseIdx j = f x :: (r.eraseIdx j).map f
    rw [erase_map f r j]
theorem popI_ok [Enc α] {k : Nat} {xs : List α} {i : Int} {r : α × List α} {δ : List Sl} (h : δ[k]? = some (ow xs)) (e : popL xs i = some r) : popI k i δ = .ok (.val (enc r.1)) (upS k (ow r.2) δ) := by
  obtain ⟨j, e1, e⟩ := bind_of e
  obtain ⟨x, e2, e⟩ := bind_of e
  by_cases c : xs.length ≤ cap
  · rw [if_pos c] at e
    cases some_of e
    unfold popI
    rw [h]
    simp only [ow, allFz_map, List.length_map, e1, List.getElem?_map, e2, Option.map_some, if_pos c, erase_map]
  · rw [if_neg c] at e
    cases e
theorem ev_pop1 [Enc α] {k : Nat} {p : Option ε} {va : ε → Int} {xs : ε → List α} {Γ1 : ε → Ga} {s0 : Sl} {es : List El} (h0 : Γ[k]? = some (.eq s0)) (hs0 : s0 = .ol es) (ha : Ev (sTk fa) Γ p (fun x => .val (enc (va x))) Γ1) (h1 : ∀ x, (Γ1 x)[k]? = some (.eq (ow (xs x)))) :
    Ev (sPop1 (sVar k) fa) Γ (p.bind fun x => (popL (xs x) (va x)).bind fun y => some (y, x)) (fun r => .val (enc r.1.1)) fun r => upP k (.eq (ow r.1.2)) (Γ1 r.2) := fun r e δ s => by
  obtain ⟨v, e1, e⟩ := bind_of e
  obtain ⟨y, e2, e⟩ := bind_of e
  cases some_of e
  obtain ⟨δ1, q1, s1⟩ := ha v e1 δ s
  subst hs0
  have hk := s.at_ h0
  have hk1 := s1.at_ (h1 v)
  refine ⟨_, ?_, s1.up (p := .eq (ow y.2)) rfl⟩
  unfold sPop1
  rw [sSt_ref (sVar_own hk)]
  show (if isLst δ (.ref k) = true then _ else _) = _
  rw [if_pos (isLst_ref hk)]
  unfold Rs.val
  rw [q1]
  exact popI_ok hk1 e2
theorem ev_pop0 [Enc α] {k : Nat} {xs : List α} (h0 : Γ[k]? = some (.eq (ow xs))) : Ev (sPop0 (sVar k)) Γ (popL xs (-1)) (fun r => .val (enc r.1)) fun r => upP k (.eq (ow r.2)) Γ := fun r e δ s => by
  have hk := s.at_ h0
  refine ⟨_, ?_, s.up (p := .eq (ow r.2)) rfl⟩
  unfold sPop0
  rw [sSt_ref (sVar_own hk)]
  show (if isLst δ (.ref k) = true then popI k (-1) δ else _) = _
  rw [if_pos (isLst_ref hk)]
  exact popI_ok hk e
end

/-! ### arguments, calls -/
section
variable {α β γ ε ζ ρ : Type} {Γ : Ga} {f : List Sl → Rs AV} {g : List Sl → Rs (List Ar)}
def Ag (g : List Sl → Rs (List Ar)) (Γ : Ga) (p : Option β) (as : β → List Ar) (Γ' : β → Ga) : Prop := ∀ v, p = some v → ∀ δ, Sat Γ δ → ∃ δ', g δ = .ok (as v) δ' ∧ Sat (Γ' v) δ'
def AgP (g : List Sl → Rs (List Ar)) (Γ : Ga) (p : Option β) (as : β → List Ar) : Prop := ∀ v, p = some v → ∀ δ, Sat Γ δ → g δ = .ok (as v) δ
def arV : AV → Ar
  | .val d => .fz d
  | .tmp s => .own s
  | .ref k => .io k
def noRef : AV → Bool
  | .ref _ => false
  | _ => true
theorem arOf_V {a : AV} (h : noRef a = true) : arOf a = some (arV a) := by cases a <;> first | rfl | cases h
theorem nodup1 (k : Nat) : [k].Nodup := by simp
theorem ap_nil : AgP rNil Γ (some ()) fun _ => [] := fun v _ δ _ => rfl
theorem ap_cons {p : Option ε} {a : ε → AV} {q : Option ζ} {as : ζ → List Ar} (h : Pu f Γ p a) (h2 : AgP g Γ q as) (hr : ∀ v, noRef (a v) = true := by intro _; rfl) : AgP (rCons f g) Γ (p.bind fun x => q.bind fun y => some (x, y)) fun v => arV (a v.1) :: as v.2 := fun z e δ s => by
  obtain ⟨v, e1, e⟩ := bind_of e
  obtain ⟨w, e2, e⟩ := bind_of e
  cases some_of e
  unfold rCons
  rw [h v e1 δ s]
  show (match arOf (a v) with
    | some r => (g δ).bind fun rs δ2 => Rs.ok (r :: rs) δ2
    | none => .bad) = _
  rw [arOf_V (hr v)]
  show (g δ).bind _ = _
  rw [h2 w e2 δ s]
  rfl
theorem ag_nil : Ag rNil Γ (some ()) (fun _ => []) fun _ => Γ := fun v _ δ s => ⟨δ, rfl, s⟩
theorem ag_cons {p : Option ε} {a : ε → AV} {Γ1 : ε → Ga} {q : ε → Option ζ} {as : ζ → List Ar} {Γ2 : ε → ζ → Ga} (h : Ev f Γ p a Γ1) (h2 : ∀ x, Ag g (Γ1 x) (q x) as (Γ2 x)) (hr : ∀ v, noRef (a v) = true := by intro _; rfl) : Ag (rCons f g) Γ (p.bind fun x => (q x).bind fun y => some (x, y)) (fun v => arV (a v.1) :: as v.2) fun v => Γ2 v.1 v.2 := fun z e δ s => by
  obtain ⟨v, e1, e⟩ := bind_of e
  obtain ⟨w, e2, e⟩ := bind_of e
  cases some_of e
  obtain ⟨δ1, h1, s1⟩ := h v e1 δ s
  obtain ⟨δ2, h3, s2⟩ := h2 v w e2 δ1 s1
  refine ⟨δ2, ?_, s2⟩
  unfold rCons
  rw [h1]
  show (match arOf (a v) with
    | some r => (g δ1).bind fun rs δ2 => Rs.ok (r :: rs) δ2
    | none => .bad) = _
  rw [arOf_V (hr v)]
  show (g δ1).bind _ = _
  rw [h3]
  rfl
theorem AgP.ag {p : Option β} {as : β → List Ar} (h : AgP g Γ p as) : Ag g Γ p as fun _ => Γ := fun v e δ s => ⟨δ, h v e δ s, s⟩
def insOf : List Ar → Option (List Sl)
  | [] => some []
  | .fz d :: r => (insOf r).map (.fz d :: ·)
  | .own s :: r => (insOf r).map (s :: ·)
  | .io _ :: _ => none
theorem ins_args {δ : List Sl} : ∀ {as : List Ar} {l : List Sl}, insOf as = some l → argsS δ as = some l ∧ iosOf δ as = []
  | [], l, h => by cases h; exact ⟨rfl, rfl⟩
  | .fz d :: r, l, h => by
    have h : (insOf r).map (.fz d :: ·) = some l := h
    cases q : insOf r with
    | none => rw [q] at h; cases h
    | some m =>
      rw [q] at h
      cases h
      obtain ⟨h1, h2⟩ := ins_args (δ := δ) q
      exact ⟨by simp only [argsS, argS, h1], h2⟩
  | .own s :: r, l, h => by
    have h : (insOf r).map (s :: ·) = some l := h
    cases q : insOf r with
    | none => rw [q] at h; cases h
    | some m =>
      rw [q] at h
      cases h
      obtain ⟨h1, h2⟩ := ins_args (δ := δ) q
      exact ⟨by simp only [argsS, argS, h1], h2⟩
  | .io k :: r, l, h => by cases h
theorem putB_nil {δ : List Sl} : ∀ {as : List Ar} {l m : List Sl}, insOf as = some m → putB [] as l δ = δ
  | [], l, _, _ => by cases l <;> rfl
  | .fz d :: r, [], _, _ => rfl
  | .own s :: r, [], _, _ => rfl
  | .fz d :: r, s :: l, m, h => by
    have h : (insOf r).map (.fz d :: ·) = some m := h
    cases q : insOf r with
    | none => rw [q] at h; cases h
    | some m => exact putB_nil (as := r) q
  | .own t :: r, s :: l, m, h => by
    have h : (insOf r).map (t :: ·) = some m := h
    cases q : insOf r with
    | none => rw [q] at h; cases h
    | some m => exact putB_nil (as := r) q
  | .io k :: r, l, m, h => by cases h
theorem callF_pure {F : List Sl → FR} {as : List Ar} {l : List Sl} {δ o : List Sl} {r : Sl} (h : insOf as = some l) (hF : F l = .ok r o) : callF F as δ = .ok (AV.ofSl r) δ := by
  obtain ⟨h1, h2⟩ := ins_args (δ := δ) h
  unfold callF backS
  rw [h2]
  rw [if_pos List.nodup_nil, h1]
  simp only [hF]
  rw [putB_nil h]
  rfl
/-- F on what stands for v gives what stands for n v -/
def Fun (F : List Sl → FR) (n : Option ρ) (ins : List Sl) (ret : ρ → Sl) (out : ρ → List Sl) : Prop := ∀ r, n = some r → F ins = .ok (ret r) (out r)
theorem pu_call {F : List Sl → FR} {dd : List PyData} {q : Option β} {as : β → List Ar} {n : β → Option ρ} {ins : β → List Sl} {ret : ρ → Sl} {out : ρ → List Sl} (hg : AgP g Γ q as) (hF : ∀ v, Fun F (n v) (ins v) ret out) (hi : ∀ v, insOf (as v ++ dd.map .fz) = some (ins v) := by intro _; rfl) : Pu (sCall F dd g) Γ (q.bind n) fun r => AV.ofSl (ret r) := fun r e δ s => by
  obtain ⟨v, e1, e⟩ := bind_of e
  unfold sCall
  rw [hg v e1 δ s]
  exact callF_pure (hi v) (hF v r e)
theorem ev_call {F : List Sl → FR} {dd : List PyData} {q : Option β} {as : β → List Ar} {Γ1 : β → Ga} {n : β → Option ρ} {ins : β → List Sl} {ret : ρ → Sl} {out : ρ → List Sl} (hg : Ag g Γ q as Γ1) (hF : ∀ v, Fun F (n v) (ins v) ret out) (hi : ∀ v, insOf (as v ++ dd.map .fz) = some (ins v) := by intro _; rfl) : Ev (sCall F dd g) Γ (q.bind fun v => (n v).bind fun r => some (r, v)) (fun r => AV.ofSl (ret r.1)) (fun r => Γ1 r.2) := fun r e δ s => by
  obtain ⟨v, e1, e⟩ := bind_of e
  obtain ⟨w, e2, e⟩ := bind_of e
  cases some_of e
  obtain ⟨δ1, h1, s1⟩ := hg v e1 δ s
  refine ⟨δ1, ?_, s1⟩
  unfold sCall
  rw [h1]
  exact callF_pure (hi v) (hF v w e2)
/-- a slot handed over -/
theorem ag_io {k : Nat} {q : Option β} {as : β → List Ar} {Γ1 : β → Ga} {s0 : Sl} (h0 : Γ[k]? = some (.eq s0)) (ho : ownS (some s0) = true) (h : Ag g Γ q as Γ1) : Ag (rIo k g) Γ q (fun v => .io k :: as v) Γ1 := fun v e δ s => by
  obtain ⟨δ1, h1, s1⟩ := h v e δ s
  refine ⟨δ1, ?_, s1⟩
  have hk := s.at_ h0
  unfold rIo
  have hv : sVar k δ = .ok (.ref k) δ := by
    unfold sVar
    rw [hk]
    cases s0 <;> first | rfl | cases ho
  rw [hv]
  show (g δ).bind _ = _
  rw [h1]
  rfl
def insG (Γ : Ga) : List Ar → Option (List Sl)
  | [] => some []
  | .fz d :: r => (insG Γ r).map (.fz d :: ·)
  | .own s :: r => (insG Γ r).map (s :: ·)
  | .io k :: r => match Γ[k]? with
    | some (.eq s) => if ownS (some s) = true then (insG Γ r).map (s :: ·) else none
    | _ => none
def iosG : List Ar → List Nat
  | [] => []
  | .io k :: r => k :: iosG r
  | _ :: r => iosG r
def clrP (ks : List Nat) (Γ : Ga) : Ga := ks.foldr (fun k Γ => upP k (.eq .no) Γ) Γ
def putP : List Ar → List Sl → Ga → Ga
  | .io k :: r, s :: l, Γ => putP r l (upP k (.eq (noAl s)) Γ)
  | .fz _ :: r, _ :: l, Γ => putP r l Γ
  | .own _ :: r, _ :: l, Γ => putP r l Γ
  | _, _, Γ => Γ
def backP (Γ : Ga) (as : List Ar) (o : List Sl) : Ga := putP as o (clrP (iosG as) Γ)
theorem insG_ok {δ : List Sl} (s : Sat Γ δ) : ∀ {as : List Ar} {l : List Sl}, insG Γ as = some l → argsS δ as = some l ∧ iosOf δ as = iosG as
  | [], l, h => by cases h; exact ⟨rfl, rfl⟩
  | .fz d :: r, l, h => by
    have h : (insG Γ r).map (.fz d :: ·) = some l := h
    cases q : insG Γ r with
    | none => rw [q] at h; cases h
    | some m =>
      rw [q] at h
      cases h
      obtain ⟨h1, h2⟩ := insG_ok s q
      exact ⟨by simp only [argsS, argS, h1], h2⟩
  | .own t :: r, l, h => by
    have h : (insG Γ r).map (t :: ·) = some l := h
    cases q : insG Γ r with
    | none => rw [q] at h; cases h
    | some m =>
      rw [q] at h
      cases h
      obtain ⟨h1, h2⟩ := insG_ok s q
      exact ⟨by simp only [argsS, argS, h1], h2⟩
  | .io k :: r, l, h => by
    unfold insG at h
    cases q0 : Γ[k]? with
    | none => simp only [q0] at h; cases h
    | some p =>
      cases p with
      | eq t =>
        simp only [q0] at h
        by_cases c : ownS (some t) = true
        · rw [if_pos c] at h
          cases q : insG Γ r with
          | none => rw [q] at h; cases h
          | some m =>
            rw [q] at h
            cases h
            obtain ⟨h1, h2⟩ := insG_ok s q
            have hk := s.at_ q0
            refine ⟨?_, ?_⟩
            · simp only [argsS, h1, argS, hk]
              cases t <;> first | rfl | cases c
            · rw [ios_cons_io, if_pos (by rw [hk]; exact c), h2]
              rfl
        · rw [if_neg c] at h
          cases h
      | _ => simp only [q0] at h; cases h
theorem clrP_ok {δ : List Sl} (s : Sat Γ δ) : ∀ ks : List Nat, Sat (clrP ks Γ) (clr ks δ)
  | [] => s
  | k :: r => (clrP_ok s r).up (p := .eq .no) rfl
theorem putP_ok (ks : List Nat) : ∀ {as : List Ar} {o : List Sl} {Γ : Ga} {δ : List Sl}, Sat Γ δ → (∀ k ∈ iosG as, k ∈ ks) → Sat (putP as o Γ) (putB ks as o δ)
  | [], o, _, _, s, _ => by cases o <;> exact s
  | .fz d :: r, [], _, _, s, _ => s
  | .own t :: r, [], _, _, s, _ => s
  | .io k :: r, [], _, _, s, _ => s
  | .fz d :: r, t :: o, _, _, s, h => putP_ok ks (as := r) s h
  | .own u :: r, t :: o, _, _, s, h => putP_ok ks (as := r) s h
  | .io k :: r, t :: o, Γ, δ, s, h => by
    show Sat (putP r o (upP k (.eq (noAl t)) Γ)) (putB ks r o (if k ∈ ks then upS k (noAl t) δ else δ))
    rw [if_pos (h k List.mem_cons_self)]
    exact putP_ok ks (as := r) (s.up (p := .eq (noAl t)) rfl) fun j hj => h j (List.mem_cons_of_mem _ hj)
theorem ev_callG {F : List Sl → FR} {dd : List PyData} {q : Option β} {as : β → List Ar} {Γ1 : β → Ga} {n : β → Option ρ} {ins : β → List Sl} {ret : ρ → Sl} {out : ρ → List Sl} (hg : Ag g Γ q as Γ1) (hF : ∀ v, Fun F (n v) (ins v) ret out)
    (hi : ∀ v, insG (Γ1 v) (as v ++ dd.map .fz) = some (ins v) := by intro _; rfl) (hn : ∀ v, (iosG (as v ++ dd.map .fz)).Nodup := by intro _; first | exact nodup1 _ | exact List.nodup_nil | decide) :
    Ev (sCall F dd g) Γ (q.bind fun v => (n v).bind fun r => some (r, v)) (fun r => AV.ofSl (ret r.1)) (fun r => backP (Γ1 r.2) (as r.2 ++ dd.map .fz) (out r.1)) := fun r e δ s => by
  obtain ⟨v, e1, e⟩ := bind_of e
  obtain ⟨w, e2, e⟩ := bind_of e
  cases some_of e
  obtain ⟨δ1, h1, sa⟩ := hg v e1 δ s
  obtain ⟨k1, k2⟩ := insG_ok sa (hi v)
  refine ⟨backS (as v ++ dd.map .fz) (out w) δ1, ?_, ?_⟩
  · unfold sCall
    rw [h1]
    show callF F (as v ++ dd.map .fz) δ1 = _
    unfold callF
    rw [k2, if_pos (hn v), k1]
    simp only [hF v w e2]
  · unfold backS backP
    rw [k2]
    exact putP_ok _ (clrP_ok sa _) fun k hk => hk
/-- a def whose result is a list, or stands still: its tree is known -/
def FunM (F : List Sl → FR) (n : Option ρ) (ins : List Sl) (d : ρ → PyData) (out : ρ → List Sl) : Prop := ∀ r, n = some r → ∃ s, F ins = .ok s (out r) ∧ (Pt.tr (d r)).Ok s
/-- a value, or a list of nobody's -/
def Em (f : List Sl → Rs AV) (Γ : Ga) (p : Option β) (d : β → PyData) (Γ' : β → Ga) : Prop := ∀ v, p = some v → ∀ δ, Sat Γ δ → ∃ s δ', f δ = .ok (AV.ofSl s) δ' ∧ (Pt.tr (d v)).Ok s ∧ Sat (Γ' v) δ'
theorem tr_tree {d : PyData} {s : Sl} (h : (Pt.tr d).Ok s) : s.tree = some d := by
  rcases h with ⟨h, _⟩ | h
  · exact h
  · rw [h]; rfl
theorem Em.er {p : Option β} {d : β → PyData} {Γ' : β → Ga} (h : Em f Γ p d Γ') : Er f Γ p d Γ' := fun v e δ s => by
  obtain ⟨t, δ', h1, h2, h3⟩ := h v e δ s
  refine ⟨δ', ?_, h3⟩
  have h4 := tr_tree h2
  cases t with
  | fz d' => cases h4; exact sSt_val h1
  | ol xs => exact sSt_tmp h1 h4
  | od x => exact sSt_tmp h1 h4
  | no => cases h4
  | al x j => cases h4
theorem Em.tk {p : Option β} {d : β → PyData} {Γ' : β → Ga} (h : Em f Γ p d Γ') : Ev (sTk f) Γ p (fun v => .val (d v)) Γ' := fun v e δ s => by
  obtain ⟨δ', h1, h2⟩ := h.er v e δ s
  exact ⟨δ', by unfold sTk; rw [h1], h2⟩
theorem Er.rd {p : Option β} {d : β → PyData} (h : ∀ v, p = some v → ∀ δ, Sat Γ δ → sSt f δ = .ok (.val (d v)) δ) : Rd f Γ p d := fun v e δ s => ⟨_, h v e δ s, rfl, rfl⟩
theorem em_call {F : List Sl → FR} {dd : List PyData} {q : Option β} {as : β → List Ar} {Γ1 : β → Ga} {n : β → Option ρ} {ins : β → List Sl} {d : ρ → PyData} {out : ρ → List Sl} (hg : Ag g Γ q as Γ1) (hF : ∀ v, FunM F (n v) (ins v) d out)
    (hi : ∀ v, insG (Γ1 v) (as v ++ dd.map .fz) = some (ins v) := by intro _; rfl) (hn : ∀ v, (iosG (as v ++ dd.map .fz)).Nodup := by intro _; first | exact nodup1 _ | exact List.nodup_nil | decide) :
    Em (sCall F dd g) Γ (q.bind fun v => (n v).bind fun r => some (r, v)) (fun r => d r.1) (fun r => backP (Γ1 r.2) (as r.2 ++ dd.map .fz) (out r.1)) := fun r e δ s => by
  obtain ⟨v, e1, e⟩ := bind_of e
  obtain ⟨w, e2, e⟩ := bind_of e
  cases some_of e
  obtain ⟨δ1, h1, sa⟩ := hg v e1 δ s
  obtain ⟨k1, k2⟩ := insG_ok sa (hi v)
  obtain ⟨t, hF1, hF2⟩ := hF v w e2
  refine ⟨t, backS (as v ++ dd.map .fz) (out w) δ1, ?_, hF2, ?_⟩
  · unfold sCall
    rw [h1]
    show callF F (as v ++ dd.map .fz) δ1 = _
    unfold callF
    rw [k2, if_pos (hn v), k1]
    simp only [hF1]
  · unfold backS backP
    rw [k2]
    exact putP_ok _ (clrP_ok sa _) fun k hk => hk
theorem rd_callM {F : List Sl → FR} {dd : List PyData} {q : Option β} {as : β → List Ar} {n : β → Option ρ} {ins : β → List Sl} {d : ρ → PyData} {out : ρ → List Sl} (hg : AgP g Γ q as) (hF : ∀ v, FunM F (n v) (ins v) d out) (hi : ∀ v, insOf (as v ++ dd.map .fz) = some (ins v) := by intro _; rfl) : Rd (sCall F dd g) Γ (q.bind n) d := fun r e δ s => by
  obtain ⟨v, e1, e⟩ := bind_of e
  obtain ⟨t, hF1, hF2⟩ := hF v r e
  have h1 : sCall F dd g δ = .ok (AV.ofSl t) δ := by
    unfold sCall
    rw [hg v e1 δ s]
    exact callF_pure (hi v) hF1
  have h4 := tr_tree hF2
  refine ⟨.val (d r), ?_, rfl, rfl⟩
  cases t with
  | fz d' => cases h4; exact sSt_val h1
  | ol xs => exact sSt_tmp h1 h4
  | od x => exact sSt_tmp h1 h4
  | no => cases h4
  | al x j => cases h4
end
end Nv

/-! part N4 -/
namespace Nv
open PySem Hb L2
open Enc (enc)

/-! ### how a block ends -/
/-- a return -/
def RF {ρ : Type} (ret : ρ → Pt) (ΓR : ρ → Ga) (r : ρ) (o : Ot) : Prop := ∃ s δ', (o = .rt s δ' ∨ (o = .nx δ' ∧ s = .fz .none)) ∧ (ret r).Ok s ∧ Sat (ΓR r) δ'
/-- on to what follows -/
def RN {σ : Type} (ΓS : σ → Ga) (s : σ) (o : Ot) : Prop := ∃ δ', o = .nx δ' ∧ Sat (ΓS s) δ'
/-- on to the next turn -/
def RS {σ : Type} (ΓS : σ → Ga) (s : σ) (o : Ot) : Prop := ∃ δ', (o = .nx δ' ∨ o = .ct δ') ∧ Sat (ΓS s) δ'
/-- a turn that may leave its loop -/
inductive Fl (ρ σ : Type) where
  | nx (s : σ) | bk (s : σ) | rt (r : ρ)
def Fl.el {ρ σ ζ : Type} (o : Fl ρ σ) (f : σ → Option ζ) (k : ρ → Option ζ) : Option ζ := match o with
  | .nx s => f s
  | .bk s => f s
  | .rt r => k r
def RL {ρ σ : Type} (R : ρ → Ot → Prop) (ΓS ΓB : σ → Ga) : Fl ρ σ → Ot → Prop
  | .nx s, o => ∃ δ', (o = .nx δ' ∨ o = .ct δ') ∧ Sat (ΓS s) δ'
  | .bk s, o => ∃ δ', o = .bk δ' ∧ Sat (ΓB s) δ'
  | .rt r, o => R r o ∧ ∃ s δ', o = .rt s δ'
section
variable {α β γ ε ζ ρ σ : Type} {Γ : Ga} {f : List Sl → Rs AV} {g h A B : List Sl → Ot} {R : ζ → Ot → Prop}
theorem seq_next (f : List Sl → Ot) : oSeq f oNext = f := by
  funext δ
  unfold oSeq
  cases f δ <;> rfl
theorem bl_last {p : Option ζ} (k : Bl (oSeq g oNext) Γ p R) : Bl g Γ p R := by rwa [seq_next] at k
theorem bl_next {p : Option ζ} (k : Bl g Γ p R) : Bl (oSeq oNext g) Γ p R := k
theorem bl_assoc {p : Option ζ} (k : Bl (oSeq A (oSeq B g)) Γ p R) : Bl (oSeq (oSeq A B) g) Γ p R := fun v e δ s => by
  have := k v e δ s
  unfold oSeq at this ⊢
  cases q : A δ <;> simp only [q] at this ⊢ <;> exact this
theorem nx_of {δ δ' : List Sl} (q : A δ = .nx δ') : oSeq A g δ = g δ' := by unfold oSeq; rw [q]
theorem bl_asgV {k : Nat} {p : Option ε} {d : ε → PyData} {Γ1 : ε → Ga} {kont : ε → Option ζ} (h : Ev f Γ p (fun v => .val (d v)) Γ1) (k2 : ∀ v, Bl g (upP k (.eq (.fz (d v))) (Γ1 v)) (kont v) R) : Bl (oSeq (oAsg f (tgN k)) g) Γ (p.bind kont) R := fun r e δ s => by
  obtain ⟨v, e1, e⟩ := bind_of e
  obtain ⟨δ1, h1, s1⟩ := h v e1 δ s
  rw [nx_of (show oAsg f (tgN k) δ = .nx (upS k (.fz (d v)) δ1) by unfold oAsg; rw [h1]; rfl)]
  exact k2 v r e _ (s1.up rfl)
theorem bl_asgT {k : Nat} {p : Option ε} {t : ε → Sl} {Γ1 : ε → Ga} {kont : ε → Option ζ} (h : Ev f Γ p (fun v => .tmp (t v)) Γ1) (k2 : ∀ v, Bl g (upP k (.eq (t v)) (Γ1 v)) (kont v) R) : Bl (oSeq (oAsg f (tgN k)) g) Γ (p.bind kont) R := fun r e δ s => by
  obtain ⟨v, e1, e⟩ := bind_of e
  obtain ⟨δ1, h1, s1⟩ := h v e1 δ s
  rw [nx_of (show oAsg f (tgN k) δ = .nx (upS k (t v) δ1) by unfold oAsg; rw [h1]; rfl)]
  exact k2 v r e _ (s1.up rfl)
theorem bl_asgM {k : Nat} {p : Option ε} {d : ε → PyData} {Γ1 : ε → Ga} {kont : ε → Option ζ} (h : Em f Γ p d Γ1) (k2 : ∀ v, Bl g (upP k (.tr (d v)) (Γ1 v)) (kont v) R) : Bl (oSeq (oAsg f (tgN k)) g) Γ (p.bind kont) R := fun r e δ s => by
  obtain ⟨v, e1, e⟩ := bind_of e
  obtain ⟨t, δ1, h1, h2, s1⟩ := h v e1 δ s
  rw [nx_of (show oAsg f (tgN k) δ = .nx (upS k t δ1) by
    unfold oAsg
    rw [h1]
    rcases h2 with ⟨_, ds, rfl⟩ | rfl <;> rfl)]
  exact k2 v r e _ (s1.up h2)
/-- x = y, y's list given away -/
theorem bl_mv {k j : Nat} {s0 : Sl} {kont : Option ζ} (h0 : Γ[j]? = some (.eq s0)) (ho : ownS (some s0) = true) (k2 : Bl g (upP k (.eq s0) (upP j (.eq .no) Γ)) kont R) : Bl (oSeq (oAsg (sMv (sVar j)) (tgN k)) g) Γ kont R := fun r e δ s => by
  have hk := s.at_ h0
  have h1 : sMv (sVar j) δ = .ok (.tmp s0) (upS j .no δ) := by
    unfold sMv
    have : sVar j δ = .ok (.ref j) δ := by
      unfold sVar
      rw [hk]
      cases s0 <;> first | rfl | cases ho
    rw [this]
    show moveI j δ = _
    unfold moveI
    rw [hk]
    cases s0 <;> first | rfl | cases ho
  rw [nx_of (show oAsg (sMv (sVar j)) (tgN k) δ = .nx (upS k s0 (upS j .no δ)) by unfold oAsg; rw [h1]; rfl)]
  exact k2 r e _ ((s.up (p := .eq .no) rfl).up rfl)
theorem bl_expr {p : Option ε} {a : ε → AV} {Γ1 : ε → Ga} {kont : ε → Option ζ} (h : Ev f Γ p a Γ1) (k2 : ∀ v, Bl g (Γ1 v) (kont v) R) : Bl (oSeq (oDrop f) g) Γ (p.bind kont) R := fun r e δ s => by
  obtain ⟨v, e1, e⟩ := bind_of e
  obtain ⟨δ1, h1, s1⟩ := h v e1 δ s
  rw [nx_of (show oDrop f δ = .nx δ1 by unfold oDrop; rw [h1]; rfl)]
  exact k2 v r e _ s1
theorem bl_aug {k : Nat} {n : Int} {u : Int → Int → Int} {p : Option ε} {m : ε → Int} {Γ1 : ε → Ga} {kont : ε → Option ζ} (h0 : Γ[k]? = some (.eq (.fz (enc n)))) (h : Es f Γ p (fun v => enc (m v)) Γ1) (k2 : ∀ v, Bl g (upP k (.eq (.fz (enc (u n (m v))))) (Γ1 v)) (kont v) R) : Bl (oSeq (oAug k u f) g) Γ (p.bind kont) R := fun r e δ s => by
  obtain ⟨v, e1, e⟩ := bind_of e
  obtain ⟨x, δ1, h1, h2, h3, s1⟩ := h v e1 δ s
  have hk : δ[k]? = some (.fz (.int n)) := s.at_ h0
  have h2 : rdC δ1 x = some (.int (m v)) := h2
  rw [nx_of (show oAug k u f δ = .nx (upS k (.fz (.int (u n (m v)))) δ1) by
    unfold oAug
    rw [hk]
    show (sSt f δ).ot _ = _
    rw [h1]
    show (match rdC δ1 x with
      | some (.int m) => Ot.nx (upS k (.fz (.int (u n m))) δ1)
      | _ => .bad) = _
    rw [h2])]
  exact k2 v r e _ (s1.up rfl)
/-! ### stores -/
def stI {α : Type} (xs : List α) (i : Int) (v : α) : Option (List α) := (ixN xs.length i).map fun j => xs.set j v
theorem map_set' {α β : Type} (f : α → β) (xs : List α) (j : Nat) (v : α) : (xs.set j v).map f = (xs.map f).set j (f v) := List.map_set ..
theorem setA_own [Enc α] {k : Nat} {xs ys : List α} {i : Int} {v : α} {δ : List Sl} {y : AV} (h : δ[k]? = some (ow xs)) (hy : rdC δ y = some (.int i)) (e : stI xs i v = some ys) : setA (.ref k) y (enc v) δ = .ok () (upS k (ow ys) δ) := by
  unfold stI at e
  cases q : ixN xs.length i with
  | none => rw [q] at e; cases e
  | some j =>
    rw [q] at e
    cases some_of e
    unfold setA
    simp only [hy, h, ow, List.length_map, q, allFz_map, List.map_set]
theorem bl_set [Enc α] {k : Nat} {fi : List Sl → Rs AV} {p : Option ε} {va : ε → α} {Γ1 : ε → Ga} {xs : ε → List α} {pi : ε → Option Int} {kont : ε → List α → Option ζ} (h : Ev f Γ p (fun v => .val (enc (va v))) Γ1) (h0 : ∀ v, (Γ1 v)[k]? = some (.eq (ow (xs v)))) (hi : ∀ v, Rd fi (Γ1 v) (pi v) enc)
    (k2 : ∀ v ys, Bl g (upP k (.eq (ow ys)) (Γ1 v)) (kont v ys) R) : Bl (oSeq (oAsg f (tgS (sVar k) fi)) g) Γ (p.bind fun v => (pi v).bind fun i => (stI (xs v) i (va v)).bind (kont v)) R := fun r e δ s => by
  obtain ⟨v, e1, e⟩ := bind_of e
  obtain ⟨i, e2, e⟩ := bind_of e
  obtain ⟨ys, e3, e⟩ := bind_of e
  obtain ⟨δ1, h1, s1⟩ := h v e1 δ s
  obtain ⟨x, q1, q2, _⟩ := hi v i e2 δ1 s1
  have hk := s1.at_ (h0 v)
  rw [nx_of (show oAsg f (tgS (sVar k) fi) δ = .nx (upS k (ow ys) δ1) by
    unfold oAsg
    rw [h1]
    show (tgS (sVar k) fi (.val (enc (va v))) δ1).otU = _
    unfold tgS
    show ((sSt (sVar k) δ1).bind _).otU = _
    rw [sSt_ref (sVar_own hk)]
    show ((sSt fi δ1).bind _).otU = _
    rw [q1]
    show (setA (.ref k) x (enc (va v)) δ1).otU = _
    rw [setA_own hk q2 e3]
    rfl)]
  exact k2 v ys r e _ (s1.up rfl)
/-! ### a, b = x, y -/
def asgP : List Nat → List Ar → Ga → Ga
  | k :: ks, .fz d :: r, Γ => asgP ks r (upP k (.eq (.fz d)) Γ)
  | k :: ks, .own s :: r, Γ => asgP ks r (upP k (.eq s) Γ)
  | _, _, Γ => Γ
def parOk : List Nat → List Ar → Bool
  | [], [] => true
  | _ :: ks, .fz _ :: r => parOk ks r
  | _ :: ks, .own _ :: r => parOk ks r
  | _, _ => false
theorem asgP_ok : ∀ {ks : List Nat} {as : List Ar} {Γ : Ga} {δ : List Sl}, Sat Γ δ → parOk ks as = true → noIo as = true ∧ ∃ δ', asgA ks as δ = .nx δ' ∧ Sat (asgP ks as Γ) δ'
  | [], [], Γ, δ, s, _ => ⟨rfl, δ, rfl, s⟩
  | [], _ :: _, _, _, _, h => by cases h
  | _ :: _, [], _, _, _, h => by cases h
  | k :: ks, .io j :: r, _, _, _, h => by cases h
  | k :: ks, .fz d :: r, Γ, δ, s, h => asgP_ok (ks := ks) (as := r) (s.up (i := k) (p := .eq (.fz d)) rfl) h
  | k :: ks, .own t :: r, Γ, δ, s, h => asgP_ok (ks := ks) (as := r) (s.up (i := k) (p := .eq t) rfl) h
theorem bl_par {ks : List Nat} {ga : List Sl → Rs (List Ar)} {p : Option ε} {as : ε → List Ar} {Γ1 : ε → Ga} {kont : ε → Option ζ} (h : Ag ga Γ p as Γ1) (k2 : ∀ v, Bl g (asgP ks (as v) (Γ1 v)) (kont v) R) (hp : ∀ v, parOk ks (as v) = true := by intro _; rfl) : Bl (oSeq (oPar ks ga) g) Γ (p.bind kont) R := fun r e δ s => by
  obtain ⟨v, e1, e⟩ := bind_of e
  obtain ⟨δ1, h1, s1⟩ := h v e1 δ s
  obtain ⟨n, δ2, h2, s2⟩ := asgP_ok s1 (hp v)
  rw [nx_of (show oPar ks ga δ = .nx δ2 by
    unfold oPar
    rw [h1]
    simp only [n, if_true, h2])]
  exact k2 v r e _ s2
/-! ### return -/
theorem sMv_val {δ δ' : List Sl} {d : PyData} (h : f δ = .ok (.val d) δ') : sMv f δ = .ok (.val d) δ' := by unfold sMv; rw [h]
theorem sMv_tmp {δ δ' : List Sl} {t : Sl} (h : f δ = .ok (.tmp t) δ') : sMv f δ = .ok (.tmp t) δ' := by unfold sMv; rw [h]
theorem bl_retV {p : Option ε} {d : ε → PyData} {Γ1 : ε → Ga} {κ : ε → ζ} (h : Ev f Γ p (fun v => .val (d v)) Γ1) (k : ∀ v δ', Sat (Γ1 v) δ' → R (κ v) (.rt (.fz (d v)) δ')) : Bl (oRet f) Γ (p.bind fun v => some (κ v)) R := fun r e δ s => by
  obtain ⟨v, e1, e⟩ := bind_of e
  cases some_of e
  obtain ⟨δ1, h1, s1⟩ := h v e1 δ s
  have : oRet f δ = .rt (.fz (d v)) δ1 := by unfold oRet; rw [sMv_val h1]; rfl
  rw [this]
  exact k v δ1 s1
theorem bl_retT {p : Option ε} {t : ε → Sl} {Γ1 : ε → Ga} {κ : ε → ζ} (h : Ev f Γ p (fun v => .tmp (t v)) Γ1) (k : ∀ v δ', Sat (Γ1 v) δ' → R (κ v) (.rt (t v) δ')) : Bl (oRet f) Γ (p.bind fun v => some (κ v)) R := fun r e δ s => by
  obtain ⟨v, e1, e⟩ := bind_of e
  cases some_of e
  obtain ⟨δ1, h1, s1⟩ := h v e1 δ s
  have : oRet f δ = .rt (t v) δ1 := by unfold oRet; rw [sMv_tmp h1]; rfl
  rw [this]
  exact k v δ1 s1
theorem bl_retM {p : Option ε} {d : ε → PyData} {Γ1 : ε → Ga} {κ : ε → ζ} (h : Em f Γ p d Γ1) (k : ∀ v t δ', (Pt.tr (d v)).Ok t → Sat (Γ1 v) δ' → R (κ v) (.rt t δ')) : Bl (oRet f) Γ (p.bind fun v => some (κ v)) R := fun r e δ s => by
  obtain ⟨v, e1, e⟩ := bind_of e
  cases some_of e
  obtain ⟨t, δ1, h1, h2, s1⟩ := h v e1 δ s
  have : oRet f δ = .rt t δ1 := by
    unfold oRet
    rcases h2 with ⟨_, ds, rfl⟩ | rfl
    · rw [sMv_tmp h1]; rfl
    · rw [sMv_val h1]; rfl
  rw [this]
  exact k v t δ1 h2 s1
/-- a name whose list is one's own -/
theorem bl_retO {k : Nat} {s0 : Sl} {κ : ζ} (h0 : Γ[k]? = some (.eq s0)) (ho : ownS (some s0) = true) (k2 : ∀ δ', Sat (upP k (.eq .no) Γ) δ' → R κ (.rt s0 δ')) : Bl (oRet (sVar k)) Γ (some κ) R := fun r e δ s => by
  cases some_of e
  have hk := s.at_ h0
  have h1 : sVar k δ = .ok (.ref k) δ := by
    unfold sVar
    rw [hk]
    cases s0 <;> first | rfl | cases ho
  have h2 : sMv (sVar k) δ = .ok (.tmp s0) (upS k .no δ) := by
    unfold sMv
    rw [h1]
    show moveI k δ = _
    unfold moveI
    rw [hk]
    cases s0 <;> first | rfl | cases ho
  have : oRet (sVar k) δ = .rt s0 (upS k .no δ) := by unfold oRet; rw [h2]; rfl
  rw [this]
  exact k2 _ (s.up (p := .eq .no) rfl)
/-- slot k may be lost -/
def loseE (k : Nat) : Pt → Pt
  | .eq (.al x j) => if x = k then .aa else .eq (.al x j)
  | p => p
def loseP (k : Nat) (Γ : Ga) : Ga := (Γ.map (loseE k)).set k .any
theorem lose1 {k : Nat} {p : Pt} {s : Sl} (h : p.Ok s) : (loseE k p).Ok s := by
  cases p with
  | eq t =>
    cases t with
    | al x j =>
      show (if x = k then Pt.aa else .eq (.al x j)).Ok s
      by_cases c : x = k
      · rw [if_pos c]; trivial
      · rw [if_neg c]; exact h
    | _ => exact h
  | _ => exact h
theorem lose2 {k : Nat} {p : Pt} {s : Sl} (h : (dropP k p).Ok s) : (loseE k p).Ok s := by
  cases p with
  | eq t =>
    cases t with
    | al x j =>
      have h : (if x = k then Pt.eq .no else .eq (.al x j)).Ok s := h
      show (if x = k then Pt.aa else .eq (.al x j)).Ok s
      by_cases c : x = k
      · rw [if_pos c]; trivial
      · rw [if_neg c] at h ⊢; exact h
    | _ => exact h
  | _ => exact h
theorem sat_map {q r : Pt → Pt} (h : ∀ p s, (q p).Ok s → (r p).Ok s) : ∀ {Γ : Ga} {δ : List Sl}, Sat (Γ.map q) δ → Sat (Γ.map r) δ
  | [], _, s => by cases s; exact .nil
  | p :: Γ, _, s => by
    cases s with
    | cons a b => exact .cons (h _ _ a) (sat_map h b)
theorem sat_set_any : ∀ {Γ : Ga} {δ : List Sl} {k : Nat} {t : Sl}, Sat Γ δ → δ[k]? = some t → isAl t = false → Sat (Γ.set k .any) δ
  | _, _, _, _, .nil, e, _ => by simp at e
  | _, _, 0, _, .cons a b, e, h => by
    simp at e
    subst e
    exact .cons h b
  | _, _, k + 1, _, .cons a b, e, h => .cons a (sat_set_any b (by simpa using e) h)
theorem lose_same {δ : List Sl} {k : Nat} {t : Sl} (s : Sat Γ δ) (e : δ[k]? = some t) (h : isAl t = false) : Sat (loseP k Γ) δ :=
  sat_set_any (sat_map (q := id) (r := loseE k) (fun _ _ h => lose1 h) (by rwa [List.map_id])) e h
theorem lose_no {δ : List Sl} {k : Nat} (s : Sat Γ δ) : Sat (loseP k Γ) (upS k .no δ) :=
  (sat_map (fun _ _ h => lose2 h) (s.drop k)).set (p := .any) (s := .no) (show isAl .no = false from rfl) k
/-- a name of which only the tree is known -/
theorem bl_retR [Enc α] {k : Nat} {x : α} {κ : ζ} (h0 : Γ[k]? = some (.tr (enc x))) (k2 : ∀ t δ', (Pt.tr (enc x)).Ok t → Sat (loseP k Γ) δ' → R κ (.rt t δ')) : Bl (oRet (sVar k)) Γ (some κ) R := fun r e δ s => by
  cases some_of e
  obtain ⟨t, h1, h2⟩ := s.get h0
  rcases h2 with ⟨h3, ds, rfl⟩ | rfl
  · have h4 : sMv (sVar k) δ = .ok (.tmp (.ol (ds.map .fz))) (upS k .no δ) := by
      unfold sMv
      rw [sVar_own h1]
      show moveI k δ = _
      unfold moveI
      rw [h1]
    have : oRet (sVar k) δ = .rt (.ol (ds.map .fz)) (upS k .no δ) := by unfold oRet; rw [h4]; rfl
    rw [this]
    exact k2 _ _ (.inl ⟨h3, ds, rfl⟩) (lose_no s)
  · have h4 : sVar k δ = .ok (.val (enc x)) δ := by unfold sVar; rw [h1]
    have : oRet (sVar k) δ = .rt (.fz (enc x)) δ := by unfold oRet; rw [sMv_val h4]; rfl
    rw [this]
    exact k2 _ _ (.inr rfl) (lose_same s h1 rfl)
theorem bl_retN {κ : ζ} (k : ∀ δ', Sat Γ δ' → R κ (.rt (.fz .none) δ')) : Bl oRetN Γ (some κ) R := fun r e δ s => by
  cases some_of e
  exact k δ s
theorem bl_retS {p : Option ζ} (k : Bl (oRet f) Γ p R) : Bl (oSeq (oRet f) g) Γ p R := fun v e δ s => by
  have := k v e δ s
  have h2 : oSeq (oRet f) g δ = oRet f δ := by
    unfold oSeq
    have : ∀ δ', oRet f δ ≠ .nx δ' := fun δ' q => by
      unfold oRet at q
      cases q2 : sMv f δ with
      | ok a δ2 => rw [q2] at q; cases a <;> cases q
      | er x δ2 => rw [q2] at q; cases q
      | bad => rw [q2] at q; cases q
    cases q : oRet f δ with
    | nx δ' => exact absurd q (this δ')
    | _ => rfl
  rwa [h2]
theorem bl_retNS {p : Option ζ} (k : Bl oRetN Γ p R) : Bl (oSeq oRetN g) Γ p R := k
theorem bl_bk {κ : ζ} (k : ∀ δ', Sat Γ δ' → R κ (.bk δ')) : Bl (fun δ => .bk δ) Γ (some κ) R := fun r e δ s => by
  cases some_of e
  exact k δ s
theorem bl_bkS {p : Option ζ} (k : Bl (fun δ => .bk δ) Γ p R) : Bl (oSeq (fun δ => .bk δ) g) Γ p R := k
theorem bl_ct {κ : ζ} (k : ∀ δ', Sat Γ δ' → R κ (.ct δ')) : Bl (fun δ => .ct δ) Γ (some κ) R := fun r e δ s => by
  cases some_of e
  exact k δ s
theorem bl_ctS {p : Option ζ} (k : Bl (fun δ => .ct δ) Γ p R) : Bl (oSeq (fun δ => .ct δ) g) Γ p R := k
/-- a raise: not walked -/
theorem bl_bad {A : List Sl → Ot} : Bl A Γ (none : Option ζ) R := fun r e => nomatch e
theorem bl_end {κ : ζ} (k : ∀ δ', Sat Γ δ' → R κ (.nx δ')) : Bl oNext Γ (some κ) R := fun r e δ s => by
  cases some_of e
  exact k δ s
/-! ### if -/
theorem bl_if {t : List Sl → Rs Bool} {p : Option ε} {k : ε → Bool} {Γ1 : ε → Ga} {pa pb : ε → Option ζ} (h : Te t Γ p k Γ1) (ha : ∀ v, Bl (oSeq A g) (Γ1 v) (pa v) R) (hb : ∀ v, Bl (oSeq B g) (Γ1 v) (pb v) R) : Bl (oSeq (oIf t A B) g) Γ (p.bind fun v => if k v = true then pa v else pb v) R := fun r e δ s => by
  obtain ⟨v, e1, e⟩ := bind_of e
  obtain ⟨δ1, h1, s1⟩ := h v e1 δ s
  have : oSeq (oIf t A B) g δ = if k v = true then oSeq A g δ1 else oSeq B g δ1 := by
    unfold oSeq oIf
    rw [h1]
    show (match (if k v = true then A δ1 else B δ1) with
      | .nx δ' => g δ'
      | r => r) = _
    by_cases c : k v = true
    · simp only [if_pos c] <;> rfl
    · simp only [if_neg c] <;> rfl
  rw [this]
  by_cases c : k v = true
  · rw [if_pos c] at e ⊢
    exact ha v r e δ1 s1
  · rw [if_neg c] at e ⊢
    exact hb v r e δ1 s1
theorem bl_ifJ {t : List Sl → Rs Bool} {p : Option ε} {k : ε → Bool} {Γ1 : ε → Ga} {pa pb : ε → Option σ} {ΓJ : ε → σ → Ga} {kont : ε → σ → Option ζ} (h : Te t Γ p k Γ1) (ha : ∀ v, Bl A (Γ1 v) (pa v) (RN (ΓJ v))) (hb : ∀ v, Bl B (Γ1 v) (pb v) (RN (ΓJ v))) (hg : ∀ v j, Bl g (ΓJ v j) (kont v j) R) :
    Bl (oSeq (oIf t A B) g) Γ (p.bind fun v => (if k v = true then pa v else pb v).bind (kont v)) R := fun r e δ s => by
  obtain ⟨v, e1, e⟩ := bind_of e
  obtain ⟨j, e2, e⟩ := bind_of e
  obtain ⟨δ1, h1, s1⟩ := h v e1 δ s
  have go : ∃ δ2, oIf t A B δ = .nx δ2 ∧ Sat (ΓJ v j) δ2 := by
    unfold oIf
    rw [h1]
    show ∃ δ2, (if k v = true then A δ1 else B δ1) = _ ∧ _
    by_cases c : k v = true
    · rw [if_pos c] at e2 ⊢
      exact ha v j e2 δ1 s1
    · rw [if_neg c] at e2 ⊢
      exact hb v j e2 δ1 s1
  obtain ⟨δ2, h2, s2⟩ := go
  rw [nx_of h2]
  exact hg v j r e δ2 s2
end

/-! ### what is walked -/
section
variable {α β γ ε ζ ρ σ : Type} {Γ : Ga} {f g : List Sl → Rs AV}
def It (w : List Sl → Rs (List PyData)) (Γ : Ga) (p : Option β) (its : β → List PyData) (Γ' : β → Ga) : Prop := ∀ v, p = some v → ∀ δ, Sat Γ δ → ∃ δ', w δ = .ok (its v) δ' ∧ Sat (Γ' v) δ'
def ItP (w : List Sl → Rs (List PyData)) (Γ : Ga) (p : Option β) (its : β → List PyData) : Prop := ∀ v, p = some v → ∀ δ, Sat Γ δ → w δ = .ok (its v) δ
theorem ItP.it {w : List Sl → Rs (List PyData)} {p : Option β} {its : β → List PyData} (h : ItP w Γ p its) : It w Γ p its fun _ => Γ := fun v e δ s => ⟨δ, h v e δ s, s⟩
def seqA (d : PyData) : Option (List PyData) := seqD d
def enumL {α : Type} (xs : List α) : List (Int × α) := xs.zipIdx.map fun p => ((p.2 : Int), p.1)
def rgI (lo : Int) (n : Nat) : List Int := (List.range n).map fun i => lo + (i : Nat)
def ri1 (n : Int) : Option (List Int) := if -(2 ^ 62) ≤ n ∧ n < 2 ^ 62 then some (rgI 0 n.toNat) else none
def ri2 (i j : Int) : Option (List Int) := if -(2 ^ 62) ≤ i ∧ i < 2 ^ 62 ∧ -(2 ^ 62) ≤ j ∧ j < 2 ^ 62 then some (rgI i (j - i).toNat) else none
theorem enum_enc [Enc α] (xs : List α) : enumD (xs.map enc) = (enumL xs).map enc := by
  unfold enumD enumL
  rw [List.zipIdx_map, List.map_map, List.map_map]
  rfl
theorem rangeD_enc (lo : Int) (n : Nat) : rangeD lo n = (rgI lo n).map enc := by
  unfold rangeD rgI
  rw [List.map_map]
  rfl
theorem zip_enc [Enc α] [Enc γ] : ∀ (xs : List α) (ys : List γ), zipD (xs.map enc) (ys.map enc) = (xs.zip ys).map enc
  | [], _ => by simp [zipD]
  | _ :: _, [] => by simp [zipD]
  | x :: xs, y :: ys => by
    rw [List.map_cons, List.map_cons, zipD, zip_enc xs ys]
    rfl
theorem val_of {f : List Sl → Rs AV} {δ δ' : List Sl} {d : PyData} {k : PyData → List Sl → Rs γ} (h : f δ = .ok (.val d) δ') : (f δ).val k = k d δ' := by
  unfold Rs.val
  rw [h]
  rfl
theorem it_seq [Enc α] {p : Option β} {xs : β → List α} {Γ' : β → Ga} (h : Ev (sTk f) Γ p (fun v => .val (enc (xs v))) Γ') : It (wSeq f) Γ p (fun v => (xs v).map enc) Γ' := fun v e δ s => by
  obtain ⟨δ1, h1, s1⟩ := h v e δ s
  exact ⟨δ1, by unfold wSeq; rw [val_of h1]; rfl, s1⟩
theorem it_seqT [Enc α] {p : Option β} {xs : β → Tp α} {Γ' : β → Ga} (h : Ev (sTk f) Γ p (fun v => .val (enc (xs v))) Γ') : It (wSeq f) Γ p (fun v => (xs v).l.map enc) Γ' := fun v e δ s => by
  obtain ⟨δ1, h1, s1⟩ := h v e δ s
  exact ⟨δ1, by unfold wSeq; rw [val_of h1]; rfl, s1⟩
theorem ip_seq [Enc α] {p : Option β} {xs : β → List α} (h : Pu (sTk f) Γ p fun v => .val (enc (xs v))) : ItP (wSeq f) Γ p fun v => (xs v).map enc := fun v e δ s => by
  unfold wSeq
  rw [val_of (h v e δ s)]
  rfl
theorem ip_seqT [Enc α] {p : Option β} {xs : β → Tp α} (h : Pu (sTk f) Γ p fun v => .val (enc (xs v))) : ItP (wSeq f) Γ p fun v => (xs v).l.map enc := fun v e δ s => by
  unfold wSeq
  rw [val_of (h v e δ s)]
  rfl
theorem ip_seqA {p : Option PyData} (h : Pu (sTk f) Γ p fun v => .val (enc v)) : ItP (wSeq f) Γ (p.bind seqA) fun v => v.map enc := fun v e δ s => by
  obtain ⟨d, e1, e⟩ := bind_of e
  have e : seqD d = some v := e
  unfold wSeq
  rw [val_of (h d e1 δ s)]
  show (match seqD d with
    | some ds => Rs.ok ds δ
    | none => .bad) = _
  rw [e]
  show Rs.ok v δ = Rs.ok (v.map fun d => d) δ
  rw [List.map_id']
theorem it_enum [Enc α] {p : Option β} {xs : β → List α} {Γ' : β → Ga} (h : Ev (sTk f) Γ p (fun v => .val (enc (xs v))) Γ') : It (wEnum f) Γ p (fun v => (enumL (xs v)).map enc) Γ' := fun v e δ s => by
  obtain ⟨δ1, h1, s1⟩ := h v e δ s
  exact ⟨δ1, by unfold wEnum; rw [val_of h1]; exact congrArg (Rs.ok · δ1) (enum_enc (xs v)), s1⟩
theorem ip_enum [Enc α] {p : Option β} {xs : β → List α} (h : Pu (sTk f) Γ p fun v => .val (enc (xs v))) : ItP (wEnum f) Γ p fun v => (enumL (xs v)).map enc := fun v e δ s => by
  unfold wEnum
  rw [val_of (h v e δ s)]
  exact congrArg (Rs.ok · δ) (enum_enc (xs v))
theorem ip_rng1 {p : Option Int} (h : Pu (sTk f) Γ p fun v => .val (enc v)) : ItP (wRng1 f) Γ (p.bind ri1) fun v => v.map enc := fun v e δ s => by
  obtain ⟨n, e1, e⟩ := bind_of e
  unfold ri1 at e
  split at e
  · rename_i c
    cases some_of e
    unfold wRng1
    rw [val_of (h n e1 δ s)]
    exact (if_pos c).trans (congrArg (Rs.ok · δ) (rangeD_enc _ _))
  · cases e
theorem it_rng1 {p : Option ε} {n : ε → Int} {Γ' : ε → Ga} (h : Ev (sTk f) Γ p (fun v => .val (enc (n v))) Γ') : It (wRng1 f) Γ (p.bind fun v => (ri1 (n v)).bind fun r => some (r, v)) (fun v => v.1.map enc) fun v => Γ' v.2 := fun v e δ s => by
  obtain ⟨w, e1, e⟩ := bind_of e
  obtain ⟨r, e2, e⟩ := bind_of e
  cases some_of e
  obtain ⟨δ1, h1, s1⟩ := h w e1 δ s
  refine ⟨δ1, ?_, s1⟩
  unfold ri1 at e2
  split at e2
  · rename_i c
    cases some_of e2
    unfold wRng1
    rw [val_of h1]
    exact (if_pos c).trans (congrArg (Rs.ok · δ1) (rangeD_enc _ _))
  · cases e2
theorem ip_rng2 {p q : Option Int} (h : Pu (sTk f) Γ p fun v => .val (enc v)) (h2 : Pu (sTk g) Γ q fun v => .val (enc v)) : ItP (wRng2 f g) Γ (p.bind fun m => q.bind fun n => ri2 m n) fun v => v.map enc := fun v e δ s => by
  obtain ⟨m, e1, e⟩ := bind_of e
  obtain ⟨n, e2, e⟩ := bind_of e
  unfold ri2 at e
  split at e
  · rename_i c
    cases some_of e
    unfold wRng2
    rw [val_of (h m e1 δ s), val_of (h2 n e2 δ s)]
    exact (if_pos c).trans (congrArg (Rs.ok · δ) (rangeD_enc _ _))
  · cases e
theorem ip_zip [Enc α] [Enc γ] {p : Option β} {q : Option ε} {xs : β → List α} {ys : ε → List γ} (h : Pu (sTk f) Γ p fun v => .val (enc (xs v))) (h2 : Pu (sTk g) Γ q fun v => .val (enc (ys v))) : ItP (wZip f g) Γ (p.bind fun m => q.bind fun n => some ((xs m).zip (ys n))) fun v => v.map enc := fun v e δ s => by
  obtain ⟨m, e1, e⟩ := bind_of e
  obtain ⟨n, e2, e⟩ := bind_of e
  cases some_of e
  unfold wZip
  rw [val_of (h m e1 δ s), val_of (h2 n e2 δ s)]
  exact congrArg (Rs.ok · δ) (zip_enc _ _)
theorem ip_zipT [Enc α] [Enc γ] {p : Option β} {q : Option ε} {xs : β → Tp α} {ys : ε → Tp γ} (h : Pu (sTk f) Γ p fun v => .val (enc (xs v))) (h2 : Pu (sTk g) Γ q fun v => .val (enc (ys v))) : ItP (wZip f g) Γ (p.bind fun m => q.bind fun n => some ((xs m).l.zip (ys n).l)) fun v => v.map enc := fun v e δ s => by
  obtain ⟨m, e1, e⟩ := bind_of e
  obtain ⟨n, e2, e⟩ := bind_of e
  cases some_of e
  unfold wZip
  rw [val_of (h m e1 δ s), val_of (h2 n e2 δ s)]
  exact congrArg (Rs.ok · δ) (zip_enc _ _)
/-! ### targets -/
/-- only the slots vs change -/
def Tg (vs : List Nat) (t : AV → List Sl → Rs Unit) (Γ : Ga) (d : PyData) (Γ' : Ga) : Prop := ∀ δ, Sat Γ δ → ∃ δ', t (.val d) δ = .ok () δ' ∧ Sat Γ' δ' ∧ ((∀ (i x j : Nat), δ[i]? = some (.al x j) → x ∉ vs) → δ'.length = δ.length ∧ (∀ k, k ∉ vs → δ'[k]? = δ[k]?) ∧ ∀ (i x j : Nat), δ'[i]? = some (.al x j) → x ∉ vs)
def Tgs (vs : List Nat) (t : List PyData → List Sl → Rs Unit) (Γ : Ga) (ds : List PyData) (Γ' : Ga) : Prop := ∀ δ, Sat Γ δ → ∃ δ', t ds δ = .ok () δ' ∧ Sat Γ' δ' ∧ ((∀ (i x j : Nat), δ[i]? = some (.al x j) → x ∉ vs) → δ'.length = δ.length ∧ (∀ k, k ∉ vs → δ'[k]? = δ[k]?) ∧ ∀ (i x j : Nat), δ'[i]? = some (.al x j) → x ∉ vs)
theorem upS_keep {k : Nat} {s : Sl} {δ : List Sl} (h : ∀ (i x j : Nat), δ[i]? = some (.al x j) → x ≠ k) : upS k s δ = δ.set k s := by
  have : dropAl k δ = δ := by
    rw [dropAl_eq]
    apply List.ext_getElem?
    intro i
    rw [List.getElem?_map]
    cases q : δ[i]? with
    | none => rfl
    | some t =>
      cases t with
      | al x j =>
        show some (if x = k then Sl.no else .al x j) = _
        rw [if_neg (h i x j q)]
      | _ => rfl
  unfold upS
  rw [this]
theorem tg_n {vs : List Nat} {k : Nat} {d : PyData} (hk : k ∈ vs := by decide) : Tg vs (tgN k) Γ d (upP k (.eq (.fz d)) Γ) := fun δ s => by
  refine ⟨upS k (.fz d) δ, rfl, s.up rfl, fun h => ?_⟩
  rw [upS_keep fun i x j e z => h i x j e (by rw [z]; exact hk)]
  refine ⟨by simp, fun j hj => List.getElem?_set_ne fun z => hj (by rw [← z]; exact hk), fun i x j e => ?_⟩
  rw [List.getElem?_set] at e
  by_cases c : k = i
  · rw [if_pos c] at e
    split at e <;> cases e
  · rw [if_neg c] at e
    exact h i x j e
theorem tgs_nil {vs : List Nat} : Tgs vs tgNil Γ [] Γ := fun δ s => ⟨δ, rfl, s, fun h => ⟨rfl, fun _ _ => rfl, h⟩⟩
theorem tgs_cons {vs : List Nat} {t : AV → List Sl → Rs Unit} {u : List PyData → List Sl → Rs Unit} {d : PyData} {ds : List PyData} {Γ1 Γ2 : Ga} (h : Tg vs t Γ d Γ1) (h2 : Tgs vs u Γ1 ds Γ2) : Tgs vs (tgCons t u) Γ (d :: ds) Γ2 := fun δ s => by
  obtain ⟨δ1, e1, s1, k1⟩ := h δ s
  obtain ⟨δ2, e2, s2, k2⟩ := h2 δ1 s1
  refine ⟨δ2, ?_, s2, fun hk => ?_⟩
  · unfold tgCons
    show (t (.val d) δ).bind _ = _
    rw [e1]
    exact e2
  · obtain ⟨a1, b1, c1⟩ := k1 hk
    obtain ⟨a2, b2, c2⟩ := k2 c1
    exact ⟨a2.trans a1, fun k z => (b2 k z).trans (b1 k z), c2⟩
theorem tg_t {vs : List Nat} {n : Nat} {u : List PyData → List Sl → Rs Unit} {ds : List PyData} {Γ1 : Ga} (h : Tgs vs u Γ ds Γ1) (hn : ds.length = n := by rfl) : Tg vs (tgT n u) Γ (.tuple ds) Γ1 := fun δ s => by
  obtain ⟨δ1, e1, s1, k1⟩ := h δ s
  refine ⟨δ1, ?_, s1, k1⟩
  unfold tgT
  show (if ds.length = n then u ds δ else .bad) = _
  rw [if_pos hn]
  exact e1
/-! ### for -/
def forS : List α → σ → (σ → α → Option σ) → Option σ
  | [], s, _ => some s
  | x :: r, s, b => (b s x).bind fun s' => forS r s' b
def forF : List α → σ → (σ → α → Option (Fl ρ σ)) → Option (Fl ρ σ)
  | [], s, _ => some (.nx s)
  | x :: r, s, b => (b s x).bind fun o => match o with
    | .nx s' => forF r s' b
    | .bk s' => some (.bk s')
    | .rt v => some (.rt v)
variable {A g' B : List Sl → Ot} {R : ζ → Ot → Prop} {t : AV → List Sl → Rs Unit} {w : List Sl → Rs (List PyData)}
theorem forS_ok [Enc α] {vs : List Nat} {ΓL : σ → Ga} {ΓT : σ → α → Ga} {b : σ → α → Option σ} (ht : ∀ s x, Tg vs t (ΓL s) (enc x) (ΓT s x)) (hb : ∀ s x, Bl B (ΓT s x) (b s x) (RS ΓL)) : ∀ (xs : List α) (s r : σ), forS xs s b = some r → ∀ δ, Sat (ΓL s) δ → ∃ δ', forL t B (xs.map enc) δ = .nx δ' ∧ Sat (ΓL r) δ'
  | [], s, r, e, δ, sa => by
    cases some_of e
    exact ⟨δ, rfl, sa⟩
  | x :: xs, s, r, e, δ, sa => by
    obtain ⟨s', e1, e⟩ := bind_of e
    obtain ⟨δ1, h1, s1, _⟩ := ht s x δ sa
    obtain ⟨δ2, h2, s2⟩ := hb s x s' e1 δ1 s1
    obtain ⟨δ3, h3, s3⟩ := forS_ok ht hb xs s' r e δ2 s2
    refine ⟨δ3, ?_, s3⟩
    rw [List.map_cons]
    unfold forL
    rw [h1]
    rcases h2 with h2 | h2 <;> (simp only [h2]; exact h3)
theorem bl_for [Enc α] {vs : List Nat} {p : Option ε} {xs : ε → List α} {Γ1 : ε → Ga} {s0 : ε → σ} {ΓL : ε → σ → Ga} {ΓT : ε → σ → α → Ga} {b : ε → σ → α → Option σ} {kont : ε → σ → Option ζ} (hw : It w Γ p (fun v => (xs v).map enc) Γ1) (h0 : ∀ v, GaLe (Γ1 v) (ΓL v (s0 v)))
    (ht : ∀ v s x, Tg vs t (ΓL v s) (enc x) (ΓT v s x)) (hb : ∀ v s x, Bl B (ΓT v s x) (b v s x) (RS (ΓL v))) (hg : ∀ v s, Bl g' (ΓL v s) (kont v s) R) :
    Bl (oSeq (oFor w t B) g') Γ (p.bind fun v => (forS (xs v) (s0 v) (b v)).bind (kont v)) R := fun r e δ s => by
  obtain ⟨v, e1, e⟩ := bind_of e
  obtain ⟨q, e2, e⟩ := bind_of e
  obtain ⟨δ1, h1, s1⟩ := hw v e1 δ s
  obtain ⟨δ2, h2, s2⟩ := forS_ok (ht v) (hb v) (xs v) (s0 v) q e2 δ1 (s1.wk (h0 v))
  rw [nx_of (show oFor w t B δ = .nx δ2 by unfold oFor; rw [h1]; exact h2)]
  exact hg v q r e δ2 s2
theorem forF_ok [Enc α] {vs : List Nat} {ΓL : σ → Ga} {ΓT : σ → α → Ga} {b : σ → α → Option (Fl ρ σ)} {Q : ρ → Ot → Prop} (ht : ∀ s x, Tg vs t (ΓL s) (enc x) (ΓT s x)) (hb : ∀ s x, Bl B (ΓT s x) (b s x) (RL Q ΓL ΓL)) : ∀ (xs : List α) (s : σ) (r : Fl ρ σ), forF xs s b = some r → ∀ δ, Sat (ΓL s) δ → match r with
    | .nx r => ∃ δ', forL t B (xs.map enc) δ = .nx δ' ∧ Sat (ΓL r) δ'
    | .bk r => ∃ δ', forL t B (xs.map enc) δ = .nx δ' ∧ Sat (ΓL r) δ'
    | .rt v => Q v (forL t B (xs.map enc) δ) ∧ ∃ u δ', forL t B (xs.map enc) δ = .rt u δ'
  | [], s, r, e, δ, sa => by
    cases some_of e
    exact ⟨δ, rfl, sa⟩
  | x :: xs, s, r, e, δ, sa => by
    obtain ⟨o, e1, e⟩ := bind_of e
    obtain ⟨δ1, h1, s1, _⟩ := ht s x δ sa
    have h2 := hb s x o e1 δ1 s1
    have un : forL t B ((x :: xs).map enc) δ = match B δ1 with
      | .nx δ2 => forL t B (xs.map enc) δ2
      | .ct δ2 => forL t B (xs.map enc) δ2
      | .bk δ2 => .nx δ2
      | o => o := by
      rw [List.map_cons]
      rw [forL]
      rw [h1] <;> (dsimp only <;> (cases B δ1 <;> rfl))
    rw [un]
    cases o with
    | nx s' =>
      obtain ⟨δ2, h2, s2⟩ := h2
      have := forF_ok ht hb xs s' r e δ2 s2
      rcases h2 with h2 | h2 <;> (simp only [h2]; exact this)
    | bk s' =>
      cases some_of e
      obtain ⟨δ2, h2, s2⟩ := h2
      simp only [h2]
      exact ⟨δ2, rfl, s2⟩
    | rt v =>
      cases some_of e
      obtain ⟨h3, u, δ2, h4⟩ := h2
      rw [h4] at h3
      simp only [h4]
      refine ⟨h3, u, δ2, ?_⟩
      trivial
/-- a loop that may be left -/
theorem bl_forF [Enc α] {vs : List Nat} {Q : ρ → Ot → Prop} {p : Option ε} {xs : ε → List α} {Γ1 : ε → Ga} {s0 : ε → σ} {ΓL : ε → σ → Ga} {ΓT : ε → σ → α → Ga} {b : ε → σ → α → Option (Fl ρ σ)} {kr : ρ → Option ζ} {kont : ε → σ → Option ζ} (hw : It w Γ p (fun v => (xs v).map enc) Γ1) (h0 : ∀ v, GaLe (Γ1 v) (ΓL v (s0 v)))
    (ht : ∀ v s x, Tg vs t (ΓL v s) (enc x) (ΓT v s x)) (hb : ∀ v s x, Bl B (ΓT v s x) (b v s x) (RL Q (ΓL v) (ΓL v))) (hr : ∀ v z u δ', kr v = some z → Q v (.rt u δ') → R z (.rt u δ')) (hg : ∀ v s, Bl g' (ΓL v s) (kont v s) R) :
    Bl (oSeq (oFor w t B) g') Γ (p.bind fun v => (forF (xs v) (s0 v) (b v)).bind fun o => o.el (kont v) kr) R := fun r e δ s => by
  obtain ⟨v, e1, e⟩ := bind_of e
  obtain ⟨q, e2, e⟩ := bind_of e
  obtain ⟨δ1, h1, s1⟩ := hw v e1 δ s
  have h2 := forF_ok (Q := Q) (ht v) (hb v) (xs v) (s0 v) q e2 δ1 (s1.wk (h0 v))
  have un : oFor w t B δ = forL t B ((xs v).map enc) δ1 := by unfold oFor; rw [h1]; rfl
  cases q with
  | nx s' =>
    obtain ⟨δ2, h2, s2⟩ := h2
    rw [nx_of (un.trans h2)]
    exact hg v s' r e δ2 s2
  | bk s' =>
    obtain ⟨δ2, h2, s2⟩ := h2
    rw [nx_of (un.trans h2)]
    exact hg v s' r e δ2 s2
  | rt v' =>
    obtain ⟨h3, u, δ2, h4⟩ := h2
    have : oSeq (oFor w t B) g' δ = .rt u δ2 := by
      unfold oSeq
      rw [un, h4]
    rw [this]
    exact hr v' r u δ2 e (by rw [h4] at h3; exact h3)
/-! ### while -/
def whS : Nat → σ → (σ → Option Bool) → (σ → Option σ) → Option σ
  | 0, _, _, _ => none
  | n + 1, s, c, b => (c s).bind fun k => if k = true then (b s).bind fun s' => whS n s' c b else some s
theorem whS_ok {tt : List Sl → Rs Bool} {ΓL : σ → Ga} {c : σ → Option Bool} {b : σ → Option σ} (hc : ∀ s, Ts tt (ΓL s) (c s)) (hb : ∀ s, Bl B (ΓL s) (b s) (RS ΓL)) : ∀ (n : Nat) (s r : σ), whS n s c b = some r → ∀ δ, Sat (ΓL s) δ → ∃ δ', oWh tt B n δ = .nx δ' ∧ Sat (ΓL r) δ'
  | 0, _, _, e, _, _ => by cases e
  | n + 1, s, r, e, δ, sa => by
    obtain ⟨k, e1, e⟩ := bind_of e
    have h1 := hc s k e1 δ sa
    unfold oWh
    rw [h1]
    show ∃ δ', (if k = true then _ else _) = _ ∧ _
    by_cases q : k = true
    · rw [if_pos q] at e
      simp only [if_pos q]
      obtain ⟨s', e2, e⟩ := bind_of e
      obtain ⟨δ2, h2, s2⟩ := hb s s' e2 δ sa
      obtain ⟨δ3, h3, s3⟩ := whS_ok hc hb n s' r e δ2 s2
      refine ⟨δ3, ?_, s3⟩
      rcases h2 with h2 | h2 <;> (simp only [h2]; exact h3)
    · rw [if_neg q] at e
      simp only [if_neg q]
      cases some_of e
      exact ⟨δ, rfl, sa⟩
theorem bl_wh {tt : List Sl → Rs Bool} {n : Nat} {s0 : σ} {ΓL : σ → Ga} {c : σ → Option Bool} {b : σ → Option σ} {kont : σ → Option ζ} (h0 : GaLe Γ (ΓL s0)) (hc : ∀ s, Ts tt (ΓL s) (c s)) (hb : ∀ s, Bl B (ΓL s) (b s) (RS ΓL)) (hg : ∀ s, Bl g' (ΓL s) (kont s) R) : Bl (oSeq (oWh tt B n) g') Γ ((whS n s0 c b).bind kont) R := fun r e δ s => by
  obtain ⟨q, e2, e⟩ := bind_of e
  obtain ⟨δ2, h2, s2⟩ := whS_ok hc hb n s0 q e2 δ (s.wk h0)
  rw [nx_of h2]
  exact hg q r e δ2 s2
end
end Nv

/-! part N5 -/
namespace Nv
open PySem Hb L2
open Enc (enc)

/-! ### comprehensions -/
def calmE (vs : List Nat) : Pt → Bool
  | .aa => false
  | .eq (.al x _) => !vs.contains x
  | _ => true
def calm (vs : List Nat) (Γ : Ga) : Bool := Γ.all (calmE vs)
theorem calm_ok {vs : List Nat} {Γ : Ga} {δ : List Sl} (h : calm vs Γ = true) (s : Sat Γ δ) : ∀ (i x j : Nat), δ[i]? = some (.al x j) → x ∉ vs := by
  induction s with
  | nil => intro i x j e; simp at e
  | @cons p t Γ δ h1 _ ih =>
    have h : (calmE vs p && calm vs Γ) = true := h
    rw [Bool.and_eq_true] at h
    intro i x j e
    cases i with
    | zero =>
      simp at e
      subst e
      cases p with
      | aa => cases h.1
      | any => cases h1
      | pl => cases h1
      | tr d => rcases h1 with ⟨_, ds, z⟩ | z <;> cases z
      | eq u =>
        cases (show Sl.al x j = u from h1)
        have : (!vs.contains x) = true := h.1
        simpa using this
    | succ i => exact ih h.2 i x j (by simpa using e)
def plP : Pt → Bool
  | .pl => true
  | .eq .no => true
  | .eq (.fz _) => true
  | _ => false
theorem plP_ok {p : Pt} {s : Sl} (h : plP p = true) (hs : p.Ok s) : plainS (some s) = true := by
  cases p with
  | pl => exact hs
  | eq t =>
    cases (show s = t from hs)
    cases s <;> first | rfl | cases h
  | _ => cases h
def okP (vs : List Nat) (Γ : Ga) : Bool := vs.all fun v => match Γ[v]? with
  | some p => plP p
  | none => false
theorem okP_ok {vs : List Nat} {Γ : Ga} {δ : List Sl} (h : okP vs Γ = true) (s : Sat Γ δ) : okW vs δ = true := by
  unfold okW
  unfold okP at h
  rw [List.all_eq_true] at h ⊢
  intro v hv
  have := h v hv
  cases q : Γ[v]? with
  | none => rw [q] at this; cases this
  | some p =>
    rw [q] at this
    obtain ⟨t, e1, e2⟩ := s.get q
    rw [e1]
    exact plP_ok this e2
def wipeP (vs : List Nat) (Γ : Ga) : Ga := vs.foldr (fun v Γ => Γ.set v (.eq .no)) Γ
theorem wipeP_ok {Γ : Ga} {δ : List Sl} (s : Sat Γ δ) : ∀ vs : List Nat, Sat (wipeP vs Γ) (wipeD vs δ)
  | [] => s
  | v :: vs => (wipeP_ok s vs).set (p := .eq .no) rfl v
theorem wipe_len (δ : List Sl) : ∀ vs : List Nat, (wipeD vs δ).length = δ.length
  | [] => rfl
  | v :: vs => by
    show ((wipeD vs δ).set v .no).length = _
    rw [List.length_set, wipe_len δ vs]
theorem wipe_get (δ : List Sl) : ∀ (vs : List Nat) {k : Nat}, k ∉ vs → (wipeD vs δ)[k]? = δ[k]?
  | [], _, _ => rfl
  | v :: vs, k, h => by
    show ((wipeD vs δ).set v .no)[k]? = _
    rw [List.getElem?_set_ne (fun z => h (by rw [z]; exact List.mem_cons_self)), wipe_get δ vs fun z => h (List.mem_cons_of_mem _ z)]
theorem wipe_al {δ : List Sl} {P : Nat → Prop} (h : ∀ (i x j : Nat), δ[i]? = some (.al x j) → P x) : ∀ (vs : List Nat) (i x j : Nat), (wipeD vs δ)[i]? = some (.al x j) → P x
  | [], i, x, j, e => h i x j e
  | v :: vs, i, x, j, e => by
    have e : ((wipeD vs δ).set v .no)[i]? = some (.al x j) := e
    rw [List.getElem?_set] at e
    by_cases c : v = i
    · rw [if_pos c] at e
      split at e <;> cases e
    · rw [if_neg c] at e
      exact wipe_al h vs i x j e
/-- nothing but the block's own slots changed -/
theorem unw_id {vs : List Nat} {δ δ1 : List Sl} (hl : δ1.length = δ.length) (hk : ∀ k, k ∉ vs → δ1[k]? = δ[k]?) (ha : ∀ (i x j : Nat), δ1[i]? = some (.al x j) → x ∉ vs) (hw : okW vs δ = true) : unw vs δ δ1 = δ := by
  have key : ∀ us : List Nat, (∀ u ∈ us, u ∈ vs) → (unw us δ δ1).length = δ.length ∧ (∀ k, (k ∉ vs ∨ k ∈ us) → (unw us δ δ1)[k]? = δ[k]?) ∧ ∀ (i x j : Nat), (unw us δ δ1)[i]? = some (.al x j) → x ∉ vs := by
    intro us
    induction us with
    | nil => exact fun _ => ⟨hl, fun k h => h.elim (hk k) (fun z => nomatch z), ha⟩
    | cons u us ih =>
      intro hu
      obtain ⟨a, b, c⟩ := ih fun w hw => hu w (List.mem_cons_of_mem _ hw)
      have huv := hu u List.mem_cons_self
      have e : unw (u :: us) δ δ1 = (unw us δ δ1).set u (δ[u]?.getD .no) := upS_keep fun i x j e z => c i x j e (by rw [z]; exact huv)
      rw [e]
      have hp : plainS δ[u]? = true := List.all_eq_true.mp hw u huv
      refine ⟨by rw [List.length_set, a], fun k h => ?_, fun i x j q => ?_⟩
      · by_cases z : u = k
        · subst z
          rw [List.getElem?_set]
          rw [if_pos rfl]
          cases q : δ[u]? with
          | none => rw [q] at hp; cases hp
          | some t =>
            have : u < δ.length := (List.getElem?_eq_some_iff.mp q).1
            rw [if_pos (by rw [a]; exact this)]
            rfl
        · rw [List.getElem?_set_ne z]
          exact b k (h.imp id fun m => (List.mem_cons.mp m).elim (fun m => absurd m.symm z) id)
      · rw [List.getElem?_set] at q
        by_cases z : u = i
        · rw [if_pos z] at q
          split at q
          · cases q2 : δ[u]? with
            | none => rw [q2] at hp; cases hp
            | some t =>
              rw [q2] at q hp
              have : t = .al x j := Option.some.inj q
              subst this
              cases hp
          · cases q
        · rw [if_neg z] at q
          exact c i x j q
  obtain ⟨_, b, _⟩ := key vs fun _ h => h
  apply List.ext_getElem?
  intro k
  exact b k (if h : k ∈ vs then .inr h else .inl h)
section
variable {α β γ ε ζ ρ σ : Type} {Γ : Ga} {f : List Sl → Rs AV} {t : AV → List Sl → Rs Unit} {tt : List Sl → Rs Bool} {w : List Sl → Rs (List PyData)} {vs : List Nat}
def mapF : List α → (α → Option Bool) → (α → Option γ) → Option (List γ)
  | [], _, _ => some []
  | x :: r, c, g => (c x).bind fun b => if b = true then (g x).bind fun y => (mapF r c g).bind fun ys => some (y :: ys) else mapF r c g
/-- each item once, no test -/
def mapP : List α → (α → Option γ) → Option (List γ)
  | [], _ => some []
  | x :: r, g => (g x).bind fun y => (mapP r g).bind fun ys => some (y :: ys)
theorem mapP_F (g : α → Option γ) : ∀ xs : List α, mapP xs g = mapF xs (fun _ => some true) g
  | [] => rfl
  | x :: r => by
    unfold mapP mapF
    rw [mapP_F g r]
    rfl
theorem lcF [Enc α] {W : Bool} {a : γ → AV} {el : γ → El} (hel : ∀ y, elOf W (a y) = some (el y)) {ΓT : α → Ga} {pt : α → Option Bool} {pe : α → Option γ} (hok : okP vs Γ = true) (hc : calm vs Γ = true) (ht : ∀ x, Tg vs t (wipeP vs Γ) (enc x) (ΓT x)) (htt : ∀ x, Ts tt (ΓT x) (pt x)) (hf : ∀ x, Pu f (ΓT x) (pe x) a) :
    ∀ (xs : List α) (es : List El) (ys : List γ), mapF xs pt pe = some ys → es.length + xs.length ≤ cap → ∀ δ, Sat Γ δ → lcL W vs t tt f (xs.map enc) es δ = .ok (es ++ ys.map el) δ
  | [], es, ys, e, _, δ, _ => by
    cases some_of e
    simp [lcL]
  | x :: xs, es, ys, e, hl, δ, s => by
    obtain ⟨b, e1, e⟩ := bind_of e
    have hw := okP_ok hok s
    have hal := calm_ok hc s
    obtain ⟨δ1, h1, s1, k1⟩ := ht x (wipeD vs δ) (wipeP_ok s vs)
    obtain ⟨a1, b1, c1⟩ := k1 (wipe_al hal vs)
    have un : unw vs δ δ1 = δ := unw_id (by rw [a1, wipe_len]) (fun k hk => by rw [b1 k hk, wipe_get δ vs hk]) c1 hw
    have h2 := htt x b e1 δ1 s1
    rw [List.map_cons]
    simp only [List.length_cons] at hl
    unfold lcL
    rw [if_pos hw, h1]
    simp only [h2]
    cases b with
    | false =>
      rw [if_neg Bool.false_ne_true, un]
      exact lcF hel hok hc ht htt hf xs es ys (by simpa using e) (by omega) δ s
    | true =>
      rw [if_pos rfl] at e
      obtain ⟨y, e2, e⟩ := bind_of e
      obtain ⟨zs, e3, e⟩ := bind_of e
      cases some_of e
      have h3 := hf x y e2 δ1 s1
      simp only [if_true, h3, hel]
      rw [if_pos (by omega), un, lcF hel hok hc ht htt hf xs (es ++ [el y]) zs e3 (by simp; omega) δ s]
      simp
theorem el_val [Enc γ] {W : Bool} : ∀ y : γ, elOf W (.val (enc y)) = some (.fz (enc y)) := fun _ => rfl
theorem el_row [Enc γ] : ∀ y : List γ, elOf true (.tmp (ow y)) = some (.ow (y.map enc)) := fun y => by
  show (allFz _).map El.ow = _
  rw [allFz_map]
  rfl
theorem ow_els [Enc γ] (ys : List γ) : Sl.ol ([] ++ ys.map fun y => El.fz (enc y)) = ow ys := by
  unfold ow
  rw [List.nil_append, List.map_map]
  rfl
theorem pu_lc [Enc α] [Enc γ] {p : Option β} {xs : β → List α} {ΓT : β → α → Ga} {pt : β → α → Option Bool} {pe : β → α → Option γ} (hw : ItP w Γ p fun v => (xs v).map enc) (hok : okP vs Γ = true) (hc : calm vs Γ = true) (ht : ∀ v x, Tg vs t (wipeP vs Γ) (enc x) (ΓT v x)) (htt : ∀ v x, Ts tt (ΓT v x) (pt v x)) (hf : ∀ v x, Pu f (ΓT v x) (pe v x) fun y => .val (enc y)) :
    Pu (sLc false w vs t tt f) Γ (p.bind fun v => if (xs v).length ≤ cap then mapF (xs v) (pt v) (pe v) else none) fun r => .tmp (ow r) := fun r e δ s => by
  obtain ⟨v, e1, e⟩ := bind_of e
  by_cases c : (xs v).length ≤ cap
  · rw [if_pos c] at e
    unfold sLc
    rw [hw v e1 δ s]
    show (lcL false vs t tt f ((xs v).map enc) [] δ).bind _ = _
    rw [lcF el_val hok hc (ht v) (htt v) (hf v) (xs v) [] r e (by simpa using c) δ s]
    exact congrArg (fun z => Rs.ok (AV.tmp z) δ) (ow_els r)
  · rw [if_neg c] at e
    cases e
theorem pu_lcw [Enc α] [Enc γ] {p : Option β} {xs : β → List α} {ΓT : β → α → Ga} {pt : β → α → Option Bool} {pe : β → α → Option (List γ)} (hw : ItP w Γ p fun v => (xs v).map enc) (hok : okP vs Γ = true) (hc : calm vs Γ = true) (ht : ∀ v x, Tg vs t (wipeP vs Γ) (enc x) (ΓT v x)) (htt : ∀ v x, Ts tt (ΓT v x) (pt v x)) (hf : ∀ v x, Pu f (ΓT v x) (pe v x) fun y => .tmp (ow y)) :
    Pu (sLc true w vs t tt f) Γ (p.bind fun v => if (xs v).length ≤ cap then mapF (xs v) (pt v) (pe v) else none) fun r => .tmp (oww r) := fun r e δ s => by
  obtain ⟨v, e1, e⟩ := bind_of e
  by_cases c : (xs v).length ≤ cap
  · rw [if_pos c] at e
    unfold sLc
    rw [hw v e1 δ s]
    show (lcL true vs t tt f ((xs v).map enc) [] δ).bind _ = _
    rw [lcF el_row hok hc (ht v) (htt v) (hf v) (xs v) [] r e (by simpa using c) δ s]
    rfl
  · rw [if_neg c] at e
    cases e
/-! with effects: a state goes from turn to turn -/
def mapE : List α → σ → (σ → α → Option (γ × σ)) → Option (List γ × σ)
  | [], s, _ => some ([], s)
  | x :: r, s, g => (g s x).bind fun y => (mapE r y.2 g).bind fun z => some (y.1 :: z.1, z.2)
def unwP (vs : List Nat) (Γ Γ' : Ga) : Ga := vs.foldr (fun v Γ' => upP v ((Γ[v]?).getD .aa) Γ') Γ'
theorem unwP_ok {Γ Γ' : Ga} {δ δ' : List Sl} (s : Sat Γ δ) (s' : Sat Γ' δ') : ∀ vs : List Nat, Sat (unwP vs Γ Γ') (unw vs δ δ')
  | [] => s'
  | v :: vs => by
    refine (unwP_ok s s' vs).up ?_
    cases q : Γ[v]? with
    | none => trivial
    | some p =>
      obtain ⟨t, e1, e2⟩ := s.get q
      rw [e1]
      exact e2
theorem lcE [Enc α] {W : Bool} {a : γ → AV} {el : γ → El} (hel : ∀ y, elOf W (a y) = some (el y)) {ΓL : σ → Ga} {ΓT : σ → α → Ga} {Γ2 : σ → α → γ × σ → Ga} {pe : σ → α → Option (γ × σ)} (hok : ∀ s, okP vs (ΓL s) = true) (ht : ∀ s x, Tg vs t (wipeP vs (ΓL s)) (enc x) (ΓT s x)) (htt : ∀ s x, Ts tt (ΓT s x) (some true)) (hf : ∀ s x, Ev f (ΓT s x) (pe s x) (fun y => a y.1) (Γ2 s x)) (hz : ∀ s x y, GaLe (unwP vs (ΓL s) (Γ2 s x y)) (ΓL y.2)) :
    ∀ (xs : List α) (es : List El) (s : σ) (r : List γ × σ), mapE xs s pe = some r → es.length + xs.length ≤ cap → ∀ δ, Sat (ΓL s) δ → ∃ δ', lcL W vs t tt f (xs.map enc) es δ = .ok (es ++ r.1.map el) δ' ∧ Sat (ΓL r.2) δ'
  | [], es, s, r, e, _, δ, sa => by
    cases some_of e
    exact ⟨δ, by simp [lcL], sa⟩
  | x :: xs, es, s, r, e, hl, δ, sa => by
    obtain ⟨y, e1, e⟩ := bind_of e
    obtain ⟨z, e2, e⟩ := bind_of e
    cases some_of e
    have hw := okP_ok (hok s) sa
    obtain ⟨δ1, h1, s1, _⟩ := ht s x (wipeD vs δ) (wipeP_ok sa vs)
    have h2 := htt s x true rfl δ1 s1
    obtain ⟨δ2, h3, s2⟩ := hf s x y e1 δ1 s1
    simp only [List.length_cons] at hl
    obtain ⟨δ3, h4, s3⟩ := lcE hel hok ht htt hf hz xs (es ++ [el y.1]) y.2 z e2 (by simp; omega) (unw vs δ δ2) ((unwP_ok sa s2 vs).wk (hz s x y))
    refine ⟨δ3, ?_, s3⟩
    rw [List.map_cons]
    unfold lcL
    rw [if_pos hw, h1]
    simp only [h2, if_true, h3, hel]
    rw [if_pos (by omega), h4]
    simp
theorem ev_lc [Enc α] [Enc γ] {p : Option β} {xs : β → List α} {Γ1 : β → Ga} {s0 : β → σ} {ΓL : β → σ → Ga} {ΓT : β → σ → α → Ga} {Γ2 : β → σ → α → γ × σ → Ga} {pe : β → σ → α → Option (γ × σ)} (hw : It w Γ p (fun v => (xs v).map enc) Γ1) (h0 : ∀ v, GaLe (Γ1 v) (ΓL v (s0 v))) (hok : ∀ v s, okP vs (ΓL v s) = true) (ht : ∀ v s x, Tg vs t (wipeP vs (ΓL v s)) (enc x) (ΓT v s x)) (htt : ∀ v s x, Ts tt (ΓT v s x) (some true)) (hf : ∀ v s x, Ev f (ΓT v s x) (pe v s x) (fun y => .val (enc y.1)) (Γ2 v s x)) (hz : ∀ v s x y, GaLe (unwP vs (ΓL v s) (Γ2 v s x y)) (ΓL v y.2)) :
    Ev (sLc false w vs t tt f) Γ (p.bind fun v => if (xs v).length ≤ cap then (mapE (xs v) (s0 v) (pe v)).bind fun r => some (r, v) else none) (fun r => .tmp (ow r.1.1)) (fun r => ΓL r.2 r.1.2) := fun r e δ s => by
  obtain ⟨v, e1, e⟩ := bind_of e
  by_cases c : (xs v).length ≤ cap
  · rw [if_pos c] at e
    obtain ⟨q, e2, e⟩ := bind_of e
    cases some_of e
    obtain ⟨δ1, h1, s1⟩ := hw v e1 δ s
    obtain ⟨δ2, h2, s2⟩ := lcE el_val (hok v) (ht v) (htt v) (hf v) (hz v) (xs v) [] (s0 v) q e2 (by simpa using c) δ1 (s1.wk (h0 v))
    refine ⟨δ2, ?_, s2⟩
    unfold sLc
    rw [h1]
    show (lcL false vs t tt f ((xs v).map enc) [] δ1).bind _ = _
    rw [h2]
    exact congrArg (fun z => Rs.ok (AV.tmp z) δ2) (ow_els q.1)
  · rw [if_neg c] at e
    cases e
theorem ev_lcw [Enc α] [Enc γ] {p : Option β} {xs : β → List α} {Γ1 : β → Ga} {s0 : β → σ} {ΓL : β → σ → Ga} {ΓT : β → σ → α → Ga} {Γ2 : β → σ → α → List γ × σ → Ga} {pe : β → σ → α → Option (List γ × σ)} (hw : It w Γ p (fun v => (xs v).map enc) Γ1) (h0 : ∀ v, GaLe (Γ1 v) (ΓL v (s0 v))) (hok : ∀ v s, okP vs (ΓL v s) = true) (ht : ∀ v s x, Tg vs t (wipeP vs (ΓL v s)) (enc x) (ΓT v s x)) (htt : ∀ v s x, Ts tt (ΓT v s x) (some true)) (hf : ∀ v s x, Ev f (ΓT v s x) (pe v s x) (fun y => .tmp (ow y.1)) (Γ2 v s x)) (hz : ∀ v s x y, GaLe (unwP vs (ΓL v s) (Γ2 v s x y)) (ΓL v y.2)) :
    Ev (sLc true w vs t tt f) Γ (p.bind fun v => if (xs v).length ≤ cap then (mapE (xs v) (s0 v) (pe v)).bind fun r => some (r, v) else none) (fun r => .tmp (oww r.1.1)) (fun r => ΓL r.2 r.1.2) := fun r e δ s => by
  obtain ⟨v, e1, e⟩ := bind_of e
  by_cases c : (xs v).length ≤ cap
  · rw [if_pos c] at e
    obtain ⟨q, e2, e⟩ := bind_of e
    cases some_of e
    obtain ⟨δ1, h1, s1⟩ := hw v e1 δ s
    obtain ⟨δ2, h2, s2⟩ := lcE el_row (hok v) (ht v) (htt v) (hf v) (hz v) (xs v) [] (s0 v) q e2 (by simpa using c) δ1 (s1.wk (h0 v))
    refine ⟨δ2, ?_, s2⟩
    unfold sLc
    rw [h1]
    show (lcL true vs t tt f ((xs v).map enc) [] δ1).bind _ = _
    rw [h2]
    rfl
  · rw [if_neg c] at e
    cases e
end

/-! ### defs -/
section
variable {ρ : Type} {B : List Sl → Ot}
theorem sat_eqs : ∀ ss : List Sl, Sat (ss.map .eq) ss
  | [] => .nil
  | s :: r => .cons rfl (sat_eqs r)
theorem outs_no (n : Nat) (δ : List Sl) : outs n [] δ = List.replicate n .no := by
  unfold outs
  simp only [List.not_mem_nil, if_false]
  exact List.map_const' ..|>.trans (by rw [List.length_range])
/-- what pinned slots hold behind -/
def outsP (n : Nat) (pin : List Nat) (Γ : Ga) : Option (List Sl) := (List.range n).mapM fun i => if i ∈ pin then (match Γ[i]? with
  | some (.eq s) => some (noAl s)
  | _ => none) else some .no
theorem outsP_ok {n : Nat} {pin : List Nat} {Γ : Ga} {δ o : List Sl} (h : outsP n pin Γ = some o) (s : Sat Γ δ) : outs n pin δ = o := by
  unfold outsP at h
  unfold outs
  generalize List.range n = l at h
  induction l generalizing o with
  | nil => cases h; rfl
  | cons i r ih =>
    rw [List.mapM_cons] at h
    obtain ⟨x, e1, h⟩ := bind_of h
    obtain ⟨y, e2, h⟩ := bind_of h
    cases some_of h
    rw [List.map_cons, ih e2]
    congr 1
    by_cases c : i ∈ pin
    · rw [if_pos c] at e1 ⊢
      cases q : Γ[i]? with
      | none => rw [q] at e1; cases e1
      | some p =>
        rw [q] at e1
        cases p with
        | eq t =>
          cases some_of e1
          rw [s.at_ q]
          rfl
        | _ => cases e1
    · rw [if_neg c] at e1 ⊢
      exact (some_of e1).symm
theorem fun_of {n m : Nat} {pin : List Nat} {p : Option ρ} {ins : List Sl} {ret : ρ → Sl} {ΓR : ρ → Ga} {out : ρ → List Sl} (h : Bl B ((ins ++ List.replicate (m - n) Sl.no).map Pt.eq) p (RF (fun r => .eq (ret r)) ΓR)) (ho : ∀ r, outsP n pin (ΓR r) = some (out r) := by intro _; rfl) : Fun (fnRun n m pin B) p ins ret out := fun r e => by
  obtain ⟨s, δ', h1, h2, h3⟩ := h r e _ (sat_eqs _)
  cases (show s = ret r from h2)
  have ho := outsP_ok (ho r) h3
  unfold fnRun
  rcases h1 with h1 | ⟨h1, h4⟩
  · simp only [h1, ho]
  · simp only [h1, ho, h4]
theorem funM_of {n m : Nat} {pin : List Nat} {p : Option ρ} {ins : List Sl} {d : ρ → PyData} {ΓR : ρ → Ga} {out : ρ → List Sl} (h : Bl B ((ins ++ List.replicate (m - n) Sl.no).map Pt.eq) p (RF (fun r => .tr (d r)) ΓR)) (ho : ∀ r, outsP n pin (ΓR r) = some (out r) := by intro _; rfl) : FunM (fnRun n m pin B) p ins d out := fun r e => by
  obtain ⟨s, δ', h1, h2, h3⟩ := h r e _ (sat_eqs _)
  have ho := outsP_ok (ho r) h3
  refine ⟨s, ?_, h2⟩
  unfold fnRun
  rcases h1 with h1 | ⟨h1, h4⟩
  · simp only [h1, ho]
  · simp only [h1, ho, h4]
end
/-! how a return, an end is shown -/
theorem rf_eq {ρ : Type} {ret : ρ → Pt} {ΓR : ρ → Ga} {r : ρ} {s : Sl} {Γ : Ga} (h : (ret r).Ok s) (l : GaLe Γ (ΓR r)) : ∀ δ', Sat Γ δ' → RF ret ΓR r (.rt s δ') := fun δ' sa => ⟨s, δ', .inl rfl, h, sa.wk l⟩
theorem rf_nx {ρ : Type} {ret : ρ → Pt} {ΓR : ρ → Ga} {r : ρ} {Γ : Ga} (h : (ret r).Ok (.fz .none)) (l : GaLe Γ (ΓR r)) : ∀ δ', Sat Γ δ' → RF ret ΓR r (.nx δ') := fun δ' sa => ⟨.fz .none, δ', .inr ⟨rfl, rfl⟩, h, sa.wk l⟩
theorem rn_nx {σ : Type} {ΓS : σ → Ga} {r : σ} {Γ : Ga} (l : GaLe Γ (ΓS r)) : ∀ δ', Sat Γ δ' → RN ΓS r (.nx δ') := fun δ' sa => ⟨δ', rfl, sa.wk l⟩
theorem rs_nx {σ : Type} {ΓS : σ → Ga} {r : σ} {Γ : Ga} (l : GaLe Γ (ΓS r)) : ∀ δ', Sat Γ δ' → RS ΓS r (.nx δ') := fun δ' sa => ⟨δ', .inl rfl, sa.wk l⟩
theorem rs_ct {σ : Type} {ΓS : σ → Ga} {r : σ} {Γ : Ga} (l : GaLe Γ (ΓS r)) : ∀ δ', Sat Γ δ' → RS ΓS r (.ct δ') := fun δ' sa => ⟨δ', .inr rfl, sa.wk l⟩
theorem rl_nx {ρ σ : Type} {Q : ρ → Ot → Prop} {ΓS ΓB : σ → Ga} {r : σ} {Γ : Ga} (l : GaLe Γ (ΓS r)) : ∀ δ', Sat Γ δ' → RL Q ΓS ΓB (.nx r) (.nx δ') := fun δ' sa => ⟨δ', .inl rfl, sa.wk l⟩
theorem rl_ct {ρ σ : Type} {Q : ρ → Ot → Prop} {ΓS ΓB : σ → Ga} {r : σ} {Γ : Ga} (l : GaLe Γ (ΓS r)) : ∀ δ', Sat Γ δ' → RL Q ΓS ΓB (.nx r) (.ct δ') := fun δ' sa => ⟨δ', .inr rfl, sa.wk l⟩
theorem rl_bk {ρ σ : Type} {Q : ρ → Ot → Prop} {ΓS ΓB : σ → Ga} {r : σ} {Γ : Ga} (l : GaLe Γ (ΓB r)) : ∀ δ', Sat Γ δ' → RL Q ΓS ΓB (.bk r) (.bk δ') := fun δ' sa => ⟨δ', rfl, sa.wk l⟩
theorem rl_rt {ρ σ : Type} {Q : ρ → Ot → Prop} {ΓS ΓB : σ → Ga} {r : ρ} {Γ : Ga} {s : Sl} (h : ∀ δ', Sat Γ δ' → Q r (.rt s δ')) : ∀ δ', Sat Γ δ' → RL Q ΓS ΓB (.rt r) (.rt s δ') := fun δ' sa => ⟨h δ' sa, s, δ', rfl⟩
end Nv

/-! part N6 -/
namespace Nv
open PySem Hb L2
open Enc (enc)
section
variable {α β γ ε ζ : Type} [Enc α] [Enc β] {Γ : Ga} {fa fb : List Sl → Rs AV} {g : AV → AV → List Sl → Rs AV} {h : AV → List Sl → Rs AV} {op : α → β → Option γ} {op1 : α → Option γ} {a : γ → AV}
/-- with effects -/
theorem ev2g (o : Op2 g op a) {pa : Option ε} {va : ε → α} {Γ1 : ε → Ga} {pb : ε → Option ζ} {vb : ε → ζ → β} {Γ2 : ε → ζ → Ga} (ha : Er fa Γ pa (fun x => enc (va x)) Γ1) (hb : ∀ x, Es fb (Γ1 x) (pb x) (fun y => enc (vb x y)) (Γ2 x)) :
    Ev (s2 g fa fb) Γ (pa.bind fun x => (pb x).bind fun y => (op (va x) (vb x y)).bind fun r => some (r, x, y)) (fun r => a r.1) (fun r => Γ2 r.2.1 r.2.2) := fun r e δ s => by
  obtain ⟨v, e1, e⟩ := bind_of e
  obtain ⟨w, e2, e⟩ := bind_of e
  obtain ⟨z, q, e⟩ := bind_of e
  cases some_of e
  obtain ⟨δ1, h1, s1⟩ := ha v e1 δ s
  obtain ⟨y, δ2, k1, k2, k3, s2⟩ := hb v w e2 δ1 s1
  refine ⟨δ2, ?_, s2⟩
  unfold Hb.s2
  rw [h1]
  show (sSt fb δ1).bind _ = _
  rw [k1]
  exact o (va v) (vb v w) z δ2 (.val (enc (va v))) y rfl rfl k2 k3 q
/-- the first operand a name whose list is one's own -/
theorem ev2o {α : Type} [Enc α] {op : List α → β → Option γ} (o : Op2 g op a) {k : Nat} {v : List α} {pb : Option ζ} {vb : ζ → β} {Γ2 : ζ → Ga} (h0 : Γ[k]? = some (.eq (ow v))) (h2 : ∀ y, (Γ2 y)[k]? = some (.eq (ow v))) (hb : Es fb Γ pb (fun y => enc (vb y)) Γ2) :
    Ev (s2 g (sVar k) fb) Γ (pb.bind fun y => (op v (vb y)).bind fun r => some (r, y)) (fun r => a r.1) (fun r => Γ2 r.2) := fun r e δ s => by
  obtain ⟨w, e2, e⟩ := bind_of e
  obtain ⟨z, q, e⟩ := bind_of e
  cases some_of e
  obtain ⟨y, δ2, k1, k2, k3, sb⟩ := hb w e2 δ s
  have hk := s.at_ h0
  obtain ⟨x', h1', h2', h3'⟩ := rd_own (x := v) k (h2 w) v rfl δ2 sb
  have hk2 := sb.at_ (h2 w)
  rw [sSt_ref (sVar_own hk2)] at h1'
  cases h1'
  refine ⟨δ2, ?_, sb⟩
  unfold Hb.s2
  rw [sSt_ref (sVar_own hk)]
  show (sSt fb δ).bind _ = _
  rw [k1]
  exact o v (vb w) z δ2 (.ref k) y h2' h3' k2 k3 q
theorem ev1g (o : Op1 h op1 a) {pa : Option ε} {va : ε → α} {Γ1 : ε → Ga} (ha : Es fa Γ pa (fun x => enc (va x)) Γ1) : Ev (s1 h fa) Γ (pa.bind fun x => (op1 (va x)).bind fun r => some (r, x)) (fun r => a r.1) (fun r => Γ1 r.2) := fun r e δ s => by
  obtain ⟨v, e1, e⟩ := bind_of e
  obtain ⟨z, q, e⟩ := bind_of e
  cases some_of e
  obtain ⟨x, δ1, h1, h2, h3, s1⟩ := ha v e1 δ s
  refine ⟨δ1, ?_, s1⟩
  unfold Hb.s1
  rw [h1]
  exact o (va v) z δ1 x h2 h3 q
/-- an item that nobody reads any more -/
theorem ev_appD {α : Type} [Enc α] {k : Nat} {p : Option ε} {d : ε → PyData} {xs : ε → List α} {Γ1 : ε → Ga} {s0 : Sl} {es : List El} {fa : List Sl → Rs AV} (h0 : Γ[k]? = some (.eq s0)) (hs0 : s0 = .ol es) (ha : Ev (sTk fa) Γ p (fun x => .val (d x)) Γ1) (h1 : ∀ x, (Γ1 x)[k]? = some (.eq (ow (xs x)))) :
    Ev (sApp (sVar k) fa) Γ (p.bind fun x => if (xs x).length ≤ cap then some x else none) (fun _ => .val .none) fun r => upP k .any (Γ1 r) := fun r e δ s => by
  obtain ⟨v, e1, e⟩ := bind_of e
  obtain ⟨δ1, q1, s1⟩ := ha v e1 δ s
  subst hs0
  have hk := s.at_ h0
  have hk1 := s1.at_ (h1 v)
  by_cases c : (xs v).length ≤ cap
  · rw [if_pos c] at e
    cases some_of e
    refine ⟨upS k (.ol (((xs r).map enc).map .fz ++ [.fz (d r)])) δ1, ?_, s1.up rfl⟩
    unfold sApp
    rw [sSt_ref (sVar_own hk)]
    show (if isLst δ (.ref k) = true then _ else _) = _
    rw [if_pos (isLst_ref hk)]
    unfold Rs.val
    rw [q1]
    show appI k (d r) δ1 = _
    unfold appI
    rw [hk1]
    simp only [ow, List.length_map, if_pos c]
  · rw [if_neg c] at e
    cases e
/-- nothing given: a statement whose value is None -/
theorem Ts.te' {t : List Sl → Rs Bool} {p : Option Bool} (h : Ts t Γ p) : Te t Γ p (fun v => v) fun _ => Γ := fun v e δ s => ⟨δ, h v e δ s, s⟩
theorem Rd.opt {f : List Sl → Rs AV} {p : Option α} (hh : Rd f Γ p enc) : Rd f Γ (p.bind fun d => some (some d)) (enc : Option α → PyData) := fun r e δ s => by
  obtain ⟨v, e1, e⟩ := bind_of e
  cases some_of e
  exact hh _ e1 δ s
/-- one whose value is read off (a test's value) -/
theorem pu_none : Pu (sC .none) Γ (some ()) fun v => .val (enc v) := fun v e δ _ => rfl
end
/-- a pure list display without items -/
theorem pu_nil {α : Type} [Enc α] {Γ : Ga} : Pu (sLst lNil) Γ (some ([] : List α)) fun r => .tmp (ow r) := fun v e δ _ => by
  cases some_of e
  rfl
theorem pu_nilw {Γ : Ga} {α : Type} [Enc α] : Pu (sLst lNil) Γ (some ([] : List (List α))) fun r => .tmp (oww r) := fun v e δ _ => by
  cases some_of e
  rfl
theorem pu_nilT {α : Type} [Enc α] {Γ : Ga} : Pu (sTup lNil) Γ (some (Tp.mk ([] : List α))) fun r => .val (enc r) := fun v e δ _ => by
  cases some_of e
  rfl
theorem pu_dicn {κ α : Type} [Enc κ] [Enc α] {Γ : Ga} : Pu sDic0 Γ (some (Dc.mk ([] : List (κ × α)))) fun r => .tmp (od r) := fun v e δ _ => by
  cases some_of e
  rfl
section
variable {α β γ ε ζ ρ σ : Type} {Γ : Ga} {f fa fb : List Sl → Rs AV} {t : List Sl → Rs Bool}
theorem te_map {p : Option ε} {k : ε → Bool} {Γ1 : ε → Ga} (u : ε → ζ) {k2 : ζ → Bool} {Γ2 : ζ → Ga} (h : Te t Γ p k Γ1) (h1 : ∀ x, k2 (u x) = k x := by intro _; rfl) (h2 : ∀ x, Γ2 (u x) = Γ1 x := by intro _; rfl) : Te t Γ (p.bind fun x => some (u x)) k2 Γ2 := fun r e δ s => by
  obtain ⟨v, e1, e⟩ := bind_of e
  cases some_of e
  obtain ⟨δ', q1, q2⟩ := h v e1 δ s
  exact ⟨δ', by rw [h1]; exact q1, by rw [h2]; exact q2⟩
/-- the same tree in another type -/
theorem pu_co [Enc α] [Enc β] (u : α → β) {p : Option α} (h : Pu f Γ p fun v => .val (enc v)) (hu : ∀ x, enc (u x) = enc x := by intro _; rfl) : Pu f Γ (p.bind fun x => some (u x)) fun v => .val (enc v) := fun r e δ s => by
  obtain ⟨v, e1, e⟩ := bind_of e
  cases some_of e
  show _ = Rs.ok (AV.val (enc (u v))) δ
  rw [hu]
  exact h v e1 δ s
theorem ev_co [Enc β] (u : ε → β) {p : Option ε} {d : ε → PyData} {Γ1 : ε → Ga} (h : Ev f Γ p (fun v => .val (d v)) Γ1) (hu : ∀ x, enc (u x) = d x := by intro _; rfl) : Ev f Γ (p.bind fun x => some (u x, x)) (fun v => .val (enc v.1)) fun v => Γ1 v.2 := fun r e δ s => by
  obtain ⟨v, e1, e⟩ := bind_of e
  cases some_of e
  obtain ⟨δ', q1, q2⟩ := h v e1 δ s
  refine ⟨δ', ?_, q2⟩
  show _ = Rs.ok (AV.val (enc (u v))) δ'
  rw [hu]
  exact q1
theorem rd_if [Enc α] {pt : Option Bool} {pa pb : Option α} (h : Ts t Γ pt) (ha : Rd fa Γ pa enc) (hb : Rd fb Γ pb enc) : Rd (sIf t fa fb) Γ (pt.bind fun c => if c = true then pa else pb) enc := fun r e δ s => by
  obtain ⟨v, e1, e⟩ := bind_of e
  have h1 := h v e1 δ s
  have un : sSt (sIf t fa fb) δ = if v = true then sSt fa δ else sSt fb δ := by
    unfold sSt sIf
    rw [h1]
    cases v <;> rfl
  rw [un]
  cases v with
  | true => exact ha r e δ s
  | false => exact hb r e δ s
def asIntA : PyData → Option Int
  | .int i => some i
  | _ => none
theorem _root_.Nv.Pu.asI {p : Option PyData} (hh : Pu f Γ p fun v => .val (enc v)) : Pu f Γ (p.bind fun d => asIntA d) fun v => .val (enc v) := fun r e δ s => by
  obtain ⟨v, e1, e⟩ := bind_of e
  cases v with
  | int i => cases some_of e; exact hh _ e1 δ s
  | _ => cases e
theorem _root_.Nv.Pu.un [Enc α] {p : Option (Option α)} (hh : Pu f Γ p fun v => .val (enc v)) : Pu f Γ (p.bind fun d => d) fun v : α => .val (enc v) := fun r e δ s => by
  obtain ⟨v, e1, e⟩ := bind_of e
  subst e
  exact hh _ e1 δ s
theorem _root_.Nv.Pu.any [Enc α] {p : Option α} (hh : Pu f Γ p fun v => .val (enc v)) : Pu f Γ (p.bind fun d => some (enc d)) fun v : PyData => .val (enc v) := fun r e δ s => by
  obtain ⟨v, e1, e⟩ := bind_of e
  cases some_of e
  exact hh _ e1 δ s
theorem _root_.Nv.Pu.opt [Enc α] {p : Option α} (hh : Pu f Γ p fun v => .val (enc v)) : Pu f Γ (p.bind fun d => some (some d)) fun v : Option α => .val (enc v) := fun r e δ s => by
  obtain ⟨v, e1, e⟩ := bind_of e
  cases some_of e
  exact hh _ e1 δ s
theorem bl_asgG {vs : List Nat} {tg : AV → List Sl → Rs Unit} {g : List Sl → Ot} {R : ζ → Ot → Prop} {p : Option ε} {d : ε → PyData} {Γ1 Γ2 : ε → Ga} {kont : ε → Option ζ} (h : Ev f Γ p (fun v => .val (d v)) Γ1) (ht : ∀ v, Tg vs tg (Γ1 v) (d v) (Γ2 v)) (k2 : ∀ v, Bl g (Γ2 v) (kont v) R) : Bl (oSeq (oAsg f tg) g) Γ (p.bind kont) R := fun r e δ s => by
  obtain ⟨v, e1, e⟩ := bind_of e
  obtain ⟨δ1, h1, s1⟩ := h v e1 δ s
  obtain ⟨δ2, h2, s2, _⟩ := ht v δ1 s1
  rw [nx_of (show oAsg f tg δ = .nx δ2 by
    unfold oAsg
    rw [h1]
    show (tg (.val (d v)) δ1).otU = _
    rw [h2]
    rfl)]
  exact k2 v r e _ s2
theorem rl_rtM {Q : ρ → Ot → Prop} {ΓS ΓB : σ → Ga} {r : ρ} {d : PyData} (h : ∀ t δ', (Pt.tr d).Ok t → Sat Γ δ' → Q r (.rt t δ')) : ∀ t δ', (Pt.tr d).Ok t → Sat Γ δ' → RL Q ΓS ΓB (.rt r) (.rt t δ') := fun t δ' hm sa => ⟨h t δ' hm sa, t, δ', rfl⟩
end
theorem Ev.mapW {ε ζ : Type} {f : List Sl → Rs AV} {Γ : Ga} {p : Option ε} {aa : ε → AV} {Γ1 : ε → Ga} {bb : ζ → AV} {Γ2 : ζ → Ga} (k : ε → ζ) (hh : Ev f Γ p aa Γ1) (h2 : ∀ x, GaLe (Γ1 x) (Γ2 (k x))) (h1 : ∀ x, bb (k x) = aa x := by intro _; rfl) : Ev f Γ (p.bind fun x => some (k x)) bb Γ2 := fun r e δ s => by
  obtain ⟨v, e1, e⟩ := bind_of e
  cases some_of e
  obtain ⟨δ', q1, q2⟩ := hh v e1 δ s
  exact ⟨δ', by rw [h1]; exact q1, q2.wk (h2 v)⟩
end Nv

/-! part N7 -/
namespace Nv
open PySem Hb L2
open Enc (enc)
section
variable {β ζ : Type} {Γ : Ga}
theorem bl_ga {f : List Sl → Ot} {p : Option ζ} {R : ζ → Ot → Prop} (Δ : Ga) (h : Γ = Δ) (k : Bl f Δ p R) : Bl f Γ p R := by subst h; exact k
theorem pu_ga {f : List Sl → Rs AV} {p : Option β} {a : β → AV} (Δ : Ga) (h : Γ = Δ) (k : Pu f Δ p a) : Pu f Γ p a := by subst h; exact k
theorem ts_ga {f : List Sl → Rs Bool} {p : Option Bool} (Δ : Ga) (h : Γ = Δ) (k : Ts f Δ p) : Ts f Γ p := by subst h; exact k
theorem te_ga {f : List Sl → Rs Bool} {p : Option β} {k : β → Bool} {Γ' : β → Ga} (Δ : Ga) (h : Γ = Δ) (q : Te f Δ p k Γ') : Te f Γ p k Γ' := by subst h; exact q
theorem ev_ga {f : List Sl → Rs AV} {p : Option β} {a : β → AV} {Γ' : β → Ga} (Δ : Ga) (h : Γ = Δ) (q : Ev f Δ p a Γ') : Ev f Γ p a Γ' := by subst h; exact q
theorem es_ga {f : List Sl → Rs AV} {p : Option β} {d : β → PyData} {Γ' : β → Ga} (Δ : Ga) (h : Γ = Δ) (q : Es f Δ p d Γ') : Es f Γ p d Γ' := by subst h; exact q
theorem ag_ga {g : List Sl → Rs (List Ar)} {p : Option β} {as : β → List Ar} {Γ' : β → Ga} (Δ : Ga) (h : Γ = Δ) (q : Ag g Δ p as Γ') : Ag g Γ p as Γ' := by subst h; exact q
theorem dl_ga {g : List Sl → Rs (List PyData)} {p : Option β} {ds : β → List PyData} {Γ' : β → Ga} (Δ : Ga) (h : Γ = Δ) (q : Dl g Δ p ds Γ') : Dl g Γ p ds Γ' := by subst h; exact q
theorem sat_ga {Q : List Sl → Prop} (Δ : Ga) (h : Γ = Δ) (k : ∀ δ', Sat Δ δ' → Q δ') : ∀ δ', Sat Γ δ' → Q δ' := by subst h; exact k
theorem sat_gaM {d : PyData} {Q : Sl → List Sl → Prop} (Δ : Ga) (h : Γ = Δ) (k : ∀ t δ', (Pt.tr d).Ok t → Sat Δ δ' → Q t δ') : ∀ t δ', (Pt.tr d).Ok t → Sat Γ δ' → Q t δ' := by subst h; exact k
theorem gale_ga {Γ0 : Ga} (Δ : Ga) (h : Γ = Δ) (k : GaLe Δ Γ0) : GaLe Γ Γ0 := by subst h; exact k
end
end Nv

/-! part N8 -/
namespace Nv
open PySem Hb L2
open Enc (enc)
/-! ### rows of a list of one's own -/
section
variable {α ε ζ : Type} [Enc α] {Γ : Ga} {f fi : List Sl → Rs AV} {g : List Sl → Ot} {R : ζ → Ot → Prop}
theorem oww_get {rows : List (List α)} {j : Nat} : (rows.map fun r => El.ow (r.map enc))[j]? = (rows[j]?).map fun r => El.ow (r.map enc) := List.getElem?_map ..
theorem rd_al {rows : List (List α)} {k x j : Nat} (h : Γ[k]? = some (.eq (.al x j))) (h2 : Γ[x]? = some (.eq (oww rows))) : Rd (sVar k) Γ (rows[j]?) enc := fun v e δ s => by
  have hk := s.at_ h
  have hx : δ[x]? = some (.ol (rows.map fun r => .ow (r.map enc))) := s.at_ h2
  have hg : (rows.map fun r => El.ow (r.map enc))[j]? = some (.ow (v.map enc)) := by rw [oww_get, e]; rfl
  refine ⟨.ref k, sSt_ref (by unfold sVar; rw [hk]), ?_, ?_⟩
  · simp only [rdC, hk, hx, hg]
    rfl
  · simp only [rdA, hk, hx, hg]
    rfl
theorem bl_als {k x : Nat} {rows : List (List α)} {p : Option Int} {kont : Int → Nat → Option ζ} (h2 : Γ[x]? = some (.eq (oww rows))) (hi : Rd fi Γ p enc) (k2 : ∀ i j, Bl g (upP k (.eq (.al x j)) Γ) (kont i j) R) : Bl (oSeq (oAls k x fi) g) Γ (p.bind fun i => (ixN rows.length i).bind (kont i)) R := fun r e δ s => by
  obtain ⟨i, e1, e⟩ := bind_of e
  obtain ⟨j, e2, e⟩ := bind_of e
  obtain ⟨a, q1, q2, _⟩ := hi i e1 δ s
  have q2 : rdC δ a = some (.int i) := q2
  have hx : δ[x]? = some (.ol (rows.map fun r => .ow (r.map enc))) := s.at_ h2
  have hj : j < rows.length := (ixN_seq e2).2.1
  have hg : (rows.map fun r => El.ow (r.map enc))[j]? = some (.ow (rows[j].map enc)) := by rw [oww_get, List.getElem?_eq_getElem hj]; rfl
  rw [nx_of (show oAls k x fi δ = .nx (upS k (.al x j) δ) by
    unfold oAls
    rw [hx]
    show (sSt fi δ).ot _ = _
    rw [q1]
    show (match δ[x]?, rdC δ a with
      | some (.ol es), some (.int n) => (match ixN es.length n with
        | some j => (match es[j]? with
          | some (.ow _) => Ot.nx (upS k (.al x j) δ)
          | some (.fz d) => .nx (upS k (.fz d) δ)
          | none => .bad)
        | none => .bad)
      | _, _ => .bad) = _
    rw [hx, q2]
    simp only [List.length_map, e2, hg])]
  exact k2 i j r e _ (s.up rfl)
def stR {α : Type} (rows : List (List α)) (j : Nat) (i : Int) (v : α) : Option (List (List α)) := (rows[j]?).bind fun ys => (stI ys i v).map fun zs => rows.set j zs
theorem setA_al {k x j : Nat} {rows rows' : List (List α)} {i : Int} {v : α} {δ : List Sl} {y : AV} (h : δ[k]? = some (.al x j)) (hx : δ[x]? = some (oww rows)) (hy : rdC δ y = some (.int i)) (e : stR rows j i v = some rows') : setA (.ref k) y (enc v) δ = .ok () (δ.set x (oww rows')) := by
  obtain ⟨ys, e1, e⟩ := bind_of e
  have hx : δ[x]? = some (.ol (rows.map fun r => .ow (r.map enc))) := hx
  have hg : (rows.map fun r => El.ow (r.map enc))[j]? = some (.ow (ys.map enc)) := by rw [oww_get, e1]; rfl
  unfold stI at e
  cases q : ixN ys.length i with
  | none => rw [q] at e; cases e
  | some m =>
    rw [q] at e
    cases some_of e
    unfold setA
    simp only [hy, h, hx, hg, List.length_map, q, oww, List.map_set]
theorem bl_setAl {k x j : Nat} {p : Option ε} {va : ε → α} {Γ1 : ε → Ga} {rows : ε → List (List α)} {pi : ε → Option Int} {kont : ε → List (List α) → Option ζ} (h : Ev f Γ p (fun v => .val (enc (va v))) Γ1) (h0 : ∀ v, (Γ1 v)[k]? = some (.eq (.al x j))) (hx : ∀ v, (Γ1 v)[x]? = some (.eq (oww (rows v)))) (hi : ∀ v, Rd fi (Γ1 v) (pi v) enc)
    (k2 : ∀ v ys, Bl g ((Γ1 v).set x (.eq (oww ys))) (kont v ys) R) : Bl (oSeq (oAsg f (tgS (sVar k) fi)) g) Γ (p.bind fun v => (pi v).bind fun i => (stR (rows v) j i (va v)).bind (kont v)) R := fun r e δ s => by
  obtain ⟨v, e1, e⟩ := bind_of e
  obtain ⟨i, e2, e⟩ := bind_of e
  obtain ⟨ys, e3, e⟩ := bind_of e
  obtain ⟨δ1, h1, s1⟩ := h v e1 δ s
  obtain ⟨a, q1, q2, _⟩ := hi v i e2 δ1 s1
  have hk := s1.at_ (h0 v)
  rw [nx_of (show oAsg f (tgS (sVar k) fi) δ = .nx (δ1.set x (oww ys)) by
    unfold oAsg
    rw [h1]
    show (tgS (sVar k) fi (.val (enc (va v))) δ1).otU = _
    unfold tgS
    show ((sSt (sVar k) δ1).bind _).otU = _
    rw [sSt_ref (show sVar k δ1 = .ok (.ref k) δ1 by unfold sVar; rw [hk])]
    show ((sSt fi δ1).bind _).otU = _
    rw [q1]
    show (setA (.ref k) a (enc (va v)) δ1).otU = _
    rw [setA_al hk (s1.at_ (hx v)) q2 e3]
    rfl)]
  exact k2 v ys r e _ (s1.set (p := .eq (oww ys)) (s := oww ys) (Eq.refl _) x)
end
end Nv

/-! part Hb16 -/
namespace Hb
open PySem PySem.Spec PyProof.Rows L2

/-! ### sorted, of data -/
section
variable {X : Cx} {pins : List (Addr × Obj)} {σ : L2.St} {H : Hp} {s : Shared}
mutual
def noDic : PyData → Bool
  | .list xs => noDics xs
  | .tuple xs => noDics xs
  | .dict _ => false
  | _ => true
def noDics : List PyData → Bool
  | [] => true
  | x :: r => noDic x && noDics r
end
mutual
theorem reads_of (I : Inv X pins σ H s) : ∀ {v : V} {d : PyData} {u : Value}, Rp X.K H v d → RelV v u → noDic d = true → ∃ as, Reads s.heap u d as
  | _, _, _, .non, e, _ => by
    obtain rfl : _ = Value.none := e
    exact ⟨_, .none⟩
  | _, _, _, .bl b, e, _ => by
    obtain rfl : _ = Value.bool b := e
    exact ⟨_, .bool b⟩
  | _, _, _, .int i, e, _ => by
    obtain ⟨t, rfl⟩ := e
    exact ⟨_, .int i t⟩
  | _, _, _, .str x, e, _ => by
    obtain ⟨t, rfl⟩ := e
    exact ⟨_, .str x t⟩
  | _, _, _, .lst (ds := ds) h1 h2, e, hs => by
    obtain rfl : _ = Value.ref _ := e
    obtain ⟨its, n, r, e, _⟩ := inv_lstX I h1
    obtain ⟨as, q⟩ := readsAll_of I h2 r (by simpa [noDic] using hs)
    exact ⟨_, .list e rfl rfl (by simpa using q)⟩
  | _, _, _, .tup (ds := ds) h1 h2, e, hs => by
    obtain rfl : _ = Value.ref _ := e
    obtain ⟨its, r, ⟨o, e, hc, n, hd⟩, _⟩ := I.tuple h1
    obtain ⟨as, q⟩ := readsAll_of I h2 r (by simpa [noDic] using hs)
    exact ⟨_, .tuple e hc hd (by simpa using q)⟩
  | _, _, _, .dK h1 h2, _, hs => by simp [noDic] at hs
  | _, _, _, .dT h1 h2, _, hs => by simp [noDic] at hs
theorem readsAll_of (I : Inv X pins σ H s) : ∀ {vs : List V} {ds : List PyData} {us : List Value}, RpL X.K H vs ds → Vals vs us → noDics ds = true → ∃ as, ReadsAll s.heap us ds as
  | _, _, _, .nil, r, _ => by
    cases r
    exact ⟨_, .nil⟩
  | _, _, _, .cons (d := d) (ds := ds) h t, r, hs => by
    cases r with
    | cons r1 r2 =>
      have hs2 : noDic d = true ∧ noDics ds = true := by simpa [noDics] using hs
      obtain ⟨a1, q1⟩ := reads_of I h r1 hs2.1
      obtain ⟨a2, q2⟩ := readsAll_of I t r2 hs2.2
      exact ⟨_, .cons q1 q2⟩
end
end
def isT1 : PyData → Bool
  | .tuple (_ :: _) => true
  | _ => false
def isNT : PyData → Bool
  | .none => false
  | .tuple _ => false
  | _ => true
def sortOk (ds : List PyData) : Bool := (ds.all fun d => ds.all fun e => PySem.W.alike d e) && (ds.all isT1 || ds.all isNT) && ds.all (fun d => decide (d.depth ≤ 60)) && noDics ds && decide (ds.length ≤ cap)
theorem sortOk_ok {ds : List PyData} (h : sortOk ds = true) : PySem.W.AllAlike ds ∧ PySem.W.Sortable ds ∧ (∀ d ∈ ds, d.depth ≤ 60) ∧ noDics ds = true ∧ ds.length ≤ cap := by
  unfold sortOk at h
  simp only [Bool.and_eq_true, Bool.or_eq_true, List.all_eq_true, decide_eq_true_eq] at h
  obtain ⟨⟨⟨⟨h1, h2⟩, h3⟩, h4⟩, h5⟩ := h
  refine ⟨fun d hd e he => h1 d hd e he, ?_, h3, h4, h5⟩
  rcases h2 with h2 | h2
  · refine .inl fun d hd => ?_
    have := h2 d hd
    cases d with
    | tuple xs =>
      cases xs with
      | nil => cases this
      | cons x r => exact ⟨x, r, rfl⟩
    | _ => cases this
  · refine .inr fun d hd => ?_
    have := h2 d hd
    exact ⟨fun z => (by rw [z] at this; cases this), fun xs z => (by rw [z] at this; cases this)⟩
def rSortedD (K : PySem.W.Frag) : List V → Hp → VK → Prop := fun vs H Q => ∃ (a : Addr) (bs : List (V × PyData)), vs = [V.ref a] ∧ SqX K H a (bs.map Prod.fst) ∧ (∀ p ∈ bs, Rp K H p.1 p.2) ∧ sortOk (bs.map Prod.snd) = true ∧
  ∀ p, H p = none → Q (.ref p) (upd H p (.lst ((bs.mergeSort (PySem.W.dataLe false Prod.snd)).map Prod.fst)))
theorem vals_each : ∀ {bs : List (V × PyData)} {us : List Value}, Vals (bs.map Prod.fst) us → PySem.W.EachIs (fun (u : Value) (p : V × PyData) => RelV p.1 u) us bs
  | [], _, .nil => .nil
  | p :: bs, _, .cons h t => .cons h (vals_each t)
theorem each_vals : ∀ {bs : List (V × PyData)} {us : List Value}, PySem.W.EachIs (fun (u : Value) (p : V × PyData) => RelV p.1 u) us bs → Vals (bs.map Prod.fst) us
  | _, _, .nil => .nil
  | _, _, .cons h t => .cons h (each_vals t)
theorem each_mem {R : Value → V × PyData → Prop} : ∀ {us : List Value} {bs : List (V × PyData)}, PySem.W.EachIs R us bs → PySem.W.EachIs (fun u p => R u p ∧ p ∈ bs) us bs
  | _, _, .nil => .nil
  | _, _, .cons h t => .cons ⟨h, List.mem_cons_self⟩ ((each_mem t).mono fun _ _ ⟨a, b⟩ => ⟨a, List.mem_cons_of_mem _ b⟩)
theorem noDics_mem : ∀ {ds : List PyData}, noDics ds = true → ∀ d ∈ ds, noDic d = true
  | [], _, _, h => by cases h
  | x :: r, h, d, hd => by
    have h : (noDic x && noDics r) = true := h
    rw [Bool.and_eq_true] at h
    rcases List.mem_cons.mp hd with e | e
    · rw [e]; exact h.1
    · exact noDics_mem h.2 d e
theorem cr_sortedD {X : Cx} (hu : X.A.units + 64 < cLine) : CallR X (.builtin "sorted") (rSortedD X.K) := by
  intro pins s σ H vs us Q I r h
  obtain ⟨a, bs, rfl, hX, hr, ok, q⟩ := h
  obtain ⟨h1, h2, h3, h4, h5⟩ := sortOk_ok ok
  obtain ⟨its, n, rv, e, hz⟩ := inv_lstX I hX
  rw [Vals.ref1 r]
  have ev := vals_each rv
  have er : PySem.W.EachIs (fun v (b : V × PyData) => ∃ as, Reads s.heap v b.2 as) its bs := (each_mem ev).mono fun u p ⟨z, hp⟩ => reads_of I (hr p hp) z (noDics_mem h4 _ (List.mem_map.mpr ⟨p, hp, rfl⟩))
  have hl : s.heap.IsList a its.toArray := ⟨_, e, rfl, n, rfl⟩
  refine PySem.W.sorted_data (enc := Prod.snd) hl ev er h1 h2 (by rw [List.length_map] at h5; exact le_line h5) (fun b hb => ?_) fun out ho eo => ?_
  · have := h3 b.2 (List.mem_map.mpr ⟨b, hb, rfl⟩)
    show X.A.units + 2 + _ < cLine
    omega
  · obtain ⟨ep, he'⟩ := PyProof.Rows.sortedAll_at s.heap its out.toArray
    have vo := each_vals eo
    refine ⟨.ref _, upd H (s.heap.objs.size + 1) (.lst ((bs.mergeSort (PySem.W.dataLe false Prod.snd)).map Prod.fst)), I.laid (t' := s.toks) (fun _ _ => PyProof.Rows.sortedAll_old) (Nat.le_succ _) ⟨?_, out, ep, vo, he'⟩, rfl, q _ (I.hok.fresh (Nat.le_succ _))⟩
    rw [List.length_map, List.length_mergeSort]
    rw [List.length_map] at h5
    exact le_line h5
def gSortD (x : AV) (δ : List Sl) : Rs AV := match rdC δ x with
  | some (.list ds) => if sortOk ds = true then .ok (.tmp (.ol ((ds.mergeSort (PySem.W.dataLe false fun d => d)).map .fz))) δ else .bad
  | _ => .bad
theorem rpl_zip {K : PySem.W.Frag} {H : Hp} : ∀ {vs : List V} {ds : List PyData}, RpL K H vs ds → ∃ bs : List (V × PyData), bs.map Prod.fst = vs ∧ bs.map Prod.snd = ds ∧ ∀ p ∈ bs, Rp K H p.1 p.2
  | _, _, .nil => ⟨[], rfl, rfl, fun _ z => nomatch z⟩
  | _, _, .cons (v := v) (d := d) h t => by
    obtain ⟨bs, e1, e2, e3⟩ := rpl_zip t
    refine ⟨(v, d) :: bs, by simp [e1], by simp [e2], fun p hp => ?_⟩
    rcases List.mem_cons.mp hp with e | e
    · rw [e]; exact h
    · exact e3 p e
theorem rpl_of_zip {K : PySem.W.Frag} {H : Hp} : ∀ {bs : List (V × PyData)}, (∀ p ∈ bs, Rp K H p.1 p.2) → RpL K H (bs.map Prod.fst) (bs.map Prod.snd)
  | [], _ => .nil
  | p :: r, h => .cons (h p List.mem_cons_self) (rpl_of_zip fun q hq => h q (List.mem_cons_of_mem _ hq))
theorem c1_sortD {K : PySem.W.Frag} {mg : Str → Option Value} {W : WX} {pin : List Nat} : C1 K mg W pin (rSortedD K) gSortD := by
  intro b Fz F δ σ H v x Q hp R A P
  unfold gSortD at P
  cases q : rdC δ x with
  | none => simp only [q] at P; exact P.elim
  | some d =>
    have h := rdC_ok R A q
    cases d with
    | list ds =>
      simp only [q] at P
      by_cases c : sortOk ds = true
      · rw [if_pos c] at P
        obtain ⟨a, vs, e1, s1, r1⟩ := h.list R.le
        obtain ⟨bs, e2, e3, e4⟩ := rpl_zip r1
        subst e2 e3
        refine ⟨a, bs, by rw [e1], s1, fun p hp => (e4 p hp).mono R.le, c, fun p np => ?_⟩
        have em : (bs.mergeSort (PySem.W.dataLe false Prod.snd)).map Prod.snd = (bs.map Prod.snd).mergeSort (PySem.W.dataLe false fun d => d) := PySem.W.sort_maps Prod.snd fun _ _ _ _ => rfl
        have rp : RpL K Fz ((bs.mergeSort (PySem.W.dataLe false Prod.snd)).map Prod.fst) ((bs.map Prod.snd).mergeSort (PySem.W.dataLe false fun d => d)) := by
          rw [← em]
          exact rpl_of_zip fun p hp => e4 p (List.mem_mergeSort.mp hp)
        exact post_newL R rp P p np
      · rw [if_neg c] at P
        exact P.elim
    | _ => simp only [q] at P; exact P.elim
/-! ### // and ** of great numbers -/
abbrev gFdivW := gI (fun _ j => decide (0 < j ∧ j < 2 ^ 1000)) (· / ·)
abbrev gPowW := gI (fun i j => decide (0 ≤ j ∧ j ≤ 64 ∧ i.natAbs < 2 ^ 1024)) (fun i j => i ^ j.toNat)
theorem log2_of {n k : Nat} (h : n < 2 ^ k) (hk : 0 < k) : n.log2 < k := by
  by_cases z : n = 0
  · subst z; simpa using hk
  · exact (Nat.log2_lt z).mpr h
def CPowW (i j : Int) : Prop := 0 ≤ j ∧ (Builtin.Int.intBits i : Int) * j ≤ 2 ^ 27
theorem op_powW {X : Cx} : OpR X (binaryOp .Pow) (rI CPowW fun i j => .int (i ^ j.toNat)) := opI fun _ _ _ _ _ _ _ hc q => PyProof.Rows.pow_int hc.1 hc.2 q
section
variable {X : Cx} {W : WX} {pin : List Nat} {fa fb : List Sl → Rs AV} {a c : Expr} {pos : Pos}
theorem se_fdivW (ha : SE X W pin a fa) (hb : SE X W pin c fb) : SE X W pin (.BinOp a .FloorDiv c pos) (s2 gFdivW fa fb) := se_bin op_fdivW (v2_i fun i j h => by
  obtain ⟨h1, h2⟩ := (of_decide_eq_true h : 0 < j ∧ j < 2 ^ 1000)
  refine ⟨h1, Nat.lt_of_lt_of_le (log2_of (k := 1000) ?_ (by decide)) (by decide)⟩
  omega) ha hb
theorem se_powW (ha : SE X W pin a fa) (hb : SE X W pin c fb) : SE X W pin (.BinOp a .Pow c pos) (s2 gPowW fa fb) := se_bin op_powW (v2_i fun i j h => by
  obtain ⟨h1, h2, h3⟩ := (of_decide_eq_true h : 0 ≤ j ∧ j ≤ 64 ∧ i.natAbs < 2 ^ 1024)
  refine ⟨h1, ?_⟩
  have hb : Builtin.Int.intBits i ≤ 1024 := by
    unfold Builtin.Int.intBits
    split
    · omega
    · have := log2_of h3 (by decide)
      omega
  have h4 : (Builtin.Int.intBits i : Int) * j ≤ 1024 * j := Int.mul_le_mul_of_nonneg_right (by omega) h1
  omega) ha hb
end
end Hb

/-! part Hb17 -/
namespace Hb
open PySem PySem.Spec PyProof.Rows L2
/-! ### xs.extend(ys) -/
def rExtX (K : PySem.W.Frag) : V → List V → Hp → VK → Prop := fun x vs H Q => ∃ l b xs zs, x = .ref l ∧ vs = [.ref b] ∧ H l = some (.lst xs) ∧ SqX K H b zs ∧ xs.length + zs.length ≤ sizeLine ∧ Q .non (upd H l (.lst (xs ++ zs)))
theorem mt_extX {X : Cx} : MtM X "list.extend" (rExtX X.K) := by
  intro pins s σ H x vs v us Q I rx rv h
  obtain ⟨l, b, xs, zs, rfl, rfl, hH, hB, hz, q⟩ := h
  cases rx
  obtain ⟨u, rfl, ru⟩ := rv.one
  cases ru
  obtain ⟨z, its, n, r, hl, e⟩ := I.lstM hH
  obtain ⟨its2, n2, r2, e2, hl2⟩ := inv_lstX I hB
  have l2 := r2.length
  have hsz : its.toArray.size + its2.toArray.size ≤ sizeLine := by rw [List.size_toArray, List.size_toArray]; omega
  have hlong : ¬ (!its.toArray.isEmpty && Builtin.List.listTooLong (its.toArray.size + its2.toArray.size)) = true := by
    rw [notLongL hsz, Bool.and_false]
    exact Bool.false_ne_true
  refine call_meets F.slot_list_extend ⟨_, e, rfl⟩ F.entry_list_extend (F.args_list_extend_2 _ _)
    (AutoSeq1.list_extend_list_list_0 l its.toArray n b its2.toArray n2 hlong (by rw [List.size_toArray]; omega) (by omega)) ⟨e, e2, ?_⟩
  refine ⟨.non, _, I.lset (its' := its ++ its2) hH e (by simp) (r.append r2) ?_, rfl, q⟩
  rw [List.length_append]
  omega
def extI (i : Nat) (ds : List PyData) (δ : List Sl) : Rs AV := match δ[i]? with
  | some (.ol xs) => if xs.length ≤ cap ∧ ds.length ≤ cap then .ok (.val .none) (upS i (.ol (xs ++ ds.map .fz)) δ) else .bad
  | _ => .bad
def extA (x : AV) (d : PyData) (δ : List Sl) : Rs AV := match x, d with
  | .ref i, .list ds => extI i ds δ
  | _, _ => .bad
def sExt (fo fa : List Sl → Rs AV) : List Sl → Rs AV := fun δ => (sSt fo δ).bind fun x δ1 => if isLst δ1 x = true then (sTk fa δ1).val fun d δ2 => extA x d δ2
  else .bad
theorem ext_ok {K : PySem.W.Frag} {mg : Str → Option Value} {W : WX} {b : Bk} {Fz : Hp} {F : Nat → List Addr} {δ : List Sl} {σ : L2.St} {H : Hp} {Q : VK} {v w : V} {x : AV} {d : PyData} (R : Rl K b Fz F δ σ H) (A : AvS K Fz σ v x) (r : Rp K Fz w d) (P : Post K mg W b Fz σ Q (extA x d δ)) : rExtX K v [w] H Q := by
  cases x with
  | val e => exact P.elim
  | tmp s => exact P.elim
  | ref i =>
    have hv : σ[i]? = some (some v) := A
    cases d with
    | list ds =>
      have P : Post K mg W b Fz σ Q (extI i ds δ) := P
      unfold extI at P
      cases q : δ[i]? with
      | none => simp only [q] at P; exact P.elim
      | some s =>
        cases s with
        | ol xs =>
          simp only [q] at P
          by_cases c : xs.length ≤ cap ∧ ds.length ≤ cap
          · rw [if_pos c] at P
            obtain ⟨l, vs, g, e1, e2, e3, e4, e5⟩ := R.own q hv
            subst e1
            cases r with
            | lst h1 h2 =>
              rename_i b0 zs
              have e6 : ElL K Fz H (g ++ []) (vs ++ zs) (xs ++ ds.map .fz) := e3.app (ElL.ofFz h2)
              rw [List.append_nil] at e6
              have R' := R.mut q hv e6 e5 (fun a ha => by rw [e4]; exact List.mem_cons_of_mem _ ha)
              refine ⟨l, b0, vs, zs, rfl, rfl, e2, same_sqX R.le h1, ?_, P .non _ Fz _ (Same.refl _) R' .non⟩
              have c1 : xs.length ≤ 1000000 := c.1
              have c2 : ds.length ≤ 1000000 := c.2
              rw [e3.len, h2.len, sizeLine_eq]
              omega
          · rw [if_neg c] at P
            exact P.elim
        | _ => simp only [q] at P; exact P.elim
    | _ => exact P.elim
section
variable {X : Cx} {W : WX} {pin : List Nat} {fo fa fb fc : List Sl → Rs AV} {o e a b c : Expr} {apos cpos pos : Pos}
theorem se_ext (ho : SE X W pin o fo) (ha : SE X W pin e fa) (hbase : attributeBase o "extend" X.env (eval o X.env) = eval o X.env := by rfl) (hline : (apos.endLine == cpos.line) = true := by rfl)
    (hs : starEach [e] X.env = (false, eval e X.env) :: starEach [] X.env := by rfl) (hfew : ((backTo cpos (starEach [e] X.env)).all (fun x => !x.1) && (backToKw cpos (keywordEach [] X.env)).all (fun x => x.1.isSome)
      && decide ([e].length + ([] : List Keyword).length + (if ([] : List Keyword).isEmpty then 0 else 1) < 30)) = true := by rfl) :
    SE X W pin (.Call (.Attribute o "extend" apos) [e] [] cpos) (sExt fo fa) :=
  pe_mono (pe_bm PySem.F.plainAttrs_list PySem.F.slot_list_extend PySem.F.type_list_extend mt_extX (se_st ho) (pa_cons (se_tk ha) pa_nil hs) hbase hfew hline hs rfl) fun σ H Q ⟨b, Fz, F, δ, hp, R, P⟩ => by
    refine rd_bind hp R P fun v H1 Fz1 F1 x δ1 s1 R1 A1 P1 => ?_
    by_cases c : isLst δ1 x = true
    · rw [if_pos c] at P1
      refine ⟨isLst_ty R1 A1 c, ?_⟩
      refine rd_val hp R1 P1 fun w H2 Fz2 F2 d δ2 s2 R2 A2 P2 => ?_
      exact ext_ok R2 (A1.le s2) A2 P2
    · rw [if_neg c] at P1
      exact P1.elim
/-! ### a op b op' c -/
def sCh (g g' : AV → AV → List Sl → Rs AV) (fa fb fc : List Sl → Rs AV) : List Sl → Rs AV := fun δ => (sSt fa δ).bind fun x δ1 => (sSt fb δ1).bind fun y δ2 => (g x y δ2).bind fun k δ3 => match k with
  | .val (.bool true) => (sSt fc δ3).bind fun z δ4 => g' y z δ4
  | .val (.bool false) => .ok (.val (.bool false)) δ3
  | _ => .bad
theorem chain_ok {g g' : AV → AV → List Sl → Rs AV} {r r' : R2} (hv : V2 X.K X.mg W pin r g) (hv' : V2 X.K X.mg W pin r' g') : ∀ σ H Q, rdE X.K X.mg W pin (sCh g g' fa fb fc) σ H Q → tChain r r' (rdE X.K X.mg W pin (sSt fa)) (rdE X.K X.mg W pin (sSt fb)) (rdE X.K X.mg W pin (sSt fc)) σ H Q := fun σ H Q ⟨b0, Fz, F, δ, hp, R, P⟩ => by
  refine rd_bind hp R P fun v H1 Fz1 F1 x δ1 s1 R1 A1 P1 => ?_
  refine rd_bind hp R1 P1 fun w H2 Fz2 F2 y δ2 s2 R2 A2 P2 => ?_
  refine hv b0 Fz2 F2 δ2 σ H2 v w x y _ hp R2 (A1.le s2) A2 ?_
  cases q : g x y δ2 with
  | bad => rw [q] at P2; exact P2
  | er e δ3 => rw [q] at P2; exact P2
  | ok k δ3 =>
    rw [q] at P2
    cases k with
    | ref i => exact P2.elim
    | tmp t => exact P2.elim
    | val d =>
      cases d with
      | bool k =>
        intro z H3 Fz3 F3 s3 R3 A3
        cases (show Rp X.K Fz3 z (.bool k) from A3)
        refine ⟨k, rfl, ?_⟩
        cases k with
        | false => exact P2 (.bl false) H3 Fz3 F3 s3 R3 (.bl false)
        | true =>
          rw [if_pos rfl]
          have P3 : Post X.K X.mg W b0 Fz3 σ Q ((sSt fc δ3).bind fun z δ4 => g' y z δ4) := Post.le s3 P2
          refine rd_bind hp R3 P3 fun u H4 Fz4 F4 zz δ4 s4 R4 A4 P4 => ?_
          exact hv' b0 Fz4 F4 δ4 σ H4 w u y zz Q hp R4 (A2.le (s3.trans s4)) A4 P4
      | _ => exact P2.elim
theorem se_chain {op op' : CmpOp} {g g' : AV → AV → List Sl → Rs AV} {r r' : R2} (ho : OpR X (compareOp op) r) (hv : V2 X.K X.mg W pin r g) (ho' : OpR X (compareOp op') r') (hv' : V2 X.K X.mg W pin r' g') (ha : SE X W pin a fa) (hb : SE X W pin b fb) (hc : SE X W pin c fc)
    (hm : lastMarks [op, op'] [b, c] = false := by with_unfolding_all rfl) : SE X W pin (.Compare a [op, op'] [b, c] pos) (sCh g g' fa fb fc) := pe_mono (pe_chain ho ho' (se_st ha) (se_st hb) (se_st hc) hm) (chain_ok hv hv')
theorem st_chain {op op' : CmpOp} {g g' : AV → AV → List Sl → Rs AV} {r r' : R2} (ho : OpR X (compareOp op) r) (hv : V2 X.K X.mg W pin r g) (ho' : OpR X (compareOp op') r') (hv' : V2 X.K X.mg W pin r' g') (ha : SE X W pin a fa) (hb : SE X W pin b fb) (hc : SE X W pin c fc)
    (hm : lastMarks [op, op'] [b, c] = false := by with_unfolding_all rfl) : ST X W pin (.Compare a [op, op'] [b, c] pos) (sTst (sCh g g' fa fb fc)) := pt_mono (pt_chain ho ho' (se_st ha) (se_st hb) (se_st hc) hm) fun σ H Q h => chain_ok hv hv' σ H _ (tst_ok σ H Q h)
end
end Hb

/-! part N9 -/
namespace Nv
open PySem Hb L2
open Enc (enc)
section
variable {α β γ ε ζ : Type} {Γ : Ga} {fa fb fc : List Sl → Rs AV}
/-! ### chains -/
theorem pu_ch [Enc α] [Enc β] [Enc γ] {g g' : AV → AV → List Sl → Rs AV} {op : α → β → Option Bool} {op' : β → γ → Option Bool} (o : Op2 g op fun r => .val (enc r)) (o' : Op2 g' op' fun r => .val (enc r)) {pa : Option α} {pb : Option β} {pc : Option γ} (ha : Rd fa Γ pa enc) (hb : Rd fb Γ pb enc) (hc : Rd fc Γ pc enc) :
    Pu (sCh g g' fa fb fc) Γ (pa.bind fun x => pb.bind fun y => (op x y).bind fun k => if k = true then pc.bind fun z => op' y z else some false) fun r => .val (enc r) := fun r e δ s => by
  obtain ⟨x, e1, e⟩ := bind_of e
  obtain ⟨y, e2, e⟩ := bind_of e
  obtain ⟨k, e3, e⟩ := bind_of e
  obtain ⟨a, h1, h2, h3⟩ := ha x e1 δ s
  obtain ⟨b, k1, k2, k3⟩ := hb y e2 δ s
  unfold sCh
  rw [h1]
  show (sSt fb δ).bind _ = _
  rw [k1]
  show (g a b δ).bind _ = _
  rw [o x y k δ a b h2 h3 k2 k3 e3]
  cases k with
  | false => cases some_of e; rfl
  | true =>
    rw [if_pos rfl] at e
    obtain ⟨z, e4, e⟩ := bind_of e
    obtain ⟨c, q1, q2, q3⟩ := hc z e4 δ s
    show (sSt fc δ).bind _ = _
    rw [q1]
    exact o' y z r δ b c k2 k3 q2 q3 e
/-! ### extend -/
def exL {α : Type} (xs ys : List α) : Option (List α) := if xs.length ≤ cap ∧ ys.length ≤ cap then some (xs ++ ys) else none
theorem ev_ext [Enc α] {k : Nat} {p : Option ε} {va : ε → List α} {xs : ε → List α} {Γ1 : ε → Ga} {s0 : Sl} {es : List El} (h0 : Γ[k]? = some (.eq s0)) (hs0 : s0 = .ol es) (ha : Ev (sTk fa) Γ p (fun x => .val (enc (va x))) Γ1) (h1 : ∀ x, (Γ1 x)[k]? = some (.eq (ow (xs x)))) :
    Ev (sExt (sVar k) fa) Γ (p.bind fun x => (exL (xs x) (va x)).bind fun ys => some (ys, x)) (fun _ => .val .none) fun r => upP k (.eq (ow r.1)) (Γ1 r.2) := fun r e δ s => by
  obtain ⟨v, e1, e⟩ := bind_of e
  obtain ⟨ys, e2, e⟩ := bind_of e
  cases some_of e
  obtain ⟨δ1, q1, s1⟩ := ha v e1 δ s
  subst hs0
  have hk := s.at_ h0
  have hk1 := s1.at_ (h1 v)
  unfold exL at e2
  by_cases c : (xs v).length ≤ cap ∧ (va v).length ≤ cap
  · rw [if_pos c] at e2
    cases some_of e2
    refine ⟨_, ?_, s1.up (p := .eq (ow (xs v ++ va v))) rfl⟩
    unfold sExt
    rw [sSt_ref (sVar_own hk)]
    show (if isLst δ (.ref k) = true then _ else _) = _
    rw [if_pos (isLst_ref hk)]
    unfold Rs.val
    rw [q1]
    show extI k ((va v).map enc) δ1 = _
    unfold extI
    rw [hk1]
    simp only [ow, List.length_map, if_pos c, List.map_append]
  · rw [if_neg c] at e2
    cases e2
/-! ### sorted, // and ** of great numbers -/
def fdivW (i j : Int) : Option Int := if 0 < j ∧ j < 2 ^ 1000 then some (i / j) else none
def powW (i j : Int) : Option Int := if 0 ≤ j ∧ j ≤ 64 ∧ i.natAbs < 2 ^ 1024 then some (i ^ j.toNat) else none
theorem op_fdivW : Op2 gFdivW fdivW fun r => .val (enc r) := op_gIc (C := fun _ j => 0 < j ∧ j < 2 ^ 1000)
theorem op_powW : Op2 gPowW powW fun r => .val (enc r) := op_gIc (C := fun i j => 0 ≤ j ∧ j ≤ 64 ∧ i.natAbs < 2 ^ 1024)
def srtD {α : Type} [Enc α] (xs : List α) : Option (List α) := if sortOk (xs.map enc) = true then some (xs.mergeSort (PySem.W.dataLe false enc)) else none
theorem op_srtD [Enc α] : Op1 gSortD (srtD (α := α)) fun r => .tmp (ow r) := fun v r δ x h _ e => by
  have h : rdC δ x = some (.list (v.map enc)) := h
  unfold srtD at e
  by_cases c : sortOk (v.map enc) = true
  · rw [if_pos c] at e
    cases some_of e
    have em : (v.mergeSort (PySem.W.dataLe false enc)).map enc = (v.map enc).mergeSort (PySem.W.dataLe false fun d => d) := PySem.W.sort_maps enc fun _ _ _ _ => rfl
    simp only [gSortD, h, if_pos c, ow, em]
  · rw [if_neg c] at e
    cases e
theorem alike_ints (ns ms : List Int) (i j : Int) : PySem.W.alike (.int i) (.int j) = true := by simp [PySem.W.alike]
theorem noDics_ints : ∀ ns : List Int, noDics (ns.map .int) = true
  | [] => by simp [noDics]
  | n :: r => by simp [noDics, noDic, noDics_ints r]
theorem sortOk_ints {ns : List Int} (h : ns.length ≤ cap) : sortOk (ns.map .int) = true := by
  unfold sortOk
  simp only [Bool.and_eq_true, Bool.or_eq_true, List.all_eq_true, decide_eq_true_eq, List.mem_map, List.length_map]
  refine ⟨⟨⟨⟨?_, .inr ?_⟩, ?_⟩, noDics_ints ns⟩, h⟩
  · rintro _ ⟨i, _, rfl⟩ _ ⟨j, _, rfl⟩
    simp [PySem.W.alike]
  · rintro _ ⟨i, _, rfl⟩
    rfl
  · rintro _ ⟨i, _, rfl⟩
    simp [PyData.depth]
def srtC (ns : List Int) : Option (List Int) := if ns.length ≤ cap then some (sortI ns) else none
def srtAC : PyData → Option (List Int)
  | .list ds => (intsOf ds).bind fun ns => if ns.length ≤ cap then some (sortI ns) else none
  | _ => none
theorem sort_int (ns : List Int) : (ns.map PyData.int).mergeSort (PySem.W.dataLe false fun d => d) = (sortI ns).map .int := by
  unfold sortI
  refine (PySem.W.sort_maps PyData.int fun a _ b _ => ?_).symm
  have := congrFun (congrFun (PySem.W.dataLe_int (fun i : Int => i)) a) b
  exact this.symm
theorem op_srtC : Op1 gSortD srtC fun r => .tmp (ow r) := fun v r δ x h _ e => by
  have h : rdC δ x = some (.list (v.map .int)) := h
  unfold srtC at e
  by_cases c : v.length ≤ cap
  · rw [if_pos c] at e
    cases some_of e
    simp only [gSortD, h, if_pos (sortOk_ints c), sort_int]
    rfl
  · rw [if_neg c] at e
    cases e
theorem op_srtAC : Op1 gSortD srtAC fun r => .tmp (ow r) := fun v r δ x h h' e => by
  have h : rdC δ x = some v := h
  cases v with
  | list ds =>
    have e : (intsOf ds).bind (fun ns => if ns.length ≤ cap then some (sortI ns) else none) = some r := e
    obtain ⟨ns, e1, e2⟩ := bind_of e
    have e3 := intsOf_eq e1
    subst e3
    by_cases c : ns.length ≤ cap
    · rw [if_pos c] at e2
      cases some_of e2
      simp only [gSortD, h, if_pos (sortOk_ints c), sort_int]
      rfl
    · rw [if_neg c] at e2
      cases e2
  | _ => cases e
theorem Es.any [Enc α] {f : List Sl → Rs AV} {p : Option ε} {va : ε → α} {Γ' : ε → Ga} (h : Es f Γ p (fun v => enc (va v)) Γ') : Es f Γ (p.bind fun v => some (enc (va v), v)) (fun r => enc (r.1 : PyData)) fun r => Γ' r.2 := fun r e δ s => by
  obtain ⟨v, e1, e⟩ := bind_of e
  cases some_of e
  exact h v e1 δ s
end
end Nv

/-! part Hb18 -/
namespace Hb
open PySem PySem.Spec PyProof.Rows L2
/-! ### dicts by ints, texts -/
def keyOf : PyData → Option Key
  | .int i => some (.inl i)
  | .str x => some (.inr x)
  | _ => none
theorem keyOf_D (k : Key) : keyOf (kD k) = some k := by cases k <;> rfl
theorem keyOf_eq {d : PyData} {k : Key} (h : keyOf d = some k) : d = kD k := by
  cases d <;> first | (cases h; rfl) | cases h
def lookK (kvs : List (PyData × PyData)) (k : Key) : Option PyData := (kvs.find? fun p => decide (keyOf p.1 = some k)).map (·.2)
def putD (kvs : List (PyData × PyData)) (k : Key) (d : PyData) : List (PyData × PyData) :=
  if (kvs.any fun p => decide (keyOf p.1 = some k)) = true then kvs.map (fun p => if keyOf p.1 = some k then (p.1, d) else p) else kvs ++ [(kD k, d)]
section
variable {K : PySem.W.Frag} {H : Hp}
theorem RpK.look : ∀ {ws : List (Key × V)} {kvs : List (PyData × PyData)} {k : Key} {d : PyData}, RpK K H ws kvs → lookK kvs k = some d → ∃ v, valV ws k = some v ∧ Rp K H v d
  | _, _, k, d, .nil, h => by cases h
  | _, _, k, d, .cons (k := k0) (v := v0) (vs := ws) (d := d0) (ds := kvs) r t, h => by
    unfold lookK at h
    rw [List.find?_cons] at h
    rw [keyOf_D] at h
    by_cases c : k0 = k
    · rw [decide_eq_true (by rw [c])] at h
      cases h
      exact ⟨v0, valV_pos (p := (k0, v0)) c, r⟩
    · have hn : ¬ some k0 = some k := fun z => c (Option.some.inj z)
      rw [decide_eq_false hn] at h
      obtain ⟨v, e1, e2⟩ := RpK.look t h
      exact ⟨v, by rw [valV_neg (p := (k0, v0)) c]; exact e1, e2⟩
theorem RpK.none : ∀ {ws : List (Key × V)} {kvs : List (PyData × PyData)} {k : Key}, RpK K H ws kvs → lookK kvs k = .none → valV ws k = .none
  | _, _, k, .nil, h => rfl
  | _, _, k, .cons (k := k0) (v := v0) (vs := ws) (d := d0) (ds := kvs) r t, h => by
    unfold lookK at h
    rw [List.find?_cons] at h
    rw [keyOf_D] at h
    by_cases c : k0 = k
    · rw [decide_eq_true (by rw [c])] at h
      cases h
    · have hn : ¬ some k0 = some k := fun z => c (Option.some.inj z)
      rw [decide_eq_false hn] at h
      rw [valV_neg (p := (k0, v0)) c]
      exact RpK.none t h
theorem RpK.any : ∀ {ws : List (Key × V)} {kvs : List (PyData × PyData)} (k : Key), RpK K H ws kvs → (ws.any fun kv => decide (kv.1 = k)) = kvs.any fun p => decide (keyOf p.1 = some k)
  | _, _, k, .nil => rfl
  | _, _, k, .cons (k := k0) r t => by
    rw [List.any_cons, List.any_cons, RpK.any k t, keyOf_D]
    congr 1
    by_cases c : k0 = k <;> simp [c]
theorem RpK.app : ∀ {ws us : List (Key × V)} {kvs lvs : List (PyData × PyData)}, RpK K H ws kvs → RpK K H us lvs → RpK K H (ws ++ us) (kvs ++ lvs)
  | _, _, _, _, .nil, s => s
  | _, _, _, _, .cons r t, s => .cons r (RpK.app t s)
theorem RpK.mapk {v : V} {d : PyData} (h : Rp K H v d) (k : Key) : ∀ {ws : List (Key × V)} {kvs : List (PyData × PyData)}, RpK K H ws kvs → RpK K H (ws.map fun kv => if kv.1 = k then (kv.1, v) else kv) (kvs.map fun p => if keyOf p.1 = some k then (p.1, d) else p)
  | _, _, .nil => .nil
  | _, _, .cons (k := k0) (v := v0) r t => by
    rw [List.map_cons, List.map_cons]
    have ih := RpK.mapk h k t
    by_cases c : k0 = k
    · rw [if_pos (show (k0, v0).1 = k from c), if_pos (show keyOf (kD k0) = some k by rw [keyOf_D, c])]
      exact .cons h ih
    · rw [if_neg (show ¬ (k0, v0).1 = k from c), if_neg (show ¬ keyOf (kD k0) = some k by rw [keyOf_D]; exact fun z => c (Option.some.inj z))]
      exact .cons r ih
theorem RpK.put {ws : List (Key × V)} {kvs : List (PyData × PyData)} {v : V} {d : PyData} (t : RpK K H ws kvs) (h : Rp K H v d) (k : Key) : RpK K H (putK ws k v) (putD kvs k d) := by
  unfold putK putD
  rw [RpK.any k t]
  by_cases c : (kvs.any fun p => decide (keyOf p.1 = some k)) = true
  · rw [if_pos c, if_pos c]
    exact RpK.mapk h k t
  · rw [if_neg c, if_neg c]
    exact t.app (.cons h .nil)
end
/-- the dict's tree, where it is one -/
def dicA (δ : List Sl) (x : AV) : Option (List (PyData × PyData)) := match rdA δ x with
  | some (.dict kvs) => some kvs
  | _ => none
/-- its items stand still -/
theorem dic_ok {K : PySem.W.Frag} {b : Bk} {Fz : Hp} {F : Nat → List Addr} {δ : List Sl} {σ : L2.St} {H : Hp} (R : Rl K b Fz F δ σ H) {v : V} {x : AV} {kvs : List (PyData × PyData)} (A : AvS K Fz σ v x) (h : dicA δ x = some kvs) :
    ∃ a, v = .ref a ∧ ((∃ ws, H a = some (.dK ws) ∧ RpK K Fz ws kvs) ∨ ∃ ws, H a = some (.dT ws) ∧ RpT K Fz ws kvs) := by
  unfold dicA at h
  have q : rdA δ x = some (.dict kvs) := by
    cases q : rdA δ x with
    | none => rw [q] at h; cases h
    | some d => rw [q] at h; cases d <;> first | (cases h; rfl) | cases h
  have frz : ∀ {u : V}, Rp K Fz u (.dict kvs) → ∃ a, u = .ref a ∧ ((∃ ws, H a = some (.dK ws) ∧ RpK K Fz ws kvs) ∨ ∃ ws, H a = some (.dT ws) ∧ RpT K Fz ws kvs) := fun r => by
    cases r with
    | dK h1 h2 => exact ⟨_, rfl, .inl ⟨_, R.le _ _ h1, h2⟩⟩
    | dT h1 h2 => exact ⟨_, rfl, .inr ⟨_, R.le _ _ h1, h2⟩⟩
  cases x with
  | val d => cases q; exact frz A
  | tmp t => cases q
  | ref i =>
    have hv : σ[i]? = some (some v) := A
    simp only [rdA] at q
    cases q1 : δ[i]? with
    | none => simp only [q1] at q; cases q
    | some s =>
      have hs := R.slot i s q1
      rw [hv] at hs
      cases s with
      | no => simp only [q1] at q; cases q
      | fz d =>
        simp only [q1] at q
        cases q
        obtain ⟨_, v', e1, e2⟩ := hs
        cases e1
        exact frz e2
      | ol xs => simp only [q1] at q; cases q
      | od ks =>
        simp only [q1] at q
        cases q
        obtain ⟨a, e1, _, e3⟩ := hs
        cases e1
        exact ⟨a, rfl, e3⟩
      | al y j =>
        simp only [q1] at q
        cases q2 : δ[y]? with
        | none => simp only [q2] at q; cases q
        | some t =>
          cases t with
          | ol xs =>
            simp only [q2] at q
            cases q3 : xs[j]? with
            | none => rw [q3] at q; cases q
            | some e =>
              rw [q3] at q
              obtain ⟨g, e1, _⟩ := R.al q1 q2 q3 hv
              cases e with
              | fz d => cases q; exact frz e1.2
              | ow ys => cases q
          | _ => simp only [q2] at q; cases q
section
variable {X : Cx} {W : WX} {pin : List Nat} {fa fb : List Sl → Rs AV} {a c : Expr} {pos : Pos}
theorem pe_or {e : Expr} {t t' : TE} (h : PE X e t) (h' : PE X e t') : PE X e (fun σ H Q => t σ H Q ∨ t' σ H Q) := ⟨fun pins s σ H Q I q => q.elim (h.run pins s σ H Q I) (h'.run pins s σ H Q I)⟩
theorem rpc_key {K : PySem.W.Frag} {Fz H : Hp} {v : V} {d : PyData} {k : Key} (h : RpC K Fz H v d) (e : keyOf d = some k) : v = kV k := by
  have := keyOf_eq e
  subst this
  rcases h with h | ⟨_, _, _, _, e2, _⟩
  · cases k with
    | inl i => cases h; rfl
    | inr x => cases h; rfl
  · cases k <;> cases e2
theorem rd_bind' {K : PySem.W.Frag} {mg : Str → Option Value} {σ : L2.St} {H : Hp} {b : Bk} {Fz : Hp} {F : Nat → List Addr} {δ : List Sl} {k : AV → List Sl → Rs AV} {Q R : VK} (hp : b.pin = pin) (Rr : Rl K b Fz F δ σ H) (P : Post K mg W b Fz σ Q ((sSt fa δ).bind k))
    (h : ∀ v H' Fz' F' x δ', sSt fa δ = .ok x δ' → Same Fz Fz' → Rl K b Fz' F' δ' σ H' → AvS K Fz' σ v x → Post K mg W b Fz' σ Q (k x δ') → R v H') : rdE K mg W pin (sSt fa) σ H R := by
  refine ⟨b, Fz, F, δ, hp, Rr, ?_⟩
  cases q : sSt fa δ with
  | bad => rw [q] at P; exact P
  | er x δ' => rw [q] at P; exact P
  | ok a δ' =>
    rw [q] at P
    intro v H' Fz' F' s R' A
    cases a with
    | tmp t => exact absurd q (sSt_notmp _ _ _ _)
    | val d => exact h v H' Fz' F' (.val d) δ' q s R' A (Post.le s P)
    | ref i => exact h v H' Fz' F' (.ref i) δ' q s R' A (Post.le s P)
theorem rdE_mono {K : PySem.W.Frag} {mg : Str → Option Value} {f : List Sl → Rs AV} {σ : L2.St} {H : Hp} {Q Q' : VK} (h : rdE K mg W pin f σ H Q) (i : ∀ v H', Q v H' → Q' v H') : rdE K mg W pin f σ H Q' := by
  obtain ⟨b, Fz, F, δ, hp, R, P⟩ := h
  refine ⟨b, Fz, F, δ, hp, R, ?_⟩
  cases q : f δ with
  | bad => rw [q] at P; exact P
  | er x δ' => rw [q] at P; exact P
  | ok a δ' =>
    rw [q] at P
    exact fun v H' Fz' F' s R' A => i v H' (P v H' Fz' F' s R' A)
theorem lookT {K : PySem.W.Frag} {H : Hp} (k : Key) : ∀ {ws : List (List Key × V)} {kvs : List (PyData × PyData)}, RpT K H ws kvs → lookK kvs k = none
  | _, _, .nil => rfl
  | _, _, .cons _ t => by
    have ih := lookT k t
    unfold lookK at ih ⊢
    rw [List.find?_cons]
    simpa [keyOf] using ih
/-- one of two readings, by what the first operand's tree is behind both -/
theorem t2_or {t t' : TE} {r : R2} {g gd : AV → AV → List Sl → Rs AV} {D : AV → List Sl → Bool}
    (ht : ∀ σ H Q, tOp r (rdE X.K X.mg W pin (sSt fa)) (rdE X.K X.mg W pin (sSt fb)) σ H Q → t σ H Q)
    (ht' : ∀ σ H Q, rdE X.K X.mg W pin (sSt fa) σ H (fun v H1 => rdE X.K X.mg W pin (sSt fb) σ H1 fun w H2 => ∃ b Fz F δ x y, Rl X.K b Fz F δ σ H2 ∧ AvS X.K Fz σ v x ∧ AvS X.K Fz σ w y ∧ b.pin = pin ∧ D x δ = true ∧ Post X.K X.mg W b Fz σ Q (gd x y δ)) → t' σ H Q)
    (hv : V2 X.K X.mg W pin r g) : ∀ σ H Q, rdE X.K X.mg W pin (s2 (fun x y δ => if D x δ = true then gd x y δ else g x y δ) fa fb) σ H Q → t σ H Q ∨ t' σ H Q := fun σ H Q ⟨b, Fz, F, δ, hp, R, P⟩ => by
  have P : Post X.K X.mg W b Fz σ Q ((sSt fa δ).bind fun x δ1 => (sSt fb δ1).bind fun y δ2 => if D x δ2 = true then gd x y δ2 else g x y δ2) := P
  by_cases dic : ∃ x δ1 y δ2, sSt fa δ = .ok x δ1 ∧ sSt fb δ1 = .ok y δ2 ∧ D x δ2 = true
  · obtain ⟨x0, d1, y0, d2, q1, q2, q3⟩ := dic
    refine .inr (ht' σ H Q (rd_bind' hp R P fun v H1 Fz1 F1 x δ1 e1 s1 R1 A1 P1 => rd_bind' hp R1 P1 fun w H2 Fz2 F2 y δ2 e2 s2 R2 A2 P2 => ?_))
    rw [q1] at e1
    cases e1
    rw [q2] at e2
    cases e2
    rw [if_pos q3] at P2
    exact ⟨b, Fz2, F2, _, _, _, R2, A1.le s2, A2, hp, q3, P2⟩
  · refine .inl (ht σ H Q (rd_bind' hp R P fun v H1 Fz1 F1 x δ1 e1 s1 R1 A1 P1 => rd_bind' hp R1 P1 fun w H2 Fz2 F2 y δ2 e2 s2 R2 A2 P2 => ?_))
    have q3 : ¬ D x δ2 = true := fun z => dic ⟨x, δ1, y, δ2, e1, e2, z⟩
    rw [if_neg q3] at P2
    exact hv b Fz2 F2 δ2 σ H2 v w x y Q hp R2 (A1.le s2) A2 P2
def isDic (x : AV) (δ : List Sl) : Bool := (dicA δ x).isSome
def gDix (x y : AV) (δ : List Sl) : Rs AV := match dicA δ x, (rdC δ y).bind keyOf with
  | some kvs, some k => (match lookK kvs k with
    | some d => .ok (.val d) δ
    | none => .bad)
  | _, _ => .bad
/-- x[i]: of a list, a tuple, a dict -/
def gIx2 (x y : AV) (δ : List Sl) : Rs AV := if isDic x δ = true then gDix x y δ else gIx x y δ
theorem se_ix2 (hu : X.A.units + 64 < cLine) (ha : SE X W pin a fa) (hb : SE X W pin c fb) (hs : PlainIx c := by intro _ _; rfl) (hs2 : NoSl c := by intro _ _; rfl) : SE X W pin (.Subscript a c pos) (s2 gIx2 fa fb) :=
  pe_mono (pe_or (pe_ix ix_U (se_st ha) (se_st hb) hs) (pe_dget (by omega) (se_st ha) (se_st hb) hs2)) (t2_or (r := rIxU X.K) (g := gIx) (gd := gDix) (D := isDic) (fun _ _ _ h => h) (fun σ H Q h => by
    refine rdE_mono h fun v H1 h => rdE_mono h fun w H2 ⟨b, Fz, F, δ, x, y, R, A, B, hp, hD, P⟩ => ?_
    unfold isDic at hD
    cases q : dicA δ x with
    | none => rw [q] at hD; cases hD
    | some kvs =>
      obtain ⟨a', e1, e2⟩ := dic_ok R A q
      unfold gDix at P
      cases q2 : (rdC δ y).bind keyOf with
      | none => simp only [q, q2] at P; exact P.elim
      | some k =>
        cases q3 : lookK kvs k with
        | none => simp only [q, q2, q3] at P; exact P.elim
        | some d =>
          simp only [q, q2, q3] at P
          obtain ⟨kd, f1, f2⟩ := Option.bind_eq_some_iff.mp q2
          have ew := rpc_key (rdC_ok R B f1) f2
          rcases e2 with ⟨ws, g1, g2⟩ | ⟨ws, g1, g2⟩
          · obtain ⟨u, h1, h2⟩ := g2.look q3
            exact ⟨a', u, e1, .inl ⟨ws, k, .inl g1, ew, h1.symm⟩, P u H2 Fz F (Same.refl _) R h2⟩
          · rw [lookT k g2] at q3
            cases q3) v2_ix)
end
/-! ### dict(pairs) -/
def pairsD : List PyData → Option (List (Key × PyData))
  | [] => some []
  | .tuple [k, v] :: r => (keyOf k).bind fun k => (pairsD r).bind fun ps => some ((k, v) :: ps)
  | _ :: _ => none
def mergeD (kvs : List (PyData × PyData)) (more : List (Key × PyData)) : List (PyData × PyData) := more.foldl (fun acc p => putD acc p.1 p.2) kvs
theorem RpK.merge {K : PySem.W.Frag} {H : Hp} : ∀ {more : List (Key × V)} {ps : List (Key × PyData)} {ws : List (Key × V)} {kvs : List (PyData × PyData)}, more.map Prod.fst = ps.map Prod.fst → RpL K H (more.map Prod.snd) (ps.map Prod.snd) → RpK K H ws kvs → RpK K H (mergeK ws more) (mergeD kvs ps)
  | [], [], _, _, _, _, h => h
  | [], _ :: _, _, _, e, _, _ => by cases e
  | _ :: _, [], _, _, e, _, _ => by cases e
  | m :: more, p :: ps, ws, kvs, e, r, h => by
    obtain ⟨k, v⟩ := m
    obtain ⟨k', d⟩ := p
    have e1 : k = k' := (List.cons.inj e).1
    subst e1
    cases r with
    | cons r1 r2 => exact RpK.merge (more := more) (ps := ps) (List.cons.inj e).2 r2 (h.put r1 k)
def rDictP (K : PySem.W.Frag) : List V → Hp → VK → Prop := fun xs H Q => ∃ (a : Addr) (ps : List Addr) (kvs : List (Key × V)), xs = [.ref a] ∧ SqL K H a (ps.map V.ref) ∧ Paired (fun p kv => SqT K H p [kV kv.1, kv.2]) ps kvs ∧
    ∀ p, H p = none → Q (.ref p) (upd H p (.dK (mergeK [] kvs)))
def gDictP (x : AV) (δ : List Sl) : Rs AV := match rdC δ x with
  | some (.list ds) => (match pairsD ds with
    | some ps => .ok (.tmp (.od (mergeD [] ps))) δ
    | none => .bad)
  | _ => .bad
theorem pairs_vals {K : PySem.W.Frag} {Fz H : Hp} (le : Same Fz H) : ∀ {vs : List V} {ds : List PyData} {ps : List (Key × PyData)}, RpL K Fz vs ds → pairsD ds = some ps → ∃ (as : List Addr) (kvs : List (Key × V)), vs = as.map V.ref ∧ Paired (fun p kv => SqT K H p [kV kv.1, kv.2]) as kvs ∧ kvs.map Prod.fst = ps.map Prod.fst ∧ RpL K Fz (kvs.map Prod.snd) (ps.map Prod.snd)
  | _, _, _, .nil, h => by
    cases h
    exact ⟨[], [], rfl, .nil, rfl, .nil⟩
  | _, _, _, .cons (v := v) (vs := vs) (d := d) (ds := ds) r t, h => by
    cases r with
    | tup h1 h2 =>
      cases h2 with
      | cons q1 t1 =>
        cases t1 with
        | cons q2 t2 =>
          cases t2 with
          | nil =>
            rename_i kd vd _ _
            unfold pairsD at h
            obtain ⟨k, e1, h⟩ := Option.bind_eq_some_iff.mp h
            obtain ⟨ps', e2, h⟩ := Option.bind_eq_some_iff.mp h
            cases h
            obtain ⟨as, kvs, f1, f2, f3, f4⟩ := pairs_vals le t e2
            have ek := rpc_key (H := H) (.inl q1) e1
            subst ek
            exact ⟨_ :: as, (k, _) :: kvs, by rw [f1]; rfl, .cons (same_sqT le h1) f2, by simp [f3], .cons q2 f4⟩
          | cons _ _ => cases h
        | nil => cases h
      | nil => cases h
    | _ => cases h
theorem c1_dictP {K : PySem.W.Frag} {mg : Str → Option Value} {W : WX} {pin : List Nat} : C1 K mg W pin (rDictP K) gDictP := by
  intro b Fz F δ σ H v x Q hp R A P
  unfold gDictP at P
  cases q : rdC δ x with
  | none => simp only [q] at P; exact P.elim
  | some d =>
    have h := rdC_ok R A q
    cases d with
    | list ds =>
      cases q2 : pairsD ds with
      | none => simp only [q, q2] at P; exact P.elim
      | some ps =>
        simp only [q, q2] at P
        obtain ⟨a, vs, e1, s1, r1⟩ := h.list R.le
        obtain ⟨as, kvs, f1, f2, f3, f4⟩ := pairs_vals R.le r1 q2
        subst f1
        refine ⟨a, as, kvs, by rw [e1], s1.sq, f2, fun p n => ?_⟩
        obtain ⟨n1, n2, n3⟩ := R.offN n
        refine P (.ref p) _ Fz F (Same.refl _) (R.new n _) ⟨rfl, [p], ⟨p, rfl, rfl, .inl ⟨_, upd_same, RpK.merge f3 f4 .nil⟩⟩, by simp, fun c hc => ?_⟩
        rw [List.mem_singleton] at hc
        subst hc
        exact ⟨n1, n2, by rw [upd_same]; simp, n3⟩
    | _ => simp only [q] at P; exact P.elim
/-! ### a comprehension that stands still at once -/
theorem st_rd {K : PySem.W.Frag} {mg : Str → Option Value} {W : WX} {pin : List Nat} {f : List Sl → Rs AV} : ∀ σ H Q, rdE K mg W pin (sSt f) σ H Q → rdE K mg W pin f σ H Q := fun σ H Q ⟨b, Fz, F, δ, hp, R, P⟩ => by
  refine ⟨b, Fz, F, δ, hp, R, ?_⟩
  unfold sSt at P
  cases q : f δ with
  | bad => rw [q] at P; exact P
  | er x δ' => rw [q] at P; exact P
  | ok a δ' =>
    rw [q] at P
    cases a with
    | val d => exact P
    | ref i => exact P
    | tmp s =>
      intro v H' Fz' F' s1 R' ⟨ht, g, hs, hn, hg⟩
      cases q2 : s.tree with
      | none => rw [q2] at ht; cases ht
      | some d =>
        simp only [q2] at P
        obtain ⟨s2, R2⟩ := R'.addF (g := g) fun a ha => ⟨(hg a ha).1, (hg a ha).2.1, (hg a ha).2.2.2⟩
        exact P v H' _ F' (s1.trans s2) R2 (hs.treeF q2 s2 fun a ha => addF_in ha)
theorem tk_rd {K : PySem.W.Frag} {mg : Str → Option Value} {W : WX} {pin : List Nat} {f : List Sl → Rs AV} : ∀ σ H Q, rdE K mg W pin (sTk f) σ H Q → rdE K mg W pin f σ H Q := fun σ H Q ⟨b, Fz, F, δ, hp, R, P⟩ => by
  refine st_rd σ H Q ⟨b, Fz, F, δ, hp, R, ?_⟩
  unfold sTk at P
  cases q : sSt f δ with
  | bad => rw [q] at P; exact P
  | er x δ' => rw [q] at P; exact P
  | ok a δ' =>
    rw [q] at P
    cases a with
    | val d => exact P
    | tmp s => exact P
    | ref i => exact fun v H' Fz' F' s1 R' hv => post_take R' hv (P.le s1)
section
variable {X : Cx} {W : WX} {pin ts : List Nat} {elt tg iter : Expr} {ifs : List Expr} {scope : Scope} {own : List (Str × Nat)} {pos : Pos} {wi : List Sl → Rs (List PyData)} {t : AV → List Sl → Rs Unit} {tt : List Sl → Rs Bool} {f : List Sl → Rs AV}
theorem ss_setLcT (w : Bool) {i : Nat} {y : Str} {py spos : Pos} (hc : X.calm = true) (hN : X.N.Nodup) (hy : X.N[i]? = some y) (hyl : X.env.scope.names.lookup y = some .local) (hp : i ∉ pin)
    (hsw : swapsWith (.ListComp elt [⟨tg, iter, ifs, 0⟩] scope pos) (some (.Name y py)) spos.line X.env = pure true) (hi : SI X W pin tg iter wi) (ok : blkC X.N X.env.scope scope own = true) (hv : ∀ v ∈ own.map (·.2), v ∉ pin) (hts : ∀ v ∈ ts, v ∈ own.map (·.2))
    (hg : ∀ s H C cl fp, SG (BX X scope s H C cl fp) W0 pin ts tg t) (ht : ∀ s H C cl fp, STs (BX X scope s H C cl fp) pin ifs tt) (he : ∀ s H C cl fp, SE (BX X scope s H C cl fp) W0 pin elt f) (hs : ∀ x, foldedSetIterable iter X.env x = pure x := by intro _; rfl) :
    SS X W pin (.Assign [.Name y py] (.ListComp elt [⟨tg, iter, ifs, 0⟩] scope pos) spos) (oAsg (sTk (sLc w wi (own.map (·.2)) t tt f)) (tgN i)) :=
  ps_mono (L2.ps_setLc hc hN hy hyl hsw hi (blkOk_by ok) hg ht he hs) fun D σ H ⟨b, Fz, F, δ, hpin, R, P⟩ => by
    refine lc_ok (K := X.K) (mg := X.mg) (W := W) (w := w) (wi := wi) (t := t) (tt := tt) (f := f) (tT := rdT X.K X.mg W0 pin tt) hv hts (fun _ _ _ h => h) σ H _ (tk_rd σ H _ ?_)
    refine rdS_bind hpin R P fun v H' Fz' F' a δ' s R' A P' => ?_
    refine tgN_ok (K := X.K) (mg := X.mg) (W := W) (b := b) (ts := [i]) (List.mem_singleton.mpr rfl) (by rw [hpin]; exact hp) R' A ?_
    cases q : tgN i a δ' with
    | bad => rw [q] at P'; exact P'
    | er x δ2 => rw [q] at P'; exact P'
    | ok u δ2 =>
      rw [q] at P'
      exact fun σ2 H2 Fz2 F2 s2 R2 _ => P' σ2 H2 Fz2 F2 s2 R2
end
end Hb

/-! part N10 -/
namespace Nv
open PySem Hb L2
open Enc (enc)
/-! ### x[i] once more; dicts -/
class EncKey (κ : Type) [Enc κ] where
  key : κ → Key
  h : ∀ k : κ, keyOf (enc k) = some (key k)
  inj : ∀ a b : κ, key a = key b → a = b
instance : EncKey Int := ⟨.inl, fun _ => rfl, fun _ _ h => Sum.inl.inj h⟩
instance : EncKey Str := ⟨.inr, fun _ => rfl, fun _ _ h => Sum.inr.inj h⟩
section
variable {α β γ κ : Type} [Enc α] [Enc β] [Enc κ] [DecidableEq κ] [EncKey κ] {Γ : Ga} {fa fb : List Sl → Rs AV}
theorem notDic_list {δ : List Sl} {x : AV} {ds : List PyData} (h : rdA δ x = some (.list ds)) : isDic x δ = false := by simp [isDic, dicA, h]
theorem notDic_tup {δ : List Sl} {x : AV} {ds : List PyData} (h : rdA δ x = some (.tuple ds)) : isDic x δ = false := by simp [isDic, dicA, h]
theorem op_ix2 : Op2 gIx2 (atL (α := α)) fun r => .val (enc r) := fun v w r δ x y h1 h1' h2 h2' e => by
  have : gIx2 x y δ = gIx x y δ := by unfold gIx2; rw [notDic_list (show rdA δ x = some (.list (v.map enc)) from h1')]; rfl
  rw [this]
  exact op_ix v w r δ x y h1 h1' h2 h2' e
theorem op_ixT2 : Op2 gIx2 (atT (α := α)) fun r => .val (enc r) := fun v w r δ x y h1 h1' h2 h2' e => by
  have : gIx2 x y δ = gIx x y δ := by unfold gIx2; rw [notDic_tup (show rdA δ x = some (.tuple (v.l.map enc)) from h1')]; rfl
  rw [this]
  exact op_ixT v w r δ x y h1 h1' h2 h2' e
theorem pu_tix2 {pa : Option α} {π : α → β} {k : Int} {ds : α → List PyData} (ha : Rd fa Γ pa enc) (h1 : ∀ v : α, enc v = .tuple (ds v)) (h2 : ∀ v, atI (ds v) k = some (enc (π v))) : Pu (s2 gIx2 fa (sC (.int k))) Γ (pa.bind fun v => some (π v)) fun r => .val (enc r) := fun r e δ s => by
  obtain ⟨v, e1, e'⟩ := bind_of e
  obtain ⟨x, q1, q2, q3⟩ := ha v e1 δ s
  have old := pu_tix (π := π) (k := k) ha h1 h2 r e δ s
  unfold Hb.s2 at old ⊢
  rw [q1] at old ⊢
  have nd : isDic x δ = false := notDic_tup (by rw [q3, h1])
  show gIx2 x (.val (.int k)) δ = _
  unfold gIx2
  rw [nd]
  exact old
def lookC (d : Dc κ α) (k : κ) : Option α := (d.l.find? fun p => decide (p.1 = k)).map (·.2)
def putC (d : List (κ × α)) (k : κ) (v : α) : List (κ × α) := if (d.any fun p => decide (p.1 = k)) = true then d.map (fun p => if p.1 = k then (p.1, v) else p) else d ++ [(k, v)]
def dicL (xs : List (κ × α)) : Option (Dc κ α) := some ⟨xs.foldl (fun acc p => putC acc p.1 p.2) []⟩
theorem kD_enc (k : κ) : kD (EncKey.key k) = enc k := (keyOf_eq (EncKey.h k)).symm
theorem look_enc (k : κ) : ∀ l : List (κ × α), lookK (l.map fun p => (enc p.1, enc p.2)) (EncKey.key k) = ((l.find? fun p => decide (p.1 = k)).map (·.2)).map enc
  | [] => rfl
  | p :: r => by
    have ih := look_enc k r
    unfold lookK at ih ⊢
    rw [List.map_cons, List.find?_cons, List.find?_cons]
    rw [EncKey.h]
    by_cases c : p.1 = k
    · rw [decide_eq_true (by rw [c]), decide_eq_true c]
      rfl
    · have hn : ¬ some (EncKey.key p.1) = some (EncKey.key k) := fun z => c (EncKey.inj _ _ (Option.some.inj z))
      rw [decide_eq_false hn, decide_eq_false c]
      exact ih
theorem put_enc (k : κ) (v : α) (l : List (κ × α)) : putD (l.map fun p => (enc p.1, enc p.2)) (EncKey.key k) (enc v) = (putC l k v).map fun p => (enc p.1, enc p.2) := by
  have ha : ((l.map fun p => (enc p.1, enc p.2)).any fun p => decide (keyOf p.1 = some (EncKey.key k))) = l.any fun p => decide (p.1 = k) := by
    rw [List.any_map]
    congr 1
    funext p
    show decide (keyOf (enc p.1) = some (EncKey.key k)) = _
    rw [EncKey.h]
    by_cases c : p.1 = k
    · simp [c]
    · have hn : ¬ EncKey.key p.1 = EncKey.key k := fun z => c (EncKey.inj _ _ z)
      simp [c, hn]
  unfold putD putC
  rw [ha]
  by_cases c : (l.any fun p => decide (p.1 = k)) = true
  · rw [if_pos c, if_pos c, List.map_map, List.map_map]
    congr 1
    funext p
    show (if keyOf (enc p.1) = some (EncKey.key k) then (enc p.1, enc v) else (enc p.1, enc p.2)) = (fun p : κ × α => (enc p.1, enc p.2)) (if p.1 = k then (p.1, v) else p)
    rw [EncKey.h]
    by_cases c2 : p.1 = k
    · rw [if_pos (by rw [c2]), if_pos c2]
    · rw [if_neg (fun z => c2 (EncKey.inj _ _ (Option.some.inj z))), if_neg c2]
  · rw [if_neg c, if_neg c, List.map_append]
    show _ ++ [(kD (EncKey.key k), enc v)] = _ ++ [(enc k, enc v)]
    rw [kD_enc]
def Op2M (g : AV → AV → List Sl → Rs AV) (op : α → β → Option γ) (a : γ → AV) : Prop := ∀ v w r δ x y, rdA δ x = some (enc v) → rdC δ y = some (enc w) → op v w = some r → g x y δ = .ok (a r) δ
theorem pu2M {g : AV → AV → List Sl → Rs AV} {op : α → β → Option γ} {a : γ → AV} (o : Op2M g op a) {pa : Option α} {pb : Option β} (ha : Ra fa Γ pa enc) (hb : Rd fb Γ pb enc) : Pu (s2 g fa fb) Γ (pa.bind fun v => pb.bind fun w => op v w) a := fun r e δ s => by
  obtain ⟨v, e1, e⟩ := bind_of e
  obtain ⟨w, e2, e⟩ := bind_of e
  obtain ⟨x, h1, h3⟩ := ha v e1 δ s
  obtain ⟨y, k1, k2, k3⟩ := hb w e2 δ s
  unfold s2
  rw [h1]
  show (sSt fb δ).bind _ = _
  rw [k1]
  exact o v w r δ x y h3 k2 e
theorem op_dix : Op2M gIx2 (lookC (κ := κ) (α := α)) fun r => .val (enc r) := fun v w r δ x y h1 h2 e => by
  have hd : dicA δ x = some (v.l.map fun p => (enc p.1, enc p.2)) := by
    have h1 : rdA δ x = some (.dict (v.l.map fun p => (enc p.1, enc p.2))) := h1
    simp only [dicA, h1]
  have hk : (rdC δ y).bind keyOf = some (EncKey.key w) := by rw [h2]; exact EncKey.h w
  have hl : lookK (v.l.map fun p => (enc p.1, enc p.2)) (EncKey.key w) = some (enc r) := by
    rw [look_enc]
    have e : (v.l.find? fun p => decide (p.1 = w)).map (·.2) = some r := e
    rw [e]
    rfl
  unfold gIx2
  rw [if_pos (by unfold isDic; rw [hd]; rfl)]
  simp only [gDix, hd, hk, hl]
theorem pairs_enc : ∀ xs : List (κ × α), pairsD (xs.map enc) = some (xs.map fun p => (EncKey.key p.1, enc p.2))
  | [] => rfl
  | p :: r => by
    show (keyOf (enc p.1)).bind (fun k => (pairsD (r.map enc)).bind fun ps => some ((k, enc p.2) :: ps)) = _
    rw [EncKey.h, pairs_enc r]
    rfl
theorem merge_enc : ∀ (xs acc : List (κ × α)), mergeD (acc.map fun p => (enc p.1, enc p.2)) (xs.map fun p => (EncKey.key p.1, enc p.2)) = (xs.foldl (fun acc p => putC acc p.1 p.2) acc).map fun p => (enc p.1, enc p.2)
  | [], acc => rfl
  | p :: r, acc => by
    show mergeD (putD (acc.map fun p => (enc p.1, enc p.2)) (EncKey.key p.1) (enc p.2)) (r.map fun p => (EncKey.key p.1, enc p.2)) = _
    rw [put_enc, merge_enc r]
    rfl
theorem op_dicL : Op1 gDictP (dicL (κ := κ) (α := α)) fun r => .tmp (od r) := fun v r δ x h _ e => by
  have h : rdC δ x = some (.list (v.map enc)) := h
  cases some_of e
  simp only [gDictP, h, pairs_enc]
  have := merge_enc v []
  rw [show mergeD [] (v.map fun p => (EncKey.key p.1, enc p.2)) = _ from this]
  rfl
end
section
variable {α : Type} [Enc α] {Γ : Ga} {f : List Sl → Rs AV} {p : Option (List α)}
theorem enc_any (xs : List α) : (enc (xs.map enc : List PyData) : PyData) = enc xs := by
  show PyData.list ((xs.map enc).map fun d => d) = PyData.list (xs.map enc)
  rw [List.map_id']
theorem Rd.anyL (hh : Rd f Γ p enc) : Rd f Γ (p.bind fun xs => some (xs.map enc)) (enc : List PyData → PyData) := fun r e δ s => by
  obtain ⟨v, e1, e⟩ := bind_of e
  cases some_of e
  rw [enc_any]
  exact hh _ e1 δ s
theorem Pu.anyL (hh : Pu f Γ p fun v => .val (enc v)) : Pu f Γ (p.bind fun xs => some (xs.map enc)) fun v : List PyData => .val (enc v) := fun r e δ s => by
  obtain ⟨v, e1, e⟩ := bind_of e
  cases some_of e
  show _ = Rs.ok (AV.val (enc (List.map enc v : List PyData))) δ
  rw [enc_any]
  exact hh _ e1 δ s
end
end Nv

/-! part N11 -/
namespace Nv
open PySem Hb L2
open Enc (enc)
/-! ### targets that store -/
section
variable {α β γ ε ζ : Type} [Enc α] {Γ : Ga} {f fi : List Sl → Rs AV} {g : List Sl → Ot} {R : ζ → Ot → Prop}
def TgE (t : AV → List Sl → Rs Unit) (Γ : Ga) (d : PyData) (p : Option β) (Γ' : β → Ga) : Prop := ∀ v, p = some v → ∀ δ, Sat Γ δ → ∃ δ', t (.val d) δ = .ok () δ' ∧ Sat (Γ' v) δ'
def TgsE (t : List PyData → List Sl → Rs Unit) (Γ : Ga) (ds : List PyData) (p : Option β) (Γ' : β → Ga) : Prop := ∀ v, p = some v → ∀ δ, Sat Γ δ → ∃ δ', t ds δ = .ok () δ' ∧ Sat (Γ' v) δ'
theorem tge_n {k : Nat} {d : PyData} : TgE (tgN k) Γ d (some ()) fun _ => upP k (.eq (.fz d)) Γ := fun v _ δ s => ⟨_, rfl, s.up rfl⟩
theorem tge_s {k : Nat} {xs : List α} {pi : Option Int} {x : α} (h0 : Γ[k]? = some (.eq (ow xs))) (hi : Rd fi Γ pi enc) : TgE (tgS (sVar k) fi) Γ (enc x) (pi.bind fun i => stI xs i x) fun ys => upP k (.eq (ow ys)) Γ := fun ys e δ s => by
  obtain ⟨i, e1, e⟩ := bind_of e
  obtain ⟨a, q1, q2, _⟩ := hi i e1 δ s
  have hk := s.at_ h0
  refine ⟨upS k (ow ys) δ, ?_, s.up rfl⟩
  unfold tgS
  show (sSt (sVar k) δ).bind _ = _
  rw [sSt_ref (sVar_own hk)]
  show (sSt fi δ).bind _ = _
  rw [q1]
  exact setA_own hk q2 e
theorem tge_sal {k x j : Nat} {rows : List (List α)} {pi : Option Int} {v : α} (h0 : Γ[k]? = some (.eq (.al x j))) (hx : Γ[x]? = some (.eq (oww rows))) (hi : Rd fi Γ pi enc) : TgE (tgS (sVar k) fi) Γ (enc v) (pi.bind fun i => stR rows j i v) fun ys => Γ.set x (.eq (oww ys)) := fun ys e δ s => by
  obtain ⟨i, e1, e⟩ := bind_of e
  obtain ⟨a, q1, q2, _⟩ := hi i e1 δ s
  have hk := s.at_ h0
  refine ⟨δ.set x (oww ys), ?_, s.set (p := .eq (oww ys)) (s := oww ys) (Eq.refl _) x⟩
  unfold tgS
  show (sSt (sVar k) δ).bind _ = _
  rw [sSt_ref (show sVar k δ = .ok (.ref k) δ by unfold sVar; rw [hk])]
  show (sSt fi δ).bind _ = _
  rw [q1]
  exact setA_al hk (s.at_ hx) q2 e
theorem tgse_nil : TgsE tgNil Γ [] (some ()) fun _ => Γ := fun v _ δ s => ⟨δ, rfl, s⟩
theorem tgse_cons {t : AV → List Sl → Rs Unit} {u : List PyData → List Sl → Rs Unit} {d : PyData} {ds : List PyData} {p : Option β} {Γ1 : β → Ga} {q : β → Option γ} {Γ2 : β → γ → Ga} (h : TgE t Γ d p Γ1) (h2 : ∀ v, TgsE u (Γ1 v) ds (q v) (Γ2 v)) : TgsE (tgCons t u) Γ (d :: ds) (p.bind fun v => (q v).bind fun w => some (v, w)) fun r => Γ2 r.1 r.2 := fun r e δ s => by
  obtain ⟨v, e1, e⟩ := bind_of e
  obtain ⟨w, e2, e⟩ := bind_of e
  cases some_of e
  obtain ⟨δ1, h1, s1⟩ := h v e1 δ s
  obtain ⟨δ2, h3, s2⟩ := h2 v w e2 δ1 s1
  refine ⟨δ2, ?_, s2⟩
  unfold tgCons
  show (t (.val d) δ).bind _ = _
  rw [h1]
  exact h3
theorem tge_t {n : Nat} {u : List PyData → List Sl → Rs Unit} {ds : List PyData} {p : Option β} {Γ1 : β → Ga} (h : TgsE u Γ ds p Γ1) (hn : ds.length = n := by rfl) : TgE (tgT n u) Γ (.tuple ds) p Γ1 := fun v e δ s => by
  obtain ⟨δ1, e1, s1⟩ := h v e δ s
  refine ⟨δ1, ?_, s1⟩
  unfold tgT
  show (if ds.length = n then u ds δ else .bad) = _
  rw [if_pos hn]
  exact e1
theorem tge_ga {t : AV → List Sl → Rs Unit} {d : PyData} {p : Option β} {Γ' : β → Ga} (Δ : Ga) (h : Γ = Δ) (q : TgE t Δ d p Γ') : TgE t Γ d p Γ' := by subst h; exact q
theorem tgse_ga {t : List PyData → List Sl → Rs Unit} {d : List PyData} {p : Option β} {Γ' : β → Ga} (Δ : Ga) (h : Γ = Δ) (q : TgsE t Δ d p Γ') : TgsE t Γ d p Γ' := by subst h; exact q
theorem bl_asgE {tg : AV → List Sl → Rs Unit} {p : Option ε} {d : ε → PyData} {Γ1 : ε → Ga} {q : ε → Option β} {Γ2 : ε → β → Ga} {kont : ε → β → Option ζ} (h : Ev f Γ p (fun v => .val (d v)) Γ1) (ht : ∀ v, TgE tg (Γ1 v) (d v) (q v) (Γ2 v)) (k2 : ∀ v w, Bl g (Γ2 v w) (kont v w) R) : Bl (oSeq (oAsg f tg) g) Γ (p.bind fun v => (q v).bind (kont v)) R := fun r e δ s => by
  obtain ⟨v, e1, e⟩ := bind_of e
  obtain ⟨w, e2, e⟩ := bind_of e
  obtain ⟨δ1, h1, s1⟩ := h v e1 δ s
  obtain ⟨δ2, h2, s2⟩ := ht v w e2 δ1 s1
  rw [nx_of (show oAsg f tg δ = .nx δ2 by
    unfold oAsg
    rw [h1]
    show (tg (.val (d v)) δ1).otU = _
    rw [h2]
    rfl)]
  exact k2 v w r e _ s2
end
/-! ### any value, as a sequence -/
def atA (d : PyData) (i : Int) : Option PyData := itemD d (.int i)
def asL : PyData → Option (List PyData)
  | .list ds => some ds
  | _ => none
section
variable {Γ : Ga} {f : List Sl → Rs AV} {p : Option PyData}
theorem op_ixA : Op2 gIx2 atA fun r => .val (enc r) := fun v w r δ x y h1 h1' h2 h2' e => by
  have h1 : rdC δ x = some v := h1
  have h1' : rdA δ x = some v := h1'
  have h2 : rdC δ y = some (.int w) := h2
  cases v with
  | list ds =>
    have : gIx2 x y δ = gIx x y δ := by unfold gIx2; rw [notDic_list h1']; rfl
    have e : atI ds w = some r := e
    rw [this]
    simp only [gIx, h2, item_list h1, e]
    rfl
  | tuple ds =>
    have : gIx2 x y δ = gIx x y δ := by unfold gIx2; rw [notDic_tup h1']; rfl
    have e : atI ds w = some r := e
    rw [this]
    simp only [gIx, h2, item_tup h1, e]
    rfl
  | _ => cases e
theorem asL_enc {d : PyData} {ds : List PyData} (h : asL d = some ds) : (enc ds : PyData) = d := by
  cases d with
  | list es =>
    cases some_of h
    show PyData.list (List.map (fun d => d) _) = _
    rw [List.map_id']
  | _ => cases h
theorem Rd.asL (hh : Rd f Γ p enc) : Rd f Γ (p.bind fun d => Nv.asL d) (enc : List PyData → PyData) := fun r e δ s => by
  obtain ⟨v, e1, e⟩ := bind_of e
  rw [asL_enc e]
  exact hh _ e1 δ s
theorem Pu.asL (hh : Pu f Γ p fun v => .val (enc v)) : Pu f Γ (p.bind fun d => Nv.asL d) fun v : List PyData => .val (enc v) := fun r e δ s => by
  obtain ⟨v, e1, e⟩ := bind_of e
  show _ = Rs.ok (AV.val (enc r)) δ
  rw [asL_enc e]
  exact hh _ e1 δ s
def asIL : PyData → Option (List Int)
  | .list ds => intsOf ds
  | _ => none
theorem asIL_enc {d : PyData} {ns : List Int} (h : asIL d = some ns) : (enc ns : PyData) = d := by
  cases d with
  | list es =>
    have := intsOf_eq (show intsOf es = some ns from h)
    subst this
    rfl
  | _ => cases h
theorem Rd.asIL (hh : Rd f Γ p enc) : Rd f Γ (p.bind fun d => Nv.asIL d) (enc : List Int → PyData) := fun r e δ s => by
  obtain ⟨v, e1, e⟩ := bind_of e
  rw [asIL_enc e]
  exact hh _ e1 δ s
theorem Pu.asIL (hh : Pu f Γ p fun v => .val (enc v)) : Pu f Γ (p.bind fun d => Nv.asIL d) fun v : List Int => .val (enc v) := fun r e δ s => by
  obtain ⟨v, e1, e⟩ := bind_of e
  show _ = Rs.ok (AV.val (enc r)) δ
  rw [asIL_enc e]
  exact hh _ e1 δ s
theorem pu_ifTk {β : Type} {fa fb : List Sl → Rs AV} {t : List Sl → Rs Bool} {d : β → PyData} {pt : Option Bool} {pa pb : Option β} (h : Ts t Γ pt) (ha : Pu (sTk fa) Γ pa fun v => .val (d v)) (hb : Pu (sTk fb) Γ pb fun v => .val (d v)) : Pu (sTk (sIf t fa fb)) Γ (pt.bind fun c => if c = true then pa else pb) fun v => .val (d v) := fun r e δ s => by
  obtain ⟨v, e1, e⟩ := bind_of e
  have h1 := h v e1 δ s
  have un : sTk (sIf t fa fb) δ = if v = true then sTk fa δ else sTk fb δ := by
    unfold sTk sSt sIf
    rw [h1]
    cases v <;> rfl
  rw [un]
  cases v with
  | true => exact ha r e δ s
  | false => exact hb r e δ s
end
theorem Pu.mapV {α β : Type} [Enc α] {Γ : Ga} {f : List Sl → Rs AV} {p : Option β} (k : β → α) (h : Pu f Γ p fun x => .val (enc (k x))) : Pu f Γ (p.bind fun x => some (k x)) fun v => .val (enc v) := fun r e δ s => by
  obtain ⟨v, e1, e⟩ := bind_of e
  cases some_of e
  exact h v e1 δ s
theorem Pu.mapT {α β : Type} [Enc α] {Γ : Ga} {f : List Sl → Rs AV} {p : Option β} (k : β → List α) (h : Pu f Γ p fun x => .tmp (ow (k x))) : Pu f Γ (p.bind fun x => some (k x)) fun v => .tmp (ow v) := fun r e δ s => by
  obtain ⟨v, e1, e⟩ := bind_of e
  cases some_of e
  exact h v e1 δ s
end Nv

/-! part Q__law_cells -/
namespace P
open PySem PySem.Spec PyProof.Rows L2 Hb Nv
open Enc (enc)
/-! _law_cells: 0 _law_script, 1 _law_many -/
def B__law_cells : List Sl → Ot :=
    oRet (sSl (s2 gAdd (sVar 0) (sLst (lCons (sC (.int 0)) (lNil)))) none (some (s2 gMax2 (sC (.int 1)) (s2 gMin2 (sVar 1) (s1 (gRd lenD) (sVar 0))))))
def F__law_cells : List Sl → FR := fnRun 2 2 [] B__law_cells
def n__law_cells (a0 : (List Int)) (a1 : Int) : Option ((List Int)) :=
    (Option.bind (Option.bind (Option.bind (some a0) fun x4 => Option.bind (Option.bind (Option.bind (some (0 : Int)) fun x1 => Option.bind (some ()) fun x3 => some (x1, x3)) fun x2 => some ([(Prod.fst x2)] : (List Int))) fun x5 => catL x4 x5) fun x12 => Option.bind (some none) fun x13 => Option.bind (Option.bind (Option.bind (some (1 : Int)) fun x9 => Option.bind (Option.bind (some a1) fun x7 => Option.bind (Option.bind (some a0) fun x6 => lenL x6) fun x8 => minI2 x7 x8) fun x10 => maxI2 x9 x10) fun x11 => some (some x11)) fun x14 => some (cutL x12 x13 x14)) fun x15 => some x15)
theorem V__law_cells (a0 : (List Int)) (a1 : Int) : Fun F__law_cells (n__law_cells a0 a1) [.fz (enc a0), .fz (enc a1)] (fun r : ((List Int)) => ow (r : (List Int))) fun r => [.no, .no] :=
  fun_of (ΓR := fun r => [.aa, .aa]) (show Bl B__law_cells _ _ _ from (bl_ga [.eq (.fz (enc (a0 : (List Int)))), .eq (.fz (enc (a1 : Int)))] (by kernel_rfl) (bl_retT ((pu_sl (((pu2 Nv.op_cat ((pu_var 0 rfl)).rd (((pu_lst (dp_cons (pu_c).tkP dp_nil) (fun x2 => ([(Prod.fst x2)] : (List Int))))).rdT ow_tree))).rdT ow_tree) .no (.yes ((pu2 Nv.op_max2 (pu_c).rd ((pu2 Nv.op_min2 ((pu_var 1 rfl)).rd ((pu1A Nv.op_len (((pu_var 0 rfl)).rd).ra)).rd)).rd)).rd))).ev fun x15 => (rf_eq rfl (.cons .aa (.cons .aa .nil))))))
end P

/-! part Q_is_integer -/
namespace P
open PySem PySem.Spec PyProof.Rows L2 Hb Nv
open Enc (enc)
/-! is_integer: 0 value, 1 low, 2 high -/
def B_is_integer : List Sl → Ot :=
    oSeq (oIf (sOr (sNot (sTru (s1 (gIsi "int") (sVar 0)))) (sTru (s1 (gIsi "bool") (sVar 0)))) (oRet (sC (.bool false))) (oNext))
    (oRet (sAndV (s2 gLe (sVar 1) (sVar 0)) (sOrV (s2 (gIs false) (sVar 2) (sC .none)) (s2 gLe (sVar 0) (sVar 2)))))
def F_is_integer : List Sl → FR := fnRun 3 3 [] B_is_integer
def n_is_integer (a0 : PyData) (a1 : Int) (a2 : (Option Int)) : Option (Bool) :=
    (Option.bind (Option.bind (Option.bind (Option.bind (some a0) fun x1 => isiN "int" x1) fun x3 => some !x3) fun x6 => if x6 = true then some true else (Option.bind (some a0) fun x4 => isiN "bool" x4)) fun x7 => if x7 = true then (Option.bind (some false) fun x8 => some x8) else (Option.bind (Option.bind (Option.bind (some a1) fun x10 => Option.bind (Option.bind (some a0) fun x9 => asIntA x9) fun x11 => leI x10 x11) fun x18 => if x18 = true then (Option.bind (Option.bind (some a2) fun x12 => some (if false = true then Option.isSome x12 else Option.isNone x12)) fun x17 => if x17 = true then some true else (Option.bind (Option.bind (some a0) fun x13 => asIntA x13) fun x15 => Option.bind (Option.bind (some a2) fun x14 => x14) fun x16 => leI x15 x16)) else some false) fun x19 => some x19))
theorem V_is_integer (a0 : PyData) (a1 : Int) (a2 : (Option Int)) : Fun F_is_integer (n_is_integer a0 a1 a2) [.fz (enc a0), .fz (enc a1), .fz (enc a2)] (fun r : (Bool) => .fz (enc (r : Bool))) fun r => [.no, .no, .no] :=
  fun_of (ΓR := fun r => [.aa, .aa, .aa]) (show Bl B_is_integer _ _ _ from (bl_ga [.eq (.fz (enc (a0 : PyData))), .eq (.fz (enc (a1 : Int))), .eq (.fz (enc (a2 : (Option Int))))] (by kernel_rfl) (bl_if (k := fun x7 => x7) ((ts_or (ts_not (ts_truB (((pu1A (Nv.op_isi (T := "int")) (((pu_var 0 rfl)).rd).ra)).rd).ra)) (ts_truB (((pu1A (Nv.op_isi (T := "bool")) (((pu_var 0 rfl)).rd).ra)).rd).ra))).te' (fun x7 => (bl_retS (bl_retV (pu_c).ev fun x8 => (rf_eq rfl (.cons .aa (.cons .aa (.cons .aa .nil))))))) fun x7 => (bl_next (bl_retV ((pu_andV (pu2 Nv.op_le ((pu_var 1 rfl)).rd ((Pu.asI (pu_var 0 rfl))).rd) (pu_orV (pu_isN (n := false) (((pu_var 2 rfl)).rd).ra) (pu2 Nv.op_le ((Pu.asI (pu_var 0 rfl))).rd ((Pu.un (pu_var 2 rfl))).rd)))).ev fun x19 => (rf_eq rfl (.cons .aa (.cons .aa (.cons .aa .nil)))))))))
end P

/-! part Q_is_each_once -/
namespace P
open PySem PySem.Spec PyProof.Rows L2 Hb Nv
open Enc (enc)
/-! is_each_once: 0 count, 1 value, 2 item -/
def B_is_each_once : List Sl → Ot :=
    oSeq (oIf (sOr (sNot (sTru (s1 (gIsi "list") (sVar 1)))) (sOr (sTst (s2 gNe (s1 (gRd lenD) (sVar 1)) (sVar 0))) (sNot (sTru (s1 (gRd (overB fun ns => some (.bool (ns.all id)))) (sLc false (wSeq (sVar 1)) [2] (tgN 2) (tOk) (sTk (sCall F_is_integer [.none] (rCons (sTk (sVar 2)) (rCons (sC (.int 0)) (rNil))))))))))) (oRet (sC (.bool false))) (oNext))
    (oRet (s2 gEq (s1 (gSortD) (sVar 1)) (s1 gRg1 (sVar 0))))
def F_is_each_once : List Sl → FR := fnRun 2 3 [] B_is_each_once
def n_is_each_once (a0 : Int) (a1 : PyData) : Option (Bool) :=
    (Option.bind (Option.bind (Option.bind (Option.bind (some a1) fun x1 => isiN "list" x1) fun x3 => some !x3) fun x19 => if x19 = true then some true else (Option.bind (Option.bind (Option.bind (some a1) fun x4 => lenA x4) fun x5 => Option.bind (some a0) fun x6 => neN x5 x6) fun x18 => if x18 = true then some true else (Option.bind (Option.bind (Option.bind (Option.bind (some a1) fun x7 => seqA x7) fun x8 => if List.length (x8) ≤ cap then mapF x8 (fun x9 => (some true)) (fun x9 => (Option.bind (Option.bind (some x9) fun x10 => Option.bind (Option.bind (some (0 : Int)) fun x11 => Option.bind (some ()) fun x12 => some (x11, x12)) fun x13 => some (x10, x13)) fun x14 => n_is_integer ((Prod.fst x14) : PyData) ((Prod.fst (Prod.snd x14)) : Int) ((none : (Option Int)) : (Option Int)))) else none) fun x15 => allB x15) fun x17 => some !x17))) fun x20 => if x20 = true then (Option.bind (some false) fun x21 => some x21) else (Option.bind (Option.bind (Option.bind (some a1) fun x22 => srtAC x22) fun x24 => Option.bind (Option.bind (some a0) fun x23 => rg1 x23) fun x25 => eqN x24 x25) fun x26 => some x26))
theorem V_is_each_once (a0 : Int) (a1 : PyData) : Fun F_is_each_once (n_is_each_once a0 a1) [.fz (enc a0), .fz (enc a1)] (fun r : (Bool) => .fz (enc (r : Bool))) fun r => [.no, .no] :=
  fun_of (ΓR := fun r => [.aa, .aa, .aa]) (show Bl B_is_each_once _ _ _ from (bl_ga [.eq (.fz (enc (a0 : Int))), .eq (.fz (enc (a1 : PyData))), .eq .no] (by kernel_rfl) (bl_if (k := fun x20 => x20) ((ts_or (ts_not (ts_truB (((pu1A (Nv.op_isi (T := "list")) (((pu_var 1 rfl)).rd).ra)).rd).ra)) (ts_or (ts_tst (pu2A Nv.op_ne (((pu1A Nv.op_lenA (((pu_var 1 rfl)).rd).ra)).rd).ra (((pu_var 0 rfl)).rd).ra)) (ts_not (ts_truB (((pu1A Nv.op_all ((((pu_lc (vs := [2]) (ip_seqA ((pu_var 1 rfl)).tkP) rfl rfl (fun x8 x9 => tg_n) (fun x8 x9 => (ts_ga [.eq (.fz (enc (a0 : Int))), .eq (.fz (enc (a1 : PyData))), .eq (.fz (enc (x9 : PyData)))] (by kernel_rfl) ts_ok)) fun x8 x9 => (pu_ga [.eq (.fz (enc (a0 : Int))), .eq (.fz (enc (a1 : PyData))), .eq (.fz (enc (x9 : PyData)))] (by kernel_rfl) ((pu_call (ap_cons ((pu_var 2 rfl)).tkP (ap_cons pu_c ap_nil)) (fun x14 => V_is_integer ((Prod.fst x14) : PyData) ((Prod.fst (Prod.snd x14)) : Int) ((none : (Option Int)) : (Option Int))))).tkP))).rdT ow_tree)).ra)).rd).ra))))).te' (fun x20 => (bl_retS (bl_retV (pu_c).ev fun x21 => (rf_eq rfl (.cons .aa (.cons .aa (.cons .aa .nil))))))) fun x20 => (bl_next (bl_retV ((pu2A Nv.op_eq ((((pu1 Nv.op_srtAC ((pu_var 1 rfl)).rd)).rdT ow_tree)).ra ((((pu1 Nv.op_rg1 ((pu_var 0 rfl)).rd)).rdT ow_tree)).ra)).ev fun x26 => (rf_eq rfl (.cons .aa (.cons .aa (.cons .aa .nil)))))))))
end P

/-! part Q_need_line -/
namespace P
open PySem PySem.Spec PyProof.Rows L2 Hb Nv
open Enc (enc)
/-! need_line: 0 line, 1 count, 2 size -/
def B_need_line : List Sl → Ot :=
    oSeq (oAsg (sTk (sIf (sAnd (sTst (s2 (gIs false) (sVar 1) (sC .none))) (sTru (s1 (gIsi "list") (sVar 0)))) (s1 (gRd lenD) (sVar 0)) (sVar 1))) (tgN 2))
    (oIf (sOr (sNot (sTru (sCall F_is_integer [] (rCons (sTk (sVar 2)) (rCons (sC (.int 1)) (rCons (sTk (sC (.int 12))) (rNil))))))) (sNot (sTru (sCall F_is_each_once [] (rCons (sTk (sVar 2)) (rCons (sTk (sVar 0)) (rNil))))))) (fun _ => .bad) (oNext))
def F_need_line : List Sl → FR := fnRun 2 3 [] B_need_line
def n_need_line (a0 : PyData) (a1 : (Option Int)) : Option (Unit) :=
    (Option.bind (Option.bind (Option.bind (Option.bind (some a1) fun x1 => some (if false = true then Option.isSome x1 else Option.isNone x1)) fun x4 => if x4 = true then (Option.bind (some a0) fun x2 => isiN "list" x2) else some false) fun x7 => if x7 = true then (Option.bind (Option.bind (some a0) fun x5 => lenA x5) fun x6 => some ((some x6) : (Option Int))) else (some a1)) fun x8 => (Option.bind (Option.bind (Option.bind (Option.bind (Option.bind (some x8) fun x9 => Option.bind (Option.bind (some (1 : Int)) fun x10 => Option.bind (Option.bind (some (12 : Int)) fun x11 => Option.bind (some ()) fun x12 => some (x11, x12)) fun x13 => some (x10, x13)) fun x14 => some (x9, x14)) fun x15 => n_is_integer ((enc ((Prod.fst x15) : (Option Int))) : PyData) ((Prod.fst (Prod.snd x15)) : Int) ((some (Prod.fst (Prod.snd (Prod.snd x15)))) : (Option Int))) fun x17 => some !x17) fun x26 => if x26 = true then some true else (Option.bind (Option.bind (Option.bind (Option.bind (some x8) fun x19 => x19) fun x18 => Option.bind (Option.bind (some a0) fun x20 => Option.bind (some ()) fun x21 => some (x20, x21)) fun x22 => some (x18, x22)) fun x23 => n_is_each_once ((Prod.fst x23) : Int) ((Prod.fst (Prod.snd x23)) : PyData)) fun x25 => some !x25)) fun x27 => if x27 = true then none else some ()))
theorem V_need_line (a0 : PyData) (a1 : (Option Int)) : Fun F_need_line (n_need_line a0 a1) [.fz (enc a0), .fz (enc a1)] (fun r : (Unit) => .fz (enc (r : Unit))) fun r => [.no, .no] :=
  fun_of (ΓR := fun r => [.aa, .aa, .aa]) (show Bl B_need_line _ _ _ from (bl_ga [.eq (.fz (enc (a0 : PyData))), .eq (.fz (enc (a1 : (Option Int)))), .eq .no] (by kernel_rfl) (bl_asgV (((pu_if (ts_and (ts_tst (pu_isN (n := false) (((pu_var 1 rfl)).rd).ra)) (ts_truB (((pu1A (Nv.op_isi (T := "list")) (((pu_var 0 rfl)).rd).ra)).rd).ra)) (pu_co (fun x6 => ((some x6) : (Option Int))) (pu1A Nv.op_lenA (((pu_var 0 rfl)).rd).ra)) (pu_var 1 rfl))).tkP).ev fun x8 => (bl_ga [.eq (.fz (enc (a0 : PyData))), .eq (.fz (enc (a1 : (Option Int)))), .eq (.fz (enc (x8 : (Option Int))))] (by kernel_rfl) (bl_last (bl_if (k := fun x27 => x27) ((ts_or (ts_not (ts_truB (((pu_call (ap_cons ((pu_var 2 rfl)).tkP (ap_cons pu_c (ap_cons (pu_c).tkP ap_nil))) (fun x15 => V_is_integer ((enc ((Prod.fst x15) : (Option Int))) : PyData) ((Prod.fst (Prod.snd x15)) : Int) ((some (Prod.fst (Prod.snd (Prod.snd x15)))) : (Option Int))))).rd).ra)) (ts_not (ts_truB (((pu_call (ap_cons (Pu.un ((pu_var 2 rfl)).tkP) (ap_cons ((pu_var 0 rfl)).tkP ap_nil)) (fun x23 => V_is_each_once ((Prod.fst x23) : Int) ((Prod.fst (Prod.snd x23)) : PyData)))).rd).ra)))).te' (fun x27 => bl_bad) fun x27 => (bl_next (bl_end (rf_nx rfl (.cons .aa (.cons .aa (.cons .aa .nil))))))))))))
end P

/-! part Q_need_ballot -/
namespace P
open PySem PySem.Spec PyProof.Rows L2 Hb Nv
open Enc (enc)
/-! need_ballot: 0 count, 1 ballot -/
def B_need_ballot : List Sl → Ot :=
    oIf (sNot (sTru (sCall F_is_each_once [] (rCons (sTk (sVar 0)) (rCons (sTk (sVar 1)) (rNil)))))) (fun _ => .bad) (oNext)
def F_need_ballot : List Sl → FR := fnRun 2 2 [] B_need_ballot
def n_need_ballot (a0 : Int) (a1 : PyData) : Option (Unit) :=
    (Option.bind (Option.bind (Option.bind (Option.bind (some a0) fun x1 => Option.bind (Option.bind (some a1) fun x2 => Option.bind (some ()) fun x3 => some (x2, x3)) fun x4 => some (x1, x4)) fun x5 => n_is_each_once ((Prod.fst x5) : Int) ((Prod.fst (Prod.snd x5)) : PyData)) fun x7 => some !x7) fun x8 => if x8 = true then none else some ())
theorem V_need_ballot (a0 : Int) (a1 : PyData) : Fun F_need_ballot (n_need_ballot a0 a1) [.fz (enc a0), .fz (enc a1)] (fun r : (Unit) => .fz (enc (r : Unit))) fun r => [.no, .no] :=
  fun_of (ΓR := fun r => [.aa, .aa]) (show Bl B_need_ballot _ _ _ from (bl_ga [.eq (.fz (enc (a0 : Int))), .eq (.fz (enc (a1 : PyData)))] (by kernel_rfl) (bl_last (bl_if (k := fun x8 => x8) ((ts_not (ts_truB (((pu_call (ap_cons ((pu_var 0 rfl)).tkP (ap_cons ((pu_var 1 rfl)).tkP ap_nil)) (fun x5 => V_is_each_once ((Prod.fst x5) : Int) ((Prod.fst (Prod.snd x5)) : PyData)))).rd).ra))).te' (fun x8 => bl_bad) fun x8 => (bl_next (bl_end (rf_nx rfl (.cons .aa (.cons .aa .nil)))))))))
end P

/-! part Q_ranks_in -/
namespace P
open PySem PySem.Spec PyProof.Rows L2 Hb Nv
open Enc (enc)
/-! ranks_in: 0 ballot, 1 found, 2 index, 3 place -/
def B_ranks_in : List Sl → Ot :=
    oSeq (oAsg (s2 gMulX (sLst (lCons (sC (.int 0)) (lNil))) (s1 (gRd lenD) (sVar 0))) (tgN 1))
    (oSeq (oFor (wEnum (sVar 0)) (tgT 2 (tgCons (tgN 2) (tgCons (tgN 3) (tgNil)))) (oAsg (sVar 2) (tgS (sVar 1) (sVar 3))))
    (oRet (sVar 1)))
def F_ranks_in : List Sl → FR := fnRun 1 4 [] B_ranks_in
def n_ranks_in (a0 : (List Int)) : Option ((List Int)) :=
    (Option.bind (Option.bind (Option.bind (Option.bind (some (0 : Int)) fun x1 => Option.bind (some ()) fun x3 => some (x1, x3)) fun x2 => some ([(Prod.fst x2)] : (List Int))) fun x5 => Option.bind (Option.bind (some a0) fun x4 => lenL x4) fun x6 => repL x5 x6) fun x7 => (Option.bind (some a0) fun x8 => Option.bind (forS (enumL x8) (x7 : (List Int)) fun s10 x9 => (Option.bind (some (Prod.fst x9)) fun x11 => Option.bind (some (Prod.snd x9)) fun x12 => Option.bind (stI s10 x12 x11) fun x13 => some (x13 : (List Int)))) fun s10 => some s10))
theorem V_ranks_in (a0 : (List Int)) : Fun F_ranks_in (n_ranks_in a0) [.fz (enc a0)] (fun r : ((List Int)) => ow (r : (List Int))) fun r => [.no] :=
  fun_of (ΓR := fun r => [.aa, .aa, .aa, .aa]) (show Bl B_ranks_in _ _ _ from (bl_ga [.eq (.fz (enc (a0 : (List Int)))), .eq .no, .eq .no, .eq .no] (by kernel_rfl) (bl_asgT ((pu2 Nv.op_rep (((pu_lst (dp_cons (pu_c).tkP dp_nil) (fun x2 => ([(Prod.fst x2)] : (List Int))))).rdT ow_tree) ((pu1A Nv.op_len (((pu_var 0 rfl)).rd).ra)).rd)).ev fun x7 => (bl_ga [.eq (.fz (enc (a0 : (List Int)))), .eq (ow (x7 : (List Int))), .eq .no, .eq .no] (by kernel_rfl) (bl_for (vs := [2, 3]) (xs := fun x8 => (enumL x8)) (s0 := fun x8 => (x7 : (List Int))) (ΓL := fun x8 (s10 : (List Int)) => [.eq (.fz (enc (a0 : (List Int)))), .eq (ow (s10 : (List Int))), .pl, .pl]) ((ip_enum (xs := fun v => v) ((pu_var 0 rfl)).tkP)).it (fun x8 => (.cons .rfl (.cons .rfl (.cons .no (.cons .no .nil))))) (fun x8 s10 x9 => (tg_t (tgs_cons tg_n (tgs_cons tg_n tgs_nil)))) (fun x8 s10 x9 => (bl_ga [.eq (.fz (enc (a0 : (List Int)))), .eq (ow (s10 : (List Int))), .eq (.fz (enc ((Prod.fst x9) : Int))), .eq (.fz (enc ((Prod.snd x9) : Int)))] (by kernel_rfl) (bl_last (bl_set (k := 1) (va := fun x11 => x11) (xs := fun x11 => s10) ((pu_var 2 rfl)).ev (fun _ => rfl) (fun x11 => ((pu_var 3 rfl)).rd) fun x11 x13 => (bl_ga [.eq (.fz (enc (a0 : (List Int)))), .eq (ow (x13 : (List Int))), .eq (.fz (enc ((Prod.fst x9) : Int))), .eq (.fz (enc ((Prod.snd x9) : Int)))] (by kernel_rfl) (bl_end (rs_nx (.cons .rfl (.cons .rfl (.cons .fz (.cons .fz .nil))))))))))) fun x8 s10 => (bl_retO (k := 1) rfl rfl (sat_ga [.eq (.fz (enc (a0 : (List Int)))), .eq .no, .pl, .pl] (by kernel_rfl) (rf_eq rfl (.cons .aa (.cons .aa (.cons .aa (.cons .aa .nil))))))))))))
end P

/-! part Q_falls -/
namespace P
open PySem PySem.Spec PyProof.Rows L2 Hb Nv
open Enc (enc)
/-! falls: 0 line, 1 ballot, 2 ranks, 3 place, 4 low, 5 high -/
def B_falls : List Sl → Ot :=
    oSeq (oAsg (sTk (sCall F_ranks_in [] (rCons (sTk (sVar 0)) (rNil)))) (tgN 2))
    (oSeq (oPar [4, 5] (rCons (sTk (s2 gIx2 (sVar 2) (s2 gIx2 (sVar 1) (sC (.int 0))))) (rCons (sTk (s2 gIx2 (sVar 2) (s2 gIx2 (sVar 1) (sC (.int 0))))) (rNil))))
    (oSeq (oFor (wSeq (sSl (sVar 1) (some (sC (.int 1))) none)) (tgN 3) (oIf (sTst (s2 gEq (s2 gIx2 (sVar 2) (sVar 3)) (s2 gSub (sVar 4) (sC (.int 1))))) (oAsg (sTk (s2 gSub (sVar 4) (sC (.int 1)))) (tgN 4)) (oIf (sTst (s2 gEq (s2 gIx2 (sVar 2) (sVar 3)) (s2 gAdd (sVar 5) (sC (.int 1))))) (oAsg (sTk (s2 gAdd (sVar 5) (sC (.int 1)))) (tgN 5)) (oRet (sC (.bool false))))))
    (oRet (sC (.bool true)))))
def F_falls : List Sl → FR := fnRun 2 6 [] B_falls
def n_falls (a0 : (List Int)) (a1 : (List Int)) : Option (Bool) :=
    (Option.bind (Option.bind (Option.bind (some a0) fun x1 => Option.bind (some ()) fun x2 => some (x1, x2)) fun x3 => n_ranks_in ((Prod.fst x3) : (List Int))) fun x4 => (Option.bind (Option.bind (Option.bind (some x4) fun x7 => Option.bind (Option.bind (some a1) fun x5 => Option.bind (some (0 : Int)) fun x6 => atL x5 x6) fun x8 => atL x7 x8) fun x9 => Option.bind (Option.bind (Option.bind (some x4) fun x12 => Option.bind (Option.bind (some a1) fun x10 => Option.bind (some (0 : Int)) fun x11 => atL x10 x11) fun x13 => atL x12 x13) fun x14 => Option.bind (some ()) fun x15 => some (x14, x15)) fun x16 => some (x9, x16)) fun x17 => (Option.bind (Option.bind (some a1) fun x19 => Option.bind (Option.bind (some (1 : Int)) fun x18 => some (some x18)) fun x20 => Option.bind (some none) fun x21 => some (cutL x19 x20 x21)) fun x22 => Option.bind (forF (ρ := (Bool)) x22 (((Prod.fst x17), (Prod.fst (Prod.snd x17))) : (Int × Int)) fun s24 x23 => (Option.bind (Option.bind (Option.bind (some x4) fun x25 => Option.bind (some x23) fun x26 => atL x25 x26) fun x29 => Option.bind (Option.bind (some (Prod.fst s24)) fun x27 => Option.bind (some (1 : Int)) fun x28 => subI x27 x28) fun x30 => eqN x29 x30) fun x31 => if x31 = true then (Option.bind (Option.bind (some (Prod.fst s24)) fun x32 => Option.bind (some (1 : Int)) fun x33 => subI x32 x33) fun x34 => some (.nx ((x34, (Prod.snd s24)) : (Int × Int)))) else (Option.bind (Option.bind (Option.bind (some x4) fun x35 => Option.bind (some x23) fun x36 => atL x35 x36) fun x39 => Option.bind (Option.bind (some (Prod.snd s24)) fun x37 => Option.bind (some (1 : Int)) fun x38 => addI x37 x38) fun x40 => eqN x39 x40) fun x41 => if x41 = true then (Option.bind (Option.bind (some (Prod.snd s24)) fun x42 => Option.bind (some (1 : Int)) fun x43 => addI x42 x43) fun x44 => some (.nx (((Prod.fst s24), x44) : (Int × Int)))) else (Option.bind (some false) fun x45 => some (.rt x45))))) fun o48 => Fl.el o48 (fun s24 => (Option.bind (some true) fun x46 => some x46)) fun r47 => some r47)))
theorem V_falls (a0 : (List Int)) (a1 : (List Int)) : Fun F_falls (n_falls a0 a1) [.fz (enc a0), .fz (enc a1)] (fun r : (Bool) => .fz (enc (r : Bool))) fun r => [.no, .no] :=
  fun_of (ΓR := fun r => [.aa, .aa, .aa, .aa, .aa, .aa]) (show Bl B_falls _ _ _ from (bl_ga [.eq (.fz (enc (a0 : (List Int)))), .eq (.fz (enc (a1 : (List Int)))), .eq .no, .eq .no, .eq .no, .eq .no] (by kernel_rfl) (bl_asgV ((((pu_call (ap_cons ((pu_var 0 rfl)).tkP ap_nil) (fun x3 => V_ranks_in ((Prod.fst x3) : (List Int))))).tkTP ow_tree)).ev fun x4 => (bl_ga [.eq (.fz (enc (a0 : (List Int)))), .eq (.fz (enc (a1 : (List Int)))), .eq (.fz (enc (x4 : (List Int)))), .eq .no, .eq .no, .eq .no] (by kernel_rfl) (bl_par (ag_cons (((pu2 Nv.op_ix2 ((pu_var 2 rfl)).rd ((pu2 Nv.op_ix2 ((pu_var 1 rfl)).rd (pu_c).rd)).rd)).tkP).ev fun x9 => (ag_cons (((pu2 Nv.op_ix2 ((pu_var 2 rfl)).rd ((pu2 Nv.op_ix2 ((pu_var 1 rfl)).rd (pu_c).rd)).rd)).tkP).ev fun x14 => ag_nil)) fun x17 => (bl_ga [.eq (.fz (enc (a0 : (List Int)))), .eq (.fz (enc (a1 : (List Int)))), .eq (.fz (enc (x4 : (List Int)))), .eq .no, .eq (.fz (enc ((Prod.fst x17) : Int))), .eq (.fz (enc ((Prod.fst (Prod.snd x17)) : Int)))] (by kernel_rfl) (bl_forF (Q := (RF (ρ := (Bool)) (fun r => .eq (.fz (enc (r : Bool)))) fun r => [.aa, .aa, .aa, .aa, .aa, .aa])) (vs := [3]) (xs := fun x22 => x22) (s0 := fun x22 => (((Prod.fst x17), (Prod.fst (Prod.snd x17))) : (Int × Int))) (ΓL := fun x22 (s24 : (Int × Int)) => [.eq (.fz (enc (a0 : (List Int)))), .eq (.fz (enc (a1 : (List Int)))), .eq (.fz (enc (x4 : (List Int)))), .pl, .eq (.fz (enc ((Prod.fst s24) : Int))), .eq (.fz (enc ((Prod.snd s24) : Int)))]) (kr := fun r47 => some r47) ((ip_seq (xs := fun v => v) (((pu_sl ((pu_var 1 rfl)).rd (.yes (pu_c).rd) .no)).tkTP ow_tree))).it (fun x22 => (.cons .rfl (.cons .rfl (.cons .rfl (.cons .no (.cons .rfl (.cons .rfl .nil))))))) (fun x22 s24 x23 => tg_n) (fun x22 s24 x23 => (bl_ga [.eq (.fz (enc (a0 : (List Int)))), .eq (.fz (enc (a1 : (List Int)))), .eq (.fz (enc (x4 : (List Int)))), .eq (.fz (enc (x23 : Int))), .eq (.fz (enc ((Prod.fst s24) : Int))), .eq (.fz (enc ((Prod.snd s24) : Int)))] (by kernel_rfl) (bl_last (bl_if (k := fun x31 => x31) ((ts_tst (pu2A Nv.op_eq (((pu2 Nv.op_ix2 ((pu_var 2 rfl)).rd ((pu_var 3 rfl)).rd)).rd).ra (((pu2 Nv.op_sub ((pu_var 4 rfl)).rd (pu_c).rd)).rd).ra))).te' (fun x31 => (bl_asgV (((pu2 Nv.op_sub ((pu_var 4 rfl)).rd (pu_c).rd)).tkP).ev fun x34 => (bl_ga [.eq (.fz (enc (a0 : (List Int)))), .eq (.fz (enc (a1 : (List Int)))), .eq (.fz (enc (x4 : (List Int)))), .eq (.fz (enc (x23 : Int))), .eq (.fz (enc (x34 : Int))), .eq (.fz (enc ((Prod.snd s24) : Int)))] (by kernel_rfl) (bl_end (rl_nx (.cons .rfl (.cons .rfl (.cons .rfl (.cons .fz (.cons .rfl (.cons .rfl .nil))))))))))) fun x31 => (bl_if (k := fun x41 => x41) ((ts_tst (pu2A Nv.op_eq (((pu2 Nv.op_ix2 ((pu_var 2 rfl)).rd ((pu_var 3 rfl)).rd)).rd).ra (((pu2 Nv.op_add ((pu_var 5 rfl)).rd (pu_c).rd)).rd).ra))).te' (fun x41 => (bl_asgV (((pu2 Nv.op_add ((pu_var 5 rfl)).rd (pu_c).rd)).tkP).ev fun x44 => (bl_ga [.eq (.fz (enc (a0 : (List Int)))), .eq (.fz (enc (a1 : (List Int)))), .eq (.fz (enc (x4 : (List Int)))), .eq (.fz (enc (x23 : Int))), .eq (.fz (enc ((Prod.fst s24) : Int))), .eq (.fz (enc (x44 : Int)))] (by kernel_rfl) (bl_end (rl_nx (.cons .rfl (.cons .rfl (.cons .rfl (.cons .fz (.cons .rfl (.cons .rfl .nil))))))))))) fun x41 => (bl_retS (bl_retV (pu_c).ev fun x45 => (rl_rt (rf_eq rfl (.cons .aa (.cons .aa (.cons .aa (.cons .aa (.cons .aa (.cons .aa .nil))))))))))))))) (fun v z u d hz h => by cases (Option.some.inj hz); exact h) fun x22 s24 => (bl_retV (pu_c).ev fun x46 => (rf_eq rfl (.cons .aa (.cons .aa (.cons .aa (.cons .aa (.cons .aa (.cons .aa .nil)))))))))))))))
end P

/-! part Q_need_falling -/
namespace P
open PySem PySem.Spec PyProof.Rows L2 Hb Nv
open Enc (enc)
/-! need_falling: 0 line, 1 ballot -/
def B_need_falling : List Sl → Ot :=
    oIf (sNot (sTru (sCall F_falls [] (rCons (sTk (sVar 0)) (rCons (sTk (sVar 1)) (rNil)))))) (fun _ => .bad) (oNext)
def F_need_falling : List Sl → FR := fnRun 2 2 [] B_need_falling
def n_need_falling (a0 : (List Int)) (a1 : (List Int)) : Option (Unit) :=
    (Option.bind (Option.bind (Option.bind (Option.bind (some a0) fun x1 => Option.bind (Option.bind (some a1) fun x2 => Option.bind (some ()) fun x3 => some (x2, x3)) fun x4 => some (x1, x4)) fun x5 => n_falls ((Prod.fst x5) : (List Int)) ((Prod.fst (Prod.snd x5)) : (List Int))) fun x7 => some !x7) fun x8 => if x8 = true then none else some ())
theorem V_need_falling (a0 : (List Int)) (a1 : (List Int)) : Fun F_need_falling (n_need_falling a0 a1) [.fz (enc a0), .fz (enc a1)] (fun r : (Unit) => .fz (enc (r : Unit))) fun r => [.no, .no] :=
  fun_of (ΓR := fun r => [.aa, .aa]) (show Bl B_need_falling _ _ _ from (bl_ga [.eq (.fz (enc (a0 : (List Int)))), .eq (.fz (enc (a1 : (List Int))))] (by kernel_rfl) (bl_last (bl_if (k := fun x8 => x8) ((ts_not (ts_truB (((pu_call (ap_cons ((pu_var 0 rfl)).tkP (ap_cons ((pu_var 1 rfl)).tkP ap_nil)) (fun x5 => V_falls ((Prod.fst x5) : (List Int)) ((Prod.fst (Prod.snd x5)) : (List Int))))).rd).ra))).te' (fun x8 => bl_bad) fun x8 => (bl_next (bl_end (rf_nx rfl (.cons .aa (.cons .aa .nil)))))))))
end P

/-! part Q_need_both_falling -/
namespace P
open PySem PySem.Spec PyProof.Rows L2 Hb Nv
open Enc (enc)
/-! need_both_falling: 0 line, 1 ballot, 2 second -/
def B_need_both_falling : List Sl → Ot :=
    oSeq (oDrop (sCall F_need_line [.none] (rCons (sTk (sVar 0)) (rNil))))
    (oSeq (oDrop (sCall F_need_ballot [] (rCons (sTk (s1 (gRd lenD) (sVar 0))) (rCons (sTk (sVar 1)) (rNil)))))
    (oSeq (oDrop (sCall F_need_ballot [] (rCons (sTk (s1 (gRd lenD) (sVar 0))) (rCons (sTk (sVar 2)) (rNil)))))
    (oSeq (oDrop (sCall F_need_falling [] (rCons (sTk (sVar 0)) (rCons (sTk (sVar 1)) (rNil)))))
    (oDrop (sCall F_need_falling [] (rCons (sTk (sVar 0)) (rCons (sTk (sVar 2)) (rNil))))))))
def F_need_both_falling : List Sl → FR := fnRun 3 3 [] B_need_both_falling
def n_need_both_falling (a0 : (List Int)) (a1 : PyData) (a2 : PyData) : Option (Unit) :=
    (Option.bind (Option.bind (Option.bind (some a0) fun x1 => Option.bind (some ()) fun x2 => some (x1, x2)) fun x3 => n_need_line ((enc ((Prod.fst x3) : (List Int))) : PyData) ((none : (Option Int)) : (Option Int))) fun x4 => (Option.bind (Option.bind (Option.bind (Option.bind (some a0) fun x5 => lenL x5) fun x6 => Option.bind (Option.bind (some a1) fun x7 => Option.bind (some ()) fun x8 => some (x7, x8)) fun x9 => some (x6, x9)) fun x10 => n_need_ballot ((Prod.fst x10) : Int) ((Prod.fst (Prod.snd x10)) : PyData)) fun x11 => (Option.bind (Option.bind (Option.bind (Option.bind (some a0) fun x12 => lenL x12) fun x13 => Option.bind (Option.bind (some a2) fun x14 => Option.bind (some ()) fun x15 => some (x14, x15)) fun x16 => some (x13, x16)) fun x17 => n_need_ballot ((Prod.fst x17) : Int) ((Prod.fst (Prod.snd x17)) : PyData)) fun x18 => (Option.bind (Option.bind (Option.bind (some a0) fun x19 => Option.bind (Option.bind (Option.bind (some a1) fun x21 => asIL x21) fun x20 => Option.bind (some ()) fun x22 => some (x20, x22)) fun x23 => some (x19, x23)) fun x24 => n_need_falling ((Prod.fst x24) : (List Int)) ((Prod.fst (Prod.snd x24)) : (List Int))) fun x25 => (Option.bind (Option.bind (Option.bind (some a0) fun x26 => Option.bind (Option.bind (Option.bind (some a2) fun x28 => asIL x28) fun x27 => Option.bind (some ()) fun x29 => some (x27, x29)) fun x30 => some (x26, x30)) fun x31 => n_need_falling ((Prod.fst x31) : (List Int)) ((Prod.fst (Prod.snd x31)) : (List Int))) fun x32 => some ())))))
theorem V_need_both_falling (a0 : (List Int)) (a1 : PyData) (a2 : PyData) : Fun F_need_both_falling (n_need_both_falling a0 a1 a2) [.fz (enc a0), .fz (enc a1), .fz (enc a2)] (fun r : (Unit) => .fz (enc (r : Unit))) fun r => [.no, .no, .no] :=
  fun_of (ΓR := fun r => [.aa, .aa, .aa]) (show Bl B_need_both_falling _ _ _ from (bl_ga [.eq (.fz (enc (a0 : (List Int)))), .eq (.fz (enc (a1 : PyData))), .eq (.fz (enc (a2 : PyData)))] (by kernel_rfl) (bl_expr ((pu_call (ap_cons ((pu_var 0 rfl)).tkP ap_nil) (fun x3 => V_need_line ((enc ((Prod.fst x3) : (List Int))) : PyData) ((none : (Option Int)) : (Option Int))))).ev fun x4 => (bl_ga [.eq (.fz (enc (a0 : (List Int)))), .eq (.fz (enc (a1 : PyData))), .eq (.fz (enc (a2 : PyData)))] (by kernel_rfl) (bl_expr ((pu_call (ap_cons ((pu1A Nv.op_len (((pu_var 0 rfl)).rd).ra)).tkP (ap_cons ((pu_var 1 rfl)).tkP ap_nil)) (fun x10 => V_need_ballot ((Prod.fst x10) : Int) ((Prod.fst (Prod.snd x10)) : PyData)))).ev fun x11 => (bl_ga [.eq (.fz (enc (a0 : (List Int)))), .eq (.fz (enc (a1 : PyData))), .eq (.fz (enc (a2 : PyData)))] (by kernel_rfl) (bl_expr ((pu_call (ap_cons ((pu1A Nv.op_len (((pu_var 0 rfl)).rd).ra)).tkP (ap_cons ((pu_var 2 rfl)).tkP ap_nil)) (fun x17 => V_need_ballot ((Prod.fst x17) : Int) ((Prod.fst (Prod.snd x17)) : PyData)))).ev fun x18 => (bl_ga [.eq (.fz (enc (a0 : (List Int)))), .eq (.fz (enc (a1 : PyData))), .eq (.fz (enc (a2 : PyData)))] (by kernel_rfl) (bl_expr ((pu_call (ap_cons ((pu_var 0 rfl)).tkP (ap_cons (Pu.asIL ((pu_var 1 rfl)).tkP) ap_nil)) (fun x24 => V_need_falling ((Prod.fst x24) : (List Int)) ((Prod.fst (Prod.snd x24)) : (List Int))))).ev fun x25 => (bl_ga [.eq (.fz (enc (a0 : (List Int)))), .eq (.fz (enc (a1 : PyData))), .eq (.fz (enc (a2 : PyData)))] (by kernel_rfl) (bl_last (bl_expr ((pu_call (ap_cons ((pu_var 0 rfl)).tkP (ap_cons (Pu.asIL ((pu_var 2 rfl)).tkP) ap_nil)) (fun x31 => V_need_falling ((Prod.fst x31) : (List Int)) ((Prod.fst (Prod.snd x31)) : (List Int))))).ev fun x32 => (bl_ga [.eq (.fz (enc (a0 : (List Int)))), .eq (.fz (enc (a1 : PyData))), .eq (.fz (enc (a2 : PyData)))] (by kernel_rfl) (bl_end (rf_nx rfl (.cons .aa (.cons .aa (.cons .aa .nil))))))))))))))))))
end P

/-! part Q_exchanged_at -/
namespace P
open PySem PySem.Spec PyProof.Rows L2 Hb Nv
open Enc (enc)
/-! exchanged_at: 0 ballot, 1 index -/
def B_exchanged_at : List Sl → Ot :=
    oRet (s2 gAdd (s2 gAdd (sSl (sVar 0) none (some (sVar 1))) (sLst (lCons (s2 gIx2 (sVar 0) (s2 gAdd (sVar 1) (sC (.int 1)))) (lCons (s2 gIx2 (sVar 0) (sVar 1)) (lNil))))) (sSl (sVar 0) (some (s2 gAdd (sVar 1) (sC (.int 2)))) none))
def F_exchanged_at : List Sl → FR := fnRun 2 2 [] B_exchanged_at
def n_exchanged_at (a0 : (List Int)) (a1 : Int) : Option ((List Int)) :=
    (Option.bind (Option.bind (Option.bind (Option.bind (some a0) fun x2 => Option.bind (some none) fun x3 => Option.bind (Option.bind (some a1) fun x1 => some (some x1)) fun x4 => some (cutL x2 x3 x4)) fun x16 => Option.bind (Option.bind (Option.bind (Option.bind (some a0) fun x7 => Option.bind (Option.bind (some a1) fun x5 => Option.bind (some (1 : Int)) fun x6 => addI x5 x6) fun x8 => atL x7 x8) fun x9 => Option.bind (Option.bind (Option.bind (some a0) fun x10 => Option.bind (some a1) fun x11 => atL x10 x11) fun x12 => Option.bind (some ()) fun x14 => some (x12, x14)) fun x15 => some (x9, x15)) fun x13 => some ([(Prod.fst x13), (Prod.fst (Prod.snd x13))] : (List Int))) fun x17 => catL x16 x17) fun x24 => Option.bind (Option.bind (some a0) fun x21 => Option.bind (Option.bind (Option.bind (some a1) fun x18 => Option.bind (some (2 : Int)) fun x19 => addI x18 x19) fun x20 => some (some x20)) fun x22 => Option.bind (some none) fun x23 => some (cutL x21 x22 x23)) fun x25 => catL x24 x25) fun x26 => some x26)
theorem V_exchanged_at (a0 : (List Int)) (a1 : Int) : Fun F_exchanged_at (n_exchanged_at a0 a1) [.fz (enc a0), .fz (enc a1)] (fun r : ((List Int)) => ow (r : (List Int))) fun r => [.no, .no] :=
  fun_of (ΓR := fun r => [.aa, .aa]) (show Bl B_exchanged_at _ _ _ from (bl_ga [.eq (.fz (enc (a0 : (List Int)))), .eq (.fz (enc (a1 : Int)))] (by kernel_rfl) (bl_retT ((pu2 Nv.op_cat (((pu2 Nv.op_cat (((pu_sl ((pu_var 0 rfl)).rd .no (.yes ((pu_var 1 rfl)).rd))).rdT ow_tree) (((pu_lst (dp_cons ((pu2 Nv.op_ix2 ((pu_var 0 rfl)).rd ((pu2 Nv.op_add ((pu_var 1 rfl)).rd (pu_c).rd)).rd)).tkP (dp_cons ((pu2 Nv.op_ix2 ((pu_var 0 rfl)).rd ((pu_var 1 rfl)).rd)).tkP dp_nil)) (fun x13 => ([(Prod.fst x13), (Prod.fst (Prod.snd x13))] : (List Int))))).rdT ow_tree))).rdT ow_tree) (((pu_sl ((pu_var 0 rfl)).rd (.yes ((pu2 Nv.op_add ((pu_var 1 rfl)).rd (pu_c).rd)).rd) .no)).rdT ow_tree))).ev fun x26 => (rf_eq rfl (.cons .aa (.cons .aa .nil))))))
end P

/-! part Q_pairs_turned -/
namespace P
open PySem PySem.Spec PyProof.Rows L2 Hb Nv
open Enc (enc)
/-! pairs_turned: 0 ballot, 1 second, 2 one, 3 ranks, 4 others, 5 found, 6 other -/
def B_pairs_turned : List Sl → Ot :=
    oSeq (oPar [3, 4, 5] (rCons (sTk (sCall F_ranks_in [] (rCons (sTk (sVar 0)) (rNil)))) (rCons (sTk (sCall F_ranks_in [] (rCons (sTk (sVar 1)) (rNil)))) (rCons (sLst (lNil)) (rNil)))))
    (oSeq (oFor (wRng1 (s1 (gRd lenD) (sVar 0))) (tgN 2) (oFor (wRng2 (s2 gAdd (sVar 2) (sC (.int 1))) (s1 (gRd lenD) (sVar 0))) (tgN 6) (oIf (sTst (s2 gNe (s2 gLt (s2 gIx2 (sVar 3) (sVar 2)) (s2 gIx2 (sVar 3) (sVar 6))) (s2 gLt (s2 gIx2 (sVar 4) (sVar 2)) (s2 gIx2 (sVar 4) (sVar 6))))) (oDrop (sApp (sVar 5) (sTup (lCons (sVar 2) (lCons (sVar 6) (lNil)))))) (oNext))))
    (oRet (sVar 5)))
def F_pairs_turned : List Sl → FR := fnRun 2 7 [] B_pairs_turned
def n_pairs_turned (a0 : (List Int)) (a1 : (List Int)) : Option ((List (Int × Int))) :=
    (Option.bind (Option.bind (Option.bind (Option.bind (some a0) fun x1 => Option.bind (some ()) fun x2 => some (x1, x2)) fun x3 => n_ranks_in ((Prod.fst x3) : (List Int))) fun x4 => Option.bind (Option.bind (Option.bind (Option.bind (some a1) fun x5 => Option.bind (some ()) fun x6 => some (x5, x6)) fun x7 => n_ranks_in ((Prod.fst x7) : (List Int))) fun x8 => Option.bind (Option.bind (some []) fun x9 => Option.bind (some ()) fun x10 => some (x9, x10)) fun x11 => some (x8, x11)) fun x12 => some (x4, x12)) fun x13 => (Option.bind (Option.bind (Option.bind (some a0) fun x14 => lenL x14) fun x15 => ri1 x15) fun x16 => Option.bind (forS x16 ((Prod.fst (Prod.snd (Prod.snd x13))) : (List (Int × Int))) fun s18 x17 => (Option.bind (Option.bind (Option.bind (some x17) fun x19 => Option.bind (some (1 : Int)) fun x20 => addI x19 x20) fun x22 => Option.bind (Option.bind (some a0) fun x21 => lenL x21) fun x23 => ri2 x22 x23) fun x24 => Option.bind (forS x24 (s18 : (List (Int × Int))) fun s26 x25 => (Option.bind (Option.bind (Option.bind (Option.bind (some (Prod.fst x13)) fun x27 => Option.bind (some x17) fun x28 => atL x27 x28) fun x31 => Option.bind (Option.bind (some (Prod.fst x13)) fun x29 => Option.bind (some x25) fun x30 => atL x29 x30) fun x32 => ltI x31 x32) fun x39 => Option.bind (Option.bind (Option.bind (some (Prod.fst (Prod.snd x13))) fun x33 => Option.bind (some x17) fun x34 => atL x33 x34) fun x37 => Option.bind (Option.bind (some (Prod.fst (Prod.snd x13))) fun x35 => Option.bind (some x25) fun x36 => atL x35 x36) fun x38 => ltI x37 x38) fun x40 => neN x39 x40) fun x41 => if x41 = true then (Option.bind (Option.bind (Option.bind (Option.bind (some x17) fun x42 => Option.bind (Option.bind (some x25) fun x43 => Option.bind (some ()) fun x45 => some (x43, x45)) fun x46 => some (x42, x46)) fun x44 => some (((Prod.fst x44), (Prod.fst (Prod.snd x44))) : (Int × Int))) fun x47 => Option.bind (apL s26 x47) fun x48 => some (x48, x47)) fun x49 => some ((Prod.fst x49) : (List (Int × Int)))) else some (s26 : (List (Int × Int))))) fun s26 => some (s26 : (List (Int × Int))))) fun s18 => some s18))
theorem V_pairs_turned (a0 : (List Int)) (a1 : (List Int)) : Fun F_pairs_turned (n_pairs_turned a0 a1) [.fz (enc a0), .fz (enc a1)] (fun r : ((List (Int × Int))) => ow (r : (List (Int × Int)))) fun r => [.no, .no] :=
  fun_of (ΓR := fun r => [.aa, .aa, .aa, .aa, .aa, .aa, .aa]) (show Bl B_pairs_turned _ _ _ from (bl_ga [.eq (.fz (enc (a0 : (List Int)))), .eq (.fz (enc (a1 : (List Int)))), .eq .no, .eq .no, .eq .no, .eq .no, .eq .no] (by kernel_rfl) (bl_par (ag_cons ((((pu_call (ap_cons ((pu_var 0 rfl)).tkP ap_nil) (fun x3 => V_ranks_in ((Prod.fst x3) : (List Int))))).tkTP ow_tree)).ev fun x4 => (ag_cons ((((pu_call (ap_cons ((pu_var 1 rfl)).tkP ap_nil) (fun x7 => V_ranks_in ((Prod.fst x7) : (List Int))))).tkTP ow_tree)).ev fun x8 => (ag_cons (pu_nil).ev fun x9 => ag_nil))) fun x13 => (bl_ga [.eq (.fz (enc (a0 : (List Int)))), .eq (.fz (enc (a1 : (List Int)))), .eq .no, .eq (.fz (enc ((Prod.fst x13) : (List Int)))), .eq (.fz (enc ((Prod.fst (Prod.snd x13)) : (List Int)))), .eq (ow ((Prod.fst (Prod.snd (Prod.snd x13))) : (List (Int × Int)))), .eq .no] (by kernel_rfl) (bl_for (vs := [2]) (xs := fun x16 => x16) (s0 := fun x16 => ((Prod.fst (Prod.snd (Prod.snd x13))) : (List (Int × Int)))) (ΓL := fun x16 (s18 : (List (Int × Int))) => [.eq (.fz (enc (a0 : (List Int)))), .eq (.fz (enc (a1 : (List Int)))), .pl, .eq (.fz (enc ((Prod.fst x13) : (List Int)))), .eq (.fz (enc ((Prod.fst (Prod.snd x13)) : (List Int)))), .eq (ow (s18 : (List (Int × Int)))), .pl]) ((ip_rng1 ((pu1A Nv.op_len (((pu_var 0 rfl)).rd).ra)).tkP)).it (fun x16 => (.cons .rfl (.cons .rfl (.cons .no (.cons .rfl (.cons .rfl (.cons .rfl (.cons .no .nil)))))))) (fun x16 s18 x17 => tg_n) (fun x16 s18 x17 => (bl_ga [.eq (.fz (enc (a0 : (List Int)))), .eq (.fz (enc (a1 : (List Int)))), .eq (.fz (enc (x17 : Int))), .eq (.fz (enc ((Prod.fst x13) : (List Int)))), .eq (.fz (enc ((Prod.fst (Prod.snd x13)) : (List Int)))), .eq (ow (s18 : (List (Int × Int)))), .pl] (by kernel_rfl) (bl_last (bl_for (vs := [6]) (xs := fun x24 => x24) (s0 := fun x24 => (s18 : (List (Int × Int)))) (ΓL := fun x24 (s26 : (List (Int × Int))) => [.eq (.fz (enc (a0 : (List Int)))), .eq (.fz (enc (a1 : (List Int)))), .eq (.fz (enc (x17 : Int))), .eq (.fz (enc ((Prod.fst x13) : (List Int)))), .eq (.fz (enc ((Prod.fst (Prod.snd x13)) : (List Int)))), .eq (ow (s26 : (List (Int × Int)))), .pl]) ((ip_rng2 ((pu2 Nv.op_add ((pu_var 2 rfl)).rd (pu_c).rd)).tkP ((pu1A Nv.op_len (((pu_var 0 rfl)).rd).ra)).tkP)).it (fun x24 => (.cons .rfl (.cons .rfl (.cons .rfl (.cons .rfl (.cons .rfl (.cons .rfl (.cons .rfl .nil)))))))) (fun x24 s26 x25 => tg_n) (fun x24 s26 x25 => (bl_ga [.eq (.fz (enc (a0 : (List Int)))), .eq (.fz (enc (a1 : (List Int)))), .eq (.fz (enc (x17 : Int))), .eq (.fz (enc ((Prod.fst x13) : (List Int)))), .eq (.fz (enc ((Prod.fst (Prod.snd x13)) : (List Int)))), .eq (ow (s26 : (List (Int × Int)))), .eq (.fz (enc (x25 : Int)))] (by kernel_rfl) (bl_last (bl_if (k := fun x41 => x41) ((ts_tst (pu2A Nv.op_ne (((pu2 Nv.op_lt ((pu2 Nv.op_ix2 ((pu_var 3 rfl)).rd ((pu_var 2 rfl)).rd)).rd ((pu2 Nv.op_ix2 ((pu_var 3 rfl)).rd ((pu_var 6 rfl)).rd)).rd)).rd).ra (((pu2 Nv.op_lt ((pu2 Nv.op_ix2 ((pu_var 4 rfl)).rd ((pu_var 2 rfl)).rd)).rd ((pu2 Nv.op_ix2 ((pu_var 4 rfl)).rd ((pu_var 6 rfl)).rd)).rd)).rd).ra))).te' (fun x41 => (bl_expr (ev_app (k := 5) (va := fun x47 => x47) (xs := fun x47 => s26) rfl rfl (((pu_tup (dp_cons ((pu_var 2 rfl)).tkP (dp_cons ((pu_var 6 rfl)).tkP dp_nil)) (fun x44 => (((Prod.fst x44), (Prod.fst (Prod.snd x44))) : (Int × Int))))).tkP).ev fun _ => rfl) fun x49 => (bl_ga [.eq (.fz (enc (a0 : (List Int)))), .eq (.fz (enc (a1 : (List Int)))), .eq (.fz (enc (x17 : Int))), .eq (.fz (enc ((Prod.fst x13) : (List Int)))), .eq (.fz (enc ((Prod.fst (Prod.snd x13)) : (List Int)))), .eq (ow ((Prod.fst x49) : (List (Int × Int)))), .eq (.fz (enc (x25 : Int)))] (by kernel_rfl) (bl_end (rs_nx (.cons .rfl (.cons .rfl (.cons .rfl (.cons .rfl (.cons .rfl (.cons .rfl (.cons .fz .nil)))))))))))) fun x41 => (bl_next (bl_end (rs_nx (.cons .rfl (.cons .rfl (.cons .rfl (.cons .rfl (.cons .rfl (.cons .rfl (.cons .fz .nil)))))))))))))) fun x24 s26 => (bl_end (rs_nx (.cons .rfl (.cons .rfl (.cons .fz (.cons .rfl (.cons .rfl (.cons .rfl (.cons .rfl .nil))))))))))))) fun x16 s18 => (bl_retO (k := 5) rfl rfl (sat_ga [.eq (.fz (enc (a0 : (List Int)))), .eq (.fz (enc (a1 : (List Int)))), .pl, .eq (.fz (enc ((Prod.fst x13) : (List Int)))), .eq (.fz (enc ((Prod.fst (Prod.snd x13)) : (List Int)))), .eq .no, .pl] (by kernel_rfl) (rf_eq rfl (.cons .aa (.cons .aa (.cons .aa (.cons .aa (.cons .aa (.cons .aa (.cons .aa .nil)))))))))))))))
end P

/-! part Q_is_way -/
namespace P
open PySem PySem.Spec PyProof.Rows L2 Hb Nv
open Enc (enc)
/-! is_way: 0 line, 1 ballot, 2 second_ballot, 3 value, 4 here, 5 later, 6 item, 7 index -/
def B_is_way : List Sl → Ot :=
    oSeq (oDrop (sCall F_need_both_falling [] (rCons (sTk (sVar 0)) (rCons (sTk (sVar 1)) (rCons (sTk (sVar 2)) (rNil))))))
    (oSeq (oIf (sOr (sNot (sTru (s1 (gIsi "list") (sVar 3)))) (sNot (sTru (s1 (gRd (overB fun ns => some (.bool (ns.all id)))) (sLc false (wSeq (sVar 3)) [6] (tgN 6) (tOk) (sTk (sCall F_is_each_once [] (rCons (sTk (s1 (gRd lenD) (sVar 0))) (rCons (sTk (sVar 6)) (rNil)))))))))) (oRet (sC (.bool false))) (oNext))
    (oSeq (oIf (sOr (sTst (s2 gNe (s1 (gRd lenD) (sVar 3)) (s2 gAdd (s1 (gRd lenD) (sCall F_pairs_turned [] (rCons (sTk (sVar 1)) (rCons (sTk (sVar 2)) (rNil))))) (sC (.int 1))))) (sOr (sTst (s2 gNe (s2 gIx2 (sVar 3) (sC (.int 0))) (sVar 1))) (sTst (s2 gNe (s2 gIx2 (sVar 3) (s1 gNeg (sC (.int 1)))) (sVar 2))))) (oRet (sC (.bool false))) (oNext))
    (oSeq (oIf (sNot (sTru (s1 (gRd (overB fun ns => some (.bool (ns.all id)))) (sLc false (wSeq (sVar 3)) [6] (tgN 6) (tOk) (sTk (sCall F_falls [] (rCons (sTk (sVar 0)) (rCons (sTk (sVar 6)) (rNil))))))))) (oRet (sC (.bool false))) (oNext))
    (oSeq (oFor (wZip (sVar 3) (sSl (sVar 3) (some (sC (.int 1))) none)) (tgT 2 (tgCons (tgN 4) (tgCons (tgN 5) (tgNil)))) (oIf (sTst (s2 (gIn true) (sVar 5) (sLc false (wRng1 (s2 gSub (s1 (gRd lenD) (sVar 4)) (sC (.int 1)))) [7] (tgN 7) (tOk) (sTk (sCall F_exchanged_at [] (rCons (sTk (sVar 4)) (rCons (sTk (sVar 7)) (rNil)))))))) (oRet (sC (.bool false))) (oNext)))
    (oRet (sC (.bool true)))))))
def F_is_way : List Sl → FR := fnRun 4 8 [] B_is_way
def n_is_way (a0 : (List Int)) (a1 : (List Int)) (a2 : (List Int)) (a3 : PyData) : Option (Bool) :=
    (Option.bind (Option.bind (Option.bind (some a0) fun x1 => Option.bind (Option.bind (some a1) fun x2 => Option.bind (Option.bind (some a2) fun x3 => Option.bind (some ()) fun x4 => some (x3, x4)) fun x5 => some (x2, x5)) fun x6 => some (x1, x6)) fun x7 => n_need_both_falling ((Prod.fst x7) : (List Int)) ((enc ((Prod.fst (Prod.snd x7)) : (List Int))) : PyData) ((enc ((Prod.fst (Prod.snd (Prod.snd x7))) : (List Int))) : PyData)) fun x8 => (Option.bind (Option.bind (Option.bind (Option.bind (some a3) fun x9 => isiN "list" x9) fun x11 => some !x11) fun x24 => if x24 = true then some true else (Option.bind (Option.bind (Option.bind (Option.bind (some a3) fun x12 => seqA x12) fun x13 => if List.length (x13) ≤ cap then mapF x13 (fun x14 => (some true)) (fun x14 => (Option.bind (Option.bind (Option.bind (some a0) fun x15 => lenL x15) fun x16 => Option.bind (Option.bind (some x14) fun x17 => Option.bind (some ()) fun x18 => some (x17, x18)) fun x19 => some (x16, x19)) fun x20 => n_is_each_once ((Prod.fst x20) : Int) ((Prod.fst (Prod.snd x20)) : PyData))) else none) fun x21 => allB x21) fun x23 => some !x23)) fun x25 => if x25 = true then (Option.bind (some false) fun x26 => some x26) else (Option.bind (Option.bind (Option.bind (Option.bind (some a3) fun x27 => lenA x27) fun x36 => Option.bind (Option.bind (Option.bind (Option.bind (Option.bind (some a1) fun x28 => Option.bind (Option.bind (some a2) fun x29 => Option.bind (some ()) fun x30 => some (x29, x30)) fun x31 => some (x28, x31)) fun x32 => n_pairs_turned ((Prod.fst x32) : (List Int)) ((Prod.fst (Prod.snd x32)) : (List Int))) fun x33 => lenL x33) fun x34 => Option.bind (some (1 : Int)) fun x35 => addI x34 x35) fun x37 => neN x36 x37) fun x50 => if x50 = true then some true else (Option.bind (Option.bind (Option.bind (some a3) fun x38 => Option.bind (some (0 : Int)) fun x39 => atA x38 x39) fun x41 => Option.bind (Option.bind (some a1) fun x40 => some (enc (x40 : (List Int)))) fun x42 => neA x41 x42) fun x49 => if x49 = true then some true else (Option.bind (Option.bind (some a3) fun x44 => Option.bind (Option.bind (some (1 : Int)) fun x43 => negI x43) fun x45 => atA x44 x45) fun x47 => Option.bind (Option.bind (some a2) fun x46 => some (enc (x46 : (List Int)))) fun x48 => neA x47 x48))) fun x51 => if x51 = true then (Option.bind (some false) fun x52 => some x52) else (Option.bind (Option.bind (Option.bind (Option.bind (Option.bind (some a3) fun x53 => seqA x53) fun x54 => if List.length (x54) ≤ cap then mapF x54 (fun x55 => (some true)) (fun x55 => (Option.bind (Option.bind (some a0) fun x56 => Option.bind (Option.bind (Option.bind (some x55) fun x58 => asIL x58) fun x57 => Option.bind (some ()) fun x59 => some (x57, x59)) fun x60 => some (x56, x60)) fun x61 => n_falls ((Prod.fst x61) : (List Int)) ((Prod.fst (Prod.snd x61)) : (List Int)))) else none) fun x62 => allB x62) fun x64 => some !x64) fun x65 => if x65 = true then (Option.bind (some false) fun x66 => some x66) else (Option.bind (Option.bind (Option.bind (some a3) fun x72 => asL x72) fun x73 => Option.bind (Option.bind (Option.bind (some a3) fun x67 => asL x67) fun x69 => Option.bind (Option.bind (some (1 : Int)) fun x68 => some (some x68)) fun x70 => Option.bind (some none) fun x71 => some (cutL x69 x70 x71)) fun x74 => some (List.zip x73 x74)) fun x75 => Option.bind (forF (ρ := (Bool)) x75 (() : Unit) fun s77 x76 => (Option.bind (Option.bind (Option.bind (some (Prod.snd x76)) fun x90 => asIL x90) fun x91 => Option.bind (Option.bind (Option.bind (Option.bind (Option.bind (some (Prod.fst x76)) fun x78 => lenA x78) fun x79 => Option.bind (some (1 : Int)) fun x80 => subI x79 x80) fun x81 => ri1 x81) fun x82 => if List.length (x82) ≤ cap then mapF x82 (fun x83 => (some true)) (fun x83 => (Option.bind (Option.bind (Option.bind (some (Prod.fst x76)) fun x85 => asIL x85) fun x84 => Option.bind (Option.bind (some x83) fun x86 => Option.bind (some ()) fun x87 => some (x86, x87)) fun x88 => some (x84, x88)) fun x89 => n_exchanged_at ((Prod.fst x89) : (List Int)) ((Prod.fst (Prod.snd x89)) : Int))) else none) fun x92 => ninL x91 x92) fun x93 => if x93 = true then (Option.bind (some false) fun x94 => some (.rt x94)) else some (.nx (() : Unit)))) fun o97 => Fl.el o97 (fun s77 => (Option.bind (some true) fun x95 => some x95)) fun r96 => some r96)))))
theorem V_is_way (a0 : (List Int)) (a1 : (List Int)) (a2 : (List Int)) (a3 : PyData) : Fun F_is_way (n_is_way a0 a1 a2 a3) [.fz (enc a0), .fz (enc a1), .fz (enc a2), .fz (enc a3)] (fun r : (Bool) => .fz (enc (r : Bool))) fun r => [.no, .no, .no, .no] :=
  fun_of (ΓR := fun r => [.aa, .aa, .aa, .aa, .aa, .aa, .aa, .aa]) (show Bl B_is_way _ _ _ from (bl_ga [.eq (.fz (enc (a0 : (List Int)))), .eq (.fz (enc (a1 : (List Int)))), .eq (.fz (enc (a2 : (List Int)))), .eq (.fz (enc (a3 : PyData))), .eq .no, .eq .no, .eq .no, .eq .no] (by kernel_rfl) (bl_expr ((pu_call (ap_cons ((pu_var 0 rfl)).tkP (ap_cons ((pu_var 1 rfl)).tkP (ap_cons ((pu_var 2 rfl)).tkP ap_nil))) (fun x7 => V_need_both_falling ((Prod.fst x7) : (List Int)) ((enc ((Prod.fst (Prod.snd x7)) : (List Int))) : PyData) ((enc ((Prod.fst (Prod.snd (Prod.snd x7))) : (List Int))) : PyData)))).ev fun x8 => (bl_ga [.eq (.fz (enc (a0 : (List Int)))), .eq (.fz (enc (a1 : (List Int)))), .eq (.fz (enc (a2 : (List Int)))), .eq (.fz (enc (a3 : PyData))), .eq .no, .eq .no, .eq .no, .eq .no] (by kernel_rfl) (bl_if (k := fun x25 => x25) ((ts_or (ts_not (ts_truB (((pu1A (Nv.op_isi (T := "list")) (((pu_var 3 rfl)).rd).ra)).rd).ra)) (ts_not (ts_truB (((pu1A Nv.op_all ((((pu_lc (vs := [6]) (ip_seqA ((pu_var 3 rfl)).tkP) rfl rfl (fun x13 x14 => tg_n) (fun x13 x14 => (ts_ga [.eq (.fz (enc (a0 : (List Int)))), .eq (.fz (enc (a1 : (List Int)))), .eq (.fz (enc (a2 : (List Int)))), .eq (.fz (enc (a3 : PyData))), .eq .no, .eq .no, .eq (.fz (enc (x14 : PyData))), .eq .no] (by kernel_rfl) ts_ok)) fun x13 x14 => (pu_ga [.eq (.fz (enc (a0 : (List Int)))), .eq (.fz (enc (a1 : (List Int)))), .eq (.fz (enc (a2 : (List Int)))), .eq (.fz (enc (a3 : PyData))), .eq .no, .eq .no, .eq (.fz (enc (x14 : PyData))), .eq .no] (by kernel_rfl) ((pu_call (ap_cons ((pu1A Nv.op_len (((pu_var 0 rfl)).rd).ra)).tkP (ap_cons ((pu_var 6 rfl)).tkP ap_nil)) (fun x20 => V_is_each_once ((Prod.fst x20) : Int) ((Prod.fst (Prod.snd x20)) : PyData)))).tkP))).rdT ow_tree)).ra)).rd).ra)))).te' (fun x25 => (bl_retS (bl_retV (pu_c).ev fun x26 => (rf_eq rfl (.cons .aa (.cons .aa (.cons .aa (.cons .aa (.cons .aa (.cons .aa (.cons .aa (.cons .aa .nil)))))))))))) fun x25 => (bl_next (bl_if (k := fun x51 => x51) ((ts_or (ts_tst (pu2A Nv.op_ne (((pu1A Nv.op_lenA (((pu_var 3 rfl)).rd).ra)).rd).ra (((pu2 Nv.op_add ((pu1A Nv.op_len ((((pu_call (ap_cons ((pu_var 1 rfl)).tkP (ap_cons ((pu_var 2 rfl)).tkP ap_nil)) (fun x32 => V_pairs_turned ((Prod.fst x32) : (List Int)) ((Prod.fst (Prod.snd x32)) : (List Int))))).rdT ow_tree)).ra)).rd (pu_c).rd)).rd).ra)) (ts_or (ts_tst (pu2A Nv.op_neA (((pu2 Nv.op_ixA ((pu_var 3 rfl)).rd (pu_c).rd)).rd).ra (((Pu.any (pu_var 1 rfl))).rd).ra)) (ts_tst (pu2A Nv.op_neA (((pu2 Nv.op_ixA ((pu_var 3 rfl)).rd ((pu1 Nv.op_neg (pu_c).rd)).rd)).rd).ra (((Pu.any (pu_var 2 rfl))).rd).ra))))).te' (fun x51 => (bl_retS (bl_retV (pu_c).ev fun x52 => (rf_eq rfl (.cons .aa (.cons .aa (.cons .aa (.cons .aa (.cons .aa (.cons .aa (.cons .aa (.cons .aa .nil)))))))))))) fun x51 => (bl_next (bl_if (k := fun x65 => x65) ((ts_not (ts_truB (((pu1A Nv.op_all ((((pu_lc (vs := [6]) (ip_seqA ((pu_var 3 rfl)).tkP) rfl rfl (fun x54 x55 => tg_n) (fun x54 x55 => (ts_ga [.eq (.fz (enc (a0 : (List Int)))), .eq (.fz (enc (a1 : (List Int)))), .eq (.fz (enc (a2 : (List Int)))), .eq (.fz (enc (a3 : PyData))), .eq .no, .eq .no, .eq (.fz (enc (x55 : PyData))), .eq .no] (by kernel_rfl) ts_ok)) fun x54 x55 => (pu_ga [.eq (.fz (enc (a0 : (List Int)))), .eq (.fz (enc (a1 : (List Int)))), .eq (.fz (enc (a2 : (List Int)))), .eq (.fz (enc (a3 : PyData))), .eq .no, .eq .no, .eq (.fz (enc (x55 : PyData))), .eq .no] (by kernel_rfl) ((pu_call (ap_cons ((pu_var 0 rfl)).tkP (ap_cons (Pu.asIL ((pu_var 6 rfl)).tkP) ap_nil)) (fun x61 => V_falls ((Prod.fst x61) : (List Int)) ((Prod.fst (Prod.snd x61)) : (List Int))))).tkP))).rdT ow_tree)).ra)).rd).ra))).te' (fun x65 => (bl_retS (bl_retV (pu_c).ev fun x66 => (rf_eq rfl (.cons .aa (.cons .aa (.cons .aa (.cons .aa (.cons .aa (.cons .aa (.cons .aa (.cons .aa .nil)))))))))))) fun x65 => (bl_next (bl_forF (Q := (RF (ρ := (Bool)) (fun r => .eq (.fz (enc (r : Bool)))) fun r => [.aa, .aa, .aa, .aa, .aa, .aa, .aa, .aa])) (vs := [4, 5]) (xs := fun x75 => x75) (s0 := fun x75 => (() : Unit)) (ΓL := fun x75 (s77 : Unit) => [.eq (.fz (enc (a0 : (List Int)))), .eq (.fz (enc (a1 : (List Int)))), .eq (.fz (enc (a2 : (List Int)))), .eq (.fz (enc (a3 : PyData))), .pl, .pl, .eq .no, .eq .no]) (kr := fun r96 => some r96) ((ip_zip (xs := fun v => v) (ys := fun v => v) (Pu.asL ((pu_var 3 rfl)).tkP) (((pu_sl ((Pu.asL (pu_var 3 rfl))).rd (.yes (pu_c).rd) .no)).tkTP ow_tree))).it (fun x75 => (.cons .rfl (.cons .rfl (.cons .rfl (.cons .rfl (.cons .no (.cons .no (.cons .rfl (.cons .rfl .nil))))))))) (fun x75 s77 x76 => (tg_t (tgs_cons tg_n (tgs_cons tg_n tgs_nil)))) (fun x75 s77 x76 => (bl_ga [.eq (.fz (enc (a0 : (List Int)))), .eq (.fz (enc (a1 : (List Int)))), .eq (.fz (enc (a2 : (List Int)))), .eq (.fz (enc (a3 : PyData))), .eq (.fz (enc ((Prod.fst x76) : PyData))), .eq (.fz (enc ((Prod.snd x76) : PyData))), .eq .no, .eq .no] (by kernel_rfl) (bl_last (bl_if (k := fun x93 => x93) ((ts_tst (pu2A Nv.op_nin (((Pu.asIL (pu_var 5 rfl))).rd).ra ((((pu_lc (vs := [7]) (ip_rng1 ((pu2 Nv.op_sub ((pu1A Nv.op_lenA (((pu_var 4 rfl)).rd).ra)).rd (pu_c).rd)).tkP) rfl rfl (fun x82 x83 => tg_n) (fun x82 x83 => (ts_ga [.eq (.fz (enc (a0 : (List Int)))), .eq (.fz (enc (a1 : (List Int)))), .eq (.fz (enc (a2 : (List Int)))), .eq (.fz (enc (a3 : PyData))), .eq (.fz (enc ((Prod.fst x76) : PyData))), .eq (.fz (enc ((Prod.snd x76) : PyData))), .eq .no, .eq (.fz (enc (x83 : Int)))] (by kernel_rfl) ts_ok)) fun x82 x83 => (pu_ga [.eq (.fz (enc (a0 : (List Int)))), .eq (.fz (enc (a1 : (List Int)))), .eq (.fz (enc (a2 : (List Int)))), .eq (.fz (enc (a3 : PyData))), .eq (.fz (enc ((Prod.fst x76) : PyData))), .eq (.fz (enc ((Prod.snd x76) : PyData))), .eq .no, .eq (.fz (enc (x83 : Int)))] (by kernel_rfl) (((pu_call (ap_cons (Pu.asIL ((pu_var 4 rfl)).tkP) (ap_cons ((pu_var 7 rfl)).tkP ap_nil)) (fun x89 => V_exchanged_at ((Prod.fst x89) : (List Int)) ((Prod.fst (Prod.snd x89)) : Int)))).tkTP ow_tree)))).rdT ow_tree)).ra))).te' (fun x93 => (bl_retS (bl_retV (pu_c).ev fun x94 => (rl_rt (rf_eq rfl (.cons .aa (.cons .aa (.cons .aa (.cons .aa (.cons .aa (.cons .aa (.cons .aa (.cons .aa .nil))))))))))))) fun x93 => (bl_next (bl_end (rl_nx (.cons .rfl (.cons .rfl (.cons .rfl (.cons .rfl (.cons .fz (.cons .fz (.cons .rfl (.cons .rfl .nil))))))))))))))) (fun v z u d hz h => by cases (Option.some.inj hz); exact h) fun x75 s77 => (bl_retV (pu_c).ev fun x95 => (rf_eq rfl (.cons .aa (.cons .aa (.cons .aa (.cons .aa (.cons .aa (.cons .aa (.cons .aa (.cons .aa .nil)))))))))))))))))))))
end P

/-! part Q__law_draw -/
namespace P
open PySem PySem.Spec PyProof.Rows L2 Hb Nv
open Enc (enc)
/-! _law_draw: 0 _law_tap_here, 1 _law_bound, 2 _law_found -/
def B__law_draw : List Sl → Ot :=
    oSeq (oIf (sTst (s2 gGe (s2 gIx2 (sVar 0) (sC (.int 0))) (s2 gPowW (sC (.int 10)) (sC (.int 18))))) (oSeq (oAsg (s2 gMod (s1 (gRd intD) (s2 gIx2 (sVar 0) (sC (.int 0)))) (sVar 1)) (tgN 2))
    (oSeq (oAsg (s2 gFdivW (s2 gIx2 (sVar 0) (sC (.int 0))) (sVar 1)) (tgS (sVar 0) (sC (.int 0))))
    (oRet (sVar 2)))) (oNext))
    (oSeq (oAsg (s2 gMod (s1 (gRd intD) (s2 gAdd (s2 gMulX (s2 gIx2 (sVar 0) (sC (.int 1))) (sC (.int 69069))) (sC (.int 40503)))) (sC (.int 4294967291))) (tgS (sVar 0) (sC (.int 1))))
    (oSeq (oAsg (s2 gMod (s1 (gRd intD) (s2 gAdd (s2 gMulX (s2 gIx2 (sVar 0) (sC (.int 2))) (s2 gIx2 (sVar 0) (sC (.int 2)))) (s2 gIx2 (sVar 0) (sC (.int 1))))) (sC (.int 2147483587))) (tgS (sVar 0) (sC (.int 2))))
    (oRet (s2 gMod (s1 (gRd intD) (s2 gAdd (s2 gFdivW (s2 gIx2 (sVar 0) (sC (.int 1))) (sC (.int 32))) (s2 gFdivW (s2 gIx2 (sVar 0) (sC (.int 2))) (sC (.int 16))))) (sVar 1)))))
def F__law_draw : List Sl → FR := fnRun 2 3 [0] B__law_draw
def n__law_draw (a0 : (List Int)) (a1 : Int) : Option (Int × (List Int)) :=
    (Option.bind (Option.bind (Option.bind (some a0) fun x1 => Option.bind (some (0 : Int)) fun x2 => atL x1 x2) fun x5 => Option.bind (Option.bind (some (10 : Int)) fun x3 => Option.bind (some (18 : Int)) fun x4 => powW x3 x4) fun x6 => geI x5 x6) fun x7 => if x7 = true then (Option.bind (Option.bind (Option.bind (Option.bind (some a0) fun x8 => Option.bind (some (0 : Int)) fun x9 => atL x8 x9) fun x10 => intI x10) fun x11 => Option.bind (some a1) fun x12 => modI x11 x12) fun x13 => (Option.bind (Option.bind (Option.bind (some a0) fun x14 => Option.bind (some (0 : Int)) fun x15 => atL x14 x15) fun x16 => Option.bind (some a1) fun x17 => fdivW x16 x17) fun x18 => Option.bind (some (0 : Int)) fun x19 => Option.bind (stI a0 x19 x18) fun x20 => (Option.bind (some x13) fun x21 => some (x21, x20)))) else (Option.bind (Option.bind (Option.bind (Option.bind (Option.bind (Option.bind (some a0) fun x22 => Option.bind (some (1 : Int)) fun x23 => atL x22 x23) fun x24 => Option.bind (some (69069 : Int)) fun x25 => mulI x24 x25) fun x26 => Option.bind (some (40503 : Int)) fun x27 => addI x26 x27) fun x28 => intI x28) fun x29 => Option.bind (some (4294967291 : Int)) fun x30 => modI x29 x30) fun x31 => Option.bind (some (1 : Int)) fun x32 => Option.bind (stI a0 x32 x31) fun x33 => (Option.bind (Option.bind (Option.bind (Option.bind (Option.bind (Option.bind (some x33) fun x34 => Option.bind (some (2 : Int)) fun x35 => atL x34 x35) fun x38 => Option.bind (Option.bind (some x33) fun x36 => Option.bind (some (2 : Int)) fun x37 => atL x36 x37) fun x39 => mulI x38 x39) fun x42 => Option.bind (Option.bind (some x33) fun x40 => Option.bind (some (1 : Int)) fun x41 => atL x40 x41) fun x43 => addI x42 x43) fun x44 => intI x44) fun x45 => Option.bind (some (2147483587 : Int)) fun x46 => modI x45 x46) fun x47 => Option.bind (some (2 : Int)) fun x48 => Option.bind (stI x33 x48 x47) fun x49 => (Option.bind (Option.bind (Option.bind (Option.bind (Option.bind (Option.bind (some x49) fun x50 => Option.bind (some (1 : Int)) fun x51 => atL x50 x51) fun x52 => Option.bind (some (32 : Int)) fun x53 => fdivW x52 x53) fun x58 => Option.bind (Option.bind (Option.bind (some x49) fun x54 => Option.bind (some (2 : Int)) fun x55 => atL x54 x55) fun x56 => Option.bind (some (16 : Int)) fun x57 => fdivW x56 x57) fun x59 => addI x58 x59) fun x60 => intI x60) fun x61 => Option.bind (some a1) fun x62 => modI x61 x62) fun x63 => some (x63, x49)))))
theorem V__law_draw (a0 : (List Int)) (a1 : Int) : Fun F__law_draw (n__law_draw a0 a1) [ow a0, .fz (enc a1)] (fun r : (Int × (List Int)) => .fz (enc ((Prod.fst r) : Int))) fun r => [ow (Prod.snd r), .no] :=
  fun_of (ΓR := fun r => [.eq (ow ((Prod.snd r) : (List Int))), .aa, .aa]) (show Bl B__law_draw _ _ _ from (bl_ga [.eq (ow (a0 : (List Int))), .eq (.fz (enc (a1 : Int))), .eq .no] (by kernel_rfl) (bl_if (k := fun x7 => x7) ((ts_tst (pu2 Nv.op_ge ((pu2 Nv.op_ix2 (rd_own 0 rfl) (pu_c).rd)).rd ((pu2 Nv.op_powW (pu_c).rd (pu_c).rd)).rd))).te' (fun x7 => (bl_assoc (bl_asgV ((pu2 Nv.op_mod ((pu1A Nv.op_int (((pu2 Nv.op_ix2 (rd_own 0 rfl) (pu_c).rd)).rd).ra)).rd ((pu_var 1 rfl)).rd)).ev fun x13 => (bl_ga [.eq (ow (a0 : (List Int))), .eq (.fz (enc (a1 : Int))), .eq (.fz (enc (x13 : Int)))] (by kernel_rfl) (bl_assoc (bl_set (k := 0) (va := fun x18 => x18) (xs := fun x18 => a0) ((pu2 Nv.op_fdivW ((pu2 Nv.op_ix2 (rd_own 0 rfl) (pu_c).rd)).rd ((pu_var 1 rfl)).rd)).ev (fun _ => rfl) (fun x18 => (pu_c).rd) fun x18 x20 => (bl_ga [.eq (ow (x20 : (List Int))), .eq (.fz (enc (a1 : Int))), .eq (.fz (enc (x13 : Int)))] (by kernel_rfl) (bl_retS (bl_retV ((pu_var 2 rfl)).ev fun x21 => (rf_eq rfl (.cons .rfl (.cons .aa (.cons .aa .nil))))))))))))) fun x7 => (bl_next (bl_set (k := 0) (va := fun x31 => x31) (xs := fun x31 => a0) ((pu2 Nv.op_mod ((pu1A Nv.op_int (((pu2 Nv.op_add ((pu2 Nv.op_mul ((pu2 Nv.op_ix2 (rd_own 0 rfl) (pu_c).rd)).rd (pu_c).rd)).rd (pu_c).rd)).rd).ra)).rd (pu_c).rd)).ev (fun _ => rfl) (fun x31 => (pu_c).rd) fun x31 x33 => (bl_ga [.eq (ow (x33 : (List Int))), .eq (.fz (enc (a1 : Int))), .eq .no] (by kernel_rfl) (bl_set (k := 0) (va := fun x47 => x47) (xs := fun x47 => x33) ((pu2 Nv.op_mod ((pu1A Nv.op_int (((pu2 Nv.op_add ((pu2 Nv.op_mul ((pu2 Nv.op_ix2 (rd_own 0 rfl) (pu_c).rd)).rd ((pu2 Nv.op_ix2 (rd_own 0 rfl) (pu_c).rd)).rd)).rd ((pu2 Nv.op_ix2 (rd_own 0 rfl) (pu_c).rd)).rd)).rd).ra)).rd (pu_c).rd)).ev (fun _ => rfl) (fun x47 => (pu_c).rd) fun x47 x49 => (bl_ga [.eq (ow (x49 : (List Int))), .eq (.fz (enc (a1 : Int))), .eq .no] (by kernel_rfl) (bl_retV ((pu2 Nv.op_mod ((pu1A Nv.op_int (((pu2 Nv.op_add ((pu2 Nv.op_fdivW ((pu2 Nv.op_ix2 (rd_own 0 rfl) (pu_c).rd)).rd (pu_c).rd)).rd ((pu2 Nv.op_fdivW ((pu2 Nv.op_ix2 (rd_own 0 rfl) (pu_c).rd)).rd (pu_c).rd)).rd)).rd).ra)).rd ((pu_var 1 rfl)).rd)).ev fun x63 => (rf_eq rfl (.cons .rfl (.cons .aa (.cons .aa .nil)))))))))))))
end P

/-! part Q__law_mixed -/
namespace P
open PySem PySem.Spec PyProof.Rows L2 Hb Nv
open Enc (enc)
/-! _law_mixed: 0 _law_tap_here, 1 _law_count, 2 _law_left, 3 _law_found -/
def B__law_mixed : List Sl → Ot :=
    oSeq (oPar [2, 3] (rCons (s1 gRg1 (sVar 1)) (rCons (sLst (lNil)) (rNil))))
    (oSeq (oWh (sTst (s2 (gEqE true) (sVar 2) (sLst (lNil)))) (oDrop (sApp (sVar 3) (sPop1 (sVar 2) (sCall F__law_draw [] (rIo 0 (rCons (sTk (s1 (gRd lenD) (sVar 2))) (rNil))))))) 1000)
    (oRet (sVar 3)))
def F__law_mixed : List Sl → FR := fnRun 2 4 [0] B__law_mixed
def n__law_mixed (a0 : (List Int)) (a1 : Int) : Option ((List Int) × (List Int)) :=
    (Option.bind (Option.bind (Option.bind (some a1) fun x1 => rg1 x1) fun x2 => Option.bind (Option.bind (some []) fun x3 => Option.bind (some ()) fun x4 => some (x3, x4)) fun x5 => some (x2, x5)) fun x6 => (Option.bind (whS 1000 ((a0, (Prod.fst x6), (Prod.fst (Prod.snd x6))) : ((List Int) × (List Int) × (List Int))) (fun s7 => (Option.bind (some (Prod.fst (Prod.snd s7))) fun x8 => some (true != List.isEmpty x8))) fun s7 => (Option.bind (Option.bind (Option.bind (Option.bind (Option.bind (Option.bind (some (Prod.fst (Prod.snd s7))) fun x9 => lenL x9) fun x10 => Option.bind (some ()) fun x11 => some (x10, x11)) fun x12 => Option.bind (n__law_draw ((Prod.fst s7) : (List Int)) ((Prod.fst x12) : Int)) fun x13 => some (x13, x12)) fun x14 => Option.bind (popL (Prod.fst (Prod.snd s7)) (Prod.fst (Prod.fst x14))) fun x15 => some (x15, x14)) fun x16 => Option.bind (apL (Prod.snd (Prod.snd s7)) (Prod.fst (Prod.fst x16))) fun x17 => some (x17, x16)) fun x18 => some (((Prod.snd (Prod.fst (Prod.snd (Prod.snd x18)))), (Prod.snd (Prod.fst (Prod.snd x18))), (Prod.fst x18)) : ((List Int) × (List Int) × (List Int))))) fun s7 => some ((Prod.snd (Prod.snd s7)), (Prod.fst s7))))
theorem V__law_mixed (a0 : (List Int)) (a1 : Int) : Fun F__law_mixed (n__law_mixed a0 a1) [ow a0, .fz (enc a1)] (fun r : ((List Int) × (List Int)) => ow ((Prod.fst r) : (List Int))) fun r => [ow (Prod.snd r), .no] :=
  fun_of (ΓR := fun r => [.eq (ow ((Prod.snd r) : (List Int))), .aa, .aa, .aa]) (show Bl B__law_mixed _ _ _ from (bl_ga [.eq (ow (a0 : (List Int))), .eq (.fz (enc (a1 : Int))), .eq .no, .eq .no] (by kernel_rfl) (bl_par (ag_cons ((pu1 Nv.op_rg1 ((pu_var 1 rfl)).rd)).ev fun x2 => (ag_cons (pu_nil).ev fun x3 => ag_nil)) fun x6 => (bl_ga [.eq (ow (a0 : (List Int))), .eq (.fz (enc (a1 : Int))), .eq (ow ((Prod.fst x6) : (List Int))), .eq (ow ((Prod.fst (Prod.snd x6)) : (List Int)))] (by kernel_rfl) (bl_wh (s0 := ((a0, (Prod.fst x6), (Prod.fst (Prod.snd x6))) : ((List Int) × (List Int) × (List Int)))) (ΓL := fun (s7 : ((List Int) × (List Int) × (List Int))) => [.eq (ow ((Prod.fst s7) : (List Int))), .eq (.fz (enc (a1 : Int))), .eq (ow ((Prod.fst (Prod.snd s7)) : (List Int))), .eq (ow ((Prod.snd (Prod.snd s7)) : (List Int)))]) (.cons .rfl (.cons .rfl (.cons .rfl (.cons .rfl .nil)))) (fun s7 => (ts_tst (pu_eqE ((rd_own 2 rfl)).ra))) (fun s7 => (bl_last (bl_expr (ev_app (k := 3) (va := fun x16 => (Prod.fst (Prod.fst x16))) (xs := fun x16 => (Prod.snd (Prod.snd s7))) rfl rfl ((ev_pop1 (k := 2) (va := fun x14 => (Prod.fst (Prod.fst x14))) (xs := fun x14 => (Prod.fst (Prod.snd s7))) rfl rfl ((ev_callG (ag_io (k := 0) rfl rfl (ag_cons (((pu1A Nv.op_len ((rd_own 2 rfl)).ra)).tkP).ev fun x10 => ag_nil)) (fun x12 => V__law_draw ((Prod.fst s7) : (List Int)) ((Prod.fst x12) : Int)))).tk fun _ => rfl)).tk fun _ => rfl) fun x18 => (bl_ga [.eq (ow ((Prod.snd (Prod.fst (Prod.snd (Prod.snd x18)))) : (List Int))), .eq (.fz (enc (a1 : Int))), .eq (ow ((Prod.snd (Prod.fst (Prod.snd x18))) : (List Int))), .eq (ow ((Prod.fst x18) : (List Int)))] (by kernel_rfl) (bl_end (rs_nx (.cons .rfl (.cons .rfl (.cons .rfl (.cons .rfl .nil)))))))))) fun s7 => (bl_retO (k := 3) rfl rfl (sat_ga [.eq (ow ((Prod.fst s7) : (List Int))), .eq (.fz (enc (a1 : Int))), .eq (ow ((Prod.fst (Prod.snd s7)) : (List Int))), .eq .no] (by kernel_rfl) (rf_eq rfl (.cons .rfl (.cons .aa (.cons .aa (.cons .aa .nil))))))))))))
end P

/-! part Q__law_fallen -/
namespace P
open PySem PySem.Spec PyProof.Rows L2 Hb Nv
open Enc (enc)
/-! _law_fallen: 0 _law_tap_here, 1 _law_path, 2 _law_low, 3 _law_high, 4 _law_found -/
def B__law_fallen : List Sl → Ot :=
    oSeq (oAsg (sCall F__law_draw [] (rIo 0 (rCons (sTk (s1 (gRd lenD) (sVar 1))) (rNil)))) (tgN 2))
    (oSeq (oPar [3, 4] (rCons (sTk (sVar 2)) (rCons (sLst (lCons (s2 gIx2 (sVar 1) (sVar 2)) (lNil))) (rNil))))
    (oSeq (oWh (sTst (s2 gLt (s1 (gRd lenD) (sVar 4)) (s1 (gRd lenD) (sVar 1)))) (oIf (sAnd (sTst (s2 gGt (sVar 2) (sC (.int 0)))) (sOr (sTst (s2 gEq (sVar 3) (s2 gSub (s1 (gRd lenD) (sVar 1)) (sC (.int 1))))) (sTst (s2 gEq (sCall F__law_draw [] (rIo 0 (rCons (sC (.int 2)) (rNil)))) (sC (.int 0)))))) (oSeq (oAsg (s2 gSub (sVar 2) (sC (.int 1))) (tgN 2))
    (oDrop (sApp (sVar 4) (s2 gIx2 (sVar 1) (sVar 2))))) (oSeq (oAsg (sTk (s2 gAdd (sVar 3) (sC (.int 1)))) (tgN 3))
    (oDrop (sApp (sVar 4) (s2 gIx2 (sVar 1) (sVar 3)))))) 1000)
    (oRet (sVar 4))))
def F__law_fallen : List Sl → FR := fnRun 2 5 [0] B__law_fallen
def n__law_fallen (a0 : (List Int)) (a1 : (List Int)) : Option ((List Int) × (List Int)) :=
    (Option.bind (Option.bind (Option.bind (Option.bind (some a1) fun x1 => lenL x1) fun x2 => Option.bind (some ()) fun x3 => some (x2, x3)) fun x4 => Option.bind (n__law_draw (a0 : (List Int)) ((Prod.fst x4) : Int)) fun x5 => some (x5, x4)) fun x6 => (Option.bind (Option.bind (some (Prod.fst (Prod.fst x6))) fun x7 => Option.bind (Option.bind (Option.bind (Option.bind (Option.bind (some a1) fun x8 => Option.bind (some (Prod.fst (Prod.fst x6))) fun x9 => atL x8 x9) fun x10 => Option.bind (some ()) fun x12 => some (x10, x12)) fun x11 => some ([(Prod.fst x11)] : (List Int))) fun x13 => Option.bind (some ()) fun x14 => some (x13, x14)) fun x15 => some (x7, x15)) fun x16 => (Option.bind (whS 1000 (((Prod.snd (Prod.fst x6)), (Prod.fst (Prod.fst x6)), (Prod.fst x16), (Prod.fst (Prod.snd x16))) : ((List Int) × Int × Int × (List Int))) (fun s17 => (Option.bind (Option.bind (some (Prod.snd (Prod.snd (Prod.snd s17)))) fun x18 => lenL x18) fun x20 => Option.bind (Option.bind (some a1) fun x19 => lenL x19) fun x21 => ltI x20 x21)) fun s17 => (Option.bind (Option.bind (Option.bind (some (Prod.fst (Prod.snd s17))) fun x22 => Option.bind (some (0 : Int)) fun x23 => gtI x22 x23) fun x48 => if x48 = true then (Option.bind (Option.bind (Option.bind (some (Prod.fst (Prod.snd (Prod.snd s17)))) fun x52 => Option.bind (Option.bind (Option.bind (some a1) fun x49 => lenL x49) fun x50 => Option.bind (some (1 : Int)) fun x51 => subI x50 x51) fun x53 => eqN x52 x53) fun x62 => if x62 = true then some (true, (Prod.fst s17)) else (Option.bind (Option.bind (Option.bind (Option.bind (some (2 : Int)) fun x63 => Option.bind (some ()) fun x64 => some (x63, x64)) fun x65 => Option.bind (n__law_draw ((Prod.fst s17) : (List Int)) ((Prod.fst x65) : Int)) fun x66 => some (x66, x65)) fun x67 => Option.bind (some (0 : Int)) fun x68 => Option.bind (eqN (Prod.fst (Prod.fst x67)) x68) fun x69 => some (x69, x67, x68)) fun x71 => some ((Prod.fst x71), (Prod.snd (Prod.fst (Prod.fst (Prod.snd x71))))))) fun x73 => some ((Prod.fst x73), (Prod.snd x73))) else some (false, (Prod.fst s17))) fun x75 => if (Prod.fst x75) = true then (Option.bind (Option.bind (some (Prod.fst (Prod.snd s17))) fun x76 => Option.bind (some (1 : Int)) fun x77 => subI x76 x77) fun x78 => (Option.bind (Option.bind (Option.bind (some a1) fun x79 => Option.bind (some x78) fun x80 => atL x79 x80) fun x81 => Option.bind (apL (Prod.snd (Prod.snd (Prod.snd s17))) x81) fun x82 => some (x82, x81)) fun x83 => some (((Prod.snd x75), x78, (Prod.fst (Prod.snd (Prod.snd s17))), (Prod.fst x83)) : ((List Int) × Int × Int × (List Int))))) else (Option.bind (Option.bind (some (Prod.fst (Prod.snd (Prod.snd s17)))) fun x84 => Option.bind (some (1 : Int)) fun x85 => addI x84 x85) fun x86 => (Option.bind (Option.bind (Option.bind (some a1) fun x87 => Option.bind (some x86) fun x88 => atL x87 x88) fun x89 => Option.bind (apL (Prod.snd (Prod.snd (Prod.snd s17))) x89) fun x90 => some (x90, x89)) fun x91 => some (((Prod.snd x75), (Prod.fst (Prod.snd s17)), x86, (Prod.fst x91)) : ((List Int) × Int × Int × (List Int))))))) fun s17 => some ((Prod.snd (Prod.snd (Prod.snd s17))), (Prod.fst s17)))))
theorem V__law_fallen (a0 : (List Int)) (a1 : (List Int)) : Fun F__law_fallen (n__law_fallen a0 a1) [ow a0, .fz (enc a1)] (fun r : ((List Int) × (List Int)) => ow ((Prod.fst r) : (List Int))) fun r => [ow (Prod.snd r), .no] :=
  fun_of (ΓR := fun r => [.eq (ow ((Prod.snd r) : (List Int))), .aa, .aa, .aa, .aa]) (show Bl B__law_fallen _ _ _ from (bl_ga [.eq (ow (a0 : (List Int))), .eq (.fz (enc (a1 : (List Int)))), .eq .no, .eq .no, .eq .no] (by kernel_rfl) (bl_asgV (ev_callG (ag_io (k := 0) rfl rfl (ag_cons (((pu1A Nv.op_len (((pu_var 1 rfl)).rd).ra)).tkP).ev fun x2 => ag_nil)) (fun x4 => V__law_draw (a0 : (List Int)) ((Prod.fst x4) : Int))) fun x6 => (bl_ga [.eq (ow ((Prod.snd (Prod.fst x6)) : (List Int))), .eq (.fz (enc (a1 : (List Int)))), .eq (.fz (enc ((Prod.fst (Prod.fst x6)) : Int))), .eq .no, .eq .no] (by kernel_rfl) (bl_par (ag_cons (((pu_var 2 rfl)).tkP).ev fun x7 => (ag_cons ((pu_lst (dp_cons ((pu2 Nv.op_ix2 ((pu_var 1 rfl)).rd ((pu_var 2 rfl)).rd)).tkP dp_nil) (fun x11 => ([(Prod.fst x11)] : (List Int))))).ev fun x13 => ag_nil)) fun x16 => (bl_ga [.eq (ow ((Prod.snd (Prod.fst x6)) : (List Int))), .eq (.fz (enc (a1 : (List Int)))), .eq (.fz (enc ((Prod.fst (Prod.fst x6)) : Int))), .eq (.fz (enc ((Prod.fst x16) : Int))), .eq (ow ((Prod.fst (Prod.snd x16)) : (List Int)))] (by kernel_rfl) (bl_wh (s0 := (((Prod.snd (Prod.fst x6)), (Prod.fst (Prod.fst x6)), (Prod.fst x16), (Prod.fst (Prod.snd x16))) : ((List Int) × Int × Int × (List Int)))) (ΓL := fun (s17 : ((List Int) × Int × Int × (List Int))) => [.eq (ow ((Prod.fst s17) : (List Int))), .eq (.fz (enc (a1 : (List Int)))), .eq (.fz (enc ((Prod.fst (Prod.snd s17)) : Int))), .eq (.fz (enc ((Prod.fst (Prod.snd (Prod.snd s17))) : Int))), .eq (ow ((Prod.snd (Prod.snd (Prod.snd s17))) : (List Int)))]) (.cons .rfl (.cons .rfl (.cons .rfl (.cons .rfl (.cons .rfl .nil))))) (fun s17 => (ts_tst (pu2 Nv.op_lt ((pu1A Nv.op_len ((rd_own 4 rfl)).ra)).rd ((pu1A Nv.op_len (((pu_var 1 rfl)).rd).ra)).rd))) (fun s17 => (bl_last (bl_if (k := fun x75 => (Prod.fst x75)) (te_and (k := fun x48 => x48) (k2 := Prod.fst) (Γ2 := fun x74 => [.eq (ow ((Prod.snd x74) : (List Int))), .eq (.fz (enc (a1 : (List Int)))), .eq (.fz (enc ((Prod.fst (Prod.snd s17)) : Int))), .eq (.fz (enc ((Prod.fst (Prod.snd (Prod.snd s17))) : Int))), .eq (ow ((Prod.snd (Prod.snd (Prod.snd s17))) : (List Int)))]) (z := fun x48 => (false, (Prod.fst s17))) ((ts_tst (pu2 Nv.op_gt ((pu_var 2 rfl)).rd (pu_c).rd))).te' (fun x48 => (te_map (fun x73 => ((Prod.fst x73), (Prod.snd x73))) (te_or (k := fun x62 => x62) (k2 := Prod.fst) (Γ2 := fun x72 => [.eq (ow ((Prod.snd x72) : (List Int))), .eq (.fz (enc (a1 : (List Int)))), .eq (.fz (enc ((Prod.fst (Prod.snd s17)) : Int))), .eq (.fz (enc ((Prod.fst (Prod.snd (Prod.snd s17))) : Int))), .eq (ow ((Prod.snd (Prod.snd (Prod.snd s17))) : (List Int)))]) (z := fun x62 => (true, (Prod.fst s17))) ((ts_tst (pu2A Nv.op_eq (((pu_var 3 rfl)).rd).ra (((pu2 Nv.op_sub ((pu1A Nv.op_len (((pu_var 1 rfl)).rd).ra)).rd (pu_c).rd)).rd).ra))).te' (fun x62 => (te_map (fun x71 => ((Prod.fst x71), (Prod.snd (Prod.fst (Prod.fst (Prod.snd x71)))))) (te_tst (k := fun x70 => (Prod.fst x70)) (ev2g (Op2A.to Nv.op_eq) (va := fun x67 => (Prod.fst (Prod.fst x67))) (vb := fun x67 x68 => x68) ((ev_callG (ag_io (k := 0) rfl rfl (ag_cons (pu_c).ev fun x63 => ag_nil)) (fun x65 => V__law_draw ((Prod.fst s17) : (List Int)) ((Prod.fst x65) : Int)))).er fun x67 => (es_ga [.eq (ow ((Prod.snd (Prod.fst x67)) : (List Int))), .eq (.fz (enc (a1 : (List Int)))), .eq (.fz (enc ((Prod.fst (Prod.snd s17)) : Int))), .eq (.fz (enc ((Prod.fst (Prod.snd (Prod.snd s17))) : Int))), .eq (ow ((Prod.snd (Prod.snd (Prod.snd s17))) : (List Int)))] (by kernel_rfl) ((pu_c).rd).es))) (h2 := fun _ => by kernel_rfl))) fun _ => ⟨rfl, by kernel_rfl⟩) (h2 := fun _ => by kernel_rfl))) fun _ => ⟨rfl, by kernel_rfl⟩) (fun x75 => (bl_ga [.eq (ow ((Prod.snd x75) : (List Int))), .eq (.fz (enc (a1 : (List Int)))), .eq (.fz (enc ((Prod.fst (Prod.snd s17)) : Int))), .eq (.fz (enc ((Prod.fst (Prod.snd (Prod.snd s17))) : Int))), .eq (ow ((Prod.snd (Prod.snd (Prod.snd s17))) : (List Int)))] (by kernel_rfl) (bl_assoc (bl_asgV ((pu2 Nv.op_sub ((pu_var 2 rfl)).rd (pu_c).rd)).ev fun x78 => (bl_ga [.eq (ow ((Prod.snd x75) : (List Int))), .eq (.fz (enc (a1 : (List Int)))), .eq (.fz (enc (x78 : Int))), .eq (.fz (enc ((Prod.fst (Prod.snd (Prod.snd s17))) : Int))), .eq (ow ((Prod.snd (Prod.snd (Prod.snd s17))) : (List Int)))] (by kernel_rfl) (bl_expr (ev_app (k := 4) (va := fun x81 => x81) (xs := fun x81 => (Prod.snd (Prod.snd (Prod.snd s17)))) rfl rfl (((pu2 Nv.op_ix2 ((pu_var 1 rfl)).rd ((pu_var 2 rfl)).rd)).tkP).ev fun _ => rfl) fun x83 => (bl_ga [.eq (ow ((Prod.snd x75) : (List Int))), .eq (.fz (enc (a1 : (List Int)))), .eq (.fz (enc (x78 : Int))), .eq (.fz (enc ((Prod.fst (Prod.snd (Prod.snd s17))) : Int))), .eq (ow ((Prod.fst x83) : (List Int)))] (by kernel_rfl) (bl_end (rs_nx (.cons .rfl (.cons .rfl (.cons .rfl (.cons .rfl (.cons .rfl .nil)))))))))))))) fun x75 => (bl_ga [.eq (ow ((Prod.snd x75) : (List Int))), .eq (.fz (enc (a1 : (List Int)))), .eq (.fz (enc ((Prod.fst (Prod.snd s17)) : Int))), .eq (.fz (enc ((Prod.fst (Prod.snd (Prod.snd s17))) : Int))), .eq (ow ((Prod.snd (Prod.snd (Prod.snd s17))) : (List Int)))] (by kernel_rfl) (bl_assoc (bl_asgV (((pu2 Nv.op_add ((pu_var 3 rfl)).rd (pu_c).rd)).tkP).ev fun x86 => (bl_ga [.eq (ow ((Prod.snd x75) : (List Int))), .eq (.fz (enc (a1 : (List Int)))), .eq (.fz (enc ((Prod.fst (Prod.snd s17)) : Int))), .eq (.fz (enc (x86 : Int))), .eq (ow ((Prod.snd (Prod.snd (Prod.snd s17))) : (List Int)))] (by kernel_rfl) (bl_expr (ev_app (k := 4) (va := fun x89 => x89) (xs := fun x89 => (Prod.snd (Prod.snd (Prod.snd s17)))) rfl rfl (((pu2 Nv.op_ix2 ((pu_var 1 rfl)).rd ((pu_var 3 rfl)).rd)).tkP).ev fun _ => rfl) fun x91 => (bl_ga [.eq (ow ((Prod.snd x75) : (List Int))), .eq (.fz (enc (a1 : (List Int)))), .eq (.fz (enc ((Prod.fst (Prod.snd s17)) : Int))), .eq (.fz (enc (x86 : Int))), .eq (ow ((Prod.fst x91) : (List Int)))] (by kernel_rfl) (bl_end (rs_nx (.cons .rfl (.cons .rfl (.cons .rfl (.cons .rfl (.cons .rfl .nil)))))))))))))))) fun s17 => (bl_retO (k := 4) rfl rfl (sat_ga [.eq (ow ((Prod.fst s17) : (List Int))), .eq (.fz (enc (a1 : (List Int)))), .eq (.fz (enc ((Prod.fst (Prod.snd s17)) : Int))), .eq (.fz (enc ((Prod.fst (Prod.snd (Prod.snd s17))) : Int))), .eq .no] (by kernel_rfl) (rf_eq rfl (.cons .rfl (.cons .aa (.cons .aa (.cons .aa (.cons .aa .nil)))))))))))))))
end P

/-! part Q__law_falls -/
namespace P
open PySem PySem.Spec PyProof.Rows L2 Hb Nv
open Enc (enc)
/-! _law_falls: 0 _law_path, 1 _law_row, 2 _law_spots, 3 _law_place, 4 _law_low, 5 _law_high, 6 _law_k -/
def B__law_falls : List Sl → Ot :=
    oSeq (oAsg (sTk (s1 gDictP (sLc false (wRng1 (s1 (gRd lenD) (sVar 0))) [6] (tgN 6) (tOk) (sTk (sTup (lCons (s2 gIx2 (sVar 0) (sVar 6)) (lCons (sVar 6) (lNil)))))))) (tgN 2))
    (oSeq (oPar [4, 5] (rCons (sTk (s2 gIx2 (sVar 2) (s2 gIx2 (sVar 1) (sC (.int 0))))) (rCons (sTk (s2 gIx2 (sVar 2) (s2 gIx2 (sVar 1) (sC (.int 0))))) (rNil))))
    (oSeq (oFor (wSeq (sSl (sVar 1) (some (sC (.int 1))) none)) (tgN 3) (oIf (sTst (s2 gEq (s2 gIx2 (sVar 2) (sVar 3)) (s2 gSub (sVar 4) (sC (.int 1))))) (oAsg (sTk (s2 gSub (sVar 4) (sC (.int 1)))) (tgN 4)) (oIf (sTst (s2 gEq (s2 gIx2 (sVar 2) (sVar 3)) (s2 gAdd (sVar 5) (sC (.int 1))))) (oAsg (sTk (s2 gAdd (sVar 5) (sC (.int 1)))) (tgN 5)) (oRet (sC (.bool false))))))
    (oRet (sC (.bool true)))))
def F__law_falls : List Sl → FR := fnRun 2 7 [] B__law_falls
def n__law_falls (a0 : (List Int)) (a1 : (List Int)) : Option (Bool) :=
    (Option.bind (Option.bind (Option.bind (Option.bind (Option.bind (some a0) fun x1 => lenL x1) fun x2 => ri1 x2) fun x3 => if List.length (x3) ≤ cap then mapF x3 (fun x4 => (some true)) (fun x4 => (Option.bind (Option.bind (Option.bind (some a0) fun x5 => Option.bind (some x4) fun x6 => atL x5 x6) fun x7 => Option.bind (Option.bind (some x4) fun x8 => Option.bind (some ()) fun x10 => some (x8, x10)) fun x11 => some (x7, x11)) fun x9 => some (((Prod.fst x9), (Prod.fst (Prod.snd x9))) : (Int × Int)))) else none) fun x12 => dicL x12) fun x13 => (Option.bind (Option.bind (Option.bind (some x13) fun x16 => Option.bind (Option.bind (some a1) fun x14 => Option.bind (some (0 : Int)) fun x15 => atL x14 x15) fun x17 => lookC x16 x17) fun x18 => Option.bind (Option.bind (Option.bind (some x13) fun x21 => Option.bind (Option.bind (some a1) fun x19 => Option.bind (some (0 : Int)) fun x20 => atL x19 x20) fun x22 => lookC x21 x22) fun x23 => Option.bind (some ()) fun x24 => some (x23, x24)) fun x25 => some (x18, x25)) fun x26 => (Option.bind (Option.bind (some a1) fun x28 => Option.bind (Option.bind (some (1 : Int)) fun x27 => some (some x27)) fun x29 => Option.bind (some none) fun x30 => some (cutL x28 x29 x30)) fun x31 => Option.bind (forF (ρ := (Bool)) x31 (((Prod.fst x26), (Prod.fst (Prod.snd x26))) : (Int × Int)) fun s33 x32 => (Option.bind (Option.bind (Option.bind (some x13) fun x34 => Option.bind (some x32) fun x35 => lookC x34 x35) fun x38 => Option.bind (Option.bind (some (Prod.fst s33)) fun x36 => Option.bind (some (1 : Int)) fun x37 => subI x36 x37) fun x39 => eqN x38 x39) fun x40 => if x40 = true then (Option.bind (Option.bind (some (Prod.fst s33)) fun x41 => Option.bind (some (1 : Int)) fun x42 => subI x41 x42) fun x43 => some (.nx ((x43, (Prod.snd s33)) : (Int × Int)))) else (Option.bind (Option.bind (Option.bind (some x13) fun x44 => Option.bind (some x32) fun x45 => lookC x44 x45) fun x48 => Option.bind (Option.bind (some (Prod.snd s33)) fun x46 => Option.bind (some (1 : Int)) fun x47 => addI x46 x47) fun x49 => eqN x48 x49) fun x50 => if x50 = true then (Option.bind (Option.bind (some (Prod.snd s33)) fun x51 => Option.bind (some (1 : Int)) fun x52 => addI x51 x52) fun x53 => some (.nx (((Prod.fst s33), x53) : (Int × Int)))) else (Option.bind (some false) fun x54 => some (.rt x54))))) fun o57 => Fl.el o57 (fun s33 => (Option.bind (some true) fun x55 => some x55)) fun r56 => some r56)))
theorem V__law_falls (a0 : (List Int)) (a1 : (List Int)) : Fun F__law_falls (n__law_falls a0 a1) [.fz (enc a0), .fz (enc a1)] (fun r : (Bool) => .fz (enc (r : Bool))) fun r => [.no, .no] :=
  fun_of (ΓR := fun r => [.aa, .aa, .aa, .aa, .aa, .aa, .aa]) (show Bl B__law_falls _ _ _ from (bl_ga [.eq (.fz (enc (a0 : (List Int)))), .eq (.fz (enc (a1 : (List Int)))), .eq .no, .eq .no, .eq .no, .eq .no, .eq .no] (by kernel_rfl) (bl_asgV ((((pu1 Nv.op_dicL (((pu_lc (vs := [6]) (ip_rng1 ((pu1A Nv.op_len (((pu_var 0 rfl)).rd).ra)).tkP) rfl rfl (fun x3 x4 => tg_n) (fun x3 x4 => (ts_ga [.eq (.fz (enc (a0 : (List Int)))), .eq (.fz (enc (a1 : (List Int)))), .eq .no, .eq .no, .eq .no, .eq .no, .eq (.fz (enc (x4 : Int)))] (by kernel_rfl) ts_ok)) fun x3 x4 => (pu_ga [.eq (.fz (enc (a0 : (List Int)))), .eq (.fz (enc (a1 : (List Int)))), .eq .no, .eq .no, .eq .no, .eq .no, .eq (.fz (enc (x4 : Int)))] (by kernel_rfl) ((pu_tup (dp_cons ((pu2 Nv.op_ix2 ((pu_var 0 rfl)).rd ((pu_var 6 rfl)).rd)).tkP (dp_cons ((pu_var 6 rfl)).tkP dp_nil)) (fun x9 => (((Prod.fst x9), (Prod.fst (Prod.snd x9))) : (Int × Int))))).tkP))).rdT ow_tree))).tkTP fun _ => rfl)).ev fun x13 => (bl_ga [.eq (.fz (enc (a0 : (List Int)))), .eq (.fz (enc (a1 : (List Int)))), .eq (.fz (enc (x13 : (Dc Int Int)))), .eq .no, .eq .no, .eq .no, .eq .no] (by kernel_rfl) (bl_par (ag_cons (((pu2M op_dix (((pu_var 2 rfl)).rd).ra ((pu2 Nv.op_ix2 ((pu_var 1 rfl)).rd (pu_c).rd)).rd)).tkP).ev fun x18 => (ag_cons (((pu2M op_dix (((pu_var 2 rfl)).rd).ra ((pu2 Nv.op_ix2 ((pu_var 1 rfl)).rd (pu_c).rd)).rd)).tkP).ev fun x23 => ag_nil)) fun x26 => (bl_ga [.eq (.fz (enc (a0 : (List Int)))), .eq (.fz (enc (a1 : (List Int)))), .eq (.fz (enc (x13 : (Dc Int Int)))), .eq .no, .eq (.fz (enc ((Prod.fst x26) : Int))), .eq (.fz (enc ((Prod.fst (Prod.snd x26)) : Int))), .eq .no] (by kernel_rfl) (bl_forF (Q := (RF (ρ := (Bool)) (fun r => .eq (.fz (enc (r : Bool)))) fun r => [.aa, .aa, .aa, .aa, .aa, .aa, .aa])) (vs := [3]) (xs := fun x31 => x31) (s0 := fun x31 => (((Prod.fst x26), (Prod.fst (Prod.snd x26))) : (Int × Int))) (ΓL := fun x31 (s33 : (Int × Int)) => [.eq (.fz (enc (a0 : (List Int)))), .eq (.fz (enc (a1 : (List Int)))), .eq (.fz (enc (x13 : (Dc Int Int)))), .pl, .eq (.fz (enc ((Prod.fst s33) : Int))), .eq (.fz (enc ((Prod.snd s33) : Int))), .eq .no]) (kr := fun r56 => some r56) ((ip_seq (xs := fun v => v) (((pu_sl ((pu_var 1 rfl)).rd (.yes (pu_c).rd) .no)).tkTP ow_tree))).it (fun x31 => (.cons .rfl (.cons .rfl (.cons .rfl (.cons .no (.cons .rfl (.cons .rfl (.cons .rfl .nil)))))))) (fun x31 s33 x32 => tg_n) (fun x31 s33 x32 => (bl_ga [.eq (.fz (enc (a0 : (List Int)))), .eq (.fz (enc (a1 : (List Int)))), .eq (.fz (enc (x13 : (Dc Int Int)))), .eq (.fz (enc (x32 : Int))), .eq (.fz (enc ((Prod.fst s33) : Int))), .eq (.fz (enc ((Prod.snd s33) : Int))), .eq .no] (by kernel_rfl) (bl_last (bl_if (k := fun x40 => x40) ((ts_tst (pu2A Nv.op_eq (((pu2M op_dix (((pu_var 2 rfl)).rd).ra ((pu_var 3 rfl)).rd)).rd).ra (((pu2 Nv.op_sub ((pu_var 4 rfl)).rd (pu_c).rd)).rd).ra))).te' (fun x40 => (bl_asgV (((pu2 Nv.op_sub ((pu_var 4 rfl)).rd (pu_c).rd)).tkP).ev fun x43 => (bl_ga [.eq (.fz (enc (a0 : (List Int)))), .eq (.fz (enc (a1 : (List Int)))), .eq (.fz (enc (x13 : (Dc Int Int)))), .eq (.fz (enc (x32 : Int))), .eq (.fz (enc (x43 : Int))), .eq (.fz (enc ((Prod.snd s33) : Int))), .eq .no] (by kernel_rfl) (bl_end (rl_nx (.cons .rfl (.cons .rfl (.cons .rfl (.cons .fz (.cons .rfl (.cons .rfl (.cons .rfl .nil)))))))))))) fun x40 => (bl_if (k := fun x50 => x50) ((ts_tst (pu2A Nv.op_eq (((pu2M op_dix (((pu_var 2 rfl)).rd).ra ((pu_var 3 rfl)).rd)).rd).ra (((pu2 Nv.op_add ((pu_var 5 rfl)).rd (pu_c).rd)).rd).ra))).te' (fun x50 => (bl_asgV (((pu2 Nv.op_add ((pu_var 5 rfl)).rd (pu_c).rd)).tkP).ev fun x53 => (bl_ga [.eq (.fz (enc (a0 : (List Int)))), .eq (.fz (enc (a1 : (List Int)))), .eq (.fz (enc (x13 : (Dc Int Int)))), .eq (.fz (enc (x32 : Int))), .eq (.fz (enc ((Prod.fst s33) : Int))), .eq (.fz (enc (x53 : Int))), .eq .no] (by kernel_rfl) (bl_end (rl_nx (.cons .rfl (.cons .rfl (.cons .rfl (.cons .fz (.cons .rfl (.cons .rfl (.cons .rfl .nil)))))))))))) fun x50 => (bl_retS (bl_retV (pu_c).ev fun x54 => (rl_rt (rf_eq rfl (.cons .aa (.cons .aa (.cons .aa (.cons .aa (.cons .aa (.cons .aa (.cons .aa .nil)))))))))))))))) (fun v z u d hz h => by cases (Option.some.inj hz); exact h) fun x31 s33 => (bl_retV (pu_c).ev fun x55 => (rf_eq rfl (.cons .aa (.cons .aa (.cons .aa (.cons .aa (.cons .aa (.cons .aa (.cons .aa .nil))))))))))))))))
end P

/-! part Q__law_steps -/
namespace P
open PySem PySem.Spec PyProof.Rows L2 Hb Nv
open Enc (enc)
/-! _law_steps: 0 _law_path, 1 _law_row, 2 _law_second, 3 _law_is_tight, 4 _law_found, 5 _law_k, 6 _law_one -/
def B__law_steps : List Sl → Ot :=
    oSeq (oAsg (sLst (lNil)) (tgN 4))
    (oSeq (oFor (wRng1 (s2 gSub (s1 (gRd lenD) (sVar 1)) (sC (.int 1)))) (tgN 5) (oIf (sTst (s2 gGt (sIdx (sVar 2) (s2 gIx2 (sVar 1) (sVar 5))) (sIdx (sVar 2) (s2 gIx2 (sVar 1) (s2 gAdd (sVar 5) (sC (.int 1))))))) (oSeq (oAsg (sTk (s2 gAdd (s2 gAdd (sSl (sVar 1) none (some (sVar 5))) (sLst (lCons (s2 gIx2 (sVar 1) (s2 gAdd (sVar 5) (sC (.int 1)))) (lCons (s2 gIx2 (sVar 1) (sVar 5)) (lNil))))) (sSl (sVar 1) (some (s2 gAdd (sVar 5) (sC (.int 2)))) none))) (tgN 6))
    (oIf (sOr (sNot (sTru (sVar 3))) (sTru (sCall F__law_falls [] (rCons (sTk (sVar 0)) (rCons (sTk (sVar 6)) (rNil)))))) (oDrop (sApp (sVar 4) (sVar 6))) (oNext))) (oNext)))
    (oRet (sVar 4)))
def F__law_steps : List Sl → FR := fnRun 4 7 [] B__law_steps
def n__law_steps (a0 : (List Int)) (a1 : (List Int)) (a2 : (List Int)) (a3 : Bool) : Option ((List (List Int))) :=
    (Option.bind (some []) fun x1 => (Option.bind (Option.bind (Option.bind (Option.bind (some a1) fun x2 => lenL x2) fun x3 => Option.bind (some (1 : Int)) fun x4 => subI x3 x4) fun x5 => ri1 x5) fun x6 => Option.bind (forS x6 (x1 : (List (List Int))) fun s8 x7 => (Option.bind (Option.bind (Option.bind (some a2) fun x11 => Option.bind (Option.bind (some a1) fun x9 => Option.bind (some x7) fun x10 => atL x9 x10) fun x12 => idxL x11 x12) fun x19 => Option.bind (Option.bind (some a2) fun x17 => Option.bind (Option.bind (some a1) fun x15 => Option.bind (Option.bind (some x7) fun x13 => Option.bind (some (1 : Int)) fun x14 => addI x13 x14) fun x16 => atL x15 x16) fun x18 => idxL x17 x18) fun x20 => gtI x19 x20) fun x21 => if x21 = true then (Option.bind (Option.bind (Option.bind (Option.bind (some a1) fun x23 => Option.bind (some none) fun x24 => Option.bind (Option.bind (some x7) fun x22 => some (some x22)) fun x25 => some (cutL x23 x24 x25)) fun x37 => Option.bind (Option.bind (Option.bind (Option.bind (some a1) fun x28 => Option.bind (Option.bind (some x7) fun x26 => Option.bind (some (1 : Int)) fun x27 => addI x26 x27) fun x29 => atL x28 x29) fun x30 => Option.bind (Option.bind (Option.bind (some a1) fun x31 => Option.bind (some x7) fun x32 => atL x31 x32) fun x33 => Option.bind (some ()) fun x35 => some (x33, x35)) fun x36 => some (x30, x36)) fun x34 => some ([(Prod.fst x34), (Prod.fst (Prod.snd x34))] : (List Int))) fun x38 => catL x37 x38) fun x45 => Option.bind (Option.bind (some a1) fun x42 => Option.bind (Option.bind (Option.bind (some x7) fun x39 => Option.bind (some (2 : Int)) fun x40 => addI x39 x40) fun x41 => some (some x41)) fun x43 => Option.bind (some none) fun x44 => some (cutL x42 x43 x44)) fun x46 => catL x45 x46) fun x47 => (Option.bind (Option.bind (Option.bind (some a3) fun x49 => some !x49) fun x56 => if x56 = true then some true else (Option.bind (Option.bind (some a0) fun x50 => Option.bind (Option.bind (some x47) fun x51 => Option.bind (some ()) fun x52 => some (x51, x52)) fun x53 => some (x50, x53)) fun x54 => n__law_falls ((Prod.fst x54) : (List Int)) ((Prod.fst (Prod.snd x54)) : (List Int)))) fun x57 => if x57 = true then (Option.bind (Option.bind (some x47) fun x58 => Option.bind (apL s8 x58) fun x59 => some (x59, x58)) fun x60 => some ((Prod.fst x60) : (List (List Int)))) else some (s8 : (List (List Int))))) else some (s8 : (List (List Int))))) fun s8 => some s8))
theorem V__law_steps (a0 : (List Int)) (a1 : (List Int)) (a2 : (List Int)) (a3 : Bool) : Fun F__law_steps (n__law_steps a0 a1 a2 a3) [.fz (enc a0), .fz (enc a1), .fz (enc a2), .fz (enc a3)] (fun r : ((List (List Int))) => ow (r : (List (List Int)))) fun r => [.no, .no, .no, .no] :=
  fun_of (ΓR := fun r => [.aa, .aa, .aa, .aa, .aa, .aa, .aa]) (show Bl B__law_steps _ _ _ from (bl_ga [.eq (.fz (enc (a0 : (List Int)))), .eq (.fz (enc (a1 : (List Int)))), .eq (.fz (enc (a2 : (List Int)))), .eq (.fz (enc (a3 : Bool))), .eq .no, .eq .no, .eq .no] (by kernel_rfl) (bl_asgT (pu_nil).ev fun x1 => (bl_ga [.eq (.fz (enc (a0 : (List Int)))), .eq (.fz (enc (a1 : (List Int)))), .eq (.fz (enc (a2 : (List Int)))), .eq (.fz (enc (a3 : Bool))), .eq (ow (x1 : (List (List Int)))), .eq .no, .eq .no] (by kernel_rfl) (bl_for (vs := [5]) (xs := fun x6 => x6) (s0 := fun x6 => (x1 : (List (List Int)))) (ΓL := fun x6 (s8 : (List (List Int))) => [.eq (.fz (enc (a0 : (List Int)))), .eq (.fz (enc (a1 : (List Int)))), .eq (.fz (enc (a2 : (List Int)))), .eq (.fz (enc (a3 : Bool))), .eq (ow (s8 : (List (List Int)))), .pl, .pl]) ((ip_rng1 ((pu2 Nv.op_sub ((pu1A Nv.op_len (((pu_var 1 rfl)).rd).ra)).rd (pu_c).rd)).tkP)).it (fun x6 => (.cons .rfl (.cons .rfl (.cons .rfl (.cons .rfl (.cons .rfl (.cons .no (.cons .no .nil)))))))) (fun x6 s8 x7 => tg_n) (fun x6 s8 x7 => (bl_ga [.eq (.fz (enc (a0 : (List Int)))), .eq (.fz (enc (a1 : (List Int)))), .eq (.fz (enc (a2 : (List Int)))), .eq (.fz (enc (a3 : Bool))), .eq (ow (s8 : (List (List Int)))), .eq (.fz (enc (x7 : Int))), .pl] (by kernel_rfl) (bl_last (bl_if (k := fun x21 => x21) ((ts_tst (pu2 Nv.op_gt ((pu_idx ((pu_var 2 rfl)).rd ((pu2 Nv.op_ix2 ((pu_var 1 rfl)).rd ((pu_var 5 rfl)).rd)).rd)).rd ((pu_idx ((pu_var 2 rfl)).rd ((pu2 Nv.op_ix2 ((pu_var 1 rfl)).rd ((pu2 Nv.op_add ((pu_var 5 rfl)).rd (pu_c).rd)).rd)).rd)).rd))).te' (fun x21 => (bl_assoc (bl_asgV ((((pu2 Nv.op_cat (((pu2 Nv.op_cat (((pu_sl ((pu_var 1 rfl)).rd .no (.yes ((pu_var 5 rfl)).rd))).rdT ow_tree) (((pu_lst (dp_cons ((pu2 Nv.op_ix2 ((pu_var 1 rfl)).rd ((pu2 Nv.op_add ((pu_var 5 rfl)).rd (pu_c).rd)).rd)).tkP (dp_cons ((pu2 Nv.op_ix2 ((pu_var 1 rfl)).rd ((pu_var 5 rfl)).rd)).tkP dp_nil)) (fun x34 => ([(Prod.fst x34), (Prod.fst (Prod.snd x34))] : (List Int))))).rdT ow_tree))).rdT ow_tree) (((pu_sl ((pu_var 1 rfl)).rd (.yes ((pu2 Nv.op_add ((pu_var 5 rfl)).rd (pu_c).rd)).rd) .no)).rdT ow_tree))).tkTP ow_tree)).ev fun x47 => (bl_ga [.eq (.fz (enc (a0 : (List Int)))), .eq (.fz (enc (a1 : (List Int)))), .eq (.fz (enc (a2 : (List Int)))), .eq (.fz (enc (a3 : Bool))), .eq (ow (s8 : (List (List Int)))), .eq (.fz (enc (x7 : Int))), .eq (.fz (enc (x47 : (List Int))))] (by kernel_rfl) (bl_if (k := fun x57 => x57) ((ts_or (ts_not (ts_truB (((pu_var 3 rfl)).rd).ra)) (ts_truB (((pu_call (ap_cons ((pu_var 0 rfl)).tkP (ap_cons ((pu_var 6 rfl)).tkP ap_nil)) (fun x54 => V__law_falls ((Prod.fst x54) : (List Int)) ((Prod.fst (Prod.snd x54)) : (List Int))))).rd).ra))).te' (fun x57 => (bl_expr (ev_app (k := 4) (va := fun x58 => x58) (xs := fun x58 => s8) rfl rfl (((pu_var 6 rfl)).tkP).ev fun _ => rfl) fun x60 => (bl_ga [.eq (.fz (enc (a0 : (List Int)))), .eq (.fz (enc (a1 : (List Int)))), .eq (.fz (enc (a2 : (List Int)))), .eq (.fz (enc (a3 : Bool))), .eq (ow ((Prod.fst x60) : (List (List Int)))), .eq (.fz (enc (x7 : Int))), .eq (.fz (enc (x47 : (List Int))))] (by kernel_rfl) (bl_end (rs_nx (.cons .rfl (.cons .rfl (.cons .rfl (.cons .rfl (.cons .rfl (.cons .fz (.cons .fz .nil)))))))))))) fun x57 => (bl_next (bl_end (rs_nx (.cons .rfl (.cons .rfl (.cons .rfl (.cons .rfl (.cons .rfl (.cons .fz (.cons .fz .nil))))))))))))))) fun x21 => (bl_next (bl_end (rs_nx (.cons .rfl (.cons .rfl (.cons .rfl (.cons .rfl (.cons .rfl (.cons .fz (.cons .rfl .nil)))))))))))))) fun x6 s8 => (bl_retO (k := 4) rfl rfl (sat_ga [.eq (.fz (enc (a0 : (List Int)))), .eq (.fz (enc (a1 : (List Int)))), .eq (.fz (enc (a2 : (List Int)))), .eq (.fz (enc (a3 : Bool))), .eq .no, .pl, .pl] (by kernel_rfl) (rf_eq rfl (.cons .aa (.cons .aa (.cons .aa (.cons .aa (.cons .aa (.cons .aa (.cons .aa .nil)))))))))))))))
end P

/-! part Q__law_walked -/
namespace P
open PySem PySem.Spec PyProof.Rows L2 Hb Nv
open Enc (enc)
/-! _law_walked: 0 _law_tap_here, 1 _law_path, 2 _law_row, 3 _law_second, 4 _law_is_tight, 5 _law_found, 6 _law_some -/
def B__law_walked : List Sl → Ot :=
    oSeq (oAsg (sLst (lCons (sVar 2) (lNil))) (tgN 5))
    (oSeq (oWh (sTst (s2 gNe (s2 gIx2 (sVar 5) (s1 gNeg (sC (.int 1)))) (sVar 3))) (oSeq (oAsg (sTk (sCall F__law_steps [] (rCons (sTk (sVar 1)) (rCons (sTk (s2 gIx2 (sVar 5) (s1 gNeg (sC (.int 1))))) (rCons (sTk (sVar 3)) (rCons (sTk (sVar 4)) (rNil))))))) (tgN 6))
    (oDrop (sApp (sVar 5) (s2 gIx2 (sVar 6) (sCall F__law_draw [] (rIo 0 (rCons (sTk (s1 (gRd lenD) (sVar 6))) (rNil)))))))) 1000)
    (oRet (sVar 5)))
def F__law_walked : List Sl → FR := fnRun 5 7 [0] B__law_walked
def n__law_walked (a0 : (List Int)) (a1 : (List Int)) (a2 : (List Int)) (a3 : (List Int)) (a4 : Bool) : Option ((List (List Int)) × (List Int)) :=
    (Option.bind (Option.bind (Option.bind (some a2) fun x1 => Option.bind (some ()) fun x3 => some (x1, x3)) fun x2 => some ([(Prod.fst x2)] : (List (List Int)))) fun x4 => (Option.bind (whS 1000 ((a0, x4) : ((List Int) × (List (List Int)))) (fun s5 => (Option.bind (Option.bind (some (Prod.snd s5)) fun x7 => Option.bind (Option.bind (some (1 : Int)) fun x6 => negI x6) fun x8 => atL x7 x8) fun x9 => Option.bind (some a3) fun x10 => neN x9 x10)) fun s5 => (Option.bind (Option.bind (Option.bind (some a1) fun x11 => Option.bind (Option.bind (Option.bind (some (Prod.snd s5)) fun x13 => Option.bind (Option.bind (some (1 : Int)) fun x12 => negI x12) fun x14 => atL x13 x14) fun x15 => Option.bind (Option.bind (some a3) fun x16 => Option.bind (Option.bind (some a4) fun x17 => Option.bind (some ()) fun x18 => some (x17, x18)) fun x19 => some (x16, x19)) fun x20 => some (x15, x20)) fun x21 => some (x11, x21)) fun x22 => n__law_steps ((Prod.fst x22) : (List Int)) ((Prod.fst (Prod.snd x22)) : (List Int)) ((Prod.fst (Prod.snd (Prod.snd x22))) : (List Int)) ((Prod.fst (Prod.snd (Prod.snd (Prod.snd x22)))) : Bool)) fun x23 => (Option.bind (Option.bind (Option.bind (some x23) fun x31 => Option.bind (Option.bind (Option.bind (Option.bind (some x23) fun x24 => lenL x24) fun x25 => Option.bind (some ()) fun x26 => some (x25, x26)) fun x27 => Option.bind (n__law_draw ((Prod.fst s5) : (List Int)) ((Prod.fst x27) : Int)) fun x28 => some (x28, x27)) fun x29 => Option.bind (atL x31 (Prod.fst (Prod.fst x29))) fun x30 => some (x30, x31, x29)) fun x32 => Option.bind (apL (Prod.snd s5) (Prod.fst x32)) fun x33 => some (x33, x32)) fun x34 => some (((Prod.snd (Prod.fst (Prod.snd (Prod.snd (Prod.snd x34))))), (Prod.fst x34)) : ((List Int) × (List (List Int))))))) fun s5 => some ((Prod.snd s5), (Prod.fst s5))))
theorem V__law_walked (a0 : (List Int)) (a1 : (List Int)) (a2 : (List Int)) (a3 : (List Int)) (a4 : Bool) : Fun F__law_walked (n__law_walked a0 a1 a2 a3 a4) [ow a0, .fz (enc a1), .fz (enc a2), .fz (enc a3), .fz (enc a4)] (fun r : ((List (List Int)) × (List Int)) => ow ((Prod.fst r) : (List (List Int)))) fun r => [ow (Prod.snd r), .no, .no, .no, .no] :=
  fun_of (ΓR := fun r => [.eq (ow ((Prod.snd r) : (List Int))), .aa, .aa, .aa, .aa, .aa, .aa]) (show Bl B__law_walked _ _ _ from (bl_ga [.eq (ow (a0 : (List Int))), .eq (.fz (enc (a1 : (List Int)))), .eq (.fz (enc (a2 : (List Int)))), .eq (.fz (enc (a3 : (List Int)))), .eq (.fz (enc (a4 : Bool))), .eq .no, .eq .no] (by kernel_rfl) (bl_asgT ((pu_lst (dp_cons ((pu_var 2 rfl)).tkP dp_nil) (fun x2 => ([(Prod.fst x2)] : (List (List Int)))))).ev fun x4 => (bl_ga [.eq (ow (a0 : (List Int))), .eq (.fz (enc (a1 : (List Int)))), .eq (.fz (enc (a2 : (List Int)))), .eq (.fz (enc (a3 : (List Int)))), .eq (.fz (enc (a4 : Bool))), .eq (ow (x4 : (List (List Int)))), .eq .no] (by kernel_rfl) (bl_wh (s0 := ((a0, x4) : ((List Int) × (List (List Int))))) (ΓL := fun (s5 : ((List Int) × (List (List Int)))) => [.eq (ow ((Prod.fst s5) : (List Int))), .eq (.fz (enc (a1 : (List Int)))), .eq (.fz (enc (a2 : (List Int)))), .eq (.fz (enc (a3 : (List Int)))), .eq (.fz (enc (a4 : Bool))), .eq (ow ((Prod.snd s5) : (List (List Int)))), .pl]) (.cons .rfl (.cons .rfl (.cons .rfl (.cons .rfl (.cons .rfl (.cons .rfl (.cons .no .nil))))))) (fun s5 => (ts_tst (pu2A Nv.op_ne (((pu2 Nv.op_ix2 (rd_own 5 rfl) ((pu1 Nv.op_neg (pu_c).rd)).rd)).rd).ra (((pu_var 3 rfl)).rd).ra))) (fun s5 => (bl_asgV ((((pu_call (ap_cons ((pu_var 1 rfl)).tkP (ap_cons ((pu2 Nv.op_ix2 (rd_own 5 rfl) ((pu1 Nv.op_neg (pu_c).rd)).rd)).tkP (ap_cons ((pu_var 3 rfl)).tkP (ap_cons ((pu_var 4 rfl)).tkP ap_nil)))) (fun x22 => V__law_steps ((Prod.fst x22) : (List Int)) ((Prod.fst (Prod.snd x22)) : (List Int)) ((Prod.fst (Prod.snd (Prod.snd x22))) : (List Int)) ((Prod.fst (Prod.snd (Prod.snd (Prod.snd x22)))) : Bool)))).tkTP ow_tree)).ev fun x23 => (bl_ga [.eq (ow ((Prod.fst s5) : (List Int))), .eq (.fz (enc (a1 : (List Int)))), .eq (.fz (enc (a2 : (List Int)))), .eq (.fz (enc (a3 : (List Int)))), .eq (.fz (enc (a4 : Bool))), .eq (ow ((Prod.snd s5) : (List (List Int)))), .eq (.fz (enc (x23 : (List (List Int)))))] (by kernel_rfl) (bl_last (bl_expr (ev_app (k := 5) (va := fun x32 => (Prod.fst x32)) (xs := fun x32 => (Prod.snd s5)) rfl rfl ((ev2g Nv.op_ix2 (va := fun x31 => x31) (vb := fun x31 x29 => (Prod.fst (Prod.fst x29))) ((pu_var 6 rfl)).ev.er fun x31 => (((ev_callG (ag_io (k := 0) rfl rfl (ag_cons (((pu1A Nv.op_len (((pu_var 6 rfl)).rd).ra)).tkP).ev fun x25 => ag_nil)) (fun x27 => V__law_draw ((Prod.fst s5) : (List Int)) ((Prod.fst x27) : Int)))).er).es)).tk fun _ => rfl) fun x34 => (bl_ga [.eq (ow ((Prod.snd (Prod.fst (Prod.snd (Prod.snd (Prod.snd x34))))) : (List Int))), .eq (.fz (enc (a1 : (List Int)))), .eq (.fz (enc (a2 : (List Int)))), .eq (.fz (enc (a3 : (List Int)))), .eq (.fz (enc (a4 : Bool))), .eq (ow ((Prod.fst x34) : (List (List Int)))), .eq (.fz (enc (x23 : (List (List Int)))))] (by kernel_rfl) (bl_end (rs_nx (.cons .rfl (.cons .rfl (.cons .rfl (.cons .rfl (.cons .rfl (.cons .rfl (.cons .fz .nil))))))))))))))) fun s5 => (bl_retO (k := 5) rfl rfl (sat_ga [.eq (ow ((Prod.fst s5) : (List Int))), .eq (.fz (enc (a1 : (List Int)))), .eq (.fz (enc (a2 : (List Int)))), .eq (.fz (enc (a3 : (List Int)))), .eq (.fz (enc (a4 : Bool))), .eq .no, .pl] (by kernel_rfl) (rf_eq rfl (.cons .rfl (.cons .aa (.cons .aa (.cons .aa (.cons .aa (.cons .aa (.cons .aa .nil)))))))))))))))
end P

/-! part Q__law_turned -/
namespace P
open PySem PySem.Spec PyProof.Rows L2 Hb Nv
open Enc (enc)
/-! _law_turned: 0 _law_row, 1 _law_second, 2 _law_found, 3 _law_k, 4 _law_other -/
def B__law_turned : List Sl → Ot :=
    oSeq (oAsg (sC (.int 0)) (tgN 2))
    (oSeq (oFor (wRng1 (s1 (gRd lenD) (sVar 0))) (tgN 3) (oFor (wSeq (sSl (sVar 0) (some (s2 gAdd (sVar 3) (sC (.int 1)))) none)) (tgN 4) (oAsg (s2 gAdd (sVar 2) (s1 (gRd intD) (s2 gLt (sIdx (sVar 1) (sVar 4)) (sIdx (sVar 1) (s2 gIx2 (sVar 0) (sVar 3)))))) (tgN 2))))
    (oRet (sVar 2)))
def F__law_turned : List Sl → FR := fnRun 2 5 [] B__law_turned
def n__law_turned (a0 : (List Int)) (a1 : (List Int)) : Option (Int) :=
    (Option.bind (some (0 : Int)) fun x1 => (Option.bind (Option.bind (Option.bind (some a0) fun x2 => lenL x2) fun x3 => ri1 x3) fun x4 => Option.bind (forS x4 (x1 : Int) fun s6 x5 => (Option.bind (Option.bind (some a0) fun x10 => Option.bind (Option.bind (Option.bind (some x5) fun x7 => Option.bind (some (1 : Int)) fun x8 => addI x7 x8) fun x9 => some (some x9)) fun x11 => Option.bind (some none) fun x12 => some (cutL x10 x11 x12)) fun x13 => Option.bind (forS x13 (s6 : Int) fun s15 x14 => (Option.bind (Option.bind (some s15) fun x25 => Option.bind (Option.bind (Option.bind (Option.bind (some a1) fun x16 => Option.bind (some x14) fun x17 => idxL x16 x17) fun x22 => Option.bind (Option.bind (some a1) fun x20 => Option.bind (Option.bind (some a0) fun x18 => Option.bind (some x5) fun x19 => atL x18 x19) fun x21 => idxL x20 x21) fun x23 => ltI x22 x23) fun x24 => intB x24) fun x26 => addI x25 x26) fun x27 => some (x27 : Int))) fun s15 => some (s15 : Int))) fun s6 => (Option.bind (some s6) fun x28 => some x28)))
theorem V__law_turned (a0 : (List Int)) (a1 : (List Int)) : Fun F__law_turned (n__law_turned a0 a1) [.fz (enc a0), .fz (enc a1)] (fun r : (Int) => .fz (enc (r : Int))) fun r => [.no, .no] :=
  fun_of (ΓR := fun r => [.aa, .aa, .aa, .aa, .aa]) (show Bl B__law_turned _ _ _ from (bl_ga [.eq (.fz (enc (a0 : (List Int)))), .eq (.fz (enc (a1 : (List Int)))), .eq .no, .eq .no, .eq .no] (by kernel_rfl) (bl_asgV (pu_c).ev fun x1 => (bl_ga [.eq (.fz (enc (a0 : (List Int)))), .eq (.fz (enc (a1 : (List Int)))), .eq (.fz (enc (x1 : Int))), .eq .no, .eq .no] (by kernel_rfl) (bl_for (vs := [3]) (xs := fun x4 => x4) (s0 := fun x4 => (x1 : Int)) (ΓL := fun x4 (s6 : Int) => [.eq (.fz (enc (a0 : (List Int)))), .eq (.fz (enc (a1 : (List Int)))), .eq (.fz (enc (s6 : Int))), .pl, .pl]) ((ip_rng1 ((pu1A Nv.op_len (((pu_var 0 rfl)).rd).ra)).tkP)).it (fun x4 => (.cons .rfl (.cons .rfl (.cons .rfl (.cons .no (.cons .no .nil)))))) (fun x4 s6 x5 => tg_n) (fun x4 s6 x5 => (bl_ga [.eq (.fz (enc (a0 : (List Int)))), .eq (.fz (enc (a1 : (List Int)))), .eq (.fz (enc (s6 : Int))), .eq (.fz (enc (x5 : Int))), .pl] (by kernel_rfl) (bl_last (bl_for (vs := [4]) (xs := fun x13 => x13) (s0 := fun x13 => (s6 : Int)) (ΓL := fun x13 (s15 : Int) => [.eq (.fz (enc (a0 : (List Int)))), .eq (.fz (enc (a1 : (List Int)))), .eq (.fz (enc (s15 : Int))), .eq (.fz (enc (x5 : Int))), .pl]) ((ip_seq (xs := fun v => v) (((pu_sl ((pu_var 0 rfl)).rd (.yes ((pu2 Nv.op_add ((pu_var 3 rfl)).rd (pu_c).rd)).rd) .no)).tkTP ow_tree))).it (fun x13 => (.cons .rfl (.cons .rfl (.cons .rfl (.cons .rfl (.cons .rfl .nil)))))) (fun x13 s15 x14 => tg_n) (fun x13 s15 x14 => (bl_ga [.eq (.fz (enc (a0 : (List Int)))), .eq (.fz (enc (a1 : (List Int)))), .eq (.fz (enc (s15 : Int))), .eq (.fz (enc (x5 : Int))), .eq (.fz (enc (x14 : Int)))] (by kernel_rfl) (bl_last (bl_asgV ((pu2 Nv.op_add ((pu_var 2 rfl)).rd ((pu1A Nv.op_intB (((pu2 Nv.op_lt ((pu_idx ((pu_var 1 rfl)).rd ((pu_var 4 rfl)).rd)).rd ((pu_idx ((pu_var 1 rfl)).rd ((pu2 Nv.op_ix2 ((pu_var 0 rfl)).rd ((pu_var 3 rfl)).rd)).rd)).rd)).rd).ra)).rd)).ev fun x27 => (bl_ga [.eq (.fz (enc (a0 : (List Int)))), .eq (.fz (enc (a1 : (List Int)))), .eq (.fz (enc (x27 : Int))), .eq (.fz (enc (x5 : Int))), .eq (.fz (enc (x14 : Int)))] (by kernel_rfl) (bl_end (rs_nx (.cons .rfl (.cons .rfl (.cons .rfl (.cons .rfl (.cons .fz .nil)))))))))))) fun x13 s15 => (bl_end (rs_nx (.cons .rfl (.cons .rfl (.cons .rfl (.cons .fz (.cons .rfl .nil))))))))))) fun x4 s6 => (bl_retV ((pu_var 2 rfl)).ev fun x28 => (rf_eq rfl (.cons .aa (.cons .aa (.cons .aa (.cons .aa (.cons .aa .nil))))))))))))
end P

/-! part Q__law_are_next -/
namespace P
open PySem PySem.Spec PyProof.Rows L2 Hb Nv
open Enc (enc)
/-! _law_are_next: 0 _law_row, 1 _law_second, 2 _law_unlike, 3 _law_k -/
def B__law_are_next : List Sl → Ot :=
    oSeq (oAsg (sTk (sLc false (wRng1 (s1 (gRd lenD) (sVar 0))) [3] (tgN 3) (sTst (s2 gNe (s2 gIx2 (sVar 0) (sVar 3)) (s2 gIx2 (sVar 1) (sVar 3)))) (sTk (sVar 3)))) (tgN 2))
    (oSeq (oIf (sOr (sTst (s2 gNe (s1 (gRd lenD) (sVar 2)) (sC (.int 2)))) (sTst (s2 gNe (s2 gIx2 (sVar 2) (sC (.int 1))) (s2 gAdd (s2 gIx2 (sVar 2) (sC (.int 0))) (sC (.int 1)))))) (oRet (sC (.bool false))) (oNext))
    (oRet (s2 gEq (sLst (lCons (s2 gIx2 (sVar 0) (s2 gIx2 (sVar 2) (sC (.int 0)))) (lCons (s2 gIx2 (sVar 0) (s2 gIx2 (sVar 2) (sC (.int 1)))) (lNil)))) (sLst (lCons (s2 gIx2 (sVar 1) (s2 gIx2 (sVar 2) (sC (.int 1)))) (lCons (s2 gIx2 (sVar 1) (s2 gIx2 (sVar 2) (sC (.int 0)))) (lNil)))))))
def F__law_are_next : List Sl → FR := fnRun 2 4 [] B__law_are_next
def n__law_are_next (a0 : (List Int)) (a1 : (List Int)) : Option (Bool) :=
    (Option.bind (Option.bind (Option.bind (Option.bind (some a0) fun x1 => lenL x1) fun x2 => ri1 x2) fun x3 => if List.length (x3) ≤ cap then mapF x3 (fun x4 => (Option.bind (Option.bind (some a0) fun x5 => Option.bind (some x4) fun x6 => atL x5 x6) fun x9 => Option.bind (Option.bind (some a1) fun x7 => Option.bind (some x4) fun x8 => atL x7 x8) fun x10 => neN x9 x10)) (fun x4 => (some x4)) else none) fun x11 => (Option.bind (Option.bind (Option.bind (Option.bind (some x11) fun x12 => lenL x12) fun x13 => Option.bind (some (2 : Int)) fun x14 => neN x13 x14) fun x23 => if x23 = true then some true else (Option.bind (Option.bind (some x11) fun x15 => Option.bind (some (1 : Int)) fun x16 => atL x15 x16) fun x21 => Option.bind (Option.bind (Option.bind (some x11) fun x17 => Option.bind (some (0 : Int)) fun x18 => atL x17 x18) fun x19 => Option.bind (some (1 : Int)) fun x20 => addI x19 x20) fun x22 => neN x21 x22)) fun x24 => if x24 = true then (Option.bind (some false) fun x25 => some x25) else (Option.bind (Option.bind (Option.bind (Option.bind (Option.bind (some a0) fun x28 => Option.bind (Option.bind (some x11) fun x26 => Option.bind (some (0 : Int)) fun x27 => atL x26 x27) fun x29 => atL x28 x29) fun x30 => Option.bind (Option.bind (Option.bind (some a0) fun x33 => Option.bind (Option.bind (some x11) fun x31 => Option.bind (some (1 : Int)) fun x32 => atL x31 x32) fun x34 => atL x33 x34) fun x35 => Option.bind (some ()) fun x37 => some (x35, x37)) fun x38 => some (x30, x38)) fun x36 => some ([(Prod.fst x36), (Prod.fst (Prod.snd x36))] : (List Int))) fun x52 => Option.bind (Option.bind (Option.bind (Option.bind (some a1) fun x41 => Option.bind (Option.bind (some x11) fun x39 => Option.bind (some (1 : Int)) fun x40 => atL x39 x40) fun x42 => atL x41 x42) fun x43 => Option.bind (Option.bind (Option.bind (some a1) fun x46 => Option.bind (Option.bind (some x11) fun x44 => Option.bind (some (0 : Int)) fun x45 => atL x44 x45) fun x47 => atL x46 x47) fun x48 => Option.bind (some ()) fun x50 => some (x48, x50)) fun x51 => some (x43, x51)) fun x49 => some ([(Prod.fst x49), (Prod.fst (Prod.snd x49))] : (List Int))) fun x53 => eqN x52 x53) fun x54 => some x54)))
theorem V__law_are_next (a0 : (List Int)) (a1 : (List Int)) : Fun F__law_are_next (n__law_are_next a0 a1) [.fz (enc a0), .fz (enc a1)] (fun r : (Bool) => .fz (enc (r : Bool))) fun r => [.no, .no] :=
  fun_of (ΓR := fun r => [.aa, .aa, .aa, .aa]) (show Bl B__law_are_next _ _ _ from (bl_ga [.eq (.fz (enc (a0 : (List Int)))), .eq (.fz (enc (a1 : (List Int)))), .eq .no, .eq .no] (by kernel_rfl) (bl_asgV ((((pu_lc (vs := [3]) (ip_rng1 ((pu1A Nv.op_len (((pu_var 0 rfl)).rd).ra)).tkP) rfl rfl (fun x3 x4 => tg_n) (fun x3 x4 => (ts_ga [.eq (.fz (enc (a0 : (List Int)))), .eq (.fz (enc (a1 : (List Int)))), .eq .no, .eq (.fz (enc (x4 : Int)))] (by kernel_rfl) (ts_tst (pu2A Nv.op_ne (((pu2 Nv.op_ix2 ((pu_var 0 rfl)).rd ((pu_var 3 rfl)).rd)).rd).ra (((pu2 Nv.op_ix2 ((pu_var 1 rfl)).rd ((pu_var 3 rfl)).rd)).rd).ra)))) fun x3 x4 => (pu_ga [.eq (.fz (enc (a0 : (List Int)))), .eq (.fz (enc (a1 : (List Int)))), .eq .no, .eq (.fz (enc (x4 : Int)))] (by kernel_rfl) ((pu_var 3 rfl)).tkP))).tkTP ow_tree)).ev fun x11 => (bl_ga [.eq (.fz (enc (a0 : (List Int)))), .eq (.fz (enc (a1 : (List Int)))), .eq (.fz (enc (x11 : (List Int)))), .eq .no] (by kernel_rfl) (bl_if (k := fun x24 => x24) ((ts_or (ts_tst (pu2A Nv.op_ne (((pu1A Nv.op_len (((pu_var 2 rfl)).rd).ra)).rd).ra ((pu_c).rd).ra)) (ts_tst (pu2A Nv.op_ne (((pu2 Nv.op_ix2 ((pu_var 2 rfl)).rd (pu_c).rd)).rd).ra (((pu2 Nv.op_add ((pu2 Nv.op_ix2 ((pu_var 2 rfl)).rd (pu_c).rd)).rd (pu_c).rd)).rd).ra)))).te' (fun x24 => (bl_retS (bl_retV (pu_c).ev fun x25 => (rf_eq rfl (.cons .aa (.cons .aa (.cons .aa (.cons .aa .nil)))))))) fun x24 => (bl_next (bl_retV ((pu2A Nv.op_eq ((((pu_lst (dp_cons ((pu2 Nv.op_ix2 ((pu_var 0 rfl)).rd ((pu2 Nv.op_ix2 ((pu_var 2 rfl)).rd (pu_c).rd)).rd)).tkP (dp_cons ((pu2 Nv.op_ix2 ((pu_var 0 rfl)).rd ((pu2 Nv.op_ix2 ((pu_var 2 rfl)).rd (pu_c).rd)).rd)).tkP dp_nil)) (fun x36 => ([(Prod.fst x36), (Prod.fst (Prod.snd x36))] : (List Int))))).rdT ow_tree)).ra ((((pu_lst (dp_cons ((pu2 Nv.op_ix2 ((pu_var 1 rfl)).rd ((pu2 Nv.op_ix2 ((pu_var 2 rfl)).rd (pu_c).rd)).rd)).tkP (dp_cons ((pu2 Nv.op_ix2 ((pu_var 1 rfl)).rd ((pu2 Nv.op_ix2 ((pu_var 2 rfl)).rd (pu_c).rd)).rd)).tkP dp_nil)) (fun x49 => ([(Prod.fst x49), (Prod.fst (Prod.snd x49))] : (List Int))))).rdT ow_tree)).ra)).ev fun x54 => (rf_eq rfl (.cons .aa (.cons .aa (.cons .aa (.cons .aa .nil))))))))))))
end P

/-! part Q__law_is_row -/
namespace P
open PySem PySem.Spec PyProof.Rows L2 Hb Nv
open Enc (enc)
/-! _law_is_row: 0 _law_count, 1 _law_value, 2 _law_one -/
def B__law_is_row : List Sl → Ot :=
    oSeq (oIf (sOr (sNot (sTru (s1 (gIsi "list") (sVar 1)))) (sTst (s2 gNe (s1 (gRd lenD) (sVar 1)) (sVar 0)))) (oRet (sC (.bool false))) (oNext))
    (oSeq (oIf (sTst (s2 (gEqE true) (sLc false (wSeq (sVar 1)) [2] (tgN 2) (sOr (sNot (sTru (s1 (gIsi "int") (sVar 2)))) (sTru (s1 (gIsi "bool") (sVar 2)))) (sTk (sVar 2))) (sLst (lNil)))) (oRet (sC (.bool false))) (oNext))
    (oRet (s2 gEq (s1 (gSortD) (sVar 1)) (s1 gRg1 (sVar 0)))))
def F__law_is_row : List Sl → FR := fnRun 2 3 [] B__law_is_row
def n__law_is_row (a0 : Int) (a1 : PyData) : Option (Bool) :=
    (Option.bind (Option.bind (Option.bind (Option.bind (some a1) fun x1 => isiN "list" x1) fun x3 => some !x3) fun x7 => if x7 = true then some true else (Option.bind (Option.bind (some a1) fun x4 => lenA x4) fun x5 => Option.bind (some a0) fun x6 => neN x5 x6)) fun x8 => if x8 = true then (Option.bind (some false) fun x9 => some x9) else (Option.bind (Option.bind (Option.bind (Option.bind (some a1) fun x10 => seqA x10) fun x11 => if List.length (x11) ≤ cap then mapF x11 (fun x12 => (Option.bind (Option.bind (Option.bind (some x12) fun x13 => isiN "int" x13) fun x15 => some !x15) fun x18 => if x18 = true then some true else (Option.bind (some x12) fun x16 => isiN "bool" x16))) (fun x12 => (some x12)) else none) fun x19 => some (true != List.isEmpty x19)) fun x20 => if x20 = true then (Option.bind (some false) fun x21 => some x21) else (Option.bind (Option.bind (Option.bind (some a1) fun x22 => srtAC x22) fun x24 => Option.bind (Option.bind (some a0) fun x23 => rg1 x23) fun x25 => eqN x24 x25) fun x26 => some x26)))
theorem V__law_is_row (a0 : Int) (a1 : PyData) : Fun F__law_is_row (n__law_is_row a0 a1) [.fz (enc a0), .fz (enc a1)] (fun r : (Bool) => .fz (enc (r : Bool))) fun r => [.no, .no] :=
  fun_of (ΓR := fun r => [.aa, .aa, .aa]) (show Bl B__law_is_row _ _ _ from (bl_ga [.eq (.fz (enc (a0 : Int))), .eq (.fz (enc (a1 : PyData))), .eq .no] (by kernel_rfl) (bl_if (k := fun x8 => x8) ((ts_or (ts_not (ts_truB (((pu1A (Nv.op_isi (T := "list")) (((pu_var 1 rfl)).rd).ra)).rd).ra)) (ts_tst (pu2A Nv.op_ne (((pu1A Nv.op_lenA (((pu_var 1 rfl)).rd).ra)).rd).ra (((pu_var 0 rfl)).rd).ra)))).te' (fun x8 => (bl_retS (bl_retV (pu_c).ev fun x9 => (rf_eq rfl (.cons .aa (.cons .aa (.cons .aa .nil))))))) fun x8 => (bl_next (bl_if (k := fun x20 => x20) ((ts_tst (pu_eqE ((((pu_lc (vs := [2]) (ip_seqA ((pu_var 1 rfl)).tkP) rfl rfl (fun x11 x12 => tg_n) (fun x11 x12 => (ts_ga [.eq (.fz (enc (a0 : Int))), .eq (.fz (enc (a1 : PyData))), .eq (.fz (enc (x12 : PyData)))] (by kernel_rfl) (ts_or (ts_not (ts_truB (((pu1A (Nv.op_isi (T := "int")) (((pu_var 2 rfl)).rd).ra)).rd).ra)) (ts_truB (((pu1A (Nv.op_isi (T := "bool")) (((pu_var 2 rfl)).rd).ra)).rd).ra)))) fun x11 x12 => (pu_ga [.eq (.fz (enc (a0 : Int))), .eq (.fz (enc (a1 : PyData))), .eq (.fz (enc (x12 : PyData)))] (by kernel_rfl) ((pu_var 2 rfl)).tkP))).rdT ow_tree)).ra))).te' (fun x20 => (bl_retS (bl_retV (pu_c).ev fun x21 => (rf_eq rfl (.cons .aa (.cons .aa (.cons .aa .nil))))))) fun x20 => (bl_next (bl_retV ((pu2A Nv.op_eq ((((pu1 Nv.op_srtAC ((pu_var 1 rfl)).rd)).rdT ow_tree)).ra ((((pu1 Nv.op_rg1 ((pu_var 0 rfl)).rd)).rdT ow_tree)).ra)).ev fun x26 => (rf_eq rfl (.cons .aa (.cons .aa (.cons .aa .nil)))))))))))
end P

/-! part Q__law_is_way -/
namespace P
open PySem PySem.Spec PyProof.Rows L2 Hb Nv
open Enc (enc)
/-! _law_is_way: 0 _law_path, 1 _law_row, 2 _law_second, 3 _law_value, 4 _law_one, 5 _law_k -/
def B__law_is_way : List Sl → Ot :=
    oSeq (oIf (sOr (sNot (sTru (s1 (gIsi "list") (sVar 3)))) (sTst (s2 (gEqE true) (sLc false (wSeq (sVar 3)) [4] (tgN 4) (sNot (sTru (sCall F__law_is_row [] (rCons (sTk (s1 (gRd lenD) (sVar 0))) (rCons (sTk (sVar 4)) (rNil)))))) (sTk (sVar 4))) (sLst (lNil))))) (oRet (sC (.bool false))) (oNext))
    (oSeq (oIf (sOr (sTst (s2 gNe (s1 (gRd lenD) (sVar 3)) (s2 gAdd (sCall F__law_turned [] (rCons (sTk (sVar 1)) (rCons (sTk (sVar 2)) (rNil)))) (sC (.int 1))))) (sOr (sTst (s2 gNe (s2 gIx2 (sVar 3) (sC (.int 0))) (sVar 1))) (sTst (s2 gNe (s2 gIx2 (sVar 3) (s1 gNeg (sC (.int 1)))) (sVar 2))))) (oRet (sC (.bool false))) (oNext))
    (oSeq (oIf (sTst (s2 (gEqE true) (sLc false (wSeq (sVar 3)) [4] (tgN 4) (sNot (sTru (sCall F__law_falls [] (rCons (sTk (sVar 0)) (rCons (sTk (sVar 4)) (rNil)))))) (sTk (sVar 4))) (sLst (lNil)))) (oRet (sC (.bool false))) (oNext))
    (oRet (s2 (gEqE false) (sLc false (wRng2 (sC (.int 1)) (s1 (gRd lenD) (sVar 3))) [5] (tgN 5) (sNot (sTru (sCall F__law_are_next [] (rCons (sTk (s2 gIx2 (sVar 3) (s2 gSub (sVar 5) (sC (.int 1))))) (rCons (sTk (s2 gIx2 (sVar 3) (sVar 5))) (rNil)))))) (sTk (sVar 5))) (sLst (lNil))))))
def F__law_is_way : List Sl → FR := fnRun 4 6 [] B__law_is_way
def n__law_is_way (a0 : (List Int)) (a1 : (List Int)) (a2 : (List Int)) (a3 : PyData) : Option (Bool) :=
    (Option.bind (Option.bind (Option.bind (Option.bind (some a3) fun x1 => isiN "list" x1) fun x3 => some !x3) fun x16 => if x16 = true then some true else (Option.bind (Option.bind (Option.bind (some a3) fun x4 => seqA x4) fun x5 => if List.length (x5) ≤ cap then mapF x5 (fun x6 => (Option.bind (Option.bind (Option.bind (Option.bind (some a0) fun x7 => lenL x7) fun x8 => Option.bind (Option.bind (some x6) fun x9 => Option.bind (some ()) fun x10 => some (x9, x10)) fun x11 => some (x8, x11)) fun x12 => n__law_is_row ((Prod.fst x12) : Int) ((Prod.fst (Prod.snd x12)) : PyData)) fun x14 => some !x14)) (fun x6 => (some x6)) else none) fun x15 => some (true != List.isEmpty x15))) fun x17 => if x17 = true then (Option.bind (some false) fun x18 => some x18) else (Option.bind (Option.bind (Option.bind (Option.bind (some a3) fun x19 => lenA x19) fun x27 => Option.bind (Option.bind (Option.bind (Option.bind (some a1) fun x20 => Option.bind (Option.bind (some a2) fun x21 => Option.bind (some ()) fun x22 => some (x21, x22)) fun x23 => some (x20, x23)) fun x24 => n__law_turned ((Prod.fst x24) : (List Int)) ((Prod.fst (Prod.snd x24)) : (List Int))) fun x25 => Option.bind (some (1 : Int)) fun x26 => addI x25 x26) fun x28 => neN x27 x28) fun x41 => if x41 = true then some true else (Option.bind (Option.bind (Option.bind (some a3) fun x29 => Option.bind (some (0 : Int)) fun x30 => atA x29 x30) fun x32 => Option.bind (Option.bind (some a1) fun x31 => some (enc (x31 : (List Int)))) fun x33 => neA x32 x33) fun x40 => if x40 = true then some true else (Option.bind (Option.bind (some a3) fun x35 => Option.bind (Option.bind (some (1 : Int)) fun x34 => negI x34) fun x36 => atA x35 x36) fun x38 => Option.bind (Option.bind (some a2) fun x37 => some (enc (x37 : (List Int)))) fun x39 => neA x38 x39))) fun x42 => if x42 = true then (Option.bind (some false) fun x43 => some x43) else (Option.bind (Option.bind (Option.bind (Option.bind (some a3) fun x44 => seqA x44) fun x45 => if List.length (x45) ≤ cap then mapF x45 (fun x46 => (Option.bind (Option.bind (Option.bind (some a0) fun x47 => Option.bind (Option.bind (Option.bind (some x46) fun x49 => asIL x49) fun x48 => Option.bind (some ()) fun x50 => some (x48, x50)) fun x51 => some (x47, x51)) fun x52 => n__law_falls ((Prod.fst x52) : (List Int)) ((Prod.fst (Prod.snd x52)) : (List Int))) fun x54 => some !x54)) (fun x46 => (some x46)) else none) fun x55 => some (true != List.isEmpty x55)) fun x56 => if x56 = true then (Option.bind (some false) fun x57 => some x57) else (Option.bind (Option.bind (Option.bind (Option.bind (some (1 : Int)) fun x59 => Option.bind (Option.bind (some a3) fun x58 => lenA x58) fun x60 => ri2 x59 x60) fun x61 => if List.length (x61) ≤ cap then mapF x61 (fun x62 => (Option.bind (Option.bind (Option.bind (Option.bind (Option.bind (some a3) fun x65 => Option.bind (Option.bind (some x62) fun x63 => Option.bind (some (1 : Int)) fun x64 => subI x63 x64) fun x66 => atA x65 x66) fun x68 => asIL x68) fun x67 => Option.bind (Option.bind (Option.bind (Option.bind (some a3) fun x69 => Option.bind (some x62) fun x70 => atA x69 x70) fun x72 => asIL x72) fun x71 => Option.bind (some ()) fun x73 => some (x71, x73)) fun x74 => some (x67, x74)) fun x75 => n__law_are_next ((Prod.fst x75) : (List Int)) ((Prod.fst (Prod.snd x75)) : (List Int))) fun x77 => some !x77)) (fun x62 => (some x62)) else none) fun x78 => some (false != List.isEmpty x78)) fun x79 => some x79))))
theorem V__law_is_way (a0 : (List Int)) (a1 : (List Int)) (a2 : (List Int)) (a3 : PyData) : Fun F__law_is_way (n__law_is_way a0 a1 a2 a3) [.fz (enc a0), .fz (enc a1), .fz (enc a2), .fz (enc a3)] (fun r : (Bool) => .fz (enc (r : Bool))) fun r => [.no, .no, .no, .no] :=
  fun_of (ΓR := fun r => [.aa, .aa, .aa, .aa, .aa, .aa]) (show Bl B__law_is_way _ _ _ from (bl_ga [.eq (.fz (enc (a0 : (List Int)))), .eq (.fz (enc (a1 : (List Int)))), .eq (.fz (enc (a2 : (List Int)))), .eq (.fz (enc (a3 : PyData))), .eq .no, .eq .no] (by kernel_rfl) (bl_if (k := fun x17 => x17) ((ts_or (ts_not (ts_truB (((pu1A (Nv.op_isi (T := "list")) (((pu_var 3 rfl)).rd).ra)).rd).ra)) (ts_tst (pu_eqE ((((pu_lc (vs := [4]) (ip_seqA ((pu_var 3 rfl)).tkP) rfl rfl (fun x5 x6 => tg_n) (fun x5 x6 => (ts_ga [.eq (.fz (enc (a0 : (List Int)))), .eq (.fz (enc (a1 : (List Int)))), .eq (.fz (enc (a2 : (List Int)))), .eq (.fz (enc (a3 : PyData))), .eq (.fz (enc (x6 : PyData))), .eq .no] (by kernel_rfl) (ts_not (ts_truB (((pu_call (ap_cons ((pu1A Nv.op_len (((pu_var 0 rfl)).rd).ra)).tkP (ap_cons ((pu_var 4 rfl)).tkP ap_nil)) (fun x12 => V__law_is_row ((Prod.fst x12) : Int) ((Prod.fst (Prod.snd x12)) : PyData)))).rd).ra)))) fun x5 x6 => (pu_ga [.eq (.fz (enc (a0 : (List Int)))), .eq (.fz (enc (a1 : (List Int)))), .eq (.fz (enc (a2 : (List Int)))), .eq (.fz (enc (a3 : PyData))), .eq (.fz (enc (x6 : PyData))), .eq .no] (by kernel_rfl) ((pu_var 4 rfl)).tkP))).rdT ow_tree)).ra)))).te' (fun x17 => (bl_retS (bl_retV (pu_c).ev fun x18 => (rf_eq rfl (.cons .aa (.cons .aa (.cons .aa (.cons .aa (.cons .aa (.cons .aa .nil)))))))))) fun x17 => (bl_next (bl_if (k := fun x42 => x42) ((ts_or (ts_tst (pu2A Nv.op_ne (((pu1A Nv.op_lenA (((pu_var 3 rfl)).rd).ra)).rd).ra (((pu2 Nv.op_add ((pu_call (ap_cons ((pu_var 1 rfl)).tkP (ap_cons ((pu_var 2 rfl)).tkP ap_nil)) (fun x24 => V__law_turned ((Prod.fst x24) : (List Int)) ((Prod.fst (Prod.snd x24)) : (List Int))))).rd (pu_c).rd)).rd).ra)) (ts_or (ts_tst (pu2A Nv.op_neA (((pu2 Nv.op_ixA ((pu_var 3 rfl)).rd (pu_c).rd)).rd).ra (((Pu.any (pu_var 1 rfl))).rd).ra)) (ts_tst (pu2A Nv.op_neA (((pu2 Nv.op_ixA ((pu_var 3 rfl)).rd ((pu1 Nv.op_neg (pu_c).rd)).rd)).rd).ra (((Pu.any (pu_var 2 rfl))).rd).ra))))).te' (fun x42 => (bl_retS (bl_retV (pu_c).ev fun x43 => (rf_eq rfl (.cons .aa (.cons .aa (.cons .aa (.cons .aa (.cons .aa (.cons .aa .nil)))))))))) fun x42 => (bl_next (bl_if (k := fun x56 => x56) ((ts_tst (pu_eqE ((((pu_lc (vs := [4]) (ip_seqA ((pu_var 3 rfl)).tkP) rfl rfl (fun x45 x46 => tg_n) (fun x45 x46 => (ts_ga [.eq (.fz (enc (a0 : (List Int)))), .eq (.fz (enc (a1 : (List Int)))), .eq (.fz (enc (a2 : (List Int)))), .eq (.fz (enc (a3 : PyData))), .eq (.fz (enc (x46 : PyData))), .eq .no] (by kernel_rfl) (ts_not (ts_truB (((pu_call (ap_cons ((pu_var 0 rfl)).tkP (ap_cons (Pu.asIL ((pu_var 4 rfl)).tkP) ap_nil)) (fun x52 => V__law_falls ((Prod.fst x52) : (List Int)) ((Prod.fst (Prod.snd x52)) : (List Int))))).rd).ra)))) fun x45 x46 => (pu_ga [.eq (.fz (enc (a0 : (List Int)))), .eq (.fz (enc (a1 : (List Int)))), .eq (.fz (enc (a2 : (List Int)))), .eq (.fz (enc (a3 : PyData))), .eq (.fz (enc (x46 : PyData))), .eq .no] (by kernel_rfl) ((pu_var 4 rfl)).tkP))).rdT ow_tree)).ra))).te' (fun x56 => (bl_retS (bl_retV (pu_c).ev fun x57 => (rf_eq rfl (.cons .aa (.cons .aa (.cons .aa (.cons .aa (.cons .aa (.cons .aa .nil)))))))))) fun x56 => (bl_next (bl_retV ((pu_eqE ((((pu_lc (vs := [5]) (ip_rng2 (pu_c).tkP ((pu1A Nv.op_lenA (((pu_var 3 rfl)).rd).ra)).tkP) rfl rfl (fun x61 x62 => tg_n) (fun x61 x62 => (ts_ga [.eq (.fz (enc (a0 : (List Int)))), .eq (.fz (enc (a1 : (List Int)))), .eq (.fz (enc (a2 : (List Int)))), .eq (.fz (enc (a3 : PyData))), .eq .no, .eq (.fz (enc (x62 : Int)))] (by kernel_rfl) (ts_not (ts_truB (((pu_call (ap_cons (Pu.asIL ((pu2 Nv.op_ixA ((pu_var 3 rfl)).rd ((pu2 Nv.op_sub ((pu_var 5 rfl)).rd (pu_c).rd)).rd)).tkP) (ap_cons (Pu.asIL ((pu2 Nv.op_ixA ((pu_var 3 rfl)).rd ((pu_var 5 rfl)).rd)).tkP) ap_nil)) (fun x75 => V__law_are_next ((Prod.fst x75) : (List Int)) ((Prod.fst (Prod.snd x75)) : (List Int))))).rd).ra)))) fun x61 x62 => (pu_ga [.eq (.fz (enc (a0 : (List Int)))), .eq (.fz (enc (a1 : (List Int)))), .eq (.fz (enc (a2 : (List Int)))), .eq (.fz (enc (a3 : PyData))), .eq .no, .eq (.fz (enc (x62 : Int)))] (by kernel_rfl) ((pu_var 5 rfl)).tkP))).rdT ow_tree)).ra)).ev fun x79 => (rf_eq rfl (.cons .aa (.cons .aa (.cons .aa (.cons .aa (.cons .aa (.cons .aa .nil))))))))))))))))
end P

/-! part Q__law_bent -/
namespace P
open PySem PySem.Spec PyProof.Rows L2 Hb Nv
open Enc (enc)
/-! _law_bent: 0 _law_tap_here, 1 _law_path, 2 _law_way, 3 _law_row, 4 _law_other, 5 _law_found, 6 _law_one, 7 _law_there, 8 _law_at, 9 _law_count, 10 _law_spot, 11 _law_to, 12 _law_place -/
def B__law_bent : List Sl → Ot :=
    oSeq (oPar [8, 9] (rCons (sTk (sCall F__law_draw [] (rIo 0 (rCons (sTk (s1 (gRd lenD) (sVar 2))) (rNil))))) (rCons (sTk (s1 (gRd lenD) (sVar 1))) (rNil))))
    (oSeq (oAsg (sTk (s2 gIx2 (sVar 2) (sVar 8))) (tgN 3))
    (oSeq (oPar [10, 11] (rCons (sTk (sCall F__law_draw [] (rIo 0 (rCons (sTk (sVar 9)) (rNil))))) (rCons (sTk (sCall F__law_draw [] (rIo 0 (rCons (sTk (sVar 9)) (rNil))))) (rNil))))
    (oSeq (oAsg (s1 (gList) (sVar 3)) (tgN 4))
    (oSeq (oAsg (sTup (lCons (s2 gIx2 (sVar 3) (sVar 11)) (lCons (s2 gIx2 (sVar 3) (sVar 10)) (lNil)))) (tgT 2 (tgCons (tgS (sVar 4) (sVar 10)) (tgCons (tgS (sVar 4) (sVar 11)) (tgNil)))))
    (oSeq (oAsg (sLst (lCons (s2 gAdd (sSl (sVar 2) none (some (sVar 8))) (sSl (sVar 2) (some (s2 gAdd (sVar 8) (sC (.int 1)))) none)) (lCons (s2 gAdd (s2 gAdd (sSl (sVar 2) none (some (sVar 8))) (sLst (lCons (sVar 3) (lNil)))) (sSl (sVar 2) (some (sVar 8)) none)) (lCons (s2 gAdd (s2 gAdd (sSl (sVar 2) none (some (sVar 8))) (sLst (lCons (sVar 4) (lNil)))) (sSl (sVar 2) (some (s2 gAdd (sVar 8) (sC (.int 1)))) none)) (lNil))))) (tgN 5))
    (oSeq (oAsg (s2 gAdd (sVar 5) (sLst (lCons (s1 gRev (sVar 2)) (lCons (s1 (gTuple) (sVar 2)) (lNil))))) (tgN 5))
    (oSeq (oFor (wSeq (sLst (lCons (sC .none) (lCons (s1 (gTuple) (sVar 3)) (lCons (sSl (sVar 3) (some (sC (.int 1))) none) (lCons (s2 gAdd (sVar 3) (sLst (lCons (sC (.int 0)) (lNil)))) (lCons (sLc false (wSeq (sVar 3)) [12] (tgN 12) (tOk) (sTk (s1 (gRd strD) (sVar 12)))) (lCons (sC (.int 0)) (lCons (sC (.str "")) (lCons (sLst (lCons (sVar 3) (lNil))) (lCons (s1 gRev (sVar 3)) (lNil)))))))))))) (tgN 6) (oDrop (sApp (sVar 5) (s2 gAdd (s2 gAdd (sSl (sVar 2) none (some (sVar 8))) (sLst (lCons (sVar 6) (lNil)))) (sSl (sVar 2) (some (s2 gAdd (sVar 8) (sC (.int 1)))) none)))))
    (oSeq (oDrop (sApp (sVar 5) (s2 gAdd (s2 gAdd (sSl (sVar 2) none (some (sVar 8))) (sLst (lCons (sLc false (wSeq (sVar 3)) [6] (tgN 6) (tOk) (sTk (sIf (sTst (s2 gLt (sVar 6) (sC (.int 2)))) (s2 gEq (sVar 6) (sC (.int 1))) (sVar 6)))) (lNil)))) (sSl (sVar 2) (some (s2 gAdd (sVar 8) (sC (.int 1)))) none))))
    (oSeq (oAsg (sTk (sIf (sTst (s2 gLt (s2 gAdd (sVar 8) (sC (.int 1))) (s1 (gRd lenD) (sVar 2)))) (s2 gIx2 (sVar 2) (s2 gAdd (sVar 8) (sC (.int 1)))) (s1 gRev (sVar 3)))) (tgN 7))
    (oRet (s2 gAdd (sVar 5) (sLst (lCons (s2 gAdd (s2 gAdd (sSl (sVar 2) none (some (sVar 8))) (sLst (lCons (sVar 3) (lCons (sVar 7) (lCons (sVar 3) (lNil)))))) (sSl (sVar 2) (some (s2 gAdd (sVar 8) (sC (.int 1)))) none)) (lCons (s2 gAdd (sVar 2) (sSl (sVar 2) (some (s1 gNeg (sC (.int 1)))) none)) (lCons (sSl (sVar 2) none (some (sC (.int 1)))) (lCons (sSl (sVar 2) (some (s1 gNeg (sC (.int 1)))) none) (lCons (sLst (lCons (sVar 2) (lNil))) (lCons (sLst (lNil)) (lNil)))))))))))))))))))
def F__law_bent : List Sl → FR := fnRun 3 13 [0] B__law_bent
def n__law_bent (a0 : (List Int)) (a1 : (List Int)) (a2 : (List (List Int))) : Option ((List PyData) × (List Int)) :=
    (Option.bind (Option.bind (Option.bind (Option.bind (Option.bind (some a2) fun x1 => lenL x1) fun x2 => Option.bind (some ()) fun x3 => some (x2, x3)) fun x4 => Option.bind (n__law_draw (a0 : (List Int)) ((Prod.fst x4) : Int)) fun x5 => some (x5, x4)) fun x6 => Option.bind (Option.bind (Option.bind (some a1) fun x7 => lenL x7) fun x8 => Option.bind (some ()) fun x9 => some (x8, x9)) fun x10 => some (x6, x10)) fun x11 => (Option.bind (Option.bind (some a2) fun x12 => Option.bind (some (Prod.fst (Prod.fst (Prod.fst x11)))) fun x13 => atL x12 x13) fun x14 => (Option.bind (Option.bind (Option.bind (Option.bind (some (Prod.fst (Prod.snd x11))) fun x15 => Option.bind (some ()) fun x16 => some (x15, x16)) fun x17 => Option.bind (n__law_draw ((Prod.snd (Prod.fst (Prod.fst x11))) : (List Int)) ((Prod.fst x17) : Int)) fun x18 => some (x18, x17)) fun x19 => Option.bind (Option.bind (Option.bind (Option.bind (some (Prod.fst (Prod.snd x11))) fun x20 => Option.bind (some ()) fun x21 => some (x20, x21)) fun x22 => Option.bind (n__law_draw ((Prod.snd (Prod.fst x19)) : (List Int)) ((Prod.fst x22) : Int)) fun x23 => some (x23, x22)) fun x24 => Option.bind (some ()) fun x25 => some (x24, x25)) fun x26 => some (x19, x26)) fun x27 => (Option.bind (Option.bind (some x14) fun x28 => listL x28) fun x29 => (Option.bind (Option.bind (Option.bind (Option.bind (some x14) fun x30 => Option.bind (some (Prod.fst (Prod.fst (Prod.fst (Prod.snd x27))))) fun x31 => atL x30 x31) fun x32 => Option.bind (Option.bind (Option.bind (some x14) fun x33 => Option.bind (some (Prod.fst (Prod.fst (Prod.fst x27)))) fun x34 => atL x33 x34) fun x35 => Option.bind (some ()) fun x37 => some (x35, x37)) fun x38 => some (x32, x38)) fun x36 => some (((Prod.fst x36), (Prod.fst (Prod.snd x36))) : (Int × Int))) fun x39 => Option.bind (Option.bind (Option.bind (some (Prod.fst (Prod.fst (Prod.fst x27)))) fun x42 => stI x29 x42 (Prod.fst x39)) fun x41 => Option.bind (Option.bind (Option.bind (some (Prod.fst (Prod.fst (Prod.fst (Prod.snd x27))))) fun x44 => stI x41 x44 (Prod.snd x39)) fun x43 => Option.bind (some ()) fun x45 => some (x43, x45)) fun x46 => some (x41, x46)) fun x40 => (Option.bind (Option.bind (Option.bind (Option.bind (Option.bind (some a2) fun x48 => Option.bind (some none) fun x49 => Option.bind (Option.bind (some (Prod.fst (Prod.fst (Prod.fst x11)))) fun x47 => some (some x47)) fun x50 => some (cutL x48 x49 x50)) fun x57 => Option.bind (Option.bind (some a2) fun x54 => Option.bind (Option.bind (Option.bind (some (Prod.fst (Prod.fst (Prod.fst x11)))) fun x51 => Option.bind (some (1 : Int)) fun x52 => addI x51 x52) fun x53 => some (some x53)) fun x55 => Option.bind (some none) fun x56 => some (cutL x54 x55 x56)) fun x58 => catL x57 x58) fun x59 => Option.bind (Option.bind (Option.bind (Option.bind (Option.bind (some a2) fun x61 => Option.bind (some none) fun x62 => Option.bind (Option.bind (some (Prod.fst (Prod.fst (Prod.fst x11)))) fun x60 => some (some x60)) fun x63 => some (cutL x61 x62 x63)) fun x67 => Option.bind (Option.bind (Option.bind (some x14) fun x64 => Option.bind (some ()) fun x66 => some (x64, x66)) fun x65 => some ([(Prod.fst x65)] : (List (List Int)))) fun x68 => catL x67 x68) fun x73 => Option.bind (Option.bind (some a2) fun x70 => Option.bind (Option.bind (some (Prod.fst (Prod.fst (Prod.fst x11)))) fun x69 => some (some x69)) fun x71 => Option.bind (some none) fun x72 => some (cutL x70 x71 x72)) fun x74 => catL x73 x74) fun x75 => Option.bind (Option.bind (Option.bind (Option.bind (Option.bind (some a2) fun x77 => Option.bind (some none) fun x78 => Option.bind (Option.bind (some (Prod.fst (Prod.fst (Prod.fst x11)))) fun x76 => some (some x76)) fun x79 => some (cutL x77 x78 x79)) fun x85 => Option.bind (Option.bind (Option.bind (some (Prod.fst (Prod.snd x40))) fun x80 => Option.bind (some ()) fun x82 => some (x80, x82)) fun x81 => some (([(Prod.fst x81)] : (List (List Int))), x81)) fun x83 => Option.bind (catL x85 (Prod.fst x83)) fun x84 => some (x84, x85, x83)) fun x86 => Option.bind (Option.bind (some a2) fun x92 => Option.bind (Option.bind (Option.bind (some (Prod.fst (Prod.fst (Prod.fst x11)))) fun x89 => Option.bind (some (1 : Int)) fun x90 => addI x89 x90) fun x91 => some (some x91)) fun x93 => Option.bind (some none) fun x94 => some (cutL x92 x93 x94)) fun x87 => Option.bind (catL (Prod.fst x86) x87) fun x88 => some (x88, x86, x87)) fun x95 => Option.bind (some ()) fun x97 => some (x95, x97)) fun x98 => some (x75, x98)) fun x99 => some (x59, x99)) fun x96 => some (([(Prod.fst x96), (Prod.fst (Prod.snd x96)), (Prod.fst (Prod.fst (Prod.snd (Prod.snd x96))))] : (List (List (List Int)))), x96)) fun x100 => (Option.bind (Option.bind (Option.bind (some (Prod.fst x100)) fun x108 => some (List.map enc (x108 : (List (List (List Int)))))) fun x109 => Option.bind (Option.bind (Option.bind (Option.bind (some a2) fun x101 => revL x101) fun x102 => Option.bind (Option.bind (Option.bind (some a2) fun x103 => tupL x103) fun x104 => Option.bind (some ()) fun x106 => some (x104, x106)) fun x107 => some (x102, x107)) fun x105 => some ([(enc ((Prod.fst x105) : (List (List Int)))), (enc ((Prod.fst (Prod.snd x105)) : (Tp (List Int))))] : (List PyData))) fun x110 => catL x109 x110) fun x111 => (Option.bind (Option.bind (Option.bind (some ()) fun x112 => Option.bind (Option.bind (Option.bind (some x14) fun x113 => tupL x113) fun x114 => Option.bind (Option.bind (Option.bind (some x14) fun x116 => Option.bind (Option.bind (some (1 : Int)) fun x115 => some (some x115)) fun x117 => Option.bind (some none) fun x118 => some (cutL x116 x117 x118)) fun x119 => Option.bind (Option.bind (Option.bind (some x14) fun x123 => Option.bind (Option.bind (Option.bind (some (0 : Int)) fun x120 => Option.bind (some ()) fun x122 => some (x120, x122)) fun x121 => some ([(Prod.fst x121)] : (List Int))) fun x124 => catL x123 x124) fun x125 => Option.bind (Option.bind (Option.bind (some x14) fun x126 => if List.length (x126) ≤ cap then mapF x126 (fun x127 => (some true)) (fun x127 => (Option.bind (some x127) fun x128 => strI x128)) else none) fun x129 => Option.bind (Option.bind (some (0 : Int)) fun x130 => Option.bind (Option.bind (some ("" : Str)) fun x131 => Option.bind (Option.bind (Option.bind (Option.bind (some x14) fun x132 => Option.bind (some ()) fun x134 => some (x132, x134)) fun x133 => some ([(Prod.fst x133)] : (List (List Int)))) fun x135 => Option.bind (Option.bind (Option.bind (some x14) fun x136 => revL x136) fun x137 => Option.bind (some ()) fun x139 => some (x137, x139)) fun x140 => some (x135, x140)) fun x141 => some (x131, x141)) fun x142 => some (x130, x142)) fun x143 => some (x129, x143)) fun x144 => some (x125, x144)) fun x145 => some (x119, x145)) fun x146 => some (x114, x146)) fun x147 => some (x112, x147)) fun x138 => some ([(enc ((Prod.fst x138) : Unit)), (enc ((Prod.fst (Prod.snd x138)) : (Tp Int))), (enc ((Prod.fst (Prod.snd (Prod.snd x138))) : (List Int))), (enc ((Prod.fst (Prod.snd (Prod.snd (Prod.snd x138)))) : (List Int))), (enc ((Prod.fst (Prod.snd (Prod.snd (Prod.snd (Prod.snd x138))))) : (List Str))), (enc ((Prod.fst (Prod.snd (Prod.snd (Prod.snd (Prod.snd (Prod.snd x138)))))) : Int)), (enc ((Prod.fst (Prod.snd (Prod.snd (Prod.snd (Prod.snd (Prod.snd (Prod.snd x138))))))) : Str)), (enc ((Prod.fst (Prod.snd (Prod.snd (Prod.snd (Prod.snd (Prod.snd (Prod.snd (Prod.snd x138)))))))) : (List (List Int)))), (enc ((Prod.fst (Prod.snd (Prod.snd (Prod.snd (Prod.snd (Prod.snd (Prod.snd (Prod.snd (Prod.snd x138))))))))) : (List Int)))] : (List PyData))) fun x148 => Option.bind (forS x148 (x111 : (List PyData)) fun s150 x149 => (Option.bind (Option.bind (Option.bind (Option.bind (Option.bind (Option.bind (some a2) fun x152 => Option.bind (some none) fun x153 => Option.bind (Option.bind (some (Prod.fst (Prod.fst (Prod.fst x11)))) fun x151 => some (some x151)) fun x154 => some (cutL x152 x153 x154)) fun x158 => some (List.map enc (x158 : (List (List Int))))) fun x159 => Option.bind (Option.bind (Option.bind (some x149) fun x155 => Option.bind (some ()) fun x157 => some (x155, x157)) fun x156 => some ([(Prod.fst x156)] : (List PyData))) fun x160 => catL x159 x160) fun x168 => Option.bind (Option.bind (Option.bind (some a2) fun x164 => Option.bind (Option.bind (Option.bind (some (Prod.fst (Prod.fst (Prod.fst x11)))) fun x161 => Option.bind (some (1 : Int)) fun x162 => addI x161 x162) fun x163 => some (some x163)) fun x165 => Option.bind (some none) fun x166 => some (cutL x164 x165 x166)) fun x167 => some (List.map enc (x167 : (List (List Int))))) fun x169 => catL x168 x169) fun x170 => Option.bind (apL s150 (enc (x170 : (List PyData)))) fun x171 => some (x171, x170)) fun x172 => some ((Prod.fst x172) : (List PyData)))) fun s150 => (Option.bind (Option.bind (Option.bind (Option.bind (Option.bind (Option.bind (some a2) fun x174 => Option.bind (some none) fun x175 => Option.bind (Option.bind (some (Prod.fst (Prod.fst (Prod.fst x11)))) fun x173 => some (some x173)) fun x176 => some (cutL x174 x175 x176)) fun x189 => some (List.map enc (x189 : (List (List Int))))) fun x191 => Option.bind (Option.bind (Option.bind (Option.bind (Option.bind (some x14) fun x177 => if List.length (x177) ≤ cap then mapF x177 (fun x178 => (some true)) (fun x178 => (Option.bind (Option.bind (some x178) fun x179 => Option.bind (some (2 : Int)) fun x180 => ltI x179 x180) fun x185 => if x185 = true then (Option.bind (Option.bind (some x178) fun x181 => Option.bind (some (1 : Int)) fun x182 => eqN x181 x182) fun x183 => some ((enc (x183 : Bool)) : PyData)) else (Option.bind (some x178) fun x184 => some ((enc (x184 : Int)) : PyData)))) else none) fun x186 => Option.bind (some ()) fun x188 => some (x186, x188)) fun x187 => some ([(Prod.fst x187)] : (List (List PyData)))) fun x190 => some (List.map enc (x190 : (List (List PyData))))) fun x192 => catL x191 x192) fun x200 => Option.bind (Option.bind (Option.bind (some a2) fun x196 => Option.bind (Option.bind (Option.bind (some (Prod.fst (Prod.fst (Prod.fst x11)))) fun x193 => Option.bind (some (1 : Int)) fun x194 => addI x193 x194) fun x195 => some (some x195)) fun x197 => Option.bind (some none) fun x198 => some (cutL x196 x197 x198)) fun x199 => some (List.map enc (x199 : (List (List Int))))) fun x201 => catL x200 x201) fun x202 => Option.bind (apL s150 (enc (x202 : (List PyData)))) fun x203 => some (x203, x202)) fun x204 => (Option.bind (Option.bind (Option.bind (Option.bind (some (Prod.fst (Prod.fst (Prod.fst x11)))) fun x205 => Option.bind (some (1 : Int)) fun x206 => addI x205 x206) fun x208 => Option.bind (Option.bind (some a2) fun x207 => lenL x207) fun x209 => ltI x208 x209) fun x215 => if x215 = true then (Option.bind (some a2) fun x212 => Option.bind (Option.bind (some (Prod.fst (Prod.fst (Prod.fst x11)))) fun x210 => Option.bind (some (1 : Int)) fun x211 => addI x210 x211) fun x213 => atL x212 x213) else (Option.bind (some x14) fun x214 => revL x214)) fun x216 => (Option.bind (Option.bind (some (Prod.fst x204)) fun x270 => Option.bind (Option.bind (Option.bind (Option.bind (Option.bind (Option.bind (some a2) fun x218 => Option.bind (some none) fun x219 => Option.bind (Option.bind (some (Prod.fst (Prod.fst (Prod.fst x11)))) fun x217 => some (some x217)) fun x220 => some (cutL x218 x219 x220)) fun x228 => Option.bind (Option.bind (Option.bind (some x14) fun x221 => Option.bind (Option.bind (some x216) fun x222 => Option.bind (Option.bind (some x14) fun x223 => Option.bind (some ()) fun x225 => some (x223, x225)) fun x226 => some (x222, x226)) fun x227 => some (x221, x227)) fun x224 => some ([(Prod.fst x224), (Prod.fst (Prod.snd x224)), (Prod.fst (Prod.snd (Prod.snd x224)))] : (List (List Int)))) fun x229 => catL x228 x229) fun x236 => Option.bind (Option.bind (some a2) fun x233 => Option.bind (Option.bind (Option.bind (some (Prod.fst (Prod.fst (Prod.fst x11)))) fun x230 => Option.bind (some (1 : Int)) fun x231 => addI x230 x231) fun x232 => some (some x232)) fun x234 => Option.bind (some none) fun x235 => some (cutL x233 x234 x235)) fun x237 => catL x236 x237) fun x238 => Option.bind (Option.bind (Option.bind (some a2) fun x244 => Option.bind (Option.bind (some a2) fun x241 => Option.bind (Option.bind (Option.bind (some (1 : Int)) fun x239 => negI x239) fun x240 => some (some x240)) fun x242 => Option.bind (some none) fun x243 => some (cutL x241 x242 x243)) fun x245 => catL x244 x245) fun x246 => Option.bind (Option.bind (Option.bind (some a2) fun x248 => Option.bind (some none) fun x249 => Option.bind (Option.bind (some (1 : Int)) fun x247 => some (some x247)) fun x250 => some (cutL x248 x249 x250)) fun x251 => Option.bind (Option.bind (Option.bind (some a2) fun x254 => Option.bind (Option.bind (Option.bind (some (1 : Int)) fun x252 => negI x252) fun x253 => some (some x253)) fun x255 => Option.bind (some none) fun x256 => some (cutL x254 x255 x256)) fun x257 => Option.bind (Option.bind (Option.bind (Option.bind (some a2) fun x258 => Option.bind (some ()) fun x260 => some (x258, x260)) fun x259 => some ([(Prod.fst x259)] : (List (List (List Int))))) fun x261 => Option.bind (Option.bind (some []) fun x262 => Option.bind (some ()) fun x264 => some (x262, x264)) fun x265 => some (x261, x265)) fun x266 => some (x257, x266)) fun x267 => some (x251, x267)) fun x268 => some (x246, x268)) fun x269 => some (x238, x269)) fun x263 => some ([(enc ((Prod.fst x263) : (List (List Int)))), (enc ((Prod.fst (Prod.snd x263)) : (List (List Int)))), (enc ((Prod.fst (Prod.snd (Prod.snd x263))) : (List (List Int)))), (enc ((Prod.fst (Prod.snd (Prod.snd (Prod.snd x263)))) : (List (List Int)))), (enc ((Prod.fst (Prod.snd (Prod.snd (Prod.snd (Prod.snd x263))))) : (List (List (List Int))))), (enc ((Prod.fst (Prod.snd (Prod.snd (Prod.snd (Prod.snd (Prod.snd x263)))))) : (List (List PyData))))] : (List PyData))) fun x271 => catL x270 x271) fun x272 => some (x272, (Prod.snd (Prod.fst (Prod.fst (Prod.snd x27))))))))))))))))
theorem V__law_bent (a0 : (List Int)) (a1 : (List Int)) (a2 : (List (List Int))) : Fun F__law_bent (n__law_bent a0 a1 a2) [ow a0, .fz (enc a1), .fz (enc a2)] (fun r : ((List PyData) × (List Int)) => ow ((Prod.fst r) : (List PyData))) fun r => [ow (Prod.snd r), .no, .no] :=
  fun_of (ΓR := fun r => [.eq (ow ((Prod.snd r) : (List Int))), .aa, .aa, .aa, .aa, .aa, .aa, .aa, .aa, .aa, .aa, .aa, .aa]) (show Bl B__law_bent _ _ _ from (bl_ga [.eq (ow (a0 : (List Int))), .eq (.fz (enc (a1 : (List Int)))), .eq (.fz (enc (a2 : (List (List Int))))), .eq .no, .eq .no, .eq .no, .eq .no, .eq .no, .eq .no, .eq .no, .eq .no, .eq .no, .eq .no] (by kernel_rfl) (bl_par (ag_cons ((ev_callG (ag_io (k := 0) rfl rfl (ag_cons (((pu1A Nv.op_len (((pu_var 2 rfl)).rd).ra)).tkP).ev fun x2 => ag_nil)) (fun x4 => V__law_draw (a0 : (List Int)) ((Prod.fst x4) : Int)))).tk fun x6 => (ag_ga [.eq (ow ((Prod.snd (Prod.fst x6)) : (List Int))), .eq (.fz (enc (a1 : (List Int)))), .eq (.fz (enc (a2 : (List (List Int))))), .eq .no, .eq .no, .eq .no, .eq .no, .eq .no, .eq .no, .eq .no, .eq .no, .eq .no, .eq .no] (by kernel_rfl) (ag_cons (((pu1A Nv.op_len (((pu_var 1 rfl)).rd).ra)).tkP).ev fun x8 => ag_nil))) fun x11 => (bl_ga [.eq (ow ((Prod.snd (Prod.fst (Prod.fst x11))) : (List Int))), .eq (.fz (enc (a1 : (List Int)))), .eq (.fz (enc (a2 : (List (List Int))))), .eq .no, .eq .no, .eq .no, .eq .no, .eq .no, .eq (.fz (enc ((Prod.fst (Prod.fst (Prod.fst x11))) : Int))), .eq (.fz (enc ((Prod.fst (Prod.snd x11)) : Int))), .eq .no, .eq .no, .eq .no] (by kernel_rfl) (bl_asgV (((pu2 Nv.op_ix2 ((pu_var 2 rfl)).rd ((pu_var 8 rfl)).rd)).tkP).ev fun x14 => (bl_ga [.eq (ow ((Prod.snd (Prod.fst (Prod.fst x11))) : (List Int))), .eq (.fz (enc (a1 : (List Int)))), .eq (.fz (enc (a2 : (List (List Int))))), .eq (.fz (enc (x14 : (List Int)))), .eq .no, .eq .no, .eq .no, .eq .no, .eq (.fz (enc ((Prod.fst (Prod.fst (Prod.fst x11))) : Int))), .eq (.fz (enc ((Prod.fst (Prod.snd x11)) : Int))), .eq .no, .eq .no, .eq .no] (by kernel_rfl) (bl_par (ag_cons ((ev_callG (ag_io (k := 0) rfl rfl (ag_cons (((pu_var 9 rfl)).tkP).ev fun x15 => ag_nil)) (fun x17 => V__law_draw ((Prod.snd (Prod.fst (Prod.fst x11))) : (List Int)) ((Prod.fst x17) : Int)))).tk fun x19 => (ag_ga [.eq (ow ((Prod.snd (Prod.fst x19)) : (List Int))), .eq (.fz (enc (a1 : (List Int)))), .eq (.fz (enc (a2 : (List (List Int))))), .eq (.fz (enc (x14 : (List Int)))), .eq .no, .eq .no, .eq .no, .eq .no, .eq (.fz (enc ((Prod.fst (Prod.fst (Prod.fst x11))) : Int))), .eq (.fz (enc ((Prod.fst (Prod.snd x11)) : Int))), .eq .no, .eq .no, .eq .no] (by kernel_rfl) (ag_cons ((ev_callG (ag_io (k := 0) rfl rfl (ag_cons (((pu_var 9 rfl)).tkP).ev fun x20 => ag_nil)) (fun x22 => V__law_draw ((Prod.snd (Prod.fst x19)) : (List Int)) ((Prod.fst x22) : Int)))).tk fun x24 => (ag_ga [.eq (ow ((Prod.snd (Prod.fst x24)) : (List Int))), .eq (.fz (enc (a1 : (List Int)))), .eq (.fz (enc (a2 : (List (List Int))))), .eq (.fz (enc (x14 : (List Int)))), .eq .no, .eq .no, .eq .no, .eq .no, .eq (.fz (enc ((Prod.fst (Prod.fst (Prod.fst x11))) : Int))), .eq (.fz (enc ((Prod.fst (Prod.snd x11)) : Int))), .eq .no, .eq .no, .eq .no] (by kernel_rfl) ag_nil)))) fun x27 => (bl_ga [.eq (ow ((Prod.snd (Prod.fst (Prod.fst (Prod.snd x27)))) : (List Int))), .eq (.fz (enc (a1 : (List Int)))), .eq (.fz (enc (a2 : (List (List Int))))), .eq (.fz (enc (x14 : (List Int)))), .eq .no, .eq .no, .eq .no, .eq .no, .eq (.fz (enc ((Prod.fst (Prod.fst (Prod.fst x11))) : Int))), .eq (.fz (enc ((Prod.fst (Prod.snd x11)) : Int))), .eq (.fz (enc ((Prod.fst (Prod.fst (Prod.fst x27))) : Int))), .eq (.fz (enc ((Prod.fst (Prod.fst (Prod.fst (Prod.snd x27)))) : Int))), .eq .no] (by kernel_rfl) (bl_asgT ((pu1 Nv.op_list ((pu_var 3 rfl)).rd)).ev fun x29 => (bl_ga [.eq (ow ((Prod.snd (Prod.fst (Prod.fst (Prod.snd x27)))) : (List Int))), .eq (.fz (enc (a1 : (List Int)))), .eq (.fz (enc (a2 : (List (List Int))))), .eq (.fz (enc (x14 : (List Int)))), .eq (ow (x29 : (List Int))), .eq .no, .eq .no, .eq .no, .eq (.fz (enc ((Prod.fst (Prod.fst (Prod.fst x11))) : Int))), .eq (.fz (enc ((Prod.fst (Prod.snd x11)) : Int))), .eq (.fz (enc ((Prod.fst (Prod.fst (Prod.fst x27))) : Int))), .eq (.fz (enc ((Prod.fst (Prod.fst (Prod.fst (Prod.snd x27)))) : Int))), .eq .no] (by kernel_rfl) (bl_asgE ((pu_tup (dp_cons ((pu2 Nv.op_ix2 ((pu_var 3 rfl)).rd ((pu_var 11 rfl)).rd)).tkP (dp_cons ((pu2 Nv.op_ix2 ((pu_var 3 rfl)).rd ((pu_var 10 rfl)).rd)).tkP dp_nil)) (fun x36 => (((Prod.fst x36), (Prod.fst (Prod.snd x36))) : (Int × Int))))).ev (fun x39 => (tge_t (tgse_cons (tge_s (k := 4) rfl ((pu_var 10 rfl)).rd) fun x41 => (tgse_ga [.eq (ow ((Prod.snd (Prod.fst (Prod.fst (Prod.snd x27)))) : (List Int))), .eq (.fz (enc (a1 : (List Int)))), .eq (.fz (enc (a2 : (List (List Int))))), .eq (.fz (enc (x14 : (List Int)))), .eq (ow (x41 : (List Int))), .eq .no, .eq .no, .eq .no, .eq (.fz (enc ((Prod.fst (Prod.fst (Prod.fst x11))) : Int))), .eq (.fz (enc ((Prod.fst (Prod.snd x11)) : Int))), .eq (.fz (enc ((Prod.fst (Prod.fst (Prod.fst x27))) : Int))), .eq (.fz (enc ((Prod.fst (Prod.fst (Prod.fst (Prod.snd x27)))) : Int))), .eq .no] (by kernel_rfl) (tgse_cons (tge_s (k := 4) rfl ((pu_var 11 rfl)).rd) fun x43 => (tgse_ga [.eq (ow ((Prod.snd (Prod.fst (Prod.fst (Prod.snd x27)))) : (List Int))), .eq (.fz (enc (a1 : (List Int)))), .eq (.fz (enc (a2 : (List (List Int))))), .eq (.fz (enc (x14 : (List Int)))), .eq (ow (x43 : (List Int))), .eq .no, .eq .no, .eq .no, .eq (.fz (enc ((Prod.fst (Prod.fst (Prod.fst x11))) : Int))), .eq (.fz (enc ((Prod.fst (Prod.snd x11)) : Int))), .eq (.fz (enc ((Prod.fst (Prod.fst (Prod.fst x27))) : Int))), .eq (.fz (enc ((Prod.fst (Prod.fst (Prod.fst (Prod.snd x27)))) : Int))), .eq .no] (by kernel_rfl) tgse_nil)))))) fun x39 x40 => (bl_ga [.eq (ow ((Prod.snd (Prod.fst (Prod.fst (Prod.snd x27)))) : (List Int))), .eq (.fz (enc (a1 : (List Int)))), .eq (.fz (enc (a2 : (List (List Int))))), .eq (.fz (enc (x14 : (List Int)))), .eq (ow ((Prod.fst (Prod.snd x40)) : (List Int))), .eq .no, .eq .no, .eq .no, .eq (.fz (enc ((Prod.fst (Prod.fst (Prod.fst x11))) : Int))), .eq (.fz (enc ((Prod.fst (Prod.snd x11)) : Int))), .eq (.fz (enc ((Prod.fst (Prod.fst (Prod.fst x27))) : Int))), .eq (.fz (enc ((Prod.fst (Prod.fst (Prod.fst (Prod.snd x27)))) : Int))), .eq .no] (by kernel_rfl) (bl_asgT (ev_lst (dl_cons ((((pu2 Nv.op_cat (((pu_sl ((pu_var 2 rfl)).rd .no (.yes ((pu_var 8 rfl)).rd))).rdT ow_tree) (((pu_sl ((pu_var 2 rfl)).rd (.yes ((pu2 Nv.op_add ((pu_var 8 rfl)).rd (pu_c).rd)).rd) .no)).rdT ow_tree))).tkTP ow_tree)).ev fun x59 => (dl_cons ((((pu2 Nv.op_cat (((pu2 Nv.op_cat (((pu_sl ((pu_var 2 rfl)).rd .no (.yes ((pu_var 8 rfl)).rd))).rdT ow_tree) (((pu_lst (dp_cons ((pu_var 3 rfl)).tkP dp_nil) (fun x65 => ([(Prod.fst x65)] : (List (List Int)))))).rdT ow_tree))).rdT ow_tree) (((pu_sl ((pu_var 2 rfl)).rd (.yes ((pu_var 8 rfl)).rd) .no)).rdT ow_tree))).tkTP ow_tree)).ev fun x75 => (dl_cons (((ev2g Nv.op_cat (va := fun x86 => (Prod.fst x86)) (vb := fun x86 x87 => x87) (((ev2g Nv.op_cat (va := fun x85 => x85) (vb := fun x85 x83 => (Prod.fst x83)) (((pu_sl ((pu_var 2 rfl)).rd .no (.yes ((pu_var 8 rfl)).rd))).ev.erT fun _ => ow_tree _) fun x85 => ((((ev_lst (dl_cons (tk_own 4 rfl) fun x80 => (dl_ga [.eq (ow ((Prod.snd (Prod.fst (Prod.fst (Prod.snd x27)))) : (List Int))), .eq (.fz (enc (a1 : (List Int)))), .eq (.fz (enc (a2 : (List (List Int))))), .eq (.fz (enc (x14 : (List Int)))), .eq (.fz (enc (x80 : (List Int)))), .eq .no, .eq .no, .eq .no, .eq (.fz (enc ((Prod.fst (Prod.fst (Prod.fst x11))) : Int))), .eq (.fz (enc ((Prod.fst (Prod.snd x11)) : Int))), .eq (.fz (enc ((Prod.fst (Prod.fst (Prod.fst x27))) : Int))), .eq (.fz (enc ((Prod.fst (Prod.fst (Prod.fst (Prod.snd x27)))) : Int))), .eq .no] (by kernel_rfl) dl_nil)) (fun x81 => ([(Prod.fst x81)] : (List (List Int)))))).erT fun _ => ow_tree _)).es)).erT fun _ => ow_tree _) fun x86 => (es_ga [.eq (ow ((Prod.snd (Prod.fst (Prod.fst (Prod.snd x27)))) : (List Int))), .eq (.fz (enc (a1 : (List Int)))), .eq (.fz (enc (a2 : (List (List Int))))), .eq (.fz (enc (x14 : (List Int)))), .eq (.fz (enc ((Prod.fst (Prod.snd (Prod.snd (Prod.snd x86)))) : (List Int)))), .eq .no, .eq .no, .eq .no, .eq (.fz (enc ((Prod.fst (Prod.fst (Prod.fst x11))) : Int))), .eq (.fz (enc ((Prod.fst (Prod.snd x11)) : Int))), .eq (.fz (enc ((Prod.fst (Prod.fst (Prod.fst x27))) : Int))), .eq (.fz (enc ((Prod.fst (Prod.fst (Prod.fst (Prod.snd x27)))) : Int))), .eq .no] (by kernel_rfl) ((((pu_sl ((pu_var 2 rfl)).rd (.yes ((pu2 Nv.op_add ((pu_var 8 rfl)).rd (pu_c).rd)).rd) .no)).rdT ow_tree)).es))).tkT fun _ => ow_tree _) fun x95 => (dl_ga [.eq (ow ((Prod.snd (Prod.fst (Prod.fst (Prod.snd x27)))) : (List Int))), .eq (.fz (enc (a1 : (List Int)))), .eq (.fz (enc (a2 : (List (List Int))))), .eq (.fz (enc (x14 : (List Int)))), .eq (.fz (enc ((Prod.fst (Prod.snd (Prod.snd (Prod.snd (Prod.fst (Prod.snd x95)))))) : (List Int)))), .eq .no, .eq .no, .eq .no, .eq (.fz (enc ((Prod.fst (Prod.fst (Prod.fst x11))) : Int))), .eq (.fz (enc ((Prod.fst (Prod.snd x11)) : Int))), .eq (.fz (enc ((Prod.fst (Prod.fst (Prod.fst x27))) : Int))), .eq (.fz (enc ((Prod.fst (Prod.fst (Prod.fst (Prod.snd x27)))) : Int))), .eq .no] (by kernel_rfl) dl_nil)))) (fun x96 => ([(Prod.fst x96), (Prod.fst (Prod.snd x96)), (Prod.fst (Prod.fst (Prod.snd (Prod.snd x96))))] : (List (List (List Int)))))) fun x100 => (bl_ga [.eq (ow ((Prod.snd (Prod.fst (Prod.fst (Prod.snd x27)))) : (List Int))), .eq (.fz (enc (a1 : (List Int)))), .eq (.fz (enc (a2 : (List (List Int))))), .eq (.fz (enc (x14 : (List Int)))), .eq (.fz (enc ((Prod.fst (Prod.snd (Prod.snd (Prod.snd (Prod.fst (Prod.snd (Prod.fst (Prod.snd (Prod.snd (Prod.snd x100)))))))))) : (List Int)))), .eq (ow ((Prod.fst x100) : (List (List (List Int))))), .eq .no, .eq .no, .eq (.fz (enc ((Prod.fst (Prod.fst (Prod.fst x11))) : Int))), .eq (.fz (enc ((Prod.fst (Prod.snd x11)) : Int))), .eq (.fz (enc ((Prod.fst (Prod.fst (Prod.fst x27))) : Int))), .eq (.fz (enc ((Prod.fst (Prod.fst (Prod.fst (Prod.snd x27)))) : Int))), .eq .no] (by kernel_rfl) (bl_asgT ((pu2 Nv.op_cat (Rd.anyL (rd_own 5 rfl)) (((pu_lst (dp_cons (((pu1 Nv.op_rev ((pu_var 2 rfl)).rd)).tkTP ow_tree) (dp_cons ((pu1 Nv.op_tup ((pu_var 2 rfl)).rd)).tkP dp_nil)) (fun x105 => ([(enc ((Prod.fst x105) : (List (List Int)))), (enc ((Prod.fst (Prod.snd x105)) : (Tp (List Int))))] : (List PyData))))).rdT ow_tree))).ev fun x111 => (bl_ga [.eq (ow ((Prod.snd (Prod.fst (Prod.fst (Prod.snd x27)))) : (List Int))), .eq (.fz (enc (a1 : (List Int)))), .eq (.fz (enc (a2 : (List (List Int))))), .eq (.fz (enc (x14 : (List Int)))), .eq (.fz (enc ((Prod.fst (Prod.snd (Prod.snd (Prod.snd (Prod.fst (Prod.snd (Prod.fst (Prod.snd (Prod.snd (Prod.snd x100)))))))))) : (List Int)))), .eq (ow (x111 : (List PyData))), .eq .no, .eq .no, .eq (.fz (enc ((Prod.fst (Prod.fst (Prod.fst x11))) : Int))), .eq (.fz (enc ((Prod.fst (Prod.snd x11)) : Int))), .eq (.fz (enc ((Prod.fst (Prod.fst (Prod.fst x27))) : Int))), .eq (.fz (enc ((Prod.fst (Prod.fst (Prod.fst (Prod.snd x27)))) : Int))), .eq .no] (by kernel_rfl) (bl_for (vs := [6]) (xs := fun x148 => x148) (s0 := fun x148 => (x111 : (List PyData))) (ΓL := fun x148 (s150 : (List PyData)) => [.eq (ow ((Prod.snd (Prod.fst (Prod.fst (Prod.snd x27)))) : (List Int))), .eq (.fz (enc (a1 : (List Int)))), .eq (.fz (enc (a2 : (List (List Int))))), .eq (.fz (enc (x14 : (List Int)))), .eq (.fz (enc ((Prod.fst (Prod.snd (Prod.snd (Prod.snd (Prod.fst (Prod.snd (Prod.fst (Prod.snd (Prod.snd (Prod.snd x100)))))))))) : (List Int)))), .eq (ow (s150 : (List PyData))), .pl, .eq .no, .eq (.fz (enc ((Prod.fst (Prod.fst (Prod.fst x11))) : Int))), .eq (.fz (enc ((Prod.fst (Prod.snd x11)) : Int))), .eq (.fz (enc ((Prod.fst (Prod.fst (Prod.fst x27))) : Int))), .eq (.fz (enc ((Prod.fst (Prod.fst (Prod.fst (Prod.snd x27)))) : Int))), .eq .no]) ((ip_seq (xs := fun v => v) (((pu_lst (dp_cons (pu_none).tkP (dp_cons ((pu1 Nv.op_tup ((pu_var 3 rfl)).rd)).tkP (dp_cons (((pu_sl ((pu_var 3 rfl)).rd (.yes (pu_c).rd) .no)).tkTP ow_tree) (dp_cons (((pu2 Nv.op_cat ((pu_var 3 rfl)).rd (((pu_lst (dp_cons (pu_c).tkP dp_nil) (fun x121 => ([(Prod.fst x121)] : (List Int))))).rdT ow_tree))).tkTP ow_tree) (dp_cons (((pu_lc (vs := [12]) (ip_seq (xs := fun v => v) ((pu_var 3 rfl)).tkP) rfl rfl (fun x126 x127 => tg_n) (fun x126 x127 => (ts_ga [.eq (ow ((Prod.snd (Prod.fst (Prod.fst (Prod.snd x27)))) : (List Int))), .eq (.fz (enc (a1 : (List Int)))), .eq (.fz (enc (a2 : (List (List Int))))), .eq (.fz (enc (x14 : (List Int)))), .eq (.fz (enc ((Prod.fst (Prod.snd (Prod.snd (Prod.snd (Prod.fst (Prod.snd (Prod.fst (Prod.snd (Prod.snd (Prod.snd x100)))))))))) : (List Int)))), .eq (ow (x111 : (List PyData))), .eq .no, .eq .no, .eq (.fz (enc ((Prod.fst (Prod.fst (Prod.fst x11))) : Int))), .eq (.fz (enc ((Prod.fst (Prod.snd x11)) : Int))), .eq (.fz (enc ((Prod.fst (Prod.fst (Prod.fst x27))) : Int))), .eq (.fz (enc ((Prod.fst (Prod.fst (Prod.fst (Prod.snd x27)))) : Int))), .eq (.fz (enc (x127 : Int)))] (by kernel_rfl) ts_ok)) fun x126 x127 => (pu_ga [.eq (ow ((Prod.snd (Prod.fst (Prod.fst (Prod.snd x27)))) : (List Int))), .eq (.fz (enc (a1 : (List Int)))), .eq (.fz (enc (a2 : (List (List Int))))), .eq (.fz (enc (x14 : (List Int)))), .eq (.fz (enc ((Prod.fst (Prod.snd (Prod.snd (Prod.snd (Prod.fst (Prod.snd (Prod.fst (Prod.snd (Prod.snd (Prod.snd x100)))))))))) : (List Int)))), .eq (ow (x111 : (List PyData))), .eq .no, .eq .no, .eq (.fz (enc ((Prod.fst (Prod.fst (Prod.fst x11))) : Int))), .eq (.fz (enc ((Prod.fst (Prod.snd x11)) : Int))), .eq (.fz (enc ((Prod.fst (Prod.fst (Prod.fst x27))) : Int))), .eq (.fz (enc ((Prod.fst (Prod.fst (Prod.fst (Prod.snd x27)))) : Int))), .eq (.fz (enc (x127 : Int)))] (by kernel_rfl) ((pu1A Nv.op_strI (((pu_var 12 rfl)).rd).ra)).tkP))).tkTP ow_tree) (dp_cons (pu_c).tkP (dp_cons (pu_c).tkP (dp_cons (((pu_lst (dp_cons ((pu_var 3 rfl)).tkP dp_nil) (fun x133 => ([(Prod.fst x133)] : (List (List Int)))))).tkTP ow_tree) (dp_cons (((pu1 Nv.op_rev ((pu_var 3 rfl)).rd)).tkTP ow_tree) dp_nil))))))))) (fun x138 => ([(enc ((Prod.fst x138) : Unit)), (enc ((Prod.fst (Prod.snd x138)) : (Tp Int))), (enc ((Prod.fst (Prod.snd (Prod.snd x138))) : (List Int))), (enc ((Prod.fst (Prod.snd (Prod.snd (Prod.snd x138)))) : (List Int))), (enc ((Prod.fst (Prod.snd (Prod.snd (Prod.snd (Prod.snd x138))))) : (List Str))), (enc ((Prod.fst (Prod.snd (Prod.snd (Prod.snd (Prod.snd (Prod.snd x138)))))) : Int)), (enc ((Prod.fst (Prod.snd (Prod.snd (Prod.snd (Prod.snd (Prod.snd (Prod.snd x138))))))) : Str)), (enc ((Prod.fst (Prod.snd (Prod.snd (Prod.snd (Prod.snd (Prod.snd (Prod.snd (Prod.snd x138)))))))) : (List (List Int)))), (enc ((Prod.fst (Prod.snd (Prod.snd (Prod.snd (Prod.snd (Prod.snd (Prod.snd (Prod.snd (Prod.snd x138))))))))) : (List Int)))] : (List PyData))))).tkTP ow_tree))).it (fun x148 => (.cons .rfl (.cons .rfl (.cons .rfl (.cons .rfl (.cons .rfl (.cons .rfl (.cons .no (.cons .rfl (.cons .rfl (.cons .rfl (.cons .rfl (.cons .rfl (.cons .rfl .nil)))))))))))))) (fun x148 s150 x149 => tg_n) (fun x148 s150 x149 => (bl_ga [.eq (ow ((Prod.snd (Prod.fst (Prod.fst (Prod.snd x27)))) : (List Int))), .eq (.fz (enc (a1 : (List Int)))), .eq (.fz (enc (a2 : (List (List Int))))), .eq (.fz (enc (x14 : (List Int)))), .eq (.fz (enc ((Prod.fst (Prod.snd (Prod.snd (Prod.snd (Prod.fst (Prod.snd (Prod.fst (Prod.snd (Prod.snd (Prod.snd x100)))))))))) : (List Int)))), .eq (ow (s150 : (List PyData))), .eq (.fz (enc (x149 : PyData))), .eq .no, .eq (.fz (enc ((Prod.fst (Prod.fst (Prod.fst x11))) : Int))), .eq (.fz (enc ((Prod.fst (Prod.snd x11)) : Int))), .eq (.fz (enc ((Prod.fst (Prod.fst (Prod.fst x27))) : Int))), .eq (.fz (enc ((Prod.fst (Prod.fst (Prod.fst (Prod.snd x27)))) : Int))), .eq .no] (by kernel_rfl) (bl_last (bl_expr (ev_app (k := 5) (va := fun x170 => (enc (x170 : (List PyData)))) (xs := fun x170 => s150) rfl rfl ((((pu2 Nv.op_cat (((pu2 Nv.op_cat (Rd.anyL (((pu_sl ((pu_var 2 rfl)).rd .no (.yes ((pu_var 8 rfl)).rd))).rdT ow_tree)) (((pu_lst (dp_cons ((pu_var 6 rfl)).tkP dp_nil) (fun x156 => ([(Prod.fst x156)] : (List PyData))))).rdT ow_tree))).rdT ow_tree) (Rd.anyL (((pu_sl ((pu_var 2 rfl)).rd (.yes ((pu2 Nv.op_add ((pu_var 8 rfl)).rd (pu_c).rd)).rd) .no)).rdT ow_tree)))).tkTP ow_tree)).ev fun _ => rfl) fun x172 => (bl_ga [.eq (ow ((Prod.snd (Prod.fst (Prod.fst (Prod.snd x27)))) : (List Int))), .eq (.fz (enc (a1 : (List Int)))), .eq (.fz (enc (a2 : (List (List Int))))), .eq (.fz (enc (x14 : (List Int)))), .eq (.fz (enc ((Prod.fst (Prod.snd (Prod.snd (Prod.snd (Prod.fst (Prod.snd (Prod.fst (Prod.snd (Prod.snd (Prod.snd x100)))))))))) : (List Int)))), .eq (ow ((Prod.fst x172) : (List PyData))), .eq (.fz (enc (x149 : PyData))), .eq .no, .eq (.fz (enc ((Prod.fst (Prod.fst (Prod.fst x11))) : Int))), .eq (.fz (enc ((Prod.fst (Prod.snd x11)) : Int))), .eq (.fz (enc ((Prod.fst (Prod.fst (Prod.fst x27))) : Int))), .eq (.fz (enc ((Prod.fst (Prod.fst (Prod.fst (Prod.snd x27)))) : Int))), .eq .no] (by kernel_rfl) (bl_end (rs_nx (.cons .rfl (.cons .rfl (.cons .rfl (.cons .rfl (.cons .rfl (.cons .rfl (.cons .fz (.cons .rfl (.cons .rfl (.cons .rfl (.cons .rfl (.cons .rfl (.cons .rfl .nil)))))))))))))))))))) fun x148 s150 => (bl_expr (ev_app (k := 5) (va := fun x202 => (enc (x202 : (List PyData)))) (xs := fun x202 => s150) rfl rfl ((((pu2 Nv.op_cat (((pu2 Nv.op_cat (Rd.anyL (((pu_sl ((pu_var 2 rfl)).rd .no (.yes ((pu_var 8 rfl)).rd))).rdT ow_tree)) (Rd.anyL (((pu_lst (dp_cons (((pu_lc (vs := [6]) (ip_seq (xs := fun v => v) ((pu_var 3 rfl)).tkP) rfl rfl (fun x177 x178 => tg_n) (fun x177 x178 => (ts_ga [.eq (ow ((Prod.snd (Prod.fst (Prod.fst (Prod.snd x27)))) : (List Int))), .eq (.fz (enc (a1 : (List Int)))), .eq (.fz (enc (a2 : (List (List Int))))), .eq (.fz (enc (x14 : (List Int)))), .eq (.fz (enc ((Prod.fst (Prod.snd (Prod.snd (Prod.snd (Prod.fst (Prod.snd (Prod.fst (Prod.snd (Prod.snd (Prod.snd x100)))))))))) : (List Int)))), .eq (ow (s150 : (List PyData))), .eq (.fz (enc (x178 : Int))), .eq .no, .eq (.fz (enc ((Prod.fst (Prod.fst (Prod.fst x11))) : Int))), .eq (.fz (enc ((Prod.fst (Prod.snd x11)) : Int))), .eq (.fz (enc ((Prod.fst (Prod.fst (Prod.fst x27))) : Int))), .eq (.fz (enc ((Prod.fst (Prod.fst (Prod.fst (Prod.snd x27)))) : Int))), .eq .no] (by kernel_rfl) ts_ok)) fun x177 x178 => (pu_ga [.eq (ow ((Prod.snd (Prod.fst (Prod.fst (Prod.snd x27)))) : (List Int))), .eq (.fz (enc (a1 : (List Int)))), .eq (.fz (enc (a2 : (List (List Int))))), .eq (.fz (enc (x14 : (List Int)))), .eq (.fz (enc ((Prod.fst (Prod.snd (Prod.snd (Prod.snd (Prod.fst (Prod.snd (Prod.fst (Prod.snd (Prod.snd (Prod.snd x100)))))))))) : (List Int)))), .eq (ow (s150 : (List PyData))), .eq (.fz (enc (x178 : Int))), .eq .no, .eq (.fz (enc ((Prod.fst (Prod.fst (Prod.fst x11))) : Int))), .eq (.fz (enc ((Prod.fst (Prod.snd x11)) : Int))), .eq (.fz (enc ((Prod.fst (Prod.fst (Prod.fst x27))) : Int))), .eq (.fz (enc ((Prod.fst (Prod.fst (Prod.fst (Prod.snd x27)))) : Int))), .eq .no] (by kernel_rfl) ((pu_if (ts_tst (pu2 Nv.op_lt ((pu_var 6 rfl)).rd (pu_c).rd)) (pu_co (fun x183 => ((enc (x183 : Bool)) : PyData)) (pu2A Nv.op_eq (((pu_var 6 rfl)).rd).ra ((pu_c).rd).ra)) (pu_co (fun x184 => ((enc (x184 : Int)) : PyData)) (pu_var 6 rfl)))).tkP))).tkTP ow_tree) dp_nil) (fun x187 => ([(Prod.fst x187)] : (List (List PyData)))))).rdT ow_tree)))).rdT ow_tree) (Rd.anyL (((pu_sl ((pu_var 2 rfl)).rd (.yes ((pu2 Nv.op_add ((pu_var 8 rfl)).rd (pu_c).rd)).rd) .no)).rdT ow_tree)))).tkTP ow_tree)).ev fun _ => rfl) fun x204 => (bl_ga [.eq (ow ((Prod.snd (Prod.fst (Prod.fst (Prod.snd x27)))) : (List Int))), .eq (.fz (enc (a1 : (List Int)))), .eq (.fz (enc (a2 : (List (List Int))))), .eq (.fz (enc (x14 : (List Int)))), .eq (.fz (enc ((Prod.fst (Prod.snd (Prod.snd (Prod.snd (Prod.fst (Prod.snd (Prod.fst (Prod.snd (Prod.snd (Prod.snd x100)))))))))) : (List Int)))), .eq (ow ((Prod.fst x204) : (List PyData))), .pl, .eq .no, .eq (.fz (enc ((Prod.fst (Prod.fst (Prod.fst x11))) : Int))), .eq (.fz (enc ((Prod.fst (Prod.snd x11)) : Int))), .eq (.fz (enc ((Prod.fst (Prod.fst (Prod.fst x27))) : Int))), .eq (.fz (enc ((Prod.fst (Prod.fst (Prod.fst (Prod.snd x27)))) : Int))), .eq .no] (by kernel_rfl) (bl_asgV ((pu_ifTk (ts_tst (pu2 Nv.op_lt ((pu2 Nv.op_add ((pu_var 8 rfl)).rd (pu_c).rd)).rd ((pu1A Nv.op_len (((pu_var 2 rfl)).rd).ra)).rd)) ((pu2 Nv.op_ix2 ((pu_var 2 rfl)).rd ((pu2 Nv.op_add ((pu_var 8 rfl)).rd (pu_c).rd)).rd)).tkP (((pu1 Nv.op_rev ((pu_var 3 rfl)).rd)).tkTP ow_tree))).ev fun x216 => (bl_ga [.eq (ow ((Prod.snd (Prod.fst (Prod.fst (Prod.snd x27)))) : (List Int))), .eq (.fz (enc (a1 : (List Int)))), .eq (.fz (enc (a2 : (List (List Int))))), .eq (.fz (enc (x14 : (List Int)))), .eq (.fz (enc ((Prod.fst (Prod.snd (Prod.snd (Prod.snd (Prod.fst (Prod.snd (Prod.fst (Prod.snd (Prod.snd (Prod.snd x100)))))))))) : (List Int)))), .eq (ow ((Prod.fst x204) : (List PyData))), .pl, .eq (.fz (enc (x216 : (List Int)))), .eq (.fz (enc ((Prod.fst (Prod.fst (Prod.fst x11))) : Int))), .eq (.fz (enc ((Prod.fst (Prod.snd x11)) : Int))), .eq (.fz (enc ((Prod.fst (Prod.fst (Prod.fst x27))) : Int))), .eq (.fz (enc ((Prod.fst (Prod.fst (Prod.fst (Prod.snd x27)))) : Int))), .eq .no] (by kernel_rfl) (bl_retT ((pu2 Nv.op_cat (rd_own 5 rfl) (((pu_lst (dp_cons (((pu2 Nv.op_cat (((pu2 Nv.op_cat (((pu_sl ((pu_var 2 rfl)).rd .no (.yes ((pu_var 8 rfl)).rd))).rdT ow_tree) (((pu_lst (dp_cons ((pu_var 3 rfl)).tkP (dp_cons ((pu_var 7 rfl)).tkP (dp_cons ((pu_var 3 rfl)).tkP dp_nil))) (fun x224 => ([(Prod.fst x224), (Prod.fst (Prod.snd x224)), (Prod.fst (Prod.snd (Prod.snd x224)))] : (List (List Int)))))).rdT ow_tree))).rdT ow_tree) (((pu_sl ((pu_var 2 rfl)).rd (.yes ((pu2 Nv.op_add ((pu_var 8 rfl)).rd (pu_c).rd)).rd) .no)).rdT ow_tree))).tkTP ow_tree) (dp_cons (((pu2 Nv.op_cat ((pu_var 2 rfl)).rd (((pu_sl ((pu_var 2 rfl)).rd (.yes ((pu1 Nv.op_neg (pu_c).rd)).rd) .no)).rdT ow_tree))).tkTP ow_tree) (dp_cons (((pu_sl ((pu_var 2 rfl)).rd .no (.yes (pu_c).rd))).tkTP ow_tree) (dp_cons (((pu_sl ((pu_var 2 rfl)).rd (.yes ((pu1 Nv.op_neg (pu_c).rd)).rd) .no)).tkTP ow_tree) (dp_cons (((pu_lst (dp_cons ((pu_var 2 rfl)).tkP dp_nil) (fun x259 => ([(Prod.fst x259)] : (List (List (List Int))))))).tkTP ow_tree) (dp_cons ((pu_nil).tkTP ow_tree) dp_nil)))))) (fun x263 => ([(enc ((Prod.fst x263) : (List (List Int)))), (enc ((Prod.fst (Prod.snd x263)) : (List (List Int)))), (enc ((Prod.fst (Prod.snd (Prod.snd x263))) : (List (List Int)))), (enc ((Prod.fst (Prod.snd (Prod.snd (Prod.snd x263)))) : (List (List Int)))), (enc ((Prod.fst (Prod.snd (Prod.snd (Prod.snd (Prod.snd x263))))) : (List (List (List Int))))), (enc ((Prod.fst (Prod.snd (Prod.snd (Prod.snd (Prod.snd (Prod.snd x263)))))) : (List (List PyData))))] : (List PyData))))).rdT ow_tree))).ev fun x272 => (rf_eq rfl (.cons .rfl (.cons .aa (.cons .aa (.cons .aa (.cons .aa (.cons .aa (.cons .aa (.cons .aa (.cons .aa (.cons .aa (.cons .aa (.cons .aa (.cons .aa .nil))))))))))))))))))))))))))))))))))))
end P

/-! part Q__law_right_v4 -/
namespace P
open PySem PySem.Spec PyProof.Rows L2 Hb Nv
open Enc (enc)
/-! _law_right_v4: 0 _law_tap_here, 1 _law_count, 2 _law_path, 3 _law_ways, 4 _law_values, 5 _law_turn, 6 _law_before, 7 _law_value, 8 _law_row, 9 _law_second -/
def B__law_right_v4 : List Sl → Ot :=
    oSeq (oAsg (sTk (s2 gAdd (sC (.int 1)) (sCall F__law_draw [] (rIo 0 (rCons (sTk (s2 gIx2 (sLst (lCons (sC (.int 8)) (lCons (sC (.int 12)) (lNil)))) (sCall F__law_draw [] (rIo 0 (rCons (sC (.int 2)) (rNil)))))) (rNil)))))) (tgN 1))
    (oSeq (oAsg (sTk (sCall F__law_mixed [] (rIo 0 (rCons (sTk (sVar 1)) (rNil))))) (tgN 2))
    (oSeq (oPar [8, 9] (rCons (sTk (sCall F__law_fallen [] (rIo 0 (rCons (sTk (sVar 2)) (rNil))))) (rCons (sTk (sCall F__law_fallen [] (rIo 0 (rCons (sTk (sVar 2)) (rNil))))) (rNil))))
    (oSeq (oAsg (sTk (sLst (lCons (sCall F__law_walked [] (rIo 0 (rCons (sTk (sVar 2)) (rCons (sTk (sVar 8)) (rCons (sTk (sVar 9)) (rCons (sC (.bool true)) (rNil))))))) (lCons (sCall F__law_walked [] (rIo 0 (rCons (sTk (sVar 2)) (rCons (sTk (sVar 8)) (rCons (sTk (sVar 9)) (rCons (sC (.bool false)) (rNil))))))) (lNil))))) (tgN 3))
    (oSeq (oIf (sNot (sTru (sCall F__law_is_way [] (rCons (sTk (sVar 2)) (rCons (sTk (sVar 8)) (rCons (sTk (sVar 9)) (rCons (sTk (s2 gIx2 (sVar 3) (sC (.int 0)))) (rNil)))))))) (oRet (sC (.bool false))) (oNext))
    (oSeq (oAsg (sTk (s2 gAdd (sLst (lCons (sC .none) (lCons (sC (.bool true)) (lCons (sC (.int 0)) (lCons (sC (.str "")) (lCons (sTup (lNil)) (lCons (sDic0) (lCons (sLst (lCons (sLst (lNil)) (lNil))) (lCons (sLst (lCons (sC .none) (lNil))) (lCons (sVar 2) (lCons (sLst (lCons (sVar 2) (lNil))) (lCons (sLst (lCons (sVar 8) (lCons (sVar 9) (lNil)))) (lNil))))))))))))) (sVar 3))) (tgN 4))
    (oSeq (oFor (wRng1 (sC (.int 3))) (tgN 5) (oAsg (sTk (s2 gAdd (s2 gAdd (sVar 4) (sCall F__law_bent [] (rIo 0 (rCons (sTk (sVar 2)) (rCons (sTk (s2 gIx2 (sVar 3) (sC (.int 0)))) (rNil)))))) (sCall F__law_bent [] (rIo 0 (rCons (sTk (sVar 2)) (rCons (sTk (s2 gIx2 (sVar 3) (sC (.int 1)))) (rNil))))))) (tgN 4)))
    (oSeq (oAsg (sTk (s1 (gRd reprD) (sVar 4))) (tgN 6))
    (oSeq (oFor (wSeq (sVar 4)) (tgN 7) (oIf (sTst (s2 (gEqS true) (s1 (gRd reprD) (sCall F_is_way [] (rCons (sTk (sVar 2)) (rCons (sTk (sVar 8)) (rCons (sTk (sVar 9)) (rCons (sTk (sVar 7)) (rNil))))))) (s1 (gRd reprD) (sCall F__law_is_way [] (rCons (sTk (sVar 2)) (rCons (sTk (sVar 8)) (rCons (sTk (sVar 9)) (rCons (sTk (sVar 7)) (rNil))))))))) (oRet (sC (.bool false))) (oNext)))
    (oSeq (oIf (sTst (s2 (gIs true) (sCall F_is_way [] (rCons (sTk (sVar 2)) (rCons (sTk (sVar 9)) (rCons (sTk (sVar 8)) (rCons (sTk (s1 gRev (s2 gIx2 (sVar 3) (sC (.int 0))))) (rNil)))))) (sC (.bool true)))) (oRet (sC (.bool false))) (oNext))
    (oRet (s2 (gEqS false) (s1 (gRd reprD) (sVar 4)) (sVar 6))))))))))))
def F__law_right_v4 : List Sl → FR := fnRun 1 10 [0] B__law_right_v4
def n__law_right_v4 (a0 : (List Int)) : Option (Bool × (List Int)) :=
    (Option.bind (Option.bind (some (1 : Int)) fun x19 => Option.bind (Option.bind (Option.bind (Option.bind (Option.bind (Option.bind (some (8 : Int)) fun x1 => Option.bind (Option.bind (some (12 : Int)) fun x2 => Option.bind (some ()) fun x4 => some (x2, x4)) fun x5 => some (x1, x5)) fun x3 => some ([(Prod.fst x3), (Prod.fst (Prod.snd x3))] : (List Int))) fun x12 => Option.bind (Option.bind (Option.bind (some (2 : Int)) fun x6 => Option.bind (some ()) fun x7 => some (x6, x7)) fun x8 => Option.bind (n__law_draw (a0 : (List Int)) ((Prod.fst x8) : Int)) fun x9 => some (x9, x8)) fun x10 => Option.bind (atL x12 (Prod.fst (Prod.fst x10))) fun x11 => some (x11, x12, x10)) fun x13 => Option.bind (some ()) fun x14 => some (x13, x14)) fun x15 => Option.bind (n__law_draw ((Prod.snd (Prod.fst (Prod.snd (Prod.snd (Prod.fst x15))))) : (List Int)) ((Prod.fst (Prod.fst x15)) : Int)) fun x16 => some (x16, x15)) fun x17 => Option.bind (addI x19 (Prod.fst (Prod.fst x17))) fun x18 => some (x18, x19, x17)) fun x20 => (Option.bind (Option.bind (Option.bind (some (Prod.fst x20)) fun x21 => Option.bind (some ()) fun x22 => some (x21, x22)) fun x23 => Option.bind (n__law_mixed ((Prod.snd (Prod.fst (Prod.snd (Prod.snd x20)))) : (List Int)) ((Prod.fst x23) : Int)) fun x24 => some (x24, x23)) fun x25 => (Option.bind (Option.bind (Option.bind (Option.bind (some (Prod.fst (Prod.fst x25))) fun x26 => Option.bind (some ()) fun x27 => some (x26, x27)) fun x28 => Option.bind (n__law_fallen ((Prod.snd (Prod.fst x25)) : (List Int)) ((Prod.fst x28) : (List Int))) fun x29 => some (x29, x28)) fun x30 => Option.bind (Option.bind (Option.bind (Option.bind (some (Prod.fst (Prod.fst x25))) fun x31 => Option.bind (some ()) fun x32 => some (x31, x32)) fun x33 => Option.bind (n__law_fallen ((Prod.snd (Prod.fst x30)) : (List Int)) ((Prod.fst x33) : (List Int))) fun x34 => some (x34, x33)) fun x35 => Option.bind (some ()) fun x36 => some (x35, x36)) fun x37 => some (x30, x37)) fun x38 => (Option.bind (Option.bind (Option.bind (Option.bind (Option.bind (some (Prod.fst (Prod.fst x25))) fun x39 => Option.bind (Option.bind (some (Prod.fst (Prod.fst (Prod.fst x38)))) fun x40 => Option.bind (Option.bind (some (Prod.fst (Prod.fst (Prod.fst (Prod.snd x38))))) fun x41 => Option.bind (Option.bind (some true) fun x42 => Option.bind (some ()) fun x43 => some (x42, x43)) fun x44 => some (x41, x44)) fun x45 => some (x40, x45)) fun x46 => some (x39, x46)) fun x47 => Option.bind (n__law_walked ((Prod.snd (Prod.fst (Prod.fst (Prod.snd x38)))) : (List Int)) ((Prod.fst x47) : (List Int)) ((Prod.fst (Prod.snd x47)) : (List Int)) ((Prod.fst (Prod.snd (Prod.snd x47))) : (List Int)) ((Prod.fst (Prod.snd (Prod.snd (Prod.snd x47)))) : Bool)) fun x48 => some (x48, x47)) fun x49 => Option.bind (Option.bind (Option.bind (Option.bind (some (Prod.fst (Prod.fst x25))) fun x50 => Option.bind (Option.bind (some (Prod.fst (Prod.fst (Prod.fst x38)))) fun x51 => Option.bind (Option.bind (some (Prod.fst (Prod.fst (Prod.fst (Prod.snd x38))))) fun x52 => Option.bind (Option.bind (some false) fun x53 => Option.bind (some ()) fun x54 => some (x53, x54)) fun x55 => some (x52, x55)) fun x56 => some (x51, x56)) fun x57 => some (x50, x57)) fun x58 => Option.bind (n__law_walked ((Prod.snd (Prod.fst x49)) : (List Int)) ((Prod.fst x58) : (List Int)) ((Prod.fst (Prod.snd x58)) : (List Int)) ((Prod.fst (Prod.snd (Prod.snd x58))) : (List Int)) ((Prod.fst (Prod.snd (Prod.snd (Prod.snd x58)))) : Bool)) fun x59 => some (x59, x58)) fun x60 => Option.bind (some ()) fun x62 => some (x60, x62)) fun x63 => some (x49, x63)) fun x61 => some (([(Prod.fst (Prod.fst (Prod.fst x61))), (Prod.fst (Prod.fst (Prod.fst (Prod.snd x61))))] : (List (List (List Int)))), x61)) fun x64 => (Option.bind (Option.bind (Option.bind (Option.bind (some (Prod.fst (Prod.fst x25))) fun x65 => Option.bind (Option.bind (some (Prod.fst (Prod.fst (Prod.fst x38)))) fun x66 => Option.bind (Option.bind (some (Prod.fst (Prod.fst (Prod.fst (Prod.snd x38))))) fun x67 => Option.bind (Option.bind (Option.bind (some (Prod.fst x64)) fun x68 => Option.bind (some (0 : Int)) fun x69 => atL x68 x69) fun x70 => Option.bind (some ()) fun x71 => some (x70, x71)) fun x72 => some (x67, x72)) fun x73 => some (x66, x73)) fun x74 => some (x65, x74)) fun x75 => n__law_is_way ((Prod.fst x75) : (List Int)) ((Prod.fst (Prod.snd x75)) : (List Int)) ((Prod.fst (Prod.snd (Prod.snd x75))) : (List Int)) ((enc ((Prod.fst (Prod.snd (Prod.snd (Prod.snd x75)))) : (List (List Int)))) : PyData)) fun x77 => some !x77) fun x78 => if x78 = true then (Option.bind (some false) fun x79 => some (x79, (Prod.snd (Prod.fst (Prod.fst (Prod.snd (Prod.snd x64))))))) else (Option.bind (Option.bind (Option.bind (Option.bind (some ()) fun x80 => Option.bind (Option.bind (some true) fun x81 => Option.bind (Option.bind (some (0 : Int)) fun x82 => Option.bind (Option.bind (some ("" : Str)) fun x83 => Option.bind (Option.bind (some (Tp.mk [])) fun x84 => Option.bind (Option.bind (some (Dc.mk [])) fun x85 => Option.bind (Option.bind (Option.bind (Option.bind (some []) fun x86 => Option.bind (some ()) fun x88 => some (x86, x88)) fun x87 => some ([(Prod.fst x87)] : (List (List Int)))) fun x89 => Option.bind (Option.bind (Option.bind (Option.bind (some ()) fun x90 => Option.bind (some ()) fun x92 => some (x90, x92)) fun x91 => some ([(Prod.fst x91)] : (List Unit))) fun x93 => Option.bind (Option.bind (some (Prod.fst (Prod.fst x25))) fun x94 => Option.bind (Option.bind (Option.bind (Option.bind (some (Prod.fst (Prod.fst x25))) fun x95 => Option.bind (some ()) fun x97 => some (x95, x97)) fun x96 => some ([(Prod.fst x96)] : (List (List Int)))) fun x98 => Option.bind (Option.bind (Option.bind (Option.bind (some (Prod.fst (Prod.fst (Prod.fst x38)))) fun x99 => Option.bind (Option.bind (some (Prod.fst (Prod.fst (Prod.fst (Prod.snd x38))))) fun x100 => Option.bind (some ()) fun x102 => some (x100, x102)) fun x103 => some (x99, x103)) fun x101 => some ([(Prod.fst x101), (Prod.fst (Prod.snd x101))] : (List (List Int)))) fun x104 => Option.bind (some ()) fun x106 => some (x104, x106)) fun x107 => some (x98, x107)) fun x108 => some (x94, x108)) fun x109 => some (x93, x109)) fun x110 => some (x89, x110)) fun x111 => some (x85, x111)) fun x112 => some (x84, x112)) fun x113 => some (x83, x113)) fun x114 => some (x82, x114)) fun x115 => some (x81, x115)) fun x116 => some (x80, x116)) fun x105 => some ([(enc ((Prod.fst x105) : Unit)), (enc ((Prod.fst (Prod.snd x105)) : Bool)), (enc ((Prod.fst (Prod.snd (Prod.snd x105))) : Int)), (enc ((Prod.fst (Prod.snd (Prod.snd (Prod.snd x105)))) : Str)), (enc ((Prod.fst (Prod.snd (Prod.snd (Prod.snd (Prod.snd x105))))) : (Tp Int))), (enc ((Prod.fst (Prod.snd (Prod.snd (Prod.snd (Prod.snd (Prod.snd x105)))))) : (Dc Int Int))), (enc ((Prod.fst (Prod.snd (Prod.snd (Prod.snd (Prod.snd (Prod.snd (Prod.snd x105))))))) : (List (List Int)))), (enc ((Prod.fst (Prod.snd (Prod.snd (Prod.snd (Prod.snd (Prod.snd (Prod.snd (Prod.snd x105)))))))) : (List Unit))), (enc ((Prod.fst (Prod.snd (Prod.snd (Prod.snd (Prod.snd (Prod.snd (Prod.snd (Prod.snd (Prod.snd x105))))))))) : (List Int))), (enc ((Prod.fst (Prod.snd (Prod.snd (Prod.snd (Prod.snd (Prod.snd (Prod.snd (Prod.snd (Prod.snd (Prod.snd x105)))))))))) : (List (List Int)))), (enc ((Prod.fst (Prod.snd (Prod.snd (Prod.snd (Prod.snd (Prod.snd (Prod.snd (Prod.snd (Prod.snd (Prod.snd (Prod.snd x105))))))))))) : (List (List Int))))] : (List PyData))) fun x118 => Option.bind (Option.bind (some (Prod.fst x64)) fun x117 => some (List.map enc (x117 : (List (List (List Int)))))) fun x119 => catL x118 x119) fun x120 => (Option.bind (Option.bind (some (3 : Int)) fun x121 => ri1 x121) fun x122 => Option.bind (forS x122 (((Prod.snd (Prod.fst (Prod.fst (Prod.snd (Prod.snd x64))))), x120) : ((List Int) × (List PyData))) fun s124 x123 => (Option.bind (Option.bind (Option.bind (some (Prod.snd s124)) fun x135 => Option.bind (Option.bind (Option.bind (some (Prod.fst (Prod.fst x25))) fun x125 => Option.bind (Option.bind (Option.bind (some (Prod.fst x64)) fun x126 => Option.bind (some (0 : Int)) fun x127 => atL x126 x127) fun x128 => Option.bind (some ()) fun x129 => some (x128, x129)) fun x130 => some (x125, x130)) fun x131 => Option.bind (n__law_bent ((Prod.fst s124) : (List Int)) ((Prod.fst x131) : (List Int)) ((Prod.fst (Prod.snd x131)) : (List (List Int)))) fun x132 => some (x132, x131)) fun x133 => Option.bind (catL x135 (Prod.fst (Prod.fst x133))) fun x134 => some (x134, x135, x133)) fun x136 => Option.bind (Option.bind (Option.bind (some (Prod.fst (Prod.fst x25))) fun x139 => Option.bind (Option.bind (Option.bind (some (Prod.fst x64)) fun x140 => Option.bind (some (1 : Int)) fun x141 => atL x140 x141) fun x142 => Option.bind (some ()) fun x143 => some (x142, x143)) fun x144 => some (x139, x144)) fun x145 => Option.bind (n__law_bent ((Prod.snd (Prod.fst (Prod.snd (Prod.snd x136)))) : (List Int)) ((Prod.fst x145) : (List Int)) ((Prod.fst (Prod.snd x145)) : (List (List Int)))) fun x146 => some (x146, x145)) fun x137 => Option.bind (catL (Prod.fst x136) (Prod.fst (Prod.fst x137))) fun x138 => some (x138, x136, x137)) fun x147 => some (((Prod.snd (Prod.fst (Prod.snd (Prod.snd x147)))), (Prod.fst x147)) : ((List Int) × (List PyData))))) fun s124 => (Option.bind (Option.bind (Option.bind (some (Prod.snd s124)) fun x148 => some (enc (x148 : (List PyData)))) fun x149 => reprN x149) fun x150 => (Option.bind (some (Prod.snd s124)) fun x151 => Option.bind (forF (ρ := (Bool × (List Int))) x151 (() : Unit) fun s153 x152 => (Option.bind (Option.bind (Option.bind (Option.bind (Option.bind (Option.bind (some (Prod.fst (Prod.fst x25))) fun x154 => Option.bind (Option.bind (some (Prod.fst (Prod.fst (Prod.fst x38)))) fun x155 => Option.bind (Option.bind (some (Prod.fst (Prod.fst (Prod.fst (Prod.snd x38))))) fun x156 => Option.bind (Option.bind (some x152) fun x157 => Option.bind (some ()) fun x158 => some (x157, x158)) fun x159 => some (x156, x159)) fun x160 => some (x155, x160)) fun x161 => some (x154, x161)) fun x162 => n_is_way ((Prod.fst x162) : (List Int)) ((Prod.fst (Prod.snd x162)) : (List Int)) ((Prod.fst (Prod.snd (Prod.snd x162))) : (List Int)) ((Prod.fst (Prod.snd (Prod.snd (Prod.snd x162)))) : PyData)) fun x163 => some (enc (x163 : Bool))) fun x164 => reprN x164) fun x176 => Option.bind (Option.bind (Option.bind (Option.bind (Option.bind (some (Prod.fst (Prod.fst x25))) fun x165 => Option.bind (Option.bind (some (Prod.fst (Prod.fst (Prod.fst x38)))) fun x166 => Option.bind (Option.bind (some (Prod.fst (Prod.fst (Prod.fst (Prod.snd x38))))) fun x167 => Option.bind (Option.bind (some x152) fun x168 => Option.bind (some ()) fun x169 => some (x168, x169)) fun x170 => some (x167, x170)) fun x171 => some (x166, x171)) fun x172 => some (x165, x172)) fun x173 => n__law_is_way ((Prod.fst x173) : (List Int)) ((Prod.fst (Prod.snd x173)) : (List Int)) ((Prod.fst (Prod.snd (Prod.snd x173))) : (List Int)) ((Prod.fst (Prod.snd (Prod.snd (Prod.snd x173)))) : PyData)) fun x174 => some (enc (x174 : Bool))) fun x175 => reprN x175) fun x177 => neS x176 x177) fun x178 => if x178 = true then (Option.bind (some false) fun x179 => some (.rt (x179, (Prod.fst s124)))) else some (.nx (() : Unit)))) fun o202 => Fl.el o202 (fun s153 => (Option.bind (Option.bind (Option.bind (Option.bind (some (Prod.fst (Prod.fst x25))) fun x180 => Option.bind (Option.bind (some (Prod.fst (Prod.fst (Prod.fst (Prod.snd x38))))) fun x181 => Option.bind (Option.bind (some (Prod.fst (Prod.fst (Prod.fst x38)))) fun x182 => Option.bind (Option.bind (Option.bind (Option.bind (some (Prod.fst x64)) fun x183 => Option.bind (some (0 : Int)) fun x184 => atL x183 x184) fun x185 => revL x185) fun x186 => Option.bind (some ()) fun x187 => some (x186, x187)) fun x188 => some (x182, x188)) fun x189 => some (x181, x189)) fun x190 => some (x180, x190)) fun x191 => n_is_way ((Prod.fst x191) : (List Int)) ((Prod.fst (Prod.snd x191)) : (List Int)) ((Prod.fst (Prod.snd (Prod.snd x191))) : (List Int)) ((enc ((Prod.fst (Prod.snd (Prod.snd (Prod.snd x191)))) : (List (List Int)))) : PyData)) fun x192 => Option.bind (some true) fun x193 => isnB x192 x193) fun x194 => if x194 = true then (Option.bind (some false) fun x195 => some (x195, (Prod.fst s124))) else (Option.bind (Option.bind (Option.bind (Option.bind (some (Prod.snd s124)) fun x196 => some (enc (x196 : (List PyData)))) fun x197 => reprN x197) fun x198 => Option.bind (some x150) fun x199 => eqS x198 x199) fun x200 => some (x200, (Prod.fst s124))))) fun r201 => some r201)))))))))
theorem V__law_right_v4 (a0 : (List Int)) : Fun F__law_right_v4 (n__law_right_v4 a0) [ow a0] (fun r : (Bool × (List Int)) => .fz (enc ((Prod.fst r) : Bool))) fun r => [ow (Prod.snd r)] :=
  fun_of (ΓR := fun r => [.eq (ow ((Prod.snd r) : (List Int))), .aa, .aa, .aa, .aa, .aa, .aa, .aa, .aa, .aa]) (show Bl B__law_right_v4 _ _ _ from (bl_ga [.eq (ow (a0 : (List Int))), .eq .no, .eq .no, .eq .no, .eq .no, .eq .no, .eq .no, .eq .no, .eq .no, .eq .no] (by kernel_rfl) (bl_asgV ((ev2g Nv.op_add (va := fun x19 => x19) (vb := fun x19 x17 => (Prod.fst (Prod.fst x17))) (pu_c).ev.er fun x19 => (((ev_callG (ag_io (k := 0) rfl rfl (ag_cons ((ev2g Nv.op_ix2 (va := fun x12 => x12) (vb := fun x12 x10 => (Prod.fst (Prod.fst x10))) (((pu_lst (dp_cons (pu_c).tkP (dp_cons (pu_c).tkP dp_nil)) (fun x3 => ([(Prod.fst x3), (Prod.fst (Prod.snd x3))] : (List Int))))).ev.erT fun _ => ow_tree _) fun x12 => (((ev_callG (ag_io (k := 0) rfl rfl (ag_cons (pu_c).ev fun x6 => ag_nil)) (fun x8 => V__law_draw (a0 : (List Int)) ((Prod.fst x8) : Int)))).er).es)).tk fun x13 => (ag_ga [.eq (ow ((Prod.snd (Prod.fst (Prod.snd (Prod.snd x13)))) : (List Int))), .eq .no, .eq .no, .eq .no, .eq .no, .eq .no, .eq .no, .eq .no, .eq .no, .eq .no] (by kernel_rfl) ag_nil))) (fun x15 => V__law_draw ((Prod.snd (Prod.fst (Prod.snd (Prod.snd (Prod.fst x15))))) : (List Int)) ((Prod.fst (Prod.fst x15)) : Int)))).er).es)).tk fun x20 => (bl_ga [.eq (ow ((Prod.snd (Prod.fst (Prod.snd (Prod.snd x20)))) : (List Int))), .eq (.fz (enc ((Prod.fst x20) : Int))), .eq .no, .eq .no, .eq .no, .eq .no, .eq .no, .eq .no, .eq .no, .eq .no] (by kernel_rfl) (bl_asgV (((ev_callG (ag_io (k := 0) rfl rfl (ag_cons (((pu_var 1 rfl)).tkP).ev fun x21 => ag_nil)) (fun x23 => V__law_mixed ((Prod.snd (Prod.fst (Prod.snd (Prod.snd x20)))) : (List Int)) ((Prod.fst x23) : Int)))).tkT fun _ => ow_tree _) fun x25 => (bl_ga [.eq (ow ((Prod.snd (Prod.fst x25)) : (List Int))), .eq (.fz (enc ((Prod.fst x20) : Int))), .eq (.fz (enc ((Prod.fst (Prod.fst x25)) : (List Int)))), .eq .no, .eq .no, .eq .no, .eq .no, .eq .no, .eq .no, .eq .no] (by kernel_rfl) (bl_par (ag_cons (((ev_callG (ag_io (k := 0) rfl rfl (ag_cons (((pu_var 2 rfl)).tkP).ev fun x26 => ag_nil)) (fun x28 => V__law_fallen ((Prod.snd (Prod.fst x25)) : (List Int)) ((Prod.fst x28) : (List Int))))).tkT fun _ => ow_tree _) fun x30 => (ag_ga [.eq (ow ((Prod.snd (Prod.fst x30)) : (List Int))), .eq (.fz (enc ((Prod.fst x20) : Int))), .eq (.fz (enc ((Prod.fst (Prod.fst x25)) : (List Int)))), .eq .no, .eq .no, .eq .no, .eq .no, .eq .no, .eq .no, .eq .no] (by kernel_rfl) (ag_cons (((ev_callG (ag_io (k := 0) rfl rfl (ag_cons (((pu_var 2 rfl)).tkP).ev fun x31 => ag_nil)) (fun x33 => V__law_fallen ((Prod.snd (Prod.fst x30)) : (List Int)) ((Prod.fst x33) : (List Int))))).tkT fun _ => ow_tree _) fun x35 => (ag_ga [.eq (ow ((Prod.snd (Prod.fst x35)) : (List Int))), .eq (.fz (enc ((Prod.fst x20) : Int))), .eq (.fz (enc ((Prod.fst (Prod.fst x25)) : (List Int)))), .eq .no, .eq .no, .eq .no, .eq .no, .eq .no, .eq .no, .eq .no] (by kernel_rfl) ag_nil)))) fun x38 => (bl_ga [.eq (ow ((Prod.snd (Prod.fst (Prod.fst (Prod.snd x38)))) : (List Int))), .eq (.fz (enc ((Prod.fst x20) : Int))), .eq (.fz (enc ((Prod.fst (Prod.fst x25)) : (List Int)))), .eq .no, .eq .no, .eq .no, .eq .no, .eq .no, .eq (.fz (enc ((Prod.fst (Prod.fst (Prod.fst x38))) : (List Int)))), .eq (.fz (enc ((Prod.fst (Prod.fst (Prod.fst (Prod.snd x38)))) : (List Int))))] (by kernel_rfl) (bl_asgV (((ev_lst (dl_cons (((ev_callG (ag_io (k := 0) rfl rfl (ag_cons (((pu_var 2 rfl)).tkP).ev fun x39 => (ag_cons (((pu_var 8 rfl)).tkP).ev fun x40 => (ag_cons (((pu_var 9 rfl)).tkP).ev fun x41 => (ag_cons (pu_c).ev fun x42 => ag_nil))))) (fun x47 => V__law_walked ((Prod.snd (Prod.fst (Prod.fst (Prod.snd x38)))) : (List Int)) ((Prod.fst x47) : (List Int)) ((Prod.fst (Prod.snd x47)) : (List Int)) ((Prod.fst (Prod.snd (Prod.snd x47))) : (List Int)) ((Prod.fst (Prod.snd (Prod.snd (Prod.snd x47)))) : Bool)))).tkT fun _ => ow_tree _) fun x49 => (dl_ga [.eq (ow ((Prod.snd (Prod.fst x49)) : (List Int))), .eq (.fz (enc ((Prod.fst x20) : Int))), .eq (.fz (enc ((Prod.fst (Prod.fst x25)) : (List Int)))), .eq .no, .eq .no, .eq .no, .eq .no, .eq .no, .eq (.fz (enc ((Prod.fst (Prod.fst (Prod.fst x38))) : (List Int)))), .eq (.fz (enc ((Prod.fst (Prod.fst (Prod.fst (Prod.snd x38)))) : (List Int))))] (by kernel_rfl) (dl_cons (((ev_callG (ag_io (k := 0) rfl rfl (ag_cons (((pu_var 2 rfl)).tkP).ev fun x50 => (ag_cons (((pu_var 8 rfl)).tkP).ev fun x51 => (ag_cons (((pu_var 9 rfl)).tkP).ev fun x52 => (ag_cons (pu_c).ev fun x53 => ag_nil))))) (fun x58 => V__law_walked ((Prod.snd (Prod.fst x49)) : (List Int)) ((Prod.fst x58) : (List Int)) ((Prod.fst (Prod.snd x58)) : (List Int)) ((Prod.fst (Prod.snd (Prod.snd x58))) : (List Int)) ((Prod.fst (Prod.snd (Prod.snd (Prod.snd x58)))) : Bool)))).tkT fun _ => ow_tree _) fun x60 => (dl_ga [.eq (ow ((Prod.snd (Prod.fst x60)) : (List Int))), .eq (.fz (enc ((Prod.fst x20) : Int))), .eq (.fz (enc ((Prod.fst (Prod.fst x25)) : (List Int)))), .eq .no, .eq .no, .eq .no, .eq .no, .eq .no, .eq (.fz (enc ((Prod.fst (Prod.fst (Prod.fst x38))) : (List Int)))), .eq (.fz (enc ((Prod.fst (Prod.fst (Prod.fst (Prod.snd x38)))) : (List Int))))] (by kernel_rfl) dl_nil)))) (fun x61 => ([(Prod.fst (Prod.fst (Prod.fst x61))), (Prod.fst (Prod.fst (Prod.fst (Prod.snd x61))))] : (List (List (List Int))))))).tkT fun _ => ow_tree _) fun x64 => (bl_ga [.eq (ow ((Prod.snd (Prod.fst (Prod.fst (Prod.snd (Prod.snd x64))))) : (List Int))), .eq (.fz (enc ((Prod.fst x20) : Int))), .eq (.fz (enc ((Prod.fst (Prod.fst x25)) : (List Int)))), .eq (.fz (enc ((Prod.fst x64) : (List (List (List Int)))))), .eq .no, .eq .no, .eq .no, .eq .no, .eq (.fz (enc ((Prod.fst (Prod.fst (Prod.fst x38))) : (List Int)))), .eq (.fz (enc ((Prod.fst (Prod.fst (Prod.fst (Prod.snd x38)))) : (List Int))))] (by kernel_rfl) (bl_if (k := fun x78 => x78) ((ts_not (ts_truB (((pu_call (ap_cons ((pu_var 2 rfl)).tkP (ap_cons ((pu_var 8 rfl)).tkP (ap_cons ((pu_var 9 rfl)).tkP (ap_cons ((pu2 Nv.op_ix2 ((pu_var 3 rfl)).rd (pu_c).rd)).tkP ap_nil)))) (fun x75 => V__law_is_way ((Prod.fst x75) : (List Int)) ((Prod.fst (Prod.snd x75)) : (List Int)) ((Prod.fst (Prod.snd (Prod.snd x75))) : (List Int)) ((enc ((Prod.fst (Prod.snd (Prod.snd (Prod.snd x75)))) : (List (List Int)))) : PyData)))).rd).ra))).te' (fun x78 => (bl_retS (bl_retV (pu_c).ev fun x79 => (rf_eq rfl (.cons .rfl (.cons .aa (.cons .aa (.cons .aa (.cons .aa (.cons .aa (.cons .aa (.cons .aa (.cons .aa (.cons .aa .nil)))))))))))))) fun x78 => (bl_next (bl_asgV ((((pu2 Nv.op_cat (((pu_lst (dp_cons (pu_none).tkP (dp_cons (pu_c).tkP (dp_cons (pu_c).tkP (dp_cons (pu_c).tkP (dp_cons (pu_nilT).tkP (dp_cons ((pu_dicn).tkTP fun _ => rfl) (dp_cons (((pu_lst (dp_cons ((pu_nil).tkTP ow_tree) dp_nil) (fun x87 => ([(Prod.fst x87)] : (List (List Int)))))).tkTP ow_tree) (dp_cons (((pu_lst (dp_cons (pu_none).tkP dp_nil) (fun x91 => ([(Prod.fst x91)] : (List Unit))))).tkTP ow_tree) (dp_cons ((pu_var 2 rfl)).tkP (dp_cons (((pu_lst (dp_cons ((pu_var 2 rfl)).tkP dp_nil) (fun x96 => ([(Prod.fst x96)] : (List (List Int)))))).tkTP ow_tree) (dp_cons (((pu_lst (dp_cons ((pu_var 8 rfl)).tkP (dp_cons ((pu_var 9 rfl)).tkP dp_nil)) (fun x101 => ([(Prod.fst x101), (Prod.fst (Prod.snd x101))] : (List (List Int)))))).tkTP ow_tree) dp_nil))))))))))) (fun x105 => ([(enc ((Prod.fst x105) : Unit)), (enc ((Prod.fst (Prod.snd x105)) : Bool)), (enc ((Prod.fst (Prod.snd (Prod.snd x105))) : Int)), (enc ((Prod.fst (Prod.snd (Prod.snd (Prod.snd x105)))) : Str)), (enc ((Prod.fst (Prod.snd (Prod.snd (Prod.snd (Prod.snd x105))))) : (Tp Int))), (enc ((Prod.fst (Prod.snd (Prod.snd (Prod.snd (Prod.snd (Prod.snd x105)))))) : (Dc Int Int))), (enc ((Prod.fst (Prod.snd (Prod.snd (Prod.snd (Prod.snd (Prod.snd (Prod.snd x105))))))) : (List (List Int)))), (enc ((Prod.fst (Prod.snd (Prod.snd (Prod.snd (Prod.snd (Prod.snd (Prod.snd (Prod.snd x105)))))))) : (List Unit))), (enc ((Prod.fst (Prod.snd (Prod.snd (Prod.snd (Prod.snd (Prod.snd (Prod.snd (Prod.snd (Prod.snd x105))))))))) : (List Int))), (enc ((Prod.fst (Prod.snd (Prod.snd (Prod.snd (Prod.snd (Prod.snd (Prod.snd (Prod.snd (Prod.snd (Prod.snd x105)))))))))) : (List (List Int)))), (enc ((Prod.fst (Prod.snd (Prod.snd (Prod.snd (Prod.snd (Prod.snd (Prod.snd (Prod.snd (Prod.snd (Prod.snd (Prod.snd x105))))))))))) : (List (List Int))))] : (List PyData))))).rdT ow_tree) ((Pu.anyL (pu_var 3 rfl))).rd)).tkTP ow_tree)).ev fun x120 => (bl_ga [.eq (ow ((Prod.snd (Prod.fst (Prod.fst (Prod.snd (Prod.snd x64))))) : (List Int))), .eq (.fz (enc ((Prod.fst x20) : Int))), .eq (.fz (enc ((Prod.fst (Prod.fst x25)) : (List Int)))), .eq (.fz (enc ((Prod.fst x64) : (List (List (List Int)))))), .eq (.fz (enc (x120 : (List PyData)))), .eq .no, .eq .no, .eq .no, .eq (.fz (enc ((Prod.fst (Prod.fst (Prod.fst x38))) : (List Int)))), .eq (.fz (enc ((Prod.fst (Prod.fst (Prod.fst (Prod.snd x38)))) : (List Int))))] (by kernel_rfl) (bl_for (vs := [5]) (xs := fun x122 => x122) (s0 := fun x122 => (((Prod.snd (Prod.fst (Prod.fst (Prod.snd (Prod.snd x64))))), x120) : ((List Int) × (List PyData)))) (ΓL := fun x122 (s124 : ((List Int) × (List PyData))) => [.eq (ow ((Prod.fst s124) : (List Int))), .eq (.fz (enc ((Prod.fst x20) : Int))), .eq (.fz (enc ((Prod.fst (Prod.fst x25)) : (List Int)))), .eq (.fz (enc ((Prod.fst x64) : (List (List (List Int)))))), .eq (.fz (enc ((Prod.snd s124) : (List PyData)))), .pl, .eq .no, .eq .no, .eq (.fz (enc ((Prod.fst (Prod.fst (Prod.fst x38))) : (List Int)))), .eq (.fz (enc ((Prod.fst (Prod.fst (Prod.fst (Prod.snd x38)))) : (List Int))))]) ((ip_rng1 (pu_c).tkP)).it (fun x122 => (.cons .rfl (.cons .rfl (.cons .rfl (.cons .rfl (.cons .rfl (.cons .no (.cons .rfl (.cons .rfl (.cons .rfl (.cons .rfl .nil))))))))))) (fun x122 s124 x123 => tg_n) (fun x122 s124 x123 => (bl_ga [.eq (ow ((Prod.fst s124) : (List Int))), .eq (.fz (enc ((Prod.fst x20) : Int))), .eq (.fz (enc ((Prod.fst (Prod.fst x25)) : (List Int)))), .eq (.fz (enc ((Prod.fst x64) : (List (List (List Int)))))), .eq (.fz (enc ((Prod.snd s124) : (List PyData)))), .eq (.fz (enc (x123 : Int))), .eq .no, .eq .no, .eq (.fz (enc ((Prod.fst (Prod.fst (Prod.fst x38))) : (List Int)))), .eq (.fz (enc ((Prod.fst (Prod.fst (Prod.fst (Prod.snd x38)))) : (List Int))))] (by kernel_rfl) (bl_last (bl_asgV (((ev2g Nv.op_cat (va := fun x136 => (Prod.fst x136)) (vb := fun x136 x137 => (Prod.fst (Prod.fst x137))) (((ev2g Nv.op_cat (va := fun x135 => x135) (vb := fun x135 x133 => (Prod.fst (Prod.fst x133))) ((pu_var 4 rfl)).ev.er fun x135 => ((((ev_callG (ag_io (k := 0) rfl rfl (ag_cons (((pu_var 2 rfl)).tkP).ev fun x125 => (ag_cons (((pu2 Nv.op_ix2 ((pu_var 3 rfl)).rd (pu_c).rd)).tkP).ev fun x128 => ag_nil))) (fun x131 => V__law_bent ((Prod.fst s124) : (List Int)) ((Prod.fst x131) : (List Int)) ((Prod.fst (Prod.snd x131)) : (List (List Int)))))).erT fun _ => ow_tree _)).es)).erT fun _ => ow_tree _) fun x136 => (es_ga [.eq (ow ((Prod.snd (Prod.fst (Prod.snd (Prod.snd x136)))) : (List Int))), .eq (.fz (enc ((Prod.fst x20) : Int))), .eq (.fz (enc ((Prod.fst (Prod.fst x25)) : (List Int)))), .eq (.fz (enc ((Prod.fst x64) : (List (List (List Int)))))), .eq (.fz (enc ((Prod.snd s124) : (List PyData)))), .eq (.fz (enc (x123 : Int))), .eq .no, .eq .no, .eq (.fz (enc ((Prod.fst (Prod.fst (Prod.fst x38))) : (List Int)))), .eq (.fz (enc ((Prod.fst (Prod.fst (Prod.fst (Prod.snd x38)))) : (List Int))))] (by kernel_rfl) ((((ev_callG (ag_io (k := 0) rfl rfl (ag_cons (((pu_var 2 rfl)).tkP).ev fun x139 => (ag_cons (((pu2 Nv.op_ix2 ((pu_var 3 rfl)).rd (pu_c).rd)).tkP).ev fun x142 => ag_nil))) (fun x145 => V__law_bent ((Prod.snd (Prod.fst (Prod.snd (Prod.snd x136)))) : (List Int)) ((Prod.fst x145) : (List Int)) ((Prod.fst (Prod.snd x145)) : (List (List Int)))))).erT fun _ => ow_tree _)).es))).tkT fun _ => ow_tree _) fun x147 => (bl_ga [.eq (ow ((Prod.snd (Prod.fst (Prod.snd (Prod.snd x147)))) : (List Int))), .eq (.fz (enc ((Prod.fst x20) : Int))), .eq (.fz (enc ((Prod.fst (Prod.fst x25)) : (List Int)))), .eq (.fz (enc ((Prod.fst x64) : (List (List (List Int)))))), .eq (.fz (enc ((Prod.fst x147) : (List PyData)))), .eq (.fz (enc (x123 : Int))), .eq .no, .eq .no, .eq (.fz (enc ((Prod.fst (Prod.fst (Prod.fst x38))) : (List Int)))), .eq (.fz (enc ((Prod.fst (Prod.fst (Prod.fst (Prod.snd x38)))) : (List Int))))] (by kernel_rfl) (bl_end (rs_nx (.cons .rfl (.cons .rfl (.cons .rfl (.cons .rfl (.cons .rfl (.cons .fz (.cons .rfl (.cons .rfl (.cons .rfl (.cons .rfl .nil))))))))))))))))) fun x122 s124 => (bl_asgV (((pu1A Nv.op_repr (((Pu.any (pu_var 4 rfl))).rd).ra)).tkP).ev fun x150 => (bl_ga [.eq (ow ((Prod.fst s124) : (List Int))), .eq (.fz (enc ((Prod.fst x20) : Int))), .eq (.fz (enc ((Prod.fst (Prod.fst x25)) : (List Int)))), .eq (.fz (enc ((Prod.fst x64) : (List (List (List Int)))))), .eq (.fz (enc ((Prod.snd s124) : (List PyData)))), .pl, .eq (.fz (enc (x150 : Str))), .eq .no, .eq (.fz (enc ((Prod.fst (Prod.fst (Prod.fst x38))) : (List Int)))), .eq (.fz (enc ((Prod.fst (Prod.fst (Prod.fst (Prod.snd x38)))) : (List Int))))] (by kernel_rfl) (bl_forF (Q := (RF (ρ := (Bool × (List Int))) (fun r => .eq (.fz (enc ((Prod.fst r) : Bool)))) fun r => [.eq (ow ((Prod.snd r) : (List Int))), .aa, .aa, .aa, .aa, .aa, .aa, .aa, .aa, .aa])) (vs := [7]) (xs := fun x151 => x151) (s0 := fun x151 => (() : Unit)) (ΓL := fun x151 (s153 : Unit) => [.eq (ow ((Prod.fst s124) : (List Int))), .eq (.fz (enc ((Prod.fst x20) : Int))), .eq (.fz (enc ((Prod.fst (Prod.fst x25)) : (List Int)))), .eq (.fz (enc ((Prod.fst x64) : (List (List (List Int)))))), .eq (.fz (enc ((Prod.snd s124) : (List PyData)))), .pl, .eq (.fz (enc (x150 : Str))), .pl, .eq (.fz (enc ((Prod.fst (Prod.fst (Prod.fst x38))) : (List Int)))), .eq (.fz (enc ((Prod.fst (Prod.fst (Prod.fst (Prod.snd x38)))) : (List Int))))]) (kr := fun r201 => some r201) ((ip_seq (xs := fun v => v) ((pu_var 4 rfl)).tkP)).it (fun x151 => (.cons .rfl (.cons .rfl (.cons .rfl (.cons .rfl (.cons .rfl (.cons .rfl (.cons .rfl (.cons .no (.cons .rfl (.cons .rfl .nil))))))))))) (fun x151 s153 x152 => tg_n) (fun x151 s153 x152 => (bl_ga [.eq (ow ((Prod.fst s124) : (List Int))), .eq (.fz (enc ((Prod.fst x20) : Int))), .eq (.fz (enc ((Prod.fst (Prod.fst x25)) : (List Int)))), .eq (.fz (enc ((Prod.fst x64) : (List (List (List Int)))))), .eq (.fz (enc ((Prod.snd s124) : (List PyData)))), .pl, .eq (.fz (enc (x150 : Str))), .eq (.fz (enc (x152 : PyData))), .eq (.fz (enc ((Prod.fst (Prod.fst (Prod.fst x38))) : (List Int)))), .eq (.fz (enc ((Prod.fst (Prod.fst (Prod.fst (Prod.snd x38)))) : (List Int))))] (by kernel_rfl) (bl_last (bl_if (k := fun x178 => x178) ((ts_tst (pu2 Nv.op_neS ((pu1A Nv.op_repr (((Pu.any (pu_call (ap_cons ((pu_var 2 rfl)).tkP (ap_cons ((pu_var 8 rfl)).tkP (ap_cons ((pu_var 9 rfl)).tkP (ap_cons ((pu_var 7 rfl)).tkP ap_nil)))) (fun x162 => V_is_way ((Prod.fst x162) : (List Int)) ((Prod.fst (Prod.snd x162)) : (List Int)) ((Prod.fst (Prod.snd (Prod.snd x162))) : (List Int)) ((Prod.fst (Prod.snd (Prod.snd (Prod.snd x162)))) : PyData))))).rd).ra)).rd ((pu1A Nv.op_repr (((Pu.any (pu_call (ap_cons ((pu_var 2 rfl)).tkP (ap_cons ((pu_var 8 rfl)).tkP (ap_cons ((pu_var 9 rfl)).tkP (ap_cons ((pu_var 7 rfl)).tkP ap_nil)))) (fun x173 => V__law_is_way ((Prod.fst x173) : (List Int)) ((Prod.fst (Prod.snd x173)) : (List Int)) ((Prod.fst (Prod.snd (Prod.snd x173))) : (List Int)) ((Prod.fst (Prod.snd (Prod.snd (Prod.snd x173)))) : PyData))))).rd).ra)).rd))).te' (fun x178 => (bl_retS (bl_retV (pu_c).ev fun x179 => (rl_rt (rf_eq rfl (.cons .rfl (.cons .aa (.cons .aa (.cons .aa (.cons .aa (.cons .aa (.cons .aa (.cons .aa (.cons .aa (.cons .aa .nil))))))))))))))) fun x178 => (bl_next (bl_end (rl_nx (.cons .rfl (.cons .rfl (.cons .rfl (.cons .rfl (.cons .rfl (.cons .rfl (.cons .rfl (.cons .fz (.cons .rfl (.cons .rfl .nil))))))))))))))))) (fun v z u d hz h => by cases (Option.some.inj hz); exact h) fun x151 s153 => (bl_if (k := fun x194 => x194) ((ts_tst (pu2A Nv.op_isnB (((pu_call (ap_cons ((pu_var 2 rfl)).tkP (ap_cons ((pu_var 9 rfl)).tkP (ap_cons ((pu_var 8 rfl)).tkP (ap_cons (((pu1 Nv.op_rev ((pu2 Nv.op_ix2 ((pu_var 3 rfl)).rd (pu_c).rd)).rd)).tkTP ow_tree) ap_nil)))) (fun x191 => V_is_way ((Prod.fst x191) : (List Int)) ((Prod.fst (Prod.snd x191)) : (List Int)) ((Prod.fst (Prod.snd (Prod.snd x191))) : (List Int)) ((enc ((Prod.fst (Prod.snd (Prod.snd (Prod.snd x191)))) : (List (List Int)))) : PyData)))).rd).ra ((pu_c).rd).ra))).te' (fun x194 => (bl_retS (bl_retV (pu_c).ev fun x195 => (rf_eq rfl (.cons .rfl (.cons .aa (.cons .aa (.cons .aa (.cons .aa (.cons .aa (.cons .aa (.cons .aa (.cons .aa (.cons .aa .nil)))))))))))))) fun x194 => (bl_next (bl_retV ((pu2 Nv.op_eqS ((pu1A Nv.op_repr (((Pu.any (pu_var 4 rfl))).rd).ra)).rd ((pu_var 6 rfl)).rd)).ev fun x200 => (rf_eq rfl (.cons .rfl (.cons .aa (.cons .aa (.cons .aa (.cons .aa (.cons .aa (.cons .aa (.cons .aa (.cons .aa (.cons .aa .nil))))))))))))))))))))))))))))))))
end P

/-! part Q__law_tap -/
namespace P
open PySem PySem.Spec PyProof.Rows L2 Hb Nv
open Enc (enc)
/-! _law_tap: 0 _law_cell, 1 _law_turn, 2 _law_whole -/
def B__law_tap : List Sl → Ot :=
    oSeq (oAsg (sTk (s2 gAdd (s2 gMulX (sC (.int 2)) (s1 (gRd absD) (sVar 0))) (s1 (gRd intD) (s2 gLt (sVar 0) (sC (.int 0)))))) (tgN 2))
    (oRet (sLst (lCons (sVar 2) (lCons (s2 gAdd (s2 gAdd (s2 gMod (s1 (gRd intD) (sVar 2)) (sC (.int 4294967291))) (s2 gMulX (sC (.int 977)) (sVar 1))) (sC (.int 1))) (lCons (s2 gAdd (s2 gAdd (s2 gMod (s1 (gRd intD) (sVar 2)) (sC (.int 2147483587))) (s2 gMulX (sC (.int 31)) (sVar 1))) (sC (.int 2))) (lNil))))))
def F__law_tap : List Sl → FR := fnRun 2 3 [] B__law_tap
def n__law_tap (a0 : Int) (a1 : Int) : Option ((List Int)) :=
    (Option.bind (Option.bind (Option.bind (some (2 : Int)) fun x2 => Option.bind (Option.bind (some a0) fun x1 => absI x1) fun x3 => mulI x2 x3) fun x7 => Option.bind (Option.bind (Option.bind (some a0) fun x4 => Option.bind (some (0 : Int)) fun x5 => ltI x4 x5) fun x6 => intB x6) fun x8 => addI x7 x8) fun x9 => (Option.bind (Option.bind (Option.bind (some x9) fun x10 => Option.bind (Option.bind (Option.bind (Option.bind (Option.bind (Option.bind (some x9) fun x11 => intI x11) fun x12 => Option.bind (some (4294967291 : Int)) fun x13 => modI x12 x13) fun x16 => Option.bind (Option.bind (some (977 : Int)) fun x14 => Option.bind (some a1) fun x15 => mulI x14 x15) fun x17 => addI x16 x17) fun x18 => Option.bind (some (1 : Int)) fun x19 => addI x18 x19) fun x20 => Option.bind (Option.bind (Option.bind (Option.bind (Option.bind (Option.bind (some x9) fun x21 => intI x21) fun x22 => Option.bind (some (2147483587 : Int)) fun x23 => modI x22 x23) fun x26 => Option.bind (Option.bind (some (31 : Int)) fun x24 => Option.bind (some a1) fun x25 => mulI x24 x25) fun x27 => addI x26 x27) fun x28 => Option.bind (some (2 : Int)) fun x29 => addI x28 x29) fun x30 => Option.bind (some ()) fun x32 => some (x30, x32)) fun x33 => some (x20, x33)) fun x34 => some (x10, x34)) fun x31 => some ([(Prod.fst x31), (Prod.fst (Prod.snd x31)), (Prod.fst (Prod.snd (Prod.snd x31)))] : (List Int))) fun x35 => some x35))
theorem V__law_tap (a0 : Int) (a1 : Int) : Fun F__law_tap (n__law_tap a0 a1) [.fz (enc a0), .fz (enc a1)] (fun r : ((List Int)) => ow (r : (List Int))) fun r => [.no, .no] :=
  fun_of (ΓR := fun r => [.aa, .aa, .aa]) (show Bl B__law_tap _ _ _ from (bl_ga [.eq (.fz (enc (a0 : Int))), .eq (.fz (enc (a1 : Int))), .eq .no] (by kernel_rfl) (bl_asgV (((pu2 Nv.op_add ((pu2 Nv.op_mul (pu_c).rd ((pu1A Nv.op_abs (((pu_var 0 rfl)).rd).ra)).rd)).rd ((pu1A Nv.op_intB (((pu2 Nv.op_lt ((pu_var 0 rfl)).rd (pu_c).rd)).rd).ra)).rd)).tkP).ev fun x9 => (bl_ga [.eq (.fz (enc (a0 : Int))), .eq (.fz (enc (a1 : Int))), .eq (.fz (enc (x9 : Int)))] (by kernel_rfl) (bl_retT ((pu_lst (dp_cons ((pu_var 2 rfl)).tkP (dp_cons ((pu2 Nv.op_add ((pu2 Nv.op_add ((pu2 Nv.op_mod ((pu1A Nv.op_int (((pu_var 2 rfl)).rd).ra)).rd (pu_c).rd)).rd ((pu2 Nv.op_mul (pu_c).rd ((pu_var 1 rfl)).rd)).rd)).rd (pu_c).rd)).tkP (dp_cons ((pu2 Nv.op_add ((pu2 Nv.op_add ((pu2 Nv.op_mod ((pu1A Nv.op_int (((pu_var 2 rfl)).rd).ra)).rd (pu_c).rd)).rd ((pu2 Nv.op_mul (pu_c).rd ((pu_var 1 rfl)).rd)).rd)).rd (pu_c).rd)).tkP dp_nil))) (fun x31 => ([(Prod.fst x31), (Prod.fst (Prod.snd x31)), (Prod.fst (Prod.snd (Prod.snd x31)))] : (List Int))))).ev fun x35 => (rf_eq rfl (.cons .aa (.cons .aa (.cons .aa .nil)))))))))
end P

/-! part Q_law_v4 -/
namespace P
open PySem PySem.Spec PyProof.Rows L2 Hb Nv
open Enc (enc)
/-! law_v4: 0 _law_script, 1 _law_cells_here, 2 _law_far, 3 _law_near, 4 _law_k, 5 _law_value -/
def B_law_v4 : List Sl → Ot :=
    oSeq (oAsg (sTk (sCall F__law_cells [] (rCons (sTk (sVar 0)) (rCons (sC (.int 4)) (rNil))))) (tgN 1))
    (oSeq (oIf (sTst (s2 (gEqE true) (sLc false (wRng1 (s1 (gRd lenD) (sVar 1))) [4] (tgN 4) (sNot (sTru (sCall F__law_right_v4 [] (rCons (sCall F__law_tap [] (rCons (sTk (s2 gIx2 (sVar 1) (sVar 4))) (rCons (sTk (sVar 4)) (rNil)))) (rNil))))) (sTk (sVar 4))) (sLst (lNil)))) (oRet (sC (.bool false))) (oNext))
    (oSeq (oAsg (sTk (sLst (lCons (sLst (lCons (sC (.int 0)) (lCons (sC (.int 1)) (lCons (sC (.int 2)) (lNil))))) (lCons (sLst (lCons (sC (.int 0)) (lCons (sC (.int 2)) (lCons (sC (.int 1)) (lNil))))) (lCons (sLst (lCons (sC (.int 2)) (lCons (sC (.int 0)) (lCons (sC (.int 1)) (lNil))))) (lCons (sLst (lCons (sC (.int 2)) (lCons (sC (.int 1)) (lCons (sC (.int 0)) (lNil))))) (lNil))))))) (tgN 2))
    (oSeq (oAsg (sTk (sLst (lCons (sLst (lCons (sC (.int 0)) (lCons (sC (.int 1)) (lCons (sC (.int 2)) (lNil))))) (lCons (sLst (lCons (sC (.int 1)) (lCons (sC (.int 0)) (lCons (sC (.int 2)) (lNil))))) (lCons (sLst (lCons (sC (.int 1)) (lCons (sC (.int 2)) (lCons (sC (.int 0)) (lNil))))) (lCons (sLst (lCons (sC (.int 2)) (lCons (sC (.int 1)) (lCons (sC (.int 0)) (lNil))))) (lNil))))))) (tgN 3))
    (oRet (s2 gEq (sLc false (wSeq (sLst (lCons (sVar 3) (lCons (sVar 2) (lNil))))) [5] (tgN 5) (tOk) (sTk (sCall F_is_way [] (rCons (sTk (sLst (lCons (sC (.int 0)) (lCons (sC (.int 1)) (lCons (sC (.int 2)) (lNil)))))) (rCons (sTk (sLst (lCons (sC (.int 0)) (lCons (sC (.int 1)) (lCons (sC (.int 2)) (lNil)))))) (rCons (sTk (sLst (lCons (sC (.int 2)) (lCons (sC (.int 1)) (lCons (sC (.int 0)) (lNil)))))) (rCons (sTk (sVar 5)) (rNil)))))))) (sLst (lCons (sC (.bool true)) (lCons (sC (.bool false)) (lNil)))))))))
def F_law_v4 : List Sl → FR := fnRun 1 6 [] B_law_v4
def n_law_v4 (a0 : (List Int)) : Option (Bool) :=
    (Option.bind (Option.bind (Option.bind (some a0) fun x1 => Option.bind (Option.bind (some (4 : Int)) fun x2 => Option.bind (some ()) fun x3 => some (x2, x3)) fun x4 => some (x1, x4)) fun x5 => n__law_cells ((Prod.fst x5) : (List Int)) ((Prod.fst (Prod.snd x5)) : Int)) fun x6 => (Option.bind (Option.bind (Option.bind (Option.bind (Option.bind (some x6) fun x7 => lenL x7) fun x8 => ri1 x8) fun x9 => if List.length (x9) ≤ cap then mapF x9 (fun x10 => (Option.bind (Option.bind (Option.bind (Option.bind (Option.bind (Option.bind (Option.bind (some x6) fun x11 => Option.bind (some x10) fun x12 => atL x11 x12) fun x13 => Option.bind (Option.bind (some x10) fun x14 => Option.bind (some ()) fun x15 => some (x14, x15)) fun x16 => some (x13, x16)) fun x17 => n__law_tap ((Prod.fst x17) : Int) ((Prod.fst (Prod.snd x17)) : Int)) fun x18 => Option.bind (some ()) fun x19 => some (x18, x19)) fun x20 => n__law_right_v4 ((Prod.fst x20) : (List Int))) fun x21 => some (Prod.fst x21)) fun x23 => some !x23)) (fun x10 => (some x10)) else none) fun x24 => some (true != List.isEmpty x24)) fun x25 => if x25 = true then (Option.bind (some false) fun x26 => some x26) else (Option.bind (Option.bind (Option.bind (Option.bind (Option.bind (some (0 : Int)) fun x27 => Option.bind (Option.bind (some (1 : Int)) fun x28 => Option.bind (Option.bind (some (2 : Int)) fun x29 => Option.bind (some ()) fun x31 => some (x29, x31)) fun x32 => some (x28, x32)) fun x33 => some (x27, x33)) fun x30 => some ([(Prod.fst x30), (Prod.fst (Prod.snd x30)), (Prod.fst (Prod.snd (Prod.snd x30)))] : (List Int))) fun x34 => Option.bind (Option.bind (Option.bind (Option.bind (some (0 : Int)) fun x35 => Option.bind (Option.bind (some (2 : Int)) fun x36 => Option.bind (Option.bind (some (1 : Int)) fun x37 => Option.bind (some ()) fun x39 => some (x37, x39)) fun x40 => some (x36, x40)) fun x41 => some (x35, x41)) fun x38 => some ([(Prod.fst x38), (Prod.fst (Prod.snd x38)), (Prod.fst (Prod.snd (Prod.snd x38)))] : (List Int))) fun x42 => Option.bind (Option.bind (Option.bind (Option.bind (some (2 : Int)) fun x43 => Option.bind (Option.bind (some (0 : Int)) fun x44 => Option.bind (Option.bind (some (1 : Int)) fun x45 => Option.bind (some ()) fun x47 => some (x45, x47)) fun x48 => some (x44, x48)) fun x49 => some (x43, x49)) fun x46 => some ([(Prod.fst x46), (Prod.fst (Prod.snd x46)), (Prod.fst (Prod.snd (Prod.snd x46)))] : (List Int))) fun x50 => Option.bind (Option.bind (Option.bind (Option.bind (some (2 : Int)) fun x51 => Option.bind (Option.bind (some (1 : Int)) fun x52 => Option.bind (Option.bind (some (0 : Int)) fun x53 => Option.bind (some ()) fun x55 => some (x53, x55)) fun x56 => some (x52, x56)) fun x57 => some (x51, x57)) fun x54 => some ([(Prod.fst x54), (Prod.fst (Prod.snd x54)), (Prod.fst (Prod.snd (Prod.snd x54)))] : (List Int))) fun x58 => Option.bind (some ()) fun x60 => some (x58, x60)) fun x61 => some (x50, x61)) fun x62 => some (x42, x62)) fun x63 => some (x34, x63)) fun x59 => some ([(Prod.fst x59), (Prod.fst (Prod.snd x59)), (Prod.fst (Prod.snd (Prod.snd x59))), (Prod.fst (Prod.snd (Prod.snd (Prod.snd x59))))] : (List (List Int)))) fun x64 => (Option.bind (Option.bind (Option.bind (Option.bind (Option.bind (some (0 : Int)) fun x65 => Option.bind (Option.bind (some (1 : Int)) fun x66 => Option.bind (Option.bind (some (2 : Int)) fun x67 => Option.bind (some ()) fun x69 => some (x67, x69)) fun x70 => some (x66, x70)) fun x71 => some (x65, x71)) fun x68 => some ([(Prod.fst x68), (Prod.fst (Prod.snd x68)), (Prod.fst (Prod.snd (Prod.snd x68)))] : (List Int))) fun x72 => Option.bind (Option.bind (Option.bind (Option.bind (some (1 : Int)) fun x73 => Option.bind (Option.bind (some (0 : Int)) fun x74 => Option.bind (Option.bind (some (2 : Int)) fun x75 => Option.bind (some ()) fun x77 => some (x75, x77)) fun x78 => some (x74, x78)) fun x79 => some (x73, x79)) fun x76 => some ([(Prod.fst x76), (Prod.fst (Prod.snd x76)), (Prod.fst (Prod.snd (Prod.snd x76)))] : (List Int))) fun x80 => Option.bind (Option.bind (Option.bind (Option.bind (some (1 : Int)) fun x81 => Option.bind (Option.bind (some (2 : Int)) fun x82 => Option.bind (Option.bind (some (0 : Int)) fun x83 => Option.bind (some ()) fun x85 => some (x83, x85)) fun x86 => some (x82, x86)) fun x87 => some (x81, x87)) fun x84 => some ([(Prod.fst x84), (Prod.fst (Prod.snd x84)), (Prod.fst (Prod.snd (Prod.snd x84)))] : (List Int))) fun x88 => Option.bind (Option.bind (Option.bind (Option.bind (some (2 : Int)) fun x89 => Option.bind (Option.bind (some (1 : Int)) fun x90 => Option.bind (Option.bind (some (0 : Int)) fun x91 => Option.bind (some ()) fun x93 => some (x91, x93)) fun x94 => some (x90, x94)) fun x95 => some (x89, x95)) fun x92 => some ([(Prod.fst x92), (Prod.fst (Prod.snd x92)), (Prod.fst (Prod.snd (Prod.snd x92)))] : (List Int))) fun x96 => Option.bind (some ()) fun x98 => some (x96, x98)) fun x99 => some (x88, x99)) fun x100 => some (x80, x100)) fun x101 => some (x72, x101)) fun x97 => some ([(Prod.fst x97), (Prod.fst (Prod.snd x97)), (Prod.fst (Prod.snd (Prod.snd x97))), (Prod.fst (Prod.snd (Prod.snd (Prod.snd x97))))] : (List (List Int)))) fun x102 => (Option.bind (Option.bind (Option.bind (Option.bind (Option.bind (some x102) fun x103 => Option.bind (Option.bind (some x64) fun x104 => Option.bind (some ()) fun x106 => some (x104, x106)) fun x107 => some (x103, x107)) fun x105 => some ([(Prod.fst x105), (Prod.fst (Prod.snd x105))] : (List (List (List Int))))) fun x108 => if List.length (x108) ≤ cap then mapF x108 (fun x109 => (some true)) (fun x109 => (Option.bind (Option.bind (Option.bind (Option.bind (some (0 : Int)) fun x110 => Option.bind (Option.bind (some (1 : Int)) fun x111 => Option.bind (Option.bind (some (2 : Int)) fun x112 => Option.bind (some ()) fun x114 => some (x112, x114)) fun x115 => some (x111, x115)) fun x116 => some (x110, x116)) fun x113 => some ([(Prod.fst x113), (Prod.fst (Prod.snd x113)), (Prod.fst (Prod.snd (Prod.snd x113)))] : (List Int))) fun x117 => Option.bind (Option.bind (Option.bind (Option.bind (some (0 : Int)) fun x118 => Option.bind (Option.bind (some (1 : Int)) fun x119 => Option.bind (Option.bind (some (2 : Int)) fun x120 => Option.bind (some ()) fun x122 => some (x120, x122)) fun x123 => some (x119, x123)) fun x124 => some (x118, x124)) fun x121 => some ([(Prod.fst x121), (Prod.fst (Prod.snd x121)), (Prod.fst (Prod.snd (Prod.snd x121)))] : (List Int))) fun x125 => Option.bind (Option.bind (Option.bind (Option.bind (some (2 : Int)) fun x126 => Option.bind (Option.bind (some (1 : Int)) fun x127 => Option.bind (Option.bind (some (0 : Int)) fun x128 => Option.bind (some ()) fun x130 => some (x128, x130)) fun x131 => some (x127, x131)) fun x132 => some (x126, x132)) fun x129 => some ([(Prod.fst x129), (Prod.fst (Prod.snd x129)), (Prod.fst (Prod.snd (Prod.snd x129)))] : (List Int))) fun x133 => Option.bind (Option.bind (some x109) fun x134 => Option.bind (some ()) fun x135 => some (x134, x135)) fun x136 => some (x133, x136)) fun x137 => some (x125, x137)) fun x138 => some (x117, x138)) fun x139 => n_is_way ((Prod.fst x139) : (List Int)) ((Prod.fst (Prod.snd x139)) : (List Int)) ((Prod.fst (Prod.snd (Prod.snd x139))) : (List Int)) ((enc ((Prod.fst (Prod.snd (Prod.snd (Prod.snd x139)))) : (List (List Int)))) : PyData))) else none) fun x145 => Option.bind (Option.bind (Option.bind (some true) fun x140 => Option.bind (Option.bind (some false) fun x141 => Option.bind (some ()) fun x143 => some (x141, x143)) fun x144 => some (x140, x144)) fun x142 => some ([(Prod.fst x142), (Prod.fst (Prod.snd x142))] : (List Bool))) fun x146 => eqN x145 x146) fun x147 => some x147)))))
theorem V_law_v4 (a0 : (List Int)) : Fun F_law_v4 (n_law_v4 a0) [.fz (enc a0)] (fun r : (Bool) => .fz (enc (r : Bool))) fun r => [.no] :=
  fun_of (ΓR := fun r => [.aa, .aa, .aa, .aa, .aa, .aa]) (show Bl B_law_v4 _ _ _ from (bl_ga [.eq (.fz (enc (a0 : (List Int)))), .eq .no, .eq .no, .eq .no, .eq .no, .eq .no] (by kernel_rfl) (bl_asgV ((((pu_call (ap_cons ((pu_var 0 rfl)).tkP (ap_cons pu_c ap_nil)) (fun x5 => V__law_cells ((Prod.fst x5) : (List Int)) ((Prod.fst (Prod.snd x5)) : Int)))).tkTP ow_tree)).ev fun x6 => (bl_ga [.eq (.fz (enc (a0 : (List Int)))), .eq (.fz (enc (x6 : (List Int)))), .eq .no, .eq .no, .eq .no, .eq .no] (by kernel_rfl) (bl_if (k := fun x25 => x25) ((ts_tst (pu_eqE ((((pu_lc (vs := [4]) (ip_rng1 ((pu1A Nv.op_len (((pu_var 1 rfl)).rd).ra)).tkP) rfl rfl (fun x9 x10 => tg_n) (fun x9 x10 => (ts_ga [.eq (.fz (enc (a0 : (List Int)))), .eq (.fz (enc (x6 : (List Int)))), .eq .no, .eq .no, .eq (.fz (enc (x10 : Int))), .eq .no] (by kernel_rfl) (ts_not (ts_truB (((Pu.mapV (fun x21 => (Prod.fst x21)) (pu_call (ap_cons (pu_call (ap_cons ((pu2 Nv.op_ix2 ((pu_var 1 rfl)).rd ((pu_var 4 rfl)).rd)).tkP (ap_cons ((pu_var 4 rfl)).tkP ap_nil)) (fun x17 => V__law_tap ((Prod.fst x17) : Int) ((Prod.fst (Prod.snd x17)) : Int))) ap_nil) (fun x20 => V__law_right_v4 ((Prod.fst x20) : (List Int)))))).rd).ra)))) fun x9 x10 => (pu_ga [.eq (.fz (enc (a0 : (List Int)))), .eq (.fz (enc (x6 : (List Int)))), .eq .no, .eq .no, .eq (.fz (enc (x10 : Int))), .eq .no] (by kernel_rfl) ((pu_var 4 rfl)).tkP))).rdT ow_tree)).ra))).te' (fun x25 => (bl_retS (bl_retV (pu_c).ev fun x26 => (rf_eq rfl (.cons .aa (.cons .aa (.cons .aa (.cons .aa (.cons .aa (.cons .aa .nil)))))))))) fun x25 => (bl_next (bl_asgV ((((pu_lst (dp_cons (((pu_lst (dp_cons (pu_c).tkP (dp_cons (pu_c).tkP (dp_cons (pu_c).tkP dp_nil))) (fun x30 => ([(Prod.fst x30), (Prod.fst (Prod.snd x30)), (Prod.fst (Prod.snd (Prod.snd x30)))] : (List Int))))).tkTP ow_tree) (dp_cons (((pu_lst (dp_cons (pu_c).tkP (dp_cons (pu_c).tkP (dp_cons (pu_c).tkP dp_nil))) (fun x38 => ([(Prod.fst x38), (Prod.fst (Prod.snd x38)), (Prod.fst (Prod.snd (Prod.snd x38)))] : (List Int))))).tkTP ow_tree) (dp_cons (((pu_lst (dp_cons (pu_c).tkP (dp_cons (pu_c).tkP (dp_cons (pu_c).tkP dp_nil))) (fun x46 => ([(Prod.fst x46), (Prod.fst (Prod.snd x46)), (Prod.fst (Prod.snd (Prod.snd x46)))] : (List Int))))).tkTP ow_tree) (dp_cons (((pu_lst (dp_cons (pu_c).tkP (dp_cons (pu_c).tkP (dp_cons (pu_c).tkP dp_nil))) (fun x54 => ([(Prod.fst x54), (Prod.fst (Prod.snd x54)), (Prod.fst (Prod.snd (Prod.snd x54)))] : (List Int))))).tkTP ow_tree) dp_nil)))) (fun x59 => ([(Prod.fst x59), (Prod.fst (Prod.snd x59)), (Prod.fst (Prod.snd (Prod.snd x59))), (Prod.fst (Prod.snd (Prod.snd (Prod.snd x59))))] : (List (List Int)))))).tkTP ow_tree)).ev fun x64 => (bl_ga [.eq (.fz (enc (a0 : (List Int)))), .eq (.fz (enc (x6 : (List Int)))), .eq (.fz (enc (x64 : (List (List Int))))), .eq .no, .eq .no, .eq .no] (by kernel_rfl) (bl_asgV ((((pu_lst (dp_cons (((pu_lst (dp_cons (pu_c).tkP (dp_cons (pu_c).tkP (dp_cons (pu_c).tkP dp_nil))) (fun x68 => ([(Prod.fst x68), (Prod.fst (Prod.snd x68)), (Prod.fst (Prod.snd (Prod.snd x68)))] : (List Int))))).tkTP ow_tree) (dp_cons (((pu_lst (dp_cons (pu_c).tkP (dp_cons (pu_c).tkP (dp_cons (pu_c).tkP dp_nil))) (fun x76 => ([(Prod.fst x76), (Prod.fst (Prod.snd x76)), (Prod.fst (Prod.snd (Prod.snd x76)))] : (List Int))))).tkTP ow_tree) (dp_cons (((pu_lst (dp_cons (pu_c).tkP (dp_cons (pu_c).tkP (dp_cons (pu_c).tkP dp_nil))) (fun x84 => ([(Prod.fst x84), (Prod.fst (Prod.snd x84)), (Prod.fst (Prod.snd (Prod.snd x84)))] : (List Int))))).tkTP ow_tree) (dp_cons (((pu_lst (dp_cons (pu_c).tkP (dp_cons (pu_c).tkP (dp_cons (pu_c).tkP dp_nil))) (fun x92 => ([(Prod.fst x92), (Prod.fst (Prod.snd x92)), (Prod.fst (Prod.snd (Prod.snd x92)))] : (List Int))))).tkTP ow_tree) dp_nil)))) (fun x97 => ([(Prod.fst x97), (Prod.fst (Prod.snd x97)), (Prod.fst (Prod.snd (Prod.snd x97))), (Prod.fst (Prod.snd (Prod.snd (Prod.snd x97))))] : (List (List Int)))))).tkTP ow_tree)).ev fun x102 => (bl_ga [.eq (.fz (enc (a0 : (List Int)))), .eq (.fz (enc (x6 : (List Int)))), .eq (.fz (enc (x64 : (List (List Int))))), .eq (.fz (enc (x102 : (List (List Int))))), .eq .no, .eq .no] (by kernel_rfl) (bl_retV ((pu2A Nv.op_eq ((((pu_lc (vs := [5]) (ip_seq (xs := fun v => v) (((pu_lst (dp_cons ((pu_var 3 rfl)).tkP (dp_cons ((pu_var 2 rfl)).tkP dp_nil)) (fun x105 => ([(Prod.fst x105), (Prod.fst (Prod.snd x105))] : (List (List (List Int))))))).tkTP ow_tree)) rfl rfl (fun x108 x109 => tg_n) (fun x108 x109 => (ts_ga [.eq (.fz (enc (a0 : (List Int)))), .eq (.fz (enc (x6 : (List Int)))), .eq (.fz (enc (x64 : (List (List Int))))), .eq (.fz (enc (x102 : (List (List Int))))), .eq .no, .eq (.fz (enc (x109 : (List (List Int)))))] (by kernel_rfl) ts_ok)) fun x108 x109 => (pu_ga [.eq (.fz (enc (a0 : (List Int)))), .eq (.fz (enc (x6 : (List Int)))), .eq (.fz (enc (x64 : (List (List Int))))), .eq (.fz (enc (x102 : (List (List Int))))), .eq .no, .eq (.fz (enc (x109 : (List (List Int)))))] (by kernel_rfl) ((pu_call (ap_cons (((pu_lst (dp_cons (pu_c).tkP (dp_cons (pu_c).tkP (dp_cons (pu_c).tkP dp_nil))) (fun x113 => ([(Prod.fst x113), (Prod.fst (Prod.snd x113)), (Prod.fst (Prod.snd (Prod.snd x113)))] : (List Int))))).tkTP ow_tree) (ap_cons (((pu_lst (dp_cons (pu_c).tkP (dp_cons (pu_c).tkP (dp_cons (pu_c).tkP dp_nil))) (fun x121 => ([(Prod.fst x121), (Prod.fst (Prod.snd x121)), (Prod.fst (Prod.snd (Prod.snd x121)))] : (List Int))))).tkTP ow_tree) (ap_cons (((pu_lst (dp_cons (pu_c).tkP (dp_cons (pu_c).tkP (dp_cons (pu_c).tkP dp_nil))) (fun x129 => ([(Prod.fst x129), (Prod.fst (Prod.snd x129)), (Prod.fst (Prod.snd (Prod.snd x129)))] : (List Int))))).tkTP ow_tree) (ap_cons ((pu_var 5 rfl)).tkP ap_nil)))) (fun x139 => V_is_way ((Prod.fst x139) : (List Int)) ((Prod.fst (Prod.snd x139)) : (List Int)) ((Prod.fst (Prod.snd (Prod.snd x139))) : (List Int)) ((enc ((Prod.fst (Prod.snd (Prod.snd (Prod.snd x139)))) : (List (List Int)))) : PyData)))).tkP))).rdT ow_tree)).ra ((((pu_lst (dp_cons (pu_c).tkP (dp_cons (pu_c).tkP dp_nil)) (fun x142 => ([(Prod.fst x142), (Prod.fst (Prod.snd x142))] : (List Bool))))).rdT ow_tree)).ra)).ev fun x147 => (rf_eq rfl (.cons .aa (.cons .aa (.cons .aa (.cons .aa (.cons .aa (.cons .aa .nil))))))))))))))))))
end P

/-! part Wk_k16 -/
/-! ### k16 -/
namespace K16
open PySem PySem.Spec PyProof.Rows L2 Hb P
def topS (i : Nat) : Stmt := PySem.Challenge.pw_hillballots_k16_ways_judged.main.body.getD i (.Pass ⟨0, 0, 0, 0⟩)
def d__law_cells : He.DefD := ⟨("_law_cells", none), "_law_cells", "_law_cells", defArgs (topS 24), defBody (topS 24), defScope (topS 24), [], []⟩
def d_is_integer : He.DefD := ⟨("is_integer", none), "is_integer", "is_integer", defArgs (topS 7), defBody (topS 7), defScope (topS 7), [.non], []⟩
def d_is_each_once : He.DefD := ⟨("is_each_once", none), "is_each_once", "is_each_once", defArgs (topS 8), defBody (topS 8), defScope (topS 8), [], []⟩
def d_need_line : He.DefD := ⟨("need_line", none), "need_line", "need_line", defArgs (topS 10), defBody (topS 10), defScope (topS 10), [.non], []⟩
def d_need_ballot : He.DefD := ⟨("need_ballot", none), "need_ballot", "need_ballot", defArgs (topS 9), defBody (topS 9), defScope (topS 9), [], []⟩
def d_ranks_in : He.DefD := ⟨("ranks_in", none), "ranks_in", "ranks_in", defArgs (topS 11), defBody (topS 11), defScope (topS 11), [], []⟩
def d_falls : He.DefD := ⟨("falls", none), "falls", "falls", defArgs (topS 15), defBody (topS 15), defScope (topS 15), [], []⟩
def d_need_falling : He.DefD := ⟨("need_falling", none), "need_falling", "need_falling", defArgs (topS 17), defBody (topS 17), defScope (topS 17), [], []⟩
def d_need_both_falling : He.DefD := ⟨("need_both_falling", none), "need_both_falling", "need_both_falling", defArgs (topS 19), defBody (topS 19), defScope (topS 19), [], []⟩
def d_exchanged_at : He.DefD := ⟨("exchanged_at", none), "exchanged_at", "exchanged_at", defArgs (topS 18), defBody (topS 18), defScope (topS 18), [], []⟩
def d_pairs_turned : He.DefD := ⟨("pairs_turned", none), "pairs_turned", "pairs_turned", defArgs (topS 13), defBody (topS 13), defScope (topS 13), [], []⟩
def d_is_way : He.DefD := ⟨("is_way", none), "is_way", "is_way", defArgs (topS 20), defBody (topS 20), defScope (topS 20), [], []⟩
def d__law_draw : He.DefD := ⟨("_law_draw", none), "_law_draw", "_law_draw", defArgs (topS 23), defBody (topS 23), defScope (topS 23), [], []⟩
def d__law_mixed : He.DefD := ⟨("_law_mixed", none), "_law_mixed", "_law_mixed", defArgs (topS 25), defBody (topS 25), defScope (topS 25), [], []⟩
def d__law_fallen : He.DefD := ⟨("_law_fallen", none), "_law_fallen", "_law_fallen", defArgs (topS 27), defBody (topS 27), defScope (topS 27), [], []⟩
def d__law_falls : He.DefD := ⟨("_law_falls", none), "_law_falls", "_law_falls", defArgs (topS 26), defBody (topS 26), defScope (topS 26), [], []⟩
def d__law_steps : He.DefD := ⟨("_law_steps", none), "_law_steps", "_law_steps", defArgs (topS 32), defBody (topS 32), defScope (topS 32), [], []⟩
def d__law_walked : He.DefD := ⟨("_law_walked", none), "_law_walked", "_law_walked", defArgs (topS 33), defBody (topS 33), defScope (topS 33), [], []⟩
def d__law_turned : He.DefD := ⟨("_law_turned", none), "_law_turned", "_law_turned", defArgs (topS 28), defBody (topS 28), defScope (topS 28), [], []⟩
def d__law_are_next : He.DefD := ⟨("_law_are_next", none), "_law_are_next", "_law_are_next", defArgs (topS 29), defBody (topS 29), defScope (topS 29), [], []⟩
def d__law_is_row : He.DefD := ⟨("_law_is_row", none), "_law_is_row", "_law_is_row", defArgs (topS 30), defBody (topS 30), defScope (topS 30), [], []⟩
def d__law_is_way : He.DefD := ⟨("_law_is_way", none), "_law_is_way", "_law_is_way", defArgs (topS 31), defBody (topS 31), defScope (topS 31), [], []⟩
def d__law_bent : He.DefD := ⟨("_law_bent", none), "_law_bent", "_law_bent", defArgs (topS 34), defBody (topS 34), defScope (topS 34), [], []⟩
def d__law_right : He.DefD := ⟨("_law_right", none), "_law_right", "_law_right", defArgs (topS 35), defBody (topS 35), defScope (topS 35), [], []⟩
def d__law_tap : He.DefD := ⟨("_law_tap", none), "_law_tap", "_law_tap", defArgs (topS 22), defBody (topS 22), defScope (topS 22), [], []⟩
def d_law : He.DefD := ⟨("law", none), "law", "law", defArgs (topS 36), defBody (topS 36), defScope (topS 36), [], []⟩
def fn : List He.DefD := [d__law_cells, d_is_integer, d_is_each_once, d_need_line, d_need_ballot, d_ranks_in, d_falls, d_need_falling, d_need_both_falling, d_exchanged_at, d_pairs_turned, d_is_way, d__law_draw, d__law_mixed, d__law_fallen, d__law_falls, d__law_steps, d__law_walked, d__law_turned, d__law_are_next, d__law_is_row, d__law_is_way, d__law_bent, d__law_right, d__law_tap, d_law]
def fa : List He.Fa := [.glo "_law_cells", .glo "is_integer", .glo "is_each_once", .glo "need_line", .glo "need_ballot", .glo "ranks_in", .glo "falls", .glo "need_falling", .glo "need_both_falling", .glo "exchanged_at", .glo "pairs_turned", .glo "is_way", .glo "_law_draw", .glo "_law_mixed", .glo "_law_fallen", .glo "_law_falls", .glo "_law_steps", .glo "_law_walked", .glo "_law_turned", .glo "_law_are_next", .glo "_law_is_row", .glo "_law_is_way", .glo "_law_bent", .glo "_law_right", .glo "_law_tap", .glo "law", .int "MOST_PLACES" 12, .free "abs", .free "all", .free "bool", .free "dict", .free "enumerate", .free "int", .free "isinstance", .free "len", .free "list", .free "max", .free "min", .free "range", .free "repr", .free "sorted", .free "str", .free "tuple", .free "zip"]
structure Ctx (K : PySem.W.Frag) (mg : Str → Option Value) : Prop where
  c : He.SaysD fa fn K
  ex : ∃ h : Heap, K.In h ∧ h.Ns mainGlobals mg
variable {Pg : Program} {w : World} {K : PySem.W.Frag} {mg : Str → Option Value} {base : Heap}
theorem m_MOST_PLACES (Y : Ctx K mg) : ∃ t, mg "MOST_PLACES" = some (.int 12 t) := let ⟨_, X, G⟩ := Y.ex; He.int_ok X G (Y.c.fact 26)
theorem m_abs (Y : Ctx K mg) : mg "abs" = none := let ⟨_, X, G⟩ := Y.ex; He.free_ok X G (Y.c.fact 27)
theorem m_all (Y : Ctx K mg) : mg "all" = none := let ⟨_, X, G⟩ := Y.ex; He.free_ok X G (Y.c.fact 28)
theorem m_bool (Y : Ctx K mg) : mg "bool" = none := let ⟨_, X, G⟩ := Y.ex; He.free_ok X G (Y.c.fact 29)
theorem m_dict (Y : Ctx K mg) : mg "dict" = none := let ⟨_, X, G⟩ := Y.ex; He.free_ok X G (Y.c.fact 30)
theorem m_enumerate (Y : Ctx K mg) : mg "enumerate" = none := let ⟨_, X, G⟩ := Y.ex; He.free_ok X G (Y.c.fact 31)
theorem m_int (Y : Ctx K mg) : mg "int" = none := let ⟨_, X, G⟩ := Y.ex; He.free_ok X G (Y.c.fact 32)
theorem m_isinstance (Y : Ctx K mg) : mg "isinstance" = none := let ⟨_, X, G⟩ := Y.ex; He.free_ok X G (Y.c.fact 33)
theorem m_len (Y : Ctx K mg) : mg "len" = none := let ⟨_, X, G⟩ := Y.ex; He.free_ok X G (Y.c.fact 34)
theorem m_list (Y : Ctx K mg) : mg "list" = none := let ⟨_, X, G⟩ := Y.ex; He.free_ok X G (Y.c.fact 35)
theorem m_max (Y : Ctx K mg) : mg "max" = none := let ⟨_, X, G⟩ := Y.ex; He.free_ok X G (Y.c.fact 36)
theorem m_min (Y : Ctx K mg) : mg "min" = none := let ⟨_, X, G⟩ := Y.ex; He.free_ok X G (Y.c.fact 37)
theorem m_range (Y : Ctx K mg) : mg "range" = none := let ⟨_, X, G⟩ := Y.ex; He.free_ok X G (Y.c.fact 38)
theorem m_repr (Y : Ctx K mg) : mg "repr" = none := let ⟨_, X, G⟩ := Y.ex; He.free_ok X G (Y.c.fact 39)
theorem m_sorted (Y : Ctx K mg) : mg "sorted" = none := let ⟨_, X, G⟩ := Y.ex; He.free_ok X G (Y.c.fact 40)
theorem m_str (Y : Ctx K mg) : mg "str" = none := let ⟨_, X, G⟩ := Y.ex; He.free_ok X G (Y.c.fact 41)
theorem m_tuple (Y : Ctx K mg) : mg "tuple" = none := let ⟨_, X, G⟩ := Y.ex; He.free_ok X G (Y.c.fact 42)
theorem m_zip (Y : Ctx K mg) : mg "zip" = none := let ⟨_, X, G⟩ := Y.ex; He.free_ok X G (Y.c.fact 43)
/-! _law_cells: 0 _law_script, 1 _law_many -/
def N__law_cells : List Str := ["_law_script", "_law_many"]
theorem W__law_cells (Y : Ctx K mg) {f : Addr} (cdv : Value) (A : Around) (outer : List Env) (s : Shared) (H : Hp) (E : XK) (hr : Room 0 (A.deeper (envOfC "_law_cells" (defScope (topS 24)) s.heap.objs.size f cdv))) (hgd : A.guards = some []) :
    SSs (GX Pg w K mg base N__law_cells "_law_cells" (defScope (topS 24)) f cdv A outer s H E) (GW E) [] (defBody (topS 24)) B__law_cells := by
  have h64 : (A.deeper (envOfC "_law_cells" (defScope (topS 24)) s.heap.objs.size f cdv)).units + 64 < cLine := hr.units
  have h65 : (A.deeper (envOfC "_law_cells" (defScope (topS 24)) s.heap.objs.size f cdv)).units + 65 < cLine := by have := hr.un; omega
  have nd : N__law_cells.Nodup := by decide
  exact (ss_one (ss_ret (se_sl (se_add (se_var 0) (se_lst (sa_cons se_int sa_nil))) .no (.yes (se_b2 (call_max2 rfl) c2_i rfl (m_max Y) (by decide +kernel) se_int (se_b2 (call_min2 rfl) c2_i rfl (m_min Y) (by decide +kernel) (se_var 1) (se_b1 call_lenU c1_len rfl (m_len Y) (by decide +kernel) (se_var 0))))))))
theorem S__law_cells : FnScope N__law_cells ["_law_script", "_law_many"] (defScope (topS 24)) := ⟨rfl, rfl, rfl, by decide, rfl, by decide +kernel, by decide +kernel⟩
theorem D__law_cells_2 (Y : Ctx K mg) : Dfn Pg w K mg base 1 "_law_cells" 2 F__law_cells 2 [] := by
  obtain ⟨_, X, G⟩ := Y.ex
  obtain ⟨fd, FD⟩ := Y.c.def_ 0 (d := d__law_cells)
  have hb : Binds K fd ["_law_script", "_law_many"] [] := FD.bindsN fun _ _ _ _ _ _ us h => by
    match us, h with
    | [a0, a1], _ => rfl
  exact ⟨⟨_, fd, ["_law_script", "_law_many"], [], He.glo_ok X G (Y.c.fact 0), FD.kp, fnG_D FD S__law_cells rfl fun cdv A outer s H E hr hgd => W__law_cells Y cdv A outer s H E hr hgd, hb, .nil, rfl, rfl⟩⟩
/-! is_integer: 0 value, 1 low, 2 high -/
def N_is_integer : List Str := ["value", "low", "high"]
theorem W_is_integer (Y : Ctx K mg) {f : Addr} (cdv : Value) (A : Around) (outer : List Env) (s : Shared) (H : Hp) (E : XK) (hr : Room 0 (A.deeper (envOfC "is_integer" (defScope (topS 7)) s.heap.objs.size f cdv))) (hgd : A.guards = some []) :
    SSs (GX Pg w K mg base N_is_integer "is_integer" (defScope (topS 7)) f cdv A outer s H E) (GW E) [] (defBody (topS 7)) B_is_integer := by
  have h64 : (A.deeper (envOfC "is_integer" (defScope (topS 7)) s.heap.objs.size f cdv)).units + 64 < cLine := hr.units
  have h65 : (A.deeper (envOfC "is_integer" (defScope (topS 7)) s.heap.objs.size f cdv)).units + 65 < cLine := by have := hr.un; omega
  have nd : N_is_integer.Nodup := by decide
  exact (ss_cons (ss_if (st_w (sw_or (st_not (st_tru (se_isi (T := "int") (by decide +kernel) rfl (m_isinstance Y) rfl (m_int Y) (by decide +kernel) (se_var 0)))) (sw_or1 (st_tru (se_isi (T := "bool") (by decide +kernel) rfl (m_isinstance Y) rfl (m_bool Y) (by decide +kernel) (se_var 0)))))) (ss_one (ss_ret se_bl)) ss_nil)
    (ss_one (ss_ret (se_and (se_le (se_var 1) (se_var 0)) (se_oneA (se_or (se_is (se_var 2) se_non) (se_oneO (se_le (se_var 0) (se_var 2)))))))))
theorem S_is_integer : FnScope N_is_integer ["value", "low", "high"] (defScope (topS 7)) := ⟨rfl, rfl, rfl, by decide, rfl, by decide +kernel, by decide +kernel⟩
theorem D_is_integer_2 (Y : Ctx K mg) : Dfn Pg w K mg base 1 "is_integer" 3 F_is_integer 2 [.none] := by
  obtain ⟨_, X, G⟩ := Y.ex
  obtain ⟨fd, FD⟩ := Y.c.def_ 1 (d := d_is_integer)
  have hb := FD.binds1 (ps := ["value", "low", "high"]) 2 0 (fun z => nomatch z) rfl fun T kV doc pm an cdv ct us its h1 h2 => by
    match us, h1, its, h2 with
    | [a0, a1], _, [b0], _ => exact ⟨_, rfl, rfl⟩
  obtain ⟨ds, r, hb⟩ := hb
  exact ⟨⟨_, fd, ["value", "low", "high"], ds, He.glo_ok X G (Y.c.fact 1), FD.kp, fnG_D FD S_is_integer rfl fun cdv A outer s H E hr hgd => W_is_integer Y cdv A outer s H E hr hgd, hb, r, rfl, rfl⟩⟩
theorem D_is_integer_3 (Y : Ctx K mg) : Dfn Pg w K mg base 1 "is_integer" 3 F_is_integer 3 [] := by
  obtain ⟨_, X, G⟩ := Y.ex
  obtain ⟨fd, FD⟩ := Y.c.def_ 1 (d := d_is_integer)
  have hb := FD.binds1 (ps := ["value", "low", "high"]) 3 1 (fun z => nomatch z) rfl fun T kV doc pm an cdv ct us its h1 h2 => by
    match us, h1, its, h2 with
    | [a0, a1, a2], _, [b0], _ => exact ⟨_, rfl, rfl⟩
  obtain ⟨ds, r, hb⟩ := hb
  exact ⟨⟨_, fd, ["value", "low", "high"], ds, He.glo_ok X G (Y.c.fact 1), FD.kp, fnG_D FD S_is_integer rfl fun cdv A outer s H E hr hgd => W_is_integer Y cdv A outer s H E hr hgd, hb, r, rfl, rfl⟩⟩
/-! is_each_once: 0 count, 1 value, 2 item -/
def N_is_each_once : List Str := ["count", "value", "item"]
theorem W_is_each_once (Y : Ctx K mg) {f : Addr} (cdv : Value) (A : Around) (outer : List Env) (s : Shared) (H : Hp) (E : XK) (hr : Room 1 (A.deeper (envOfC "is_each_once" (defScope (topS 8)) s.heap.objs.size f cdv))) (hgd : A.guards = some []) :
    SSs (GX Pg w K mg base N_is_each_once "is_each_once" (defScope (topS 8)) f cdv A outer s H E) (GW E) [] (defBody (topS 8)) B_is_each_once := by
  have h64 : (A.deeper (envOfC "is_each_once" (defScope (topS 8)) s.heap.objs.size f cdv)).units + 64 < cLine := hr.units
  have h65 : (A.deeper (envOfC "is_each_once" (defScope (topS 8)) s.heap.objs.size f cdv)).units + 65 < cLine := by have := hr.un; omega
  have nd : N_is_each_once.Nodup := by decide
  exact (ss_cons (ss_if (st_w (sw_or (st_not (st_tru (se_isi (T := "list") (by decide +kernel) rfl (m_isinstance Y) rfl (m_list Y) (by decide +kernel) (se_var 1)))) (sw_or (st_ne h64 (se_b1 call_lenU c1_len rfl (m_len Y) (by decide +kernel) (se_var 1)) (se_var 0)) (sw_or1 (st_not (st_tru (se_b1 (cr_all rfl) c1_all rfl (m_all Y) (by decide +kernel) (se_lc false rfl nd (si_seq (se_var 1)) (own := [("item", 2)]) (by kernel_rfl) (by decide) (by decide) (fun _ _ _ _ _ => (sg_name 2 nd rfl (by first | exact Or.inl rfl | exact Or.inr rfl) (by decide))) (fun _ _ _ _ _ => sts_nil) (fun _ _ _ _ _ => (se_tk (se_callD ((D_is_integer_2 Y).mono (by decide)) hr hgd w0_pass rfl (sr_cons (se_tk (se_var 2)) (sr_cons se_int sr_nil)) (len_rCons (len_rCons len_rNil))))))))))))) (ss_one (ss_ret se_bl)) ss_nil)
    (ss_one (ss_ret (se_eq h64 (se_b1 (cr_sortedD h64) c1_sortD rfl (m_sorted Y) (by decide +kernel) (se_var 1)) (se_lrg1 rfl rfl (m_list Y) rfl (m_range Y) (se_var 0))))))
theorem S_is_each_once : FnScope N_is_each_once ["count", "value"] (defScope (topS 8)) := ⟨rfl, rfl, rfl, by decide, rfl, by decide +kernel, by decide +kernel⟩
theorem D_is_each_once_2 (Y : Ctx K mg) : Dfn Pg w K mg base 2 "is_each_once" 2 F_is_each_once 2 [] := by
  obtain ⟨_, X, G⟩ := Y.ex
  obtain ⟨fd, FD⟩ := Y.c.def_ 2 (d := d_is_each_once)
  have hb : Binds K fd ["count", "value"] [] := FD.bindsN fun _ _ _ _ _ _ us h => by
    match us, h with
    | [a0, a1], _ => rfl
  exact ⟨⟨_, fd, ["count", "value"], [], He.glo_ok X G (Y.c.fact 2), FD.kp, fnG_D FD S_is_each_once rfl fun cdv A outer s H E hr hgd => W_is_each_once Y cdv A outer s H E hr hgd, hb, .nil, rfl, rfl⟩⟩
/-! need_line: 0 line, 1 count, 2 size -/
def N_need_line : List Str := ["line", "count", "size"]
theorem W_need_line (Y : Ctx K mg) {f : Addr} (cdv : Value) (A : Around) (outer : List Env) (s : Shared) (H : Hp) (E : XK) (hr : Room 2 (A.deeper (envOfC "need_line" (defScope (topS 10)) s.heap.objs.size f cdv))) (hgd : A.guards = some []) :
    SSs (GX Pg w K mg base N_need_line "need_line" (defScope (topS 10)) f cdv A outer s H E) (GW E) [] (defBody (topS 10)) B_need_line := by
  have h64 : (A.deeper (envOfC "need_line" (defScope (topS 10)) s.heap.objs.size f cdv)).units + 64 < cLine := hr.units
  have h65 : (A.deeper (envOfC "need_line" (defScope (topS 10)) s.heap.objs.size f cdv)).units + 65 < cLine := by have := hr.un; omega
  have nd : N_need_line.Nodup := by decide
  exact (ss_cons (ss_set 2 nd rfl (by first | exact Or.inl rfl | exact Or.inr rfl) (by decide) (se_tk (se_if (st_w (sw_and (st_is (se_var 1) se_non) (sw_and1 (st_tru (se_isi (T := "list") (by decide +kernel) rfl (m_isinstance Y) rfl (m_list Y) (by decide +kernel) (se_var 0)))))) (se_b1 call_lenU c1_len rfl (m_len Y) (by decide +kernel) (se_var 0)) (se_var 1))))
    (ss_one (ss_if (st_w (sw_or (st_not (st_tru (se_callD ((D_is_integer_3 Y).mono (by decide)) hr hgd gx_pass rfl (sr_cons (se_tk (se_var 2)) (sr_cons se_int (sr_cons (se_tk (se_globI rfl (m_MOST_PLACES Y))) sr_nil))) (len_rCons (len_rCons (len_rCons len_rNil)))))) (sw_or1 (st_not (st_tru (se_callD ((D_is_each_once_2 Y).mono (by decide)) hr hgd gx_pass rfl (sr_cons (se_tk (se_var 2)) (sr_cons (se_tk (se_var 0)) sr_nil)) (len_rCons (len_rCons len_rNil)))))))) (ss_one ss_never) ss_nil)))
theorem S_need_line : FnScope N_need_line ["line", "count"] (defScope (topS 10)) := ⟨rfl, rfl, rfl, by decide, rfl, by decide +kernel, by decide +kernel⟩
theorem D_need_line_1 (Y : Ctx K mg) : Dfn Pg w K mg base 3 "need_line" 2 F_need_line 1 [.none] := by
  obtain ⟨_, X, G⟩ := Y.ex
  obtain ⟨fd, FD⟩ := Y.c.def_ 3 (d := d_need_line)
  have hb := FD.binds1 (ps := ["line", "count"]) 1 0 (fun z => nomatch z) rfl fun T kV doc pm an cdv ct us its h1 h2 => by
    match us, h1, its, h2 with
    | [a0], _, [b0], _ => exact ⟨_, rfl, rfl⟩
  obtain ⟨ds, r, hb⟩ := hb
  exact ⟨⟨_, fd, ["line", "count"], ds, He.glo_ok X G (Y.c.fact 3), FD.kp, fnG_D FD S_need_line rfl fun cdv A outer s H E hr hgd => W_need_line Y cdv A outer s H E hr hgd, hb, r, rfl, rfl⟩⟩
/-! need_ballot: 0 count, 1 ballot -/
def N_need_ballot : List Str := ["count", "ballot"]
theorem W_need_ballot (Y : Ctx K mg) {f : Addr} (cdv : Value) (A : Around) (outer : List Env) (s : Shared) (H : Hp) (E : XK) (hr : Room 2 (A.deeper (envOfC "need_ballot" (defScope (topS 9)) s.heap.objs.size f cdv))) (hgd : A.guards = some []) :
    SSs (GX Pg w K mg base N_need_ballot "need_ballot" (defScope (topS 9)) f cdv A outer s H E) (GW E) [] (defBody (topS 9)) B_need_ballot := by
  have h64 : (A.deeper (envOfC "need_ballot" (defScope (topS 9)) s.heap.objs.size f cdv)).units + 64 < cLine := hr.units
  have h65 : (A.deeper (envOfC "need_ballot" (defScope (topS 9)) s.heap.objs.size f cdv)).units + 65 < cLine := by have := hr.un; omega
  have nd : N_need_ballot.Nodup := by decide
  exact (ss_one (ss_if (st_not (st_tru (se_callD ((D_is_each_once_2 Y).mono (by decide)) hr hgd gx_pass rfl (sr_cons (se_tk (se_var 0)) (sr_cons (se_tk (se_var 1)) sr_nil)) (len_rCons (len_rCons len_rNil))))) (ss_one ss_never) ss_nil))
theorem S_need_ballot : FnScope N_need_ballot ["count", "ballot"] (defScope (topS 9)) := ⟨rfl, rfl, rfl, by decide, rfl, by decide +kernel, by decide +kernel⟩
theorem D_need_ballot_2 (Y : Ctx K mg) : Dfn Pg w K mg base 3 "need_ballot" 2 F_need_ballot 2 [] := by
  obtain ⟨_, X, G⟩ := Y.ex
  obtain ⟨fd, FD⟩ := Y.c.def_ 4 (d := d_need_ballot)
  have hb : Binds K fd ["count", "ballot"] [] := FD.bindsN fun _ _ _ _ _ _ us h => by
    match us, h with
    | [a0, a1], _ => rfl
  exact ⟨⟨_, fd, ["count", "ballot"], [], He.glo_ok X G (Y.c.fact 4), FD.kp, fnG_D FD S_need_ballot rfl fun cdv A outer s H E hr hgd => W_need_ballot Y cdv A outer s H E hr hgd, hb, .nil, rfl, rfl⟩⟩
/-! ranks_in: 0 ballot, 1 found, 2 index, 3 place -/
def N_ranks_in : List Str := ["ballot", "found", "index", "place"]
theorem W_ranks_in (Y : Ctx K mg) {f : Addr} (cdv : Value) (A : Around) (outer : List Env) (s : Shared) (H : Hp) (E : XK) (hr : Room 0 (A.deeper (envOfC "ranks_in" (defScope (topS 11)) s.heap.objs.size f cdv))) (hgd : A.guards = some []) :
    SSs (GX Pg w K mg base N_ranks_in "ranks_in" (defScope (topS 11)) f cdv A outer s H E) (GW E) [] (defBody (topS 11)) B_ranks_in := by
  have h64 : (A.deeper (envOfC "ranks_in" (defScope (topS 11)) s.heap.objs.size f cdv)).units + 64 < cLine := hr.units
  have h65 : (A.deeper (envOfC "ranks_in" (defScope (topS 11)) s.heap.objs.size f cdv)).units + 65 < cLine := by have := hr.un; omega
  have nd : N_ranks_in.Nodup := by decide
  exact (ss_cons (ss_set 1 nd rfl (by first | exact Or.inl rfl | exact Or.inr rfl) (by decide) (se_mul (se_lst (sa_cons se_int sa_nil)) (se_b1 call_lenU c1_len rfl (m_len Y) (by decide +kernel) (se_var 0))))
    (ss_cons (ss_for (passes_of rfl) rfl (si_enum rfl (m_enumerate Y) (se_var 0)) (sg_tup rfl (sgs_cons (sg_name 2 nd rfl (by first | exact Or.inl rfl | exact Or.inr rfl) (by decide)) (sgs_cons (sg_name 3 nd rfl (by first | exact Or.inl rfl | exact Or.inr rfl) (by decide)) sgs_nil))) (ss_one (ss_asg (se_var 2) (sg_sub (se_var 1) (se_var 3)))))
    (ss_one (ss_ret (se_var 1)))))
theorem S_ranks_in : FnScope N_ranks_in ["ballot"] (defScope (topS 11)) := ⟨rfl, rfl, rfl, by decide, rfl, by decide +kernel, by decide +kernel⟩
theorem D_ranks_in_1 (Y : Ctx K mg) : Dfn Pg w K mg base 1 "ranks_in" 1 F_ranks_in 1 [] := by
  obtain ⟨_, X, G⟩ := Y.ex
  obtain ⟨fd, FD⟩ := Y.c.def_ 5 (d := d_ranks_in)
  have hb : Binds K fd ["ballot"] [] := FD.bindsN fun _ _ _ _ _ _ us h => by
    match us, h with
    | [a0], _ => rfl
  exact ⟨⟨_, fd, ["ballot"], [], He.glo_ok X G (Y.c.fact 5), FD.kp, fnG_D FD S_ranks_in rfl fun cdv A outer s H E hr hgd => W_ranks_in Y cdv A outer s H E hr hgd, hb, .nil, rfl, rfl⟩⟩
/-! falls: 0 line, 1 ballot, 2 ranks, 3 place, 4 low, 5 high -/
def N_falls : List Str := ["line", "ballot", "ranks", "place", "low", "high"]
theorem W_falls (Y : Ctx K mg) {f : Addr} (cdv : Value) (A : Around) (outer : List Env) (s : Shared) (H : Hp) (E : XK) (hr : Room 1 (A.deeper (envOfC "falls" (defScope (topS 15)) s.heap.objs.size f cdv))) (hgd : A.guards = some []) :
    SSs (GX Pg w K mg base N_falls "falls" (defScope (topS 15)) f cdv A outer s H E) (GW E) [] (defBody (topS 15)) B_falls := by
  have h64 : (A.deeper (envOfC "falls" (defScope (topS 15)) s.heap.objs.size f cdv)).units + 64 < cLine := hr.units
  have h65 : (A.deeper (envOfC "falls" (defScope (topS 15)) s.heap.objs.size f cdv)).units + 65 < cLine := by have := hr.un; omega
  have nd : N_falls.Nodup := by decide
  exact (ss_cons (ss_set 2 nd rfl (by first | exact Or.inl rfl | exact Or.inr rfl) (by decide) (se_tk (se_callD ((D_ranks_in_1 Y).mono (by decide)) hr hgd gx_pass rfl (sr_cons (se_tk (se_var 0)) sr_nil) (len_rCons len_rNil))))
    (ss_cons (ss_par2 rfl nd rfl rfl (by decide) (by decide) rfl rfl (sr_cons (se_tk (se_ix2 h64 (se_var 2) (se_ix2 h64 (se_var 1) se_int))) (sr_cons (se_tk (se_ix2 h64 (se_var 2) (se_ix2 h64 (se_var 1) se_int))) sr_nil)))
    (ss_cons (ss_for (passes_of rfl) rfl (si_seq (se_sl (se_var 1) (.yes se_int) .no)) (sg_name 3 nd rfl (by first | exact Or.inl rfl | exact Or.inr rfl) (by decide)) (ss_one (ss_if (st_eq h64 (se_ix2 h64 (se_var 2) (se_var 3)) (se_sub (se_var 4) se_int)) (ss_one (ss_set 4 nd rfl (by first | exact Or.inl rfl | exact Or.inr rfl) (by decide) (se_tk (se_sub (se_var 4) se_int)))) (ss_one (ss_if (st_eq h64 (se_ix2 h64 (se_var 2) (se_var 3)) (se_add (se_var 5) se_int)) (ss_one (ss_set 5 nd rfl (by first | exact Or.inl rfl | exact Or.inr rfl) (by decide) (se_tk (se_add (se_var 5) se_int)))) (ss_one (ss_ret se_bl)))))))
    (ss_one (ss_ret se_bl)))))
theorem S_falls : FnScope N_falls ["line", "ballot"] (defScope (topS 15)) := ⟨rfl, rfl, rfl, by decide, rfl, by decide +kernel, by decide +kernel⟩
theorem D_falls_2 (Y : Ctx K mg) : Dfn Pg w K mg base 2 "falls" 2 F_falls 2 [] := by
  obtain ⟨_, X, G⟩ := Y.ex
  obtain ⟨fd, FD⟩ := Y.c.def_ 6 (d := d_falls)
  have hb : Binds K fd ["line", "ballot"] [] := FD.bindsN fun _ _ _ _ _ _ us h => by
    match us, h with
    | [a0, a1], _ => rfl
  exact ⟨⟨_, fd, ["line", "ballot"], [], He.glo_ok X G (Y.c.fact 6), FD.kp, fnG_D FD S_falls rfl fun cdv A outer s H E hr hgd => W_falls Y cdv A outer s H E hr hgd, hb, .nil, rfl, rfl⟩⟩
/-! need_falling: 0 line, 1 ballot -/
def N_need_falling : List Str := ["line", "ballot"]
theorem W_need_falling (Y : Ctx K mg) {f : Addr} (cdv : Value) (A : Around) (outer : List Env) (s : Shared) (H : Hp) (E : XK) (hr : Room 2 (A.deeper (envOfC "need_falling" (defScope (topS 17)) s.heap.objs.size f cdv))) (hgd : A.guards = some []) :
    SSs (GX Pg w K mg base N_need_falling "need_falling" (defScope (topS 17)) f cdv A outer s H E) (GW E) [] (defBody (topS 17)) B_need_falling := by
  have h64 : (A.deeper (envOfC "need_falling" (defScope (topS 17)) s.heap.objs.size f cdv)).units + 64 < cLine := hr.units
  have h65 : (A.deeper (envOfC "need_falling" (defScope (topS 17)) s.heap.objs.size f cdv)).units + 65 < cLine := by have := hr.un; omega
  have nd : N_need_falling.Nodup := by decide
  exact (ss_one (ss_if (st_not (st_tru (se_callD ((D_falls_2 Y).mono (by decide)) hr hgd gx_pass rfl (sr_cons (se_tk (se_var 0)) (sr_cons (se_tk (se_var 1)) sr_nil)) (len_rCons (len_rCons len_rNil))))) (ss_one ss_never) ss_nil))
theorem S_need_falling : FnScope N_need_falling ["line", "ballot"] (defScope (topS 17)) := ⟨rfl, rfl, rfl, by decide, rfl, by decide +kernel, by decide +kernel⟩
theorem D_need_falling_2 (Y : Ctx K mg) : Dfn Pg w K mg base 3 "need_falling" 2 F_need_falling 2 [] := by
  obtain ⟨_, X, G⟩ := Y.ex
  obtain ⟨fd, FD⟩ := Y.c.def_ 7 (d := d_need_falling)
  have hb : Binds K fd ["line", "ballot"] [] := FD.bindsN fun _ _ _ _ _ _ us h => by
    match us, h with
    | [a0, a1], _ => rfl
  exact ⟨⟨_, fd, ["line", "ballot"], [], He.glo_ok X G (Y.c.fact 7), FD.kp, fnG_D FD S_need_falling rfl fun cdv A outer s H E hr hgd => W_need_falling Y cdv A outer s H E hr hgd, hb, .nil, rfl, rfl⟩⟩
/-! need_both_falling: 0 line, 1 ballot, 2 second -/
def N_need_both_falling : List Str := ["line", "ballot", "second"]
theorem W_need_both_falling (Y : Ctx K mg) {f : Addr} (cdv : Value) (A : Around) (outer : List Env) (s : Shared) (H : Hp) (E : XK) (hr : Room 3 (A.deeper (envOfC "need_both_falling" (defScope (topS 19)) s.heap.objs.size f cdv))) (hgd : A.guards = some []) :
    SSs (GX Pg w K mg base N_need_both_falling "need_both_falling" (defScope (topS 19)) f cdv A outer s H E) (GW E) [] (defBody (topS 19)) B_need_both_falling := by
  have h64 : (A.deeper (envOfC "need_both_falling" (defScope (topS 19)) s.heap.objs.size f cdv)).units + 64 < cLine := hr.units
  have h65 : (A.deeper (envOfC "need_both_falling" (defScope (topS 19)) s.heap.objs.size f cdv)).units + 65 < cLine := by have := hr.un; omega
  have nd : N_need_both_falling.Nodup := by decide
  exact (ss_cons (ss_expr (se_callD ((D_need_line_1 Y).mono (by decide)) hr hgd gx_pass rfl (sr_cons (se_tk (se_var 0)) sr_nil) (len_rCons len_rNil)))
    (ss_cons (ss_expr (se_callD ((D_need_ballot_2 Y).mono (by decide)) hr hgd gx_pass rfl (sr_cons (se_tk (se_b1 call_lenU c1_len rfl (m_len Y) (by decide +kernel) (se_var 0))) (sr_cons (se_tk (se_var 1)) sr_nil)) (len_rCons (len_rCons len_rNil))))
    (ss_cons (ss_expr (se_callD ((D_need_ballot_2 Y).mono (by decide)) hr hgd gx_pass rfl (sr_cons (se_tk (se_b1 call_lenU c1_len rfl (m_len Y) (by decide +kernel) (se_var 0))) (sr_cons (se_tk (se_var 2)) sr_nil)) (len_rCons (len_rCons len_rNil))))
    (ss_cons (ss_expr (se_callD ((D_need_falling_2 Y).mono (by decide)) hr hgd gx_pass rfl (sr_cons (se_tk (se_var 0)) (sr_cons (se_tk (se_var 1)) sr_nil)) (len_rCons (len_rCons len_rNil))))
    (ss_one (ss_expr (se_callD ((D_need_falling_2 Y).mono (by decide)) hr hgd gx_pass rfl (sr_cons (se_tk (se_var 0)) (sr_cons (se_tk (se_var 2)) sr_nil)) (len_rCons (len_rCons len_rNil)))))))))
theorem S_need_both_falling : FnScope N_need_both_falling ["line", "ballot", "second"] (defScope (topS 19)) := ⟨rfl, rfl, rfl, by decide, rfl, by decide +kernel, by decide +kernel⟩
theorem D_need_both_falling_3 (Y : Ctx K mg) : Dfn Pg w K mg base 4 "need_both_falling" 3 F_need_both_falling 3 [] := by
  obtain ⟨_, X, G⟩ := Y.ex
  obtain ⟨fd, FD⟩ := Y.c.def_ 8 (d := d_need_both_falling)
  have hb : Binds K fd ["line", "ballot", "second"] [] := FD.bindsN fun _ _ _ _ _ _ us h => by
    match us, h with
    | [a0, a1, a2], _ => rfl
  exact ⟨⟨_, fd, ["line", "ballot", "second"], [], He.glo_ok X G (Y.c.fact 8), FD.kp, fnG_D FD S_need_both_falling rfl fun cdv A outer s H E hr hgd => W_need_both_falling Y cdv A outer s H E hr hgd, hb, .nil, rfl, rfl⟩⟩
/-! exchanged_at: 0 ballot, 1 index -/
def N_exchanged_at : List Str := ["ballot", "index"]
theorem W_exchanged_at (Y : Ctx K mg) {f : Addr} (cdv : Value) (A : Around) (outer : List Env) (s : Shared) (H : Hp) (E : XK) (hr : Room 0 (A.deeper (envOfC "exchanged_at" (defScope (topS 18)) s.heap.objs.size f cdv))) (hgd : A.guards = some []) :
    SSs (GX Pg w K mg base N_exchanged_at "exchanged_at" (defScope (topS 18)) f cdv A outer s H E) (GW E) [] (defBody (topS 18)) B_exchanged_at := by
  have h64 : (A.deeper (envOfC "exchanged_at" (defScope (topS 18)) s.heap.objs.size f cdv)).units + 64 < cLine := hr.units
  have h65 : (A.deeper (envOfC "exchanged_at" (defScope (topS 18)) s.heap.objs.size f cdv)).units + 65 < cLine := by have := hr.un; omega
  have nd : N_exchanged_at.Nodup := by decide
  exact (ss_one (ss_ret (se_add (se_add (se_sl (se_var 0) .no (.yes (se_var 1))) (se_lst (sa_cons (se_ix2 h64 (se_var 0) (se_add (se_var 1) se_int)) (sa_cons (se_ix2 h64 (se_var 0) (se_var 1)) sa_nil)))) (se_sl (se_var 0) (.yes (se_add (se_var 1) se_int)) .no))))
theorem S_exchanged_at : FnScope N_exchanged_at ["ballot", "index"] (defScope (topS 18)) := ⟨rfl, rfl, rfl, by decide, rfl, by decide +kernel, by decide +kernel⟩
theorem D_exchanged_at_2 (Y : Ctx K mg) : Dfn Pg w K mg base 1 "exchanged_at" 2 F_exchanged_at 2 [] := by
  obtain ⟨_, X, G⟩ := Y.ex
  obtain ⟨fd, FD⟩ := Y.c.def_ 9 (d := d_exchanged_at)
  have hb : Binds K fd ["ballot", "index"] [] := FD.bindsN fun _ _ _ _ _ _ us h => by
    match us, h with
    | [a0, a1], _ => rfl
  exact ⟨⟨_, fd, ["ballot", "index"], [], He.glo_ok X G (Y.c.fact 9), FD.kp, fnG_D FD S_exchanged_at rfl fun cdv A outer s H E hr hgd => W_exchanged_at Y cdv A outer s H E hr hgd, hb, .nil, rfl, rfl⟩⟩
/-! pairs_turned: 0 ballot, 1 second, 2 one, 3 ranks, 4 others, 5 found, 6 other -/
def N_pairs_turned : List Str := ["ballot", "second", "one", "ranks", "others", "found", "other"]
theorem W_pairs_turned (Y : Ctx K mg) {f : Addr} (cdv : Value) (A : Around) (outer : List Env) (s : Shared) (H : Hp) (E : XK) (hr : Room 1 (A.deeper (envOfC "pairs_turned" (defScope (topS 13)) s.heap.objs.size f cdv))) (hgd : A.guards = some []) :
    SSs (GX Pg w K mg base N_pairs_turned "pairs_turned" (defScope (topS 13)) f cdv A outer s H E) (GW E) [] (defBody (topS 13)) B_pairs_turned := by
  have h64 : (A.deeper (envOfC "pairs_turned" (defScope (topS 13)) s.heap.objs.size f cdv)).units + 64 < cLine := hr.units
  have h65 : (A.deeper (envOfC "pairs_turned" (defScope (topS 13)) s.heap.objs.size f cdv)).units + 65 < cLine := by have := hr.un; omega
  have nd : N_pairs_turned.Nodup := by decide
  exact (ss_cons (ss_par3 rfl nd rfl rfl rfl (by decide) (by decide) (by decide) (by decide) rfl rfl rfl (sr_cons (se_tk (se_callD ((D_ranks_in_1 Y).mono (by decide)) hr hgd gx_pass rfl (sr_cons (se_tk (se_var 0)) sr_nil) (len_rCons len_rNil))) (sr_cons (se_tk (se_callD ((D_ranks_in_1 Y).mono (by decide)) hr hgd gx_pass rfl (sr_cons (se_tk (se_var 1)) sr_nil) (len_rCons len_rNil))) (sr_cons (se_lst sa_nil) sr_nil))))
    (ss_cons (ss_for (passes_of rfl) rfl (si_rng1 rfl (m_range Y) (se_b1 call_lenU c1_len rfl (m_len Y) (by decide +kernel) (se_var 0))) (sg_name 2 nd rfl (by first | exact Or.inl rfl | exact Or.inr rfl) (by decide)) (ss_one (ss_for (passes_of rfl) rfl (si_rng2 rfl (m_range Y) (se_add (se_var 2) se_int) (se_b1 call_lenU c1_len rfl (m_len Y) (by decide +kernel) (se_var 0))) (sg_name 6 nd rfl (by first | exact Or.inl rfl | exact Or.inr rfl) (by decide)) (ss_one (ss_if (st_ne h64 (se_lt (se_ix2 h64 (se_var 3) (se_var 2)) (se_ix2 h64 (se_var 3) (se_var 6))) (se_lt (se_ix2 h64 (se_var 4) (se_var 2)) (se_ix2 h64 (se_var 4) (se_var 6)))) (ss_one (ss_expr (se_app (se_var 5) (se_tup (sa_cons (se_var 2) (sa_cons (se_var 6) sa_nil)))))) ss_nil)))))
    (ss_one (ss_ret (se_var 5)))))
theorem S_pairs_turned : FnScope N_pairs_turned ["ballot", "second"] (defScope (topS 13)) := ⟨rfl, rfl, rfl, by decide, rfl, by decide +kernel, by decide +kernel⟩
theorem D_pairs_turned_2 (Y : Ctx K mg) : Dfn Pg w K mg base 2 "pairs_turned" 2 F_pairs_turned 2 [] := by
  obtain ⟨_, X, G⟩ := Y.ex
  obtain ⟨fd, FD⟩ := Y.c.def_ 10 (d := d_pairs_turned)
  have hb : Binds K fd ["ballot", "second"] [] := FD.bindsN fun _ _ _ _ _ _ us h => by
    match us, h with
    | [a0, a1], _ => rfl
  exact ⟨⟨_, fd, ["ballot", "second"], [], He.glo_ok X G (Y.c.fact 10), FD.kp, fnG_D FD S_pairs_turned rfl fun cdv A outer s H E hr hgd => W_pairs_turned Y cdv A outer s H E hr hgd, hb, .nil, rfl, rfl⟩⟩
/-! is_way: 0 line, 1 ballot, 2 second_ballot, 3 value, 4 here, 5 later, 6 item, 7 index -/
def N_is_way : List Str := ["line", "ballot", "second_ballot", "value", "here", "later", "item", "index"]
theorem W_is_way (Y : Ctx K mg) {f : Addr} (cdv : Value) (A : Around) (outer : List Env) (s : Shared) (H : Hp) (E : XK) (hr : Room 4 (A.deeper (envOfC "is_way" (defScope (topS 20)) s.heap.objs.size f cdv))) (hgd : A.guards = some []) :
    SSs (GX Pg w K mg base N_is_way "is_way" (defScope (topS 20)) f cdv A outer s H E) (GW E) [] (defBody (topS 20)) B_is_way := by
  have h64 : (A.deeper (envOfC "is_way" (defScope (topS 20)) s.heap.objs.size f cdv)).units + 64 < cLine := hr.units
  have h65 : (A.deeper (envOfC "is_way" (defScope (topS 20)) s.heap.objs.size f cdv)).units + 65 < cLine := by have := hr.un; omega
  have nd : N_is_way.Nodup := by decide
  exact (ss_cons (ss_expr (se_callD ((D_need_both_falling_3 Y).mono (by decide)) hr hgd gx_pass rfl (sr_cons (se_tk (se_var 0)) (sr_cons (se_tk (se_var 1)) (sr_cons (se_tk (se_var 2)) sr_nil))) (len_rCons (len_rCons (len_rCons len_rNil)))))
    (ss_cons (ss_if (st_w (sw_or (st_not (st_tru (se_isi (T := "list") (by decide +kernel) rfl (m_isinstance Y) rfl (m_list Y) (by decide +kernel) (se_var 3)))) (sw_or1 (st_not (st_tru (se_b1 (cr_all rfl) c1_all rfl (m_all Y) (by decide +kernel) (se_lc false rfl nd (si_seq (se_var 3)) (own := [("item", 6)]) (by kernel_rfl) (by decide) (by decide) (fun _ _ _ _ _ => (sg_name 6 nd rfl (by first | exact Or.inl rfl | exact Or.inr rfl) (by decide))) (fun _ _ _ _ _ => sts_nil) (fun _ _ _ _ _ => (se_tk (se_callD ((D_is_each_once_2 Y).mono (by decide)) hr hgd w0_pass rfl (sr_cons (se_tk (se_b1 call_lenU c1_len rfl (m_len Y) (by decide +kernel) (se_var 0))) (sr_cons (se_tk (se_var 6)) sr_nil)) (len_rCons (len_rCons len_rNil)))))))))))) (ss_one (ss_ret se_bl)) ss_nil)
    (ss_cons (ss_if (st_w (sw_or (st_ne h64 (se_b1 call_lenU c1_len rfl (m_len Y) (by decide +kernel) (se_var 3)) (se_add (se_b1 call_lenU c1_len rfl (m_len Y) (by decide +kernel) (se_callD ((D_pairs_turned_2 Y).mono (by decide)) hr hgd gx_pass rfl (sr_cons (se_tk (se_var 1)) (sr_cons (se_tk (se_var 2)) sr_nil)) (len_rCons (len_rCons len_rNil)))) se_int)) (sw_or (st_ne h64 (se_ix2 h64 (se_var 3) se_int) (se_var 1)) (sw_or1 (st_ne h64 (se_ix2 h64 (se_var 3) (se_neg se_int)) (se_var 2)))))) (ss_one (ss_ret se_bl)) ss_nil)
    (ss_cons (ss_if (st_not (st_tru (se_b1 (cr_all rfl) c1_all rfl (m_all Y) (by decide +kernel) (se_lc false rfl nd (si_seq (se_var 3)) (own := [("item", 6)]) (by kernel_rfl) (by decide) (by decide) (fun _ _ _ _ _ => (sg_name 6 nd rfl (by first | exact Or.inl rfl | exact Or.inr rfl) (by decide))) (fun _ _ _ _ _ => sts_nil) (fun _ _ _ _ _ => (se_tk (se_callD ((D_falls_2 Y).mono (by decide)) hr hgd w0_pass rfl (sr_cons (se_tk (se_var 0)) (sr_cons (se_tk (se_var 6)) sr_nil)) (len_rCons (len_rCons len_rNil))))))))) (ss_one (ss_ret se_bl)) ss_nil)
    (ss_cons (ss_for (passes_of rfl) rfl (si_zip rfl (m_zip Y) (se_var 3) (se_sl (se_var 3) (.yes se_int) .no)) (sg_tup rfl (sgs_cons (sg_name 4 nd rfl (by first | exact Or.inl rfl | exact Or.inr rfl) (by decide)) (sgs_cons (sg_name 5 nd rfl (by first | exact Or.inl rfl | exact Or.inr rfl) (by decide)) sgs_nil))) (ss_one (ss_if (st_nin h65 (se_var 5) (se_lc false rfl nd (si_rng1 rfl (m_range Y) (se_sub (se_b1 call_lenU c1_len rfl (m_len Y) (by decide +kernel) (se_var 4)) se_int)) (own := [("index", 7)]) (by kernel_rfl) (by decide) (by decide) (fun _ _ _ _ _ => (sg_name 7 nd rfl (by first | exact Or.inl rfl | exact Or.inr rfl) (by decide))) (fun _ _ _ _ _ => sts_nil) (fun _ _ _ _ _ => (se_tk (se_callD ((D_exchanged_at_2 Y).mono (by decide)) hr hgd w0_pass rfl (sr_cons (se_tk (se_var 4)) (sr_cons (se_tk (se_var 7)) sr_nil)) (len_rCons (len_rCons len_rNil))))))) (ss_one (ss_ret se_bl)) ss_nil)))
    (ss_one (ss_ret se_bl)))))))
theorem S_is_way : FnScope N_is_way ["line", "ballot", "second_ballot", "value"] (defScope (topS 20)) := ⟨rfl, rfl, rfl, by decide, rfl, by decide +kernel, by decide +kernel⟩
theorem D_is_way_4 (Y : Ctx K mg) : Dfn Pg w K mg base 5 "is_way" 4 F_is_way 4 [] := by
  obtain ⟨_, X, G⟩ := Y.ex
  obtain ⟨fd, FD⟩ := Y.c.def_ 11 (d := d_is_way)
  have hb : Binds K fd ["line", "ballot", "second_ballot", "value"] [] := FD.bindsN fun _ _ _ _ _ _ us h => by
    match us, h with
    | [a0, a1, a2, a3], _ => rfl
  exact ⟨⟨_, fd, ["line", "ballot", "second_ballot", "value"], [], He.glo_ok X G (Y.c.fact 11), FD.kp, fnG_D FD S_is_way rfl fun cdv A outer s H E hr hgd => W_is_way Y cdv A outer s H E hr hgd, hb, .nil, rfl, rfl⟩⟩
/-! _law_draw: 0 _law_tap_here, 1 _law_bound, 2 _law_found -/
def N__law_draw : List Str := ["_law_tap_here", "_law_bound", "_law_found"]
theorem W__law_draw (Y : Ctx K mg) {f : Addr} (cdv : Value) (A : Around) (outer : List Env) (s : Shared) (H : Hp) (E : XK) (hr : Room 0 (A.deeper (envOfC "_law_draw" (defScope (topS 23)) s.heap.objs.size f cdv))) (hgd : A.guards = some []) :
    SSs (GX Pg w K mg base N__law_draw "_law_draw" (defScope (topS 23)) f cdv A outer s H E) (GW E) [0] (defBody (topS 23)) B__law_draw := by
  have h64 : (A.deeper (envOfC "_law_draw" (defScope (topS 23)) s.heap.objs.size f cdv)).units + 64 < cLine := hr.units
  have h65 : (A.deeper (envOfC "_law_draw" (defScope (topS 23)) s.heap.objs.size f cdv)).units + 65 < cLine := by have := hr.un; omega
  have nd : N__law_draw.Nodup := by decide
  exact (ss_cons (ss_if (st_ge (se_ix2 h64 (se_var 0) se_int) (se_powW se_int se_int)) (ss_cons (ss_set 2 nd rfl (by first | exact Or.inl rfl | exact Or.inr rfl) (by decide) (se_mod (se_t1 call_int1 c1_int rfl (m_int Y) (by decide +kernel) (se_ix2 h64 (se_var 0) se_int)) (se_var 1)))
    (ss_cons (ss_asg (se_fdivW (se_ix2 h64 (se_var 0) se_int) (se_var 1)) (sg_sub (se_var 0) se_int))
    (ss_one (ss_ret (se_var 2))))) ss_nil)
    (ss_cons (ss_asg (se_mod (se_t1 call_int1 c1_int rfl (m_int Y) (by decide +kernel) (se_add (se_mul (se_ix2 h64 (se_var 0) se_int) se_int) se_int)) se_int) (sg_sub (se_var 0) se_int))
    (ss_cons (ss_asg (se_mod (se_t1 call_int1 c1_int rfl (m_int Y) (by decide +kernel) (se_add (se_mul (se_ix2 h64 (se_var 0) se_int) (se_ix2 h64 (se_var 0) se_int)) (se_ix2 h64 (se_var 0) se_int))) se_int) (sg_sub (se_var 0) se_int))
    (ss_one (ss_ret (se_mod (se_t1 call_int1 c1_int rfl (m_int Y) (by decide +kernel) (se_add (se_fdivW (se_ix2 h64 (se_var 0) se_int) se_int) (se_fdivW (se_ix2 h64 (se_var 0) se_int) se_int))) (se_var 1)))))))
theorem S__law_draw : FnScope N__law_draw ["_law_tap_here", "_law_bound"] (defScope (topS 23)) := ⟨rfl, rfl, rfl, by decide, rfl, by decide +kernel, by decide +kernel⟩
theorem D__law_draw_2 (Y : Ctx K mg) : Dfn Pg w K mg base 1 "_law_draw" 2 F__law_draw 2 [] := by
  obtain ⟨_, X, G⟩ := Y.ex
  obtain ⟨fd, FD⟩ := Y.c.def_ 12 (d := d__law_draw)
  have hb : Binds K fd ["_law_tap_here", "_law_bound"] [] := FD.bindsN fun _ _ _ _ _ _ us h => by
    match us, h with
    | [a0, a1], _ => rfl
  exact ⟨⟨_, fd, ["_law_tap_here", "_law_bound"], [], He.glo_ok X G (Y.c.fact 12), FD.kp, fnG_D FD S__law_draw rfl fun cdv A outer s H E hr hgd => W__law_draw Y cdv A outer s H E hr hgd, hb, .nil, rfl, rfl⟩⟩
/-! _law_mixed: 0 _law_tap_here, 1 _law_count, 2 _law_left, 3 _law_found -/
def N__law_mixed : List Str := ["_law_tap_here", "_law_count", "_law_left", "_law_found"]
theorem W__law_mixed (Y : Ctx K mg) {f : Addr} (cdv : Value) (A : Around) (outer : List Env) (s : Shared) (H : Hp) (E : XK) (hr : Room 1 (A.deeper (envOfC "_law_mixed" (defScope (topS 25)) s.heap.objs.size f cdv))) (hgd : A.guards = some []) :
    SSs (GX Pg w K mg base N__law_mixed "_law_mixed" (defScope (topS 25)) f cdv A outer s H E) (GW E) [0] (defBody (topS 25)) B__law_mixed := by
  have h64 : (A.deeper (envOfC "_law_mixed" (defScope (topS 25)) s.heap.objs.size f cdv)).units + 64 < cLine := hr.units
  have h65 : (A.deeper (envOfC "_law_mixed" (defScope (topS 25)) s.heap.objs.size f cdv)).units + 65 < cLine := by have := hr.un; omega
  have nd : N__law_mixed.Nodup := by decide
  exact (ss_cons (ss_par2 rfl nd rfl rfl (by decide) (by decide) rfl rfl (sr_cons (se_lrg1 rfl rfl (m_list Y) rfl (m_range Y) (se_var 1)) (sr_cons (se_lst sa_nil) sr_nil)))
    (ss_cons (ss_while 1000 (passes_of rfl) (st_neE h64 (se_var 2) (se_lst sa_nil)) (ss_one (ss_expr (se_app (se_var 3) (se_pop1 (se_var 2) (se_callD ((D__law_draw_2 Y).mono (by decide)) hr hgd gx_pass rfl (sr_io 0 rfl (by first | exact Or.inl rfl | exact Or.inr (Or.inl rfl) | exact Or.inr (Or.inr rfl)) (sr_cons (se_tk (se_b1 call_lenU c1_len rfl (m_len Y) (by decide +kernel) (se_var 2))) sr_nil)) (len_rIo (len_rCons len_rNil))))))))
    (ss_one (ss_ret (se_var 3)))))
theorem S__law_mixed : FnScope N__law_mixed ["_law_tap_here", "_law_count"] (defScope (topS 25)) := ⟨rfl, rfl, rfl, by decide, rfl, by decide +kernel, by decide +kernel⟩
theorem D__law_mixed_2 (Y : Ctx K mg) : Dfn Pg w K mg base 2 "_law_mixed" 2 F__law_mixed 2 [] := by
  obtain ⟨_, X, G⟩ := Y.ex
  obtain ⟨fd, FD⟩ := Y.c.def_ 13 (d := d__law_mixed)
  have hb : Binds K fd ["_law_tap_here", "_law_count"] [] := FD.bindsN fun _ _ _ _ _ _ us h => by
    match us, h with
    | [a0, a1], _ => rfl
  exact ⟨⟨_, fd, ["_law_tap_here", "_law_count"], [], He.glo_ok X G (Y.c.fact 13), FD.kp, fnG_D FD S__law_mixed rfl fun cdv A outer s H E hr hgd => W__law_mixed Y cdv A outer s H E hr hgd, hb, .nil, rfl, rfl⟩⟩
/-! _law_fallen: 0 _law_tap_here, 1 _law_path, 2 _law_low, 3 _law_high, 4 _law_found -/
def N__law_fallen : List Str := ["_law_tap_here", "_law_path", "_law_low", "_law_high", "_law_found"]
theorem W__law_fallen (Y : Ctx K mg) {f : Addr} (cdv : Value) (A : Around) (outer : List Env) (s : Shared) (H : Hp) (E : XK) (hr : Room 1 (A.deeper (envOfC "_law_fallen" (defScope (topS 27)) s.heap.objs.size f cdv))) (hgd : A.guards = some []) :
    SSs (GX Pg w K mg base N__law_fallen "_law_fallen" (defScope (topS 27)) f cdv A outer s H E) (GW E) [0] (defBody (topS 27)) B__law_fallen := by
  have h64 : (A.deeper (envOfC "_law_fallen" (defScope (topS 27)) s.heap.objs.size f cdv)).units + 64 < cLine := hr.units
  have h65 : (A.deeper (envOfC "_law_fallen" (defScope (topS 27)) s.heap.objs.size f cdv)).units + 65 < cLine := by have := hr.un; omega
  have nd : N__law_fallen.Nodup := by decide
  exact (ss_cons (ss_set 2 nd rfl (by first | exact Or.inl rfl | exact Or.inr rfl) (by decide) (se_callD ((D__law_draw_2 Y).mono (by decide)) hr hgd gx_pass rfl (sr_io 0 rfl (by first | exact Or.inl rfl | exact Or.inr (Or.inl rfl) | exact Or.inr (Or.inr rfl)) (sr_cons (se_tk (se_b1 call_lenU c1_len rfl (m_len Y) (by decide +kernel) (se_var 1))) sr_nil)) (len_rIo (len_rCons len_rNil))))
    (ss_cons (ss_par2 rfl nd rfl rfl (by decide) (by decide) rfl rfl (sr_cons (se_tk (se_var 2)) (sr_cons (se_lst (sa_cons (se_ix2 h64 (se_var 1) (se_var 2)) sa_nil)) sr_nil)))
    (ss_cons (ss_while 1000 (passes_of rfl) (st_lt (se_b1 call_lenU c1_len rfl (m_len Y) (by decide +kernel) (se_var 4)) (se_b1 call_lenU c1_len rfl (m_len Y) (by decide +kernel) (se_var 1))) (ss_one (ss_if (st_w (sw_and (st_gt (se_var 2) se_int) (sw_and1 (st_w (sw_or (st_eq h64 (se_var 3) (se_sub (se_b1 call_lenU c1_len rfl (m_len Y) (by decide +kernel) (se_var 1)) se_int)) (sw_or1 (st_eq h64 (se_callD ((D__law_draw_2 Y).mono (by decide)) hr hgd gx_pass rfl (sr_io 0 rfl (by first | exact Or.inl rfl | exact Or.inr (Or.inl rfl) | exact Or.inr (Or.inr rfl)) (sr_cons se_int sr_nil)) (len_rIo (len_rCons len_rNil))) se_int))))))) (ss_cons (ss_set 2 nd rfl (by first | exact Or.inl rfl | exact Or.inr rfl) (by decide) (se_sub (se_var 2) se_int))
    (ss_one (ss_expr (se_app (se_var 4) (se_ix2 h64 (se_var 1) (se_var 2)))))) (ss_cons (ss_set 3 nd rfl (by first | exact Or.inl rfl | exact Or.inr rfl) (by decide) (se_tk (se_add (se_var 3) se_int)))
    (ss_one (ss_expr (se_app (se_var 4) (se_ix2 h64 (se_var 1) (se_var 3)))))))))
    (ss_one (ss_ret (se_var 4))))))
theorem S__law_fallen : FnScope N__law_fallen ["_law_tap_here", "_law_path"] (defScope (topS 27)) := ⟨rfl, rfl, rfl, by decide, rfl, by decide +kernel, by decide +kernel⟩
theorem D__law_fallen_2 (Y : Ctx K mg) : Dfn Pg w K mg base 2 "_law_fallen" 2 F__law_fallen 2 [] := by
  obtain ⟨_, X, G⟩ := Y.ex
  obtain ⟨fd, FD⟩ := Y.c.def_ 14 (d := d__law_fallen)
  have hb : Binds K fd ["_law_tap_here", "_law_path"] [] := FD.bindsN fun _ _ _ _ _ _ us h => by
    match us, h with
    | [a0, a1], _ => rfl
  exact ⟨⟨_, fd, ["_law_tap_here", "_law_path"], [], He.glo_ok X G (Y.c.fact 14), FD.kp, fnG_D FD S__law_fallen rfl fun cdv A outer s H E hr hgd => W__law_fallen Y cdv A outer s H E hr hgd, hb, .nil, rfl, rfl⟩⟩
/-! _law_falls: 0 _law_path, 1 _law_row, 2 _law_spots, 3 _law_place, 4 _law_low, 5 _law_high, 6 _law_k -/
def N__law_falls : List Str := ["_law_path", "_law_row", "_law_spots", "_law_place", "_law_low", "_law_high", "_law_k"]
theorem W__law_falls (Y : Ctx K mg) {f : Addr} (cdv : Value) (A : Around) (outer : List Env) (s : Shared) (H : Hp) (E : XK) (hr : Room 0 (A.deeper (envOfC "_law_falls" (defScope (topS 26)) s.heap.objs.size f cdv))) (hgd : A.guards = some []) :
    SSs (GX Pg w K mg base N__law_falls "_law_falls" (defScope (topS 26)) f cdv A outer s H E) (GW E) [] (defBody (topS 26)) B__law_falls := by
  have h64 : (A.deeper (envOfC "_law_falls" (defScope (topS 26)) s.heap.objs.size f cdv)).units + 64 < cLine := hr.units
  have h65 : (A.deeper (envOfC "_law_falls" (defScope (topS 26)) s.heap.objs.size f cdv)).units + 65 < cLine := by have := hr.un; omega
  have nd : N__law_falls.Nodup := by decide
  exact (ss_cons (ss_set 2 nd rfl (by first | exact Or.inl rfl | exact Or.inr rfl) (by decide) (se_tk (se_t1 (call_dictP rfl) c1_dictP rfl (m_dict Y) (by decide +kernel) (se_lc false rfl nd (si_rng1 rfl (m_range Y) (se_b1 call_lenU c1_len rfl (m_len Y) (by decide +kernel) (se_var 0))) (own := [("_law_k", 6)]) (by kernel_rfl) (by decide) (by decide) (fun _ _ _ _ _ => (sg_name 6 nd rfl (by first | exact Or.inl rfl | exact Or.inr rfl) (by decide))) (fun _ _ _ _ _ => sts_nil) (fun _ _ _ _ _ => (se_tk (se_tup (sa_cons (se_ix2 h64 (se_var 0) (se_var 6)) (sa_cons (se_var 6) sa_nil)))))))))
    (ss_cons (ss_par2 rfl nd rfl rfl (by decide) (by decide) rfl rfl (sr_cons (se_tk (se_ix2 h64 (se_var 2) (se_ix2 h64 (se_var 1) se_int))) (sr_cons (se_tk (se_ix2 h64 (se_var 2) (se_ix2 h64 (se_var 1) se_int))) sr_nil)))
    (ss_cons (ss_for (passes_of rfl) rfl (si_seq (se_sl (se_var 1) (.yes se_int) .no)) (sg_name 3 nd rfl (by first | exact Or.inl rfl | exact Or.inr rfl) (by decide)) (ss_one (ss_if (st_eq h64 (se_ix2 h64 (se_var 2) (se_var 3)) (se_sub (se_var 4) se_int)) (ss_one (ss_set 4 nd rfl (by first | exact Or.inl rfl | exact Or.inr rfl) (by decide) (se_tk (se_sub (se_var 4) se_int)))) (ss_one (ss_if (st_eq h64 (se_ix2 h64 (se_var 2) (se_var 3)) (se_add (se_var 5) se_int)) (ss_one (ss_set 5 nd rfl (by first | exact Or.inl rfl | exact Or.inr rfl) (by decide) (se_tk (se_add (se_var 5) se_int)))) (ss_one (ss_ret se_bl)))))))
    (ss_one (ss_ret se_bl)))))
theorem S__law_falls : FnScope N__law_falls ["_law_path", "_law_row"] (defScope (topS 26)) := ⟨rfl, rfl, rfl, by decide, rfl, by decide +kernel, by decide +kernel⟩
theorem D__law_falls_2 (Y : Ctx K mg) : Dfn Pg w K mg base 1 "_law_falls" 2 F__law_falls 2 [] := by
  obtain ⟨_, X, G⟩ := Y.ex
  obtain ⟨fd, FD⟩ := Y.c.def_ 15 (d := d__law_falls)
  have hb : Binds K fd ["_law_path", "_law_row"] [] := FD.bindsN fun _ _ _ _ _ _ us h => by
    match us, h with
    | [a0, a1], _ => rfl
  exact ⟨⟨_, fd, ["_law_path", "_law_row"], [], He.glo_ok X G (Y.c.fact 15), FD.kp, fnG_D FD S__law_falls rfl fun cdv A outer s H E hr hgd => W__law_falls Y cdv A outer s H E hr hgd, hb, .nil, rfl, rfl⟩⟩
/-! _law_steps: 0 _law_path, 1 _law_row, 2 _law_second, 3 _law_is_tight, 4 _law_found, 5 _law_k, 6 _law_one -/
def N__law_steps : List Str := ["_law_path", "_law_row", "_law_second", "_law_is_tight", "_law_found", "_law_k", "_law_one"]
theorem W__law_steps (Y : Ctx K mg) {f : Addr} (cdv : Value) (A : Around) (outer : List Env) (s : Shared) (H : Hp) (E : XK) (hr : Room 1 (A.deeper (envOfC "_law_steps" (defScope (topS 32)) s.heap.objs.size f cdv))) (hgd : A.guards = some []) :
    SSs (GX Pg w K mg base N__law_steps "_law_steps" (defScope (topS 32)) f cdv A outer s H E) (GW E) [] (defBody (topS 32)) B__law_steps := by
  have h64 : (A.deeper (envOfC "_law_steps" (defScope (topS 32)) s.heap.objs.size f cdv)).units + 64 < cLine := hr.units
  have h65 : (A.deeper (envOfC "_law_steps" (defScope (topS 32)) s.heap.objs.size f cdv)).units + 65 < cLine := by have := hr.un; omega
  have nd : N__law_steps.Nodup := by decide
  exact (ss_cons (ss_set 4 nd rfl (by first | exact Or.inl rfl | exact Or.inr rfl) (by decide) (se_lst sa_nil))
    (ss_cons (ss_for (passes_of rfl) rfl (si_rng1 rfl (m_range Y) (se_sub (se_b1 call_lenU c1_len rfl (m_len Y) (by decide +kernel) (se_var 1)) se_int)) (sg_name 5 nd rfl (by first | exact Or.inl rfl | exact Or.inr rfl) (by decide)) (ss_one (ss_if (st_gt (se_index h65 (se_var 2) (se_ix2 h64 (se_var 1) (se_var 5))) (se_index h65 (se_var 2) (se_ix2 h64 (se_var 1) (se_add (se_var 5) se_int)))) (ss_cons (ss_set 6 nd rfl (by first | exact Or.inl rfl | exact Or.inr rfl) (by decide) (se_tk (se_add (se_add (se_sl (se_var 1) .no (.yes (se_var 5))) (se_lst (sa_cons (se_ix2 h64 (se_var 1) (se_add (se_var 5) se_int)) (sa_cons (se_ix2 h64 (se_var 1) (se_var 5)) sa_nil)))) (se_sl (se_var 1) (.yes (se_add (se_var 5) se_int)) .no))))
    (ss_one (ss_if (st_w (sw_or (st_not (st_tru (se_var 3))) (sw_or1 (st_tru (se_callD ((D__law_falls_2 Y).mono (by decide)) hr hgd gx_pass rfl (sr_cons (se_tk (se_var 0)) (sr_cons (se_tk (se_var 6)) sr_nil)) (len_rCons (len_rCons len_rNil))))))) (ss_one (ss_expr (se_app (se_var 4) (se_var 6)))) ss_nil))) ss_nil)))
    (ss_one (ss_ret (se_var 4)))))
theorem S__law_steps : FnScope N__law_steps ["_law_path", "_law_row", "_law_second", "_law_is_tight"] (defScope (topS 32)) := ⟨rfl, rfl, rfl, by decide, rfl, by decide +kernel, by decide +kernel⟩
theorem D__law_steps_4 (Y : Ctx K mg) : Dfn Pg w K mg base 2 "_law_steps" 4 F__law_steps 4 [] := by
  obtain ⟨_, X, G⟩ := Y.ex
  obtain ⟨fd, FD⟩ := Y.c.def_ 16 (d := d__law_steps)
  have hb : Binds K fd ["_law_path", "_law_row", "_law_second", "_law_is_tight"] [] := FD.bindsN fun _ _ _ _ _ _ us h => by
    match us, h with
    | [a0, a1, a2, a3], _ => rfl
  exact ⟨⟨_, fd, ["_law_path", "_law_row", "_law_second", "_law_is_tight"], [], He.glo_ok X G (Y.c.fact 16), FD.kp, fnG_D FD S__law_steps rfl fun cdv A outer s H E hr hgd => W__law_steps Y cdv A outer s H E hr hgd, hb, .nil, rfl, rfl⟩⟩
/-! _law_walked: 0 _law_tap_here, 1 _law_path, 2 _law_row, 3 _law_second, 4 _law_is_tight, 5 _law_found, 6 _law_some -/
def N__law_walked : List Str := ["_law_tap_here", "_law_path", "_law_row", "_law_second", "_law_is_tight", "_law_found", "_law_some"]
theorem W__law_walked (Y : Ctx K mg) {f : Addr} (cdv : Value) (A : Around) (outer : List Env) (s : Shared) (H : Hp) (E : XK) (hr : Room 2 (A.deeper (envOfC "_law_walked" (defScope (topS 33)) s.heap.objs.size f cdv))) (hgd : A.guards = some []) :
    SSs (GX Pg w K mg base N__law_walked "_law_walked" (defScope (topS 33)) f cdv A outer s H E) (GW E) [0] (defBody (topS 33)) B__law_walked := by
  have h64 : (A.deeper (envOfC "_law_walked" (defScope (topS 33)) s.heap.objs.size f cdv)).units + 64 < cLine := hr.units
  have h65 : (A.deeper (envOfC "_law_walked" (defScope (topS 33)) s.heap.objs.size f cdv)).units + 65 < cLine := by have := hr.un; omega
  have nd : N__law_walked.Nodup := by decide
  exact (ss_cons (ss_set 5 nd rfl (by first | exact Or.inl rfl | exact Or.inr rfl) (by decide) (se_lst (sa_cons (se_var 2) sa_nil)))
    (ss_cons (ss_while 1000 (passes_of rfl) (st_ne h64 (se_ix2 h64 (se_var 5) (se_neg se_int)) (se_var 3)) (ss_cons (ss_set 6 nd rfl (by first | exact Or.inl rfl | exact Or.inr rfl) (by decide) (se_tk (se_callD ((D__law_steps_4 Y).mono (by decide)) hr hgd gx_pass rfl (sr_cons (se_tk (se_var 1)) (sr_cons (se_tk (se_ix2 h64 (se_var 5) (se_neg se_int))) (sr_cons (se_tk (se_var 3)) (sr_cons (se_tk (se_var 4)) sr_nil)))) (len_rCons (len_rCons (len_rCons (len_rCons len_rNil)))))))
    (ss_one (ss_expr (se_app (se_var 5) (se_ix2 h64 (se_var 6) (se_callD ((D__law_draw_2 Y).mono (by decide)) hr hgd gx_pass rfl (sr_io 0 rfl (by first | exact Or.inl rfl | exact Or.inr (Or.inl rfl) | exact Or.inr (Or.inr rfl)) (sr_cons (se_tk (se_b1 call_lenU c1_len rfl (m_len Y) (by decide +kernel) (se_var 6))) sr_nil)) (len_rIo (len_rCons len_rNil)))))))))
    (ss_one (ss_ret (se_var 5)))))
theorem S__law_walked : FnScope N__law_walked ["_law_tap_here", "_law_path", "_law_row", "_law_second", "_law_is_tight"] (defScope (topS 33)) := ⟨rfl, rfl, rfl, by decide, rfl, by decide +kernel, by decide +kernel⟩
theorem D__law_walked_5 (Y : Ctx K mg) : Dfn Pg w K mg base 3 "_law_walked" 5 F__law_walked 5 [] := by
  obtain ⟨_, X, G⟩ := Y.ex
  obtain ⟨fd, FD⟩ := Y.c.def_ 17 (d := d__law_walked)
  have hb : Binds K fd ["_law_tap_here", "_law_path", "_law_row", "_law_second", "_law_is_tight"] [] := FD.bindsN fun _ _ _ _ _ _ us h => by
    match us, h with
    | [a0, a1, a2, a3, a4], _ => rfl
  exact ⟨⟨_, fd, ["_law_tap_here", "_law_path", "_law_row", "_law_second", "_law_is_tight"], [], He.glo_ok X G (Y.c.fact 17), FD.kp, fnG_D FD S__law_walked rfl fun cdv A outer s H E hr hgd => W__law_walked Y cdv A outer s H E hr hgd, hb, .nil, rfl, rfl⟩⟩
/-! _law_turned: 0 _law_row, 1 _law_second, 2 _law_found, 3 _law_k, 4 _law_other -/
def N__law_turned : List Str := ["_law_row", "_law_second", "_law_found", "_law_k", "_law_other"]
theorem W__law_turned (Y : Ctx K mg) {f : Addr} (cdv : Value) (A : Around) (outer : List Env) (s : Shared) (H : Hp) (E : XK) (hr : Room 0 (A.deeper (envOfC "_law_turned" (defScope (topS 28)) s.heap.objs.size f cdv))) (hgd : A.guards = some []) :
    SSs (GX Pg w K mg base N__law_turned "_law_turned" (defScope (topS 28)) f cdv A outer s H E) (GW E) [] (defBody (topS 28)) B__law_turned := by
  have h64 : (A.deeper (envOfC "_law_turned" (defScope (topS 28)) s.heap.objs.size f cdv)).units + 64 < cLine := hr.units
  have h65 : (A.deeper (envOfC "_law_turned" (defScope (topS 28)) s.heap.objs.size f cdv)).units + 65 < cLine := by have := hr.un; omega
  have nd : N__law_turned.Nodup := by decide
  exact (ss_cons (ss_set 2 nd rfl (by first | exact Or.inl rfl | exact Or.inr rfl) (by decide) se_int)
    (ss_cons (ss_for (passes_of rfl) rfl (si_rng1 rfl (m_range Y) (se_b1 call_lenU c1_len rfl (m_len Y) (by decide +kernel) (se_var 0))) (sg_name 3 nd rfl (by first | exact Or.inl rfl | exact Or.inr rfl) (by decide)) (ss_one (ss_for (passes_of rfl) rfl (si_seq (se_sl (se_var 0) (.yes (se_add (se_var 3) se_int)) .no)) (sg_name 4 nd rfl (by first | exact Or.inl rfl | exact Or.inr rfl) (by decide)) (ss_one (ss_set 2 nd rfl (by first | exact Or.inl rfl | exact Or.inr rfl) (by decide) (se_add (se_var 2) (se_t1 call_int1 c1_int rfl (m_int Y) (by decide +kernel) (se_lt (se_index h65 (se_var 1) (se_var 4)) (se_index h65 (se_var 1) (se_ix2 h64 (se_var 0) (se_var 3)))))))))))
    (ss_one (ss_ret (se_var 2)))))
theorem S__law_turned : FnScope N__law_turned ["_law_row", "_law_second"] (defScope (topS 28)) := ⟨rfl, rfl, rfl, by decide, rfl, by decide +kernel, by decide +kernel⟩
theorem D__law_turned_2 (Y : Ctx K mg) : Dfn Pg w K mg base 1 "_law_turned" 2 F__law_turned 2 [] := by
  obtain ⟨_, X, G⟩ := Y.ex
  obtain ⟨fd, FD⟩ := Y.c.def_ 18 (d := d__law_turned)
  have hb : Binds K fd ["_law_row", "_law_second"] [] := FD.bindsN fun _ _ _ _ _ _ us h => by
    match us, h with
    | [a0, a1], _ => rfl
  exact ⟨⟨_, fd, ["_law_row", "_law_second"], [], He.glo_ok X G (Y.c.fact 18), FD.kp, fnG_D FD S__law_turned rfl fun cdv A outer s H E hr hgd => W__law_turned Y cdv A outer s H E hr hgd, hb, .nil, rfl, rfl⟩⟩
/-! _law_are_next: 0 _law_row, 1 _law_second, 2 _law_unlike, 3 _law_k -/
def N__law_are_next : List Str := ["_law_row", "_law_second", "_law_unlike", "_law_k"]
theorem W__law_are_next (Y : Ctx K mg) {f : Addr} (cdv : Value) (A : Around) (outer : List Env) (s : Shared) (H : Hp) (E : XK) (hr : Room 0 (A.deeper (envOfC "_law_are_next" (defScope (topS 29)) s.heap.objs.size f cdv))) (hgd : A.guards = some []) :
    SSs (GX Pg w K mg base N__law_are_next "_law_are_next" (defScope (topS 29)) f cdv A outer s H E) (GW E) [] (defBody (topS 29)) B__law_are_next := by
  have h64 : (A.deeper (envOfC "_law_are_next" (defScope (topS 29)) s.heap.objs.size f cdv)).units + 64 < cLine := hr.units
  have h65 : (A.deeper (envOfC "_law_are_next" (defScope (topS 29)) s.heap.objs.size f cdv)).units + 65 < cLine := by have := hr.un; omega
  have nd : N__law_are_next.Nodup := by decide
  exact (ss_cons (ss_setLcT false (i := 2) rfl nd rfl rfl (by decide) (sw_true rfl rfl rfl rfl) (si_rng1 rfl (m_range Y) (se_b1 call_lenU c1_len rfl (m_len Y) (by decide +kernel) (se_var 0))) (own := [("_law_k", 3)]) (by kernel_rfl) (by decide) (by decide) (fun _ _ _ _ _ => (sg_name 3 nd rfl (by first | exact Or.inl rfl | exact Or.inr rfl) (by decide))) (fun _ _ _ _ _ => (sts_one (st_ne h64 (se_ix2 h64 (se_var 0) (se_var 3)) (se_ix2 h64 (se_var 1) (se_var 3))))) (fun _ _ _ _ _ => (se_tk (se_var 3))))
    (ss_cons (ss_if (st_w (sw_or (st_ne h64 (se_b1 call_lenU c1_len rfl (m_len Y) (by decide +kernel) (se_var 2)) se_int) (sw_or1 (st_ne h64 (se_ix2 h64 (se_var 2) se_int) (se_add (se_ix2 h64 (se_var 2) se_int) se_int))))) (ss_one (ss_ret se_bl)) ss_nil)
    (ss_one (ss_ret (se_eq h64 (se_lst (sa_cons (se_ix2 h64 (se_var 0) (se_ix2 h64 (se_var 2) se_int)) (sa_cons (se_ix2 h64 (se_var 0) (se_ix2 h64 (se_var 2) se_int)) sa_nil))) (se_lst (sa_cons (se_ix2 h64 (se_var 1) (se_ix2 h64 (se_var 2) se_int)) (sa_cons (se_ix2 h64 (se_var 1) (se_ix2 h64 (se_var 2) se_int)) sa_nil))))))))
theorem S__law_are_next : FnScope N__law_are_next ["_law_row", "_law_second"] (defScope (topS 29)) := ⟨rfl, rfl, rfl, by decide, rfl, by decide +kernel, by decide +kernel⟩
theorem D__law_are_next_2 (Y : Ctx K mg) : Dfn Pg w K mg base 1 "_law_are_next" 2 F__law_are_next 2 [] := by
  obtain ⟨_, X, G⟩ := Y.ex
  obtain ⟨fd, FD⟩ := Y.c.def_ 19 (d := d__law_are_next)
  have hb : Binds K fd ["_law_row", "_law_second"] [] := FD.bindsN fun _ _ _ _ _ _ us h => by
    match us, h with
    | [a0, a1], _ => rfl
  exact ⟨⟨_, fd, ["_law_row", "_law_second"], [], He.glo_ok X G (Y.c.fact 19), FD.kp, fnG_D FD S__law_are_next rfl fun cdv A outer s H E hr hgd => W__law_are_next Y cdv A outer s H E hr hgd, hb, .nil, rfl, rfl⟩⟩
/-! _law_is_row: 0 _law_count, 1 _law_value, 2 _law_one -/
def N__law_is_row : List Str := ["_law_count", "_law_value", "_law_one"]
theorem W__law_is_row (Y : Ctx K mg) {f : Addr} (cdv : Value) (A : Around) (outer : List Env) (s : Shared) (H : Hp) (E : XK) (hr : Room 0 (A.deeper (envOfC "_law_is_row" (defScope (topS 30)) s.heap.objs.size f cdv))) (hgd : A.guards = some []) :
    SSs (GX Pg w K mg base N__law_is_row "_law_is_row" (defScope (topS 30)) f cdv A outer s H E) (GW E) [] (defBody (topS 30)) B__law_is_row := by
  have h64 : (A.deeper (envOfC "_law_is_row" (defScope (topS 30)) s.heap.objs.size f cdv)).units + 64 < cLine := hr.units
  have h65 : (A.deeper (envOfC "_law_is_row" (defScope (topS 30)) s.heap.objs.size f cdv)).units + 65 < cLine := by have := hr.un; omega
  have nd : N__law_is_row.Nodup := by decide
  exact (ss_cons (ss_if (st_w (sw_or (st_not (st_tru (se_isi (T := "list") (by decide +kernel) rfl (m_isinstance Y) rfl (m_list Y) (by decide +kernel) (se_var 1)))) (sw_or1 (st_ne h64 (se_b1 call_lenU c1_len rfl (m_len Y) (by decide +kernel) (se_var 1)) (se_var 0))))) (ss_one (ss_ret se_bl)) ss_nil)
    (ss_cons (ss_if (st_neE h64 (se_lc false rfl nd (si_seq (se_var 1)) (own := [("_law_one", 2)]) (by kernel_rfl) (by decide) (by decide) (fun _ _ _ _ _ => (sg_name 2 nd rfl (by first | exact Or.inl rfl | exact Or.inr rfl) (by decide))) (fun _ _ _ _ _ => (sts_one (st_w (sw_or (st_not (st_tru (se_isi (T := "int") (by decide +kernel) rfl (m_isinstance Y) rfl (m_int Y) (by decide +kernel) (se_var 2)))) (sw_or1 (st_tru (se_isi (T := "bool") (by decide +kernel) rfl (m_isinstance Y) rfl (m_bool Y) (by decide +kernel) (se_var 2)))))))) (fun _ _ _ _ _ => (se_tk (se_var 2)))) (se_lst sa_nil)) (ss_one (ss_ret se_bl)) ss_nil)
    (ss_one (ss_ret (se_eq h64 (se_b1 (cr_sortedD h64) c1_sortD rfl (m_sorted Y) (by decide +kernel) (se_var 1)) (se_lrg1 rfl rfl (m_list Y) rfl (m_range Y) (se_var 0)))))))
theorem S__law_is_row : FnScope N__law_is_row ["_law_count", "_law_value"] (defScope (topS 30)) := ⟨rfl, rfl, rfl, by decide, rfl, by decide +kernel, by decide +kernel⟩
theorem D__law_is_row_2 (Y : Ctx K mg) : Dfn Pg w K mg base 1 "_law_is_row" 2 F__law_is_row 2 [] := by
  obtain ⟨_, X, G⟩ := Y.ex
  obtain ⟨fd, FD⟩ := Y.c.def_ 20 (d := d__law_is_row)
  have hb : Binds K fd ["_law_count", "_law_value"] [] := FD.bindsN fun _ _ _ _ _ _ us h => by
    match us, h with
    | [a0, a1], _ => rfl
  exact ⟨⟨_, fd, ["_law_count", "_law_value"], [], He.glo_ok X G (Y.c.fact 20), FD.kp, fnG_D FD S__law_is_row rfl fun cdv A outer s H E hr hgd => W__law_is_row Y cdv A outer s H E hr hgd, hb, .nil, rfl, rfl⟩⟩
/-! _law_is_way: 0 _law_path, 1 _law_row, 2 _law_second, 3 _law_value, 4 _law_one, 5 _law_k -/
def N__law_is_way : List Str := ["_law_path", "_law_row", "_law_second", "_law_value", "_law_one", "_law_k"]
theorem W__law_is_way (Y : Ctx K mg) {f : Addr} (cdv : Value) (A : Around) (outer : List Env) (s : Shared) (H : Hp) (E : XK) (hr : Room 1 (A.deeper (envOfC "_law_is_way" (defScope (topS 31)) s.heap.objs.size f cdv))) (hgd : A.guards = some []) :
    SSs (GX Pg w K mg base N__law_is_way "_law_is_way" (defScope (topS 31)) f cdv A outer s H E) (GW E) [] (defBody (topS 31)) B__law_is_way := by
  have h64 : (A.deeper (envOfC "_law_is_way" (defScope (topS 31)) s.heap.objs.size f cdv)).units + 64 < cLine := hr.units
  have h65 : (A.deeper (envOfC "_law_is_way" (defScope (topS 31)) s.heap.objs.size f cdv)).units + 65 < cLine := by have := hr.un; omega
  have nd : N__law_is_way.Nodup := by decide
  exact (ss_cons (ss_if (st_w (sw_or (st_not (st_tru (se_isi (T := "list") (by decide +kernel) rfl (m_isinstance Y) rfl (m_list Y) (by decide +kernel) (se_var 3)))) (sw_or1 (st_neE h64 (se_lc false rfl nd (si_seq (se_var 3)) (own := [("_law_one", 4)]) (by kernel_rfl) (by decide) (by decide) (fun _ _ _ _ _ => (sg_name 4 nd rfl (by first | exact Or.inl rfl | exact Or.inr rfl) (by decide))) (fun _ _ _ _ _ => (sts_one (st_not (st_tru (se_callD ((D__law_is_row_2 Y).mono (by decide)) hr hgd w0_pass rfl (sr_cons (se_tk (se_b1 call_lenU c1_len rfl (m_len Y) (by decide +kernel) (se_var 0))) (sr_cons (se_tk (se_var 4)) sr_nil)) (len_rCons (len_rCons len_rNil))))))) (fun _ _ _ _ _ => (se_tk (se_var 4)))) (se_lst sa_nil))))) (ss_one (ss_ret se_bl)) ss_nil)
    (ss_cons (ss_if (st_w (sw_or (st_ne h64 (se_b1 call_lenU c1_len rfl (m_len Y) (by decide +kernel) (se_var 3)) (se_add (se_callD ((D__law_turned_2 Y).mono (by decide)) hr hgd gx_pass rfl (sr_cons (se_tk (se_var 1)) (sr_cons (se_tk (se_var 2)) sr_nil)) (len_rCons (len_rCons len_rNil))) se_int)) (sw_or (st_ne h64 (se_ix2 h64 (se_var 3) se_int) (se_var 1)) (sw_or1 (st_ne h64 (se_ix2 h64 (se_var 3) (se_neg se_int)) (se_var 2)))))) (ss_one (ss_ret se_bl)) ss_nil)
    (ss_cons (ss_if (st_neE h64 (se_lc false rfl nd (si_seq (se_var 3)) (own := [("_law_one", 4)]) (by kernel_rfl) (by decide) (by decide) (fun _ _ _ _ _ => (sg_name 4 nd rfl (by first | exact Or.inl rfl | exact Or.inr rfl) (by decide))) (fun _ _ _ _ _ => (sts_one (st_not (st_tru (se_callD ((D__law_falls_2 Y).mono (by decide)) hr hgd w0_pass rfl (sr_cons (se_tk (se_var 0)) (sr_cons (se_tk (se_var 4)) sr_nil)) (len_rCons (len_rCons len_rNil))))))) (fun _ _ _ _ _ => (se_tk (se_var 4)))) (se_lst sa_nil)) (ss_one (ss_ret se_bl)) ss_nil)
    (ss_one (ss_ret (se_eqE h64 (se_lc false rfl nd (si_rng2 rfl (m_range Y) se_int (se_b1 call_lenU c1_len rfl (m_len Y) (by decide +kernel) (se_var 3))) (own := [("_law_k", 5)]) (by kernel_rfl) (by decide) (by decide) (fun _ _ _ _ _ => (sg_name 5 nd rfl (by first | exact Or.inl rfl | exact Or.inr rfl) (by decide))) (fun _ _ _ _ _ => (sts_one (st_not (st_tru (se_callD ((D__law_are_next_2 Y).mono (by decide)) hr hgd w0_pass rfl (sr_cons (se_tk (se_ix2 h64 (se_var 3) (se_sub (se_var 5) se_int))) (sr_cons (se_tk (se_ix2 h64 (se_var 3) (se_var 5))) sr_nil)) (len_rCons (len_rCons len_rNil))))))) (fun _ _ _ _ _ => (se_tk (se_var 5)))) (se_lst sa_nil)))))))
theorem S__law_is_way : FnScope N__law_is_way ["_law_path", "_law_row", "_law_second", "_law_value"] (defScope (topS 31)) := ⟨rfl, rfl, rfl, by decide, rfl, by decide +kernel, by decide +kernel⟩
theorem D__law_is_way_4 (Y : Ctx K mg) : Dfn Pg w K mg base 2 "_law_is_way" 4 F__law_is_way 4 [] := by
  obtain ⟨_, X, G⟩ := Y.ex
  obtain ⟨fd, FD⟩ := Y.c.def_ 21 (d := d__law_is_way)
  have hb : Binds K fd ["_law_path", "_law_row", "_law_second", "_law_value"] [] := FD.bindsN fun _ _ _ _ _ _ us h => by
    match us, h with
    | [a0, a1, a2, a3], _ => rfl
  exact ⟨⟨_, fd, ["_law_path", "_law_row", "_law_second", "_law_value"], [], He.glo_ok X G (Y.c.fact 21), FD.kp, fnG_D FD S__law_is_way rfl fun cdv A outer s H E hr hgd => W__law_is_way Y cdv A outer s H E hr hgd, hb, .nil, rfl, rfl⟩⟩
/-! _law_bent: 0 _law_tap_here, 1 _law_path, 2 _law_way, 3 _law_row, 4 _law_other, 5 _law_found, 6 _law_one, 7 _law_there, 8 _law_at, 9 _law_count, 10 _law_spot, 11 _law_to, 12 _law_place -/
def N__law_bent : List Str := ["_law_tap_here", "_law_path", "_law_way", "_law_row", "_law_other", "_law_found", "_law_one", "_law_there", "_law_at", "_law_count", "_law_spot", "_law_to", "_law_place"]
theorem W__law_bent (Y : Ctx K mg) {f : Addr} (cdv : Value) (A : Around) (outer : List Env) (s : Shared) (H : Hp) (E : XK) (hr : Room 1 (A.deeper (envOfC "_law_bent" (defScope (topS 34)) s.heap.objs.size f cdv))) (hgd : A.guards = some []) :
    SSs (GX Pg w K mg base N__law_bent "_law_bent" (defScope (topS 34)) f cdv A outer s H E) (GW E) [0] (defBody (topS 34)) B__law_bent := by
  have h64 : (A.deeper (envOfC "_law_bent" (defScope (topS 34)) s.heap.objs.size f cdv)).units + 64 < cLine := hr.units
  have h65 : (A.deeper (envOfC "_law_bent" (defScope (topS 34)) s.heap.objs.size f cdv)).units + 65 < cLine := by have := hr.un; omega
  have nd : N__law_bent.Nodup := by decide
  exact (ss_cons (ss_par2 rfl nd rfl rfl (by decide) (by decide) rfl rfl (sr_cons (se_tk (se_callD ((D__law_draw_2 Y).mono (by decide)) hr hgd gx_pass rfl (sr_io 0 rfl (by first | exact Or.inl rfl | exact Or.inr (Or.inl rfl) | exact Or.inr (Or.inr rfl)) (sr_cons (se_tk (se_b1 call_lenU c1_len rfl (m_len Y) (by decide +kernel) (se_var 2))) sr_nil)) (len_rIo (len_rCons len_rNil)))) (sr_cons (se_tk (se_b1 call_lenU c1_len rfl (m_len Y) (by decide +kernel) (se_var 1))) sr_nil)))
    (ss_cons (ss_set 3 nd rfl (by first | exact Or.inl rfl | exact Or.inr rfl) (by decide) (se_tk (se_ix2 h64 (se_var 2) (se_var 8))))
    (ss_cons (ss_par2 rfl nd rfl rfl (by decide) (by decide) rfl rfl (sr_cons (se_tk (se_callD ((D__law_draw_2 Y).mono (by decide)) hr hgd gx_pass rfl (sr_io 0 rfl (by first | exact Or.inl rfl | exact Or.inr (Or.inl rfl) | exact Or.inr (Or.inr rfl)) (sr_cons (se_tk (se_var 9)) sr_nil)) (len_rIo (len_rCons len_rNil)))) (sr_cons (se_tk (se_callD ((D__law_draw_2 Y).mono (by decide)) hr hgd gx_pass rfl (sr_io 0 rfl (by first | exact Or.inl rfl | exact Or.inr (Or.inl rfl) | exact Or.inr (Or.inr rfl)) (sr_cons (se_tk (se_var 9)) sr_nil)) (len_rIo (len_rCons len_rNil)))) sr_nil)))
    (ss_cons (ss_set 4 nd rfl (by first | exact Or.inl rfl | exact Or.inr rfl) (by decide) (se_t1 call_list_of c1_list rfl (m_list Y) (by decide +kernel) (se_var 3)))
    (ss_cons (ss_asg (se_tup (sa_cons (se_ix2 h64 (se_var 3) (se_var 11)) (sa_cons (se_ix2 h64 (se_var 3) (se_var 10)) sa_nil))) (sg_tup rfl (sgs_cons (sg_sub (se_var 4) (se_var 10)) (sgs_cons (sg_sub (se_var 4) (se_var 11)) sgs_nil))))
    (ss_cons (ss_set 5 nd rfl (by first | exact Or.inl rfl | exact Or.inr rfl) (by decide) (se_lst (sa_cons (se_add (se_sl (se_var 2) .no (.yes (se_var 8))) (se_sl (se_var 2) (.yes (se_add (se_var 8) se_int)) .no)) (sa_cons (se_add (se_add (se_sl (se_var 2) .no (.yes (se_var 8))) (se_lst (sa_cons (se_var 3) sa_nil))) (se_sl (se_var 2) (.yes (se_var 8)) .no)) (sa_cons (se_add (se_add (se_sl (se_var 2) .no (.yes (se_var 8))) (se_lst (sa_cons (se_var 4) sa_nil))) (se_sl (se_var 2) (.yes (se_add (se_var 8) se_int)) .no)) sa_nil)))))
    (ss_cons (ss_set 5 nd rfl (by first | exact Or.inl rfl | exact Or.inr rfl) (by decide) (se_add (se_var 5) (se_lst (sa_cons (se_rev (se_var 2)) (sa_cons (se_t1 call_tuple_of c1_tuple rfl (m_tuple Y) (by decide +kernel) (se_var 2)) sa_nil)))))
    (ss_cons (ss_for (passes_of rfl) rfl (si_seq (se_lst (sa_cons se_non (sa_cons (se_t1 call_tuple_of c1_tuple rfl (m_tuple Y) (by decide +kernel) (se_var 3)) (sa_cons (se_sl (se_var 3) (.yes se_int) .no) (sa_cons (se_add (se_var 3) (se_lst (sa_cons se_int sa_nil))) (sa_cons (se_lc false rfl nd (si_seq (se_var 3)) (own := [("_law_place", 12)]) (by kernel_rfl) (by decide) (by decide) (fun _ _ _ _ _ => (sg_name 12 nd rfl (by first | exact Or.inl rfl | exact Or.inr rfl) (by decide))) (fun _ _ _ _ _ => sts_nil) (fun _ _ _ _ _ => (se_tk (se_t1 call_strU c1_str rfl (m_str Y) (by decide +kernel) (se_var 12))))) (sa_cons se_int (sa_cons se_str (sa_cons (se_lst (sa_cons (se_var 3) sa_nil)) (sa_cons (se_rev (se_var 3)) sa_nil))))))))))) (sg_name 6 nd rfl (by first | exact Or.inl rfl | exact Or.inr rfl) (by decide)) (ss_one (ss_expr (se_app (se_var 5) (se_add (se_add (se_sl (se_var 2) .no (.yes (se_var 8))) (se_lst (sa_cons (se_var 6) sa_nil))) (se_sl (se_var 2) (.yes (se_add (se_var 8) se_int)) .no))))))
    (ss_cons (ss_expr (se_app (se_var 5) (se_add (se_add (se_sl (se_var 2) .no (.yes (se_var 8))) (se_lst (sa_cons (se_lc false rfl nd (si_seq (se_var 3)) (own := [("_law_one", 6)]) (by kernel_rfl) (by decide) (by decide) (fun _ _ _ _ _ => (sg_name 6 nd rfl (by first | exact Or.inl rfl | exact Or.inr rfl) (by decide))) (fun _ _ _ _ _ => sts_nil) (fun _ _ _ _ _ => (se_tk (se_if (st_lt (se_var 6) se_int) (se_eq h64 (se_var 6) se_int) (se_var 6))))) sa_nil))) (se_sl (se_var 2) (.yes (se_add (se_var 8) se_int)) .no))))
    (ss_cons (ss_set 7 nd rfl (by first | exact Or.inl rfl | exact Or.inr rfl) (by decide) (se_tk (se_if (st_lt (se_add (se_var 8) se_int) (se_b1 call_lenU c1_len rfl (m_len Y) (by decide +kernel) (se_var 2))) (se_ix2 h64 (se_var 2) (se_add (se_var 8) se_int)) (se_rev (se_var 3)))))
    (ss_one (ss_ret (se_add (se_var 5) (se_lst (sa_cons (se_add (se_add (se_sl (se_var 2) .no (.yes (se_var 8))) (se_lst (sa_cons (se_var 3) (sa_cons (se_var 7) (sa_cons (se_var 3) sa_nil))))) (se_sl (se_var 2) (.yes (se_add (se_var 8) se_int)) .no)) (sa_cons (se_add (se_var 2) (se_sl (se_var 2) (.yes (se_neg se_int)) .no)) (sa_cons (se_sl (se_var 2) .no (.yes se_int)) (sa_cons (se_sl (se_var 2) (.yes (se_neg se_int)) .no) (sa_cons (se_lst (sa_cons (se_var 2) sa_nil)) (sa_cons (se_lst sa_nil) sa_nil))))))))))))))))))))
theorem S__law_bent : FnScope N__law_bent ["_law_tap_here", "_law_path", "_law_way"] (defScope (topS 34)) := ⟨rfl, rfl, rfl, by decide, rfl, by decide +kernel, by decide +kernel⟩
theorem D__law_bent_3 (Y : Ctx K mg) : Dfn Pg w K mg base 2 "_law_bent" 3 F__law_bent 3 [] := by
  obtain ⟨_, X, G⟩ := Y.ex
  obtain ⟨fd, FD⟩ := Y.c.def_ 22 (d := d__law_bent)
  have hb : Binds K fd ["_law_tap_here", "_law_path", "_law_way"] [] := FD.bindsN fun _ _ _ _ _ _ us h => by
    match us, h with
    | [a0, a1, a2], _ => rfl
  exact ⟨⟨_, fd, ["_law_tap_here", "_law_path", "_law_way"], [], He.glo_ok X G (Y.c.fact 22), FD.kp, fnG_D FD S__law_bent rfl fun cdv A outer s H E hr hgd => W__law_bent Y cdv A outer s H E hr hgd, hb, .nil, rfl, rfl⟩⟩
/-! _law_right: 0 _law_tap_here, 1 _law_count, 2 _law_path, 3 _law_ways, 4 _law_values, 5 _law_turn, 6 _law_before, 7 _law_value, 8 _law_row, 9 _law_second -/
def N__law_right : List Str := ["_law_tap_here", "_law_count", "_law_path", "_law_ways", "_law_values", "_law_turn", "_law_before", "_law_value", "_law_row", "_law_second"]
theorem W__law_right (Y : Ctx K mg) {f : Addr} (cdv : Value) (A : Around) (outer : List Env) (s : Shared) (H : Hp) (E : XK) (hr : Room 5 (A.deeper (envOfC "_law_right" (defScope (topS 35)) s.heap.objs.size f cdv))) (hgd : A.guards = some []) :
    SSs (GX Pg w K mg base N__law_right "_law_right" (defScope (topS 35)) f cdv A outer s H E) (GW E) [0] (defBody (topS 35)) B__law_right_v4 := by
  have h64 : (A.deeper (envOfC "_law_right" (defScope (topS 35)) s.heap.objs.size f cdv)).units + 64 < cLine := hr.units
  have h65 : (A.deeper (envOfC "_law_right" (defScope (topS 35)) s.heap.objs.size f cdv)).units + 65 < cLine := by have := hr.un; omega
  have nd : N__law_right.Nodup := by decide
  exact (ss_cons (ss_set 1 nd rfl (by first | exact Or.inl rfl | exact Or.inr rfl) (by decide) (se_tk (se_add se_int (se_callD ((D__law_draw_2 Y).mono (by decide)) hr hgd gx_pass rfl (sr_io 0 rfl (by first | exact Or.inl rfl | exact Or.inr (Or.inl rfl) | exact Or.inr (Or.inr rfl)) (sr_cons (se_tk (se_ix2 h64 (se_lst (sa_cons se_int (sa_cons se_int sa_nil))) (se_callD ((D__law_draw_2 Y).mono (by decide)) hr hgd gx_pass rfl (sr_io 0 rfl (by first | exact Or.inl rfl | exact Or.inr (Or.inl rfl) | exact Or.inr (Or.inr rfl)) (sr_cons se_int sr_nil)) (len_rIo (len_rCons len_rNil))))) sr_nil)) (len_rIo (len_rCons len_rNil))))))
    (ss_cons (ss_set 2 nd rfl (by first | exact Or.inl rfl | exact Or.inr rfl) (by decide) (se_tk (se_callD ((D__law_mixed_2 Y).mono (by decide)) hr hgd gx_pass rfl (sr_io 0 rfl (by first | exact Or.inl rfl | exact Or.inr (Or.inl rfl) | exact Or.inr (Or.inr rfl)) (sr_cons (se_tk (se_var 1)) sr_nil)) (len_rIo (len_rCons len_rNil)))))
    (ss_cons (ss_par2 rfl nd rfl rfl (by decide) (by decide) rfl rfl (sr_cons (se_tk (se_callD ((D__law_fallen_2 Y).mono (by decide)) hr hgd gx_pass rfl (sr_io 0 rfl (by first | exact Or.inl rfl | exact Or.inr (Or.inl rfl) | exact Or.inr (Or.inr rfl)) (sr_cons (se_tk (se_var 2)) sr_nil)) (len_rIo (len_rCons len_rNil)))) (sr_cons (se_tk (se_callD ((D__law_fallen_2 Y).mono (by decide)) hr hgd gx_pass rfl (sr_io 0 rfl (by first | exact Or.inl rfl | exact Or.inr (Or.inl rfl) | exact Or.inr (Or.inr rfl)) (sr_cons (se_tk (se_var 2)) sr_nil)) (len_rIo (len_rCons len_rNil)))) sr_nil)))
    (ss_cons (ss_set 3 nd rfl (by first | exact Or.inl rfl | exact Or.inr rfl) (by decide) (se_tk (se_lst (sa_cons (se_callD ((D__law_walked_5 Y).mono (by decide)) hr hgd gx_pass rfl (sr_io 0 rfl (by first | exact Or.inl rfl | exact Or.inr (Or.inl rfl) | exact Or.inr (Or.inr rfl)) (sr_cons (se_tk (se_var 2)) (sr_cons (se_tk (se_var 8)) (sr_cons (se_tk (se_var 9)) (sr_cons se_bl sr_nil))))) (len_rIo (len_rCons (len_rCons (len_rCons (len_rCons len_rNil)))))) (sa_cons (se_callD ((D__law_walked_5 Y).mono (by decide)) hr hgd gx_pass rfl (sr_io 0 rfl (by first | exact Or.inl rfl | exact Or.inr (Or.inl rfl) | exact Or.inr (Or.inr rfl)) (sr_cons (se_tk (se_var 2)) (sr_cons (se_tk (se_var 8)) (sr_cons (se_tk (se_var 9)) (sr_cons se_bl sr_nil))))) (len_rIo (len_rCons (len_rCons (len_rCons (len_rCons len_rNil)))))) sa_nil)))))
    (ss_cons (ss_if (st_not (st_tru (se_callD ((D__law_is_way_4 Y).mono (by decide)) hr hgd gx_pass rfl (sr_cons (se_tk (se_var 2)) (sr_cons (se_tk (se_var 8)) (sr_cons (se_tk (se_var 9)) (sr_cons (se_tk (se_ix2 h64 (se_var 3) se_int)) sr_nil)))) (len_rCons (len_rCons (len_rCons (len_rCons len_rNil))))))) (ss_one (ss_ret se_bl)) ss_nil)
    (ss_cons (ss_set 4 nd rfl (by first | exact Or.inl rfl | exact Or.inr rfl) (by decide) (se_tk (se_add (se_lst (sa_cons se_non (sa_cons se_bl (sa_cons se_int (sa_cons se_str (sa_cons (se_tup sa_nil) (sa_cons se_dic0 (sa_cons (se_lst (sa_cons (se_lst sa_nil) sa_nil)) (sa_cons (se_lst (sa_cons se_non sa_nil)) (sa_cons (se_var 2) (sa_cons (se_lst (sa_cons (se_var 2) sa_nil)) (sa_cons (se_lst (sa_cons (se_var 8) (sa_cons (se_var 9) sa_nil))) sa_nil)))))))))))) (se_var 3))))
    (ss_cons (ss_for (passes_of rfl) rfl (si_rng1 rfl (m_range Y) se_int) (sg_name 5 nd rfl (by first | exact Or.inl rfl | exact Or.inr rfl) (by decide)) (ss_one (ss_set 4 nd rfl (by first | exact Or.inl rfl | exact Or.inr rfl) (by decide) (se_tk (se_add (se_add (se_var 4) (se_callD ((D__law_bent_3 Y).mono (by decide)) hr hgd gx_pass rfl (sr_io 0 rfl (by first | exact Or.inl rfl | exact Or.inr (Or.inl rfl) | exact Or.inr (Or.inr rfl)) (sr_cons (se_tk (se_var 2)) (sr_cons (se_tk (se_ix2 h64 (se_var 3) se_int)) sr_nil))) (len_rIo (len_rCons (len_rCons len_rNil))))) (se_callD ((D__law_bent_3 Y).mono (by decide)) hr hgd gx_pass rfl (sr_io 0 rfl (by first | exact Or.inl rfl | exact Or.inr (Or.inl rfl) | exact Or.inr (Or.inr rfl)) (sr_cons (se_tk (se_var 2)) (sr_cons (se_tk (se_ix2 h64 (se_var 3) se_int)) sr_nil))) (len_rIo (len_rCons (len_rCons len_rNil)))))))))
    (ss_cons (ss_set 6 nd rfl (by first | exact Or.inl rfl | exact Or.inr rfl) (by decide) (se_tk (se_b1 (call_reprT h64 hgd) c1_repr rfl (m_repr Y) (by decide +kernel) (se_var 4))))
    (ss_cons (ss_for (passes_of rfl) rfl (si_seq (se_var 4)) (sg_name 7 nd rfl (by first | exact Or.inl rfl | exact Or.inr rfl) (by decide)) (ss_one (ss_if (st_neS (se_b1 (call_reprT h64 hgd) c1_repr rfl (m_repr Y) (by decide +kernel) (se_callD ((D_is_way_4 Y).mono (by decide)) hr hgd gx_pass rfl (sr_cons (se_tk (se_var 2)) (sr_cons (se_tk (se_var 8)) (sr_cons (se_tk (se_var 9)) (sr_cons (se_tk (se_var 7)) sr_nil)))) (len_rCons (len_rCons (len_rCons (len_rCons len_rNil)))))) (se_b1 (call_reprT h64 hgd) c1_repr rfl (m_repr Y) (by decide +kernel) (se_callD ((D__law_is_way_4 Y).mono (by decide)) hr hgd gx_pass rfl (sr_cons (se_tk (se_var 2)) (sr_cons (se_tk (se_var 8)) (sr_cons (se_tk (se_var 9)) (sr_cons (se_tk (se_var 7)) sr_nil)))) (len_rCons (len_rCons (len_rCons (len_rCons len_rNil))))))) (ss_one (ss_ret se_bl)) ss_nil)))
    (ss_cons (ss_if (st_isn (se_callD ((D_is_way_4 Y).mono (by decide)) hr hgd gx_pass rfl (sr_cons (se_tk (se_var 2)) (sr_cons (se_tk (se_var 9)) (sr_cons (se_tk (se_var 8)) (sr_cons (se_tk (se_rev (se_ix2 h64 (se_var 3) se_int))) sr_nil)))) (len_rCons (len_rCons (len_rCons (len_rCons len_rNil))))) se_bl) (ss_one (ss_ret se_bl)) ss_nil)
    (ss_one (ss_ret (se_eqS (se_b1 (call_reprT h64 hgd) c1_repr rfl (m_repr Y) (by decide +kernel) (se_var 4)) (se_var 6))))))))))))))
theorem S__law_right : FnScope N__law_right ["_law_tap_here"] (defScope (topS 35)) := ⟨rfl, rfl, rfl, by decide, rfl, by decide +kernel, by decide +kernel⟩
theorem D__law_right_1 (Y : Ctx K mg) : Dfn Pg w K mg base 6 "_law_right" 1 F__law_right_v4 1 [] := by
  obtain ⟨_, X, G⟩ := Y.ex
  obtain ⟨fd, FD⟩ := Y.c.def_ 23 (d := d__law_right)
  have hb : Binds K fd ["_law_tap_here"] [] := FD.bindsN fun _ _ _ _ _ _ us h => by
    match us, h with
    | [a0], _ => rfl
  exact ⟨⟨_, fd, ["_law_tap_here"], [], He.glo_ok X G (Y.c.fact 23), FD.kp, fnG_D FD S__law_right rfl fun cdv A outer s H E hr hgd => W__law_right Y cdv A outer s H E hr hgd, hb, .nil, rfl, rfl⟩⟩
/-! _law_tap: 0 _law_cell, 1 _law_turn, 2 _law_whole -/
def N__law_tap : List Str := ["_law_cell", "_law_turn", "_law_whole"]
theorem W__law_tap (Y : Ctx K mg) {f : Addr} (cdv : Value) (A : Around) (outer : List Env) (s : Shared) (H : Hp) (E : XK) (hr : Room 0 (A.deeper (envOfC "_law_tap" (defScope (topS 22)) s.heap.objs.size f cdv))) (hgd : A.guards = some []) :
    SSs (GX Pg w K mg base N__law_tap "_law_tap" (defScope (topS 22)) f cdv A outer s H E) (GW E) [] (defBody (topS 22)) B__law_tap := by
  have h64 : (A.deeper (envOfC "_law_tap" (defScope (topS 22)) s.heap.objs.size f cdv)).units + 64 < cLine := hr.units
  have h65 : (A.deeper (envOfC "_law_tap" (defScope (topS 22)) s.heap.objs.size f cdv)).units + 65 < cLine := by have := hr.un; omega
  have nd : N__law_tap.Nodup := by decide
  exact (ss_cons (ss_set 2 nd rfl (by first | exact Or.inl rfl | exact Or.inr rfl) (by decide) (se_tk (se_add (se_mul se_int (se_b1 call_abs c1_abs rfl (m_abs Y) (by decide +kernel) (se_var 0))) (se_t1 call_int1 c1_int rfl (m_int Y) (by decide +kernel) (se_lt (se_var 0) se_int)))))
    (ss_one (ss_ret (se_lst (sa_cons (se_var 2) (sa_cons (se_add (se_add (se_mod (se_t1 call_int1 c1_int rfl (m_int Y) (by decide +kernel) (se_var 2)) se_int) (se_mul se_int (se_var 1))) se_int) (sa_cons (se_add (se_add (se_mod (se_t1 call_int1 c1_int rfl (m_int Y) (by decide +kernel) (se_var 2)) se_int) (se_mul se_int (se_var 1))) se_int) sa_nil)))))))
theorem S__law_tap : FnScope N__law_tap ["_law_cell", "_law_turn"] (defScope (topS 22)) := ⟨rfl, rfl, rfl, by decide, rfl, by decide +kernel, by decide +kernel⟩
theorem D__law_tap_2 (Y : Ctx K mg) : Dfn Pg w K mg base 1 "_law_tap" 2 F__law_tap 2 [] := by
  obtain ⟨_, X, G⟩ := Y.ex
  obtain ⟨fd, FD⟩ := Y.c.def_ 24 (d := d__law_tap)
  have hb : Binds K fd ["_law_cell", "_law_turn"] [] := FD.bindsN fun _ _ _ _ _ _ us h => by
    match us, h with
    | [a0, a1], _ => rfl
  exact ⟨⟨_, fd, ["_law_cell", "_law_turn"], [], He.glo_ok X G (Y.c.fact 24), FD.kp, fnG_D FD S__law_tap rfl fun cdv A outer s H E hr hgd => W__law_tap Y cdv A outer s H E hr hgd, hb, .nil, rfl, rfl⟩⟩
/-! law: 0 _law_script, 1 _law_cells_here, 2 _law_far, 3 _law_near, 4 _law_k, 5 _law_value -/
def N_law : List Str := ["_law_script", "_law_cells_here", "_law_far", "_law_near", "_law_k", "_law_value"]
theorem W_law (Y : Ctx K mg) {f : Addr} (cdv : Value) (A : Around) (outer : List Env) (s : Shared) (H : Hp) (E : XK) (hr : Room 6 (A.deeper (envOfC "law" (defScope (topS 36)) s.heap.objs.size f cdv))) (hgd : A.guards = some []) :
    SSs (GX Pg w K mg base N_law "law" (defScope (topS 36)) f cdv A outer s H E) (GW E) [] (defBody (topS 36)) B_law_v4 := by
  have h64 : (A.deeper (envOfC "law" (defScope (topS 36)) s.heap.objs.size f cdv)).units + 64 < cLine := hr.units
  have h65 : (A.deeper (envOfC "law" (defScope (topS 36)) s.heap.objs.size f cdv)).units + 65 < cLine := by have := hr.un; omega
  have nd : N_law.Nodup := by decide
  exact (ss_cons (ss_set 1 nd rfl (by first | exact Or.inl rfl | exact Or.inr rfl) (by decide) (se_tk (se_callD ((D__law_cells_2 Y).mono (by decide)) hr hgd gx_pass rfl (sr_cons (se_tk (se_var 0)) (sr_cons se_int sr_nil)) (len_rCons (len_rCons len_rNil)))))
    (ss_cons (ss_if (st_neE h64 (se_lc false rfl nd (si_rng1 rfl (m_range Y) (se_b1 call_lenU c1_len rfl (m_len Y) (by decide +kernel) (se_var 1))) (own := [("_law_k", 4)]) (by kernel_rfl) (by decide) (by decide) (fun _ _ _ _ _ => (sg_name 4 nd rfl (by first | exact Or.inl rfl | exact Or.inr rfl) (by decide))) (fun _ _ _ _ _ => (sts_one (st_not (st_tru (se_callD ((D__law_right_1 Y).mono (by decide)) hr hgd w0_pass rfl (sr_cons (se_callD ((D__law_tap_2 Y).mono (by decide)) hr hgd w0_pass rfl (sr_cons (se_tk (se_ix2 h64 (se_var 1) (se_var 4))) (sr_cons (se_tk (se_var 4)) sr_nil)) (len_rCons (len_rCons len_rNil))) sr_nil) (len_rCons len_rNil)))))) (fun _ _ _ _ _ => (se_tk (se_var 4)))) (se_lst sa_nil)) (ss_one (ss_ret se_bl)) ss_nil)
    (ss_cons (ss_set 2 nd rfl (by first | exact Or.inl rfl | exact Or.inr rfl) (by decide) (se_tk (se_lst (sa_cons (se_lst (sa_cons se_int (sa_cons se_int (sa_cons se_int sa_nil)))) (sa_cons (se_lst (sa_cons se_int (sa_cons se_int (sa_cons se_int sa_nil)))) (sa_cons (se_lst (sa_cons se_int (sa_cons se_int (sa_cons se_int sa_nil)))) (sa_cons (se_lst (sa_cons se_int (sa_cons se_int (sa_cons se_int sa_nil)))) sa_nil)))))))
    (ss_cons (ss_set 3 nd rfl (by first | exact Or.inl rfl | exact Or.inr rfl) (by decide) (se_tk (se_lst (sa_cons (se_lst (sa_cons se_int (sa_cons se_int (sa_cons se_int sa_nil)))) (sa_cons (se_lst (sa_cons se_int (sa_cons se_int (sa_cons se_int sa_nil)))) (sa_cons (se_lst (sa_cons se_int (sa_cons se_int (sa_cons se_int sa_nil)))) (sa_cons (se_lst (sa_cons se_int (sa_cons se_int (sa_cons se_int sa_nil)))) sa_nil)))))))
    (ss_one (ss_ret (se_eq h64 (se_lc false rfl nd (si_seq (se_lst (sa_cons (se_var 3) (sa_cons (se_var 2) sa_nil)))) (own := [("_law_value", 5)]) (by kernel_rfl) (by decide) (by decide) (fun _ _ _ _ _ => (sg_name 5 nd rfl (by first | exact Or.inl rfl | exact Or.inr rfl) (by decide))) (fun _ _ _ _ _ => sts_nil) (fun _ _ _ _ _ => (se_tk (se_callD ((D_is_way_4 Y).mono (by decide)) hr hgd w0_pass rfl (sr_cons (se_tk (se_lst (sa_cons se_int (sa_cons se_int (sa_cons se_int sa_nil))))) (sr_cons (se_tk (se_lst (sa_cons se_int (sa_cons se_int (sa_cons se_int sa_nil))))) (sr_cons (se_tk (se_lst (sa_cons se_int (sa_cons se_int (sa_cons se_int sa_nil))))) (sr_cons (se_tk (se_var 5)) sr_nil)))) (len_rCons (len_rCons (len_rCons (len_rCons len_rNil)))))))) (se_lst (sa_cons se_bl (sa_cons se_bl sa_nil))))))))))
theorem S_law : FnScope N_law ["_law_script"] (defScope (topS 36)) := ⟨rfl, rfl, rfl, by decide, rfl, by decide +kernel, by decide +kernel⟩
theorem D_law_1 (Y : Ctx K mg) : Dfn Pg w K mg base 7 "law" 1 F_law_v4 1 [] := by
  obtain ⟨_, X, G⟩ := Y.ex
  obtain ⟨fd, FD⟩ := Y.c.def_ 25 (d := d_law)
  have hb : Binds K fd ["_law_script"] [] := FD.bindsN fun _ _ _ _ _ _ us h => by
    match us, h with
    | [a0], _ => rfl
  exact ⟨⟨_, fd, ["_law_script"], [], He.glo_ok X G (Y.c.fact 25), FD.kp, fnG_D FD S_law rfl fun cdv A outer s H E hr hgd => W_law Y cdv A outer s H E hr hgd, hb, .nil, rfl, rfl⟩⟩
end K16

/-! part L0 -/
/-! plain laws about the loops of the typed layer -/
namespace Lw
open PySem Hb Nv L2
variable {α β γ σ ρ ζ : Type}
theorem bnd {p : Option α} {x : α} {f : α → Option β} {y : β} (h : p = some x) (h2 : f x = some y) : p.bind f = some y := by rw [h]; exact h2

theorem forS_inv (b : σ → α → Option σ) (P : Nat → σ → Prop) : ∀ (xs : List α) (k : Nat) (s : σ), P k s → (∀ (i : Nat) (x : α) (s : σ), xs[i]? = some x → P (k + i) s → ∃ s', b s x = some s' ∧ P (k + i + 1) s') → ∃ s', forS xs s b = some s' ∧ P (k + xs.length) s'
  | [], k, s, h, _ => ⟨s, rfl, h⟩
  | x :: r, k, s, h, hb => by
    obtain ⟨s1, e1, h1⟩ := hb 0 x s rfl h
    obtain ⟨s2, e2, h2⟩ := forS_inv b P r (k + 1) s1 h1 (fun i y s hy hp => by
      have e : k + 1 + i = k + (i + 1) := by omega
      rw [e] at hp ⊢
      exact hb (i + 1) y s (by simpa using hy) hp)
    refine ⟨s2, ?_, ?_⟩
    · show (b s x).bind _ = _
      rw [e1]; exact e2
    · rw [List.length_cons, show k + (r.length + 1) = k + 1 + r.length by omega]; exact h2
theorem forS_fold (b : σ → α → Option σ) (g : σ → α → σ) : ∀ (xs : List α) (s : σ), (∀ s, ∀ x ∈ xs, b s x = some (g s x)) → forS xs s b = some (xs.foldl g s)
  | [], s, _ => rfl
  | x :: r, s, h => by
    show (b s x).bind _ = _
    rw [h s x (by simp)]
    exact forS_fold b g r _ fun s y hy => h s y (by simp [hy])
theorem forF_nx (b : σ → α → Option (Fl ρ σ)) (s : σ) : ∀ (xs : List α), (∀ x ∈ xs, b s x = some (.nx s)) → forF xs s b = some (.nx s)
  | [], _ => rfl
  | x :: r, h => by
    show (b s x).bind _ = _
    rw [h x (by simp)]
    exact forF_nx b s r fun y hy => h y (by simp [hy])
/-- a loop that only looks: it ends at the first item that is not well -/
theorem forF_all (b : Unit → α → Option (Fl ρ Unit)) (v : ρ) (p : α → Bool) : ∀ (xs : List α), (∀ x ∈ xs, b () x = some (if p x = true then .nx () else .rt v)) → forF xs () b = some (if xs.all p = true then .nx () else .rt v)
  | [], _ => rfl
  | x :: r, h => by
    show (b () x).bind _ = _
    rw [h x (by simp), List.all_cons]
    cases hp : p x with
    | true => exact forF_all b v p r fun y hy => h y (by simp [hy])
    | false => rfl
theorem mapF_ok (c : α → Option Bool) (g : α → Option γ) (p : α → Bool) (f : α → γ) : ∀ (xs : List α), (∀ x ∈ xs, c x = some (p x)) → (∀ x ∈ xs, p x = true → g x = some (f x)) → mapF xs c g = some ((xs.filter p).map f)
  | [], _, _ => rfl
  | x :: r, hc, hg => by
    have ih := mapF_ok c g p f r (fun y hy => hc y (by simp [hy])) (fun y hy => hg y (by simp [hy]))
    show (c x).bind _ = _
    rw [hc x (by simp), List.filter_cons]
    cases hp : p x with
    | true =>
      show (g x).bind _ = _
      rw [hg x (by simp) hp]
      show (mapF r c g).bind _ = _
      rw [ih]; rfl
    | false =>
      show mapF r c g = _
      rw [ih]; rfl
theorem mapT_ok (g : α → Option γ) (f : α → γ) (xs : List α) (hg : ∀ x ∈ xs, g x = some (f x)) : mapF xs (fun _ => some true) g = some (xs.map f) := by
  rw [mapF_ok (fun _ => some true) g (fun _ => true) f xs (fun _ _ => rfl) (fun x hx _ => hg x hx)]
  rw [List.filter_eq_self.mpr (fun _ _ => rfl)]
/-- the items that a test keeps -/
theorem mapC_ok (c : α → Option Bool) (p : α → Bool) (xs : List α) (hc : ∀ x ∈ xs, c x = some (p x)) : mapF xs c (fun x => some x) = some (xs.filter p) := by
  have := mapF_ok c (fun x => some x) p id xs hc (fun _ _ _ => rfl)
  rwa [List.map_id] at this
theorem mapE_inv (g : σ → α → Option (γ × σ)) (I : σ → Prop) (Q : γ → Prop) : ∀ (xs : List α) (s : σ), I s → (∀ s, I s → ∀ x ∈ xs, ∃ y s', g s x = some (y, s') ∧ Q y ∧ I s') → ∃ ys s', mapE xs s g = some (ys, s') ∧ ys.length = xs.length ∧ (∀ y ∈ ys, Q y) ∧ I s'
  | [], s, h, _ => ⟨[], s, rfl, rfl, by simp, h⟩
  | x :: r, s, h, hg => by
    obtain ⟨y, s1, e1, q1, h1⟩ := hg s h x (by simp)
    obtain ⟨ys, s2, e2, l2, q2, h2⟩ := mapE_inv g I Q r s1 h1 fun s hs z hz => hg s hs z (by simp [hz])
    refine ⟨y :: ys, s2, ?_, by simp [l2], ?_, h2⟩
    · show (g s x).bind _ = _
      rw [e1]
      show (mapE r s1 g).bind _ = _
      rw [e2]; rfl
    · intro z hz
      rcases List.mem_cons.mp hz with rfl | hz
      · exact q1
      · exact q2 z hz
theorem whS_inv (c : σ → Option Bool) (b : σ → Option σ) (I : σ → Prop) (t : σ → Bool) (m : σ → Nat) (hc : ∀ s, I s → c s = some (t s)) (hb : ∀ s, I s → t s = true → ∃ s', b s = some s' ∧ I s' ∧ m s' < m s) : ∀ (n : Nat) (s : σ), I s → m s < n → ∃ s', whS n s c b = some s' ∧ I s' ∧ t s' = false
  | 0, s, _, h => absurd h (Nat.not_lt_zero _)
  | n + 1, s, hi, hm => by
    cases ht : t s with
    | false =>
      refine ⟨s, ?_, hi, ht⟩
      show (c s).bind _ = _
      rw [hc s hi, ht]; rfl
    | true =>
      obtain ⟨s1, e1, i1, m1⟩ := hb s hi ht
      obtain ⟨s2, e2, i2, t2⟩ := whS_inv c b I t m hc hb n s1 i1 (by omega)
      refine ⟨s2, ?_, i2, t2⟩
      show (c s).bind _ = _
      rw [hc s hi, ht]
      show (b s).bind _ = _
      rw [e1]; exact e2

/-! what holds of what it gives -/
def Wp (p : Option α) (Q : α → Prop) : Prop := ∃ z, p = some z ∧ Q z
theorem Wp.intro {p : Option α} {Q : α → Prop} {z : α} (h : p = some z) (q : Q z) : Wp p Q := ⟨z, h, q⟩
theorem Wp.some {Q : α → Prop} {z : α} (q : Q z) : Wp (some z) Q := ⟨z, rfl, q⟩
theorem Wp.bind {p : Option α} {f : α → Option β} {Q : β → Prop} {R : α → Prop} (h : Wp p R) (h2 : ∀ z, R z → Wp (f z) Q) : Wp (p.bind f) Q := by
  obtain ⟨z, e, r⟩ := h
  rw [e]; exact h2 z r
theorem Wp.bindE {p : Option α} {f : α → Option β} {Q : β → Prop} {z : α} (h : p = Option.some z) (h2 : Wp (f z) Q) : Wp (p.bind f) Q := by
  rw [h]; exact h2
theorem Wp.mono {p : Option α} {Q R : α → Prop} (h : Wp p Q) (i : ∀ z, Q z → R z) : Wp p R := ⟨h.choose, h.choose_spec.1, i _ h.choose_spec.2⟩
theorem Wp.get {p : Option α} {Q : α → Prop} (h : Wp p Q) {z : α} (e : p = Option.some z) : Q z := by
  obtain ⟨y, e1, q⟩ := h
  cases e1.symm.trans e
  exact q
theorem Wp.wh {c : σ → Option Bool} {b : σ → Option σ} {n : Nat} {s : σ} {K : σ → Option ζ} {Q : ζ → Prop} (I : σ → Prop) (t : σ → Bool) (m : σ → Nat) (hc : ∀ s, I s → c s = Option.some (t s)) (hb : ∀ s, I s → t s = true → Wp (b s) fun s' => I s' ∧ m s' < m s) (hi : I s) (hm : m s < n) (hK : ∀ s, I s → t s = false → Wp (K s) Q) : Wp ((whS n s c b).bind K) Q := by
  obtain ⟨s', e, i, f⟩ := whS_inv c b I t m hc hb n s hi hm
  rw [e]; exact hK s' i f
theorem Wp.for {b : σ → α → Option σ} {xs : List α} {s : σ} {K : σ → Option ζ} {Q : ζ → Prop} (P : Nat → σ → Prop) (h : P 0 s) (hb : ∀ (i : Nat) (x : α) (s : σ), xs[i]? = Option.some x → P i s → Wp (b s x) (P (i + 1))) (hK : ∀ s, P xs.length s → Wp (K s) Q) : Wp ((forS xs s b).bind K) Q := by
  obtain ⟨s', e, i⟩ := forS_inv b P xs 0 s h (fun i x s hx hp => by rw [Nat.zero_add] at hp ⊢; exact hb i x s hx hp)
  rw [Nat.zero_add] at i
  rw [e]; exact hK s' i

/-! rewritten, not computed: the kernel must not be led to compare what it would have to compute -/
theorem bs {α β : Type} (x : α) (f : α → Option β) : Option.bind (some x) f = f x := by rw [Option.bind_some]
theorem lenL_e {α : Type} (xs : List α) : lenL xs = some (xs.length : Int) := by unfold lenL; rfl
theorem addI_e (i j : Int) : addI i j = some (i + j) := by unfold addI; rfl
theorem subI_e (i j : Int) : subI i j = some (i - j) := by unfold subI; rfl
theorem negI_e (i : Int) : negI i = some (-i) := by unfold negI; rfl
theorem ltI_e (i j : Int) : ltI i j = some (decide (i < j)) := by unfold ltI; rfl
theorem leI_e (i j : Int) : leI i j = some (decide (i ≤ j)) := by unfold leI; rfl
theorem gtI_e (i j : Int) : gtI i j = some (decide (j < i)) := by unfold gtI; rfl
theorem geI_e (i j : Int) : geI i j = some (decide (j ≤ i)) := by unfold geI; rfl
theorem eqN_e {α : Type} [DecidableEq α] (x y : α) : eqN x y = some (decide (x = y)) := by unfold eqN; rfl
theorem neN_e {α : Type} [DecidableEq α] (x y : α) : neN x y = some (!decide (x = y)) := by unfold neN; rfl
theorem revL_e {α : Type} (xs : List α) : revL xs = some xs.reverse := by unfold revL; rfl
theorem listL_e {α : Type} (xs : List α) : listL xs = some xs := by unfold listL; rfl
theorem tupL_e {α : Type} (xs : List α) : tupL xs = some ⟨xs⟩ := by unfold tupL; rfl
theorem intI_e (i : Int) : intI i = some i := by unfold intI; rfl
theorem intB_e (k : Bool) : intB k = some (if k then 1 else 0) := by unfold intB; rfl
theorem absI_e (i : Int) : absI i = some (if i < 0 then -i else i) := by unfold absI; rfl
theorem allB_e (ns : List Bool) : allB ns = some (ns.all id) := by unfold allB; rfl
theorem anyB_e (ns : List Bool) : anyB ns = some (ns.any id) := by unfold anyB; rfl
theorem sumI_e (ns : List Int) : sumI ns = some ns.sum := by unfold sumI; rfl
theorem inL_e {α : Type} [DecidableEq α] (x : α) (xs : List α) : inL x xs = some (decide (x ∈ xs)) := by unfold inL; rfl
theorem ninL_e {α : Type} [DecidableEq α] (x : α) (xs : List α) : ninL x xs = some (!decide (x ∈ xs)) := by unfold ninL; rfl
theorem eqS_e (x y : Str) : eqS x y = some (x.cps.toList == y.cps.toList) := by unfold eqS; rfl
theorem neS_e (x y : Str) : neS x y = some !(x.cps.toList == y.cps.toList) := by unfold neS; rfl
theorem isnB_e (x y : Bool) : isnB x y = some !(x == y) := by unfold isnB; rfl
theorem isB_e (x y : Bool) : isB x y = some (x == y) := by unfold isB; rfl
theorem notB_e (x : Bool) : notB x = some !x := by unfold notB; rfl
theorem isiN_e (T : String) (d : PyData) : isiN T d = some (isiB (tyD d) T) := by unfold isiN; rfl
theorem maxI2_e (i j : Int) : maxI2 i j = some (if j > i then j else i) := by unfold maxI2; rfl
theorem minI2_e (i j : Int) : minI2 i j = some (if j < i then j else i) := by unfold minI2; rfl

/-! single operations -/
theorem rgL_len (a b : Int) : (rgL a b).length = (b - a).toNat := by unfold rgL; simp
theorem rgI_len (a : Int) (n : Nat) : (rgI a n).length = n := by unfold rgI; simp
/-- the numbers 0 .. n-1 -/
def iot (n : Nat) : List Int := (List.range n).map fun i : Nat => (i : Int)
theorem iot_len (n : Nat) : (iot n).length = n := by unfold iot; simp
theorem mem_iot {n : Nat} {x : Int} : x ∈ iot n ↔ 0 ≤ x ∧ x < n := by
  unfold iot
  rw [List.mem_map]
  constructor
  · rintro ⟨k, hk, rfl⟩
    rw [List.mem_range] at hk
    omega
  · rintro ⟨h0, h1⟩
    exact ⟨x.toNat, List.mem_range.mpr (by omega), by omega⟩
theorem iot_get {n k : Nat} (h : k < n) : (iot n)[k]? = some (k : Int) := by
  unfold iot
  rw [List.getElem?_map, List.getElem?_range h]; rfl
theorem iot_getI {n k : Nat} {x : Int} (h : (iot n)[k]? = some x) : x = k ∧ k < n := by
  unfold iot at h
  rw [List.getElem?_map] at h
  by_cases c : k < n
  · rw [List.getElem?_range c] at h
    exact ⟨(Option.some.inj h).symm, c⟩
  · rw [List.getElem?_eq_none (by simp; omega)] at h
    cases h
theorem iot_nodup (n : Nat) : (iot n).Nodup := by
  unfold iot
  exact List.Pairwise.map _ (fun a b (h : a ≠ b) e => h (by omega)) List.nodup_range
theorem iot_sorted (n : Nat) : (iot n).Pairwise (· ≤ ·) := by
  unfold iot
  exact List.Pairwise.map _ (fun a b (h : a < b) => by omega) (List.pairwise_lt_range (n := n))
theorem iot_succ (n : Nat) : iot (n + 1) = iot n ++ [(n : Int)] := by
  unfold iot
  rw [List.range_succ, List.map_append]; rfl
theorem rgI0 (n : Nat) : rgI 0 n = iot n := by
  unfold rgI iot
  refine List.map_congr_left fun i _ => ?_
  omega
theorem ri1_ok (n : Int) (h : n ≤ 1000000) (h0 : 0 ≤ n) : ri1 n = some (iot n.toNat) := by
  unfold ri1
  rw [if_pos (by omega), rgI0]
theorem ri1_nat (n : Nat) (h : n ≤ 1000000) : ri1 (n : Int) = some (iot n) := by
  rw [ri1_ok _ (by omega) (by omega)]; rfl
theorem rg1_nat (n : Nat) (h : n ≤ 1000000) : rg1 (n : Int) = some (iot n) := by
  unfold rg1
  rw [if_pos (by omega)]
  unfold rgL iot
  congr 1
  rw [show ((n : Int) - 0).toNat = n by omega]
  refine List.map_congr_left fun i _ => ?_
  omega
theorem ixN_nat {n k : Nat} (h : k < n) : ixN n (k : Int) = some k := by
  unfold ixN
  rw [if_pos (by omega), if_pos (by omega)]; rfl
theorem atL_nat {xs : List α} {k : Nat} {x : α} (h : xs[k]? = some x) : atL xs (k : Int) = some x := by
  have hk : k < xs.length := (List.getElem?_eq_some_iff.mp h).1
  show atI xs _ = _
  unfold atI
  rw [ixN_nat hk]
  exact h
theorem atL_lt {xs : List α} {k : Nat} (h : k < xs.length) : atL xs (k : Int) = some xs[k] := atL_nat (List.getElem?_eq_getElem h)
theorem atL_int {xs : List α} {i : Int} (h0 : 0 ≤ i) (h1 : i < xs.length) : ∃ x, atL xs i = some x ∧ xs[i.toNat]? = some x ∧ x ∈ xs := by
  have hk : i.toNat < xs.length := by omega
  refine ⟨xs[i.toNat], ?_, List.getElem?_eq_getElem hk, List.getElem_mem hk⟩
  have := atL_lt hk
  rwa [show ((i.toNat : Nat) : Int) = i by omega] at this
theorem atL_last {xs : List α} {x : α} (h : xs.getLast? = some x) : atL xs (-1) = some x := by
  have hne : xs ≠ [] := fun e => by rw [e] at h; cases h
  have hl : 0 < xs.length := List.length_pos_iff.mpr hne
  show atI xs _ = _
  unfold atI ixN
  rw [if_neg (by omega), if_pos (by omega)]
  show xs[_]? = _
  rw [show ∀ j, j = xs.length - 1 → xs[j]? = some x from fun j e => by rw [e, ← List.getLast?_eq_getElem?]; exact h]
  omega
theorem stI_nat {xs : List α} {k : Nat} (v : α) (h : k < xs.length) : Nv.stI xs (k : Int) v = some (xs.set k v) := by
  unfold Nv.stI; rw [ixN_nat h]; rfl
theorem stI_int {xs : List α} {i : Int} (v : α) (h0 : 0 ≤ i) (h1 : i < xs.length) : Nv.stI xs i v = some (xs.set i.toNat v) := by
  have := stI_nat (xs := xs) (k := i.toNat) v (by omega)
  rwa [show ((i.toNat : Nat) : Int) = i by omega] at this
theorem cap_ge {n : Nat} (h : n ≤ 100000) : n ≤ cap := by
  have : (100000 : Nat) ≤ cap := by decide
  omega
theorem apL_ok {xs : List α} (x : α) (h : xs.length ≤ 100000) : apL xs x = some (xs ++ [x]) := by
  unfold apL; rw [if_pos (cap_ge h)]
theorem catL_ok {xs ys : List α} (h : xs.length ≤ 100000) (h2 : ys.length ≤ 100000) : catL xs ys = some (xs ++ ys) := by
  unfold catL; rw [if_pos ⟨cap_ge h, cap_ge h2⟩]
theorem popL_ok {xs : List α} {i : Int} (h0 : 0 ≤ i) (h1 : i < xs.length) (h : xs.length ≤ 100000) : ∃ x, popL xs i = some (x, xs.eraseIdx i.toNat) ∧ xs[i.toNat]? = some x := by
  have hk : i.toNat < xs.length := by omega
  refine ⟨xs[i.toNat], ?_, List.getElem?_eq_getElem hk⟩
  unfold popL
  have e := ixN_nat hk
  rw [show ((i.toNat : Nat) : Int) = i by omega] at e
  rw [e]
  show (xs[_]?).bind _ = _
  rw [List.getElem?_eq_getElem hk]
  show (if _ then _ else _) = _
  rw [if_pos (cap_ge h)]
theorem mapT_cap {α γ : Type} {g : α → Option γ} {xs : List α} (f : α → γ) (hl : xs.length ≤ 100000) (hg : ∀ x ∈ xs, g x = some (f x)) : (if List.length xs ≤ cap then mapF xs (fun _ => some true) g else none) = some (xs.map f) := by
  rw [if_pos (cap_ge hl)]; exact mapT_ok g f xs hg
theorem mapC_cap {α : Type} {c : α → Option Bool} {xs : List α} (p : α → Bool) (hl : xs.length ≤ 100000) (hc : ∀ x ∈ xs, c x = some (p x)) : (if List.length xs ≤ cap then mapF xs c (fun x => some x) else none) = some (xs.filter p) := by
  rw [if_pos (cap_ge hl)]; exact mapC_ok c p xs hc
theorem cut_from (xs : List α) (k : Nat) : cutL xs (some (k : Int)) none = xs.drop k := by
  unfold cutL
  have e : HT.sIx xs.length 0 (some (k : Int)) = min k xs.length := by
    unfold HT.sIx; simp only [show ¬ (k : Int) < 0 by omega, if_false]; omega
  have e2 : HT.sIx xs.length xs.length none = xs.length := by unfold HT.sIx; rfl
  rw [e, e2]
  by_cases c : k ≤ xs.length
  · rw [Nat.min_eq_left c, List.take_of_length_le (by simp)]
  · rw [Nat.min_eq_right (by omega), List.drop_eq_nil_of_le (Nat.le_refl _), List.drop_eq_nil_of_le (by omega)]
    simp
theorem cut_to (xs : List α) (k : Nat) : cutL xs none (some (k : Int)) = xs.take k := by
  unfold cutL
  have e : HT.sIx xs.length xs.length (some (k : Int)) = min k xs.length := by
    unfold HT.sIx; simp only [show ¬ (k : Int) < 0 by omega, if_false]; omega
  have e2 : HT.sIx xs.length 0 none = 0 := by unfold HT.sIx; rfl
  rw [e, e2]
  by_cases c : k ≤ xs.length
  · rw [Nat.min_eq_left c]; rfl
  · rw [Nat.min_eq_right (by omega), List.take_of_length_le (by simp), List.take_of_length_le (by omega)]; rfl
theorem cut_len (xs : List α) (lo hi : Option Int) : (cutL xs lo hi).length ≤ xs.length := by
  unfold cutL
  simp only [List.length_take, List.length_drop]
  omega
theorem cut_mem {xs : List α} {lo hi : Option Int} {x : α} (h : x ∈ cutL xs lo hi) : x ∈ xs := by
  unfold cutL at h
  exact List.mem_of_mem_drop (List.mem_of_mem_take h)
theorem neNil (xs : List α) : (true != List.isEmpty xs) = !xs.isEmpty := by cases xs <;> rfl
end Lw

/-! part L1 -/
/-! draws -/
namespace Lw
open PySem Hb Nv L2 P
def Tap (t : List Int) : Prop := ∃ a b c : Int, t = [a, b, c] ∧ c.natAbs < 2 ^ 64
theorem at0 (a b c : Int) : atL [a, b, c] 0 = some a := rfl
theorem at1 (a b c : Int) : atL [a, b, c] 1 = some b := rfl
theorem at2 (a b c : Int) : atL [a, b, c] 2 = some c := rfl
theorem st0 (a b c v : Int) : Nv.stI [a, b, c] 0 v = some [v, b, c] := rfl
theorem st1 (a b c v : Int) : Nv.stI [a, b, c] 1 v = some [a, v, c] := rfl
theorem st2 (a b c v : Int) : Nv.stI [a, b, c] 2 v = some [a, b, v] := rfl
theorem pow18 : powW 10 18 = some 1000000000000000000 := by
  unfold powW; rw [if_pos (by decide)]; rfl
theorem modI_ok (i : Int) {j : Int} (h : 0 < j) : modI i j = some (i % j) := by unfold modI; rw [if_pos h]
theorem fdivW_ok (i : Int) {j : Int} (h : 0 < j) (h2 : j < 2 ^ 1000) : fdivW i j = some (i / j) := by unfold fdivW; rw [if_pos ⟨h, h2⟩]
theorem mulI_l (i j : Int) (h : i.natAbs < 2 ^ 64) : mulI i j = some (i * j) := by unfold mulI; rw [if_pos (.inl h)]
theorem mulI_r (i j : Int) (h : j.natAbs < 2 ^ 64) : mulI i j = some (i * j) := by unfold mulI; rw [if_pos (.inr h)]
theorem draw_ok {t : List Int} (ht : Tap t) {n : Int} (h0 : 0 < n) (h1 : n ≤ 1000000000) : Wp (n__law_draw t n) fun z => Tap z.2 ∧ 0 ≤ z.1 ∧ z.1 < n := by
  obtain ⟨a, b, c, rfl, hc⟩ := ht
  have hn : n < 2 ^ 1000 := Int.lt_of_le_of_lt h1 (by decide)
  by_cases q : a ≥ 1000000000000000000
  · refine ⟨(a % n, [a / n, b, c]), ?_, ⟨_, _, _, rfl, hc⟩, Int.emod_nonneg _ (by omega), Int.emod_lt_of_pos _ h0⟩
    unfold n__law_draw
    simp only [bs, at0, pow18, geI_e, intI_e, modI_ok _ h0, fdivW_ok _ h0 hn, st0]
    rw [if_pos (decide_eq_true q)]
  · have e1 : ∀ x : Int, modI x 4294967291 = some (x % 4294967291) := fun x => modI_ok x (by decide)
    have e2 : ∀ x : Int, modI x 2147483587 = some (x % 2147483587) := fun x => modI_ok x (by decide)
    have e3 : ∀ x : Int, fdivW x 32 = some (x / 32) := fun x => fdivW_ok x (by decide) (by decide)
    have e4 : ∀ x : Int, fdivW x 16 = some (x / 16) := fun x => fdivW_ok x (by decide) (by decide)
    have e5 : mulI b 69069 = some (b * 69069) := mulI_r _ _ (by decide)
    have e6 : mulI c c = some (c * c) := mulI_l _ _ hc
    have h1 := Int.emod_nonneg (c * c + (b * 69069 + 40503) % 4294967291) (show (2147483587 : Int) ≠ 0 by decide)
    have h2 := Int.emod_lt_of_pos (c * c + (b * 69069 + 40503) % 4294967291) (show (0 : Int) < 2147483587 by decide)
    have h3 : (2147483587 : Nat) < 2 ^ 64 := by decide
    refine ⟨(((b * 69069 + 40503) % 4294967291 / 32 + (c * c + (b * 69069 + 40503) % 4294967291) % 2147483587 / 16) % n, [a, (b * 69069 + 40503) % 4294967291, (c * c + (b * 69069 + 40503) % 4294967291) % 2147483587]), ?_, ⟨_, _, _, rfl, by omega⟩, Int.emod_nonneg _ (Int.ne_of_gt h0), Int.emod_lt_of_pos _ h0⟩
    unfold n__law_draw
    simp only [bs, at0, at1, at2, pow18, geI_e, intI_e, addI_e, e1, e2, e3, e4, e5, e6, modI_ok _ h0, st0, st1, st2]
    rw [if_neg (by rw [decide_eq_true_eq]; exact q)]
theorem tap_ok (c k : Int) (h0 : 0 ≤ k) (h1 : k ≤ 1000) : Wp (n__law_tap c k) Tap := by
  have e0 : ∀ x : Int, mulI 2 x = some (2 * x) := fun x => mulI_l _ _ (by decide)
  have e1 : ∀ x : Int, modI x 4294967291 = some (x % 4294967291) := fun x => modI_ok x (by decide)
  have e2 : ∀ x : Int, modI x 2147483587 = some (x % 2147483587) := fun x => modI_ok x (by decide)
  have e5 : mulI 977 k = some (977 * k) := mulI_l _ _ (by decide)
  have e6 : mulI 31 k = some (31 * k) := mulI_l _ _ (by decide)
  obtain ⟨w, hw⟩ : ∃ w : Int, (2 * (if c < 0 then -c else c) + if decide (c < 0) = true then (1 : Int) else 0) = w := ⟨_, rfl⟩
  have h2 := Int.emod_nonneg w (show (2147483587 : Int) ≠ 0 by decide)
  have h3 := Int.emod_lt_of_pos w (show (0 : Int) < 2147483587 by decide)
  have h4 : (3147483587 : Nat) < 2 ^ 64 := by decide
  refine ⟨[w, w % 4294967291 + 977 * k + 1, w % 2147483587 + 31 * k + 2], ?_, ⟨_, _, _, rfl, by omega⟩⟩
  unfold n__law_tap
  simp only [bs, absI_e, ltI_e, intB_e, intI_e, addI_e, e0, e1, e2, e5, e6, hw]

/-! rows: each of 0 .. n-1 once -/
def Row (n : Nat) (r : List Int) : Prop := r.Perm (iot n)
theorem Row.len {n : Nat} {r : List Int} (h : Row n r) : r.length = n := by rw [List.Perm.length_eq h, iot_len]
theorem Row.mem {n : Nat} {r : List Int} (h : Row n r) {x : Int} : x ∈ r ↔ 0 ≤ x ∧ x < n := by rw [List.Perm.mem_iff h, mem_iot]
theorem Row.nodup {n : Nat} {r : List Int} (h : Row n r) : r.Nodup := (List.Perm.nodup_iff h).mpr (iot_nodup n)
theorem perm_erase {α : Type} : ∀ (l : List α) (j : Nat) (x : α), l[j]? = some x → (x :: l.eraseIdx j).Perm l
  | [], j, x, h => by simp at h
  | y :: r, 0, x, h => by
    simp at h; subst h; exact .refl _
  | y :: r, j + 1, x, h => by
    have ih := perm_erase r j x (by simpa using h)
    exact (List.Perm.swap y x _).trans (ih.cons y)
theorem perm_app1 {α : Type} (f : List α) (x : α) (l l' : List α) (h : (x :: l').Perm l) : (f ++ [x] ++ l').Perm (f ++ l) := by
  rw [List.append_assoc]
  exact List.Perm.append_left f h
theorem mixed_ok {t : List Int} (ht : Tap t) {n : Nat} (hn : n ≤ 900) : Wp (n__law_mixed t (n : Int)) fun z => Tap z.2 ∧ Row n z.1 := by
  unfold n__law_mixed
  simp only [bs, rg1_nat n (by omega : n ≤ 1000000), neNil]
  refine Wp.wh (fun s => Tap s.1 ∧ (s.2.2 ++ s.2.1).Perm (iot n)) (fun s => !s.2.1.isEmpty) (fun s => s.2.1.length) (fun s _ => rfl) ?_ ⟨ht, .refl _⟩ (by show (iot n).length < 1000; rw [iot_len]; omega) ?_
  · rintro ⟨T, left, found⟩ ⟨hT, hp⟩ hq
    have hp : (found ++ left).Perm (iot n) := hp
    have hl := hp.length_eq
    rw [List.length_append, iot_len] at hl
    have hne : left ≠ [] := by
      rintro rfl; cases hq
    have hl0 : 0 < left.length := List.length_pos_iff.mpr hne
    obtain ⟨⟨k, T1⟩, e1, hT1, k0, k1⟩ := draw_ok hT (n := (left.length : Int)) (by omega) (by omega)
    obtain ⟨x, e2, e3⟩ := popL_ok k0 k1 (by omega)
    have e4 := apL_ok (xs := found) x (by omega)
    refine ⟨(T1, left.eraseIdx k.toNat, found ++ [x]), ?_, ⟨hT1, ?_⟩, ?_⟩
    · simp only [bs, lenL_e, e1, e2, e4]
    · exact (perm_app1 found x left _ (perm_erase left _ x e3)).trans hp
    · show (left.eraseIdx k.toNat).length < left.length
      rw [List.length_eraseIdx]
      have k1 : k < left.length := k1
      have k0 : 0 ≤ k := k0
      have : k.toNat < left.length := by omega
      rw [if_pos this]
      omega
  · rintro s ⟨hT, hp⟩ hs
    refine .some ⟨hT, ?_⟩
    have : s.2.1 = [] := by
      cases q : s.2.1 with
      | nil => rfl
      | cons a r => rw [q] at hs; cases hs
    rw [this, List.append_nil] at hp
    exact hp
theorem cells_ok {ms : List Int} (hl : ms.length ≤ 63) (m : Int) : Wp (n__law_cells ms m) fun cs => cs.length ≤ 64 := by
  unfold n__law_cells
  simp only [bs, lenL_e, minI2_e, maxI2_e, catL_ok (xs := ms) (ys := [(0 : Int)]) (by omega) (by simp)]
  refine .some (Nat.le_trans (cut_len _ _ _) ?_)
  simp; omega
end Lw

/-! part L2x -/
/-! places, and rows that fall -/
namespace Lw
open PySem Hb Nv L2 P
/-- where x stands -/
def pos (r : List Int) (x : Int) : Int := (r.idxOf x : Nat)
/-- what stands at k -/
def pat (r : List Int) (k : Int) : Int := (r[k.toNat]?).getD 0
theorem pos_nn (r : List Int) (x : Int) : 0 ≤ pos r x := by unfold pos; omega
theorem pos_lt {r : List Int} {x : Int} (h : x ∈ r) : pos r x < r.length := by
  have := List.idxOf_lt_length_of_mem h
  unfold pos; omega
theorem get_pos {r : List Int} {x : Int} (h : x ∈ r) : r[r.idxOf x]? = some x := by
  have hl := List.idxOf_lt_length_of_mem h
  rw [List.getElem?_eq_getElem hl, List.getElem_idxOf]
theorem pos_get {r : List Int} (hn : r.Nodup) {k : Nat} {x : Int} (h : r[k]? = some x) : pos r x = k := by
  obtain ⟨hk, e⟩ := List.getElem?_eq_some_iff.mp h
  unfold pos
  rw [← e, hn.idxOf_getElem]
theorem pat_get {r : List Int} {k : Nat} {x : Int} (h : r[k]? = some x) : pat r (k : Int) = x := by
  unfold pat
  rw [show ((k : Int)).toNat = k by omega, h]; rfl
theorem pat_pos {r : List Int} {x : Int} (h : x ∈ r) : pat r (pos r x) = x := pat_get (get_pos h)
theorem pos_pat {n : Nat} {r : List Int} (hr : Row n r) {k : Int} (h0 : 0 ≤ k) (h1 : k < n) : pos r (pat r k) = k := by
  have hk : k.toNat < r.length := by rw [hr.len]; omega
  have e := List.getElem?_eq_getElem hk
  have e2 := pat_get e
  rw [show ((k.toNat : Nat) : Int) = k by omega] at e2
  rw [e2, pos_get hr.nodup e]
  omega
theorem pos_inj {r : List Int} {x y : Int} (hx : x ∈ r) (hy : y ∈ r) (h : pos r x = pos r y) : x = y := by
  rw [← pat_pos hx, ← pat_pos hy, h]
theorem atL_pat {r : List Int} {k : Int} (h0 : 0 ≤ k) (h1 : k < r.length) : atL r k = some (pat r k) := by
  obtain ⟨x, e1, e2, _⟩ := atL_int h0 h1
  rw [e1]
  have := pat_get e2
  rw [show ((k.toNat : Nat) : Int) = k by omega] at this
  rw [this]
theorem map_pat {n : Nat} {r : List Int} (hl : r.length = n) : (iot n).map (pat r) = r := by
  apply List.ext_getElem?
  intro i
  rw [List.getElem?_map]
  by_cases c : i < n
  · rw [iot_get c]
    show some _ = _
    rw [List.getElem?_eq_getElem (by omega : i < r.length), pat_get (List.getElem?_eq_getElem (by omega : i < r.length))]
  · rw [List.getElem?_eq_none (by rw [iot_len]; omega), List.getElem?_eq_none (by omega)]; rfl
theorem map_pos_self {n : Nat} {r : List Int} (hr : Row n r) : r.map (pos r) = iot n := by
  apply List.ext_getElem?
  intro i
  rw [List.getElem?_map]
  by_cases c : i < n
  · have e := List.getElem?_eq_getElem (by rw [hr.len]; omega : i < r.length)
    rw [iot_get c, e]
    show some _ = _
    rw [pos_get hr.nodup e]
  · rw [List.getElem?_eq_none (by rw [hr.len]; omega), List.getElem?_eq_none (by rw [iot_len]; omega)]; rfl
/-- a row in the words of another -/
theorem map_pos_row {n : Nat} {p r : List Int} (hp : Row n p) (hr : Row n r) : (r.map (pos p)).Perm (iot n) := by
  have h : (r.map (pos p)).Perm (p.map (pos p)) := (List.Perm.trans hr (List.Perm.symm hp)).map _
  rw [map_pos_self hp] at h
  exact h
theorem map_pat_pos {r q : List Int} (h : ∀ x ∈ q, x ∈ r) : (q.map (pos r)).map (pat r) = q := by
  rw [List.map_map]
  have : ∀ x ∈ q, (pat r ∘ pos r) x = id x := fun x hx => pat_pos (h x hx)
  rw [List.map_congr_left this, List.map_id]

/-! ranks_in -/
theorem ranks_ok {n : Nat} {r : List Int} (hr : Row n r) (hn : n ≤ 900) : Wp (n_ranks_in r) fun rk => ∀ x : Int, 0 ≤ x → x < n → atL rk x = some (pos r x) := by
  have hl := hr.len
  unfold n_ranks_in
  have e0 : repL [(0 : Int)] (r.length : Int) = some (List.replicate r.length (0 : Int)) := by
    unfold repL
    rw [if_pos ⟨by simp, by omega, by omega⟩]
    congr 1
    rw [show ((r.length : Int)).toNat = r.length by omega]
    generalize r.length = m
    induction m with
    | zero => rfl
    | succ m ih => rw [List.replicate_succ, List.flatten_cons, ih]; rfl
  simp only [bs, lenL_e, e0]
  refine Wp.for (fun i s => s.length = n ∧ ∀ j x, j < i → r[j]? = some x → s[x.toNat]? = some (j : Int)) ⟨by simp [hl], fun j x h => absurd h (Nat.not_lt_zero _)⟩ ?_ ?_
  · intro i y s hy ⟨hs, hi⟩
    unfold enumL at hy
    rw [List.getElem?_map, List.getElem?_zipIdx] at hy
    cases q : r[i]? with
    | none => rw [q] at hy; cases hy
    | some z =>
      rw [q] at hy
      have hy : ((0 + i : Nat) : Int) = y.1 ∧ z = y.2 := by
        have := Option.some.inj hy
        subst this
        exact ⟨rfl, rfl⟩
      have hz := hr.mem.mp (List.mem_of_getElem? q)
      refine ⟨s.set z.toNat y.1, ?_, by simp [hs], fun j x hj hx => ?_⟩
      · rw [← hy.2, stI_int _ hz.1 (by omega)]; rfl
      · have hx0 := hr.mem.mp (List.mem_of_getElem? hx)
        by_cases c : j = i
        · subst c
          rw [q] at hx
          cases hx
          rw [List.getElem?_set_self (by omega)]
          rw [← hy.1]; simp
        · have : z.toNat ≠ x.toNat := by
            intro e
            have : z = x := by omega
            subst this
            have e1 := pos_get hr.nodup q
            have e2 := pos_get hr.nodup hx
            omega
          rw [List.getElem?_set_ne this]
          exact hi j x (by omega) hx
  · intro s ⟨hs, hi⟩
    refine .some fun x h0 h1 => ?_
    have hx := hr.mem.mpr ⟨h0, h1⟩
    have e := hi (r.idxOf x) x (by unfold enumL; simp [List.idxOf_lt_length_of_mem hx]) (get_pos hx)
    have := atL_nat e
    rwa [show ((x.toNat : Nat) : Int) = x by omega] at this

/-! falling, as it is looked at -/
def fl : Int → Int → List Int → Bool
  | _, _, [] => true
  | lo, hi, x :: r => if x = lo - 1 then fl (lo - 1) hi r else if x = hi + 1 then fl lo (hi + 1) r else false
def flq : List Int → Bool
  | [] => false
  | x :: r => fl x x r
def fallsB (p r : List Int) : Bool := flq (r.map (pos p))
theorem forF_fl (f : Int → Int) (b : Int × Int → Int → Option (Fl Bool (Int × Int))) : ∀ (xs : List Int) (s : Int × Int), (∀ s, ∀ x ∈ xs, b s x = some (if f x = s.1 - 1 then .nx (s.1 - 1, s.2) else if f x = s.2 + 1 then .nx (s.1, s.2 + 1) else .rt false)) → ((forF xs s b).bind fun o => Fl.el o (fun _ => some true) fun r => some r) = some (fl s.1 s.2 (xs.map f))
  | [], s, _ => rfl
  | x :: r, s, h => by
    have ih := fun s => forF_fl f b r s fun s y hy => h s y (by simp [hy])
    show (((b s x).bind _).bind _) = _
    rw [h s x (by simp), List.map_cons]
    unfold fl
    by_cases c : f x = s.1 - 1
    · simp only [c, if_true]; exact ih (s.1 - 1, s.2)
    · simp only [c, if_false]
      by_cases c2 : f x = s.2 + 1
      · simp only [c2, if_true]; exact ih (s.1, s.2 + 1)
      · simp only [c2, if_false]; rfl
theorem drop1 {α : Type} (x : α) (r : List α) : cutL (x :: r) (some 1) none = r := by
  have := cut_from (x :: r) 1
  exact this
theorem row_cons {n : Nat} {r : List Int} (hr : Row n r) (h1 : 1 ≤ n) : ∃ x q, r = x :: q := by
  cases r with
  | nil => have := hr.len; simp at this; omega
  | cons x q => exact ⟨x, q, rfl⟩
theorem falls_ok {n : Nat} {p r : List Int} (hp : Row n p) (hr : Row n r) (h1 : 1 ≤ n) (hn : n ≤ 900) : n_falls p r = some (fallsB p r) := by
  obtain ⟨rk, e, h⟩ := ranks_ok hp hn
  obtain ⟨x, q, rfl⟩ := row_cons hr h1
  have hx : ∀ y ∈ x :: q, atL rk y = some (pos p y) := fun y hy => let ⟨a, b⟩ := hr.mem.mp hy; h y a b
  have e0 : atL (x :: q) 0 = some x := atL_nat (k := 0) rfl
  unfold n_falls
  simp only [bs, e, e0, hx x (by simp), drop1]
  refine forF_fl (pos p) _ q (pos p x, pos p x) fun s y hy => ?_
  simp only [hx y (by simp [hy]), subI, addI, eqN, Option.bind_some, decide_eq_true_eq]
  by_cases c : pos p y = s.1 - 1
  · simp only [c, if_true]
  · simp only [c, if_false]
    by_cases c2 : pos p y = s.2 + 1
    · simp only [c2, if_true]
    · simp only [c2, if_false]
theorem put_fold {κ α : Type} [DecidableEq κ] : ∀ (xs acc : List (κ × α)), ((acc ++ xs).map Prod.fst).Nodup → xs.foldl (fun acc p => putC acc p.1 p.2) acc = acc ++ xs
  | [], acc, _ => by simp
  | x :: r, acc, h => by
    rw [List.foldl_cons]
    have e : putC acc x.1 x.2 = acc ++ [x] := by
      unfold putC
      rw [if_neg]
      intro hc
      rw [List.any_eq_true] at hc
      obtain ⟨y, hy, hk⟩ := hc
      have hk := of_decide_eq_true hk
      rw [List.map_append, List.nodup_append] at h
      exact h.2.2 y.1 (List.mem_map_of_mem hy) x.1 (by simp) hk
    rw [e, put_fold r (acc ++ [x]) (by rw [List.append_assoc]; exact h), List.append_assoc]
    rfl
theorem find_key {κ α : Type} [DecidableEq κ] : ∀ (xs : List (κ × α)) (p : κ × α), (xs.map Prod.fst).Nodup → p ∈ xs → xs.find? (fun q => decide (q.1 = p.1)) = some p
  | [], p, _, h => by cases h
  | x :: r, p, hn, h => by
    rw [List.map_cons, List.nodup_cons] at hn
    rw [List.find?_cons]
    rcases List.mem_cons.mp h with rfl | h
    · simp
    · have : x.1 ≠ p.1 := fun e => hn.1 (e ▸ List.mem_map_of_mem h)
      simp only [this, decide_false]
      exact find_key r p hn.2 h
/-- dict([(p[k], k) for k in range(len(p))]) -/
def spots (p : List Int) : List (Int × Int) := (iot p.length).map fun k => (pat p k, k)
theorem spots_fst {p : List Int} : (spots p).map Prod.fst = p := by
  unfold spots
  rw [List.map_map]
  exact map_pat rfl
theorem spots_dic {p : List Int} (hn : p.Nodup) : dicL (spots p) = some ⟨spots p⟩ := by
  unfold dicL
  rw [put_fold (spots p) [] (by rw [List.nil_append, spots_fst]; exact hn)]
  rfl
theorem spots_look {p : List Int} (hn : p.Nodup) {x : Int} (hx : x ∈ p) : lookC ⟨spots p⟩ x = some (pos p x) := by
  unfold lookC
  have hm : (x, pos p x) ∈ spots p := by
    unfold spots
    refine List.mem_map.mpr ⟨pos p x, mem_iot.mpr ⟨pos_nn _ _, pos_lt hx⟩, ?_⟩
    rw [pat_pos hx]
  have := find_key (spots p) (x, pos p x) (by rw [spots_fst]; exact hn) hm
  show ((spots p).find? _).map _ = _
  rw [this]; rfl
end Lw

/-! part L2y -/
namespace Lw
open PySem Hb Nv L2 P
theorem lfalls_ok {n : Nat} {p r : List Int} (hp : Row n p) (hr : Row n r) (h1 : 1 ≤ n) (hn : n ≤ 900) : n__law_falls p r = some (fallsB p r) := by
  obtain ⟨x, q, rfl⟩ := row_cons hr h1
  have hx : ∀ y ∈ x :: q, lookC ⟨spots p⟩ y = some (pos p y) := fun y hy => spots_look hp.nodup (hp.mem.mpr (hr.mem.mp hy))
  have e0 : atL (x :: q) 0 = some x := atL_nat (k := 0) rfl
  have hl := hp.len
  unfold n__law_falls
  simp only [bs, lenL_e, ri1_nat p.length (by omega : p.length ≤ 1000000)]
  refine bnd (bnd (mapT_cap (fun k => (pat p k, k)) (by rw [iot_len]; omega) fun k hk => ?_) (spots_dic hp.nodup)) ?_
  · have hk := mem_iot.mp hk
    simp only [bs, atL_pat hk.1 hk.2]
  simp only [bs, e0, hx x (by simp), drop1]
  refine forF_fl (pos p) _ q (pos p x, pos p x) fun s y hy => ?_
  simp only [hx y (by simp [hy]), subI, addI, eqN, Option.bind_some, decide_eq_true_eq]
  by_cases c : pos p y = s.1 - 1
  · simp only [c, if_true]
  · simp only [c, if_false]
    by_cases c2 : pos p y = s.2 + 1
    · simp only [c2, if_true]
    · simp only [c2, if_false]
end Lw

/-! part L3 -/
/-! falling rows -/
namespace Lw
open PySem Hb Nv L2 P
/-- the last first: what stands before is between -/
inductive Dn : Int → Int → List Int → Prop
  | one (x : Int) : Dn x x [x]
  | lo {lo hi : Int} {q : List Int} : Dn (lo + 1) hi q → Dn lo hi (lo :: q)
  | hi {lo hi : Int} {q : List Int} : Dn lo (hi - 1) q → Dn lo hi (hi :: q)
theorem Dn.mem {lo hi : Int} {q : List Int} (h : Dn lo hi q) : lo ≤ hi ∧ ∀ x, x ∈ q ↔ lo ≤ x ∧ x ≤ hi := by
  induction h with
  | one x => exact ⟨Int.le_refl _, fun y => by rw [List.mem_singleton]; omega⟩
  | lo _ ih => exact ⟨by omega, fun y => by rw [List.mem_cons, ih.2]; omega⟩
  | hi _ ih => exact ⟨by omega, fun y => by rw [List.mem_cons, ih.2]; omega⟩
theorem Dn.ne {lo hi : Int} {q : List Int} (h : Dn lo hi q) : q ≠ [] := by cases h <;> simp
theorem Dn.uniq {lo hi lo' hi' : Int} {q : List Int} (h : Dn lo hi q) (h' : Dn lo' hi' q) : lo = lo' ∧ hi = hi' := by
  obtain ⟨a, b⟩ := h.mem
  obtain ⟨c, d⟩ := h'.mem
  have := (d lo).mp ((b lo).mpr ⟨by omega, by omega⟩)
  have := (d hi).mp ((b hi).mpr ⟨by omega, by omega⟩)
  have := (b lo').mp ((d lo').mpr ⟨by omega, by omega⟩)
  have := (b hi').mp ((d hi').mpr ⟨by omega, by omega⟩)
  omega
theorem Dn.suffix : ∀ {u v : List Int} {lo hi : Int}, Dn lo hi (u ++ v) → v ≠ [] → ∃ a b, Dn a b v
  | [], v, l, k, h, _ => ⟨_, _, h⟩
  | x :: u, v, l, k, h, hv => by
    have h : Dn l k (x :: (u ++ v)) := h
    generalize e : x :: (u ++ v) = w at h
    cases h with
    | one y =>
      have : u ++ v = [] := (List.cons.inj e).2
      exact absurd (List.append_eq_nil_iff.mp this).2 hv
    | lo h => exact suffix ((List.cons.inj e).2 ▸ h) hv
    | hi h => exact suffix ((List.cons.inj e).2 ▸ h) hv
theorem Dn.head {lo hi a b x : Int} {q : List Int} (h : Dn lo hi (x :: q)) (hq : Dn a b q) : (x = a - 1 ∧ lo = a - 1 ∧ hi = b) ∨ (x = b + 1 ∧ lo = a ∧ hi = b + 1) := by
  generalize e : x :: q = w at h
  cases h with
  | one y => exact absurd (List.cons.inj e).2 hq.ne
  | lo h =>
    obtain ⟨rfl, rfl⟩ := List.cons.inj e
    obtain ⟨e1, e2⟩ := h.uniq hq
    exact .inl ⟨by omega, by omega, e2⟩
  | hi h =>
    obtain ⟨rfl, rfl⟩ := List.cons.inj e
    obtain ⟨e1, e2⟩ := h.uniq hq
    exact .inr ⟨by omega, e1, by omega⟩
theorem fl_dn : ∀ (q : List Int) {lo hi : Int} {a : List Int}, Dn lo hi a → (fl lo hi q = true ↔ ∃ l h, Dn l h (q.reverse ++ a))
  | [], lo, hi, a, h => ⟨fun _ => ⟨_, _, h⟩, fun _ => rfl⟩
  | x :: q, lo, hi, a, h => by
    have e : (x :: q).reverse ++ a = q.reverse ++ (x :: a) := by rw [List.reverse_cons, List.append_assoc]; rfl
    rw [e]
    unfold fl
    by_cases c : x = lo - 1
    · rw [if_pos c]
      have h2 : Dn (lo - 1) hi (x :: a) := by
        rw [c]; exact .lo (by rw [show lo - 1 + 1 = lo by omega]; exact h)
      exact fl_dn q h2
    · rw [if_neg c]
      by_cases c2 : x = hi + 1
      · rw [if_pos c2]
        have h2 : Dn lo (hi + 1) (x :: a) := by
          rw [c2]; exact .hi (by rw [show hi + 1 - 1 = hi by omega]; exact h)
        exact fl_dn q h2
      · rw [if_neg c2]
        refine Iff.intro (fun z => absurd z (by simp)) ?_
        rintro ⟨l, k, z⟩
        obtain ⟨l1, k1, z1⟩ := z.suffix (by simp)
        rcases z1.head h with z2 | z2
        · exact absurd z2.1 c
        · exact absurd z2.1 c2
def FallQ (q : List Int) : Prop := ∃ l h, Dn l h q.reverse
theorem flq_iff (q : List Int) : flq q = true ↔ FallQ q := by
  cases q with
  | nil => exact Iff.intro (fun h => absurd h (by simp [flq])) (fun ⟨l, h, d⟩ => absurd rfl d.ne)
  | cons x r =>
    have := fl_dn r (Dn.one x)
    unfold FallQ
    rw [List.reverse_cons]
    exact this
theorem rgI_cons (a : Int) (k : Nat) : rgI a (k + 1) = a :: rgI (a + 1) k := by
  unfold rgI
  rw [List.range_succ_eq_map, List.map_cons, List.map_map]
  congr 1
  · omega
  · refine List.map_congr_left fun i _ => ?_
    show a + ((i + 1 : Nat) : Int) = _
    omega
theorem rgI_snoc (a : Int) (k : Nat) : rgI a (k + 1) = rgI a k ++ [a + (k : Int)] := by
  unfold rgI
  rw [List.range_succ, List.map_append]; rfl
theorem Dn.perm {lo hi : Int} {q : List Int} (h : Dn lo hi q) : q.Perm (rgI lo q.length) ∧ (q.length : Int) = hi - lo + 1 := by
  induction h with
  | one x => exact ⟨by show [x].Perm [x + ((0 : Nat) : Int)]; rw [show x + ((0 : Nat) : Int) = x by omega], by simp⟩
  | lo _ ih =>
    rw [List.length_cons, rgI_cons]
    exact ⟨ih.1.cons _, by have := ih.2; omega⟩
  | @hi lo hi q _ ih =>
    rw [List.length_cons, rgI_snoc]
    have e : lo + (q.length : Int) = hi := by have := ih.2; omega
    rw [e]
    exact ⟨(ih.1.cons hi).trans (by simpa using (List.perm_append_comm (l₁ := [hi]) (l₂ := rgI lo q.length))), by have := ih.2; omega⟩
/-- an exchange of two that stand side by side -/
theorem dn_low {lo h : Int} {a : List Int} (d : Dn lo h a) : ∃ u x v, (h + 1) :: a = u ++ x :: lo :: v ∧ Dn lo (h + 1) (u ++ lo :: x :: v) := by
  induction d with
  | one x => exact ⟨[], x + 1, [], rfl, .lo (.one _)⟩
  | @lo lo h q d _ => exact ⟨[], h + 1, q, rfl, .lo (.hi (by rw [show h + 1 - 1 = h by omega]; exact d))⟩
  | @hi lo h q d ih =>
    obtain ⟨u, x, v, e, z⟩ := ih
    rw [show h - 1 + 1 = h by omega] at e z
    exact ⟨(h + 1) :: u, x, v, by rw [e]; rfl, .hi (by rw [show h + 1 - 1 = h by omega]; exact z)⟩
theorem dn_high {l hi : Int} {a : List Int} (d : Dn l hi a) : ∃ u x v, (l - 1) :: a = u ++ x :: hi :: v ∧ Dn (l - 1) hi (u ++ hi :: x :: v) := by
  induction d with
  | one x => exact ⟨[], x - 1, [], rfl, .hi (.one _)⟩
  | @hi l h q d _ => exact ⟨[], l - 1, q, rfl, .hi (.lo (by rw [show l - 1 + 1 = l by omega]; exact d))⟩
  | @lo l h q d ih =>
    obtain ⟨u, x, v, e, z⟩ := ih
    rw [show l + 1 - 1 = l by omega] at e z
    exact ⟨(l - 1) :: u, x, v, by rw [e]; rfl, .lo (by rw [show l - 1 + 1 = l by omega]; exact z)⟩
theorem Dn.nodup {lo hi : Int} {q : List Int} (h : Dn lo hi q) : q.Nodup := by
  induction h with
  | one x => simp
  | @lo lo hi q d ih => exact List.nodup_cons.mpr ⟨fun m => by have := (d.mem.2 _).mp m; omega, ih⟩
  | @hi lo hi q d ih => exact List.nodup_cons.mpr ⟨fun m => by have := (d.mem.2 _).mp m; omega, ih⟩
/-- two that fall alike and are not the same: a step of the one towards the other that falls -/
theorem dn_step {lo hi : Int} {a b : List Int} (ha : Dn lo hi a) (hb : Dn lo hi b) (hne : a ≠ b) : ∃ u x y v, a = u ++ x :: y :: v ∧ Dn lo hi (u ++ y :: x :: v) ∧ b.idxOf y < b.idxOf x := by
  induction ha generalizing b with
  | one x =>
    cases hb with
    | one _ => exact absurd rfl hne
    | lo d => have := d.mem.1; omega
    | hi d => have := d.mem.1; omega
  | @lo lo hi q d ih =>
    cases hb with
    | one _ => have := d.mem.1; omega
    | @lo _ _ q2 d2 =>
      have hq : q ≠ q2 := fun e => hne (by rw [e])
      obtain ⟨u, x, y, v, e, z, w⟩ := ih d2 hq
      refine ⟨lo :: u, x, y, v, by rw [e]; rfl, .lo z, ?_⟩
      have hx : x ≠ lo := fun c => by
        have := (d.mem.2 x).mp (by rw [e]; simp)
        omega
      have hy : y ≠ lo := fun c => by
        have := (d.mem.2 y).mp (by rw [e]; simp)
        omega
      rw [List.idxOf_cons, List.idxOf_cons]
      have h1 : (lo == y) = false := by rw [beq_eq_false_iff_ne]; exact hy.symm
      have h2 : (lo == x) = false := by rw [beq_eq_false_iff_ne]; exact hx.symm
      rw [h1, h2]
      show _ + 1 < _ + 1
      omega
    | @hi _ _ q2 d2 =>
      obtain ⟨u, x, v, e, z⟩ := dn_high d
      rw [show lo + 1 - 1 = lo by omega] at e z
      refine ⟨u, x, hi, v, e, z, ?_⟩
      have hx : x ≠ hi := fun c => by
        have n1 := (Dn.lo d).nodup
        rw [e, c] at n1
        have := (List.nodup_append.mp n1).2.1
        simp at this
      rw [List.idxOf_cons, List.idxOf_cons]
      have h2 : (hi == x) = false := by rw [beq_eq_false_iff_ne]; exact hx.symm
      rw [h2, beq_self_eq_true]
      show 0 < _ + 1
      omega
  | @hi lo hi q d ih =>
    cases hb with
    | one _ => have := d.mem.1; omega
    | @hi _ _ q2 d2 =>
      have hq : q ≠ q2 := fun e => hne (by rw [e])
      obtain ⟨u, x, y, v, e, z, w⟩ := ih d2 hq
      refine ⟨hi :: u, x, y, v, by rw [e]; rfl, .hi z, ?_⟩
      have hx : x ≠ hi := fun c => by
        have := (d.mem.2 x).mp (by rw [e]; simp)
        omega
      have hy : y ≠ hi := fun c => by
        have := (d.mem.2 y).mp (by rw [e]; simp)
        omega
      rw [List.idxOf_cons, List.idxOf_cons]
      have h1 : (hi == y) = false := by rw [beq_eq_false_iff_ne]; exact hy.symm
      have h2 : (hi == x) = false := by rw [beq_eq_false_iff_ne]; exact hx.symm
      rw [h1, h2]
      show _ + 1 < _ + 1
      omega
    | @lo _ _ q2 d2 =>
      obtain ⟨u, x, v, e, z⟩ := dn_low d
      rw [show hi - 1 + 1 = hi by omega] at e z
      refine ⟨u, x, lo, v, e, z, ?_⟩
      have hx : x ≠ lo := fun c => by
        have n1 := (Dn.hi d).nodup
        rw [e, c] at n1
        have := (List.nodup_append.mp n1).2.1
        simp at this
      rw [List.idxOf_cons, List.idxOf_cons]
      have h2 : (lo == x) = false := by rw [beq_eq_false_iff_ne]; exact hx.symm
      rw [h2, beq_self_eq_true]
      show 0 < _ + 1
      omega
end Lw

/-! part L4 -/
/-! rows that fall on a path; turned pairs; exchanges -/
namespace Lw
open PySem Hb Nv L2 P
def Fal (p r : List Int) : Prop := FallQ (r.map (pos p))
theorem fallsB_iff {p r : List Int} : fallsB p r = true ↔ Fal p r := flq_iff _
theorem fal_row {n : Nat} {p r : List Int} (hp : Row n p) (hn : 1 ≤ n) (hr : ∀ x ∈ r, x ∈ p) (h : Dn 0 ((n : Int) - 1) (r.map (pos p)).reverse) : Row n r := by
  have h1 := h.perm
  have hl : (r.map (pos p)).reverse.length = n := by have := h1.2; omega
  have h2 : (r.map (pos p)).Perm (iot n) := by
    have := h1.1
    rw [hl, rgI0] at this
    exact (List.reverse_perm _).symm.trans this
  have h3 := h2.map (pat p)
  rw [map_pat_pos hr, map_pat hp.len] at h3
  exact h3.trans hp
theorem Fal.bounds {n : Nat} {p r : List Int} (hp : Row n p) (hr : Row n r) (hn : 1 ≤ n) (h : Fal p r) : Dn 0 ((n : Int) - 1) (r.map (pos p)).reverse := by
  obtain ⟨l, k, d⟩ := h
  have hm := d.mem
  have q := map_pos_row hp hr
  have hm2 : ∀ x, (0 ≤ x ∧ x < (n : Int)) ↔ (l ≤ x ∧ x ≤ k) := fun x => by
    rw [← hm.2, List.mem_reverse, q.mem_iff, mem_iot]
  have a := (hm2 0).mp ⟨by omega, by omega⟩
  have b := (hm2 ((n : Int) - 1)).mp ⟨by omega, by omega⟩
  have c := (hm2 l).mpr ⟨by omega, by omega⟩
  have e := (hm2 k).mpr ⟨by omega, by omega⟩
  rw [show (0 : Int) = l by omega, show (n : Int) - 1 = k by omega]
  exact d
theorem pat_mem {r : List Int} {k : Int} (h0 : 0 ≤ k) (h1 : k < r.length) : pat r k ∈ r := by
  obtain ⟨x, _, e, m⟩ := atL_int h0 h1
  unfold pat
  rw [e]; exact m
theorem pos_patR {r : List Int} (hr : r.Nodup) {k : Int} (h0 : 0 ≤ k) (h1 : k < r.length) : pos r (pat r k) = k := by
  obtain ⟨x, _, e, m⟩ := atL_int h0 h1
  unfold pat
  rw [e]
  have := pos_get hr e
  show pos r x = k
  omega
theorem fallen_ok {t : List Int} (ht : Tap t) {n : Nat} {p : List Int} (hp : Row n p) (h1 : 1 ≤ n) (hn : n ≤ 900) : Wp (n__law_fallen t p) fun z => Tap z.2 ∧ Row n z.1 ∧ Fal p z.1 := by
  have hl := hp.len
  obtain ⟨⟨k, T⟩, e1, hT, k0, k1⟩ := draw_ok ht (n := (p.length : Int)) (by omega) (by omega)
  have k0 : 0 ≤ k := k0
  have k1 : k < p.length := k1
  unfold n__law_fallen
  simp only [bs, lenL_e, e1, atL_pat k0 k1, ltI_e, gtI_e, subI_e, addI_e, eqN_e]
  refine Wp.wh (fun s => Tap s.1 ∧ 0 ≤ s.2.1 ∧ s.2.2.1 < (n : Int) ∧ Dn s.2.1 s.2.2.1 (s.2.2.2.map (pos p)).reverse ∧ ∀ x ∈ s.2.2.2, x ∈ p) (fun s => decide ((s.2.2.2.length : Int) < (p.length : Int))) (fun s => n - s.2.2.2.length) (fun s _ => rfl) ?_ ?_ ?_ ?_
  · rintro ⟨T, lo, hi, found⟩ ⟨hT, h0, hk, hd, hm⟩ hq
    have h0 : 0 ≤ lo := h0
    have hk : hi < (n : Int) := hk
    have hd : Dn lo hi (found.map (pos p)).reverse := hd
    have hq : (found.length : Int) < (p.length : Int) := of_decide_eq_true hq
    have hln := hd.perm.2
    rw [List.length_reverse, List.length_map] at hln
    have hle := hd.mem.1
    show Wp (Option.bind _ _) _
    refine Wp.bind (R := fun z : Bool × List Int => Tap z.2 ∧ (z.1 = true → 0 < lo) ∧ (z.1 = false → hi + 1 < (n : Int))) ?_ ?_
    · by_cases c : 0 < lo
      · rw [if_pos (decide_eq_true c)]
        by_cases c2 : hi = (p.length : Int) - 1
        · rw [if_pos (decide_eq_true c2)]
          exact .some ⟨hT, fun _ => c, fun e => absurd e (by simp)⟩
        · rw [if_neg (by rw [decide_eq_true_eq]; exact c2)]
          obtain ⟨⟨j, T2⟩, e2, hT2, _, _⟩ := draw_ok hT (n := (2 : Int)) (by omega) (by omega)
          rw [e2]
          exact .some ⟨hT2, fun _ => c, fun _ => by omega⟩
      · rw [if_neg (by rw [decide_eq_true_eq]; exact c)]
        exact .some ⟨hT, fun e => absurd e (by simp), fun _ => by omega⟩
    · rintro ⟨b, T2⟩ ⟨hT2, b1, b2⟩
      cases b with
      | true =>
        have c := b1 rfl
        have a0 : 0 ≤ lo - 1 := by omega
        have a1 : lo - 1 < p.length := by omega
        refine ⟨(T2, lo - 1, hi, found ++ [pat p (lo - 1)]), ?_, ⟨hT2, a0, hk, ?_, ?_⟩, ?_⟩
        · show Option.bind _ _ = _
          rw [atL_pat a0 a1]
          show Option.bind (Option.bind (apL found _) _) _ = _
          rw [apL_ok _ (by omega)]; rfl
        · show Dn (lo - 1) hi ((found ++ [pat p (lo - 1)]).map (pos p)).reverse
          rw [List.map_append, List.map_cons, List.map_nil, List.reverse_append, pos_patR hp.nodup a0 a1]
          exact .lo (by rw [show lo - 1 + 1 = lo by omega]; exact hd)
        · intro x hx
          rcases List.mem_append.mp hx with hx | hx
          · exact hm x hx
          · rw [List.mem_singleton.mp hx]; exact pat_mem a0 a1
        · show n - (found ++ [_]).length < n - found.length
          rw [List.length_append]
          show n - (found.length + 1) < _
          omega
      | false =>
        have c := b2 rfl
        have a0 : 0 ≤ hi + 1 := by omega
        have a1 : hi + 1 < p.length := by omega
        refine ⟨(T2, lo, hi + 1, found ++ [pat p (hi + 1)]), ?_, ⟨hT2, h0, c, ?_, ?_⟩, ?_⟩
        · show Option.bind _ _ = _
          rw [atL_pat a0 a1]
          show Option.bind (Option.bind (apL found _) _) _ = _
          rw [apL_ok _ (by omega)]; rfl
        · show Dn lo (hi + 1) ((found ++ [pat p (hi + 1)]).map (pos p)).reverse
          rw [List.map_append, List.map_cons, List.map_nil, List.reverse_append, pos_patR hp.nodup a0 a1]
          exact .hi (by rw [show hi + 1 - 1 = hi by omega]; exact hd)
        · intro x hx
          rcases List.mem_append.mp hx with hx | hx
          · exact hm x hx
          · rw [List.mem_singleton.mp hx]; exact pat_mem a0 a1
        · show n - (found ++ [_]).length < n - found.length
          rw [List.length_append]
          show n - (found.length + 1) < _
          omega
  · refine ⟨hT, k0, by show k < _; omega, ?_, fun x hx => ?_⟩
    · show Dn k k [pos p (pat p k)]
      rw [pos_patR hp.nodup k0 k1]
      exact .one k
    · rw [List.mem_singleton.mp hx]; exact pat_mem k0 k1
  · show n - 1 < 1000
    omega
  · rintro ⟨T, lo, hi, found⟩ ⟨hT, h0, hk, hd, hm⟩ hq
    have h0 : 0 ≤ lo := h0
    have hk : hi < (n : Int) := hk
    have hd : Dn lo hi (found.map (pos p)).reverse := hd
    have hq : ¬ (found.length : Int) < (p.length : Int) := of_decide_eq_false hq
    have hln := hd.perm.2
    rw [List.length_reverse, List.length_map] at hln
    have e1 : lo = 0 := by omega
    have e2 : hi = (n : Int) - 1 := by omega
    refine .some ⟨hT, fal_row hp h1 hm ?_, ⟨_, _, hd⟩⟩
    rw [← e1, ← e2]; exact hd

/-! turned pairs -/
def inv : List Int → Nat
  | [] => 0
  | x :: r => r.countP (fun y => decide (y < x)) + inv r
theorem inv_exch {x y : Int} (h : y < x) (v : List Int) : ∀ u : List Int, inv (u ++ x :: y :: v) = inv (u ++ y :: x :: v) + 1
  | [] => by
    show (y :: v).countP _ + (v.countP _ + inv v) = (x :: v).countP _ + (v.countP _ + inv v) + 1
    have h1 : (y :: v).countP (fun z => decide (z < x)) = v.countP (fun z => decide (z < x)) + 1 := by
      rw [List.countP_cons_of_pos (by simpa using h)]
    have h2 : (x :: v).countP (fun z => decide (z < y)) = v.countP (fun z => decide (z < y)) := by
      rw [List.countP_cons_of_neg (by simp; omega)]
    omega
  | a :: u => by
    show (u ++ x :: y :: v).countP _ + inv (u ++ x :: y :: v) = (u ++ y :: x :: v).countP _ + inv (u ++ y :: x :: v) + 1
    rw [inv_exch h v u]
    have : (u ++ x :: y :: v).Perm (u ++ y :: x :: v) := List.Perm.append_left u (List.Perm.swap y x v)
    rw [this.countP_eq]
    omega
theorem inv_le : ∀ z : List Int, inv z ≤ z.length * z.length
  | [] => Nat.le_refl _
  | x :: r => by
    have := inv_le r
    have h2 : r.countP (fun y => decide (y < x)) ≤ r.length := List.countP_le_length
    show _ + _ ≤ (r.length + 1) * (r.length + 1)
    rw [Nat.add_mul, Nat.mul_add]
    omega
theorem inv_up : ∀ {z : List Int}, z.Pairwise (· ≤ ·) → inv z = 0
  | [], _ => rfl
  | x :: r, h => by
    rw [List.pairwise_cons] at h
    show _ + _ = 0
    rw [inv_up h.2, List.countP_eq_zero.mpr fun y hy => by have := h.1 y hy; simp; omega]
theorem inv_self {n : Nat} {r : List Int} (hr : Row n r) : inv (r.map (pos r)) = 0 := by
  rw [map_pos_self hr]; exact inv_up (iot_sorted n)
theorem idxL_pos {s : List Int} {x : Int} (h : x ∈ s) : idxL s x = some (pos s x) := by
  unfold idxL
  have e : (s.findIdx? fun z => decide (z = x)) = some (s.idxOf x) := by
    have hf : (fun z : Int => decide (z = x)) = (fun z => z == x) := by
      funext z
      rfl
    rw [hf]
    rw [List.findIdx?_eq_some_iff_findIdx_eq]
    exact ⟨List.idxOf_lt_length_of_mem h, rfl⟩
  rw [e]; rfl
theorem fold_count (f : Int → Bool) : ∀ (xs : List Int) (s : Int), xs.foldl (fun s y => s + if f y = true then 1 else 0) s = s + (xs.countP f : Nat)
  | [], s => by simp
  | x :: r, s => by
    rw [List.foldl_cons, fold_count f r, List.countP_cons]
    by_cases c : f x = true
    · simp only [c, if_true]; omega
    · simp only [c]; simp
theorem turned_ok {n : Nat} {r s : List Int} (hr : Row n r) (hs : Row n s) (hn : n ≤ 900) : n__law_turned r s = some (inv (r.map (pos s)) : Int) := by
  have hl := hr.len
  have hi : ∀ y ∈ r, idxL s y = some (pos s y) := fun y hy => idxL_pos (hs.mem.mpr (hr.mem.mp hy))
  suffices h : Wp (n__law_turned r s) fun z => z = (inv (r.map (pos s)) : Int) by
    obtain ⟨z, e, rfl⟩ := h
    exact e
  unfold n__law_turned
  simp only [bs, lenL_e, ri1_nat r.length (by omega : r.length ≤ 1000000), addI_e, ltI_e, intB_e]
  refine Wp.for (fun i z => z + (inv ((r.drop i).map (pos s)) : Int) = (inv (r.map (pos s)) : Int)) (by simp) ?_ ?_
  · intro i k z hk hz
    obtain ⟨rfl, hk1⟩ := iot_getI hk
    have e1 : r.drop i = r[i] :: r.drop (i + 1) := List.drop_eq_getElem_cons hk1
    have e2 : atL r (i : Int) = some r[i] := atL_lt hk1
    have e3 : cutL r (some ((i : Int) + 1)) none = r.drop (i + 1) := cut_from r (i + 1)
    refine ⟨z + ((r.drop (i + 1)).countP (fun y => decide (pos s y < pos s r[i])) : Nat), ?_, ?_⟩
    · rw [e3, e2]
      refine bnd (forS_fold _ (fun z y => z + if decide (pos s y < pos s r[i]) = true then 1 else 0) _ _ fun z y hy => ?_) ?_
      · simp only [bs, hi y (List.mem_of_mem_drop hy), hi r[i] (List.getElem_mem hk1)]
      · rw [fold_count]
    · rw [e1, List.map_cons] at hz
      have hz : z + ((List.countP (fun y => decide (y < pos s r[i])) ((r.drop (i + 1)).map (pos s)) + inv ((r.drop (i + 1)).map (pos s)) : Nat) : Int) = _ := hz
      rw [List.countP_map] at hz
      have e : ((fun y => decide (y < pos s r[i])) ∘ pos s) = fun y => decide (pos s y < pos s r[i]) := rfl
      rw [e] at hz
      omega
  · intro z hz
    rw [iot_len] at hz
    refine .some ?_
    rw [List.drop_eq_nil_of_le (Nat.le_refl _)] at hz
    have : inv (([] : List Int).map (pos s)) = 0 := rfl
    omega
end Lw

/-! part L5 -/
/-! exchanges, steps, ways -/
namespace Lw
open PySem Hb Nv L2 P
/-- the row with the two at k and k+1 exchanged -/
def ex2 (r : List Int) (k : Nat) : List Int := r.take k ++ [pat r ((k : Int) + 1), pat r (k : Int)] ++ r.drop (k + 2)
theorem at_split {r : List Int} {k : Nat} (h : k + 1 < r.length) : ∃ u x y v, r = u ++ x :: y :: v ∧ u.length = k := by
  refine ⟨r.take k, r[k], r[k + 1], r.drop (k + 2), ?_, by simp; omega⟩
  have e1 : r.drop k = r[k] :: r.drop (k + 1) := List.drop_eq_getElem_cons (by omega)
  have e2 : r.drop (k + 1) = r[k + 1] :: r.drop (k + 2) := List.drop_eq_getElem_cons h
  rw [← e2, ← e1, List.take_append_drop]
theorem split_at (u v : List Int) (x y : Int) : pat (u ++ x :: y :: v) (u.length : Int) = x ∧ pat (u ++ x :: y :: v) ((u.length : Int) + 1) = y ∧ ex2 (u ++ x :: y :: v) u.length = u ++ y :: x :: v := by
  have h1 : pat (u ++ x :: y :: v) (u.length : Int) = x := pat_get (by simp)
  have h2 : pat (u ++ x :: y :: v) ((u.length : Int) + 1) = y := pat_get (k := u.length + 1) (by simp)
  refine ⟨h1, h2, ?_⟩
  unfold ex2
  rw [h1, h2]
  have e1 : (u ++ x :: y :: v).take u.length = u := by simp
  have e2 : (u ++ x :: y :: v).drop (u.length + 2) = v := by
    rw [List.drop_append]
    simp
  rw [e1, e2, List.append_assoc]
  rfl
theorem ex2_perm {r : List Int} {k : Nat} (h : k + 1 < r.length) : (ex2 r k).Perm r := by
  obtain ⟨u, x, y, v, rfl, rfl⟩ := at_split h
  rw [(split_at u v x y).2.2]
  exact List.Perm.append_left u (List.Perm.swap x y v)
theorem ex2_row {n : Nat} {r : List Int} {k : Nat} (hr : Row n r) (h : k + 1 < n) : Row n (ex2 r k) := List.Perm.trans (ex2_perm (by rw [hr.len]; exact h)) hr
theorem ex2_prog {r : List Int} {k : Nat} (h : k + 1 < r.length) (hl : r.length ≤ 1000) : atL r (k : Int) = some (pat r k) ∧ atL r ((k : Int) + 1) = some (pat r ((k : Int) + 1)) ∧ cutL r none (some (k : Int)) = r.take k ∧ cutL r (some ((k : Int) + 2)) none = r.drop (k + 2) ∧ catL (r.take k) [pat r ((k : Int) + 1), pat r (k : Int)] = some (r.take k ++ [pat r ((k : Int) + 1), pat r (k : Int)]) ∧ catL (r.take k ++ [pat r ((k : Int) + 1), pat r (k : Int)]) (r.drop (k + 2)) = some (ex2 r k) := by
  refine ⟨atL_pat (by omega) (by omega), atL_pat (by omega) (by omega), cut_to r k, cut_from r (k + 2), catL_ok (by simp; omega) (by simp), catL_ok (by simp; omega) (by simp; omega)⟩
theorem exchanged_ok {r : List Int} {k : Nat} (h : k + 1 < r.length) (hl : r.length ≤ 1000) : n_exchanged_at r (k : Int) = some (ex2 r k) := by
  obtain ⟨h1, h2, h3, h4, h5, h6⟩ := ex2_prog h hl
  unfold n_exchanged_at
  simp only [bs, addI_e, h1, h2, h3, h4, h5, h6]
/-- a step that lowers what is turned -/
def Down (p r s : List Int) (t : Bool) (k : Nat) : Prop := k + 1 < r.length ∧ pos s (pat r ((k : Int) + 1)) < pos s (pat r (k : Int)) ∧ (t = true → Fal p (ex2 r k))
theorem Down.inv {p r s : List Int} {t : Bool} {k : Nat} (h : Down p r s t k) : inv (r.map (pos s)) = inv ((ex2 r k).map (pos s)) + 1 := by
  obtain ⟨h1, h2, _⟩ := h
  obtain ⟨u, x, y, v, rfl, rfl⟩ := at_split h1
  obtain ⟨e1, e2, e3⟩ := split_at u v x y
  rw [e1, e2] at h2
  rw [e3, List.map_append, List.map_append, List.map_cons, List.map_cons, List.map_cons, List.map_cons]
  exact inv_exch h2 _ _
/-- none goes down: nothing is turned -/
theorem up_of {z : List Int} (h : ∀ u x y v, z = u ++ x :: y :: v → x ≤ y) : z.Pairwise (· ≤ ·) := by
  induction z with
  | nil => exact .nil
  | cons a r ih =>
    have hr := ih fun u x y v e => h (a :: u) x y v (by rw [e]; rfl)
    refine List.pairwise_cons.mpr ⟨fun b hb => ?_, hr⟩
    cases r with
    | nil => cases hb
    | cons c r2 =>
      have h1 := h [] a c r2 rfl
      rcases List.mem_cons.mp hb with rfl | hb
      · exact h1
      · exact Int.le_trans h1 ((List.pairwise_cons.mp hr).1 b hb)
theorem down_ex {n : Nat} {p r s : List Int} (t : Bool) (hp : Row n p) (hr : Row n r) (hs : Row n s) (h1 : 1 ≤ n) (hne : r ≠ s) (hf : t = true → Fal p r ∧ Fal p s) : ∃ k, Down p r s t k := by
  have mem : ∀ {a b : List Int}, Row n a → Row n b → ∀ x ∈ a, x ∈ b := fun ha hb x hx => hb.mem.mpr (ha.mem.mp hx)
  cases t with
  | false =>
    refine Classical.byContradiction fun hno => hne ?_
    have hup : (r.map (pos s)).Pairwise (· ≤ ·) := up_of fun u x y v e => by
      refine Int.not_lt.mp fun hlt => hno ?_
      obtain ⟨u', w, eu, e1, e2⟩ := List.map_eq_append_iff.mp e
      obtain ⟨x', w2, rfl, rfl, e3⟩ := List.map_eq_cons_iff.mp e2
      obtain ⟨y', v', rfl, rfl, rfl⟩ := List.map_eq_cons_iff.mp e3
      subst eu
      obtain ⟨a1, a2, _⟩ := split_at u' v' x' y'
      refine ⟨u'.length, by simp, ?_, fun e => absurd e (by simp)⟩
      rw [a1, a2]; exact hlt
    have hq : (r.map (pos s)) = iot n := List.Perm.eq_of_pairwise (le := (· ≤ ·)) (fun a b _ _ h1 h2 => Int.le_antisymm h1 h2) hup (iot_sorted n) (map_pos_row hs hr)
    have := map_pat_pos (mem hr hs)
    rw [hq, map_pat hs.len] at this
    exact this.symm
  | true =>
    obtain ⟨fr, fs⟩ := hf rfl
    have dr := fr.bounds hp hr h1
    have ds := fs.bounds hp hs h1
    have hne2 : (r.map (pos p)).reverse ≠ (s.map (pos p)).reverse := fun e => hne (by
      have e := List.reverse_inj.mp e
      rw [← map_pat_pos (mem hr hp), e, map_pat_pos (mem hs hp)])
    obtain ⟨u, x, y, v, e, z, w⟩ := dn_step dr ds hne2
    have e2 : r.map (pos p) = v.reverse ++ y :: x :: u.reverse := by
      rw [← List.reverse_reverse (r.map (pos p)), e]
      simp
    obtain ⟨u', w', eu, e3, e4⟩ := List.map_eq_append_iff.mp e2
    obtain ⟨y', w2, rfl, rfl, e5⟩ := List.map_eq_cons_iff.mp e4
    obtain ⟨x', v', rfl, rfl, e6⟩ := List.map_eq_cons_iff.mp e5
    subst eu
    obtain ⟨a1, a2, a3⟩ := split_at u' v' y' x'
    have my : y' ∈ s := mem hr hs y' (by simp)
    have mx : x' ∈ s := mem hr hs x' (by simp)
    have idx : ∀ {a : Int}, a ∈ s → ((s.map (pos p)).reverse.idxOf (pos p a) : Int) = (n : Int) - 1 - pos s a := fun {a} ha => by
      have hl := List.idxOf_lt_length_of_mem ha
      have hn := hs.len
      have nd : (s.map (pos p)).reverse.Nodup := ds.nodup
      have hk : n - 1 - s.idxOf a < (s.map (pos p)).reverse.length := by simp; omega
      have g : (s.map (pos p)).reverse[n - 1 - s.idxOf a]'hk = pos p a := by
        rw [List.getElem_reverse, List.getElem_map]
        congr 1
        have hx : (s.map (pos p)).length - 1 - (n - 1 - s.idxOf a) = s.idxOf a := by simp; omega
        simp only [hx]
        exact List.getElem_idxOf hl
      have := nd.idxOf_getElem _ hk
      rw [g] at this
      rw [this]
      unfold pos
      omega
    refine ⟨u'.length, by simp, ?_, fun _ => ?_⟩
    · rw [a1, a2]
      have i1 := idx my
      have i2 := idx mx
      omega
    · rw [a3]
      have h : ((u' ++ x' :: y' :: v').map (pos p)).reverse = u ++ pos p y' :: pos p x' :: v := by
        rw [List.map_append, List.map_cons, List.map_cons, e3, e6]
        simp
      exact ⟨_, _, h ▸ z⟩
theorem steps_ok {n : Nat} {p r s : List Int} (t : Bool) (hp : Row n p) (hr : Row n r) (hs : Row n s) (h1 : 1 ≤ n) (hn : n ≤ 900) : Wp (n__law_steps p r s t) fun f => f.length ≤ n ∧ (∀ z ∈ f, ∃ k, Down p r s t k ∧ z = ex2 r k) ∧ ((∃ k, Down p r s t k) → f ≠ []) := by
  have hl := hr.len
  unfold n__law_steps
  simp only [bs, lenL_e, subI_e, ri1_ok ((r.length : Int) - 1) (by omega) (by omega), addI_e, gtI_e]
  have hlen : ((r.length : Int) - 1).toNat = n - 1 := by omega
  rw [hlen]
  refine Wp.for (fun i f => f.length ≤ i ∧ (∀ z ∈ f, ∃ k, Down p r s t k ∧ z = ex2 r k) ∧ ((∃ k, k < i ∧ Down p r s t k) → f ≠ [])) ⟨Nat.le_refl _, by simp, fun ⟨k, hk, _⟩ => absurd hk (Nat.not_lt_zero _)⟩ ?_ ?_
  · intro i x f hx ⟨f1, f2, f3⟩
    obtain ⟨rfl, hi⟩ := iot_getI hx
    have hk : i + 1 < r.length := by omega
    obtain ⟨g1, g2, g3, g4, g5, g6⟩ := ex2_prog hk (by omega)
    have m1 : pat r (i : Int) ∈ s := hs.mem.mpr (hr.mem.mp (pat_mem (by omega) (by omega)))
    have m2 : pat r ((i : Int) + 1) ∈ s := hs.mem.mpr (hr.mem.mp (pat_mem (by omega) (by omega)))
    have b1 := idxL_pos m1
    have b2 := idxL_pos m2
    have fo := lfalls_ok hp (ex2_row hr (by omega : i + 1 < n)) h1 hn
    simp only [bs, g1, g2, g3, g4, g5, g6, b1, b2]
    -- not a step
    have no : ¬ Down p r s t i → Wp (some f) fun f => f.length ≤ i + 1 ∧ (∀ z ∈ f, ∃ k, Down p r s t k ∧ z = ex2 r k) ∧ ((∃ k, k < i + 1 ∧ Down p r s t k) → f ≠ []) := fun hd => .some ⟨by omega, f2, fun ⟨k, hk, d⟩ => f3 ⟨k, by
      have : k ≠ i := fun e => hd (e ▸ d)
      omega, d⟩⟩
    have yes : Down p r s t i → Wp ((Option.bind (apL f (ex2 r i)) fun x59 => some (x59, ex2 r i)).bind fun x60 => some x60.1) fun f => f.length ≤ i + 1 ∧ (∀ z ∈ f, ∃ k, Down p r s t k ∧ z = ex2 r k) ∧ ((∃ k, k < i + 1 ∧ Down p r s t k) → f ≠ []) := fun hd => by
      rw [apL_ok _ (by omega)]
      refine .some ⟨by simp; omega, fun z hz => ?_, fun _ => by simp⟩
      rcases List.mem_append.mp hz with hz | hz
      · exact f2 z hz
      · exact ⟨i, hd, List.mem_singleton.mp hz⟩
    by_cases c : pos s (pat r ((i : Int) + 1)) < pos s (pat r (i : Int))
    · rw [if_pos (decide_eq_true c)]
      cases t with
      | false => exact yes ⟨hk, c, fun e => absurd e (by simp)⟩
      | true =>
        show Wp (Option.bind (n__law_falls p (ex2 r i)) _) _
        rw [fo]
        by_cases c2 : fallsB p (ex2 r i) = true
        · show Wp (if _ then _ else _) _
          rw [if_pos c2]
          exact yes ⟨hk, c, fun _ => fallsB_iff.mp c2⟩
        · show Wp (if _ then _ else _) _
          rw [if_neg c2]
          exact no fun d => c2 (fallsB_iff.mpr (d.2.2 rfl))
    · rw [if_neg (by rw [decide_eq_true_eq]; exact c)]
      exact no fun d => c d.2.1
  · intro f ⟨f1, f2, f3⟩
    rw [iot_len] at f1 f3
    exact .some ⟨by omega, f2, fun ⟨k, d⟩ => f3 ⟨k, by have := d.1; omega, d⟩⟩
/-- two rows that differ by an exchange -/
def Nxt (a b : List Int) : Prop := ∃ k, k + 1 < a.length ∧ b = ex2 a k
def Lnk (f : List (List Int)) : Prop := ∀ i a b, f[i]? = some a → f[i + 1]? = some b → Nxt a b
theorem Lnk.snoc {pre : List (List Int)} {a b : List Int} (h : Lnk (pre ++ [a])) (hn : Nxt a b) : Lnk (pre ++ [a] ++ [b]) := by
  intro i x y hx hy
  have hl : i + 1 < (pre ++ [a] ++ [b]).length := (List.getElem?_eq_some_iff.mp hy).1
  rw [List.length_append] at hl
  have hl : i + 1 < (pre ++ [a]).length + 1 := hl
  rw [List.getElem?_append_left (by omega)] at hx
  by_cases c : i + 1 < (pre ++ [a]).length
  · rw [List.getElem?_append_left c] at hy
    exact h i x y hx hy
  · have e : i + 1 = (pre ++ [a]).length := by omega
    rw [e, List.getElem?_append_right (Nat.le_refl _), Nat.sub_self] at hy
    have e2 : i = pre.length := by rw [List.length_append] at e; simp at e; omega
    rw [e2, List.getElem?_append_right (Nat.le_refl _), Nat.sub_self] at hx
    cases hx
    cases hy
    exact hn
/-- a way that goes down from r to s -/
structure WayD (n : Nat) (p r s : List Int) (t : Bool) (f : List (List Int)) : Prop where
  row : ∀ z ∈ f, Row n z
  fal : t = true → ∀ z ∈ f, Fal p z
  hd : f.head? = some r
  lst : f.getLast? = some s
  lnk : Lnk f
  len : f.length = inv (r.map (pos s)) + 1
theorem inv_small {n : Nat} {r s : List Int} (hr : Row n r) : inv (r.map (pos s)) ≤ n * n := by
  have := inv_le (r.map (pos s))
  rwa [List.length_map, hr.len] at this
theorem walked_ok {T : List Int} (hT : Tap T) {n : Nat} {p r s : List Int} (t : Bool) (hp : Row n p) (hr : Row n r) (hs : Row n s) (h1 : 1 ≤ n) (hn : n ≤ 12) (hf : t = true → Fal p r ∧ Fal p s) : Wp (n__law_walked T p r s t) fun z => Tap z.2 ∧ WayD n p r s t z.1 := by
  have hsm : inv (r.map (pos s)) ≤ 144 := Nat.le_trans (inv_small hr) (Nat.mul_le_mul hn hn)
  unfold n__law_walked
  simp only [bs, negI_e, neN_e, lenL_e]
  refine Wp.wh (fun x => Tap x.1 ∧ ∃ pre cur, x.2 = pre ++ [cur] ∧ (∀ z ∈ x.2, Row n z) ∧ (t = true → ∀ z ∈ x.2, Fal p z) ∧ x.2.head? = some r ∧ Lnk x.2 ∧ inv (cur.map (pos s)) + pre.length = inv (r.map (pos s))) (fun x => !decide (x.2.getLast?.getD [] = s)) (fun x => inv ((x.2.getLast?.getD []).map (pos s))) ?_ ?_ ?_ ?_ ?_
  · rintro ⟨T, f⟩ ⟨hT, pre, cur, e, hrow, hfal, hhd, hlnk, hinv⟩
    have e : f = pre ++ [cur] := e
    subst e
    have g : (pre ++ [cur]).getLast? = some cur := by simp
    have a := atL_last g
    show Option.bind (atL (pre ++ [cur]) (-1)) _ = _
    rw [a, g]; rfl
  · rintro ⟨T, f⟩ ⟨hT, pre, cur, e, hrow, hfal, hhd, hlnk, hinv⟩ hq
    have e : f = pre ++ [cur] := e
    subst e
    have g : (pre ++ [cur]).getLast? = some cur := by simp
    have a := atL_last g
    have hq : (!decide (((pre ++ [cur]).getLast?).getD [] = s)) = true := hq
    rw [g] at hq
    have hne : cur ≠ s := by simpa using hq
    have hc : Row n cur := hrow cur (by simp)
    have hfc : t = true → Fal p cur ∧ Fal p s := fun e => ⟨hfal e cur (by simp), (hf e).2⟩
    obtain ⟨fs, e2, l2, f2, f3⟩ := steps_ok t hp hc hs h1 (by omega)
    have hne2 := f3 (down_ex t hp hc hs h1 hne hfc)
    have hl0 : 0 < fs.length := List.length_pos_iff.mpr hne2
    obtain ⟨⟨k, T2⟩, e3, hT2, k0, k1⟩ := draw_ok hT (n := (fs.length : Int)) (by omega) (by omega)
    obtain ⟨z, e4, _, mz⟩ := atL_int k0 k1
    obtain ⟨j, dj, rfl⟩ := f2 z mz
    have di := dj.inv
    have ri : Row n (ex2 cur j) := ex2_row hc (by have := dj.1; rw [hc.len] at this; exact this)
    refine ⟨(T2, pre ++ [cur] ++ [ex2 cur j]), ?_, ⟨hT2, pre ++ [cur], ex2 cur j, rfl, ?_, ?_, ?_, ?_, ?_⟩, ?_⟩
    · have e4 : atL fs k = some (ex2 cur j) := e4
      have e5 := apL_ok (xs := pre ++ [cur]) (ex2 cur j) (by simp; omega)
      simp only [bs, a, e2, e3, e4, e5]
    · intro z hz
      rcases List.mem_append.mp hz with hz | hz
      · exact hrow z hz
      · rw [List.mem_singleton.mp hz]; exact ri
    · intro e z hz
      rcases List.mem_append.mp hz with hz | hz
      · exact hfal e z hz
      · rw [List.mem_singleton.mp hz]; exact dj.2.2 e
    · show (pre ++ [cur] ++ [ex2 cur j]).head? = some r
      rw [List.head?_append]
      have : (pre ++ [cur]).head? = some r := hhd
      rw [this]; rfl
    · exact hlnk.snoc ⟨j, dj.1, rfl⟩
    · rw [List.length_append]
      show _ + (pre.length + 1) = _
      have : inv (cur.map (pos s)) + pre.length = inv (r.map (pos s)) := hinv
      omega
    · show inv ((((pre ++ [cur] ++ [ex2 cur j]).getLast?).getD []).map (pos s)) < inv ((((pre ++ [cur]).getLast?).getD []).map (pos s))
      rw [g, List.getLast?_append]
      show inv ((ex2 cur j).map (pos s)) < inv (cur.map (pos s))
      omega
  · refine ⟨hT, [], r, rfl, fun z hz => ?_, fun e z hz => ?_, rfl, fun i a b _ hb => ?_, rfl⟩
    · rw [List.mem_singleton.mp hz]; exact hr
    · rw [List.mem_singleton.mp hz]; exact (hf e).1
    · exact absurd hb (by simp)
  · show inv (r.map (pos s)) < 1000
    omega
  · rintro ⟨T, f⟩ ⟨hT, pre, cur, e, hrow, hfal, hhd, hlnk, hinv⟩ hq
    have e : f = pre ++ [cur] := e
    subst e
    have g : (pre ++ [cur]).getLast? = some cur := by simp
    have hq : (!decide (((pre ++ [cur]).getLast?).getD [] = s)) = false := hq
    rw [g] at hq
    have hc : cur = s := by simpa using hq
    refine .some ⟨hT, hrow, hfal, hhd, by rw [← hc]; exact g, hlnk, ?_⟩
    have hinv : inv (cur.map (pos s)) + pre.length = inv (r.map (pos s)) := hinv
    rw [hc, inv_self hs] at hinv
    show (pre ++ [cur]).length = _
    rw [List.length_append]
    show pre.length + 1 = _
    omega
end Lw

/-! part L6 -/
/-! any value: is it a row -/
namespace Lw
open PySem Hb Nv L2 P
open Enc (enc)
def isInt : PyData → Bool
  | .int _ => true
  | _ => false
def isNn : PyData → Bool
  | .int i => decide (0 ≤ i)
  | _ => false
theorem isi_i (i : Int) : isiN "int" (.int i) = some true := rfl
theorem isi_ib (i : Int) : isiN "bool" (.int i) = some false := rfl
theorem isi_b (i : Bool) : isiN "int" (.bool i) = some true := rfl
theorem isi_bb (i : Bool) : isiN "bool" (.bool i) = some true := rfl
theorem isi_l (ds : List PyData) : isiN "list" (.list ds) = some true := rfl
theorem isi_nl {d : PyData} (h : ∀ ds, d ≠ .list ds) : isiN "list" d = some false := by
  cases d with
  | list ds => exact absurd rfl (h ds)
  | _ => rfl
theorem isi_ni {d : PyData} (h : ∀ i, d ≠ .int i) (h2 : ∀ i, d ≠ .bool i) : isiN "int" d = some false := by
  cases d with
  | int i => exact absurd rfl (h i)
  | bool i => exact absurd rfl (h2 i)
  | _ => rfl
theorem lenA_l (ds : List PyData) : lenA (.list ds) = some (ds.length : Int) := rfl
theorem seqA_l (ds : List PyData) : seqA (.list ds) = some ds := rfl
theorem asL_l (ds : List PyData) : asL (.list ds) = some ds := rfl
theorem asI_i (i : Int) : asIntA (.int i) = some i := rfl
theorem bnot_t : (!true) = false := rfl
theorem bnot_f : (!false) = true := rfl
theorem integer_ok (d : PyData) : n_is_integer d 0 none = some (isNn d) := by
  by_cases h1 : ∃ i, d = .int i
  · obtain ⟨i, rfl⟩ := h1
    unfold n_is_integer
    simp only [bs, isi_i, isi_ib, asI_i, leI_e, bnot_t, Bool.false_eq_true, if_false, Option.isNone_none, if_true]
    by_cases c : 0 ≤ i
    · rw [if_pos (decide_eq_true c)]
      show _ = some (decide (0 ≤ i))
      rw [decide_eq_true c]; rfl
    · rw [if_neg (by rw [decide_eq_true_eq]; exact c)]
      show _ = some (decide (0 ≤ i))
      rw [decide_eq_false c]; rfl
  · by_cases h2 : ∃ i, d = .bool i
    · obtain ⟨b, rfl⟩ := h2
      unfold n_is_integer
      simp only [bs, isi_b, isi_bb, bnot_t, Bool.false_eq_true, if_false, if_true]
      rfl
    · have n1 : ∀ i, d ≠ .int i := fun i e => h1 ⟨i, e⟩
      have n2 : ∀ i, d ≠ .bool i := fun i e => h2 ⟨i, e⟩
      unfold n_is_integer
      simp only [bs, isi_ni n1 n2, bnot_f, if_true]
      cases d with
      | int i => exact absurd rfl (n1 i)
      | _ => rfl
theorem ints_or (ds : List PyData) : (∃ ns, ds = ns.map PyData.int ∧ intsOf ds = some ns) ∨ (intsOf ds = none ∧ ds.all isInt = false) := by
  induction ds with
  | nil => exact .inl ⟨[], rfl, rfl⟩
  | cons d r ih =>
    cases d with
    | int i =>
      rcases ih with ⟨ns, e1, e2⟩ | ⟨e1, e2⟩
      · exact .inl ⟨i :: ns, by rw [e1]; rfl, by rw [intsOf, e2]; rfl⟩
      · exact .inr ⟨by rw [intsOf, e1]; rfl, by simp [isInt, e2]⟩
    | _ => exact .inr ⟨rfl, by simp [isInt]⟩
theorem ints_of (ns : List Int) : intsOf (ns.map PyData.int) = some ns := by
  induction ns with
  | nil => rfl
  | cons i r ih => rw [List.map_cons, intsOf, ih]; rfl
def rowB (n : Nat) : PyData → Bool
  | .list ds => match intsOf ds with
    | some ns => decide (sortI ns = iot n)
    | none => false
  | _ => false
theorem rowB_iff {n : Nat} {d : PyData} : rowB n d = true ↔ ∃ ns : List Int, d = enc ns ∧ Row n ns := by
  constructor
  · intro h
    cases d with
    | list ds =>
      change (match intsOf ds with
        | some ns => decide (sortI ns = iot n)
        | none => false) = true at h
      rcases ints_or ds with ⟨ns, rfl, e⟩ | ⟨e, _⟩
      · rw [e] at h
        have h := of_decide_eq_true h
        exact ⟨ns, rfl, by have := sortI_perm ns; rw [h] at this; exact this.symm⟩
      · rw [e] at h; cases h
    | _ => cases h
  · rintro ⟨ns, rfl, h⟩
    show (match intsOf (ns.map PyData.int) with
      | some ns => decide (sortI ns = iot n)
      | none => false) = true
    rw [ints_of]
    exact decide_eq_true (sortI_eq (List.Perm.symm h) (iot_sorted n)).symm
/-- a value whose lists are not too long -/
def Sml (d : PyData) : Prop := ∀ ds, d = .list ds → ds.length ≤ 100000
theorem each_ok {n : Nat} (hn : n ≤ 1000) {d : PyData} (hd : Sml d) : n_is_each_once (n : Int) d = some (rowB n d) := by
  by_cases hl : ∃ ds, d = .list ds
  · obtain ⟨ds, rfl⟩ := hl
    have hs := hd ds rfl
    unfold n_is_each_once
    simp only [bs, isi_l, bnot_t, Bool.false_eq_true, if_false, lenA_l, seqA_l, neN_e, allB_e]
    by_cases c : (ds.length : Int) = (n : Int)
    · simp only [c, decide_true, bnot_t, Bool.false_eq_true, if_false]
      rw [mapT_cap isNn hs (fun x _ => integer_ok x)]
      simp only [bs]
      rcases ints_or ds with ⟨ns, rfl, e⟩ | ⟨e, e2⟩
      · have e3 : srtAC (.list (ns.map PyData.int)) = some (sortI ns) := by
          show (intsOf _).bind _ = _
          rw [e]
          show (if _ then _ else _) = _
          rw [if_pos (cap_ge (by simpa using hs))]
        have e4 : rg1 (n : Int) = some (iot n) := rg1_nat n (by omega)
        have e5 : rowB n (.list (ns.map PyData.int)) = decide (sortI ns = iot n) := by
          show (match intsOf (ns.map PyData.int) with
            | some ns => decide (sortI ns = iot n)
            | none => false) = _
          rw [e]
        rw [e3, e4, e5]
        simp only [bs, eqN_e]
        by_cases a : (List.map isNn (List.map PyData.int ns)).all id = true
        · simp only [a, bnot_t, Bool.false_eq_true, if_false]
        · have a' : (List.map isNn (List.map PyData.int ns)).all id = false := by simpa using a
          simp only [a', bnot_f, if_true]
          congr 1
          refine (decide_eq_false fun hq => a ?_).symm
          rw [List.all_eq_true]
          intro b hb
          rw [List.map_map] at hb
          obtain ⟨i, hi, rfl⟩ := List.mem_map.mp hb
          have : i ∈ sortI ns := (sortI_perm ns).mem_iff.mpr hi
          rw [hq, mem_iot] at this
          show decide (0 ≤ i) = true
          exact decide_eq_true this.1
      · have a' : (List.map isNn ds).all id = false := by
          rw [List.all_eq_false] at e2 ⊢
          obtain ⟨x, hx, h⟩ := e2
          refine ⟨isNn x, List.mem_map_of_mem hx, ?_⟩
          cases x with
          | int i => exact absurd rfl h
          | _ => exact fun z => nomatch z
        simp only [a', bnot_f, if_true]
        show _ = some (match intsOf ds with
          | some ns => decide (sortI ns = iot n)
          | none => false)
        rw [e]
    · simp only [c, decide_false, bnot_f, if_true, bs]
      refine congrArg some (Eq.symm ?_)
      refine Bool.eq_false_iff.mpr fun h => ?_
      obtain ⟨ns, e, hr⟩ := rowB_iff.mp h
      have e : ds = ns.map PyData.int := PyData.list.inj e
      have := hr.len
      subst e
      simp at c
      omega
  · have hn : ∀ ds, d ≠ .list ds := fun ds e => hl ⟨ds, e⟩
    unfold n_is_each_once
    simp only [bs, isi_nl hn, bnot_f, if_true]
    cases d with
    | list ds => exact absurd rfl (hn ds)
    | _ => rfl
theorem is_row_ok {n : Nat} (hn : n ≤ 1000) {d : PyData} (hd : Sml d) : n__law_is_row (n : Int) d = some (rowB n d) := by
  by_cases hl : ∃ ds, d = .list ds
  · obtain ⟨ds, rfl⟩ := hl
    have hs := hd ds rfl
    unfold n__law_is_row
    simp only [bs, isi_l, bnot_t, Bool.false_eq_true, if_false, lenA_l, seqA_l, neN_e]
    by_cases c : (ds.length : Int) = (n : Int)
    · simp only [c, decide_true, bnot_t, Bool.false_eq_true, if_false, bs]
      rw [mapC_cap (fun d => !isInt d) hs (fun x _ => ?_)]
      · simp only [bs, neNil]
        rcases ints_or ds with ⟨ns, rfl, e⟩ | ⟨e, e2⟩
        · have e3 : srtAC (.list (ns.map PyData.int)) = some (sortI ns) := by
            show (intsOf _).bind _ = _
            rw [e]
            show (if _ then _ else _) = _
            rw [if_pos (cap_ge (by simpa using hs))]
          have e4 : rg1 (n : Int) = some (iot n) := rg1_nat n (by omega)
          have e5 : rowB n (.list (ns.map PyData.int)) = decide (sortI ns = iot n) := by
            show (match intsOf (ns.map PyData.int) with
              | some ns => decide (sortI ns = iot n)
              | none => false) = _
            rw [e]
          rw [e3, e4, e5]
          have a : List.filter (fun d => !isInt d) (List.map PyData.int ns) = [] := by
            rw [List.filter_eq_nil_iff]
            intro x hx
            obtain ⟨i, _, rfl⟩ := List.mem_map.mp hx
            simp [isInt]
          rw [a]
          simp only [bs, eqN_e, List.isEmpty_nil, bnot_t, Bool.false_eq_true, if_false]
        · have a : (List.filter (fun d => !isInt d) ds).isEmpty = false := by
            rw [List.all_eq_false] at e2
            obtain ⟨x, hx, h⟩ := e2
            have : x ∈ List.filter (fun d => !isInt d) ds := List.mem_filter.mpr ⟨hx, by simpa using h⟩
            cases q : List.filter (fun d => !isInt d) ds with
            | nil => rw [q] at this; cases this
            | cons _ _ => rfl
          simp only [a, bnot_f, if_true]
          show _ = some (match intsOf ds with
            | some ns => decide (sortI ns = iot n)
            | none => false)
          rw [e]
      · cases x with
        | int i => rw [isi_i, isi_ib]; rfl
        | bool i => rw [isi_b, isi_bb]; rfl
        | _ => rw [isi_ni (by simp) (by simp)]; rfl
    · simp only [c, decide_false, bnot_f, if_true, bs]
      refine congrArg some (Eq.symm ?_)
      refine Bool.eq_false_iff.mpr fun h => ?_
      obtain ⟨ns, e, hr⟩ := rowB_iff.mp h
      have e : ds = ns.map PyData.int := PyData.list.inj e
      have := hr.len
      subst e
      simp at c
      omega
  · have hn : ∀ ds, d ≠ .list ds := fun ds e => hl ⟨ds, e⟩
    unfold n__law_is_row
    simp only [bs, isi_nl hn, bnot_f, if_true]
    cases d with
    | list ds => exact absurd rfl (hn ds)
    | _ => rfl

/-! what is asked of a line and of ballots -/
theorem sml_ints {ns : List Int} (h : ns.length ≤ 100000) : Sml (enc ns) := fun ds e => by
  have e : ns.map PyData.int = ds := PyData.list.inj e
  rw [← e]; simpa using h
theorem rowB_row {n : Nat} {r : List Int} (h : Row n r) : rowB n (enc r) = true := rowB_iff.mpr ⟨r, rfl, h⟩
theorem sml_row {n : Nat} {r : List Int} (h : Row n r) (hn : n ≤ 1000) : Sml (enc r) := sml_ints (by rw [h.len]; omega)
theorem ballot_ok {n : Nat} {r : List Int} (h : Row n r) (hn : n ≤ 1000) : n_need_ballot (n : Int) (enc r) = some () := by
  unfold n_need_ballot
  simp only [bs, each_ok hn (sml_row h hn), rowB_row h, bnot_t, Bool.false_eq_true, if_false]
theorem integer12 {n : Nat} (h1 : 1 ≤ n) (h2 : n ≤ 12) : n_is_integer (.int (n : Int)) 1 (some 12) = some true := by
  unfold n_is_integer
  have a : (1 : Int) ≤ (n : Int) := by omega
  have b : (n : Int) ≤ 12 := by omega
  simp only [bs, isi_i, isi_ib, asI_i, leI_e, bnot_t, Bool.false_eq_true, if_false, Option.isNone_some, decide_eq_true a, decide_eq_true b, if_true]
theorem line_ok {n : Nat} {p : List Int} (h : Row n p) (h1 : 1 ≤ n) (hn : n ≤ 12) : n_need_line (enc p) none = some () := by
  unfold n_need_line
  have a : isiN "list" (enc p) = some true := rfl
  have b : lenA (enc p) = some (n : Int) := by
    have := lenA_l (p.map PyData.int)
    rw [List.length_map, h.len] at this
    exact this
  have c : n_is_integer (enc (some (n : Int))) 1 (some 12) = some true := integer12 h1 hn
  simp only [bs, a, b, c, Bool.false_eq_true, if_false, Option.isNone_none, if_true, bnot_t, each_ok (by omega : n ≤ 1000) (sml_row h (by omega)), rowB_row h]
theorem falling_ok {n : Nat} {p r : List Int} (hp : Row n p) (hr : Row n r) (h1 : 1 ≤ n) (hn : n ≤ 900) (hf : Fal p r) : n_need_falling p r = some () := by
  unfold n_need_falling
  simp only [bs, falls_ok hp hr h1 hn, fallsB_iff.mpr hf, bnot_t, Bool.false_eq_true, if_false]
theorem asIL_row (r : List Int) : asIL (enc r) = some r := ints_of r
theorem both_ok {n : Nat} {p r s : List Int} (hp : Row n p) (hr : Row n r) (hs : Row n s) (h1 : 1 ≤ n) (hn : n ≤ 12) (hf : Fal p r) (hg : Fal p s) : n_need_both_falling p (enc r) (enc s) = some () := by
  unfold n_need_both_falling
  simp only [bs, line_ok hp h1 hn, lenL_e, hp.len, ballot_ok hr (by omega : n ≤ 1000), ballot_ok hs (by omega : n ≤ 1000), asIL_row, falling_ok hp hr h1 (by omega) hf, falling_ok hp hs h1 (by omega) hg]
end Lw

/-! part L7 -/
/-! pairs turned; rows that are next to each other -/
namespace Lw
open PySem Hb Nv L2 P
open Enc (enc)
def cnt (f : Int → Int → Bool) : List Int → Nat
  | [] => 0
  | x :: l => l.countP (f x) + cnt f l
theorem cnt_perm (f : Int → Int → Bool) {l l' : List Int} (h : l.Perm l') : l.Nodup → (∀ a ∈ l, ∀ b ∈ l, a ≠ b → f a b = f b a) → cnt f l = cnt f l' := by
  induction h with
  | nil => intro _ _; rfl
  | @cons x a b p ih =>
    intro hn hs
    rw [List.nodup_cons] at hn
    show _ + _ = _ + _
    rw [ih hn.2 (fun a ha b hb => hs a (by simp [ha]) b (by simp [hb])), p.countP_eq]
  | swap x y l =>
    intro hn hs
    show (x :: l).countP (f y) + (l.countP (f x) + cnt f l) = (y :: l).countP (f x) + (l.countP (f y) + cnt f l)
    rw [List.nodup_cons] at hn
    have hne : y ≠ x := fun e => hn.1 (by rw [e]; simp)
    have := hs y (by simp) x (by simp) hne
    rw [List.countP_cons, List.countP_cons, this]
    omega
  | trans p q ih1 ih2 =>
    intro hn hs
    rw [ih1 hn hs, ih2 (p.nodup_iff.mp hn) (fun a ha b hb => hs a (p.mem_iff.mpr ha) b (p.mem_iff.mpr hb))]
theorem cnt_inv (f : Int → Int → Bool) (g : Int → Int) : ∀ {l : List Int}, l.Pairwise (fun x y => f x y = decide (g y < g x)) → cnt f l = inv (l.map g)
  | [], _ => rfl
  | x :: l, h => by
    rw [List.pairwise_cons] at h
    show _ + _ = _ + _
    rw [cnt_inv f g h.2]
    congr 1
    show _ = (l.map g).countP _
    rw [List.countP_map]
    exact List.countP_congr fun y hy => by rw [h.1 y hy]; rfl
/-- the two rank them otherwise -/
def Dis (r s : List Int) (a b : Int) : Bool := decide (pos r a < pos r b) != decide (pos s a < pos s b)
theorem dis_sym {n : Nat} {r s : List Int} (hr : Row n r) (hs : Row n s) {a b : Int} (ha : a ∈ r) (hb : b ∈ r) (hne : a ≠ b) : Dis r s a b = Dis r s b a := by
  have h1 : pos r a ≠ pos r b := fun e => hne (pos_inj ha hb e)
  have h2 : pos s a ≠ pos s b := fun e => hne (pos_inj (hs.mem.mpr (hr.mem.mp ha)) (hs.mem.mpr (hr.mem.mp hb)) e)
  unfold Dis
  by_cases c1 : pos r a < pos r b <;> by_cases c2 : pos s a < pos s b
  · rw [decide_eq_true c1, decide_eq_true c2, decide_eq_false (by omega : ¬ pos r b < pos r a), decide_eq_false (by omega : ¬ pos s b < pos s a)]; rfl
  · rw [decide_eq_true c1, decide_eq_false c2, decide_eq_false (by omega : ¬ pos r b < pos r a), decide_eq_true (by omega : pos s b < pos s a)]; rfl
  · rw [decide_eq_false c1, decide_eq_true c2, decide_eq_true (by omega : pos r b < pos r a), decide_eq_false (by omega : ¬ pos s b < pos s a)]; rfl
  · rw [decide_eq_false c1, decide_eq_false c2, decide_eq_true (by omega : pos r b < pos r a), decide_eq_true (by omega : pos s b < pos s a)]; rfl
theorem cnt_dis {n : Nat} {r s : List Int} (hr : Row n r) (hs : Row n s) : cnt (Dis r s) (iot n) = inv (r.map (pos s)) := by
  have h1 := cnt_perm (Dis r s) hr hr.nodup fun a ha b hb hne => dis_sym hr hs ha hb hne
  rw [← h1]
  refine cnt_inv _ _ ?_
  rw [List.pairwise_iff_getElem]
  intro i j hi hj hij
  have p1 := pos_get hr.nodup (List.getElem?_eq_getElem hi)
  have p2 := pos_get hr.nodup (List.getElem?_eq_getElem hj)
  have m1 : r[i] ∈ r := List.getElem_mem hi
  have m2 : r[j] ∈ r := List.getElem_mem hj
  have hne : r[i] ≠ r[j] := fun e => by
    have := (List.getElem_inj hr.nodup).mp e
    omega
  have h2 : pos s r[i] ≠ pos s r[j] := fun e => hne (pos_inj (hs.mem.mpr (hr.mem.mp m1)) (hs.mem.mpr (hr.mem.mp m2)) e)
  unfold Dis
  rw [p1, p2, decide_eq_true (by omega : (i : Int) < (j : Int))]
  by_cases c : pos s r[i] < pos s r[j]
  · rw [decide_eq_true c, decide_eq_false (by omega : ¬ pos s r[j] < pos s r[i])]; rfl
  · rw [decide_eq_false c, decide_eq_true (by omega : pos s r[j] < pos s r[i])]; rfl
theorem iot_drop {n k : Nat} : (iot n).drop k = rgI (k : Int) (n - k) := by
  apply List.ext_getElem?
  intro i
  rw [List.getElem?_drop]
  unfold rgI
  rw [List.getElem?_map]
  by_cases c : i < n - k
  · rw [List.getElem?_range c, iot_get (by omega)]
    show some _ = some _
    congr 1
  · rw [List.getElem?_eq_none (by rw [iot_len]; omega), List.getElem?_eq_none (by simp; omega)]; rfl
theorem ri2_nat (a b : Nat) (h : b ≤ 1000000) (h2 : a ≤ 1000000) : ri2 (a : Int) (b : Int) = some ((iot b).drop a) := by
  unfold ri2
  rw [if_pos (by omega), iot_drop]
  congr 2
  omega
theorem count_take {f : Int → Bool} {x : Int} : ∀ {L : List Int} {j : Nat}, L[j]? = some x → (L.take (j + 1)).countP f = (L.take j).countP f + if f x = true then 1 else 0
  | [], j, h => by simp at h
  | y :: r, 0, h => by
    simp at h
    subst h
    show [y].countP f = 0 + _
    rw [List.countP_cons]
    simp
  | y :: r, j + 1, h => by
    have ih := count_take (f := f) (L := r) (j := j) (by simpa using h)
    show (y :: r.take (j + 1)).countP f = (y :: r.take j).countP f + _
    rw [List.countP_cons, List.countP_cons, ih]
    omega
theorem pairs_ok {n : Nat} {r s : List Int} (hr : Row n r) (hs : Row n s) (hn : n ≤ 300) : Wp (n_pairs_turned r s) fun z => z.length = inv (r.map (pos s)) := by
  obtain ⟨rk, e1, h1⟩ := ranks_ok hr (by omega)
  obtain ⟨sk, e2, h2⟩ := ranks_ok hs (by omega)
  unfold n_pairs_turned
  simp only [bs, e1, e2, lenL_e, hr.len, ri1_nat n (by omega : n ≤ 1000000), addI_e, ltI_e, neN_e]
  refine Wp.for (fun i z => z.length + cnt (Dis r s) ((iot n).drop i) = cnt (Dis r s) (iot n) ∧ z.length ≤ i * n) ⟨by simp, by simp⟩ ?_ ?_
  · intro i k z hk ⟨hz, hz2⟩
    obtain ⟨rfl, hi⟩ := iot_getI hk
    have e3 : ri2 ((i : Int) + 1) (n : Int) = some ((iot n).drop (i + 1)) := ri2_nat (i + 1) n (by omega) (by omega)
    have e4 : (iot n).drop i = (i : Int) :: (iot n).drop (i + 1) := by
      have : (iot n)[i]'(by rw [iot_len]; exact hi) = (i : Int) := by
        have := iot_get hi
        rw [List.getElem?_eq_getElem (by rw [iot_len]; exact hi)] at this
        exact Option.some.inj this
      rw [← this]
      exact List.drop_eq_getElem_cons (by rw [iot_len]; exact hi)
    rw [e3]
    have hb : i * n ≤ 300 * 300 := Nat.mul_le_mul (by omega) hn
    simp only [bs]
    refine Wp.for (fun j y => y.length = z.length + (((iot n).drop (i + 1)).take j).countP (Dis r s (i : Int)) ∧ y.length ≤ z.length + j) ⟨by simp, by simp⟩ ?_ ?_
    · intro j x y hx ⟨hy, hy2⟩
      have hx2 := hx
      rw [List.getElem?_drop] at hx2
      obtain ⟨hx3, hj⟩ := iot_getI hx2
      have hx4 : 0 ≤ x ∧ x < (n : Int) := by omega
      have hk4 : 0 ≤ (i : Int) ∧ (i : Int) < (n : Int) := by omega
      rw [h1 (i : Int) hk4.1 hk4.2, h1 x hx4.1 hx4.2, h2 (i : Int) hk4.1 hk4.2, h2 x hx4.1 hx4.2]
      simp only [bs]
      have et : (((iot n).drop (i + 1)).take (j + 1)).countP (Dis r s (i : Int)) = (((iot n).drop (i + 1)).take j).countP (Dis r s (i : Int)) + if Dis r s (i : Int) x = true then 1 else 0 := by
        exact count_take hx
      by_cases c : Dis r s (i : Int) x = true
      · have c' : (!decide (decide (pos r (i : Int) < pos r x) = decide (pos s (i : Int) < pos s x))) = true := by
          unfold Dis at c
          simpa using c
        rw [if_pos c', apL_ok _ (by omega)]
        refine .some ⟨?_, ?_⟩
        · show (y ++ [_]).length = _
          rw [et, if_pos c, List.length_append]
          show y.length + 1 = _
          omega
        · show (y ++ [_]).length ≤ _
          rw [List.length_append]
          show y.length + 1 ≤ _
          omega
      · have c' : ¬ (!decide (decide (pos r (i : Int) < pos r x) = decide (pos s (i : Int) < pos s x))) = true := by
          unfold Dis at c
          simpa using c
        rw [if_neg c']
        refine .some ⟨?_, by omega⟩
        rw [et, if_neg c]; omega
    · intro y ⟨hy, hy2⟩
      rw [List.take_length] at hy
      rw [List.length_drop, iot_len] at hy2
      refine .some ⟨?_, ?_⟩
      · rw [e4] at hz
        have hz : z.length + (((iot n).drop (i + 1)).countP (Dis r s (i : Int)) + cnt (Dis r s) ((iot n).drop (i + 1))) = _ := hz
        omega
      · rw [Nat.add_mul]
        omega
  · intro z ⟨hz, _⟩
    rw [List.drop_length] at hz
    refine .some ?_
    rw [cnt_dis hr hs] at hz
    exact hz

/-! next to each other -/
def nxtB (a b : List Int) : Bool := decide (b ∈ (iot (a.length - 1)).map fun k => ex2 a k.toNat)
theorem nxtB_iff {a b : List Int} : nxtB a b = true ↔ Nxt a b := by
  unfold nxtB Nxt
  rw [decide_eq_true_eq, List.mem_map]
  constructor
  · rintro ⟨k, hk, rfl⟩
    rw [mem_iot] at hk
    exact ⟨k.toNat, by omega, rfl⟩
  · rintro ⟨k, hk, rfl⟩
    exact ⟨(k : Int), mem_iot.mpr ⟨by omega, by omega⟩, rfl⟩
theorem ex2_len {a : List Int} {k : Nat} (h : k + 1 < a.length) : (ex2 a k).length = a.length := (ex2_perm h).length_eq
theorem pat_ex2 {a : List Int} {k : Nat} (h : k + 1 < a.length) {j : Nat} (hj : j < a.length) : pat (ex2 a k) (j : Int) = if j = k then pat a ((k : Int) + 1) else if j = k + 1 then pat a (k : Int) else pat a (j : Int) := by
  obtain ⟨u, x, y, v, rfl, rfl⟩ := at_split h
  obtain ⟨e1, e2, e3⟩ := split_at u v x y
  rw [e1, e2, e3]
  by_cases c1 : j = u.length
  · rw [if_pos c1, c1]; exact pat_get (by simp)
  · rw [if_neg c1]
    by_cases c2 : j = u.length + 1
    · rw [if_pos c2, c2]; exact pat_get (by simp)
    · rw [if_neg c2]
      unfold pat
      congr 1
      rw [show ((j : Int)).toNat = j by omega]
      by_cases c3 : j < u.length
      · rw [List.getElem?_append_left c3, List.getElem?_append_left c3]
      · rw [List.getElem?_append_right (by omega), List.getElem?_append_right (by omega)]
        obtain ⟨m, hm⟩ : ∃ m, j - u.length = m + 2 := ⟨j - u.length - 2, by omega⟩
        rw [hm]; rfl
/-- the places at which two rows differ -/
def unl (a b : List Int) : List Int := (iot a.length).filter fun k => !decide (pat a k = pat b k)
theorem unl_up (a b : List Int) : (unl a b).Pairwise (· ≤ ·) ∧ (unl a b).Nodup := ⟨(iot_sorted _).filter _, (iot_nodup _).filter _⟩
theorem mem_unl {a b : List Int} {k : Int} : k ∈ unl a b ↔ (0 ≤ k ∧ k < a.length) ∧ pat a k ≠ pat b k := by
  unfold unl
  rw [List.mem_filter, mem_iot]
  simp
def nextB (a b : List Int) : Bool := match unl a b with
  | [i, j] => decide (j = i + 1) && (decide (pat a i = pat b j) && decide (pat a j = pat b i))
  | _ => false
theorem nextB_ok {n : Nat} {a b : List Int} (ha : Row n a) (hb : Row n b) : nextB a b = nxtB a b := by
  have hl : a.length = b.length := by rw [ha.len, hb.len]
  rw [Bool.eq_iff_iff, nxtB_iff]
  constructor
  · intro h
    unfold nextB at h
    cases q : unl a b with
    | nil => rw [q] at h; cases h
    | cons i q1 =>
      cases q1 with
      | nil => rw [q] at h; cases h
      | cons j q2 =>
        cases q2 with
        | cons _ _ => rw [q] at h; cases h
        | nil =>
          rw [q] at h
          have h : (decide (j = i + 1) && (decide (pat a i = pat b j) && decide (pat a j = pat b i))) = true := h
          rw [Bool.and_eq_true, Bool.and_eq_true, decide_eq_true_eq, decide_eq_true_eq, decide_eq_true_eq] at h
          obtain ⟨rfl, h2, h3⟩ := h
          have mi := (mem_unl (k := i)).mp (by rw [q]; simp)
          have mj := (mem_unl (k := i + 1)).mp (by rw [q]; simp)
          have hk : i.toNat + 1 < a.length := by omega
          refine ⟨i.toNat, hk, ?_⟩
          rw [← map_pat (r := b) hl.symm, ← map_pat (r := ex2 a i.toNat) (ex2_len hk)]
          refine List.map_congr_left fun m hm => ?_
          rw [mem_iot] at hm
          have e := pat_ex2 hk (j := m.toNat) (by omega)
          rw [show ((m.toNat : Nat) : Int) = m by omega, show ((i.toNat : Nat) : Int) = i by omega] at e
          rw [e]
          by_cases c1 : m.toNat = i.toNat
          · rw [if_pos c1, show m = i by omega]; exact h3.symm
          · rw [if_neg c1]
            by_cases c2 : m.toNat = i.toNat + 1
            · rw [if_pos c2, show m = i + 1 by omega]; exact h2.symm
            · rw [if_neg c2]
              refine Classical.byContradiction fun hne => ?_
              have := (mem_unl (a := a) (b := b) (k := m)).mpr ⟨hm, fun e => hne e.symm⟩
              rw [q] at this
              simp at this
              omega
  · rintro ⟨k, hk, rfl⟩
    have hne : pat a ((k : Int) + 1) ≠ pat a (k : Int) := fun e => by
      have p1 := pos_patR ha.nodup (k := (k : Int)) (by omega) (by omega)
      have p2 := pos_patR ha.nodup (k := (k : Int) + 1) (by omega) (by omega)
      rw [e, p1] at p2
      omega
    have ek := pat_ex2 hk (j := k) (by omega)
    rw [if_pos rfl] at ek
    have ek1 := pat_ex2 hk (j := k + 1) (by omega)
    rw [if_neg (by omega), if_pos rfl] at ek1
    have ek1 : pat (ex2 a k) ((k : Int) + 1) = pat a (k : Int) := ek1
    have q : unl a (ex2 a k) = [(k : Int), (k : Int) + 1] := by
      have hu := unl_up a (ex2 a k)
      refine List.Perm.eq_of_pairwise (le := (· ≤ ·)) (fun a b _ _ h1 h2 => Int.le_antisymm h1 h2) hu.1 (by simp; omega) ((List.perm_ext_iff_of_nodup hu.2 (by simp; omega)).mpr fun m => ?_)
      rw [mem_unl]
      constructor
      · rintro ⟨⟨m0, m1⟩, m2⟩
        have e := pat_ex2 hk (j := m.toNat) (by omega)
        rw [show ((m.toNat : Nat) : Int) = m by omega] at e
        by_cases c1 : m.toNat = k
        · simp; omega
        · by_cases c2 : m.toNat = k + 1
          · simp; omega
          · rw [if_neg c1, if_neg c2] at e
            exact absurd e.symm m2
      · intro hm
        simp at hm
        rcases hm with rfl | rfl
        · exact ⟨⟨by omega, by omega⟩, by rw [ek]; exact hne.symm⟩
        · exact ⟨⟨by omega, by omega⟩, by rw [ek1]; exact hne⟩
    unfold nextB
    rw [q]
    show (decide ((k : Int) + 1 = (k : Int) + 1) && (decide (pat a (k : Int) = pat (ex2 a k) ((k : Int) + 1)) && decide (pat a ((k : Int) + 1) = pat (ex2 a k) (k : Int)))) = true
    rw [ek, ek1]
    simp
theorem are_next_ok {n : Nat} {a b : List Int} (ha : Row n a) (hb : Row n b) (hn : n ≤ 1000) : n__law_are_next a b = some (nxtB a b) := by
  have hl : a.length = b.length := by rw [ha.len, hb.len]
  rw [← nextB_ok ha hb]
  unfold n__law_are_next
  simp only [bs, lenL_e, ri1_nat a.length (by rw [ha.len]; omega : a.length ≤ 1000000), neN_e]
  refine bnd (mapC_cap (fun k => !decide (pat a k = pat b k)) (by rw [iot_len, ha.len]; omega) fun k hk => ?_) ?_
  · rw [mem_iot] at hk
    rw [atL_pat hk.1 hk.2, atL_pat hk.1 (by omega)]; rfl
  · have hm : ∀ k ∈ unl a b, atL a k = some (pat a k) ∧ atL b k = some (pat b k) := fun k hk => by
      obtain ⟨⟨h0, h1⟩, _⟩ := mem_unl.mp hk
      exact ⟨atL_pat h0 h1, atL_pat h0 (by omega)⟩
    unfold nextB
    have hu : List.filter (fun k => !decide (pat a k = pat b k)) (iot a.length) = unl a b := rfl
    rw [hu]
    generalize unl a b = u at hm ⊢
    match u, hm with
    | [], _ =>
      have c : ¬ ((([] : List Int).length : Nat) : Int) = 2 := by decide
      rw [decide_eq_false c]; rfl
    | [i], _ =>
      have c : ¬ ((([i] : List Int).length : Nat) : Int) = 2 := by simp
      rw [decide_eq_false c]; rfl
    | i :: j :: k :: r, _ =>
      have c : ¬ ((((i :: j :: k :: r).length : Nat) : Int) = 2) := by simp; omega
      rw [decide_eq_false c]; rfl
    | [i, j], hm =>
      obtain ⟨a1, b1⟩ := hm i (by simp)
      obtain ⟨a2, b2⟩ := hm j (by simp)
      have c : ((([i, j] : List Int).length : Nat) : Int) = 2 := rfl
      have l0 : atL [i, j] 0 = some i := rfl
      have l1 : atL [i, j] 1 = some j := rfl
      rw [decide_eq_true c, if_neg (by simp), l0, l1]
      simp only [bs, addI_e, a1, a2, b1, b2, eqN_e]
      by_cases c1 : j = i + 1
      · subst c1
        simp only [decide_true, bnot_t, Bool.false_eq_true, if_false, Bool.true_and]
        congr 1
        rw [Bool.eq_iff_iff, Bool.and_eq_true, decide_eq_true_eq, decide_eq_true_eq, decide_eq_true_eq]
        simp
      · simp only [c1, decide_false, bnot_f, if_true, Bool.false_and]
end Lw

/-! part L8 -/
/-! ways judged -/
namespace Lw
open PySem Hb Nv L2 P
open Enc (enc)
def unrow (d : PyData) : List Int := (asIL d).getD []
theorem unrow_enc (r : List Int) : unrow (enc r) = r := by
  unfold unrow; rw [asIL_row]; rfl
def lnkB (rows : List (List Int)) : Bool := (rows.zip (rows.drop 1)).all fun ab => nxtB ab.1 ab.2
def wayL (p r s : List Int) (rows : List (List Int)) : Bool := decide (rows.length = inv (r.map (pos s)) + 1) && (decide (rows.head? = some r) && (decide (rows.getLast? = some s) && (rows.all (fallsB p) && lnkB rows)))
def wayB (n : Nat) (p r s : List Int) : PyData → Bool
  | .list ds => ds.all (rowB n) && wayL p r s (ds.map unrow)
  | _ => false
def Okv (v : PyData) : Prop := ∀ ds, v = .list ds → ds.length ≤ 100000 ∧ ∀ d ∈ ds, Sml d
theorem rows_of {n : Nat} : ∀ {ds : List PyData}, ds.all (rowB n) = true → ∃ rows : List (List Int), ds = rows.map enc ∧ ∀ z ∈ rows, Row n z
  | [], _ => ⟨[], rfl, by simp⟩
  | d :: ds, h => by
    rw [List.all_cons, Bool.and_eq_true] at h
    obtain ⟨ns, rfl, hn⟩ := rowB_iff.mp h.1
    obtain ⟨rows, rfl, hr⟩ := rows_of h.2
    refine ⟨ns :: rows, rfl, fun z hz => ?_⟩
    rcases List.mem_cons.mp hz with rfl | hz
    · exact hn
    · exact hr z hz
theorem all_rows {n : Nat} {rows : List (List Int)} (h : ∀ z ∈ rows, Row n z) : (rows.map (enc : List Int → PyData)).all (rowB n) = true := by
  rw [List.all_eq_true]
  intro d hd
  obtain ⟨z, hz, rfl⟩ := List.mem_map.mp hd
  exact rowB_row (h z hz)
theorem unrow_map (rows : List (List Int)) : (rows.map (enc : List Int → PyData)).map unrow = rows := by
  rw [List.map_map]
  have : ∀ x ∈ rows, (unrow ∘ (enc : List Int → PyData)) x = id x := fun x _ => unrow_enc x
  rw [List.map_congr_left this, List.map_id]
theorem neA_rows (a b : List Int) : neA (enc a) (enc b) = some (!decide (a = b)) := by
  unfold neA
  rw [eqD_enc (by decide) a b]; rfl
theorem atA_rows {rows : List (List Int)} {i : Int} {a : List Int} (h : atL rows i = some a) : atA (enc rows) i = some (enc a) := by
  show atI (rows.map enc) i = _
  have h : atI rows i = some a := h
  unfold atI at h ⊢
  rw [List.length_map]
  cases q : ixN rows.length i with
  | none => rw [q] at h; cases h
  | some j =>
    rw [q] at h
    show (rows.map enc)[j]? = _
    have h : rows[j]? = some a := h
    rw [List.getElem?_map, h]; rfl
theorem lnkB_iff {rows : List (List Int)} : lnkB rows = true ↔ ∀ (i : Nat) a b, rows[i]? = some a → rows[i + 1]? = some b → nxtB a b = true := by
  unfold lnkB
  rw [List.all_eq_true]
  constructor
  · intro h i a b ha hb
    refine h (a, b) ?_
    have : (rows.zip (rows.drop 1))[i]? = some (a, b) := by
      rw [List.getElem?_zip_eq_some]
      exact ⟨ha, by rw [List.getElem?_drop, Nat.add_comm]; exact hb⟩
    exact List.mem_of_getElem? this
  · intro h ⟨a, b⟩ hab
    obtain ⟨i, hi⟩ := List.mem_iff_getElem?.mp hab
    rw [List.getElem?_zip_eq_some] at hi
    obtain ⟨h1, h2⟩ := hi
    rw [List.getElem?_drop, Nat.add_comm] at h2
    exact h i a b h1 h2
theorem isi_rows (rows : List (List Int)) : isiN "list" (enc rows) = some true := rfl
theorem lenA_rows (rows : List (List Int)) : lenA (enc rows) = some (rows.length : Int) := by
  show some (((rows.map enc).length : Nat) : Int) = _
  rw [List.length_map]
theorem seqA_rows (rows : List (List Int)) : seqA (enc rows) = some (rows.map enc) := rfl
theorem asL_rows (rows : List (List Int)) : asL (enc rows) = some (rows.map enc) := rfl
theorem lenA_row (r : List Int) : lenA (enc r) = some (r.length : Int) := by
  show some (((r.map PyData.int).length : Nat) : Int) = _
  rw [List.length_map]
theorem cut1 {α : Type} (xs : List α) : cutL xs (some 1) none = xs.drop 1 := cut_from xs 1
theorem zip_rows {rows : List (List Int)} {x : PyData × PyData} (h : x ∈ (rows.map (enc : List Int → PyData)).zip ((rows.map (enc : List Int → PyData)).drop 1)) : ∃ a b, x = (enc a, enc b) ∧ a ∈ rows ∧ b ∈ rows := by
  obtain ⟨x, y⟩ := x
  have h1 := List.of_mem_zip h
  obtain ⟨a, ha, e⟩ := List.mem_map.mp h1.1
  obtain ⟨b, hb, e2⟩ := List.mem_map.mp (List.mem_of_mem_drop h1.2)
  exact ⟨a, b, by rw [e, e2], ha, hb⟩
theorem lnk_enc (rows : List (List Int)) : ((rows.map (enc : List Int → PyData)).zip ((rows.map (enc : List Int → PyData)).drop 1)).all (fun x => nxtB (unrow x.1) (unrow x.2)) = lnkB rows := by
  unfold lnkB
  rw [← List.map_drop, List.zip_map, List.all_map]
  congr 1
  funext ⟨a, b⟩
  show nxtB (unrow (enc a)) (unrow (enc b)) = _
  rw [unrow_enc, unrow_enc]
section
variable {n : Nat} {p r s : List Int} {rows : List (List Int)} (hp : Row n p) (hr : Row n r) (hs : Row n s) (h1 : 1 ≤ n) (hn : n ≤ 12)
include hp hr hs h1 hn
theorem way_rows (hf : Fal p r) (hg : Fal p s) (hw : ∀ z ∈ rows, Row n z) (hl : rows.length ≤ 100000) : n_is_way p r s (enc rows) = some (wayL p r s rows) := by
  obtain ⟨zs, e1, e2⟩ := pairs_ok hr hs (by omega)
  unfold n_is_way
  simp only [bs, both_ok hp hr hs h1 hn hf hg, isi_rows, bnot_t, Bool.false_eq_true, if_false, seqA_rows, lenL_e, hp.len]
  refine bnd (bnd (bnd (mapT_cap (rowB n) (by simpa using hl) fun d hd => ?_) rfl) rfl) ?_
  · obtain ⟨z, hz, rfl⟩ := List.mem_map.mp hd
    exact each_ok (by omega) (sml_row (hw z hz) (by omega))
  have a0 : ((rows.map (enc : List Int → PyData)).map (rowB n)).all id = true := by
    rw [List.all_map]
    exact all_rows hw
  rw [a0]
  simp only [bnot_t, Bool.false_eq_true, if_false, lenA_rows, bs, e1, e2, addI_e, negI_e, neN_e]
  unfold wayL
  by_cases c1 : rows.length = inv (r.map (pos s)) + 1
  · have c1' : (rows.length : Int) = (inv (r.map (pos s)) : Int) + 1 := by omega
    simp only [decide_eq_true c1, decide_eq_true c1', bnot_t, Bool.false_eq_true, if_false, Bool.true_and]
    obtain ⟨a, ha⟩ : ∃ a, rows.head? = some a := by
      cases rows with
      | nil => simp at c1
      | cons x q => exact ⟨x, rfl⟩
    obtain ⟨b, hb⟩ : ∃ b, rows.getLast? = some b := by
      cases q : rows.getLast? with
      | none => rw [List.getLast?_eq_none_iff] at q; rw [q] at c1; simp at c1
      | some b => exact ⟨b, rfl⟩
    have t0 : atL rows 0 = some a := atL_nat (k := 0) (by rw [← List.head?_eq_getElem?]; exact ha)
    have t1 : atL rows (-1) = some b := atL_last hb
    rw [atA_rows t0, atA_rows t1]
    simp only [bs, neA_rows, ha, hb, Option.some.injEq]
    by_cases c2 : a = r
    · by_cases c3 : b = s
      · simp only [c2, c3, decide_true, bnot_t, Bool.false_eq_true, if_false, Bool.true_and, bs]
        refine bnd (bnd (bnd (mapT_cap (fun d => fallsB p (unrow d)) (by simpa using hl) fun d hd => ?_) rfl) rfl) ?_
        · obtain ⟨z, hz, rfl⟩ := List.mem_map.mp hd
          simp only [asIL_row, bs, falls_ok hp (hw z hz) h1 (by omega), unrow_enc]
        have a2 : ((rows.map (enc : List Int → PyData)).map (fun d => fallsB p (unrow d))).all id = rows.all (fallsB p) := by
          rw [List.all_map, List.all_map]
          congr 1
          funext z
          show fallsB p (unrow (enc z)) = _
          rw [unrow_enc]
        rw [a2]
        by_cases c4 : rows.all (fallsB p) = true
        · simp only [c4, bnot_t, Bool.false_eq_true, if_false, Bool.true_and, asL_rows, bs, cut1]
          refine bnd (forF_all _ false (fun x => nxtB (unrow x.1) (unrow x.2)) _ fun x hx => ?_) ?_
          · obtain ⟨a, b, rfl, ha, hb⟩ := zip_rows hx
            have e3 : ((n : Int) - 1) = ((n - 1 : Nat) : Int) := by omega
            simp only [asIL_row, lenA_row, bs, subI_e, (hw a ha).len, e3, ri1_nat (n - 1) (by omega : n - 1 ≤ 1000000), ninL_e, unrow_enc]
            refine bnd (bnd (mapT_cap (fun k => ex2 a k.toNat) (by rw [iot_len]; omega) fun k hk => ?_) rfl) ?_
            · rw [mem_iot] at hk
              have := exchanged_ok (r := a) (k := k.toNat) (by rw [(hw a ha).len]; omega) (by rw [(hw a ha).len]; omega)
              rw [show ((k.toNat : Nat) : Int) = k by omega] at this
              rw [this]
            · have e4 : decide (b ∈ (iot (n - 1)).map fun k => ex2 a k.toNat) = nxtB a b := by
                unfold nxtB
                rw [(hw a ha).len]
              rw [← e4]
              by_cases c5 : b ∈ (iot (n - 1)).map fun k => ex2 a k.toNat
              · simp only [c5, decide_true, bnot_t, Bool.false_eq_true, if_false, if_true]
              · simp only [c5, decide_false, bnot_f, Bool.false_eq_true, if_false, if_true]
          · rw [lnk_enc]
            cases lnkB rows <;> rfl
        · have c4' : rows.all (fallsB p) = false := by simpa using c4
          simp only [c4', bnot_f, if_true, Bool.false_and]
      · simp only [c2, c3, decide_true, decide_false, bnot_t, bnot_f, Bool.false_eq_true, if_false, if_true, Bool.true_and, Bool.false_and, bs]
    · simp only [c2, decide_false, bnot_f, if_true, Bool.false_and, bs]
  · have c1' : ¬ (rows.length : Int) = (inv (r.map (pos s)) : Int) + 1 := by omega
    simp only [c1, c1', decide_false, bnot_f, if_true, Bool.false_and, bs]
theorem lway_rows (hw : ∀ z ∈ rows, Row n z) (hl : rows.length ≤ 100000) : n__law_is_way p r s (enc rows) = some (wayL p r s rows) := by
  unfold n__law_is_way
  simp only [bs, isi_rows, bnot_t, Bool.false_eq_true, if_false, seqA_rows, lenL_e, hp.len]
  refine bnd (bnd (mapC_cap (fun d => !rowB n d) (by simpa using hl) fun d hd => ?_) rfl) ?_
  · obtain ⟨z, hz, rfl⟩ := List.mem_map.mp hd
    simp only [is_row_ok (by omega : n ≤ 1000) (sml_row (hw z hz) (by omega : n ≤ 1000)), bs]
  have a0 : (List.filter (fun d => !rowB n d) (rows.map (enc : List Int → PyData))).isEmpty = true := by
    have h := all_rows hw
    rw [List.all_eq_true] at h
    rw [List.isEmpty_iff, List.filter_eq_nil_iff]
    intro d hd
    rw [h d hd]
    simp
  have e0 : (true != List.isEmpty (List.filter (fun d => !rowB n d) (rows.map (enc : List Int → PyData)))) = false := by rw [a0]; rfl
  simp only [e0, Bool.false_eq_true, if_false, lenA_rows, bs, turned_ok hr hs (by omega : n ≤ 900), addI_e, negI_e, neN_e]
  unfold wayL
  by_cases c1 : rows.length = inv (r.map (pos s)) + 1
  · have c1' : (rows.length : Int) = (inv (r.map (pos s)) : Int) + 1 := by omega
    simp only [decide_eq_true c1, decide_eq_true c1', bnot_t, Bool.false_eq_true, if_false, Bool.true_and]
    obtain ⟨a, ha⟩ : ∃ a, rows.head? = some a := by
      cases rows with
      | nil => simp at c1
      | cons x q => exact ⟨x, rfl⟩
    obtain ⟨b, hb⟩ : ∃ b, rows.getLast? = some b := by
      cases q : rows.getLast? with
      | none => rw [List.getLast?_eq_none_iff] at q; rw [q] at c1; simp at c1
      | some b => exact ⟨b, rfl⟩
    have t0 : atL rows 0 = some a := atL_nat (k := 0) (by rw [← List.head?_eq_getElem?]; exact ha)
    have t1 : atL rows (-1) = some b := atL_last hb
    rw [atA_rows t0, atA_rows t1]
    simp only [bs, neA_rows, ha, hb, Option.some.injEq]
    by_cases c2 : a = r
    · by_cases c3 : b = s
      · simp only [c2, c3, decide_true, bnot_t, Bool.false_eq_true, if_false, Bool.true_and, bs]
        refine bnd (bnd (mapC_cap (fun d => !fallsB p (unrow d)) (by simpa using hl) fun d hd => ?_) rfl) ?_
        · obtain ⟨z, hz, rfl⟩ := List.mem_map.mp hd
          simp only [asIL_row, bs, lfalls_ok hp (hw z hz) h1 (by omega : n ≤ 900), unrow_enc]
        by_cases c4 : rows.all (fallsB p) = true
        · have a2 : (true != List.isEmpty (List.filter (fun d => !fallsB p (unrow d)) (rows.map (enc : List Int → PyData)))) = false := by
            have : List.filter (fun d => !fallsB p (unrow d)) (rows.map (enc : List Int → PyData)) = [] := by
              rw [List.filter_eq_nil_iff]
              intro d hd
              obtain ⟨z, hz, rfl⟩ := List.mem_map.mp hd
              rw [unrow_enc, (List.all_eq_true.mp c4) z hz]
              simp
            rw [this]; rfl
          have hi : ri2 1 (rows.length : Int) = some ((iot rows.length).drop 1) := ri2_nat 1 rows.length (by omega) (by omega)
          have hm : ∀ k ∈ (iot rows.length).drop 1, ∃ (i : Nat) (a b : List Int), k = (i : Int) + 1 ∧ rows[i]? = some a ∧ rows[i + 1]? = some b := fun k hk => by
            rw [iot_drop] at hk
            unfold rgI at hk
            obtain ⟨i, hi, rfl⟩ := List.mem_map.mp hk
            rw [List.mem_range] at hi
            exact ⟨i, rows[i], rows[i + 1], by omega, List.getElem?_eq_getElem (by omega), List.getElem?_eq_getElem (by omega)⟩
          simp only [a2, Bool.false_eq_true, if_false, hi, c4, Bool.true_and, bs]
          refine bnd (bnd (mapC_cap (fun k => !nxtB (unrow ((atA (enc rows) (k - 1)).getD .none)) (unrow ((atA (enc rows) k).getD .none))) (by rw [List.length_drop, iot_len]; omega) fun k hk => ?_) rfl) ?_
          · obtain ⟨i, a, b, rfl, ha, hb⟩ := hm k hk
            have f1 : atA (enc rows) ((i : Int) + 1 - 1) = some (enc a) := by
              rw [show (i : Int) + 1 - 1 = (i : Int) by omega]
              exact atA_rows (atL_nat ha)
            have f2 : atA (enc rows) ((i : Int) + 1) = some (enc b) := atA_rows (atL_nat (k := i + 1) hb)
            have na := hw a (List.mem_of_getElem? ha)
            have nb := hw b (List.mem_of_getElem? hb)
            simp only [subI_e, bs, f1, f2, asIL_row, are_next_ok na nb (by omega : n ≤ 1000), Option.getD_some, unrow_enc]
          · refine congrArg some ?_
            rw [Bool.eq_iff_iff, lnkB_iff]
            have ee : ∀ b : Bool, (false != b) = true ↔ b = true := fun b => by cases b <;> simp
            rw [ee, List.isEmpty_iff, List.filter_eq_nil_iff]
            constructor
            · intro h i a b ha hb
              have hi2 : i + 1 < rows.length := (List.getElem?_eq_some_iff.mp hb).1
              have := h ((i : Int) + 1) (by
                rw [iot_drop]
                unfold rgI
                exact List.mem_map.mpr ⟨i, List.mem_range.mpr (by omega), by omega⟩)
              have f1 : atA (enc rows) ((i : Int) + 1 - 1) = some (enc a) := by
                rw [show (i : Int) + 1 - 1 = (i : Int) by omega]
                exact atA_rows (atL_nat ha)
              have f2 : atA (enc rows) ((i : Int) + 1) = some (enc b) := atA_rows (atL_nat (k := i + 1) hb)
              rw [f1, f2, Option.getD_some, Option.getD_some, unrow_enc, unrow_enc] at this
              simpa using this
            · intro h k hk
              obtain ⟨i, a, b, rfl, ha, hb⟩ := hm k hk
              have f1 : atA (enc rows) ((i : Int) + 1 - 1) = some (enc a) := by
                rw [show (i : Int) + 1 - 1 = (i : Int) by omega]
                exact atA_rows (atL_nat ha)
              have f2 : atA (enc rows) ((i : Int) + 1) = some (enc b) := atA_rows (atL_nat (k := i + 1) hb)
              rw [f1, f2, Option.getD_some, Option.getD_some, unrow_enc, unrow_enc, h i a b ha hb]
              simp
        · have c4' : rows.all (fallsB p) = false := by simpa using c4
          have a2 : (true != List.isEmpty (List.filter (fun d => !fallsB p (unrow d)) (rows.map (enc : List Int → PyData)))) = true := by
            obtain ⟨z, hz, hq⟩ := List.all_eq_false.mp c4'
            have : (enc z : PyData) ∈ List.filter (fun d => !fallsB p (unrow d)) (rows.map (enc : List Int → PyData)) := by
              refine List.mem_filter.mpr ⟨List.mem_map_of_mem hz, ?_⟩
              rw [unrow_enc]
              simpa using hq
            cases q : List.filter (fun d => !fallsB p (unrow d)) (rows.map (enc : List Int → PyData)) with
            | nil => rw [q] at this; cases this
            | cons _ _ => rfl
          simp only [a2, c4', if_true, Bool.false_and, bs]
      · simp only [c2, c3, decide_true, decide_false, bnot_t, bnot_f, Bool.false_eq_true, if_false, if_true, Bool.true_and, Bool.false_and, bs]
    · simp only [c2, decide_false, bnot_f, if_true, Bool.false_and, bs]
  · have c1' : ¬ (rows.length : Int) = (inv (r.map (pos s)) : Int) + 1 := by omega
    simp only [c1, c1', decide_false, bnot_f, if_true, Bool.false_and, bs]
theorem way_ok (hf : Fal p r) (hg : Fal p s) {v : PyData} (hv : Okv v) : n_is_way p r s v = some (wayB n p r s v) := by
  by_cases hl : ∃ ds, v = .list ds
  · obtain ⟨ds, rfl⟩ := hl
    obtain ⟨v1, v2⟩ := hv ds rfl
    by_cases ha : ds.all (rowB n) = true
    · obtain ⟨rows, rfl, hw⟩ := rows_of ha
      have e := way_rows hp hr hs h1 hn hf hg hw (by simpa using v1)
      have e2 : wayB n p r s (.list (rows.map enc)) = wayL p r s rows := by
        show ((rows.map (enc : List Int → PyData)).all (rowB n) && wayL p r s ((rows.map (enc : List Int → PyData)).map unrow)) = _
        rw [ha, unrow_map]; rfl
      rw [e2]; exact e
    · have ha' : ds.all (rowB n) = false := by simpa using ha
      have e2 : wayB n p r s (.list ds) = false := by
        show (ds.all (rowB n) && _) = false
        rw [ha']; rfl
      rw [e2]
      unfold n_is_way
      simp only [bs, both_ok hp hr hs h1 hn hf hg, isi_l, bnot_t, Bool.false_eq_true, if_false, seqA_l, lenL_e, hp.len]
      refine bnd (bnd (bnd (mapT_cap (rowB n) v1 fun d hd => each_ok (by omega) (v2 d hd)) rfl) rfl) ?_
      have a0 : (ds.map (rowB n)).all id = false := by
        rw [List.all_map]
        exact ha'
      rw [a0]; rfl
  · have hn2 : ∀ ds, v ≠ .list ds := fun ds e => hl ⟨ds, e⟩
    have e2 : wayB n p r s v = false := by
      cases v with
      | list ds => exact absurd rfl (hn2 ds)
      | _ => rfl
    rw [e2]
    unfold n_is_way
    simp only [bs, both_ok hp hr hs h1 hn hf hg, isi_nl hn2, bnot_f, if_true]
theorem lway_ok {v : PyData} (hv : Okv v) : n__law_is_way p r s v = some (wayB n p r s v) := by
  by_cases hl : ∃ ds, v = .list ds
  · obtain ⟨ds, rfl⟩ := hl
    obtain ⟨v1, v2⟩ := hv ds rfl
    by_cases ha : ds.all (rowB n) = true
    · obtain ⟨rows, rfl, hw⟩ := rows_of ha
      have e := lway_rows hp hr hs h1 hn hw (by simpa using v1)
      have e2 : wayB n p r s (.list (rows.map enc)) = wayL p r s rows := by
        show ((rows.map (enc : List Int → PyData)).all (rowB n) && wayL p r s ((rows.map (enc : List Int → PyData)).map unrow)) = _
        rw [ha, unrow_map]; rfl
      rw [e2]; exact e
    · have ha' : ds.all (rowB n) = false := by simpa using ha
      have e2 : wayB n p r s (.list ds) = false := by
        show (ds.all (rowB n) && _) = false
        rw [ha']; rfl
      rw [e2]
      unfold n__law_is_way
      simp only [bs, isi_l, bnot_t, Bool.false_eq_true, if_false, seqA_l, lenL_e, hp.len]
      refine bnd (bnd (mapC_cap (fun d => !rowB n d) v1 fun d hd => ?_) rfl) ?_
      · simp only [is_row_ok (by omega : n ≤ 1000) (v2 d hd), bs]
      have a0 : (true != List.isEmpty (List.filter (fun d => !rowB n d) ds)) = true := by
        obtain ⟨z, hz, hq⟩ := List.all_eq_false.mp ha'
        have : z ∈ List.filter (fun d => !rowB n d) ds := List.mem_filter.mpr ⟨hz, by simpa using hq⟩
        cases q : List.filter (fun d => !rowB n d) ds with
        | nil => rw [q] at this; cases this
        | cons _ _ => rfl
      rw [a0]; rfl
  · have hn2 : ∀ ds, v ≠ .list ds := fun ds e => hl ⟨ds, e⟩
    have e2 : wayB n p r s v = false := by
      cases v with
      | list ds => exact absurd rfl (hn2 ds)
      | _ => rfl
    rw [e2]
    unfold n__law_is_way
    simp only [bs, isi_nl hn2, bnot_f, if_true]
end
end Lw

/-! part L9 -/
/-! what may be shown -/
namespace Lw
open PySem Hb Nv L2 P
open Enc (enc)
structure Vd (D W : Nat) (d : PyData) : Prop where
  hs : shw d = true
  hl : d.leavesShort 13 = true
  hd : d.depth ≤ D
  hw : d.weight ≤ W
structure Va (D W : Nat) (xs : List PyData) : Prop where
  s : shwAll xs = true
  l : PyData.leavesShortAll 13 xs = true
  d : PyData.depthAll xs ≤ D
  w : PyData.weightAll xs ≤ W
theorem Vd.mono {D W D' W' : Nat} {d : PyData} (h : Vd D W d) (h1 : D ≤ D') (h2 : W ≤ W') : Vd D' W' d := ⟨h.hs, h.hl, Nat.le_trans h.hd h1, Nat.le_trans h.hw h2⟩
theorem Va.mono {D W D' W' : Nat} {d : List PyData} (h : Va D W d) (h1 : D ≤ D') (h2 : W ≤ W') : Va D' W' d := ⟨h.s, h.l, Nat.le_trans h.d h1, Nat.le_trans h.w h2⟩
theorem Va.nil : Va 0 0 [] := ⟨by simp [shwAll], by simp [PyData.leavesShortAll], by simp [PyData.depthAll], by simp [PyData.weightAll]⟩
theorem Va.cons {D W W' : Nat} {x : PyData} {xs : List PyData} (h : Vd D W x) (h' : Va D W' xs) : Va D (W + 1 + W') (x :: xs) := by
  have a1 := h.hd
  have a2 := h.hw
  have a3 := h'.d
  have a4 := h'.w
  exact ⟨by simp [shwAll, h.hs, h'.s], by simp [PyData.leavesShortAll, h.hl, h'.l], by simp only [PyData.depthAll]; omega, by simp only [PyData.weightAll]; omega⟩
theorem va_all {D W : Nat} : ∀ {xs : List PyData}, (∀ x ∈ xs, Vd D W x) → Va D (xs.length * (W + 1)) xs
  | [], _ => ⟨by simp [shwAll], by simp [PyData.leavesShortAll], by simp [PyData.depthAll], by simp [PyData.weightAll]⟩
  | x :: r, h => by
    have ih := va_all (xs := r) fun y hy => h y (List.mem_cons_of_mem _ hy)
    have := Va.cons (h x List.mem_cons_self) ih
    refine this.mono (Nat.le_refl _) ?_
    rw [List.length_cons, Nat.add_mul, Nat.one_mul]
    omega
theorem va_of {D W L : Nat} {xs : List PyData} (h : ∀ x ∈ xs, Vd D W x) (hl : xs.length ≤ L) : Va D (L * (W + 1)) xs := (va_all h).mono (Nat.le_refl _) (Nat.mul_le_mul_right _ hl)
theorem shw_app : ∀ xs ys : List PyData, shwAll (xs ++ ys) = (shwAll xs && shwAll ys)
  | [], ys => by simp [shwAll]
  | x :: r, ys => by simp [shwAll, shw_app r ys, Bool.and_assoc]
theorem lsh_app : ∀ xs ys : List PyData, PyData.leavesShortAll 13 (xs ++ ys) = (PyData.leavesShortAll 13 xs && PyData.leavesShortAll 13 ys)
  | [], ys => by simp [PyData.leavesShortAll]
  | x :: r, ys => by simp [PyData.leavesShortAll, lsh_app r ys, Bool.and_assoc]
theorem dep_app : ∀ xs ys : List PyData, PyData.depthAll (xs ++ ys) = max (PyData.depthAll xs) (PyData.depthAll ys)
  | [], ys => by simp [PyData.depthAll]
  | x :: r, ys => by simp [PyData.depthAll, dep_app r ys, Nat.max_assoc]
theorem wei_app : ∀ xs ys : List PyData, PyData.weightAll (xs ++ ys) = PyData.weightAll xs + PyData.weightAll ys
  | [], ys => by simp [PyData.weightAll]
  | x :: r, ys => by simp [PyData.weightAll, wei_app r ys, Nat.add_assoc]
theorem Va.app {D W W' : Nat} {xs ys : List PyData} (h : Va D W xs) (h' : Va D W' ys) : Va D (W + W') (xs ++ ys) := by
  refine ⟨by rw [shw_app, h.s, h'.s]; rfl, by rw [lsh_app, h.l, h'.l]; rfl, ?_, ?_⟩
  · rw [dep_app]
    have h1 := h.d
    have h2 := h'.d
    omega
  · rw [wei_app]
    exact Nat.add_le_add h.w h'.w
theorem Va.list {D W : Nat} {xs : List PyData} (h : Va D W xs) : Vd (D + 1) W (.list xs) := by
  obtain ⟨h1, h2, h3, h4⟩ := h
  exact ⟨by simpa [shw] using h1, by simpa [PyData.leavesShort] using h2, by simp only [PyData.depth]; omega, by simpa only [PyData.weight] using h4⟩
theorem Va.tup {D W : Nat} {xs : List PyData} (h : Va D W xs) : Vd (D + 1) W (.tuple xs) := by
  obtain ⟨h1, h2, h3, h4⟩ := h
  exact ⟨by simpa [shw] using h1, by simpa [PyData.leavesShort] using h2, by simp only [PyData.depth]; omega, by simpa only [PyData.weight] using h4⟩
theorem vd_repr {D W : Nat} {d : PyData} (h : Vd D W d) (hD : D ≤ 60) (hW : W ≤ 2 ^ 20) : reprN d = some d.shown := by
  have h2 := h.hw
  have h3 := h.hd
  have h4 : d.shown.length ≤ sizeLine := PyData.shown_fits (by decide) (by decide) h.hl (Nat.le_trans h2 hW)
  unfold reprN
  rw [if_pos ⟨⟨h.hs, by omega⟩, h4⟩]
theorem vd_none : Vd 0 0 .none := ⟨by simp [shw], by simp [PyData.leavesShort], by simp [PyData.depth], by simp [PyData.weight]⟩
theorem vd_bool (b : Bool) : Vd 0 0 (.bool b) := ⟨by simp [shw], by simp [PyData.leavesShort], by simp [PyData.depth], by simp [PyData.weight]⟩
theorem vd_int {i : Int} (h0 : 0 ≤ i) (h1 : i < 16) : Vd 0 4 (.int i) := by
  have h2 : (PyData.shown (.int i)).length ≤ 13 := PyData.shown_int_le (by omega)
  have hl : i.natAbs.log2 ≤ 3 := by
    have : i.natAbs < 16 := by omega
    generalize i.natAbs = k at this
    revert this
    revert k
    decide
  refine ⟨by simp [shw]; omega, by simp [PyData.leavesShort]; omega, by simp [PyData.depth], ?_⟩
  simp only [PyData.weight]
  split <;> omega
theorem vd_empty : Vd 0 0 (.str "") := ⟨by simp [shw], by decide, by simp [PyData.depth], by decide⟩
theorem vd_dict : Vd 1 0 (.dict []) := ⟨by simp [shw], by simp [PyData.leavesShort, PyData.leavesShortKv], by simp [PyData.depth, PyData.depthKv], by simp [PyData.weight, PyData.weightKv]⟩
theorem vd_str {x : Int} (h0 : 0 ≤ x) (h1 : x < 13) : Vd 0 4 (.str (toString x)) := by
  have h : x = 0 ∨ x = 1 ∨ x = 2 ∨ x = 3 ∨ x = 4 ∨ x = 5 ∨ x = 6 ∨ x = 7 ∨ x = 8 ∨ x = 9 ∨ x = 10 ∨ x = 11 ∨ x = 12 := by omega
  rcases h with rfl | rfl | rfl | rfl | rfl | rfl | rfl | rfl | rfl | rfl | rfl | rfl | rfl <;> exact ⟨by simp [shw], by decide, by simp [PyData.depth], by decide⟩
/-- a list of numbers below 12 -/
def Lo (ns : List Int) : Prop := ns.length ≤ 13 ∧ ∀ i ∈ ns, 0 ≤ i ∧ i < 13
theorem Lo.va {ns : List Int} (h : Lo ns) : Va 0 65 (ns.map PyData.int) := va_of (L := 13) (W := 4) (fun d hd => by
  obtain ⟨i, hi, rfl⟩ := List.mem_map.mp hd
  have := h.2 i hi
  exact vd_int this.1 (by omega)) (by simpa using h.1)
theorem Lo.vd {ns : List Int} (h : Lo ns) : Vd 1 65 (enc ns) := h.va.list
theorem Lo.vdt {ns : List Int} (h : Lo ns) : Vd 1 65 (enc (Tp.mk ns)) := h.va.tup
theorem Lo.sml {ns : List Int} (h : Lo ns) : Sml (enc ns) := sml_ints (by have := h.1; omega)
theorem row_lo {n : Nat} {r : List Int} (h : Row n r) (hn : n ≤ 12) : Lo r := ⟨by rw [h.len]; omega, fun i hi => by have := h.mem.mp hi; omega⟩
theorem sml_not {d : PyData} (h : ∀ ds, d ≠ .list ds) : Sml d := fun ds e => absurd e (h ds)
theorem okv_not {d : PyData} (h : ∀ ds, d ≠ .list ds) : Okv d := fun ds e => absurd e (h ds)
/-- an item of a value that is like a way -/
def Itm (d : PyData) : Prop := Vd 2 66 d ∧ Sml d
theorem Lo.itm {ns : List Int} (h : Lo ns) : Itm (enc ns) := ⟨h.vd.mono (by omega) (by omega), h.sml⟩
theorem itm_list {ds : List PyData} {L : Nat} (hl : ds.length ≤ L) (hL : L ≤ 1000) (h : ∀ d ∈ ds, Itm d) : Okv (.list ds) ∧ Vd 3 (L * 67) (.list ds) := by
  refine ⟨fun es e => by cases e; exact ⟨by omega, fun d hd => (h d hd).2⟩, ?_⟩
  exact (va_of (L := L) (W := 66) (fun d hd => (h d hd).1) hl).list
theorem enc_pd (xs : List PyData) : (enc xs : PyData) = .list xs := by
  show PyData.list (xs.map fun d => d) = _
  rw [List.map_id']
theorem enc_ll (xs : List (List Int)) : (enc xs : PyData) = .list (xs.map enc) := rfl
theorem inv_le2 : ∀ z : List Int, 2 * inv z + z.length ≤ z.length * z.length
  | [] => Nat.le_refl _
  | x :: r => by
    have := inv_le2 r
    have h2 : r.countP (fun y => decide (y < x)) ≤ r.length := List.countP_le_length
    show 2 * (_ + _) + (r.length + 1) ≤ (r.length + 1) * (r.length + 1)
    have e : (r.length + 1) * (r.length + 1) = r.length * r.length + r.length + (r.length + 1) := by rw [Nat.succ_mul, Nat.mul_succ]
    omega
theorem inv_66 {n : Nat} {r s : List Int} (hr : Row n r) (h1 : 1 ≤ n) (hn : n ≤ 12) : inv (r.map (pos s)) ≤ 66 := by
  have h := inv_le2 (r.map (pos s))
  rw [List.length_map, hr.len] at h
  have h2 : n * n ≤ n * 12 := Nat.mul_le_mul_left n hn
  omega
theorem cut_m1 {α : Type} (xs : List α) : (cutL xs (some (-1)) none).length ≤ 1 := by
  unfold cutL HT.sIx
  simp only [List.length_take, List.length_drop, show (-1 : Int) < 0 by omega, if_true]
  omega
end Lw

/-! part L10 -/
/-! ways bent -/
namespace Lw
open PySem Hb Nv L2 P
open Enc (enc)
/-- a value to be judged -/
def Val (W : Nat) (d : PyData) : Prop := Okv d ∧ Vd 4 W d
theorem Val.mono {W W' : Nat} {d : PyData} (h : Val W d) (hw : W ≤ W') : Val W' d := ⟨h.1, h.2.mono (Nat.le_refl _) hw⟩
theorem val_rows {n : Nat} {f : List (List Int)} {L : Nat} (h : ∀ z ∈ f, Row n z) (hn : n ≤ 12) (hl : f.length ≤ L) (hL : L ≤ 1000) : Val (L * 67) (enc f) := by
  have := itm_list (ds := f.map enc) (L := L) (by simpa using hl) hL fun d hd => by
    obtain ⟨z, hz, rfl⟩ := List.mem_map.mp hd
    exact (row_lo (h z hz) hn).itm
  exact ⟨this.1, this.2.mono (by omega) (Nat.le_refl _)⟩
theorem val_lo {f : List (List Int)} {L : Nat} (h : ∀ z ∈ f, Lo z) (hl : f.length ≤ L) (hL : L ≤ 1000) : Val (L * 67) (enc f) := by
  have := itm_list (ds := f.map enc) (L := L) (by simpa using hl) hL fun d hd => by
    obtain ⟨z, hz, rfl⟩ := List.mem_map.mp hd
    exact (h z hz).itm
  exact ⟨this.1, this.2.mono (by omega) (Nat.le_refl _)⟩
theorem val_mid {n : Nat} {f : List (List Int)} (h : ∀ z ∈ f, Row n z) (hn : n ≤ 12) (hl : f.length ≤ 67) (k : Nat) {d : PyData} (hd : Itm d) : Val 4623 (.list ((f.take k).map enc ++ [d] ++ (f.drop (k + 1)).map enc)) := by
  have lo : ∀ z ∈ f, Itm (enc z) := fun z hz => (row_lo (h z hz) hn).itm
  have := itm_list (ds := (f.take k).map enc ++ [d] ++ (f.drop (k + 1)).map enc) (L := 69) (by simp; omega) (by omega) fun x hx => by
    rcases List.mem_append.mp hx with hx | hx
    · rcases List.mem_append.mp hx with hx | hx
      · obtain ⟨z, hz, rfl⟩ := List.mem_map.mp hx
        exact lo z (List.mem_of_mem_take hz)
      · rw [List.mem_singleton.mp hx]; exact hd
    · obtain ⟨z, hz, rfl⟩ := List.mem_map.mp hx
      exact lo z (List.mem_of_mem_drop hz)
  exact ⟨this.1, this.2.mono (by omega) (by omega)⟩
theorem strI_ok {x : Int} (h0 : 0 ≤ x) (h1 : x < 13) : strI x = some ((toString x : String) : Str) := by
  unfold strI
  rw [if_pos]
  have : x.natAbs < 13 := by omega
  generalize x.natAbs = k at this
  have : ∀ k, k < 13 → k.log2 < 1920 := by decide
  exact this k (by assumption)
def bsm (x : Int) : PyData := if x < 2 then .bool (decide (x = 1)) else .int x
theorem lo_mem_set {ns : List Int} (h : Lo ns) {k : Nat} {x : Int} (hx : 0 ≤ x ∧ x < 13) : Lo (ns.set k x) := ⟨by simpa using h.1, fun i hi => by
  rcases List.mem_or_eq_of_mem_set hi with hi | rfl
  · exact h.2 i hi
  · exact hx⟩
theorem bent_ok {t : List Int} (ht : Tap t) {n : Nat} {p : List Int} {f : List (List Int)} (hp : Row n p) (h1 : 1 ≤ n) (hn : n ≤ 12) (h : ∀ z ∈ f, Row n z) (hl0 : 0 < f.length) (hl : f.length ≤ 67) : Wp (n__law_bent t p f) fun z => Tap z.2 ∧ z.1.length = 21 ∧ ∀ v ∈ z.1, Val 4700 v := by
  obtain ⟨⟨at_, T1⟩, e1, hT1, a0, a1⟩ := draw_ok ht (n := (f.length : Int)) (by omega) (by omega)
  obtain ⟨k, rfl⟩ : ∃ k : Nat, at_ = (k : Int) := ⟨at_.toNat, by have : 0 ≤ at_ := a0; omega⟩
  have hk : k < f.length := by have : (k : Int) < f.length := a1; omega
  obtain ⟨⟨sp, T2⟩, e2, hT2, b0, b1⟩ := draw_ok hT1 (n := (n : Int)) (by omega) (by omega)
  obtain ⟨⟨to, T3⟩, e3, hT3, c0, c1⟩ := draw_ok hT2 (n := (n : Int)) (by omega) (by omega)
  have b0 : 0 ≤ sp := b0
  have b1 : sp < n := b1
  have c0 : 0 ≤ to := c0
  have c1 : to < n := c1
  obtain ⟨r, hr, hm⟩ : ∃ r, f[k]? = some r ∧ r ∈ f := ⟨f[k], List.getElem?_eq_getElem hk, List.getElem_mem hk⟩
  have rr := h r hm
  have rl := rr.len
  have lo := row_lo rr hn
  have e4 := atL_nat hr
  have e5 := atL_pat (r := r) (k := to) c0 (by omega)
  have e6 := atL_pat (r := r) (k := sp) b0 (by omega)
  have m5 := lo.2 _ (pat_mem (r := r) (k := to) c0 (by omega))
  have m6 := lo.2 _ (pat_mem (r := r) (k := sp) b0 (by omega))
  have e7 := stI_int (xs := r) (i := sp) (pat r to) b0 (by omega)
  have e8 := stI_int (xs := r.set sp.toNat (pat r to)) (i := to) (pat r sp) c0 (by simp; omega)
  have lo2 := lo_mem_set (k := to.toNat) (lo_mem_set (k := sp.toNat) lo m5) m6
  have w0 := cut_to f k
  have w1 : cutL f (some ((k : Int) + 1)) none = f.drop (k + 1) := cut_from f (k + 1)
  have w2 := cut_from f k
  have w3 := cut1 r
  have w4 : cutL f none (some 1) = f.take 1 := cut_to f 1
  obtain ⟨lst, w5⟩ : ∃ l, cutL f (some (-1)) none = l := ⟨_, rfl⟩
  have w6 : lst.length ≤ 1 := w5 ▸ cut_m1 f
  have w7 : ∀ z ∈ lst, z ∈ f := fun z hz => cut_mem (w5 ▸ hz)
  have s1 : (if List.length r ≤ cap then mapF r (fun _ => some true) (fun x => strI x) else none) = some (r.map fun x => ((toString x : String) : Str)) := mapT_cap _ (by omega) fun x hx => strI_ok (lo.2 x hx).1 (lo.2 x hx).2
  have s2 : (if List.length r ≤ cap then mapF r (fun _ => some true) (fun x178 => if decide (x178 < 2) = true then some (enc (decide (x178 = 1)) : PyData) else some (enc x178 : PyData)) else none) = some (r.map bsm) := mapT_cap _ (by omega) fun x hx => by
    unfold bsm
    by_cases c : x < 2
    · rw [if_pos (decide_eq_true c), if_pos c]; rfl
    · rw [if_neg (by rw [decide_eq_true_eq]; exact c), if_neg c]; rfl
  unfold n__law_bent
  simp (disch := first | omega | (simp only [List.length_append, List.length_take, List.length_drop, List.length_cons, List.length_nil, List.length_map, List.length_reverse]; omega)) only [bs, lenL_e, e1, e2, e3, e4, e5, e6, e7, e8, hp.len, listL_e, w0, w1, w2, w3, addI_e, negI_e, catL_ok, revL_e, tupL_e, s1, s2, ltI_e, eqN_e, w4, w5]
  have hrow : ∀ {l : List (List Int)}, (∀ z ∈ l, z ∈ f) → l.length ≤ 67 → Val 4700 (enc l) := fun hl hL => (val_rows (fun z hz => h z (hl z hz)) hn hL (by omega)).mono (by omega)
  have it5 : ∀ d ∈ ([enc (), enc (Tp.mk r), enc (r.drop 1), enc (r ++ [(0 : Int)]), enc (r.map fun x => ((toString x : String) : Str)), enc (0 : Int), enc ("" : Str), enc [r], enc r.reverse] : List PyData), Itm d := by
    intro d hd
    simp only [List.mem_cons, List.not_mem_nil, or_false] at hd
    rcases hd with rfl | rfl | rfl | rfl | rfl | rfl | rfl | rfl | rfl
    · exact ⟨vd_none.mono (by omega) (by omega), sml_not fun ds e => by cases e⟩
    · exact ⟨lo.vdt.mono (by omega) (by omega), sml_not fun ds e => by cases e⟩
    · exact Lo.itm ⟨by simp; omega, fun i hi => lo.2 i (List.mem_of_mem_drop hi)⟩
    · refine Lo.itm ⟨by simp; omega, fun i hi => ?_⟩
      rcases List.mem_append.mp hi with hi | hi
      · exact lo.2 i hi
      · rw [List.mem_singleton.mp hi]; omega
    · have hs : ∀ d ∈ (r.map fun x => ((toString x : String) : Str)).map (fun x => PyData.str x), Vd 0 4 d := fun d hd => by
        obtain ⟨s, hs, rfl⟩ := List.mem_map.mp hd
        obtain ⟨x, hx, rfl⟩ := List.mem_map.mp hs
        exact vd_str (lo.2 x hx).1 (lo.2 x hx).2
      refine ⟨(va_of (L := 12) hs (by simp; omega)).list.mono (by omega) (by omega), fun ds e => ?_⟩
      have e : (r.map fun x => ((toString x : String) : Str)).map (fun x => PyData.str x) = ds := PyData.list.inj e
      rw [← e]; simp; omega
    · exact ⟨(vd_int (by omega) (by omega)).mono (by omega) (by omega), sml_not fun ds e => by cases e⟩
    · exact ⟨vd_empty.mono (by omega) (by omega), sml_not fun ds e => by cases e⟩
    · refine ⟨?_, fun ds e => ?_⟩
      · exact (va_of (L := 1) (D := 1) (W := 65) (xs := [enc r]) (fun x hx => by rw [List.mem_singleton.mp hx]; exact lo.vd) (by simp)).list
      · have e : [enc r] = ds := PyData.list.inj e
        rw [← e]; simp
    · exact Lo.itm ⟨by simp; omega, fun i hi => lo.2 i (List.mem_reverse.mp hi)⟩
  have mid : ∀ d, Itm d → Val 4700 (enc ((f.take k).map enc ++ [d] ++ (f.drop (k + 1)).map enc : List PyData)) := fun d hd => by
    rw [enc_pd]
    exact (val_mid h hn hl k hd).mono (by omega)
  refine Wp.for (fun i s => s.length = 5 + i ∧ ∀ v ∈ s, Val 4700 v) ⟨by simp, ?_⟩ ?_ ?_
  · intro v hv
    simp only [List.map_cons, List.map_nil, List.cons_append, List.nil_append, List.mem_cons, List.not_mem_nil, or_false] at hv
    rcases hv with rfl | rfl | rfl | rfl | rfl
    · exact hrow (fun z hz => by
        rcases List.mem_append.mp hz with hz | hz
        · exact List.mem_of_mem_take hz
        · exact List.mem_of_mem_drop hz) (by simp; omega)
    · exact (val_rows (f := f.take k ++ [r] ++ f.drop k) (L := 68) (fun z hz => by
        rcases List.mem_append.mp hz with hz | hz
        · rcases List.mem_append.mp hz with hz | hz
          · exact h z (List.mem_of_mem_take hz)
          · rw [List.mem_singleton.mp hz]; exact rr
        · exact h z (List.mem_of_mem_drop hz)) hn (by simp; omega) (by omega)).mono (by omega)
    · exact (val_lo (f := f.take k ++ [(r.set sp.toNat (pat r to)).set to.toNat (pat r sp)] ++ f.drop (k + 1)) (L := 69) (fun z hz => by
        rcases List.mem_append.mp hz with hz | hz
        · rcases List.mem_append.mp hz with hz | hz
          · exact row_lo (h z (List.mem_of_mem_take hz)) hn
          · rw [List.mem_singleton.mp hz]; exact lo2
        · exact row_lo (h z (List.mem_of_mem_drop hz)) hn) (by simp; omega) (by omega)).mono (by omega)
    · exact hrow (fun z hz => List.mem_reverse.mp hz) (by simpa using hl)
    · refine ⟨okv_not (fun ds e => by cases e), ?_⟩
      exact (va_of (L := 67) (D := 1) (W := 65) (xs := f.map enc) (fun d hd => by
        obtain ⟨z, hz, rfl⟩ := List.mem_map.mp hd
        exact (row_lo (h z hz) hn).vd) (by simpa using hl)).tup.mono (by omega) (by omega)
  · intro i x s hx ⟨hs1, hs2⟩
    have hx2 := it5 x (List.mem_of_getElem? hx)
    have hi : i < 9 := (List.getElem?_eq_some_iff.mp hx).1
    rw [apL_ok _ (by omega)]
    refine .some ⟨?_, fun v hv => ?_⟩
    · show (s ++ [_]).length = _
      rw [List.length_append]
      show s.length + 1 = _
      omega
    · rcases List.mem_append.mp hv with hv | hv
      · exact hs2 v hv
      · rw [List.mem_singleton.mp hv]; exact mid x hx2
  · intro s ⟨hs1, hs2⟩
    have hs1 : s.length = 14 := hs1
    rw [apL_ok _ (by omega)]
    obtain ⟨y, hy, ym⟩ : ∃ y, (if decide ((k : Int) + 1 < (f.length : Int)) = true then atL f ((k : Int) + 1) else some r.reverse) = some y ∧ Lo y := by
      by_cases c : (k : Int) + 1 < (f.length : Int)
      · rw [if_pos (decide_eq_true c)]
        obtain ⟨y, ey, _, my⟩ := atL_int (xs := f) (i := (k : Int) + 1) (by omega) c
        exact ⟨y, ey, row_lo (h y my) hn⟩
      · rw [if_neg (by rw [decide_eq_true_eq]; exact c)]
        exact ⟨_, rfl, by simp; exact lo.1, fun i hi => lo.2 i (List.mem_reverse.mp hi)⟩
    simp only [bs]
    rw [hy]
    simp only [bs]
    rw [catL_ok (by simp; omega) (by simp)]
    have ix : Itm (.list (r.map bsm)) := by
      have hb : ∀ d ∈ r.map bsm, Vd 0 4 d := fun d hd => by
        obtain ⟨x, hx, rfl⟩ := List.mem_map.mp hd
        unfold bsm
        by_cases c : x < 2
        · rw [if_pos c]; exact (vd_bool _).mono (by omega) (by omega)
        · rw [if_neg c]; exact vd_int (lo.2 x hx).1 (by have := (lo.2 x hx).2; omega)
      refine ⟨(va_of (L := 12) hb (by simp; omega)).list.mono (by omega) (by omega), fun ds e => ?_⟩
      cases e
      simp; omega
    refine .some ⟨hT3, by simp [hs1], fun v hv => ?_⟩
    rcases List.mem_append.mp hv with hv | hv
    · rcases List.mem_append.mp hv with hv | hv
      · exact hs2 v hv
      · rw [List.mem_singleton.mp hv]
        have : (List.map enc [List.map bsm r] : List PyData) = [.list (r.map bsm)] := by
          show [enc (r.map bsm)] = _
          rw [enc_pd]
        rw [this]
        exact mid _ ix
    · simp only [List.mem_cons, List.not_mem_nil, or_false] at hv
      rcases hv with rfl | rfl | rfl | rfl | rfl | rfl
      · exact (val_lo (f := f.take k ++ [r, y, r] ++ f.drop (k + 1)) (L := 70) (fun z hz => by
          rcases List.mem_append.mp hz with hz | hz
          · rcases List.mem_append.mp hz with hz | hz
            · exact row_lo (h z (List.mem_of_mem_take hz)) hn
            · simp only [List.mem_cons, List.not_mem_nil, or_false] at hz
              rcases hz with rfl | rfl | rfl
              · exact lo
              · exact ym
              · exact lo
          · exact row_lo (h z (List.mem_of_mem_drop hz)) hn) (by simp; omega) (by omega)).mono (by omega)
      · exact (val_rows (f := f ++ lst) (L := 68) (fun z hz => by
          rcases List.mem_append.mp hz with hz | hz
          · exact h z hz
          · exact h z (w7 z hz)) hn (by simp; omega) (by omega)).mono (by omega)
      · exact hrow (fun z hz => List.mem_of_mem_take hz) (by simp; omega)
      · exact hrow w7 (by omega)
      · have v1 : Vd 4 (67 * 67) (enc f) := (val_rows h hn hl (by omega)).2
        have v2 : Vd 3 (67 * 67) (enc f) := (itm_list (ds := f.map enc) (L := 67) (by simpa using hl) (by omega) fun d hd => by
          obtain ⟨z, hz, rfl⟩ := List.mem_map.mp hd
          exact (row_lo (h z hz) hn).itm).2
        refine ⟨fun ds e => ?_, ?_⟩
        · have e : [enc f] = ds := PyData.list.inj e
          subst e
          refine ⟨by simp, fun d hd => ?_⟩
          rw [List.mem_singleton.mp hd]
          exact fun es e2 => by
            have e2 : f.map enc = es := PyData.list.inj e2
            rw [← e2]; simp; omega
        · exact (va_of (L := 1) (D := 3) (W := 67 * 67) (xs := [enc f]) (fun x hx => by rw [List.mem_singleton.mp hx]; exact v2) (by simp)).list.mono (by omega) (by omega)
      · refine ⟨fun ds e => ?_, ?_⟩
        · have e : ([] : List PyData) = ds := PyData.list.inj e
          subst e
          exact ⟨by simp, by simp⟩
        · exact (Va.nil.list).mono (by omega) (by omega)
end Lw

/-! part L11 -/
/-! law k16 -/
namespace Lw
open PySem Hb Nv L2 P
open Enc (enc)
theorem WayD.way {n : Nat} {p r s : List Int} {f : List (List Int)} (h : WayD n p r s true f) : wayL p r s f = true := by
  unfold wayL
  have h1 : f.all (fallsB p) = true := List.all_eq_true.mpr fun z hz => fallsB_iff.mpr (h.fal rfl z hz)
  have h2 : lnkB f = true := lnkB_iff.mpr fun i a b ha hb => nxtB_iff.mpr (h.lnk i a b ha hb)
  rw [decide_eq_true h.len, decide_eq_true h.hd, decide_eq_true h.lst, h1, h2]
  rfl
theorem Nxt.symm {a b : List Int} (h : Nxt a b) : Nxt b a := by
  obtain ⟨k, hk, rfl⟩ := h
  obtain ⟨u, x, y, v, rfl, rfl⟩ := at_split hk
  rw [(split_at u v x y).2.2]
  exact ⟨u.length, by simp, (split_at u v y x).2.2.symm⟩
theorem inv_symm {n : Nat} {r s : List Int} (hr : Row n r) (hs : Row n s) : inv (r.map (pos s)) = inv (s.map (pos r)) := by
  rw [← cnt_dis hr hs, ← cnt_dis hs hr]
  have : Dis r s = Dis s r := by
    funext a b
    unfold Dis
    cases decide (pos r a < pos r b) <;> cases decide (pos s a < pos s b) <;> rfl
  rw [this]
theorem WayD.rev {n : Nat} {p r s : List Int} {f : List (List Int)} (hr : Row n r) (hs : Row n s) (h : WayD n p r s true f) : wayL p s r f.reverse = true := by
  refine WayD.way (n := n) ⟨fun z hz => h.row z (List.mem_reverse.mp hz), fun e z hz => h.fal e z (List.mem_reverse.mp hz), by rw [List.head?_reverse]; exact h.lst, by rw [List.getLast?_reverse]; exact h.hd, ?_, by rw [List.length_reverse, h.len, inv_symm hr hs]⟩
  intro i a b ha hb
  have l2 := (List.getElem?_eq_some_iff.mp hb).1
  rw [List.length_reverse] at l2
  rw [List.getElem?_reverse (by omega)] at ha hb
  refine Nxt.symm (h.lnk (f.length - 1 - (i + 1)) b a hb ?_)
  rw [← ha]
  congr 1
  omega
theorem vd_va1 {D W : Nat} {x : PyData} (h : Vd D W x) : Va D (W + 1) [x] := va_of (L := 1) (fun y hy => by rw [List.mem_singleton.mp hy]; exact h) (by simp) |>.mono (Nat.le_refl _) (by omega)
theorem right_ok {t : List Int} (ht : Tap t) : Wp (n__law_right_v4 t) fun z => z.1 = true := by
  obtain ⟨⟨k0, T0⟩, e0, hT0, a0, a1⟩ := draw_ok ht (n := (2 : Int)) (by omega) (by omega)
  obtain ⟨b, eb, b0, b1⟩ : ∃ b, atL [(8 : Int), 12] k0 = some b ∧ 0 < b ∧ b ≤ 12 := by
    have a0 : 0 ≤ k0 := a0
    have a1 : k0 < 2 := a1
    have : k0 = 0 ∨ k0 = 1 := by omega
    rcases this with rfl | rfl
    · exact ⟨8, rfl, by omega, by omega⟩
    · exact ⟨12, rfl, by omega, by omega⟩
  obtain ⟨⟨c, T1⟩, e1, hT1, c0, c1⟩ := draw_ok hT0 (n := b) b0 (by omega)
  have c0 : 0 ≤ c := c0
  have c1 : c < b := c1
  obtain ⟨n, hn⟩ : ∃ n : Nat, 1 + c = (n : Int) := ⟨(1 + c).toNat, by omega⟩
  have h1 : 1 ≤ n := by omega
  have h12 : n ≤ 12 := by omega
  obtain ⟨⟨p, T2⟩, e2, hT2, hp⟩ := mixed_ok hT1 (n := n) (by omega)
  have hp : Row n p := hp
  obtain ⟨⟨r, T3⟩, e3, hT3, hr, fr⟩ := fallen_ok hT2 hp h1 (by omega)
  have hr : Row n r := hr
  have fr : Fal p r := fr
  obtain ⟨⟨s, T4⟩, e4, hT4, hs, fs⟩ := fallen_ok hT3 hp h1 (by omega)
  have hs : Row n s := hs
  have fs : Fal p s := fs
  obtain ⟨⟨f1, T5⟩, e5, hT5, w1⟩ := walked_ok hT4 true hp hr hs h1 h12 fun _ => ⟨fr, fs⟩
  have w1 : WayD n p r s true f1 := w1
  obtain ⟨⟨f2, T6⟩, e6, hT6, w2⟩ := walked_ok hT5 false hp hr hs h1 h12 fun e => absurd e (by simp)
  have w2 : WayD n p r s false f2 := w2
  have hi := inv_66 (s := s) hr h1 h12
  have l1 := w1.len
  have l2 := w2.len
  have g1 : atL [f1, f2] 0 = some f1 := rfl
  have g2 : atL [f1, f2] 1 = some f2 := rfl
  have y1 : n__law_is_way p r s (enc f1) = some true := by
    rw [lway_rows hp hr hs h1 h12 w1.row (by omega), w1.way]
  have y2 : n_is_way p s r (enc f1.reverse) = some true := by
    rw [way_rows hp hs hr h1 h12 fs fr (fun z hz => w1.row z (List.mem_reverse.mp hz)) (by simp; omega), w1.rev hr hs]
  unfold n__law_right_v4
  simp (disch := first | omega | (simp only [List.length_append, List.length_take, List.length_drop, List.length_cons, List.length_nil, List.length_map, List.length_reverse]; omega)) only [bs, e0, eb, e1, addI_e, hn, e2, e3, e4, e5, e6, g1, y1, bnot_t, Bool.false_eq_true, if_false, catL_ok, ri1_ok]
  have v0 : ∀ v ∈ ([enc (), enc true, enc (0 : Int), enc ("" : Str), enc (Tp.mk ([] : List Int)), enc (Dc.mk ([] : List (Int × Int))), enc [([] : List Int)], enc [()], enc p, enc [p], enc [r, s]] ++ List.map enc [f1, f2] : List PyData), Val 4700 v := by
    intro v hv
    have lp := row_lo hp h12
    have nb : ∀ {d : PyData} {D W : Nat}, (∀ ds, d ≠ .list ds) → Vd D W d → D ≤ 4 → W ≤ 4700 → Val 4700 d := fun h hv a b => ⟨okv_not h, hv.mono a b⟩
    have two : ∀ {l : List (List Int)}, (∀ z ∈ l, Row n z) → l.length ≤ 2 → Val 4700 (enc l) := fun h hl => (val_rows h h12 (L := 2) hl (by omega)).mono (by omega)
    rcases List.mem_append.mp hv with hv | hv
    · simp only [List.mem_cons, List.not_mem_nil, or_false] at hv
      rcases hv with rfl | rfl | rfl | rfl | rfl | rfl | rfl | rfl | rfl | rfl | rfl
      · exact nb (fun ds e => by cases e) vd_none (by omega) (by omega)
      · exact nb (fun ds e => by cases e) (vd_bool true) (by omega) (by omega)
      · exact nb (fun ds e => by cases e) (vd_int (by omega) (by omega)) (by omega) (by omega)
      · exact nb (fun ds e => by cases e) vd_empty (by omega) (by omega)
      · exact nb (fun ds e => by cases e) Va.nil.tup (by omega) (by omega)
      · exact nb (fun ds e => by cases e) vd_dict (by omega) (by omega)
      · have lo0 : Lo [] := ⟨by simp, by simp⟩
        exact (val_lo (f := [[]]) (L := 1) (fun z hz => by rw [List.mem_singleton.mp hz]; exact lo0) (by simp) (by omega)).mono (by omega)
      · refine ⟨fun ds e => ?_, (Va.list (va_of (L := 1) (D := 0) (W := 0) (xs := [.none]) (fun x hx => by rw [List.mem_singleton.mp hx]; exact vd_none) (by simp))).mono (by omega) (by omega)⟩
        have e : [PyData.none] = ds := PyData.list.inj e
        subst e
        exact ⟨by simp, fun d hd => by rw [List.mem_singleton.mp hd]; exact sml_not fun ds e => by cases e⟩
      · refine ⟨fun ds e => ?_, lp.vd.mono (by omega) (by omega)⟩
        have e : p.map PyData.int = ds := PyData.list.inj e
        subst e
        refine ⟨by simp; have := hp.len; omega, fun d hd => ?_⟩
        obtain ⟨i, _, rfl⟩ := List.mem_map.mp hd
        exact sml_not fun ds e => by cases e
      · exact two (fun z hz => by rw [List.mem_singleton.mp hz]; exact hp) (by simp)
      · refine two (fun z hz => ?_) (by simp)
        simp only [List.mem_cons, List.not_mem_nil, or_false] at hz
        rcases hz with rfl | rfl
        · exact hr
        · exact hs
    · simp only [List.map_cons, List.map_nil, List.mem_cons, List.not_mem_nil, or_false] at hv
      rcases hv with rfl | rfl
      · exact (val_rows w1.row h12 (L := 67) (by omega) (by omega)).mono (by omega)
      · exact (val_rows w2.row h12 (L := 67) (by omega) (by omega)).mono (by omega)
  refine Wp.for (fun i z => Tap z.1 ∧ z.2.length = 13 + 42 * i ∧ ∀ v ∈ z.2, Val 4700 v) ⟨hT6, by simp, v0⟩ ?_ ?_
  · rintro i x ⟨T, vs⟩ hx ⟨hT, hl, hv⟩
    have hi : i < 3 := (iot_getI hx).2
    have hl : vs.length = 13 + 42 * i := hl
    obtain ⟨⟨b1, T7⟩, e7, hT7, m1, n1⟩ := bent_ok hT hp h1 h12 w1.row (by omega) (by omega)
    obtain ⟨⟨b2, T8⟩, e8, hT8, m2, n2⟩ := bent_ok hT7 hp h1 h12 w2.row (by omega) (by omega)
    have m1 : b1.length = 21 := m1
    have m2 : b2.length = 21 := m2
    have c1 := catL_ok (xs := vs) (ys := b1) (by omega) (by omega)
    have c2 := catL_ok (xs := vs ++ b1) (ys := b2) (by rw [List.length_append]; omega) (by omega)
    refine ⟨(T8, vs ++ b1 ++ b2), ?_, hT8, ?_, fun v hv2 => ?_⟩
    · have e8 : n__law_bent T7 p f2 = some (b2, T8) := e8
      simp only [bs, e7, c1, g2, e8, c2]
    · show (vs ++ b1 ++ b2).length = _
      rw [List.length_append, List.length_append]
      omega
    · rcases List.mem_append.mp hv2 with hv2 | hv2
      · rcases List.mem_append.mp hv2 with hv2 | hv2
        · exact hv v hv2
        · exact n1 v hv2
      · exact n2 v hv2
  · rintro ⟨T, vs⟩ ⟨hT, hl, hv⟩
    have hl : vs.length = 139 := by
      have hl : vs.length = 13 + 42 * (iot (Int.toNat 3)).length := hl
      rw [iot_len] at hl
      have e : Int.toNat 3 = 3 := rfl
      omega
    have hrep : reprN (enc vs) = some (PyData.list vs).shown := by
      rw [enc_pd]
      exact vd_repr (va_of (xs := vs) (L := 139) (fun x hx => (hv x hx).2) (by omega)).list (by omega) (by omega)
    have hb : ∀ b : Bool, reprN (.bool b) = some (PyData.bool b).shown := fun b => vd_repr (vd_bool b) (by omega) (by omega)
    simp only [hrep, bs]
    refine Wp.bindE (forF_nx _ () vs fun x hx => ?_) ?_
    · have o := (hv x hx).1
      have eb : ∀ b : Bool, reprN (enc b) = some (PyData.bool b).shown := hb
      simp only [way_ok hp hr hs h1 h12 fr fs o, lway_ok hp hr hs h1 h12 o, bs, eb, neS_e, beq_self_eq_true, bnot_t, Bool.false_eq_true, if_false]
    · show Wp (Option.bind _ _) _
      simp only [revL_e, bs, y2, isnB_e, beq_self_eq_true, bnot_t, Bool.false_eq_true, if_false, eqS_e]
      exact .some rfl
theorem law_ok {ms : List Int} (hl : ms.length ≤ 63) : n_law_v4 ms = some true := by
  obtain ⟨cs, ec, hc⟩ := cells_ok hl 4
  have r0 : Row 3 [0, 1, 2] := by unfold Row; decide
  have r2 : Row 3 [2, 1, 0] := by unfold Row; decide
  have f0 : Fal [0, 1, 2] [0, 1, 2] := fallsB_iff.mp (by decide)
  have f2 : Fal [0, 1, 2] [2, 1, 0] := fallsB_iff.mp (by decide)
  have wr : ∀ f : List (List Int), (∀ z ∈ f, Row 3 z) → f.length ≤ 10 → n_is_way [0, 1, 2] [0, 1, 2] [2, 1, 0] (enc f) = some (wayL [0, 1, 2] [0, 1, 2] [2, 1, 0] f) := fun f h hl => way_rows r0 r0 r2 (by omega) (by omega) f0 f2 h (by omega)
  have x1 := wr [[0, 1, 2], [1, 0, 2], [1, 2, 0], [2, 1, 0]] (by unfold Row; decide) (by decide)
  have x2 := wr [[0, 1, 2], [0, 2, 1], [2, 0, 1], [2, 1, 0]] (by unfold Row; decide) (by decide)
  have q1 : wayL [0, 1, 2] [0, 1, 2] [2, 1, 0] [[0, 1, 2], [1, 0, 2], [1, 2, 0], [2, 1, 0]] = true := by decide
  have q2 : wayL [0, 1, 2] [0, 1, 2] [2, 1, 0] [[0, 1, 2], [0, 2, 1], [2, 0, 1], [2, 1, 0]] = false := by decide
  unfold n_law_v4
  simp only [bs, ec, lenL_e, ri1_nat cs.length (by omega : cs.length ≤ 1000000)]
  refine bnd (bnd (mapC_cap (fun _ => false) (by rw [iot_len]; omega) fun k hk => ?_) rfl) ?_
  · rw [mem_iot] at hk
    obtain ⟨x, ex, _⟩ := atL_int (xs := cs) hk.1 hk.2
    obtain ⟨t, et, ht⟩ := tap_ok x k hk.1 (by omega)
    obtain ⟨z, ez, hz⟩ := right_ok ht
    simp only [ex, bs, et, ez, hz]
    rfl
  · have fl : List.filter (fun _ : Int => false) (iot cs.length) = [] := by
      rw [List.filter_eq_nil_iff]
      intro a _
      simp
    rw [fl, if_neg (by decide)]
    refine bnd (bnd (mapT_cap (fun f => decide (f = [[0, 1, 2], [1, 0, 2], [1, 2, 0], [2, 1, 0]])) (by simp) fun f hf => ?_) rfl) rfl
    simp only [List.mem_cons, List.not_mem_nil, or_false] at hf
    rcases hf with rfl | rfl
    · rw [x1, q1]; rfl
    · rw [x2, q2]; rfl
end Lw

namespace K16
open PySem PySem.Spec PyProof.Rows L2 Hb
def names : List PySem.Str := (["is_integer", "is_each_once", "need_ballot", "need_line", "ranks_in", "pairs_turned", "falls", "need_falling", "exchanged_at", "need_both_falling", "is_way", "_law_tap", "_law_draw", "_law_cells", "_law_mixed", "_law_falls", "_law_fallen", "_law_turned", "_law_are_next", "_law_is_row", "_law_is_way", "_law_steps", "_law_walked", "_law_bent", "_law_right", "BallotError", "InvalidBallot", "InvalidLine", "NotFalling", "MOST_PLACES"] : List PySem.Str)
abbrev R : PySem.W.OpenRow := PySem.W.OpenLaw.row PySem.Challenge.rw_hillballots_k16_ways_judged
abbrev hk : PySem.W.Hook := He.hookD 6 fa fn
def ob (s : PySem.W.SharedT) : He.AlD := He.obsDG 6 fa fn (HandSHeadRun.getT s)
theorem ob_eq (s : PySem.W.SharedT) : ob s = hk.obs s.abs := He.obsDG_eq (HandSHeadRun.getT_eq s)
theorem run (w : World) : HandSHeadRun.RunEq R (PySem.W.view R.prog [36]) hk ob 2000 names w := by
  intro os
  kernel_rfl
theorem law_ok {ms : List Int} (hl : ms.length ≤ 63) : ∃ δ, P.F_law_v4 [.fz (.list (ms.map .int))] = .ok (.fz (.bool true)) δ :=
  ⟨_, P.V_law_v4 ms true (Lw.law_ok hl)⟩
end K16
open PySem PySem.W PySem.Calls PyProof.Rows
theorem PySem.Challenge.cw_hillballots_k16_ways_judged_holds : PySem.Challenge.rw_hillballots_k16_ways_judged.Holds := by
  w_on; o_law
  refine HandSHeadRun.head_any (r := OpenLaw.row PySem.Challenge.rw_hillballots_k16_ways_judged) (q := view (OpenLaw.row PySem.Challenge.rw_hillballots_k16_ways_judged).prog [36]) (H := K16.hk) (ob := K16.ob) (M := 2000) (loose := K16.names) (d := HandSHeadRun.topDef (OpenLaw.row PySem.Challenge.rw_hillballots_k16_ways_judged).prog 36) (kwd := []) K16.ob_eq
    (by kernel_rfl) (fun s => by kernel_rfl) K16.run (by kernel_rfl) (by kernel_rfl) (by kernel_rfl) (by rfl) (by first | assumption | decide +kernel) (by decide +kernel) ⟨rfl, rfl, rfl, rfl, rfl, by decide +kernel⟩ ?hw ?hc
  case hw => w_witness2
  case hc =>
    refine Hb.walkG (l := PySem.Challenge.rw_hillballots_k16_ways_judged) (n := 63) (k := 7) (x := "_law_script") rfl (by decide) (by kernel_rfl) ⟨rfl, by decide, by decide⟩ ?F
    intro w mg fa h Y G hmg0
    obtain ⟨K, KX, c⟩ := Y
    have hmg : mg ("law" : PySem.Str) = some (.ref fa) := by
      have e : (HandSHeadRun.topDef (OpenLaw.row PySem.Challenge.rw_hillballots_k16_ways_judged).prog 36).name = ("law" : PySem.Str) := by kernel_rfl
      rw [← e]
      exact hmg0
    have Y : K16.Ctx K mg := ⟨c, h, KX, G⟩
    obtain ⟨fd, FD⟩ := c.def_ 25 (d := K16.d_law)
    have hf : fa = He.fAd K ("law", none) := by
      have e2 := He.glo_ok KX G (c.fact 25 (f := .glo "law"))
      rw [hmg] at e2
      exact PySem.Value.ref.inj (Option.some.inj e2)
    refine ⟨K, fd, Hb.spF K mg 1 P.F_law_v4, KX, fun s u => ?_, fun H a ns hl hX => ?_, fun bs _ _ => ?_⟩
    · exact FD.bindsA (ps := ["_law_script"]) (fun _ _ _ _ _ _ us h => by
        match us, h with
        | [a0], _ => rfl) s [u] rfl
    · obtain ⟨δ, e⟩ := K16.law_ok hl
      exact Hb.sp_law hX e
    · rw [hf]
      exact Hb.fnG_D FD K16.S_law rfl fun cdv A outer s H E hr hgd => K16.W_law Y cdv A outer s H E hr hgd
