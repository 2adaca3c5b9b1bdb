import PyProof.Rows.All
import Wide.All
import OpenK.AllK
import Wide.FinOn
import KE.KStateDown
import Lean
import HandS.ForExc
import HandS.Defaults
import HandS.Head0
import HandS.Head1
import HandS.Head2
import HandS.HeadEnd
import HandS.HeadHook1
import HandS.HeadHook2
import HandS.ForMost
import HandS.Exc
import HandS.TryOnly
import HandS.ExcOwn
import HandS.WordsExc
import HandS.Wide
import HandS.Conv
import HandS.Flow
import HandS.Style
import HandS.Deep
import HandS.IsInst
import HandS.SortInts
import HandS.TupAny
import HandS.SortRule
import HandS.Star
import HandS.TupLen
import HandS.WordsDict
import HandS.Zip
import HandS.Rev
import HandS.RevRange
import PySem.Challenge.RW_hillballots_k01_ballots_recognized
set_option Elab.async false
set_option linter.all false
set_option maxRecDepth 100000
set_option maxHeartbeats 0
/-! trees in the place of heaps -/
namespace Hb
open PySem PySem.Spec PyProof.Rows L2

def kD : Key → PyData
  | .inl i => .int i
  | .inr x => .str x
/-- a list that may be read: tracked, locked, or one of the module's own in the plain form -/
def SqX (K : PySem.W.Frag) (H : Hp) (a : Addr) (xs : List V) : Prop :=
  Rd H a (.lst xs) ∨ ∃ (its : List Value) (n : Nat), K.lookup a = some { cls := .type "list", data := .seq its.toArray n } ∧ its.length ≤ sizeLine ∧ Vals xs its
theorem SqX.of {K : PySem.W.Frag} {H : Hp} {a : Addr} {xs : List V} (h : H a = some (.lst xs)) : SqX K H a xs := .inl (.inl h)
theorem SqX.sq {K : PySem.W.Frag} {H : Hp} {a : Addr} {xs : List V} (h : SqX K H a xs) : SqL K H a xs := by
  rcases h with h | ⟨its, n, h1, h2, h3⟩
  · exact .inl h
  · exact .inr ⟨_, its.toArray, n, h1, rfl, rfl, rfl, by simpa using h2, by simpa using h3⟩
theorem inv_lstX {X : Cx} {pins : List (Addr × Obj)} {σ : L2.St} {H : Hp} {s : Shared} {a : Addr} {xs : List V} (I : Inv X pins σ H s) (h : SqX X.K H a xs) :
    ∃ (its : List Value) (n : Nat), Vals xs its ∧ s.heap.get? a = some { cls := .type "list", data := .seq its.toArray n } ∧ xs.length ≤ sizeLine := by
  rcases h with h | ⟨its, n, h1, h2, h3⟩
  · obtain ⟨z, its, n, r, e⟩ := h.ok I.hok
    exact ⟨its, n, r, e, z⟩
  · exact ⟨its, n, h3, I.kIn a _ h1, by rw [h3.length]; exact h2⟩
mutual
/-- the value v stands, in the heap H, for the tree d -/
inductive Rp (K : PySem.W.Frag) (H : Hp) : V → PyData → Prop
  | non : Rp K H .non .none
  | bl (b : Bool) : Rp K H (.bl b) (.bool b)
  | int (i : Int) : Rp K H (.int i) (.int i)
  | str (x : Str) : Rp K H (.str x) (.str x)
  | lst {a : Addr} {xs : List V} {ds : List PyData} : SqX K H a xs → RpL K H xs ds → Rp K H (.ref a) (.list ds)
  | tup {a : Addr} {xs : List V} {ds : List PyData} : SqT K H a xs → RpL K H xs ds → Rp K H (.ref a) (.tuple ds)
  | dK {a : Addr} {kvs : List (Key × V)} {ds : List (PyData × PyData)} : H a = some (.dK kvs) → RpK K H kvs ds → Rp K H (.ref a) (.dict ds)
  | dT {a : Addr} {kvs : List (List Key × V)} {ds : List (PyData × PyData)} : H a = some (.dT kvs) → RpT K H kvs ds → Rp K H (.ref a) (.dict ds)
inductive RpL (K : PySem.W.Frag) (H : Hp) : List V → List PyData → Prop
  | nil : RpL K H [] []
  | cons {v : V} {vs : List V} {d : PyData} {ds : List PyData} : Rp K H v d → RpL K H vs ds → RpL K H (v :: vs) (d :: ds)
inductive RpK (K : PySem.W.Frag) (H : Hp) : List (Key × V) → List (PyData × PyData) → Prop
  | nil : RpK K H [] []
  | cons {k : Key} {v : V} {vs : List (Key × V)} {d : PyData} {ds : List (PyData × PyData)} : Rp K H v d → RpK K H vs ds → RpK K H ((k, v) :: vs) ((kD k, d) :: ds)
inductive RpT (K : PySem.W.Frag) (H : Hp) : List (List Key × V) → List (PyData × PyData) → Prop
  | nil : RpT K H [] []
  | cons {k : List Key} {v : V} {vs : List (List Key × V)} {d : PyData} {ds : List (PyData × PyData)} : Rp K H v d → RpT K H vs ds → RpT K H ((k, v) :: vs) ((.tuple (k.map kD), d) :: ds)
end

theorem same_sqT {K : PySem.W.Frag} {H H' : Hp} {a : Addr} {xs : List V} (e : Same H H') (h : SqT K H a xs) : SqT K H' a xs := by
  rcases h with (h | ⟨o, h⟩) | h
  · exact .inl (.inl (e _ _ h))
  · exact .inl (.inr ⟨o, e _ _ h⟩)
  · exact .inr h
theorem same_rd {H H' : Hp} {a : Addr} {u : HO} (e : Same H H') (h : Rd H a u) : Rd H' a u := by
  rcases h with h | ⟨o, h⟩
  · exact .inl (e _ _ h)
  · exact .inr ⟨o, e _ _ h⟩
theorem same_sqX {K : PySem.W.Frag} {H H' : Hp} {a : Addr} {xs : List V} (e : Same H H') (h : SqX K H a xs) : SqX K H' a xs := by
  rcases h with h | h
  · exact .inl (same_rd e h)
  · exact .inr h
section
variable {K : PySem.W.Frag} {H H' : Hp} (e : Same H H')
include e
mutual
theorem Rp.mono : ∀ {v : V} {d : PyData}, Rp K H v d → Rp K H' v d
  | _, _, .non => .non
  | _, _, .bl b => .bl b
  | _, _, .int i => .int i
  | _, _, .str x => .str x
  | _, _, .lst h1 h2 => .lst (same_sqX e h1) (RpL.mono h2)
  | _, _, .tup h1 h2 => .tup (same_sqT e h1) (RpL.mono h2)
  | _, _, .dK h1 h2 => .dK (e _ _ h1) (RpK.mono h2)
  | _, _, .dT h1 h2 => .dT (e _ _ h1) (RpT.mono h2)
theorem RpL.mono : ∀ {vs : List V} {ds : List PyData}, RpL K H vs ds → RpL K H' vs ds
  | _, _, .nil => .nil
  | _, _, .cons h1 h2 => .cons (Rp.mono h1) (RpL.mono h2)
theorem RpK.mono : ∀ {vs : List (Key × V)} {ds : List (PyData × PyData)}, RpK K H vs ds → RpK K H' vs ds
  | _, _, .nil => .nil
  | _, _, .cons h1 h2 => .cons (Rp.mono h1) (RpK.mono h2)
theorem RpT.mono : ∀ {vs : List (List Key × V)} {ds : List (PyData × PyData)}, RpT K H vs ds → RpT K H' vs ds
  | _, _, .nil => .nil
  | _, _, .cons h1 h2 => .cons (Rp.mono h1) (RpT.mono h2)
end
end
section
variable {K : PySem.W.Frag} {H : Hp}
theorem RpL.len : ∀ {vs : List V} {ds : List PyData}, RpL K H vs ds → vs.length = ds.length
  | _, _, .nil => rfl
  | _, _, .cons _ t => by simp [RpL.len t]
theorem RpL.get : ∀ {vs : List V} {ds : List PyData} {i : Nat} {d : PyData}, RpL K H vs ds → ds[i]? = some d → ∃ v, vs[i]? = some v ∧ Rp K H v d
  | _, _, _, _, .nil, e => by simp at e
  | _, _, 0, _, .cons r _, e => by simp at e; subst e; exact ⟨_, rfl, r⟩
  | _, _, i + 1, d, .cons _ t, e => by
    obtain ⟨u, h1, h2⟩ := RpL.get (i := i) (d := d) t (by simpa using e)
    exact ⟨u, by simpa using h1, h2⟩
theorem RpL.getV : ∀ {vs : List V} {ds : List PyData} {i : Nat} {v : V}, RpL K H vs ds → vs[i]? = some v → ∃ d, ds[i]? = some d ∧ Rp K H v d
  | _, _, _, _, .nil, e => by simp at e
  | _, _, 0, _, .cons r _, e => by simp at e; subst e; exact ⟨_, rfl, r⟩
  | _, _, i + 1, d, .cons _ t, e => by
    obtain ⟨u, h1, h2⟩ := RpL.getV (i := i) (v := d) t (by simpa using e)
    exact ⟨u, by simpa using h1, h2⟩
theorem RpL.append : ∀ {vs ws : List V} {ds es : List PyData}, RpL K H vs ds → RpL K H ws es → RpL K H (vs ++ ws) (ds ++ es)
  | _, _, _, _, .nil, s => s
  | _, _, _, _, .cons r t, s => .cons r (RpL.append t s)
theorem RpL.one {v : V} {d : PyData} (h : Rp K H v d) : RpL K H [v] [d] := .cons h .nil
theorem RpL.take : ∀ {vs : List V} {ds : List PyData} (n : Nat), RpL K H vs ds → RpL K H (vs.take n) (ds.take n)
  | _, _, 0, _ => by simp; exact .nil
  | _, _, n + 1, .nil => by simp; exact .nil
  | _, _, n + 1, .cons r t => .cons r (RpL.take n t)
theorem RpL.drop : ∀ {vs : List V} {ds : List PyData} (n : Nat), RpL K H vs ds → RpL K H (vs.drop n) (ds.drop n)
  | _, _, 0, h => h
  | _, _, n + 1, .nil => by simp; exact .nil
  | _, _, n + 1, .cons _ t => RpL.drop n t
theorem RpL.set {v : V} {d : PyData} (h : Rp K H v d) : ∀ {vs : List V} {ds : List PyData} (n : Nat), RpL K H vs ds → RpL K H (vs.set n v) (ds.set n d)
  | _, _, _, .nil => .nil
  | _, _, 0, .cons _ t => .cons h t
  | _, _, n + 1, .cons r t => .cons r (RpL.set h n t)
theorem RpL.eraseIdx : ∀ {vs : List V} {ds : List PyData} (n : Nat), RpL K H vs ds → RpL K H (vs.eraseIdx n) (ds.eraseIdx n)
  | _, _, _, .nil => .nil
  | _, _, 0, .cons _ t => t
  | _, _, n + 1, .cons r t => .cons r (RpL.eraseIdx n t)
theorem RpL.dropLast : ∀ {vs : List V} {ds : List PyData}, RpL K H vs ds → RpL K H vs.dropLast ds.dropLast
  | _, _, .nil => .nil
  | _, _, .cons _ .nil => .nil
  | _, _, .cons r (.cons r2 t) => .cons r (RpL.dropLast (.cons r2 t))
theorem RpL.reverse : ∀ {vs : List V} {ds : List PyData}, RpL K H vs ds → RpL K H vs.reverse ds.reverse
  | _, _, .nil => .nil
  | _, _, .cons r t => by
    rw [List.reverse_cons, List.reverse_cons]
    exact (RpL.reverse t).append (.one r)
theorem RpL.ints : ∀ {vs : List V} {ns : List Int}, RpL K H vs (ns.map .int) → vs = ns.map V.int
  | _, [], .nil => rfl
  | _, n :: ns, .cons r t => by
    cases r
    rw [RpL.ints t]
    rfl
theorem RpL.ofInts : ∀ ns : List Int, RpL K H (ns.map V.int) (ns.map .int)
  | [] => .nil
  | n :: ns => .cons (.int n) (RpL.ofInts ns)
theorem RpL.mem {vs : List V} {ds : List PyData} (h : RpL K H vs ds) {v : V} (hv : v ∈ vs) : ∃ d ∈ ds, Rp K H v d := by
  obtain ⟨i, hi, e⟩ := List.mem_iff_getElem.mp hv
  obtain ⟨d, e1, r⟩ := h.getV (i := i) (v := v) (by rw [← e]; exact List.getElem?_eq_getElem hi)
  exact ⟨d, List.mem_of_getElem? e1, r⟩
end

/-! ### what a name holds -/
/-- an item of a list that is one's own: a tree that stands still, or a list of one's own -/
inductive El where
  | fz (d : PyData) | ow (xs : List PyData)
def El.d : El → PyData
  | .fz d => d
  | .ow xs => .list xs
/-- a name: nothing is known; a tree that stands still; a list of one's own; a dict of one's own; the item j of the list of slot x -/
inductive Sl where
  | no | fz (d : PyData) | ol (xs : List El) | od (kvs : List (PyData × PyData)) | al (x j : Nat)

def ElR (K : PySem.W.Frag) (Fz H : Hp) (f : List Addr) (v : V) : El → Prop
  | .fz d => f = [] ∧ Rp K Fz v d
  | .ow xs => ∃ a vs, v = .ref a ∧ f = [a] ∧ H a = some (.lst vs) ∧ RpL K Fz vs xs
inductive ElL (K : PySem.W.Frag) (Fz H : Hp) : List Addr → List V → List El → Prop
  | nil : ElL K Fz H [] [] []
  | cons {f g : List Addr} {v : V} {vs : List V} {e : El} {es : List El} : ElR K Fz H f v e → ElL K Fz H g vs es → ElL K Fz H (f ++ g) (v :: vs) (e :: es)
def DcR (K : PySem.W.Frag) (Fz H : Hp) (a : Addr) (kvs : List (PyData × PyData)) : Prop :=
  (∃ ws, H a = some (.dK ws) ∧ RpK K Fz ws kvs) ∨ (∃ ws, H a = some (.dT ws) ∧ RpT K Fz ws kvs)
def SlH (K : PySem.W.Frag) (Fz H : Hp) (σ : L2.St) (f : List Addr) (o : Option V) : Sl → Prop
  | .no => f = []
  | .fz d => f = [] ∧ ∃ v, o = some v ∧ Rp K Fz v d
  | .ol xs => ∃ a vs g, o = some (.ref a) ∧ f = a :: g ∧ H a = some (.lst vs) ∧ ElL K Fz H g vs xs
  | .od kvs => ∃ a, o = some (.ref a) ∧ f = [a] ∧ DcR K Fz H a kvs
  | .al x j => f = [] ∧ ∃ a b vs, σ[x]? = some (some (.ref a)) ∧ H a = some (.lst vs) ∧ vs[j]? = some (.ref b) ∧ o = some (.ref b)

/-- what stays through a body: the ground B, what of it stands still (F0), the slots that stay (pin, as in so) -/
structure Bk where
  B : Hp
  F0 : Hp
  pin : List Nat
  so : L2.St
structure Rl (K : PySem.W.Frag) (b : Bk) (Fz : Hp) (F : Nat → List Addr) (δ : List Sl) (σ : L2.St) (H : Hp) : Prop where
  le : Same Fz H
  base : Same b.B H
  len : σ.length = δ.length
  slot : ∀ i s, δ[i]? = some s → SlH K Fz H σ (F i) (σ[i]?.join) s
  nd : ∀ i, (F i).Nodup
  dj : ∀ i j a, a ∈ F i → a ∈ F j → i = j
  offF : ∀ i a, a ∈ F i → Fz a = none
  offB : ∀ i a, a ∈ F i → b.B a = none
  on : ∀ i a, a ∈ F i → H a ≠ none
  keep : ∀ a, b.B a ≠ none → Fz a = b.F0 a
  f0 : ∀ a, b.F0 a ≠ none → b.B a ≠ none
  pin : ∀ i ∈ b.pin, σ[i]? = b.so[i]?
  als : ∀ (i x j : Nat), δ[i]? = some (.al x j) → ∃ xs, δ[x]? = some (.ol xs)

theorem ElR.keeps {K : PySem.W.Frag} {Fz Fz' H H' : Hp} {f : List Addr} {v : V} {e : El} (h : ElR K Fz H f v e) (hF : Same Fz Fz') (hH : ∀ a ∈ f, H' a = H a) : ElR K Fz' H' f v e := by
  cases e with
  | fz d => exact ⟨h.1, h.2.mono hF⟩
  | ow xs =>
    obtain ⟨a, vs, e1, e2, e3, e4⟩ := h
    exact ⟨a, vs, e1, e2, (hH a (by simp [e2])).trans e3, e4.mono hF⟩
theorem ElL.keeps {K : PySem.W.Frag} {Fz Fz' H H' : Hp} : ∀ {f : List Addr} {vs : List V} {es : List El}, ElL K Fz H f vs es → Same Fz Fz' → (∀ a ∈ f, H' a = H a) → ElL K Fz' H' f vs es
  | _, _, _, .nil, _, _ => .nil
  | _, _, _, .cons h t, hF, hH => .cons (h.keeps hF fun a ha => hH a (List.mem_append_left _ ha)) (t.keeps hF fun a ha => hH a (List.mem_append_right _ ha))
theorem DcR.keeps {K : PySem.W.Frag} {Fz Fz' H H' : Hp} {a : Addr} {kvs : List (PyData × PyData)} (h : DcR K Fz H a kvs) (hF : Same Fz Fz') (hH : H' a = H a) : DcR K Fz' H' a kvs := by
  rcases h with ⟨ws, h1, h2⟩ | ⟨ws, h1, h2⟩
  · exact .inl ⟨ws, hH.trans h1, h2.mono hF⟩
  · exact .inr ⟨ws, hH.trans h1, h2.mono hF⟩
/-- the slot's own objects, and (for an item of another slot) its list, are as they were -/
theorem SlH.keeps {K : PySem.W.Frag} {Fz Fz' H H' : Hp} {σ : L2.St} {f : List Addr} {o : Option V} {s : Sl} (h : SlH K Fz H σ f o s) (hF : Same Fz Fz') (hH : ∀ a ∈ f, H' a = H a)
    (hA : ∀ x j, s = .al x j → ∀ a, σ[x]? = some (some (.ref a)) → H' a = H a) : SlH K Fz' H' σ f o s := by
  cases s with
  | no => exact h
  | fz d =>
    obtain ⟨e, v, e2, r⟩ := h
    exact ⟨e, v, e2, r.mono hF⟩
  | ol xs =>
    obtain ⟨a, vs, g, e1, e2, e3, e4⟩ := h
    exact ⟨a, vs, g, e1, e2, (hH a (by simp [e2])).trans e3, e4.keeps hF fun c hc => hH c (by simp [e2, hc])⟩
  | od kvs =>
    obtain ⟨a, e1, e2, e3⟩ := h
    exact ⟨a, e1, e2, e3.keeps hF (hH a (by simp [e2]))⟩
  | al x j =>
    obtain ⟨e, a, b, vs, e1, e2, e3, e4⟩ := h
    exact ⟨e, a, b, vs, e1, (hA x j rfl a e1).trans e2, e3, e4⟩

theorem upd_new {H : Hp} {p b : Addr} {o : HO} (n : H p = none) (h : H b ≠ none) : upd H p o b = H b := upd_ne fun e => h (by rw [e]; exact n)
theorem same_new {H : Hp} {p : Addr} {o : HO} (n : H p = none) : Same H (upd H p o) := fun b x e => by
  rw [upd_new n (by rw [e]; simp)]
  exact e
section
variable {K : PySem.W.Frag} {b : Bk} {Fz : Hp} {F : Nat → List Addr} {δ : List Sl} {σ : L2.St} {H : Hp}
/-- the heap grew -/
theorem Rl.grow (R : Rl K b Fz F δ σ H) {H' : Hp} (s : Same H H') : Rl K b Fz F δ σ H' where
  le := R.le.trans s
  base := R.base.trans s
  len := R.len
  slot := fun i s' e => (R.slot i s' e).keeps (Same.refl _) (fun a ha => by
    cases q : H a with
    | none => exact absurd q (R.on i a ha)
    | some o => exact s a o q) fun x j _ a ha => by
      cases q : H a with
      | some o => exact s a o q
      | none =>
        rename_i e2
        subst e2
        obtain ⟨_, a', _, vs, e1, e2, _⟩ := R.slot i _ e
        rw [ha] at e1
        cases e1
        rw [q] at e2
        cases e2
  nd := R.nd
  dj := R.dj
  offF := R.offF
  offB := R.offB
  on := fun i a ha => by
    cases q : H a with
    | none => exact absurd q (R.on i a ha)
    | some o =>
      rw [s a o q]
      simp
  keep := R.keep
  f0 := R.f0
  pin := R.pin
  als := R.als
theorem Rl.new (R : Rl K b Fz F δ σ H) {p : Addr} (n : H p = none) (o : HO) : Rl K b Fz F δ σ (upd H p o) := R.grow (same_new n)
theorem Rl.offN (R : Rl K b Fz F δ σ H) {p : Addr} (n : H p = none) : Fz p = none ∧ b.B p = none ∧ ∀ i, p ∉ F i := by
  refine ⟨?_, ?_, fun i hi => R.on i p hi n⟩
  · cases q : Fz p with
    | none => rfl
    | some o =>
      have := R.le p o q
      rw [n] at this
      cases this
  · cases q : b.B p with
    | none => rfl
    | some o =>
      have := R.base p o q
      rw [n] at this
      cases this
/-- more stands still: objects at hand that nobody owns, outside the ground -/
theorem Rl.freeze (R : Rl K b Fz F δ σ H) {Fz' : Hp} (s : Same Fz Fz') (le : Same Fz' H) (off : ∀ a, Fz a = none → Fz' a ≠ none → b.B a = none ∧ ∀ i, a ∉ F i) : Rl K b Fz' F δ σ H where
  le := le
  base := R.base
  len := R.len
  slot := fun i s' e => (R.slot i s' e).keeps s (fun _ _ => rfl) fun _ _ _ _ _ => rfl
  nd := R.nd
  dj := R.dj
  offF := fun i a ha => by
    cases q : Fz' a with
    | none => rfl
    | some o => exact absurd ha ((off a (R.offF i a ha) (by rw [q]; simp)).2 i)
  offB := R.offB
  on := R.on
  keep := fun a ha => by
    rw [← R.keep a ha]
    cases q : Fz a with
    | some o => exact s a o q
    | none =>
      cases q' : Fz' a with
      | none => rfl
      | some o => exact absurd (off a q (by rw [q']; simp)).1 ha
  f0 := R.f0
  pin := R.pin
  als := R.als
end
end Hb

namespace Hb
open PySem PySem.Spec PyProof.Rows L2

/-- what an expression gives: a tree that stands still; the slot i by reference; a new thing of nobody's -/
inductive AV where
  | val (d : PyData) | ref (i : Nat) | tmp (s : Sl)
/-- an error: its class's name, the field that it bears -/
structure Exn where
  cls : Str
  arg : Option (Str × PyData) := none
inductive Rs (α : Type) where
  | ok (a : α) (δ : List Sl) | er (x : Exn) (δ : List Sl) | bad
def Rs.bind {α β : Type} (r : Rs α) (k : α → List Sl → Rs β) : Rs β := match r with
  | .ok a δ => k a δ
  | .er x δ => .er x δ
  | .bad => .bad
def Sl.tree : Sl → Option PyData
  | .fz d => some d
  | .ol xs => some (.list (xs.map El.d))
  | .od kvs => some (.dict kvs)
  | _ => none
/-- the tree that is read -/
def rdA (δ : List Sl) : AV → Option PyData
  | .val d => some d
  | .ref i => match δ[i]? with
    | some (.al x j) => (match δ[x]? with
      | some (.ol xs) => xs[j]?.map El.d
      | _ => none)
    | some s => s.tree
    | none => none
  | .tmp _ => none
def allFz : List El → Option (List PyData)
  | [] => some []
  | .fz d :: r => (allFz r).map (d :: ·)
  | .ow _ :: _ => none
/-- a list whose items stand still -/
def rdC (δ : List Sl) : AV → Option PyData
  | .val d => some d
  | .ref i => match δ[i]? with
    | some (.al x j) => (match δ[x]? with
      | some (.ol xs) => xs[j]?.map El.d
      | _ => none)
    | some (.fz d) => some d
    | some (.ol xs) => (allFz xs).map .list
    | _ => none
  | .tmp _ => none

def AvS (K : PySem.W.Frag) (Fz : Hp) (σ : L2.St) (v : V) : AV → Prop
  | .val d => Rp K Fz v d
  | .ref i => σ[i]? = some (some v)
  | .tmp _ => False
def AvR (K : PySem.W.Frag) (b : Bk) (Fz : Hp) (F : Nat → List Addr) (H : Hp) (σ : L2.St) (v : V) : AV → Prop
  | .val d => Rp K Fz v d
  | .ref i => σ[i]? = some (some v)
  | .tmp s => s.tree.isSome = true ∧ ∃ g, SlH K Fz H [] g (some v) s ∧ g.Nodup ∧ ∀ a ∈ g, Fz a = none ∧ b.B a = none ∧ H a ≠ none ∧ ∀ i, a ∉ F i
def ExR (K : PySem.W.Frag) (mg : Str → Option Value) (Fz H : Hp) (x : Exn) (c : Value) (dd : Option Addr) : Prop :=
  (∃ C, mg x.cls = some (.ref C) ∧ c = .ref C) ∧ match x.arg with
    | none => dd = none
    | some p => ∃ a v, dd = some a ∧ H a = some (.xd [(p.1, v)]) ∧ Rp K Fz v p.2
section
variable (K : PySem.W.Frag) (mg : Str → Option Value) (W : WX)
def PostX (b : Bk) (Fz : Hp) (σ : L2.St) (x : Exn) (δ : List Sl) : Prop := ∀ c dd H' Fz' F', Same Fz Fz' → Rl K b Fz' F' δ σ H' → ExR K mg Fz' H' x c dd → W c dd σ H'
def Post (b : Bk) (Fz : Hp) (σ : L2.St) (Q : VK) : Rs AV → Prop
  | .ok a δ => ∀ v H' Fz' F', Same Fz Fz' → Rl K b Fz' F' δ σ H' → AvR K b Fz' F' H' σ v a → Q v H'
  | .er x δ => PostX K mg W b Fz σ x δ
  | .bad => False
def rdE (pin : List Nat) (f : List Sl → Rs AV) : TE := fun σ H Q => ∃ b Fz F δ, b.pin = pin ∧ Rl K b Fz F δ σ H ∧ Post K mg W b Fz σ Q (f δ)
/-- a test -/
def PostT (b : Bk) (Fz : Hp) (σ : L2.St) (Q : Bool → Hp → Prop) : Rs Bool → Prop
  | .ok a δ => ∀ H' Fz' F', Same Fz Fz' → Rl K b Fz' F' δ σ H' → Q a H'
  | .er x δ => PostX K mg W b Fz σ x δ
  | .bad => False
def rdT (pin : List Nat) (f : List Sl → Rs Bool) : TT := fun σ H Q => ∃ b Fz F δ, b.pin = pin ∧ Rl K b Fz F δ σ H ∧ PostT K mg W b Fz σ Q (f δ)
end
abbrev SE (X : Cx) (W : WX) (pin : List Nat) (e : Expr) (f : List Sl → Rs AV) : Prop := PE X e (rdE X.K X.mg W pin f)
abbrev ST (X : Cx) (W : WX) (pin : List Nat) (e : Expr) (f : List Sl → Rs Bool) : Prop := PT X e (rdT X.K X.mg W pin f)
theorem pe_mono {X : Cx} {e : Expr} {t t' : TE} (h : PE X e t) (i : ∀ σ H Q, t' σ H Q → t σ H Q) : PE X e t' := ⟨fun pins s σ H Q I q => h.run pins s σ H Q I (i σ H Q q)⟩
theorem pt_mono {X : Cx} {e : Expr} {t t' : TT} (h : PT X e t) (i : ∀ σ H Q, t' σ H Q → t σ H Q) : PT X e t' := ⟨fun pins s σ H Q I q => h.run pins s σ H Q I (i σ H Q q)⟩

section
variable {K : PySem.W.Frag} {mg : Str → Option Value} {W : WX} {b : Bk} {Fz Fz1 : Hp} {F : Nat → List Addr} {δ : List Sl} {σ : L2.St} {H : Hp} {Q : VK}
theorem PostX.le {x : Exn} (s : Same Fz Fz1) (p : PostX K mg W b Fz σ x δ) : PostX K mg W b Fz1 σ x δ := fun c dd H' Fz' F' s' R e => p c dd H' Fz' F' (s.trans s') R e
theorem Post.le {r : Rs AV} (s : Same Fz Fz1) (p : Post K mg W b Fz σ Q r) : Post K mg W b Fz1 σ Q r := by
  cases r with
  | ok a δ => exact fun v H' Fz' F' s' R e => p v H' Fz' F' (s.trans s') R e
  | er x δ => exact PostX.le s p
  | bad => exact p
theorem PostT.le {Q : Bool → Hp → Prop} {r : Rs Bool} (s : Same Fz Fz1) (p : PostT K mg W b Fz σ Q r) : PostT K mg W b Fz1 σ Q r := by
  cases r with
  | ok a δ => exact fun H' Fz' F' s' R => p H' Fz' F' (s.trans s') R
  | er x δ => exact PostX.le s p
  | bad => exact p
theorem AvS.le {v : V} {a : AV} (s : Same Fz Fz1) (p : AvS K Fz σ v a) : AvS K Fz1 σ v a := by
  cases a with
  | val d => exact Rp.mono s p
  | ref i => exact p
  | tmp t => exact p
theorem AvR.of {v : V} {a : AV} (p : AvS K Fz σ v a) : AvR K b Fz F H σ v a := by
  cases a with
  | val d => exact p
  | ref i => exact p
  | tmp t => exact False.elim p
theorem ElL.tree {Fz H : Hp} (le : Same Fz H) : ∀ {f : List Addr} {vs : List V} {es : List El}, ElL K Fz H f vs es → RpL K H vs (es.map El.d)
  | _, _, _, .nil => .nil
  | _, _, _, .cons (e := .fz d) h t => .cons (h.2.mono le) (ElL.tree le t)
  | _, _, _, .cons (e := .ow xs) h t => by
    obtain ⟨a, vs, e1, e2, e3, e4⟩ := h
    subst e1
    exact .cons (.lst (SqX.of e3) (e4.mono le)) (ElL.tree le t)
theorem ElL.at_ {Fz H : Hp} : ∀ {f : List Addr} {vs : List V} {es : List El} {j : Nat} {e : El}, ElL K Fz H f vs es → es[j]? = some e → ∃ v g, vs[j]? = some v ∧ ElR K Fz H g v e ∧ ∀ a ∈ g, a ∈ f
  | _, _, _, _, _, .nil, e => by simp at e
  | _, _, _, 0, _, .cons (f := f) (v := v) h t, e => by
    simp at e
    subst e
    exact ⟨v, f, rfl, h, fun a ha => List.mem_append_left _ ha⟩
  | _, _, _, j + 1, _, .cons h t, e => by
    obtain ⟨v, g, e1, e2, e3⟩ := ElL.at_ t (by simpa using e)
    exact ⟨v, g, by simpa using e1, e2, fun a ha => List.mem_append_right _ (e3 a ha)⟩
theorem ElL.allFz {Fz H : Hp} : ∀ {f : List Addr} {vs : List V} {es : List El} {ds : List PyData}, ElL K Fz H f vs es → Hb.allFz es = some ds → RpL K Fz vs ds
  | _, _, _, _, .nil, e => by cases e; exact .nil
  | _, _, _, ds, .cons (e := .fz d) (es := es) h t, e => by
    cases q : Hb.allFz es with
    | none =>
      rw [Hb.allFz, q] at e
      cases e
    | some ds' =>
      rw [Hb.allFz, q] at e
      cases e
      exact .cons h.2 (ElL.allFz t q)
  | _, _, _, ds, .cons (e := .ow xs) h t, e => by cases e
/-- a value that is read -/
def RpC (K : PySem.W.Frag) (Fz H : Hp) (v : V) (d : PyData) : Prop := Rp K Fz v d ∨ ∃ a vs ds, v = .ref a ∧ d = .list ds ∧ H a = some (.lst vs) ∧ RpL K Fz vs ds
theorem join_some {o : Option (Option V)} {v : V} (h : o.join = some v) : o = some (some v) := by
  cases o with
  | none => cases h
  | some o => exact congrArg some h
theorem Rl.al (R : Rl K b Fz F δ σ H) {i x j : Nat} {xs : List El} {e : El} {v : V} (h : δ[i]? = some (.al x j)) (hx : δ[x]? = some (.ol xs)) (hj : xs[j]? = some e) (hv : σ[i]? = some (some v)) : ∃ g, ElR K Fz H g v e ∧ ∀ a ∈ g, a ∈ F x := by
  obtain ⟨_, a, c, vs, e1, e2, e3, e4⟩ := R.slot i _ h
  obtain ⟨a', vs', g, e5, e6, e7, e8⟩ := R.slot x _ hx
  rw [e1] at e5
  cases e5
  rw [e2] at e7
  cases e7
  obtain ⟨v', g', e9, e10, e11⟩ := e8.at_ hj
  rw [e3] at e9
  cases e9
  rw [hv] at e4
  cases e4
  exact ⟨g', e10, fun a ha => by rw [e6]; exact List.mem_cons_of_mem _ (e11 a ha)⟩
theorem rdA_ok (R : Rl K b Fz F δ σ H) {v : V} {a : AV} {d : PyData} (p : AvS K Fz σ v a) (h : rdA δ a = some d) : Rp K H v d := by
  cases a with
  | val d' =>
    cases h
    exact Rp.mono R.le p
  | tmp t => exact False.elim p
  | ref i =>
    have hv : σ[i]? = some (some v) := p
    cases q : δ[i]? with
    | none =>
      simp only [rdA, q] at h
      cases h
    | some s =>
      have hs := R.slot i s q
      rw [hv] at hs
      cases s with
      | no =>
        simp only [rdA, q] at h
        cases h
      | fz d' =>
        simp only [rdA, q] at h
        cases h
        obtain ⟨_, v', e1, e2⟩ := hs
        cases e1
        exact e2.mono R.le
      | ol xs =>
        simp only [rdA, q] at h
        cases h
        obtain ⟨a, vs, g, e1, e2, e3, e4⟩ := hs
        cases e1
        exact .lst (SqX.of e3) (e4.tree R.le)
      | od kvs =>
        simp only [rdA, q] at h
        cases h
        obtain ⟨a, e1, e2, e3⟩ := hs
        cases e1
        rcases e3 with ⟨ws, h1, h2⟩ | ⟨ws, h1, h2⟩
        · exact .dK h1 (h2.mono R.le)
        · exact .dT h1 (h2.mono R.le)
      | al x j =>
        cases q2 : δ[x]? with
        | none =>
          simp only [rdA, q, q2] at h
          cases h
        | some t =>
          cases t with
          | ol xs =>
            cases q3 : xs[j]? with
            | none =>
              simp only [rdA, q, q2, q3] at h
              cases h
            | some e =>
              simp only [rdA, q, q2, q3] at h
              cases h
              obtain ⟨g, e1, _⟩ := R.al q q2 q3 hv
              cases e with
              | fz d' => exact e1.2.mono R.le
              | ow ys =>
                obtain ⟨a, vs, f1, _, f3, f4⟩ := e1
                subst f1
                exact .lst (SqX.of f3) (f4.mono R.le)
          | _ =>
            simp only [rdA, q, q2] at h
            cases h
theorem rdC_ok (R : Rl K b Fz F δ σ H) {v : V} {a : AV} {d : PyData} (p : AvS K Fz σ v a) (h : rdC δ a = some d) : RpC K Fz H v d := by
  cases a with
  | val d' =>
    cases h
    exact .inl p
  | tmp t => exact False.elim p
  | ref i =>
    have hv : σ[i]? = some (some v) := p
    cases q : δ[i]? with
    | none =>
      simp only [rdC, q] at h
      cases h
    | some s =>
      have hs := R.slot i s q
      rw [hv] at hs
      cases s with
      | no =>
        simp only [rdC, q] at h
        cases h
      | fz d' =>
        simp only [rdC, q] at h
        cases h
        obtain ⟨_, v', e1, e2⟩ := hs
        cases e1
        exact .inl e2
      | ol xs =>
        simp only [rdC, q] at h
        cases q2 : allFz xs with
        | none =>
          rw [q2] at h
          cases h
        | some ds =>
          rw [q2] at h
          cases h
          obtain ⟨a, vs, g, e1, e2, e3, e4⟩ := hs
          cases e1
          exact .inr ⟨a, vs, ds, rfl, rfl, e3, e4.allFz q2⟩
      | od kvs =>
        simp only [rdC, q] at h
        cases h
      | al x j =>
        cases q2 : δ[x]? with
        | none =>
          simp only [rdC, q, q2] at h
          cases h
        | some t =>
          cases t with
          | ol xs =>
            cases q3 : xs[j]? with
            | none =>
              simp only [rdC, q, q2, q3] at h
              cases h
            | some e =>
              simp only [rdC, q, q2, q3] at h
              cases h
              obtain ⟨g, e1, _⟩ := R.al q q2 q3 hv
              cases e with
              | fz d' => exact .inl e1.2
              | ow ys =>
                obtain ⟨a, vs, f1, _, f3, f4⟩ := e1
                subst f1
                exact .inr ⟨a, vs, ys, rfl, rfl, f3, f4⟩
          | _ =>
            simp only [rdC, q, q2] at h
            cases h
theorem RpC.list {v : V} {ds : List PyData} (le : Same Fz H) (h : RpC K Fz H v (.list ds)) : ∃ a vs, v = .ref a ∧ SqX K H a vs ∧ RpL K Fz vs ds := by
  rcases h with h | ⟨a, vs, es, e1, e2, e3, e4⟩
  · cases h with
    | lst h1 h2 => exact ⟨_, _, rfl, same_sqX le h1, h2⟩
  · cases e2
    exact ⟨a, vs, e1, SqX.of e3, e4⟩
theorem RpC.tup {v : V} {ds : List PyData} (le : Same Fz H) (h : RpC K Fz H v (.tuple ds)) : ∃ a vs, v = .ref a ∧ SqT K H a vs ∧ RpL K Fz vs ds := by
  rcases h with h | ⟨a, vs, es, e1, e2, e3, e4⟩
  · cases h with
    | tup h1 h2 => exact ⟨_, _, rfl, same_sqT le h1, h2⟩
  · cases e2
theorem RpC.rp {v : V} {d : PyData} (le : Same Fz H) (h : RpC K Fz H v d) : Rp K H v d := by
  rcases h with h | ⟨a, vs, es, e1, e2, e3, e4⟩
  · exact h.mono le
  · subst e1 e2
    exact .lst (SqX.of e3) (e4.mono le)

/-! ### new things -/
theorem ElL.ofFz {H : Hp} : ∀ {vs : List V} {ds : List PyData}, RpL K Fz vs ds → ElL K Fz H [] vs (ds.map .fz)
  | _, _, .nil => .nil
  | _, _, .cons h t => .cons (f := []) ⟨rfl, h⟩ (ElL.ofFz t)
theorem post_newL (R : Rl K b Fz F δ σ H) {vs : List V} {ds : List PyData} (h : RpL K Fz vs ds) (P : Post K mg W b Fz σ Q (.ok (.tmp (.ol (ds.map .fz))) δ)) : ∀ p, H p = none → Q (.ref p) (upd H p (.lst vs)) := fun p n => by
  obtain ⟨n1, n2, n3⟩ := R.offN n
  refine P (.ref p) _ Fz F (Same.refl _) (R.new n _) ⟨rfl, [p], ⟨p, vs, [], rfl, rfl, upd_same, ElL.ofFz h⟩, by simp, fun a ha => ?_⟩
  rw [List.mem_singleton] at ha
  subst ha
  exact ⟨n1, n2, by rw [upd_same]; simp, n3⟩
theorem post_newD (R : Rl K b Fz F δ σ H) (P : Post K mg W b Fz σ Q (.ok (.tmp (.od [])) δ)) : ∀ p, H p = none → Q (.ref p) (upd H p (.dK [])) := fun p n => by
  obtain ⟨n1, n2, n3⟩ := R.offN n
  refine P (.ref p) _ Fz F (Same.refl _) (R.new n _) ⟨rfl, [p], ⟨p, rfl, rfl, .inl ⟨[], upd_same, .nil⟩⟩, by simp, fun a ha => ?_⟩
  rw [List.mem_singleton] at ha
  subst ha
  exact ⟨n1, n2, by rw [upd_same]; simp, n3⟩
theorem post_newDT (R : Rl K b Fz F δ σ H) (P : Post K mg W b Fz σ Q (.ok (.tmp (.od [])) δ)) : ∀ p, H p = none → Q (.ref p) (upd H p (.dT [])) := fun p n => by
  obtain ⟨n1, n2, n3⟩ := R.offN n
  refine P (.ref p) _ Fz F (Same.refl _) (R.new n _) ⟨rfl, [p], ⟨p, rfl, rfl, .inr ⟨[], upd_same, .nil⟩⟩, by simp, fun a ha => ?_⟩
  rw [List.mem_singleton] at ha
  subst ha
  exact ⟨n1, n2, by rw [upd_same]; simp, n3⟩
/-- a new thing that stands still at once -/
theorem Rl.newF (R : Rl K b Fz F δ σ H) {p : Addr} (n : H p = none) (o : HO) : Same Fz (upd Fz p o) ∧ Rl K b (upd Fz p o) F δ σ (upd H p o) := by
  obtain ⟨n1, n2, n3⟩ := R.offN n
  refine ⟨same_new n1, (R.new n o).freeze (same_new n1) (fun a x e => ?_) fun a ha hb => ?_⟩
  · by_cases q : a = p
    · subst q
      rw [upd_same] at e ⊢
      exact e
    · rw [upd_ne q] at e ⊢
      exact R.le a x e
  · by_cases q : a = p
    · subst q
      exact ⟨n2, n3⟩
    · rw [upd_ne q] at hb
      exact absurd ha hb
theorem post_newT (R : Rl K b Fz F δ σ H) {vs : List V} {ds : List PyData} (h : RpL K Fz vs ds) (P : Post K mg W b Fz σ Q (.ok (.val (.tuple ds)) δ)) : ∀ p, H p = none → Q (.ref p) (upd H p (.tup vs)) := fun p n => by
  obtain ⟨s, R'⟩ := R.newF n (.tup vs)
  exact P (.ref p) _ _ F s R' (.tup (SqT.of upd_same) (h.mono s))
/-! ### to stand still from now on -/
theorem ElL.treeF {H : Hp} {Fz' : Hp} (s : Same Fz Fz') : ∀ {f : List Addr} {vs : List V} {es : List El}, ElL K Fz H f vs es → (∀ a ∈ f, Fz' a = H a) → RpL K Fz' vs (es.map El.d)
  | _, _, _, .nil, _ => .nil
  | _, _, _, .cons (e := .fz d) h t, hg => .cons (h.2.mono s) (ElL.treeF s t fun a ha => hg a (List.mem_append_right _ ha))
  | _, _, _, .cons (e := .ow xs) h t, hg => by
    obtain ⟨a, vs, e1, e2, e3, e4⟩ := h
    subst e1
    have q := hg a (List.mem_append_left _ (by simp [e2]))
    exact .cons (.lst (SqX.of (q.trans e3)) (e4.mono s)) (ElL.treeF s t fun a ha => hg a (List.mem_append_right _ ha))
theorem SlH.treeF {Fz' : Hp} {σ0 : L2.St} {g : List Addr} {v : V} {t : Sl} {d : PyData} (h : SlH K Fz H σ0 g (some v) t) (ht : t.tree = some d) (s : Same Fz Fz') (hg : ∀ a ∈ g, Fz' a = H a) : Rp K Fz' v d := by
  cases t with
  | no => cases ht
  | fz d' =>
    cases ht
    obtain ⟨_, v', e1, e2⟩ := h
    cases e1
    exact e2.mono s
  | ol xs =>
    cases ht
    obtain ⟨a, vs, g', e1, e2, e3, e4⟩ := h
    cases e1
    exact .lst (SqX.of ((hg a (by simp [e2])).trans e3)) (e4.treeF s fun c hc => hg c (by simp [e2, hc]))
  | od kvs =>
    cases ht
    obtain ⟨a, e1, e2, e3⟩ := h
    cases e1
    have q := hg a (by simp [e2])
    rcases e3 with ⟨ws, h1, h2⟩ | ⟨ws, h1, h2⟩
    · exact .dK (q.trans h1) (h2.mono s)
    · exact .dT (q.trans h1) (h2.mono s)
  | al x j => cases ht
/-- Fz with the objects at g as they stand -/
def addF (Fz H : Hp) (g : List Addr) : Hp := fun a => if a ∈ g then H a else Fz a
theorem addF_in {Fz H : Hp} {g : List Addr} {a : Addr} (h : a ∈ g) : addF Fz H g a = H a := if_pos h
theorem addF_out {Fz H : Hp} {g : List Addr} {a : Addr} (h : a ∉ g) : addF Fz H g a = Fz a := if_neg h
theorem addF_same {Fz H : Hp} {g : List Addr} (h : ∀ a ∈ g, Fz a = none) : Same Fz (addF Fz H g) := fun a o e => by
  by_cases q : a ∈ g
  · rw [h a q] at e
    cases e
  · rw [addF_out q]
    exact e
theorem addF_le {Fz H : Hp} {g : List Addr} (le : Same Fz H) : Same (addF Fz H g) H := fun a o e => by
  by_cases q : a ∈ g
  · rw [addF_in q] at e
    exact e
  · rw [addF_out q] at e
    exact le a o e
theorem Rl.addF (R : Rl K b Fz F δ σ H) {g : List Addr} (hg : ∀ a ∈ g, Fz a = none ∧ b.B a = none ∧ ∀ i, a ∉ F i) : Same Fz (addF Fz H g) ∧ Rl K b (Hb.addF Fz H g) F δ σ H := by
  have s := addF_same (H := H) fun a ha => (hg a ha).1
  refine ⟨s, R.freeze s (addF_le R.le) fun a h1 h2 => ?_⟩
  by_cases q : a ∈ g
  · exact ⟨(hg a q).2.1, (hg a q).2.2⟩
  · rw [addF_out q] at h2
    exact absurd h1 h2
/-- aliases of slot i are forgotten -/
def dropAl (i : Nat) (δ : List Sl) : List Sl := δ.map fun s => match s with
  | .al x j => if x = i then .no else .al x j
  | s => s
def upS (i : Nat) (s : Sl) (δ : List Sl) : List Sl := (dropAl i δ).set i s
theorem dropAl_at {i k : Nat} {s : Sl} {δ : List Sl} (h : (dropAl i δ)[k]? = some s) : s = .no ∧ (∃ j, δ[k]? = some (.al i j)) ∨ δ[k]? = some s ∧ ∀ j, s ≠ .al i j := by
  unfold dropAl at h
  rw [List.getElem?_map] at h
  cases q : δ[k]? with
  | none =>
    rw [q] at h
    cases h
  | some t =>
    rw [q] at h
    cases t with
    | al x j =>
      by_cases e : x = i
      · subst e
        have h' : some (if x = x then Sl.no else Sl.al x j) = some s := h
        rw [if_pos rfl] at h'
        cases h'
        exact .inl ⟨rfl, j, rfl⟩
      · have h' : some (if x = i then Sl.no else Sl.al x j) = some s := h
        rw [if_neg e] at h'
        cases h'
        exact .inr ⟨rfl, fun j' z => by cases z; exact e rfl⟩
    | no => cases h; exact .inr ⟨rfl, fun j' z => nomatch z⟩
    | fz d => cases h; exact .inr ⟨rfl, fun j' z => nomatch z⟩
    | ol xs => cases h; exact .inr ⟨rfl, fun j' z => nomatch z⟩
    | od kvs => cases h; exact .inr ⟨rfl, fun j' z => nomatch z⟩
theorem dropAl_len {i : Nat} {δ : List Sl} : (dropAl i δ).length = δ.length := by simp [dropAl]
/-- slot i (not pinned, or its value the same) gets another value, another heap of its own -/
theorem Rl.put (R : Rl K b Fz F δ σ H) {i : Nat} {s : Sl} {g : List Addr} {σ' : L2.St} {H' : Hp} {Fz' : Hp} (sF : Same Fz Fz') (leF : Same Fz' H') (hb : Same b.B H')
    (hl : σ'.length = σ.length) (hσ : ∀ k, k ≠ i → σ'[k]? = σ[k]?) (hp : σ'[i]? = σ[i]? ∨ i ∉ b.pin)
    (hs : i < δ.length → SlH K Fz' H' σ' g (σ'[i]?.join) s) (ns : ∀ x j, s = .al x j → x ≠ i ∧ ∃ xs, δ[x]? = some (.ol xs))
    (hg : g.Nodup) (gF : ∀ a ∈ g, Fz' a = none) (gB : ∀ a ∈ g, b.B a = none) (gO : ∀ a ∈ g, ∀ k, k ≠ i → a ∉ F k) (gH : ∀ a ∈ g, H' a ≠ none)
    (oH : ∀ k, k ≠ i → ∀ a ∈ F k, H' a = H a) (oF : ∀ k, k ≠ i → ∀ a ∈ F k, Fz' a = none) (kF : ∀ a, b.B a ≠ none → Fz' a = Fz a) :
    Rl K b Fz' (fun k => if k = i then g else F k) (upS i s δ) σ' H' where
  le := leF
  base := hb
  len := by rw [hl, R.len, upS, List.length_set, dropAl_len]
  slot := fun k t e => by
    by_cases hk : k = i
    · subst hk
      unfold upS at e
      have hlt : k < δ.length := by
        have := (List.getElem?_eq_some_iff.mp e).1
        rw [List.length_set, dropAl_len] at this
        exact this
      rw [List.getElem?_set_self (by rw [dropAl_len]; exact hlt)] at e
      cases e
      rw [if_pos rfl]
      exact hs hlt
    · unfold upS at e
      rw [List.getElem?_set_ne (Ne.symm hk)] at e
      rw [if_neg hk]
      rcases dropAl_at e with ⟨e1, j, e2⟩ | ⟨e1, e2⟩
      · subst e1
        exact (R.slot k _ e2).1
      · have h0 := R.slot k t e1
        rw [hσ k hk]
        have h1 : SlH K Fz' H' σ (F k) (σ[k]?.join) t := h0.keeps sF (oH k hk) fun x j ej a ha => by
          subst ej
          have hx : x ≠ i := fun z => e2 j (by rw [z])
          obtain ⟨xs, hxs⟩ := R.als k x j e1
          obtain ⟨a2, vs2, g2, p1, p2, _⟩ := R.slot x _ hxs
          rw [ha] at p1
          cases p1
          exact oH x hx a (by rw [p2]; exact List.mem_cons_self)
        cases t with
        | al x j =>
          obtain ⟨f0, a1, c1, vs1, f1, f2, f3, f4⟩ := h1
          exact ⟨f0, a1, c1, vs1, by rw [hσ x (fun z => e2 j (by rw [z]))]; exact f1, f2, f3, f4⟩
        | no => exact h1
        | fz d => exact h1
        | ol xs => exact h1
        | od kvs => exact h1
  nd := fun k => by
    by_cases hk : k = i
    · rw [if_pos hk]; exact hg
    · rw [if_neg hk]; exact R.nd k
  dj := fun k l a h1 h2 => by
    by_cases hk : k = i
    · by_cases hl : l = i
      · rw [hk, hl]
      · rw [if_pos hk] at h1
        rw [if_neg hl] at h2
        exact absurd h2 (gO a h1 l hl)
    · by_cases hl : l = i
      · rw [if_pos hl] at h2
        rw [if_neg hk] at h1
        exact absurd h1 (gO a h2 k hk)
      · rw [if_neg hk] at h1
        rw [if_neg hl] at h2
        exact R.dj k l a h1 h2
  offF := fun k a h => by
    by_cases hk : k = i
    · rw [if_pos hk] at h; exact gF a h
    · rw [if_neg hk] at h; exact oF k hk a h
  offB := fun k a h => by
    by_cases hk : k = i
    · rw [if_pos hk] at h; exact gB a h
    · rw [if_neg hk] at h; exact R.offB k a h
  on := fun k a h => by
    by_cases hk : k = i
    · rw [if_pos hk] at h; exact gH a h
    · rw [if_neg hk] at h
      rw [oH k hk a h]
      exact R.on k a h
  keep := fun a h => (kF a h).trans (R.keep a h)
  f0 := R.f0
  pin := fun k hk => by
    by_cases e : k = i
    · subst e
      rcases hp with z | z
      · exact z.trans (R.pin k hk)
      · exact absurd hk z
    · rw [hσ k e]
      exact R.pin k hk
  als := fun k x j e => by
    unfold upS at e ⊢
    by_cases hk : k = i
    · subst hk
      have hlt : k < δ.length := by
        have := (List.getElem?_eq_some_iff.mp e).1
        rw [List.length_set, dropAl_len] at this
        exact this
      rw [List.getElem?_set_self (by rw [dropAl_len]; exact hlt)] at e
      cases e
      obtain ⟨hx, xs, e1⟩ := ns x j rfl
      refine ⟨xs, ?_⟩
      rw [List.getElem?_set_ne (Ne.symm hx), dropAl, List.getElem?_map, e1]
      rfl
    · rw [List.getElem?_set_ne (Ne.symm hk)] at e
      rcases dropAl_at e with ⟨e1, _⟩ | ⟨e1, e2⟩
      · cases e1
      · obtain ⟨xs, e3⟩ := R.als k x j e1
        refine ⟨xs, ?_⟩
        rw [List.getElem?_set_ne (fun z => e2 j (by rw [z])), dropAl, List.getElem?_map, e3]
        rfl
end
end Hb

namespace Hb
open PySem PySem.Spec PyProof.Rows L2

/-! ### stable, taken, moved -/
def sSt (f : List Sl → Rs AV) : List Sl → Rs AV := fun δ => match f δ with
  | .ok (.tmp s) δ' => (match s.tree with
    | some d => .ok (.val d) δ'
    | none => .bad)
  | r => r
/-- the slot i by reference: its tree stands still from now on -/
def takeI (i : Nat) (δ : List Sl) : Rs AV := match δ[i]? with
  | some (.fz d) => .ok (.val d) δ
  | some (.ol xs) => .ok (.val (.list (xs.map El.d))) (upS i (.fz (.list (xs.map El.d))) δ)
  | some (.od kvs) => .ok (.val (.dict kvs)) (upS i (.fz (.dict kvs)) δ)
  | some (.al x j) => (match δ[x]? with
    | some (.ol xs) => (match xs[j]? with
      | some (.fz d) => .ok (.val d) δ
      | _ => .bad)
    | _ => .bad)
  | _ => .bad
def sTk (f : List Sl → Rs AV) : List Sl → Rs AV := fun δ => match sSt f δ with
  | .ok (.ref i) δ' => takeI i δ'
  | r => r
/-- the slot i by reference: its thing is given away -/
def moveI (i : Nat) (δ : List Sl) : Rs AV := match δ[i]? with
  | some (.fz d) => .ok (.val d) δ
  | some (.ol xs) => .ok (.tmp (.ol xs)) (upS i .no δ)
  | some (.od kvs) => .ok (.tmp (.od kvs)) (upS i .no δ)
  | _ => .bad
def sMv (f : List Sl → Rs AV) : List Sl → Rs AV := fun δ => match f δ with
  | .ok (.ref i) δ' => moveI i δ'
  | r => r
section
variable {X : Cx} {W : WX} {pin : List Nat} {e : Expr} {f : List Sl → Rs AV}
theorem se_st (h : SE X W pin e f) : SE X W pin e (sSt f) := pe_mono h fun σ H Q ⟨b, Fz, F, δ, hp, R, P⟩ => by
  refine ⟨b, Fz, F, δ, hp, R, ?_⟩
  unfold sSt at P
  cases q : f δ with
  | bad => rw [q] at P; exact P
  | er x δ' => rw [q] at P; exact P
  | ok a δ' =>
    rw [q] at P
    cases a with
    | val d => exact P
    | ref i => exact P
    | tmp s =>
      intro v H' Fz' F' s1 R' ⟨ht, g, hs, hn, hg⟩
      cases q2 : s.tree with
      | none => rw [q2] at ht; cases ht
      | some d =>
        simp only [q2] at P
        obtain ⟨s2, R2⟩ := R'.addF (g := g) fun a ha => ⟨(hg a ha).1, (hg a ha).2.1, (hg a ha).2.2.2⟩
        exact P v H' _ F' (s1.trans s2) R2 (hs.treeF q2 s2 fun a ha => addF_in ha)
theorem take_ok {K : PySem.W.Frag} {b : Bk} {Fz : Hp} {F : Nat → List Addr} {δ : List Sl} {σ : L2.St} {H : Hp} {i : Nat} {s : Sl} {d : PyData} {v : V} (R : Rl K b Fz F δ σ H) (hs : δ[i]? = some s) (ht : s.tree = some d) (hv : σ[i]? = some (some v)) (na : ∀ x j, s ≠ .al x j) :
    ∃ Fz', Same Fz Fz' ∧ Rl K b Fz' (fun k => if k = i then [] else F k) (upS i (.fz d) δ) σ H ∧ Rp K Fz' v d := by
  have h := R.slot i s hs
  rw [hv] at h
  have sF := addF_same (H := H) (g := F i) fun a ha => R.offF i a ha
  have r : Rp K (addF Fz H (F i)) v d := by
    have h2 : SlH K Fz H [] (F i) (some v) s := by
      cases s with
      | al x j => exact absurd rfl (na x j)
      | _ => exact h
    exact h2.treeF ht sF fun a ha => addF_in ha
  have out : ∀ k, k ≠ i → ∀ a ∈ F k, a ∉ F i := fun k hk a ha hi => hk (R.dj k i a ha hi)
  refine ⟨addF Fz H (F i), sF, R.put sF (addF_le R.le) R.base rfl (fun _ _ => rfl) (.inl rfl) (fun _ => ⟨rfl, v, by rw [hv]; rfl, r⟩) (fun x j z => nomatch z) List.nodup_nil (fun _ z => nomatch z) (fun _ z => nomatch z) (fun _ z => nomatch z) (fun _ z => nomatch z) (fun _ _ _ _ => rfl) (fun k hk a ha => ?_) (fun a ha => ?_), r⟩
  · rw [addF_out (out k hk a ha)]
    exact R.offF k a ha
  · exact addF_out fun hi => ha (R.offB i a hi)
theorem post_take {K : PySem.W.Frag} {mg : Str → Option Value} {W : WX} {b : Bk} {Fz : Hp} {F : Nat → List Addr} {δ : List Sl} {σ : L2.St} {H : Hp} {Q : VK} {i : Nat} {v : V} (R : Rl K b Fz F δ σ H) (hv : σ[i]? = some (some v)) (P : Post K mg W b Fz σ Q (takeI i δ)) : Q v H := by
  unfold takeI at P
  cases q : δ[i]? with
  | none => simp only [q] at P; exact P.elim
  | some s =>
    cases s with
    | no => simp only [q] at P; exact P.elim
    | fz d =>
      simp only [q] at P
      obtain ⟨_, v', e1, e2⟩ := R.slot i _ q
      rw [hv] at e1
      cases e1
      exact P v H Fz F (Same.refl _) R e2
    | ol xs =>
      simp only [q] at P
      obtain ⟨Fz', s1, R', r⟩ := take_ok R q rfl hv (fun _ _ z => nomatch z)
      exact P v H Fz' _ s1 R' r
    | od kvs =>
      simp only [q] at P
      obtain ⟨Fz', s1, R', r⟩ := take_ok R q rfl hv (fun _ _ z => nomatch z)
      exact P v H Fz' _ s1 R' r
    | al x j =>
      simp only [q] at P
      cases q2 : δ[x]? with
      | none => simp only [q2] at P; exact P.elim
      | some t =>
        cases t with
        | ol xs =>
          simp only [q2] at P
          cases q3 : xs[j]? with
          | none => simp only [q3] at P; exact P.elim
          | some el =>
            cases el with
            | ow ys => simp only [q3] at P; exact P.elim
            | fz d =>
              simp only [q3] at P
              obtain ⟨g, e1, _⟩ := R.al q q2 q3 hv
              exact P v H Fz F (Same.refl _) R e1.2
        | _ => simp only [q2] at P; exact P.elim
theorem se_tk (h : SE X W pin e f) : SE X W pin e (sTk f) := pe_mono (se_st h) fun σ H Q ⟨b, Fz, F, δ, hp, R, P⟩ => by
  refine ⟨b, Fz, F, δ, hp, R, ?_⟩
  unfold sTk at P
  cases q : sSt f δ with
  | bad => rw [q] at P; exact P
  | er x δ' => rw [q] at P; exact P
  | ok a δ' =>
    rw [q] at P
    cases a with
    | val d => exact P
    | tmp s => exact P
    | ref i => exact fun v H' Fz' F' s1 R' hv => post_take R' hv (P.le s1)
theorem se_mv (h : SE X W pin e f) : SE X W pin e (sMv f) := pe_mono h fun σ H Q ⟨b, Fz, F, δ, hp, R, P⟩ => by
  refine ⟨b, Fz, F, δ, hp, R, ?_⟩
  unfold sMv at P
  cases q : f δ with
  | bad => rw [q] at P; exact P
  | er x δ' => rw [q] at P; exact P
  | ok a δ' =>
    rw [q] at P
    cases a with
    | val d => exact P
    | tmp s => exact P
    | ref i =>
      intro v H' Fz' F' s1 R' hv
      have hv' : σ[i]? = some (some v) := hv
      have P' := P.le s1
      unfold moveI at P'
      have go : ∀ s : Sl, δ'[i]? = some s → s.tree.isSome = true → (∀ x j, s ≠ .al x j) → (∀ d, s ≠ .fz d) → Post X.K X.mg W b Fz' σ Q (.ok (.tmp s) (upS i .no δ')) → Q v H' := fun s hs ht na nf PP => by
        have h0 := R'.slot i s hs
        rw [hv'] at h0
        have h2 : SlH X.K Fz' H' [] (F' i) (some v) s := by
          cases s with
          | al x j => exact absurd rfl (na x j)
          | _ => exact h0
        have R2 := R'.put (i := i) (s := .no) (g := []) (Same.refl _) R'.le R'.base rfl (fun _ _ => rfl) (.inl rfl) (fun _ => rfl) (fun x j z => nomatch z) List.nodup_nil (fun _ z => nomatch z) (fun _ z => nomatch z) (fun _ z => nomatch z) (fun _ z => nomatch z) (fun _ _ _ _ => rfl) (fun k _ a ha => R'.offF k a ha) (fun _ _ => rfl)
        refine PP v H' Fz' _ (Same.refl _) R2 ⟨ht, F' i, h2, R'.nd i, fun a ha => ⟨R'.offF i a ha, R'.offB i a ha, R'.on i a ha, fun k hk => ?_⟩⟩
        have hk' : a ∈ (if k = i then [] else F' k) := hk
        by_cases e : k = i
        · rw [if_pos e] at hk'
          cases hk'
        · rw [if_neg e] at hk'
          exact e (R'.dj k i a hk' ha)
      cases q2 : δ'[i]? with
      | none => simp only [q2] at P'; exact P'.elim
      | some s =>
        cases s with
        | no => simp only [q2] at P'; exact P'.elim
        | fz d =>
          simp only [q2] at P'
          obtain ⟨_, v', e1, e2⟩ := R'.slot i _ q2
          rw [hv'] at e1
          cases e1
          exact P' v H' Fz' F' (Same.refl _) R' e2
        | ol xs =>
          simp only [q2] at P'
          exact go _ q2 rfl (fun _ _ z => nomatch z) (fun _ z => nomatch z) P'
        | od kvs =>
          simp only [q2] at P'
          exact go _ q2 rfl (fun _ _ z => nomatch z) (fun _ z => nomatch z) P'
        | al x j => simp only [q2] at P'; exact P'.elim
end

/-! ### constants and names -/
def sC (d : PyData) : List Sl → Rs AV := fun δ => .ok (.val d) δ
def sVar (i : Nat) : List Sl → Rs AV := fun δ => match δ[i]? with
  | some (.fz d) => .ok (.val d) δ
  | some (.ol _) => .ok (.ref i) δ
  | some (.od _) => .ok (.ref i) δ
  | some (.al _ _) => .ok (.ref i) δ
  | _ => .bad
section
variable {X : Cx} {W : WX} {pin : List Nat} {pos : Pos}
theorem se_int {i : Int} {j : Nat} : SE X W pin (.Constant (.int i) j pos) (sC (.int i)) := pe_mono pe_int fun σ H Q ⟨b, Fz, F, δ, hp, R, P⟩ => P _ H Fz F (Same.refl _) R (.int i)
theorem se_bl {i : Bool} {j : Nat} : SE X W pin (.Constant (.bool i) j pos) (sC (.bool i)) := pe_mono pe_bl fun σ H Q ⟨b, Fz, F, δ, hp, R, P⟩ => P _ H Fz F (Same.refl _) R (.bl i)
theorem se_non {j : Nat} : SE X W pin (.Constant .none j pos) (sC .none) := pe_mono pe_non fun σ H Q ⟨b, Fz, F, δ, hp, R, P⟩ => P _ H Fz F (Same.refl _) R .non
theorem se_str {x : Str} {j : Nat} : SE X W pin (.Constant (.str x) j pos) (sC (.str x)) := pe_mono pe_str fun σ H Q ⟨b, Fz, F, δ, hp, R, P⟩ => P _ H Fz F (Same.refl _) R (.str x)
theorem se_globI {x : Str} {i : Int} (hg : Gl X x) (hm : ∃ t, X.mg x = some (.int i t)) (hd : (x == ("__debug__" : Str)) = false := by decide) : SE X W pin (.Name x pos) (sC (.int i)) := by
  obtain ⟨t, hm⟩ := hm
  exact pe_mono (pe_glob hg hm (v := .int i) ⟨t, rfl⟩ hd) fun σ H Q ⟨b, Fz, F, δ, hp, R, P⟩ => P _ H Fz F (Same.refl _) R (.int i)
theorem se_globS {x z : Str} (hg : Gl X x) (hm : ∃ t, X.mg x = some (.str z t)) (hd : (x == ("__debug__" : Str)) = false := by decide) : SE X W pin (.Name x pos) (sC (.str z)) := by
  obtain ⟨t, hm⟩ := hm
  exact pe_mono (pe_glob hg hm (v := .str z) ⟨t, rfl⟩ hd) fun σ H Q ⟨b, Fz, F, δ, hp, R, P⟩ => P _ H Fz F (Same.refl _) R (.str z)
theorem post_var {K : PySem.W.Frag} {mg : Str → Option Value} {b : Bk} {Fz : Hp} {F : Nat → List Addr} {δ : List Sl} {σ : L2.St} {H : Hp} {Q : VK} {i : Nat} (R : Rl K b Fz F δ σ H) (P : Post K mg W b Fz σ Q (sVar i δ)) : ∃ v, σ[i]? = some (some v) ∧ Q v H := by
  unfold sVar at P
  cases q : δ[i]? with
  | none => simp only [q] at P; exact P.elim
  | some s =>
    have h := R.slot i s q
    cases s with
    | no => simp only [q] at P; exact P.elim
    | fz d =>
      simp only [q] at P
      obtain ⟨_, v, e1, e2⟩ := h
      exact ⟨v, join_some e1, P v H Fz F (Same.refl _) R e2⟩
    | ol xs =>
      simp only [q] at P
      obtain ⟨a, vs, g, e1, _⟩ := h
      exact ⟨_, join_some e1, P _ H Fz F (Same.refl _) R (join_some e1)⟩
    | od kvs =>
      simp only [q] at P
      obtain ⟨a, e1, _⟩ := h
      exact ⟨_, join_some e1, P _ H Fz F (Same.refl _) R (join_some e1)⟩
    | al x j =>
      simp only [q] at P
      obtain ⟨_, a, c, vs, _, _, _, e1⟩ := h
      exact ⟨_, join_some e1, P _ H Fz F (Same.refl _) R (join_some e1)⟩
theorem se_var (i : Nat) {x : Str} (hN : X.N[i]? = some x := by rfl) (hv : Vis X.env.scope x := by first | exact Or.inl rfl | exact Or.inr (Or.inl rfl) | exact Or.inr (Or.inr rfl)) (hd : (x == ("__debug__" : Str)) = false := by decide)
    (hcd : (x == ("__classdict__" : Str)) = false := by decide) : SE X W pin (.Name x pos) (sVar i) := pe_mono (pe_var hN hv hd hcd) fun σ H Q ⟨b, Fz, F, δ, hp, R, P⟩ => post_var R P
end

/-! ### two operands -/
def s2 (g : AV → AV → List Sl → Rs AV) (fa fb : List Sl → Rs AV) : List Sl → Rs AV := fun δ => (sSt fa δ).bind fun x δ1 => (sSt fb δ1).bind fun y δ2 => g x y δ2
def s1 (g : AV → List Sl → Rs AV) (fa : List Sl → Rs AV) : List Sl → Rs AV := fun δ => (sSt fa δ).bind fun x δ1 => g x δ1
section
variable (K : PySem.W.Frag) (mg : Str → Option Value) (W : WX) (pin : List Nat)
def V2 (r : R2) (g : AV → AV → List Sl → Rs AV) : Prop := ∀ b Fz F δ σ H v w x y Q, b.pin = pin → Rl K b Fz F δ σ H → AvS K Fz σ v x → AvS K Fz σ w y → Post K mg W b Fz σ Q (g x y δ) → r v w H Q
def V1 (r : V → Hp → VK → Prop) (g : AV → List Sl → Rs AV) : Prop := ∀ b Fz F δ σ H v x Q, b.pin = pin → Rl K b Fz F δ σ H → AvS K Fz σ v x → Post K mg W b Fz σ Q (g x δ) → r v H Q
end
section
variable {X : Cx} {W : WX} {pin : List Nat} {fa fb : List Sl → Rs AV}
theorem sSt_notmp (f : List Sl → Rs AV) (δ : List Sl) (s : Sl) (δ' : List Sl) : sSt f δ ≠ .ok (.tmp s) δ' := by
  unfold sSt
  cases q : f δ with
  | bad => exact fun z => nomatch z
  | er x δ' => exact fun z => nomatch z
  | ok a δ2 =>
    cases a with
    | val d => exact fun z => nomatch z
    | ref i => exact fun z => nomatch z
    | tmp t =>
      cases q2 : t.tree with
      | none => simp only [q2]; exact fun z => nomatch z
      | some d => simp only [q2]; exact fun z => nomatch z
/-- behind one stable operand -/
theorem rd_bind {K : PySem.W.Frag} {mg : Str → Option Value} {σ : L2.St} {H : Hp} {b : Bk} {Fz : Hp} {F : Nat → List Addr} {δ : List Sl} {k : AV → List Sl → Rs AV} {Q R : VK} (hp : b.pin = pin) (Rr : Rl K b Fz F δ σ H) (P : Post K mg W b Fz σ Q ((sSt fa δ).bind k))
    (h : ∀ v H' Fz' F' x δ', Same Fz Fz' → Rl K b Fz' F' δ' σ H' → AvS K Fz' σ v x → Post K mg W b Fz' σ Q (k x δ') → R v H') : rdE K mg W pin (sSt fa) σ H R := by
  refine ⟨b, Fz, F, δ, hp, Rr, ?_⟩
  cases q : sSt fa δ with
  | bad => rw [q] at P; exact P
  | er x δ' => rw [q] at P; exact P
  | ok a δ' =>
    rw [q] at P
    intro v H' Fz' F' s R' A
    cases a with
    | tmp t => exact absurd q (sSt_notmp _ _ _ _)
    | val d => exact h v H' Fz' F' (.val d) δ' s R' A (Post.le s P)
    | ref i => exact h v H' Fz' F' (.ref i) δ' s R' A (Post.le s P)
theorem t2_ok {a c : Expr} {g : AV → AV → List Sl → Rs AV} {r : R2} (hv : V2 X.K X.mg W pin r g) : ∀ σ H Q, rdE X.K X.mg W pin (s2 g fa fb) σ H Q → tOp r (rdE X.K X.mg W pin (sSt fa)) (rdE X.K X.mg W pin (sSt fb)) σ H Q := fun σ H Q ⟨b, Fz, F, δ, hp, R, P⟩ => by
  refine rd_bind hp R P fun v H1 Fz1 F1 x δ1 s1 R1 A1 P1 => ?_
  refine rd_bind hp R1 P1 fun w H2 Fz2 F2 y δ2 s2 R2 A2 P2 => ?_
  exact hv b Fz2 F2 δ2 σ H2 v w x y Q hp R2 (A1.le s2) A2 P2
theorem t1_ok {g : AV → List Sl → Rs AV} {r : V → Hp → VK → Prop} (hv : V1 X.K X.mg W pin r g) : ∀ σ H Q, rdE X.K X.mg W pin (s1 g fa) σ H Q → tUn r (rdE X.K X.mg W pin (sSt fa)) σ H Q := fun σ H Q ⟨b, Fz, F, δ, hp, R, P⟩ => by
  refine rd_bind hp R P fun v H1 Fz1 F1 x δ1 s1 R1 A1 P1 => ?_
  exact hv b Fz1 F1 δ1 σ H1 v x Q hp R1 A1 P1
theorem se_bin {a c : Expr} {op : Operator} {pos : Pos} {g : AV → AV → List Sl → Rs AV} {r : R2} (ho : OpR X (binaryOp op) r) (hv : V2 X.K X.mg W pin r g) (ha : SE X W pin a fa) (hb : SE X W pin c fb) : SE X W pin (.BinOp a op c pos) (s2 g fa fb) :=
  pe_mono (pe_op ho (se_st ha) (se_st hb)) (t2_ok (a := a) (c := c) hv)
theorem se_cmp {a c : Expr} {op : CmpOp} {pos : Pos} {g : AV → AV → List Sl → Rs AV} {r : R2} (ho : OpR X (compareOp op) r) (hv : V2 X.K X.mg W pin r g) (ha : SE X W pin a fa) (hb : SE X W pin c fb) (hm : behindInMarks op c = false) : SE X W pin (.Compare a [op] [c] pos) (s2 g fa fb) :=
  pe_mono (pe_cmpR ho (se_st ha) (se_st hb) hm) (t2_ok (a := a) (c := c) hv)
theorem se_ix {a c : Expr} {pos : Pos} {g : AV → AV → List Sl → Rs AV} {r : R2} (hr : IxR X r) (hv : V2 X.K X.mg W pin r g) (ha : SE X W pin a fa) (hb : SE X W pin c fb) (hs : PlainIx c) : SE X W pin (.Subscript a c pos) (s2 g fa fb) :=
  pe_mono (pe_ix hr (se_st ha) (se_st hb) hs) (t2_ok (a := a) (c := c) hv)
theorem se_un {a : Expr} {op : UnaryOp} {pos : Pos} {g : AV → List Sl → Rs AV} {r : V → Hp → VK → Prop} (ho : UnR X (unaryOp op) r) (hv : V1 X.K X.mg W pin r g) (ha : SE X W pin a fa) : SE X W pin (.UnaryOp op a pos) (s1 g fa) :=
  pe_mono (pe_un ho (se_st ha)) (t1_ok hv)
/-- a test by a comparison -/
def sTst (f : List Sl → Rs AV) : List Sl → Rs Bool := fun δ => (f δ).bind fun a δ' => match a with
  | .val (.bool k) => .ok k δ'
  | _ => .bad
theorem tst_ok {K : PySem.W.Frag} {mg : Str → Option Value} {f : List Sl → Rs AV} : ∀ σ H Q, rdT K mg W pin (sTst f) σ H Q → rdE K mg W pin f σ H (fun x H' => ∃ k, x = .bl k ∧ Q k H') := fun σ H Q ⟨b, Fz, F, δ, hp, R, P⟩ => by
  refine ⟨b, Fz, F, δ, hp, R, ?_⟩
  unfold sTst at P
  cases q : f δ with
  | bad => rw [q] at P; exact P
  | er x δ' => rw [q] at P; exact P
  | ok a δ' =>
    rw [q] at P
    cases a with
    | tmp s => exact P.elim
    | ref i => exact P.elim
    | val d =>
      cases d with
      | bool k =>
        intro v H' Fz' F' s R' A
        cases (show Rp K Fz' v (.bool k) from A)
        exact ⟨k, rfl, P H' Fz' F' s R'⟩
      | _ => exact P.elim
theorem st_cmp {a c : Expr} {op : CmpOp} {pos : Pos} {g : AV → AV → List Sl → Rs AV} {r : R2} (ho : OpR X (compareOp op) r) (hv : V2 X.K X.mg W pin r g) (ha : SE X W pin a fa) (hb : SE X W pin c fb) (hm : behindInMarks op c = false) : ST X W pin (.Compare a [op] [c] pos) (sTst (s2 g fa fb)) :=
  pt_mono (pt_cmpR ho (se_st ha) (se_st hb) hm) fun σ H Q h => t2_ok (a := a) (c := c) hv σ H _ (tst_ok σ H Q h)
/-! ### truth -/
def truD : PyData → Option Bool
  | .none => some false
  | .bool b => some b
  | .int i => some (i != 0)
  | .list ds => some !ds.isEmpty
  | .tuple ds => some !ds.isEmpty
  | _ => none
theorem RpL.isEmpty {K : PySem.W.Frag} {H : Hp} {vs : List V} {ds : List PyData} (h : RpL K H vs ds) : vs.isEmpty = ds.isEmpty := by
  cases h <;> rfl
theorem truD_ok {K : PySem.W.Frag} {H : Hp} {v : V} {d : PyData} {k : Bool} (r : Rp K H v d) (h : truD d = some k) : TruV K v H k := by
  cases r with
  | non => cases h; rfl
  | bl b => cases h; rfl
  | int i => cases h; rfl
  | str x => cases h
  | lst h1 h2 => cases h; exact .inl ⟨_, h1.sq, by rw [h2.isEmpty]⟩
  | tup h1 h2 => cases h; exact .inr (.inl ⟨_, h1, by rw [h2.isEmpty]⟩)
  | dK h1 h2 => cases h
  | dT h1 h2 => cases h
def sTru (f : List Sl → Rs AV) : List Sl → Rs Bool := fun δ => (sSt f δ).bind fun a δ' => match (rdA δ' a).bind truD with
  | some k => .ok k δ'
  | none => .bad
theorem rd_bindT {K : PySem.W.Frag} {mg : Str → Option Value} {σ : L2.St} {H : Hp} {b : Bk} {Fz : Hp} {F : Nat → List Addr} {δ : List Sl} {k : AV → List Sl → Rs Bool} {Q : Bool → Hp → Prop} {R : VK} (hp : b.pin = pin) (Rr : Rl K b Fz F δ σ H) (P : PostT K mg W b Fz σ Q ((sSt fa δ).bind k))
    (h : ∀ v H' Fz' F' x δ', Same Fz Fz' → Rl K b Fz' F' δ' σ H' → AvS K Fz' σ v x → PostT K mg W b Fz' σ Q (k x δ') → R v H') : rdE K mg W pin (sSt fa) σ H R := by
  refine ⟨b, Fz, F, δ, hp, Rr, ?_⟩
  cases q : sSt fa δ with
  | bad => rw [q] at P; exact P
  | er x δ' => rw [q] at P; exact P
  | ok a δ' =>
    rw [q] at P
    intro v H' Fz' F' s R' A
    cases a with
    | tmp t => exact absurd q (sSt_notmp _ _ _ _)
    | val d => exact h v H' Fz' F' (.val d) δ' s R' A (PostT.le s P)
    | ref i => exact h v H' Fz' F' (.ref i) δ' s R' A (PostT.le s P)
theorem tru_mono {K : PySem.W.Frag} {mg : Str → Option Value} : ∀ σ H Q, rdT K mg W pin (sTru fa) σ H Q → rdE K mg W pin (sSt fa) σ H fun x H' => ∃ k, TruV K x H' k ∧ Q k H' := fun σ H Q ⟨b, Fz, F, δ, hp, R, P⟩ => by
  refine rd_bindT hp R P fun v H1 Fz1 F1 x δ1 s1 R1 A1 P1 => ?_
  cases q : rdA δ1 x with
  | none => simp only [q, Option.bind_none] at P1; exact P1.elim
  | some d =>
    cases q2 : truD d with
    | none => simp only [q, Option.bind_some, q2] at P1; exact P1.elim
    | some k =>
      simp only [q, Option.bind_some, q2] at P1
      exact ⟨k, truD_ok (rdA_ok R1 A1 q) q2, P1 H1 Fz1 F1 (Same.refl _) R1⟩
theorem st_tru {a : Expr} (ha : SE X W pin a fa) (he : ∀ whole, isTrue a X.env whole = (do let v ← whole; standAt a.pos; holding [v] (truthy v)) := by intro _; rfl) : ST X W pin a (sTru fa) :=
  pt_mono (pt_truth (se_st ha) he) fun σ H Q h => tru_mono σ H Q h
def sNot (t : List Sl → Rs Bool) : List Sl → Rs Bool := fun δ => (t δ).bind fun k δ' => .ok (!k) δ'
def sAnd (t u : List Sl → Rs Bool) : List Sl → Rs Bool := fun δ => (t δ).bind fun k δ' => if k = true then u δ' else .ok false δ'
def sOr (t u : List Sl → Rs Bool) : List Sl → Rs Bool := fun δ => (t δ).bind fun k δ' => if k = true then .ok true δ' else u δ'
def sIf (t : List Sl → Rs Bool) (f g : List Sl → Rs AV) : List Sl → Rs AV := fun δ => (t δ).bind fun k δ' => if k = true then f δ' else g δ'
/-- a test's value -/
def sVal (t : List Sl → Rs Bool) : List Sl → Rs AV := fun δ => (t δ).bind fun k δ' => .ok (.val (.bool k)) δ'
section
variable {K : PySem.W.Frag} {mg : Str → Option Value} {σ : L2.St} {H : Hp} {b : Bk} {Fz : Hp} {F : Nat → List Addr} {δ : List Sl} {t : List Sl → Rs Bool}
theorem rdT_bind {k : Bool → List Sl → Rs Bool} {Q : Bool → Hp → Prop} {R : Bool → Hp → Prop} (hp : b.pin = pin) (Rr : Rl K b Fz F δ σ H) (P : PostT K mg W b Fz σ Q ((t δ).bind k))
    (h : ∀ c H' Fz' F' δ', Same Fz Fz' → Rl K b Fz' F' δ' σ H' → PostT K mg W b Fz' σ Q (k c δ') → R c H') : rdT K mg W pin t σ H R := by
  refine ⟨b, Fz, F, δ, hp, Rr, ?_⟩
  cases q : t δ with
  | bad => rw [q] at P; exact P
  | er x δ' => rw [q] at P; exact P
  | ok a δ' =>
    rw [q] at P
    exact fun H' Fz' F' s R' => h a H' Fz' F' δ' s R' (PostT.le s P)
theorem rdT_bindE {k : Bool → List Sl → Rs AV} {Q : VK} {R : Bool → Hp → Prop} (hp : b.pin = pin) (Rr : Rl K b Fz F δ σ H) (P : Post K mg W b Fz σ Q ((t δ).bind k))
    (h : ∀ c H' Fz' F' δ', Same Fz Fz' → Rl K b Fz' F' δ' σ H' → Post K mg W b Fz' σ Q (k c δ') → R c H') : rdT K mg W pin t σ H R := by
  refine ⟨b, Fz, F, δ, hp, Rr, ?_⟩
  cases q : t δ with
  | bad => rw [q] at P; exact P
  | er x δ' => rw [q] at P; exact P
  | ok a δ' =>
    rw [q] at P
    exact fun H' Fz' F' s R' => h a H' Fz' F' δ' s R' (Post.le s P)
end
variable {a c d : Expr} {rest : List Expr} {pos : Pos} {t u : List Sl → Rs Bool} {f g : List Sl → Rs AV}
theorem st_not (h : ST X W pin a t) : ST X W pin (.UnaryOp .Not a pos) (sNot t) := pt_mono (pt_not h) fun σ H Q ⟨b, Fz, F, δ, hp, R, P⟩ =>
  rdT_bind hp R P fun c H' Fz' F' δ' s R' P' => P' H' Fz' F' (Same.refl _) R'
abbrev SW (X : Cx) (W : WX) (pin : List Nat) (e : Expr) (f : List Sl → Rs Bool) : Prop := PW X e (rdT X.K X.mg W pin f)
theorem pw_mono {e : Expr} {t t' : TT} (h : PW X e t) (i : ∀ σ H Q, t' σ H Q → t σ H Q) : PW X e t' := ⟨fun wh pins s σ H Q I q => h.run wh pins s σ H Q I (i σ H Q q)⟩
theorem sw_and1 (h : ST X W pin a t) : SW X W pin (.BoolOp .And [a] pos) t := pw_and1 h
theorem sw_or1 (h : ST X W pin a t) : SW X W pin (.BoolOp .Or [a] pos) t := pw_or1 h
theorem sw_and (h : ST X W pin a t) (h2 : SW X W pin (.BoolOp .And (c :: rest) pos) u) : SW X W pin (.BoolOp .And (a :: c :: rest) pos) (sAnd t u) := pw_mono (pw_and h h2) fun σ H Q ⟨b, Fz, F, δ, hp, R, P⟩ =>
  rdT_bind hp R P fun k H' Fz' F' δ' s R' P' => by
    by_cases e : k = true
    · rw [if_pos e] at P' ⊢
      exact ⟨b, Fz', F', δ', hp, R', P'⟩
    · rw [if_neg e] at P' ⊢
      exact P' H' Fz' F' (Same.refl _) R'
theorem sw_or (h : ST X W pin a t) (h2 : SW X W pin (.BoolOp .Or (c :: rest) pos) u) : SW X W pin (.BoolOp .Or (a :: c :: rest) pos) (sOr t u) := pw_mono (pw_or h h2) fun σ H Q ⟨b, Fz, F, δ, hp, R, P⟩ =>
  rdT_bind hp R P fun k H' Fz' F' δ' s R' P' => by
    by_cases e : k = true
    · rw [if_pos e] at P' ⊢
      exact P' H' Fz' F' (Same.refl _) R'
    · rw [if_neg e] at P' ⊢
      exact ⟨b, Fz', F', δ', hp, R', P'⟩
theorem st_w (h : SW X W pin a t) : ST X W pin a t := h.pt
theorem se_if (hc : ST X W pin a t) (ha : SE X W pin c f) (hb : SE X W pin d g) : SE X W pin (.IfExp a c d pos) (sIf t f g) := pe_mono (pe_ifExp hc ha hb) fun σ H Q ⟨b, Fz, F, δ, hp, R, P⟩ =>
  rdT_bindE hp R P fun k H' Fz' F' δ' s R' P' => by
    by_cases e : k = true
    · rw [if_pos e] at P' ⊢
      exact ⟨b, Fz', F', δ', hp, R', P'⟩
    · rw [if_neg e] at P' ⊢
      exact ⟨b, Fz', F', δ', hp, R', P'⟩
/-- and, or, not as values: the value's truth decides -/
def sAndV (f g : List Sl → Rs AV) : List Sl → Rs AV := fun δ => (sSt f δ).bind fun a δ' => match (rdA δ' a).bind truD with
  | some k => if k = true then g δ' else .ok a δ'
  | none => .bad
def sOrV (f g : List Sl → Rs AV) : List Sl → Rs AV := fun δ => (sSt f δ).bind fun a δ' => match (rdA δ' a).bind truD with
  | some k => if k = true then .ok a δ' else g δ'
  | none => .bad
def gNot (a : AV) (δ : List Sl) : Rs AV := match (rdA δ a).bind truD with
  | some k => .ok (.val (.bool !k)) δ
  | none => .bad
theorem se_and (ha : SE X W pin a f) (hb : SE X W pin (.BoolOp .And (c :: rest) pos) g) : SE X W pin (.BoolOp .And (a :: c :: rest) pos) (sAndV f g) := pe_mono (pe_andT (se_st ha) hb) fun σ H Q ⟨b, Fz, F, δ, hp, R, P⟩ =>
  rd_bind hp R P fun v H1 Fz1 F1 x δ1 s1 R1 A1 P1 => by
    cases q : rdA δ1 x with
    | none => simp only [q, Option.bind_none] at P1; exact P1.elim
    | some d =>
      cases q2 : truD d with
      | none => simp only [q, Option.bind_some, q2] at P1; exact P1.elim
      | some k =>
        simp only [q, Option.bind_some, q2] at P1
        refine ⟨k, truD_ok (rdA_ok R1 A1 q) q2, ?_⟩
        by_cases e : k = true
        · rw [if_pos e] at P1 ⊢
          exact ⟨b, Fz1, F1, δ1, hp, R1, P1⟩
        · rw [if_neg e] at P1 ⊢
          exact P1 v H1 Fz1 F1 (Same.refl _) R1 (AvR.of A1)
theorem se_or (ha : SE X W pin a f) (hb : SE X W pin (.BoolOp .Or (c :: rest) pos) g) : SE X W pin (.BoolOp .Or (a :: c :: rest) pos) (sOrV f g) := pe_mono (pe_orT (se_st ha) hb) fun σ H Q ⟨b, Fz, F, δ, hp, R, P⟩ =>
  rd_bind hp R P fun v H1 Fz1 F1 x δ1 s1 R1 A1 P1 => by
    cases q : rdA δ1 x with
    | none => simp only [q, Option.bind_none] at P1; exact P1.elim
    | some d =>
      cases q2 : truD d with
      | none => simp only [q, Option.bind_some, q2] at P1; exact P1.elim
      | some k =>
        simp only [q, Option.bind_some, q2] at P1
        refine ⟨k, truD_ok (rdA_ok R1 A1 q) q2, ?_⟩
        by_cases e : k = true
        · rw [if_pos e] at P1 ⊢
          exact P1 v H1 Fz1 F1 (Same.refl _) R1 (AvR.of A1)
        · rw [if_neg e] at P1 ⊢
          exact ⟨b, Fz1, F1, δ1, hp, R1, P1⟩
theorem se_oneO (ha : SE X W pin a f) : SE X W pin (.BoolOp .Or [a] pos) f := ha_one ha
where ha_one {X : Cx} {W : WX} {pin : List Nat} {a : Expr} {f : List Sl → Rs AV} {pos : Pos} (ha : SE X W pin a f) : SE X W pin (.BoolOp .Or [a] pos) f := pe_one ha
theorem se_oneA (ha : SE X W pin a f) : SE X W pin (.BoolOp .And [a] pos) f := pe_one ha
theorem se_not (ha : SE X W pin a f) : SE X W pin (.UnaryOp .Not a pos) (s1 gNot f) := pe_mono (pe_notT (se_st ha)) fun σ H Q ⟨b, Fz, F, δ, hp, R, P⟩ =>
  rd_bind hp R P fun v H1 Fz1 F1 x δ1 s1 R1 A1 P1 => by
    unfold gNot at P1
    cases q : rdA δ1 x with
    | none => simp only [q, Option.bind_none] at P1; exact P1.elim
    | some d =>
      cases q2 : truD d with
      | none => simp only [q, Option.bind_some, q2] at P1; exact P1.elim
      | some k =>
        simp only [q, Option.bind_some, q2] at P1
        exact ⟨k, truD_ok (rdA_ok R1 A1 q) q2, P1 _ H1 Fz1 F1 (Same.refl _) R1 (.bl _)⟩
end
end Hb

namespace Hb
open PySem PySem.Spec PyProof.Rows L2

abbrev cap : Nat := 1000000
theorem cap_line : cap + cap < sizeLine := by rw [sizeLine_eq]; decide
theorem le_line {n : Nat} (h : n ≤ cap) : n ≤ sizeLine := Nat.le_trans h (by rw [sizeLine_eq]; decide)
theorem lt_line {n : Nat} (h : n ≤ cap) : n < sizeLine := Nat.lt_of_le_of_lt h (by rw [sizeLine_eq]; decide)

/-! ### ints -/
def gI (C : Int → Int → Bool) (g : Int → Int → Int) (x y : AV) (δ : List Sl) : Rs AV := match rdC δ x, rdC δ y with
  | some (.int i), some (.int j) => if C i j = true then .ok (.val (.int (g i j))) δ else .bad
  | _, _ => .bad
def gB (g : Int → Int → Bool) (x y : AV) (δ : List Sl) : Rs AV := match rdC δ x, rdC δ y with
  | some (.int i), some (.int j) => .ok (.val (.bool (g i j))) δ
  | _, _ => .bad
def gNeg (x : AV) (δ : List Sl) : Rs AV := match rdC δ x with
  | some (.int i) => .ok (.val (.int (-i))) δ
  | _ => .bad
theorem rpc_int {K : PySem.W.Frag} {Fz H : Hp} {v : V} {i : Int} (h : RpC K Fz H v (.int i)) : v = .int i := by
  rcases h with h | ⟨a, vs, ds, e1, e2, _⟩
  · cases h; rfl
  · cases e2
theorem rpc_str {K : PySem.W.Frag} {Fz H : Hp} {v : V} {i : Str} (h : RpC K Fz H v (.str i)) : v = .str i := by
  rcases h with h | ⟨a, vs, ds, e1, e2, _⟩
  · cases h; rfl
  · cases e2
theorem rpc_non {K : PySem.W.Frag} {Fz H : Hp} {v : V} (h : RpC K Fz H v .none) : v = .non := by
  rcases h with h | ⟨a, vs, ds, e1, e2, _⟩
  · cases h; rfl
  · cases e2
theorem rpc_bl {K : PySem.W.Frag} {Fz H : Hp} {v : V} {i : Bool} (h : RpC K Fz H v (.bool i)) : v = .bl i := by
  rcases h with h | ⟨a, vs, ds, e1, e2, _⟩
  · cases h; rfl
  · cases e2
section
variable {K : PySem.W.Frag} {mg : Str → Option Value} {W : WX} {pin : List Nat}
theorem v2_i {C : Int → Int → Bool} {C' : Int → Int → Prop} {g : Int → Int → Int} (hC : ∀ i j, C i j = true → C' i j) : V2 K mg W pin (rI C' fun i j => .int (g i j)) (gI C g) := by
  intro b Fz F δ σ H v w x y Q hp R A B P
  unfold gI at P
  cases q1 : rdC δ x with
  | none => simp only [q1] at P; exact P.elim
  | some d =>
    cases q2 : rdC δ y with
    | none => cases d <;> (simp only [q1, q2] at P; exact P.elim)
    | some e =>
      cases d with
      | int i =>
        cases e with
        | int j =>
          simp only [q1, q2] at P
          by_cases c : C i j = true
          · rw [if_pos c] at P
            exact ⟨i, j, rpc_int (rdC_ok R A q1), rpc_int (rdC_ok R B q2), hC i j c, P _ H Fz F (Same.refl _) R (.int _)⟩
          · rw [if_neg c] at P
            exact P.elim
        | _ => simp only [q1, q2] at P; exact P.elim
      | _ => simp only [q1, q2] at P; exact P.elim
theorem v2_i0 {C : Int → Int → Bool} {g : Int → Int → Int} : V2 K mg W pin (rI0 fun i j => .int (g i j)) (gI C g) := by
  intro b Fz F δ σ H v w x y Q hp R A B P
  obtain ⟨i, j, h1, h2, _, q⟩ := v2_i (K := K) (mg := mg) (W := W) (C' := fun _ _ => True) (fun _ _ _ => trivial) b Fz F δ σ H v w x y Q hp R A B P
  exact ⟨i, j, h1, h2, q⟩
theorem v2_b {g : Int → Int → Bool} : V2 K mg W pin (rI0 fun i j => .bl (g i j)) (gB g) := by
  intro b Fz F δ σ H v w x y Q hp R A B P
  unfold gB at P
  cases q1 : rdC δ x with
  | none => simp only [q1] at P; exact P.elim
  | some d =>
    cases q2 : rdC δ y with
    | none => cases d <;> (simp only [q1, q2] at P; exact P.elim)
    | some e =>
      cases d with
      | int i =>
        cases e with
        | int j =>
          simp only [q1, q2] at P
          exact ⟨i, j, rpc_int (rdC_ok R A q1), rpc_int (rdC_ok R B q2), P _ H Fz F (Same.refl _) R (.bl _)⟩
        | _ => simp only [q1, q2] at P; exact P.elim
      | _ => simp only [q1, q2] at P; exact P.elim
theorem v1_neg : V1 K mg W pin (rU fun i => .int (-i)) gNeg := by
  intro b Fz F δ σ H v x Q hp R A P
  unfold gNeg at P
  cases q1 : rdC δ x with
  | none => simp only [q1] at P; exact P.elim
  | some d =>
    cases d with
    | int i =>
      simp only [q1] at P
      exact ⟨i, rpc_int (rdC_ok R A q1), P _ H Fz F (Same.refl _) R (.int _)⟩
    | _ => simp only [q1] at P; exact P.elim
end
def yes2 : Int → Int → Bool := fun _ _ => true
abbrev gSub := gI yes2 (· - ·)
abbrev gFdiv := gI (fun _ j => decide (0 < j ∧ j < 1073741824)) (· / ·)
abbrev gMod := gI (fun _ j => decide (0 < j)) (· % ·)
abbrev gPow := gI (fun i j => decide (0 ≤ j ∧ j ≤ 1000000 ∧ i.natAbs < 2 ^ 64)) (fun i j => i ^ j.toNat)
abbrev gShl := gI (fun i j => decide (0 ≤ j ∧ j ≤ 1000000 ∧ i.natAbs < 2 ^ 64)) (fun i j => i * 2 ^ j.toNat)
abbrev gShr := gI (fun _ j => decide (0 ≤ j)) (fun i j => i / 2 ^ j.toNat)
abbrev gAnd := gI yes2 Builtin.bitAnd
abbrev gOr := gI yes2 Builtin.bitOr
abbrev gXor := gI yes2 Builtin.bitXor
abbrev gLt := gB fun i j => decide (i < j)
abbrev gLe := gB fun i j => decide (i ≤ j)
abbrev gGt := gB fun i j => decide (j < i)
abbrev gGe := gB fun i j => decide (j ≤ i)

section
variable {X : Cx} {W : WX} {pin : List Nat} {fa fb : List Sl → Rs AV} {a c : Expr} {pos : Pos}
theorem se_sub (ha : SE X W pin a fa) (hb : SE X W pin c fb) : SE X W pin (.BinOp a .Sub c pos) (s2 gSub fa fb) := se_bin op_sub v2_i0 ha hb
theorem se_fdiv (ha : SE X W pin a fa) (hb : SE X W pin c fb) : SE X W pin (.BinOp a .FloorDiv c pos) (s2 gFdiv fa fb) := se_bin op_fdiv (v2_i fun i j h => (of_decide_eq_true h : 0 < j ∧ j < 1073741824)) ha hb
theorem se_mod (ha : SE X W pin a fa) (hb : SE X W pin c fb) : SE X W pin (.BinOp a .Mod c pos) (s2 gMod fa fb) := se_bin op_mod (v2_i fun _ _ h => of_decide_eq_true h) ha hb
theorem se_pow (ha : SE X W pin a fa) (hb : SE X W pin c fb) : SE X W pin (.BinOp a .Pow c pos) (s2 gPow fa fb) := se_bin op_pow (v2_i fun i j h => (of_decide_eq_true h : 0 ≤ j ∧ j ≤ 1000000 ∧ i.natAbs < 2 ^ 64)) ha hb
theorem se_shl (ha : SE X W pin a fa) (hb : SE X W pin c fb) : SE X W pin (.BinOp a .LShift c pos) (s2 gShl fa fb) := se_bin op_shl (v2_i fun i j h => (of_decide_eq_true h : 0 ≤ j ∧ j ≤ 1000000 ∧ i.natAbs < 2 ^ 64)) ha hb
theorem se_shr (ha : SE X W pin a fa) (hb : SE X W pin c fb) : SE X W pin (.BinOp a .RShift c pos) (s2 gShr fa fb) := se_bin op_shr (v2_i fun _ _ h => of_decide_eq_true h) ha hb
theorem se_band (ha : SE X W pin a fa) (hb : SE X W pin c fb) : SE X W pin (.BinOp a .BitAnd c pos) (s2 gAnd fa fb) := se_bin op_and v2_i0 ha hb
theorem se_bor (ha : SE X W pin a fa) (hb : SE X W pin c fb) : SE X W pin (.BinOp a .BitOr c pos) (s2 gOr fa fb) := se_bin op_or v2_i0 ha hb
theorem se_bxor (ha : SE X W pin a fa) (hb : SE X W pin c fb) : SE X W pin (.BinOp a .BitXor c pos) (s2 gXor fa fb) := se_bin op_xor v2_i0 ha hb
theorem se_neg (ha : SE X W pin a fa) : SE X W pin (.UnaryOp .USub a pos) (s1 gNeg fa) := se_un un_neg v1_neg ha
theorem se_lt (ha : SE X W pin a fa) (hb : SE X W pin c fb) : SE X W pin (.Compare a [.Lt] [c] pos) (s2 gLt fa fb) := se_cmp op_lt v2_b ha hb (nomark _)
theorem se_le (ha : SE X W pin a fa) (hb : SE X W pin c fb) : SE X W pin (.Compare a [.LtE] [c] pos) (s2 gLe fa fb) := se_cmp op_le v2_b ha hb (nomark _)
theorem se_gt (ha : SE X W pin a fa) (hb : SE X W pin c fb) : SE X W pin (.Compare a [.Gt] [c] pos) (s2 gGt fa fb) := se_cmp op_gt v2_b ha hb (nomark _)
theorem se_ge (ha : SE X W pin a fa) (hb : SE X W pin c fb) : SE X W pin (.Compare a [.GtE] [c] pos) (s2 gGe fa fb) := se_cmp op_ge v2_b ha hb (nomark _)
theorem st_lt (ha : SE X W pin a fa) (hb : SE X W pin c fb) : ST X W pin (.Compare a [.Lt] [c] pos) (sTst (s2 gLt fa fb)) := st_cmp op_lt v2_b ha hb (nomark _)
theorem st_le (ha : SE X W pin a fa) (hb : SE X W pin c fb) : ST X W pin (.Compare a [.LtE] [c] pos) (sTst (s2 gLe fa fb)) := st_cmp op_le v2_b ha hb (nomark _)
theorem st_gt (ha : SE X W pin a fa) (hb : SE X W pin c fb) : ST X W pin (.Compare a [.Gt] [c] pos) (sTst (s2 gGt fa fb)) := st_cmp op_gt v2_b ha hb (nomark _)
theorem st_ge (ha : SE X W pin a fa) (hb : SE X W pin c fb) : ST X W pin (.Compare a [.GtE] [c] pos) (sTst (s2 gGe fa fb)) := st_cmp op_ge v2_b ha hb (nomark _)
end

/-! ### + and * of more kinds -/
def rCatX (K : PySem.W.Frag) : R2 := fun x y H Q => ∃ l b xs zs, x = .ref l ∧ y = .ref b ∧ SqX K H l xs ∧ SqX K H b zs ∧ xs.length + zs.length ≤ sizeLine ∧ ∀ p, H p = none → Q (.ref p) (upd H p (.lst (xs ++ zs)))
theorem op_catX {X : Cx} : OpR X (binaryOp .Add) (rCatX X.K) := by
  intro pins s σ H x y v u Q I rx ry h
  obtain ⟨l, b, xs, zs, e1, e2, hX, hZ, hz, q⟩ := h
  subst e1 e2
  cases rx
  cases ry
  obtain ⟨i1, n1, r1, g1, z1⟩ := inv_lstX I hX
  obtain ⟨i2, n2, r2, g2, z2⟩ := inv_lstX I hZ
  have l1 := r1.length
  have l2 := r2.length
  refine PySem.P.add_list g1 g2 ?_ (by rw [List.size_toArray, List.size_toArray, ← l1, ← l2]; exact hz)
  rw [show i1.toArray ++ i2.toArray = (i1 ++ i2).toArray by simp]
  exact ⟨.ref _, _, I.lnew (t' := s.toks) (r1.append r2) (by rw [List.length_append]; exact hz), rfl, q _ I.fresh⟩
def rStrCat : R2 := fun x y H Q => ∃ i j, x = .str i ∧ y = .str j ∧ i.length + j.length ≤ sizeLine ∧ Q (.str (i ++ j)) H
def rAddU (K : PySem.W.Frag) : R2 := fun x y H Q => ((rI0 (fun i j => .int (i + j)) x y H Q ∨ rCatX K x y H Q) ∨ rStrCat x y H Q) ∨ rCatA K x y H Q
theorem op_addU {X : Cx} : OpR X (binaryOp .Add) (rAddU X.K) := OpR.or (OpR.or (OpR.or op_add op_catX) op_add_str) op_catA
def gAdd (x y : AV) (δ : List Sl) : Rs AV := match rdC δ x, rdC δ y with
  | some (.int i), some (.int j) => .ok (.val (.int (i + j))) δ
  | some (.list ds), some (.list es) => if ds.length ≤ cap ∧ es.length ≤ cap then .ok (.tmp (.ol ((ds ++ es).map .fz))) δ else .bad
  | some (.str s), some (.str t) => if s.length ≤ cap ∧ t.length ≤ cap then .ok (.val (.str (s ++ t))) δ else .bad
  | some (.tuple ds), some (.tuple es) => if ds.length ≤ cap ∧ es.length ≤ cap then .ok (.val (.tuple (ds ++ es))) δ else .bad
  | _, _ => .bad
section
variable {K : PySem.W.Frag} {mg : Str → Option Value} {W : WX} {pin : List Nat}
theorem v2_add : V2 K mg W pin (rAddU K) gAdd := by
  intro b Fz F δ σ H v w x y Q hp R A B P
  unfold gAdd at P
  cases q1 : rdC δ x with
  | none => simp only [q1] at P; exact P.elim
  | some d =>
    cases q2 : rdC δ y with
    | none => cases d <;> (simp only [q1, q2] at P; exact P.elim)
    | some e =>
      have h1 := rdC_ok R A q1
      have h2 := rdC_ok R B q2
      have cl := cap_line
      cases d with
      | int i =>
        cases e with
        | int j =>
          simp only [q1, q2] at P
          exact .inl (.inl (.inl ⟨i, j, rpc_int h1, rpc_int h2, P _ H Fz F (Same.refl _) R (.int _)⟩))
        | _ => simp only [q1, q2] at P; exact P.elim
      | str i =>
        cases e with
        | str j =>
          simp only [q1, q2] at P
          by_cases c : i.length ≤ cap ∧ j.length ≤ cap
          · rw [if_pos c] at P
            exact .inl (.inr ⟨i, j, rpc_str h1, rpc_str h2, by omega, P _ H Fz F (Same.refl _) R (.str _)⟩)
          · rw [if_neg c] at P; exact P.elim
        | _ => simp only [q1, q2] at P; exact P.elim
      | list ds =>
        cases e with
        | list es =>
          simp only [q1, q2] at P
          by_cases c : ds.length ≤ cap ∧ es.length ≤ cap
          · rw [if_pos c] at P
            obtain ⟨a1, v1, e1, s1, r1⟩ := h1.list R.le
            obtain ⟨a2, v2, e2, s2, r2⟩ := h2.list R.le
            have l1 := r1.len
            have l2 := r2.len
            exact .inl (.inl (.inr ⟨a1, a2, v1, v2, e1, e2, s1, s2, by omega, post_newL R (r1.append r2) P⟩))
          · rw [if_neg c] at P; exact P.elim
        | _ => simp only [q1, q2] at P; exact P.elim
      | tuple ds =>
        cases e with
        | tuple es =>
          simp only [q1, q2] at P
          by_cases c : ds.length ≤ cap ∧ es.length ≤ cap
          · rw [if_pos c] at P
            have k1 : Rp K Fz v (.tuple ds) := by
              rcases h1 with h | ⟨_, _, _, _, e2, _⟩
              · exact h
              · cases e2
            have k2 : Rp K Fz w (.tuple es) := by
              rcases h2 with h | ⟨_, _, _, _, e2, _⟩
              · exact h
              · cases e2
            obtain ⟨a1, v1, e1, s1, r1⟩ := h1.tup R.le
            obtain ⟨a2, v2, e2, s2, r2⟩ := h2.tup R.le
            have l1 := r1.len
            have l2 := r2.len
            refine .inr ⟨a1, a2, v1, v2, e1, e2, s1, s2, by omega, fun z => ?_, fun _ z => ?_, fun _ _ => post_newT R (r1.append r2) P⟩
            · subst z
              cases r1
              rw [← e2]
              exact P w H Fz F (Same.refl _) R k2
            · subst z
              cases r2
              rw [← e1]
              rw [List.append_nil] at P
              exact P v H Fz F (Same.refl _) R k1
          · rw [if_neg c] at P; exact P.elim
        | _ => simp only [q1, q2] at P; exact P.elim
      | _ => simp only [q1, q2] at P; exact P.elim
end
theorem se_add {X : Cx} {W : WX} {pin : List Nat} {fa fb : List Sl → Rs AV} {a c : Expr} {pos : Pos} (ha : SE X W pin a fa) (hb : SE X W pin c fb) : SE X W pin (.BinOp a .Add c pos) (s2 gAdd fa fb) := se_bin op_addU v2_add ha hb
def rMulU (K : PySem.W.Frag) : R2 := fun x y H Q => rI CMul (fun i j => .int (i * j)) x y H Q ∨ rI CMulW (fun i j => .int (i * j)) x y H Q
def gMul (x y : AV) (δ : List Sl) : Rs AV := match rdC δ x, rdC δ y with
  | some (.int i), some (.int j) => if i.natAbs < 2 ^ 64 ∨ j.natAbs < 2 ^ 64 then .ok (.val (.int (i * j))) δ else .bad
  | some (.list ds), some (.int k) => if ds.length ≤ 1000 ∧ k ≤ 1000 then .ok (.tmp (.ol ((List.replicate k.toNat ds).flatten.map .fz))) δ else .bad
  | _, _ => .bad

/-! ### == and != of data -/
mutual
theorem Rp.dp {K : PySem.W.Frag} {H : Hp} : ∀ {v : V} {d : PyData}, Rp K H v d → d.canLay0 = true → Dp K H v d
  | _, _, .non, _ => .non
  | _, _, .bl b, _ => .bl b
  | _, _, .int i, _ => .int i
  | _, _, .str x, _ => .str x
  | _, _, .lst (ds := ds) h1 h2, c => .lst h1.sq (RpL.dp h2 (by rw [PyData.canLay0] at c; exact c))
  | _, _, .tup (ds := ds) h1 h2, c => .tup h1 (RpL.dp h2 (by rw [PyData.canLay0] at c; exact c))
  | _, _, .dK h1 h2, c => by rw [PyData.canLay0] at c; cases c
  | _, _, .dT h1 h2, c => by rw [PyData.canLay0] at c; cases c
theorem RpL.dp {K : PySem.W.Frag} {H : Hp} : ∀ {vs : List V} {ds : List PyData}, RpL K H vs ds → PyData.canLayAll0 ds = true → DpAll K H vs ds
  | _, _, .nil, _ => .nil
  | _, _, .cons h t, c => by
    rw [PyData.canLayAll0, Bool.and_eq_true] at c
    exact .cons (Rp.dp h c.1) (RpL.dp t c.2)
end
theorem rp_dp {K : PySem.W.Frag} {H : Hp} {v : V} {d : PyData} (h : Rp K H v d) (c : SeqAt.shaped d = true) : Dp K H v d := h.dp (SeqAt.canLay_of_shaped c)
def eqD (d e : PyData) : Option Bool := if SeqAt.shaped d = true ∧ SeqAt.shaped e = true then some (PyData.eqv d e) else none
def gEq (x y : AV) (δ : List Sl) : Rs AV := match rdA δ x, rdA δ y with
  | some d, some e => (match eqD d e with
    | some k => .ok (.val (.bool k)) δ
    | none => .bad)
  | _, _ => .bad
def gNe (x y : AV) (δ : List Sl) : Rs AV := match rdA δ x, rdA δ y with
  | some d, some e => (match eqD d e with
    | some k => .ok (.val (.bool !k)) δ
    | none => .bad)
  | _, _ => .bad
section
variable {K : PySem.W.Frag} {mg : Str → Option Value} {W : WX} {pin : List Nat}
theorem v2_eq : V2 K mg W pin (rEqD K) gEq := by
  intro b Fz F δ σ H v w x y Q hp R A B P
  unfold gEq at P
  cases q1 : rdA δ x with
  | none => simp only [q1] at P; exact P.elim
  | some d =>
    cases q2 : rdA δ y with
    | none => simp only [q1, q2] at P; exact P.elim
    | some e =>
      simp only [q1, q2, eqD] at P
      by_cases c : SeqAt.shaped d = true ∧ SeqAt.shaped e = true
      · simp only [if_pos c] at P
        exact ⟨d, e, rp_dp (rdA_ok R A q1) c.1, rp_dp (rdA_ok R B q2) c.2, c.1, c.2, P _ H Fz F (Same.refl _) R (.bl _)⟩
      · simp only [if_neg c] at P
        exact P.elim
theorem v2_ne : V2 K mg W pin (rNeD K) gNe := by
  intro b Fz F δ σ H v w x y Q hp R A B P
  unfold gNe at P
  cases q1 : rdA δ x with
  | none => simp only [q1] at P; exact P.elim
  | some d =>
    cases q2 : rdA δ y with
    | none => simp only [q1, q2] at P; exact P.elim
    | some e =>
      simp only [q1, q2, eqD] at P
      by_cases c : SeqAt.shaped d = true ∧ SeqAt.shaped e = true
      · simp only [if_pos c] at P
        exact ⟨d, e, rp_dp (rdA_ok R A q1) c.1, rp_dp (rdA_ok R B q2) c.2, c.1, c.2, P _ H Fz F (Same.refl _) R (.bl _)⟩
      · simp only [if_neg c] at P
        exact P.elim
end
/-! ### in, not in -/
def flatD : PyData → Bool
  | .none | .bool _ | .int _ | .str _ => true
  | _ => false
theorem flatD_V {K : PySem.W.Frag} {H : Hp} {v : V} {d : PyData} (h : Rp K H v d) (f : flatD d = true) : flatV v = true := by
  cases h <;> first | rfl | cases f
theorem eqV_D {K : PySem.W.Frag} {H : Hp} {v w : V} {d e : PyData} (h : Rp K H v d) (h2 : Rp K H w e) (f : flatD d = true) (f2 : flatD e = true) : eqV v w = PyData.eqv d e := by
  cases h <;> first | (exact absurd f Bool.false_ne_true) | (cases h2 <;> first | (exact absurd f2 Bool.false_ne_true) | rfl | (simp only [eqV, PyData.eqv]))
theorem flatAll {K : PySem.W.Frag} {H : Hp} : ∀ {vs : List V} {ds : List PyData}, RpL K H vs ds → ds.all flatD = true → vs.all flatV = true
  | _, _, .nil, _ => rfl
  | _, _, .cons h t, f => by
    rw [List.all_cons, Bool.and_eq_true] at f ⊢
    exact ⟨flatD_V h f.1, flatAll t f.2⟩
theorem inV_D {K : PySem.W.Frag} {H : Hp} {v : V} {d : PyData} (h : Rp K H v d) (f : flatD d = true) : ∀ {vs : List V} {ds : List PyData}, RpL K H vs ds → ds.all flatD = true → inV v vs = ds.any fun z => PyData.eqv z d
  | _, _, .nil, _ => rfl
  | _, _, .cons h2 t, f2 => by
    rw [List.all_cons, Bool.and_eq_true] at f2
    unfold inV
    rw [List.any_cons, List.any_cons, eqV_D h2 h f2.1 f]
    exact congrArg (_ || ·) (inV_D h f t f2.2)
def inD (d : PyData) : PyData → Option Bool
  | .list ds => if SeqAt.shaped d = true ∧ SeqAt.shaped (.list ds) = true then some (ds.any fun z => PyData.eqv z d) else none
  | .tuple ds => if flatD d = true ∧ ds.all flatD = true then some (ds.any fun z => PyData.eqv z d) else none
  | _ => none
def rInU (K : PySem.W.Frag) (n : Bool) : R2 := fun x y H Q => (if n = true then rNotInD K x y H Q else rInD K x y H Q) ∨ rIn K n x y H Q
theorem op_inU {X : Cx} (hu : X.A.units + 65 < cLine) : OpR X (compareOp .In) (rInU X.K false) := OpR.or (op_inD hu) op_in_seq
theorem op_notInU {X : Cx} (hu : X.A.units + 65 < cLine) : OpR X (compareOp .NotIn) (rInU X.K true) := OpR.or (op_notInD hu) op_notIn_seq
def gIn (n : Bool) (x y : AV) (δ : List Sl) : Rs AV := match rdA δ x, rdA δ y with
  | some d, some e => (match inD d e with
    | some k => .ok (.val (.bool (if n = true then !k else k))) δ
    | none => .bad)
  | _, _ => .bad
theorem v2_in {K : PySem.W.Frag} {mg : Str → Option Value} {W : WX} {pin : List Nat} {n : Bool} : V2 K mg W pin (rInU K n) (gIn n) := by
  intro b Fz F δ σ H v w x y Q hp R A B P
  unfold gIn at P
  cases q1 : rdA δ x with
  | none => simp only [q1] at P; exact P.elim
  | some d =>
    cases q2 : rdA δ y with
    | none => simp only [q1, q2] at P; exact P.elim
    | some e =>
      simp only [q1, q2] at P
      have h1 := rdA_ok R A q1
      have h2 := rdA_ok R B q2
      cases e with
      | list ds =>
        unfold inD at P
        by_cases c : SeqAt.shaped d = true ∧ SeqAt.shaped (.list ds) = true
        · simp only [if_pos c] at P
          refine .inl ?_
          have q := P (.bl (if n = true then !(ds.any fun z => PyData.eqv z d) else ds.any fun z => PyData.eqv z d)) H Fz F (Same.refl _) R (.bl _)
          cases n with
          | true => exact ⟨d, ds, rp_dp h1 c.1, rp_dp h2 c.2, c.1, c.2, q⟩
          | false => exact ⟨d, ds, rp_dp h1 c.1, rp_dp h2 c.2, c.1, c.2, q⟩
        · simp only [if_neg c] at P
          exact P.elim
      | tuple ds =>
        unfold inD at P
        by_cases c : flatD d = true ∧ ds.all flatD = true
        · simp only [if_pos c] at P
          have q := P (.bl (if n = true then !(ds.any fun z => PyData.eqv z d) else ds.any fun z => PyData.eqv z d)) H Fz F (Same.refl _) R (.bl _)
          cases h2 with
          | tup s1 s2 =>
            refine .inr ⟨_, _, rfl, .inr s1, flatD_V h1 c.1, flatAll s2 c.2, ?_⟩
            rw [inV_D h1 c.1 s2 c.2]
            exact q
        · simp only [if_neg c] at P
          exact P.elim
      | _ => exact P.elim
/-! ### is -/
def rIsU : R2 := fun x y H Q => (y = .non ∧ Q (.bl (decide (x = .non))) H) ∨ rIsB x y H Q
def rIsNU : R2 := fun x y H Q => (y = .non ∧ Q (.bl (!decide (x = .non))) H) ∨ rNotB x y H Q
theorem op_isU {X : Cx} : OpR X (compareOp .Is) rIsU := OpR.or op_isN op_isBl
theorem op_isnU {X : Cx} : OpR X (compareOp .IsNot) rIsNU := OpR.or op_notN op_notBl
def isD : PyData → PyData → Option Bool
  | .none, .none => some true
  | _, .none => some false
  | .bool a, .bool b => some (a == b)
  | _, _ => none
def gIs (n : Bool) (x y : AV) (δ : List Sl) : Rs AV := match rdA δ x, rdA δ y with
  | some d, some e => (match isD d e with
    | some k => .ok (.val (.bool (if n = true then !k else k))) δ
    | none => .bad)
  | _, _ => .bad
theorem isD_ok {K : PySem.W.Frag} {H : Hp} {v w : V} {d e : PyData} {k : Bool} (h : Rp K H v d) (h2 : Rp K H w e) (i : isD d e = some k) : (w = .non ∧ k = decide (v = .non)) ∨ ∃ a c : Bool, v = .bl a ∧ w = .bl c ∧ k = decide (a = c) := by
  cases h2 with
  | non =>
    refine .inl ⟨rfl, ?_⟩
    cases h <;> (simp only [isD, Option.some.injEq] at i; subst i; simp)
  | bl c =>
    cases h with
    | bl a =>
      simp only [isD, Option.some.injEq] at i
      subst i
      refine .inr ⟨a, c, rfl, rfl, ?_⟩
      cases a <;> cases c <;> rfl
    | _ => simp [isD] at i
  | _ => cases h <;> simp [isD] at i
theorem v2_is {K : PySem.W.Frag} {mg : Str → Option Value} {W : WX} {pin : List Nat} : V2 K mg W pin rIsU (gIs false) := by
  intro b Fz F δ σ H v w x y Q hp R A B P
  unfold gIs at P
  cases q1 : rdA δ x with
  | none => simp only [q1] at P; exact P.elim
  | some d =>
    cases q2 : rdA δ y with
    | none => simp only [q1, q2] at P; exact P.elim
    | some e =>
      cases q3 : isD d e with
      | none => simp only [q1, q2, q3] at P; exact P.elim
      | some k =>
        simp only [q1, q2, q3] at P
        have q := P (.bl k) H Fz F (Same.refl _) R (.bl _)
        rcases isD_ok (rdA_ok R A q1) (rdA_ok R B q2) q3 with ⟨e1, e2⟩ | ⟨a, c, e1, e2, e3⟩
        · subst e2
          exact .inl ⟨e1, q⟩
        · subst e3
          exact .inr ⟨a, c, e1, e2, q⟩
theorem v2_isn {K : PySem.W.Frag} {mg : Str → Option Value} {W : WX} {pin : List Nat} : V2 K mg W pin rIsNU (gIs true) := by
  intro b Fz F δ σ H v w x y Q hp R A B P
  unfold gIs at P
  cases q1 : rdA δ x with
  | none => simp only [q1] at P; exact P.elim
  | some d =>
    cases q2 : rdA δ y with
    | none => simp only [q1, q2] at P; exact P.elim
    | some e =>
      cases q3 : isD d e with
      | none => simp only [q1, q2, q3] at P; exact P.elim
      | some k =>
        simp only [q1, q2, q3] at P
        have q := P (.bl (!k)) H Fz F (Same.refl _) R (.bl _)
        rcases isD_ok (rdA_ok R A q1) (rdA_ok R B q2) q3 with ⟨e1, e2⟩ | ⟨a, c, e1, e2, e3⟩
        · subst e2
          exact .inl ⟨e1, q⟩
        · subst e3
          exact .inr ⟨a, c, e1, e2, q⟩
section
variable {X : Cx} {W : WX} {pin : List Nat} {fa fb : List Sl → Rs AV} {a c : Expr} {pos : Pos}
theorem se_eq (hu : X.A.units + 64 < cLine) (ha : SE X W pin a fa) (hb : SE X W pin c fb) : SE X W pin (.Compare a [.Eq] [c] pos) (s2 gEq fa fb) := se_cmp (op_eqD hu) v2_eq ha hb (nomark _)
theorem se_ne (hu : X.A.units + 64 < cLine) (ha : SE X W pin a fa) (hb : SE X W pin c fb) : SE X W pin (.Compare a [.NotEq] [c] pos) (s2 gNe fa fb) := se_cmp (op_neD hu) v2_ne ha hb (nomark _)
theorem st_eq (hu : X.A.units + 64 < cLine) (ha : SE X W pin a fa) (hb : SE X W pin c fb) : ST X W pin (.Compare a [.Eq] [c] pos) (sTst (s2 gEq fa fb)) := st_cmp (op_eqD hu) v2_eq ha hb (nomark _)
theorem st_ne (hu : X.A.units + 64 < cLine) (ha : SE X W pin a fa) (hb : SE X W pin c fb) : ST X W pin (.Compare a [.NotEq] [c] pos) (sTst (s2 gNe fa fb)) := st_cmp (op_neD hu) v2_ne ha hb (nomark _)
theorem se_in (hu : X.A.units + 65 < cLine) (ha : SE X W pin a fa) (hb : SE X W pin c fb) (hm : behindInMarks .In c = false := by with_unfolding_all rfl) : SE X W pin (.Compare a [.In] [c] pos) (s2 (gIn false) fa fb) := se_cmp (op_inU hu) v2_in ha hb hm
theorem se_nin (hu : X.A.units + 65 < cLine) (ha : SE X W pin a fa) (hb : SE X W pin c fb) (hm : behindInMarks .NotIn c = false := by with_unfolding_all rfl) : SE X W pin (.Compare a [.NotIn] [c] pos) (s2 (gIn true) fa fb) := se_cmp (op_notInU hu) v2_in ha hb hm
theorem st_in (hu : X.A.units + 65 < cLine) (ha : SE X W pin a fa) (hb : SE X W pin c fb) (hm : behindInMarks .In c = false := by with_unfolding_all rfl) : ST X W pin (.Compare a [.In] [c] pos) (sTst (s2 (gIn false) fa fb)) := st_cmp (op_inU hu) v2_in ha hb hm
theorem st_nin (hu : X.A.units + 65 < cLine) (ha : SE X W pin a fa) (hb : SE X W pin c fb) (hm : behindInMarks .NotIn c = false := by with_unfolding_all rfl) : ST X W pin (.Compare a [.NotIn] [c] pos) (sTst (s2 (gIn true) fa fb)) := st_cmp (op_notInU hu) v2_in ha hb hm
theorem se_is (ha : SE X W pin a fa) (hb : SE X W pin c fb) : SE X W pin (.Compare a [.Is] [c] pos) (s2 (gIs false) fa fb) := se_cmp op_isU v2_is ha hb (nomark _)
theorem se_isn (ha : SE X W pin a fa) (hb : SE X W pin c fb) : SE X W pin (.Compare a [.IsNot] [c] pos) (s2 (gIs true) fa fb) := se_cmp op_isnU v2_isn ha hb (nomark _)
theorem st_is (ha : SE X W pin a fa) (hb : SE X W pin c fb) : ST X W pin (.Compare a [.Is] [c] pos) (sTst (s2 (gIs false) fa fb)) := st_cmp op_isU v2_is ha hb (nomark _)
theorem st_isn (ha : SE X W pin a fa) (hb : SE X W pin c fb) : ST X W pin (.Compare a [.IsNot] [c] pos) (sTst (s2 (gIs true) fa fb)) := st_cmp op_isnU v2_isn ha hb (nomark _)
end

/-! ### subscripts -/
/-- the item at a place, a tree that stands still -/
def itemD : PyData → PyData → Option PyData
  | .list ds, .int i => atI ds i
  | .tuple ds, .int i => atI ds i
  | _, _ => none
def El.fzd : El → Option PyData
  | .fz d => some d
  | .ow _ => none
def itemA (δ : List Sl) (x : AV) (i : PyData) : Option PyData := match x with
  | .val d => itemD d i
  | .ref k => match δ[k]? with
    | some (.fz d) => itemD d i
    | some (.ol xs) => (match i with
      | .int i => (atI xs i).bind El.fzd
      | _ => none)
    | some (.al x j) => (match δ[x]? with
      | some (.ol xs) => (match xs[j]? with
        | some (.ow ys) => itemD (.list ys) i
        | some (.fz d) => itemD d i
        | none => none)
      | _ => none)
    | _ => none
  | .tmp _ => none
def gIx (x y : AV) (δ : List Sl) : Rs AV := match rdC δ y with
  | some i => (match itemA δ x i with
    | some d => .ok (.val d) δ
    | none => .bad)
  | none => .bad
theorem atI_map {α β : Type} {f : α → β} {xs : List α} {i : Int} : atI (xs.map f) i = (atI xs i).map f := by
  unfold atI
  rw [List.length_map]
  cases ixN xs.length i with
  | none => rfl
  | some j => simp
theorem rpl_at {K : PySem.W.Frag} {H : Hp} {vs : List V} {ds : List PyData} {i : Int} {d : PyData} (h : RpL K H vs ds) (e : atI ds i = some d) : ∃ v, atI vs i = some v ∧ Rp K H v d := by
  unfold atI at e ⊢
  rw [h.len]
  cases q : ixN ds.length i with
  | none => rw [q] at e; cases e
  | some j =>
    rw [q] at e
    exact h.get e
def rIxU (K : PySem.W.Frag) : R2 := fun x y H Q => rIxL K x y H Q ∨ rIxT K x y H Q
theorem ix_U {X : Cx} : IxR X (rIxU X.K) := IxR.or ix_list ix_tup
theorem itemD_ok {K : PySem.W.Frag} {Fz H : Hp} {v w : V} {d i r : PyData} {Q : VK} (le : Same Fz H) (h : RpC K Fz H v d) (h2 : RpC K Fz H w i) (e : itemD d i = some r) (q : ∀ u, Rp K Fz u r → Q u H) : rIxU K v w H Q := by
  cases d with
  | list ds =>
    cases i with
    | int i =>
      obtain ⟨a, vs, e1, s1, r1⟩ := h.list le
      obtain ⟨u, e2, r2⟩ := rpl_at r1 (show atI ds i = some r from e)
      exact .inl ⟨a, vs, i, u, e1, rpc_int h2, s1.sq, e2, q u r2⟩
    | _ => cases e
  | tuple ds =>
    cases i with
    | int i =>
      obtain ⟨a, vs, e1, s1, r1⟩ := h.tup le
      obtain ⟨u, e2, r2⟩ := rpl_at r1 (show atI ds i = some r from e)
      exact .inr ⟨a, vs, i, u, e1, rpc_int h2, s1, e2, q u r2⟩
    | _ => cases e
  | _ => cases i <;> cases e
theorem ElL.len {K : PySem.W.Frag} {Fz H : Hp} : ∀ {f : List Addr} {vs : List V} {es : List El}, ElL K Fz H f vs es → vs.length = es.length
  | _, _, _, .nil => rfl
  | _, _, _, .cons _ t => by simp [ElL.len t]
theorem ElL.atI {K : PySem.W.Frag} {Fz H : Hp} {f : List Addr} {vs : List V} {es : List El} {i : Int} {e : El} (h : ElL K Fz H f vs es) (q : L2.atI es i = some e) : ∃ v g, L2.atI vs i = some v ∧ ElR K Fz H g v e := by
  unfold L2.atI at q ⊢
  rw [h.len]
  cases q1 : ixN es.length i with
  | none => rw [q1] at q; cases q
  | some j =>
    rw [q1] at q
    obtain ⟨v, g, e1, e2, _⟩ := h.at_ (j := j) q
    exact ⟨v, g, e1, e2⟩
theorem v2_ix {K : PySem.W.Frag} {mg : Str → Option Value} {W : WX} {pin : List Nat} : V2 K mg W pin (rIxU K) gIx := by
  intro b Fz F δ σ H v w x y Q hp R A B P
  unfold gIx at P
  cases q1 : rdC δ y with
  | none => simp only [q1] at P; exact P.elim
  | some i =>
    cases q2 : itemA δ x i with
    | none => simp only [q1, q2] at P; exact P.elim
    | some r =>
      simp only [q1, q2] at P
      have h2 := rdC_ok R B q1
      have fin : ∀ u, Rp K Fz u r → Q u H := fun u hu => P u H Fz F (Same.refl _) R hu
      cases x with
      | val d => exact itemD_ok R.le (.inl A) h2 q2 fin
      | tmp s => exact False.elim A
      | ref k =>
        have hv : σ[k]? = some (some v) := A
        unfold itemA at q2
        cases q3 : δ[k]? with
        | none => simp only [q3] at q2; cases q2
        | some s =>
          have hs := R.slot k s q3
          rw [hv] at hs
          cases s with
          | no => simp only [q3] at q2; cases q2
          | od kvs => simp only [q3] at q2; cases q2
          | fz d =>
            simp only [q3] at q2
            obtain ⟨_, v', e1, e2⟩ := hs
            cases e1
            exact itemD_ok R.le (.inl e2) h2 q2 fin
          | ol xs =>
            cases i with
            | int n =>
              simp only [q3] at q2
              cases q4 : atI xs n with
              | none => rw [q4] at q2; cases q2
              | some e =>
                rw [q4] at q2
                cases e with
                | ow ys => cases q2
                | fz d =>
                  cases q2
                  obtain ⟨a, vs, g, e1, e2, e3, e4⟩ := hs
                  cases e1
                  obtain ⟨u, g', f1, f2⟩ := e4.atI q4
                  exact .inl ⟨a, vs, n, u, rfl, rpc_int h2, SqL.of e3, f1, fin u f2.2⟩
            | _ => simp only [q3] at q2; cases q2
          | al x j =>
            simp only [q3] at q2
            cases q4 : δ[x]? with
            | none => simp only [q4] at q2; cases q2
            | some t =>
              cases t with
              | ol xs =>
                simp only [q4] at q2
                cases q5 : xs[j]? with
                | none => simp only [q5] at q2; cases q2
                | some e =>
                  obtain ⟨g, e1, _⟩ := R.al q3 q4 q5 hv
                  cases e with
                  | fz d =>
                    simp only [q5] at q2
                    exact itemD_ok R.le (.inl e1.2) h2 q2 fin
                  | ow ys =>
                    simp only [q5] at q2
                    obtain ⟨a, vs, f1, _, f3, f4⟩ := e1
                    exact itemD_ok R.le (.inr ⟨a, vs, ys, f1, rfl, f3, f4⟩) h2 q2 fin
              | _ => simp only [q4] at q2; cases q2
theorem se_sub_ix {X : Cx} {W : WX} {pin : List Nat} {fa fb : List Sl → Rs AV} {a c : Expr} {pos : Pos} (ha : SE X W pin a fa) (hb : SE X W pin c fb) (hs : PlainIx c := by intro _ _; rfl) : SE X W pin (.Subscript a c pos) (s2 gIx fa fb) := se_ix ix_U v2_ix ha hb hs
/-! ### slices -/
def cutD (ds : List PyData) (lo hi : Option Int) : List PyData := (ds.drop (HT.sIx ds.length 0 lo)).take (HT.sIx ds.length ds.length hi - HT.sIx ds.length 0 lo)
theorem rpl_cut {K : PySem.W.Frag} {H : Hp} {vs : List V} {ds : List PyData} (h : RpL K H vs ds) (lo hi : Option Int) : RpL K H (cutV vs lo hi) (cutD ds lo hi) := by
  unfold cutV cutD
  rw [h.len]
  exact (h.drop _).take _
/-- a part of a slice -/
def sPart : Option (List Sl → Rs AV) → List Sl → Rs AV
  | none => fun δ => .ok (.val .none) δ
  | some f => sSt f
def partI (δ : List Sl) (a : AV) : Option (Option Int) := match rdC δ a with
  | some (.int i) => some (some i)
  | some .none => some none
  | _ => none
def gSl (x : AV) (lo hi : Option Int) (δ : List Sl) : Rs AV := match rdC δ x with
  | some (.list ds) => .ok (.tmp (.ol ((cutD ds lo hi).map .fz))) δ
  | some (.tuple ds) => .ok (.val (.tuple (cutD ds lo hi))) δ
  | _ => .bad
end Hb

namespace Hb
open PySem PySem.Spec PyProof.Rows L2

/-! ### slices -/
def sPartO : Option (List Sl → Rs AV) → List Sl → Rs (Option Int)
  | none => fun δ => .ok none δ
  | some f => fun δ => (sSt f δ).bind fun a δ' => match rdC δ' a with
    | some (.int i) => .ok (some i) δ'
    | _ => .bad
def rdP (K : PySem.W.Frag) (mg : Str → Option Value) (W : WX) (pin : List Nat) : Option (List Sl → Rs AV) → TO
  | none => tNoPart
  | some f => tPart (rdE K mg W pin (sSt f))
inductive SPO (X : Cx) (W : WX) (pin : List Nat) : Option Expr → Option (List Sl → Rs AV) → Prop
  | no : SPO X W pin none none
  | yes {e : Expr} {f : List Sl → Rs AV} : SE X W pin e f → SPO X W pin (some e) (some f)
theorem SPO.po {X : Cx} {W : WX} {pin : List Nat} {e : Option Expr} {f : Option (List Sl → Rs AV)} (h : SPO X W pin e f) : PO X e (rdP X.K X.mg W pin f) := by
  cases h with
  | no => exact po_none
  | yes h => exact po_some (se_st h)
section
variable {K : PySem.W.Frag} {mg : Str → Option Value} {W : WX} {pin : List Nat}
theorem rdP_bind {o : Option (List Sl → Rs AV)} {σ : L2.St} {H : Hp} {b : Bk} {Fz : Hp} {F : Nat → List Addr} {δ : List Sl} {k : Option Int → List Sl → Rs AV} {Q : VK} {R : Option Int → Hp → Prop} (hp : b.pin = pin) (Rr : Rl K b Fz F δ σ H) (P : Post K mg W b Fz σ Q ((sPartO o δ).bind k))
    (h : ∀ i H' Fz' F' δ', Same Fz Fz' → Rl K b Fz' F' δ' σ H' → Post K mg W b Fz' σ Q (k i δ') → R i H') : rdP K mg W pin o σ H R := by
  cases o with
  | none => exact h none H Fz F δ (Same.refl _) Rr P
  | some f =>
    have P' : Post K mg W b Fz σ Q ((sSt f δ).bind fun a δ' => (match rdC δ' a with
      | some (.int i) => (.ok (some i) δ' : Rs (Option Int))
      | _ => .bad).bind k) := by
      simp only [sPartO] at P
      cases q : sSt f δ with
      | bad => rw [q] at P; exact P
      | er x δ' => rw [q] at P; exact P
      | ok a δ' => rw [q] at P; exact P
    refine rd_bind hp Rr P' fun v H' Fz' F' x δ' s R' A P2 => ?_
    cases q : rdC δ' x with
    | none => simp only [q] at P2; exact P2.elim
    | some d =>
      cases d with
      | int i =>
        simp only [q] at P2
        exact ⟨i, rpc_int (rdC_ok R' A q), h (some i) H' Fz' F' δ' s R' P2⟩
      | _ => simp only [q] at P2; exact P2.elim
def sSl (f : List Sl → Rs AV) (lo hi : Option (List Sl → Rs AV)) : List Sl → Rs AV := fun δ => (sSt f δ).bind fun x δ1 => (sPartO lo δ1).bind fun l δ2 => (sPartO hi δ2).bind fun u δ3 => gSl x l u δ3
def rSlU (K : PySem.W.Frag) : V → Option Int → Option Int → Hp → VK → Prop := fun x lo hi H Q => rSlL K x lo hi H Q ∨ rSlA K x lo hi H Q
theorem sl_U {X : Cx} : SlR X (rSlU X.K) := SlR.or sl_list sl_tupA
theorem cutV_whole (xs : List V) {lo hi : Option Int} (h : HT.sIx xs.length 0 lo = 0 ∧ HT.sIx xs.length xs.length hi = xs.length) : cutV xs lo hi = xs := by
  unfold cutV
  rw [h.1, h.2]
  simp
theorem gSl_ok {b : Bk} {Fz : Hp} {F : Nat → List Addr} {δ : List Sl} {σ : L2.St} {H : Hp} {Q : VK} {v : V} {x : AV} {lo hi : Option Int} (R : Rl K b Fz F δ σ H) (A : AvS K Fz σ v x) (P : Post K mg W b Fz σ Q (gSl x lo hi δ)) : rSlU K v lo hi H Q := by
  unfold gSl at P
  cases q : rdC δ x with
  | none => simp only [q] at P; exact P.elim
  | some d =>
    have h1 := rdC_ok R A q
    cases d with
    | list ds =>
      simp only [q] at P
      obtain ⟨a, vs, e1, s1, r1⟩ := h1.list R.le
      exact .inl ⟨a, vs, e1, s1.sq, post_newL R (rpl_cut r1 lo hi) P⟩
    | tuple ds =>
      simp only [q] at P
      obtain ⟨a, vs, e1, s1, r1⟩ := h1.tup R.le
      refine .inr ⟨a, vs, e1, s1, fun w => ?_, fun _ => post_newT R (rpl_cut r1 lo hi) P⟩
      have e2 : cutD ds lo hi = ds := by
        have w' := w
        rw [r1.len] at w'
        unfold cutD
        rw [w'.1, w'.2]
        simp
      rw [e2] at P
      rcases h1 with h | ⟨_, _, _, _, e3, _⟩
      · rw [← e1]
        exact P v H Fz F (Same.refl _) R h
      · cases e3
    | _ => simp only [q] at P; exact P.elim
end
theorem se_sl {X : Cx} {W : WX} {pin : List Nat} {fa : List Sl → Rs AV} {a : Expr} {lo hi : Option Expr} {fl fh : Option (List Sl → Rs AV)} {p2 pos : Pos} (ha : SE X W pin a fa) (hl : SPO X W pin lo fl) (hh : SPO X W pin hi fh) :
    SE X W pin (.Subscript a (.Slice lo hi none p2) pos) (sSl fa fl fh) := pe_mono (pe_slice sl_U (se_st ha) hl.po hh.po) fun σ H Q ⟨b, Fz, F, δ, hp, R, P⟩ => by
  refine rd_bind hp R P fun v H1 Fz1 F1 x δ1 s1 R1 A1 P1 => ?_
  refine rdP_bind hp R1 P1 fun l H2 Fz2 F2 δ2 s2 R2 P2 => ?_
  refine rdP_bind hp R2 P2 fun u H3 Fz3 F3 δ3 s3 R3 P3 => ?_
  exact gSl_ok R3 (A1.le (s2.trans s3)) P3
def gRev (x : AV) (δ : List Sl) : Rs AV := match rdC δ x with
  | some (.list ds) => .ok (.tmp (.ol (ds.reverse.map .fz))) δ
  | _ => .bad
theorem se_rev {X : Cx} {W : WX} {pin : List Nat} {fa : List Sl → Rs AV} {a : Expr} {k : Nat} {p1 p2 p3 pos : Pos} (ha : SE X W pin a fa) :
    SE X W pin (.Subscript a (.Slice none none (some (.UnaryOp .USub (.Constant (.int 1) k p1) p2)) p3) pos) (s1 gRev fa) := pe_mono (pe_revL (se_st ha)) fun σ H Q ⟨b, Fz, F, δ, hp, R, P⟩ => by
  refine rd_bind hp R P fun v H1 Fz1 F1 x δ1 s1 R1 A1 P1 => ?_
  unfold gRev at P1
  cases q : rdC δ1 x with
  | none => simp only [q] at P1; exact P1.elim
  | some d =>
    cases d with
    | list ds =>
      simp only [q] at P1
      obtain ⟨a, vs, e1, s1, r1⟩ := (rdC_ok R1 A1 q).list R1.le
      exact ⟨a, vs, e1, s1.sq, post_newL R1 r1.reverse P1⟩
    | _ => simp only [q] at P1; exact P1.elim

/-! ### several values, all of which stand still -/
section
variable (K : PySem.W.Frag) (mg : Str → Option Value) (W : WX)
def PostL (b : Bk) (Fz : Hp) (σ : L2.St) (Q : List V → Hp → Prop) : Rs (List PyData) → Prop
  | .ok ds δ => ∀ vs H' Fz' F', Same Fz Fz' → Rl K b Fz' F' δ σ H' → RpL K Fz' vs ds → Q vs H'
  | .er x δ => PostX K mg W b Fz σ x δ
  | .bad => False
def rdL (pin : List Nat) (f : List Sl → Rs (List PyData)) : TA := fun σ H Q => ∃ b Fz F δ, b.pin = pin ∧ Rl K b Fz F δ σ H ∧ PostL K mg W b Fz σ Q (f δ)
end
abbrev SA (X : Cx) (W : WX) (pin : List Nat) (es : List Expr) (f : List Sl → Rs (List PyData)) : Prop := PA X es (rdL X.K X.mg W pin f)
theorem pa_mono {X : Cx} {es : List Expr} {t t' : TA} (h : PA X es t) (i : ∀ σ H Q, t' σ H Q → t σ H Q) : PA X es t' := ⟨fun pos pins s σ H Q I q => h.run pos pins s σ H Q I (i σ H Q q)⟩
/-- a value taken -/
def Rs.val {α : Type} (r : Rs AV) (k : PyData → List Sl → Rs α) : Rs α := r.bind fun a δ => match a with
  | .val d => k d δ
  | _ => .bad
def lNil : List Sl → Rs (List PyData) := fun δ => .ok [] δ
def lCons (f : List Sl → Rs AV) (g : List Sl → Rs (List PyData)) : List Sl → Rs (List PyData) := fun δ => (sTk f δ).val fun d δ1 => (g δ1).bind fun ds δ2 => .ok (d :: ds) δ2
def seqD : PyData → Option (List PyData)
  | .list ds => some ds
  | .tuple ds => some ds
  | _ => none
/-- *x in a display -/
def lStar (f : List Sl → Rs AV) (g : List Sl → Rs (List PyData)) : List Sl → Rs (List PyData) := fun δ => (sTk f δ).val fun d δ1 => match seqD d with
  | some es => (g δ1).bind fun ds δ2 => .ok (es ++ ds) δ2
  | none => .bad
section
variable {X : Cx} {W : WX} {pin : List Nat} {f : List Sl → Rs AV} {g : List Sl → Rs (List PyData)} {e : Expr} {es : List Expr}
theorem PostL.le {K : PySem.W.Frag} {mg : Str → Option Value} {b : Bk} {Fz Fz1 : Hp} {σ : L2.St} {Q : List V → Hp → Prop} {r : Rs (List PyData)} (s : Same Fz Fz1) (p : PostL K mg W b Fz σ Q r) : PostL K mg W b Fz1 σ Q r := by
  cases r with
  | ok a δ => exact fun v H' Fz' F' s' R e => p v H' Fz' F' (s.trans s') R e
  | er x δ => exact PostX.le s p
  | bad => exact p
/-- behind a taken value -/
theorem rd_valL {K : PySem.W.Frag} {mg : Str → Option Value} {σ : L2.St} {H : Hp} {b : Bk} {Fz : Hp} {F : Nat → List Addr} {δ : List Sl} {k : PyData → List Sl → Rs (List PyData)} {Q : List V → Hp → Prop} {R : VK} (hp : b.pin = pin) (Rr : Rl K b Fz F δ σ H) (P : PostL K mg W b Fz σ Q ((sTk f δ).val k))
    (h : ∀ v H' Fz' F' d δ', Same Fz Fz' → Rl K b Fz' F' δ' σ H' → Rp K Fz' v d → PostL K mg W b Fz' σ Q (k d δ') → R v H') : rdE K mg W pin (sTk f) σ H R := by
  refine ⟨b, Fz, F, δ, hp, Rr, ?_⟩
  cases q : sTk f δ with
  | bad => rw [q] at P; exact P
  | er x δ' => rw [q] at P; exact P
  | ok a δ' =>
    rw [q] at P
    intro v H' Fz' F' s R' A
    cases a with
    | tmp t => exact False.elim P
    | ref i => exact False.elim P
    | val d => exact h v H' Fz' F' d δ' s R' A (PostL.le s P)
/-- behind the values -/
theorem rdL_bindL {K : PySem.W.Frag} {mg : Str → Option Value} {σ : L2.St} {H : Hp} {b : Bk} {Fz : Hp} {F : Nat → List Addr} {δ : List Sl} {k : List PyData → List Sl → Rs (List PyData)} {Q R : List V → Hp → Prop} (hp : b.pin = pin) (Rr : Rl K b Fz F δ σ H) (P : PostL K mg W b Fz σ Q ((g δ).bind k))
    (h : ∀ vs H' Fz' F' ds δ', Same Fz Fz' → Rl K b Fz' F' δ' σ H' → RpL K Fz' vs ds → PostL K mg W b Fz' σ Q (k ds δ') → R vs H') : rdL K mg W pin g σ H R := by
  refine ⟨b, Fz, F, δ, hp, Rr, ?_⟩
  cases q : g δ with
  | bad => rw [q] at P; exact P
  | er x δ' => rw [q] at P; exact P
  | ok a δ' =>
    rw [q] at P
    exact fun v H' Fz' F' s R' A => h v H' Fz' F' a δ' s R' A (PostL.le s P)
theorem rdL_bind {K : PySem.W.Frag} {mg : Str → Option Value} {σ : L2.St} {H : Hp} {b : Bk} {Fz : Hp} {F : Nat → List Addr} {δ : List Sl} {k : List PyData → List Sl → Rs AV} {Q : VK} {R : List V → Hp → Prop} (hp : b.pin = pin) (Rr : Rl K b Fz F δ σ H) (P : Post K mg W b Fz σ Q ((g δ).bind k))
    (h : ∀ vs H' Fz' F' ds δ', Same Fz Fz' → Rl K b Fz' F' δ' σ H' → RpL K Fz' vs ds → Post K mg W b Fz' σ Q (k ds δ') → R vs H') : rdL K mg W pin g σ H R := by
  refine ⟨b, Fz, F, δ, hp, Rr, ?_⟩
  cases q : g δ with
  | bad => rw [q] at P; exact P
  | er x δ' => rw [q] at P; exact P
  | ok a δ' =>
    rw [q] at P
    exact fun v H' Fz' F' s R' A => h v H' Fz' F' a δ' s R' A (Post.le s P)
theorem sa_nil : SA X W pin [] lNil := pa_mono pa_nil fun σ H Q ⟨b, Fz, F, δ, hp, R, P⟩ => P [] H Fz F (Same.refl _) R .nil
theorem sa_cons (h : SE X W pin e f) (h2 : SA X W pin es g) (hs : starEach (e :: es) X.env = (false, eval e X.env) :: starEach es X.env := by rfl) : SA X W pin (e :: es) (lCons f g) := pa_mono (pa_cons (se_tk h) h2 hs) fun σ H Q ⟨b, Fz, F, δ, hp, R, P⟩ => by
  refine rd_valL hp R P fun v H1 Fz1 F1 d δ1 s1 R1 A1 P1 => ?_
  refine rdL_bindL hp R1 P1 fun vs H2 Fz2 F2 ds δ2 s2 R2 A2 P2 => ?_
  exact P2 (v :: vs) H2 Fz2 F2 (Same.refl _) R2 (.cons (A1.mono s2) A2)
theorem sa_star {p : Pos} (h : SE X W pin e f) (h2 : SA X W pin es g) (hs : starEach (.Starred e p :: es) X.env = (true, eval e X.env) :: starEach es X.env := by rfl) : SA X W pin (.Starred e p :: es) (lStar f g) := pa_mono (StX.pa_star (se_tk h) h2 hs) fun σ H Q ⟨b, Fz, F, δ, hp, R, P⟩ => by
  refine rd_valL hp R P fun v H1 Fz1 F1 d δ1 s1 R1 A1 P1 => ?_
  cases d with
  | list es =>
    refine (?_ : ∃ p xs, _)
    cases A1 with
    | lst h1 h2 =>
      refine ⟨_, _, rfl, .inr (same_sqX R1.le h1).sq, ?_⟩
      refine rdL_bindL hp R1 P1 fun vs H2 Fz2 F2 ds δ2 s2 R2 A2 P2 => ?_
      exact P2 _ H2 Fz2 F2 (Same.refl _) R2 ((h2.mono s2).append A2)
  | tuple es =>
    cases A1 with
    | tup h1 h2 =>
      refine ⟨_, _, rfl, .inl (same_sqT R1.le h1), ?_⟩
      refine rdL_bindL hp R1 P1 fun vs H2 Fz2 F2 ds δ2 s2 R2 A2 P2 => ?_
      exact P2 _ H2 Fz2 F2 (Same.refl _) R2 ((h2.mono s2).append A2)
  | _ => exact P1.elim
/-! ### displays -/
def sLst (g : List Sl → Rs (List PyData)) : List Sl → Rs AV := fun δ => (g δ).bind fun ds δ' => if ds.length ≤ cap then .ok (.tmp (.ol (ds.map .fz))) δ' else .bad
def sTup (g : List Sl → Rs (List PyData)) : List Sl → Rs AV := fun δ => (g δ).bind fun ds δ' => if ds.length ≤ cap then .ok (.val (.tuple ds)) δ' else .bad
theorem se_lst {pos : Pos} (h : SA X W pin es g) : SE X W pin (.List es pos) (sLst g) := pe_mono (pe_lst h) fun σ H Q ⟨b, Fz, F, δ, hp, R, P⟩ => by
  refine rdL_bind hp R P fun vs H2 Fz2 F2 ds δ2 s2 R2 A2 P2 => ?_
  by_cases c : ds.length ≤ cap
  · rw [if_pos c] at P2
    exact ⟨by rw [A2.len]; exact le_line c, post_newL R2 A2 P2⟩
  · rw [if_neg c] at P2
    exact P2.elim
theorem se_tup {x1 : Nat} {pos : Pos} (h : SA X W pin es g) : SE X W pin (.Tuple es x1 pos) (sTup g) := pe_mono (pe_tup h) fun σ H Q ⟨b, Fz, F, δ, hp, R, P⟩ => by
  refine rdL_bind hp R P fun vs H2 Fz2 F2 ds δ2 s2 R2 A2 P2 => ?_
  by_cases c : ds.length ≤ cap
  · rw [if_pos c] at P2
    exact ⟨by rw [A2.len]; exact le_line c, post_newT R2 A2 P2⟩
  · rw [if_neg c] at P2
    exact P2.elim
def sDic0 : List Sl → Rs AV := fun δ => .ok (.tmp (.od [])) δ
theorem se_dic0 {pos : Pos} : SE X W pin (.Dict [] [] pos) sDic0 := pe_mono pe_dnewK fun σ H Q ⟨b, Fz, F, δ, hp, R, P⟩ => post_newD R P
theorem se_dic0T {pos : Pos} : SE X W pin (.Dict [] [] pos) sDic0 := pe_mono pe_dnewT fun σ H Q ⟨b, Fz, F, δ, hp, R, P⟩ => post_newDT R P
end

/-! ### built-ins of one argument, of two -/
section
variable (K : PySem.W.Frag) (mg : Str → Option Value) (W : WX) (pin : List Nat)
def C1 (r : List V → Hp → VK → Prop) (g : AV → List Sl → Rs AV) : Prop := ∀ b Fz F δ σ H v x Q, b.pin = pin → Rl K b Fz F δ σ H → AvS K Fz σ v x → Post K mg W b Fz σ Q (g x δ) → r [v] H Q
def C2 (r : List V → Hp → VK → Prop) (g : AV → AV → List Sl → Rs AV) : Prop := ∀ b Fz F δ σ H v w x y Q, b.pin = pin → Rl K b Fz F δ σ H → AvS K Fz σ v x → AvS K Fz σ w y → Post K mg W b Fz σ Q (g x y δ) → r [v, w] H Q
end
section
variable {X : Cx} {W : WX} {pin : List Nat} {fa fb : List Sl → Rs AV} {a c : Expr} {x : Str} {p pos : Pos} {id T : String} {r : List V → Hp → VK → Prop} {g : AV → List Sl → Rs AV} {g2 : AV → AV → List Sl → Rs AV}
theorem se_b1 (hc : CallR X (.builtin id) r) (hv : C1 X.K X.mg W pin r g) (hg : Gl X x) (hm : X.mg x = none) (hb : bootBuiltins x = some (.builtin id)) (ha : SE X W pin a fa) (hn : x ≠ "__name__" := by decide) (hdb : (x == ("__debug__" : Str)) = false := by decide)
    (he : starEach [a] X.env = (false, eval a X.env) :: starEach [] X.env := by rfl) : SE X W pin (.Call (.Name x p) [a] [] pos) (s1 g fa) := pe_mono (pe_callB hc hg hm hb (pa_cons (se_st ha) pa_nil he) hn hdb he rfl) fun σ H Q ⟨b, Fz, F, δ, hp, R, P⟩ => by
  refine rd_bind hp R P fun v H1 Fz1 F1 x δ1 s1 R1 A1 P1 => ?_
  exact hv b Fz1 F1 δ1 σ H1 v x Q hp R1 A1 P1
theorem se_t1 (hc : CallR X (.type T) r) (hv : C1 X.K X.mg W pin r g) (hg : Gl X x) (hm : X.mg x = none) (hb : bootBuiltins x = some (.type T)) (ha : SE X W pin a fa) (hn : x ≠ "__name__" := by decide) (hdb : (x == ("__debug__" : Str)) = false := by decide)
    (he : starEach [a] X.env = (false, eval a X.env) :: starEach [] X.env := by rfl) : SE X W pin (.Call (.Name x p) [a] [] pos) (s1 g fa) := pe_mono (pe_callTy hc hg hm hb (pa_cons (se_st ha) pa_nil he) hn hdb he rfl) fun σ H Q ⟨b, Fz, F, δ, hp, R, P⟩ => by
  refine rd_bind hp R P fun v H1 Fz1 F1 x δ1 s1 R1 A1 P1 => ?_
  exact hv b Fz1 F1 δ1 σ H1 v x Q hp R1 A1 P1
theorem se_b2 (hc : CallR X (.builtin id) r) (hv : C2 X.K X.mg W pin r g2) (hg : Gl X x) (hm : X.mg x = none) (hb : bootBuiltins x = some (.builtin id)) (ha : SE X W pin a fa) (hcc : SE X W pin c fb) (hn : x ≠ "__name__" := by decide) (hdb : (x == ("__debug__" : Str)) = false := by decide)
    (he : starEach [a, c] X.env = (false, eval a X.env) :: starEach [c] X.env := by rfl) (he2 : starEach [c] X.env = (false, eval c X.env) :: starEach [] X.env := by rfl) (hpl : (backTo pos (starEach [c] X.env)).any (·.1) = false := by rfl) : SE X W pin (.Call (.Name x p) [a, c] [] pos) (s2 g2 fa fb) := pe_mono (pe_callB hc hg hm hb (pa_cons (se_st ha) (pa_cons (se_st hcc) pa_nil he2) he) hn hdb he hpl) fun σ H Q ⟨b, Fz, F, δ, hp, R, P⟩ => by
  refine rd_bind hp R P fun v H1 Fz1 F1 x δ1 s1 R1 A1 P1 => ?_
  refine rd_bind hp R1 P1 fun w H2 Fz2 F2 y δ2 s2 R2 A2 P2 => ?_
  exact hv b Fz2 F2 δ2 σ H2 v w x y Q hp R2 (A1.le s2) A2 P2
end
/-- a look at a tree that gives a number, a truth value, a text -/
def gRd (k : PyData → Option PyData) (x : AV) (δ : List Sl) : Rs AV := match (rdA δ x).bind k with
  | some d => if flatD d = true then .ok (.val d) δ else .bad
  | none => .bad
def dV : PyData → V
  | .none => .non
  | .bool b => .bl b
  | .int i => .int i
  | .str s => .str s
  | _ => .non
theorem rp_flat {K : PySem.W.Frag} {H : Hp} {d : PyData} (h : flatD d = true) : Rp K H (dV d) d := by
  cases d with
  | none => exact .non
  | bool b => exact .bl b
  | int i => exact .int i
  | str s => exact .str s
  | _ => cases h
theorem c1_rd {K : PySem.W.Frag} {mg : Str → Option Value} {W : WX} {pin : List Nat} {k : PyData → Option PyData} {r : List V → Hp → VK → Prop} (h : ∀ v d e H (Q : VK), Rp K H v d → k d = some e → flatD e = true → Q (dV e) H → r [v] H Q) : C1 K mg W pin r (gRd k) := by
  intro b Fz F δ σ H v x Q hp R A P
  unfold gRd at P
  cases q : rdA δ x with
  | none => simp only [q, Option.bind_none] at P; exact P.elim
  | some d =>
    cases q2 : k d with
    | none => simp only [q, Option.bind_some, q2] at P; exact P.elim
    | some e =>
      simp only [q, Option.bind_some, q2] at P
      by_cases c : flatD e = true
      · rw [if_pos c] at P
        exact h v d e H Q (rdA_ok R A q) q2 c (P _ H Fz F (Same.refl _) R (rp_flat c))
      · rw [if_neg c] at P
        exact P.elim
def lenD : PyData → Option PyData
  | .list ds => some (.int ds.length)
  | .tuple ds => some (.int ds.length)
  | .str z => if z.length ≤ cap then some (.int z.length) else none
  | .dict ds => some (.int ds.length)
  | _ => none
theorem RpK.len {K : PySem.W.Frag} {H : Hp} : ∀ {vs : List (Key × V)} {ds : List (PyData × PyData)}, RpK K H vs ds → vs.length = ds.length
  | _, _, .nil => rfl
  | _, _, .cons _ t => by simp [RpK.len t]
theorem RpT.len {K : PySem.W.Frag} {H : Hp} : ∀ {vs : List (List Key × V)} {ds : List (PyData × PyData)}, RpT K H vs ds → vs.length = ds.length
  | _, _, .nil => rfl
  | _, _, .cons _ t => by simp [RpT.len t]
def rLenU (K : PySem.W.Frag) : List V → Hp → VK → Prop := fun xs H Q => ((∃ x n, xs = [x] ∧ LenV K x H n ∧ Q (.int n) H) ∨ ∃ a kvs, xs = [V.ref a] ∧ H a = some (.dK kvs) ∧ Q (.int kvs.length) H) ∨ ∃ a kvs, xs = [V.ref a] ∧ H a = some (.dT kvs) ∧ Q (.int kvs.length) H
theorem call_lenU {X : Cx} : CallR X (.builtin "len") (rLenU X.K) := CallR.or (CallR.or call_len call_lenD) call_len_dT
theorem c1_len {K : PySem.W.Frag} {mg : Str → Option Value} {W : WX} {pin : List Nat} : C1 K mg W pin (rLenU K) (gRd lenD) := c1_rd fun v d e H Q r k f q => by
  cases r with
  | lst h1 h2 =>
    cases k
    exact .inl (.inl ⟨_, _, rfl, .inl ⟨_, h1.sq, rfl⟩, by rw [h2.len]; exact q⟩)
  | tup h1 h2 =>
    cases k
    exact .inl (.inl ⟨_, _, rfl, .inr ⟨_, h1, rfl⟩, by rw [h2.len]; exact q⟩)
  | dK h1 h2 =>
    cases k
    exact .inl (.inr ⟨_, _, rfl, h1, by rw [h2.len]; exact q⟩)
  | dT h1 h2 =>
    cases k
    exact .inr ⟨_, _, rfl, h1, by rw [h2.len]; exact q⟩
  | str z =>
    simp only [lenD] at k
    by_cases c : z.length ≤ cap
    · rw [if_pos c] at k
      cases k
      exact .inl (.inl ⟨_, _, rfl, ⟨le_line c, rfl⟩, q⟩)
    · rw [if_neg c] at k
      cases k
  | _ => cases k
def absD : PyData → Option PyData
  | .int i => some (.int (if i < 0 then -i else i))
  | _ => none
theorem c1_abs {K : PySem.W.Frag} {mg : Str → Option Value} {W : WX} {pin : List Nat} : C1 K mg W pin (fun xs H Q => ∃ i, xs = [.int i] ∧ Q (.int (if i < 0 then -i else i)) H) (gRd absD) := c1_rd fun v d e H Q r k f q => by
  cases r with
  | int i =>
    cases k
    exact ⟨i, rfl, q⟩
  | _ => cases k
def intD : PyData → Option PyData
  | .int i => some (.int i)
  | .bool k => some (.int (if k then 1 else 0))
  | _ => none
theorem c1_int {K : PySem.W.Frag} {mg : Str → Option Value} {W : WX} {pin : List Nat} : C1 K mg W pin (fun xs H Q => (∃ i, xs = [.int i] ∧ Q (.int i) H) ∨ ∃ k, xs = [.bl k] ∧ Q (.int (if k then 1 else 0)) H) (gRd intD) := c1_rd fun v d e H Q r k f q => by
  cases r with
  | int i =>
    cases k
    exact .inl ⟨i, rfl, q⟩
  | bl b =>
    cases k
    exact .inr ⟨b, rfl, q⟩
  | _ => cases k
/-! lists of ints, of truth values -/
def intsOf : List PyData → Option (List Int)
  | [] => some []
  | .int i :: r => (intsOf r).map (i :: ·)
  | _ :: _ => none
theorem intsOf_eq : ∀ {ds : List PyData} {ns : List Int}, intsOf ds = some ns → ds = ns.map .int
  | [], _, h => by cases h; rfl
  | .int i :: r, ns, h => by
    rw [intsOf] at h
    cases q : intsOf r with
    | none => rw [q] at h; cases h
    | some ms =>
      rw [q] at h
      cases h
      rw [intsOf_eq q]
      rfl
  | .none :: r, _, h => by cases h
  | .bool _ :: r, _, h => by cases h
  | .str _ :: r, _, h => by cases h
  | .list _ :: r, _, h => by cases h
  | .tuple _ :: r, _, h => by cases h
  | .dict _ :: r, _, h => by cases h
theorem intsOf_map : ∀ ns : List Int, intsOf (ns.map .int) = some ns
  | [] => rfl
  | n :: ns => by
    rw [List.map_cons, intsOf, intsOf_map ns]
    rfl
def boolsOf : List PyData → Option (List Bool)
  | [] => some []
  | .bool i :: r => (boolsOf r).map (i :: ·)
  | _ :: _ => none
theorem boolsOf_eq : ∀ {ds : List PyData} {ns : List Bool}, boolsOf ds = some ns → ds = ns.map .bool
  | [], _, h => by cases h; rfl
  | .bool i :: r, ns, h => by
    rw [boolsOf] at h
    cases q : boolsOf r with
    | none => rw [q] at h; cases h
    | some ms =>
      rw [q] at h
      cases h
      rw [boolsOf_eq q]
      rfl
  | .none :: r, _, h => by cases h
  | .int _ :: r, _, h => by cases h
  | .str _ :: r, _, h => by cases h
  | .list _ :: r, _, h => by cases h
  | .tuple _ :: r, _, h => by cases h
  | .dict _ :: r, _, h => by cases h
theorem boolsOf_map : ∀ ns : List Bool, boolsOf (ns.map .bool) = some ns
  | [] => rfl
  | n :: ns => by
    rw [List.map_cons, boolsOf, boolsOf_map ns]
    rfl
theorem RpL.bools {K : PySem.W.Frag} {H : Hp} : ∀ {vs : List V} {ns : List Bool}, RpL K H vs (ns.map .bool) → vs = ns.map V.bl
  | _, [], .nil => rfl
  | _, n :: ns, .cons r t => by
    cases r
    rw [RpL.bools t]
    rfl
def overI (k : List Int → Option PyData) : PyData → Option PyData
  | .list ds => (intsOf ds).bind k
  | _ => none
def overB (k : List Bool → Option PyData) : PyData → Option PyData
  | .list ds => (boolsOf ds).bind k
  | _ => none
theorem c1_overI {K : PySem.W.Frag} {mg : Str → Option Value} {W : WX} {pin : List Nat} {k : List Int → Option PyData} {r : List V → Hp → VK → Prop} (h : ∀ a ns e H (Q : VK), SqL K H a (ns.map V.int) → k ns = some e → Q (dV e) H → r [.ref a] H Q) : C1 K mg W pin r (gRd (overI k)) := c1_rd fun v d e H Q rp ke f q => by
  cases rp with
  | lst h1 h2 =>
    rename_i ds
    simp only [overI] at ke
    cases q1 : intsOf ds with
    | none => rw [q1] at ke; cases ke
    | some ns =>
      rw [q1] at ke
      have e1 := intsOf_eq q1
      subst e1
      have e2 := h2.ints
      subst e2
      exact h _ ns e H Q h1.sq ke q
  | _ => cases ke
theorem c1_overB {K : PySem.W.Frag} {mg : Str → Option Value} {W : WX} {pin : List Nat} {k : List Bool → Option PyData} {r : List V → Hp → VK → Prop} (h : ∀ a ns e H (Q : VK), SqL K H a (ns.map V.bl) → k ns = some e → Q (dV e) H → r [.ref a] H Q) : C1 K mg W pin r (gRd (overB k)) := c1_rd fun v d e H Q rp ke f q => by
  cases rp with
  | lst h1 h2 =>
    rename_i ds
    simp only [overB] at ke
    cases q1 : boolsOf ds with
    | none => rw [q1] at ke; cases ke
    | some ns =>
      rw [q1] at ke
      have e1 := boolsOf_eq q1
      subst e1
      have e2 := h2.bools
      subst e2
      exact h _ ns e H Q h1.sq ke q
  | _ => cases ke
def maxI : List Int → Option PyData
  | [] => none
  | n :: ns => some (.int (ns.foldl max n))
def minI : List Int → Option PyData
  | [] => none
  | n :: ns => some (.int (ns.foldl min n))
theorem foldl_max : ∀ (ns : List Int) (n : Int), ns.foldl max n ∈ n :: ns ∧ n ≤ ns.foldl max n ∧ ∀ y ∈ ns, y ≤ ns.foldl max n
  | [], n => ⟨by simp, Int.le_refl _, fun y h => by cases h⟩
  | m :: ns, n => by
    obtain ⟨h1, h2, h3⟩ := foldl_max ns (max n m)
    rw [List.foldl_cons]
    refine ⟨?_, by omega, fun y hy => ?_⟩
    · rcases List.mem_cons.mp h1 with e | e
      · rw [e]
        by_cases c : n ≤ m
        · rw [Int.max_eq_right c]; simp
        · rw [Int.max_eq_left (by omega)]; simp
      · simp [e]
    · rcases List.mem_cons.mp hy with e | e
      · subst e; omega
      · exact h3 y e
theorem foldl_min : ∀ (ns : List Int) (n : Int), ns.foldl min n ∈ n :: ns ∧ ns.foldl min n ≤ n ∧ ∀ y ∈ ns, ns.foldl min n ≤ y
  | [], n => ⟨by simp, Int.le_refl _, fun y h => by cases h⟩
  | m :: ns, n => by
    obtain ⟨h1, h2, h3⟩ := foldl_min ns (min n m)
    rw [List.foldl_cons]
    refine ⟨?_, by omega, fun y hy => ?_⟩
    · rcases List.mem_cons.mp h1 with e | e
      · rw [e]
        by_cases c : n ≤ m
        · rw [Int.min_eq_left c]; simp
        · rw [Int.min_eq_right (by omega)]; simp
      · simp [e]
    · rcases List.mem_cons.mp hy with e | e
      · subst e; omega
      · exact h3 y e
section
variable {K : PySem.W.Frag} {mg : Str → Option Value} {W : WX} {pin : List Nat}
theorem c1_sum : C1 K mg W pin (rSum K) (gRd (overI fun ns => some (.int ns.sum))) := c1_overI fun a ns e H Q s k q => by
  cases k
  exact ⟨a, ns, rfl, s, q⟩
theorem c1_max : C1 K mg W pin (rMax K) (gRd (overI maxI)) := c1_overI fun a ns e H Q s k q => by
  cases ns with
  | nil => cases k
  | cons n ns =>
    cases k
    obtain ⟨h1, h2, h3⟩ := foldl_max ns n
    refine ⟨a, n :: ns, rfl, s, by simp, fun m hm hle => ?_⟩
    have e1 : m ≤ ns.foldl max n := by
      rcases List.mem_cons.mp hm with e | e
      · omega
      · exact h3 m e
    have e2 := hle _ h1
    rw [show m = ns.foldl max n by omega]
    exact q
theorem c1_min : C1 K mg W pin (rMin K) (gRd (overI minI)) := c1_overI fun a ns e H Q s k q => by
  cases ns with
  | nil => cases k
  | cons n ns =>
    cases k
    obtain ⟨h1, h2, h3⟩ := foldl_min ns n
    refine ⟨a, n :: ns, rfl, s, by simp, fun m hm hle => ?_⟩
    have e1 : ns.foldl min n ≤ m := by
      rcases List.mem_cons.mp hm with e | e
      · omega
      · exact h3 m e
    have e2 := hle _ h1
    rw [show m = ns.foldl min n by omega]
    exact q
theorem c1_all : C1 K mg W pin (rAll K) (gRd (overB fun ns => some (.bool (ns.all id)))) := c1_overB fun a ns e H Q s k q => by
  cases k
  exact ⟨a, ns, rfl, s, q⟩
theorem c1_any : C1 K mg W pin (rAny K) (gRd (overB fun ns => some (.bool (ns.any id)))) := c1_overB fun a ns e H Q s k q => by
  cases k
  exact ⟨a, ns, rfl, s, q⟩
abbrev gMax2 := gI yes2 fun i j => if j > i then j else i
abbrev gMin2 := gI yes2 fun i j => if j < i then j else i
theorem c2_i {g : Int → Int → Int} : C2 K mg W pin (fun xs H Q => ∃ i j, xs = [.int i, .int j] ∧ Q (.int (g i j)) H) (gI yes2 g) := by
  intro b Fz F δ σ H v w x y Q hp R A B P
  obtain ⟨i, j, h1, h2, _, q⟩ := v2_i (K := K) (mg := mg) (W := W) (C' := fun _ _ => True) (fun _ _ _ => trivial) b Fz F δ σ H v w x y Q hp R A B P
  exact ⟨i, j, by rw [h1, h2], q⟩
/-- list(xs), tuple(xs) -/
def gList (x : AV) (δ : List Sl) : Rs AV := match rdC δ x with
  | some (.list ds) => .ok (.tmp (.ol (ds.map .fz))) δ
  | some (.tuple ds) => .ok (.tmp (.ol (ds.map .fz))) δ
  | _ => .bad
def gTuple (x : AV) (δ : List Sl) : Rs AV := match rdC δ x with
  | some (.list ds) => .ok (.val (.tuple ds)) δ
  | some (.tuple ds) => .ok (.val (.tuple ds)) δ
  | _ => .bad
theorem c1_list : C1 K mg W pin (fun xs H Q => ∃ p ys, xs = [.ref p] ∧ (SqL K H p ys ∨ SqT K H p ys) ∧ ∀ l, H l = none → Q (.ref l) (upd H l (.lst ys))) gList := by
  intro b Fz F δ σ H v x Q hp R A P
  unfold gList at P
  cases q : rdC δ x with
  | none => simp only [q] at P; exact P.elim
  | some d =>
    cases d with
    | list ds =>
      simp only [q] at P
      obtain ⟨a, vs, e1, s1, r1⟩ := (rdC_ok R A q).list R.le
      exact ⟨a, vs, by rw [e1], .inl s1.sq, post_newL R r1 P⟩
    | tuple ds =>
      simp only [q] at P
      obtain ⟨a, vs, e1, s1, r1⟩ := (rdC_ok R A q).tup R.le
      exact ⟨a, vs, by rw [e1], .inr s1, post_newL R r1 P⟩
    | _ => simp only [q] at P; exact P.elim
theorem c1_tuple : C1 K mg W pin (fun xs H Q => ∃ p ys, xs = [.ref p] ∧ ((SqL K H p ys ∧ ∀ l, H l = none → Q (.ref l) (upd H l (.tup ys))) ∨ (SqT K H p ys ∧ Q (.ref p) H))) gTuple := by
  intro b Fz F δ σ H v x Q hp R A P
  unfold gTuple at P
  cases q : rdC δ x with
  | none => simp only [q] at P; exact P.elim
  | some d =>
    have h := rdC_ok R A q
    cases d with
    | list ds =>
      simp only [q] at P
      obtain ⟨a, vs, e1, s1, r1⟩ := h.list R.le
      exact ⟨a, vs, by rw [e1], .inl ⟨s1.sq, post_newT R r1 P⟩⟩
    | tuple ds =>
      simp only [q] at P
      obtain ⟨a, vs, e1, s1, r1⟩ := h.tup R.le
      refine ⟨a, vs, by rw [e1], .inr ⟨s1, ?_⟩⟩
      rcases h with h | ⟨_, _, _, _, e3, _⟩
      · rw [← e1]
        exact P v H Fz F (Same.refl _) R h
      · cases e3
    | _ => simp only [q] at P; exact P.elim
/-! ### sorted, of ints -/
def sortI (ns : List Int) : List Int := ns.mergeSort fun a b => decide (a ≤ b)
theorem sortI_perm (ns : List Int) : (sortI ns).Perm ns := List.mergeSort_perm _ _
theorem sortI_up (ns : List Int) : (sortI ns).Pairwise (· ≤ ·) := by
  have h := List.pairwise_mergeSort (le := fun a b : Int => decide (a ≤ b)) (fun a b c h1 h2 => by simp at *; omega) (fun a b => by simp; omega) ns
  exact h.imp fun {a b} q => of_decide_eq_true q
theorem up_unique : ∀ {xs ys : List Int}, xs.Perm ys → xs.Pairwise (· ≤ ·) → ys.Pairwise (· ≤ ·) → xs = ys
  | [], ys, p, _, _ => by rw [List.Perm.eq_nil (p.symm)]
  | x :: xs, [], p, _, _ => by cases p.eq_nil
  | x :: xs, y :: ys, p, h1, h2 => by
    rw [List.pairwise_cons] at h1 h2
    have e : x = y := by
      have a1 : x ∈ y :: ys := p.mem_iff.mp List.mem_cons_self
      have a2 : y ∈ x :: xs := p.mem_iff.mpr List.mem_cons_self
      rcases List.mem_cons.mp a1 with z | z
      · exact z
      · rcases List.mem_cons.mp a2 with w | w
        · exact w.symm
        · have := h1.1 y w
          have := h2.1 x z
          omega
    subst e
    rw [up_unique (List.Perm.cons_inv p) h1.2 h2.2]
theorem sortI_eq {ns ms : List Int} (p : ms.Perm ns) (h : ms.Pairwise (· ≤ ·)) : ms = sortI ns := up_unique (p.trans (sortI_perm ns).symm) h (sortI_up ns)
def gSortI (x : AV) (δ : List Sl) : Rs AV := match rdA δ x with
  | some (.list ds) => (match intsOf ds with
    | some ns => .ok (.tmp (.ol (((sortI ns).map .int).map .fz))) δ
    | none => .bad)
  | _ => .bad
theorem c1_sortI : C1 K mg W pin (rSortedI K) gSortI := by
  intro b Fz F δ σ H v x Q hp R A P
  unfold gSortI at P
  cases q : rdA δ x with
  | none => simp only [q] at P; exact P.elim
  | some d =>
    have h := rdA_ok R A q
    cases d with
    | list ds =>
      cases q1 : intsOf ds with
      | none => simp only [q, q1] at P; exact P.elim
      | some ns =>
        simp only [q, q1] at P
        have e1 := intsOf_eq q1
        subst e1
        cases h with
        | lst h1 h2 =>
          have e2 := h2.ints
          subst e2
          refine ⟨_, ns, rfl, h1.sq, fun ns' p pe up np => ?_⟩
          rw [sortI_eq pe up]
          exact post_newL R (RpL.ofInts _) P p np
    | _ => simp only [q] at P; exact P.elim
end
/-! ### isinstance -/
def tyD : PyData → String
  | .none => "NoneType"
  | .bool _ => "bool"
  | .int _ => "int"
  | .str _ => "str"
  | .list _ => "list"
  | .tuple _ => "tuple"
  | .dict _ => "dict"
def isiB (a b : String) : Bool := a == b || (a == "bool" && b == "int")
def gIsi (T : String) : AV → List Sl → Rs AV := gRd fun d => some (.bool (isiB (tyD d) T))
theorem tyx_of {K : PySem.W.Frag} {H : Hp} {v : V} {d : PyData} (h : Rp K H v d) : TyX K H v (.type (tyD d)) := by
  cases h with
  | non => exact .base .non
  | bl b => exact .base (.bl b)
  | int i => exact .base (.int i)
  | str x => exact .base (.str x)
  | lst h1 h2 =>
    rcases h1 with (h | ⟨o, h⟩) | ⟨its, n, h, _⟩
    · exact .base (.lst h)
    · exact .base (.frz h)
    · exact .kList h rfl
  | tup h1 h2 =>
    rcases h1 with (h | ⟨o, h⟩) | ⟨o, its, n, h, hc, _⟩
    · exact .base (.tup h)
    · exact .fTuple h
    · exact .kTuple h hc
  | dK h1 h2 => exact .base (.dK h1)
  | dT h1 h2 => exact .base (.dT h1)
def rIsi1 (K : PySem.W.Frag) (T : String) : List V → Hp → VK → Prop := fun xs H Q => ∃ x, xs = [x, .ty T] ∧ ∃ t b, TyX K H x (.type t) ∧ PySem.W.kitOne K (.type t) (.type T) = some b ∧ Q (.bl b) H
def kitAll (T : String) : Bool := ["NoneType", "bool", "int", "str", "list", "tuple", "dict"].all fun t => decide (kitB t T = some (isiB t T))
theorem se_isi {X : Cx} {W : WX} {pin : List Nat} {fa : List Sl → Rs AV} {a : Expr} {y : Str} {T : String} {p p2 pos : Pos} (hk : kitAll T = true) (hg : Gl X "isinstance") (hm : X.mg "isinstance" = none) (hg2 : Gl X y) (hm2 : X.mg y = none) (hv2 : bootBuiltins y = some (.type T)) (ha : SE X W pin a fa)
    (hn : y ≠ "__name__" := by decide) (hdb : (y == ("__debug__" : Str)) = false := by decide) (he : starEach [a, .Name y p2] X.env = (false, eval a X.env) :: starEach [.Name y p2] X.env := by rfl) : SE X W pin (.Call (.Name "isinstance" p) [a, .Name y p2] [] pos) (s1 (gIsi T) fa) :=
  pe_mono (pe_callB call_isi hg hm PyProof.Rows.boot_isinstance (pa_cons (se_st ha) (pa_cons (pe_bltn (v := .ty T) hg2 hm2 hv2 rfl hn hdb) pa_nil) he) (by decide) (by decide) he) fun σ H Q ⟨b, Fz, F, δ, hp, R, P⟩ => by
    refine rd_bind hp R P fun v H1 Fz1 F1 x δ1 s1 R1 A1 P1 => ?_
    unfold gIsi gRd at P1
    cases q : rdA δ1 x with
    | none => simp only [q, Option.bind_none] at P1; exact P1.elim
    | some d =>
      simp only [q, Option.bind_some, flatD, if_true] at P1
      have r := rdA_ok R1 A1 q
      refine ⟨v, .ty T, .type (tyD d), .type T, isiB (tyD d) T, rfl, .ty T, tyx_of r, kit_ty ?_, P1 _ H1 Fz1 F1 (Same.refl _) R1 (.bl _)⟩
      unfold kitAll at hk
      rw [List.all_eq_true] at hk
      have hin : tyD d ∈ ["NoneType", "bool", "int", "str", "list", "tuple", "dict"] := by cases d <;> simp [tyD]
      exact of_decide_eq_true (hk _ hin)
end Hb

namespace Hb
open PySem PySem.Spec PyProof.Rows L2

/-! ### a list of one's own changes -/
theorem Rl.mut {K : PySem.W.Frag} {b : Bk} {Fz : Hp} {F : Nat → List Addr} {δ : List Sl} {σ : L2.St} {H : Hp} (R : Rl K b Fz F δ σ H) {i : Nat} {xs es : List El} {l : Addr} {vs : List V} {g : List Addr}
    (hs : δ[i]? = some (.ol xs)) (hv : σ[i]? = some (some (.ref l))) (hE : ElL K Fz H g vs es) (hg : (l :: g).Nodup) (sub : ∀ a ∈ g, a ∈ F i) :
    Rl K b Fz (fun k => if k = i then l :: g else F k) (upS i (.ol es) δ) σ (upd H l (.lst vs)) := by
  obtain ⟨a, ws, g0, e1, e2, e3, e4⟩ := R.slot i _ hs
  rw [hv] at e1
  cases e1
  have hl : l ∈ F i := by rw [e2]; exact List.mem_cons_self
  have ne : ∀ c, Fz c ≠ none → c ≠ l := fun c hc z => hc (by rw [z]; exact R.offF i l hl)
  have neB : ∀ c, b.B c ≠ none → c ≠ l := fun c hc z => hc (by rw [z]; exact R.offB i l hl)
  have all : ∀ a ∈ l :: g, a ∈ F i := fun a ha => (List.mem_cons.mp ha).elim (fun z => by rw [z]; exact hl) (sub a)
  refine R.put (Same.refl _) (fun c o e => ?_) (fun c o e => ?_) rfl (fun _ _ => rfl) (.inl rfl) (fun _ => ?_) (fun x j z => nomatch z) hg (fun a ha => R.offF i a (all a ha)) (fun a ha => R.offB i a (all a ha)) (fun a ha k hk hin => hk (R.dj k i a hin (all a ha))) (fun a ha => ?_) (fun k hk a ha => ?_) (fun k hk a ha => R.offF k a ha) (fun _ _ => rfl)
  · rw [upd_ne (ne c (by rw [e]; simp))]
    exact R.le c o e
  · rw [upd_ne (neB c (by rw [e]; simp))]
    exact R.base c o e
  · rw [hv]
    refine ⟨l, vs, g, rfl, rfl, upd_same, hE.keeps (Same.refl _) fun c hc => upd_ne fun z => ?_⟩
    subst z
    exact (List.nodup_cons.mp hg).1 hc
  · by_cases z : a = l
    · rw [z, upd_same]; simp
    · rw [upd_ne z]
      exact R.on i a (all a ha)
  · exact upd_ne fun z => hk (R.dj k i a ha (by rw [z]; exact hl))
theorem Rl.own {K : PySem.W.Frag} {b : Bk} {Fz : Hp} {F : Nat → List Addr} {δ : List Sl} {σ : L2.St} {H : Hp} (R : Rl K b Fz F δ σ H) {i : Nat} {xs : List El} {v : V} (hs : δ[i]? = some (.ol xs)) (hv : σ[i]? = some (some v)) :
    ∃ l vs g, v = .ref l ∧ H l = some (.lst vs) ∧ ElL K Fz H g vs xs ∧ F i = l :: g ∧ (l :: g).Nodup := by
  obtain ⟨a, ws, g0, e1, e2, e3, e4⟩ := R.slot i _ hs
  rw [hv] at e1
  cases e1
  exact ⟨a, ws, g0, rfl, e3, e4, e2, by rw [← e2]; exact R.nd i⟩
theorem ElL.app {K : PySem.W.Frag} {Fz H : Hp} : ∀ {f g : List Addr} {vs ws : List V} {es ds : List El}, ElL K Fz H f vs es → ElL K Fz H g ws ds → ElL K Fz H (f ++ g) (vs ++ ws) (es ++ ds)
  | _, _, _, _, _, _, .nil, s => s
  | _, _, _, _, _, _, .cons h t, s => by
    rw [List.append_assoc]
    exact .cons h (t.app s)

/-! ### methods of lists -/
def appI (i : Nat) (d : PyData) (δ : List Sl) : Rs AV := match δ[i]? with
  | some (.ol xs) => if xs.length ≤ cap then .ok (.val .none) (upS i (.ol (xs ++ [.fz d])) δ) else .bad
  | _ => .bad
def appA (x : AV) (d : PyData) (δ : List Sl) : Rs AV := match x with
  | .ref i => appI i d δ
  | _ => .bad
def isLst (δ : List Sl) (x : AV) : Bool := match rdA δ x with
  | some (.list _) => true
  | _ => false
def sApp (fo fa : List Sl → Rs AV) : List Sl → Rs AV := fun δ => (sSt fo δ).bind fun x δ1 => if isLst δ1 x = true then (sTk fa δ1).val fun d δ2 => appA x d δ2
  else .bad
theorem isLst_ty {K : PySem.W.Frag} {b : Bk} {Fz : Hp} {F : Nat → List Addr} {δ : List Sl} {σ : L2.St} {H : Hp} {v : V} {x : AV} (R : Rl K b Fz F δ σ H) (A : AvS K Fz σ v x) (h : isLst δ x = true) : tyV K "list" v H := by
  unfold isLst at h
  cases q : rdA δ x with
  | none => rw [q] at h; cases h
  | some d =>
    rw [q] at h
    cases d with
    | list ds =>
      have r := rdA_ok R A q
      cases r with
      | lst h1 h2 => exact .inl ⟨rfl, _, h1.sq⟩
    | _ => cases h
section
variable {K : PySem.W.Frag} {mg : Str → Option Value} {W : WX} {pin : List Nat}
theorem rd_val {f : List Sl → Rs AV} {σ : L2.St} {H : Hp} {b : Bk} {Fz : Hp} {F : Nat → List Addr} {δ : List Sl} {k : PyData → List Sl → Rs AV} {Q : VK} {R : VK} (hp : b.pin = pin) (Rr : Rl K b Fz F δ σ H) (P : Post K mg W b Fz σ Q ((sTk f δ).val k))
    (h : ∀ v H' Fz' F' d δ', Same Fz Fz' → Rl K b Fz' F' δ' σ H' → Rp K Fz' v d → Post K mg W b Fz' σ Q (k d δ') → R v H') : rdE K mg W pin (sTk f) σ H R := by
  refine ⟨b, Fz, F, δ, hp, Rr, ?_⟩
  cases q : sTk f δ with
  | bad => rw [q] at P; exact P
  | er x δ' => rw [q] at P; exact P
  | ok a δ' =>
    rw [q] at P
    intro v H' Fz' F' s R' A
    cases a with
    | tmp t => exact False.elim P
    | ref i => exact False.elim P
    | val d => exact h v H' Fz' F' d δ' s R' A (Post.le s P)
theorem app_ok {b : Bk} {Fz : Hp} {F : Nat → List Addr} {δ : List Sl} {σ : L2.St} {H : Hp} {Q : VK} {v w : V} {x : AV} {d : PyData} (R : Rl K b Fz F δ σ H) (A : AvS K Fz σ v x) (r : Rp K Fz w d) (P : Post K mg W b Fz σ Q (appA x d δ)) : rAppend v [w] H Q := by
  cases x with
  | val e => exact P.elim
  | tmp s => exact P.elim
  | ref i =>
    have hv : σ[i]? = some (some v) := A
    have P : Post K mg W b Fz σ Q (appI i d δ) := P
    unfold appI at P
    cases q : δ[i]? with
    | none => simp only [q] at P; exact P.elim
    | some s =>
      cases s with
      | ol xs =>
        simp only [q] at P
        by_cases c : xs.length ≤ cap
        · rw [if_pos c] at P
          obtain ⟨l, vs, g, e1, e2, e3, e4, e5⟩ := R.own q hv
          subst e1
          have e6 : ElL K Fz H (g ++ ([] ++ [])) (vs ++ [w]) (xs ++ [.fz d]) := e3.app (.cons ⟨rfl, r⟩ .nil)
          rw [List.append_nil, List.append_nil] at e6
          have R' := R.mut q hv e6 e5 (fun a ha => by rw [e4]; exact List.mem_cons_of_mem _ ha)
          exact ⟨l, vs, w, rfl, rfl, e2, by rw [e3.len]; exact lt_line c, P .non _ Fz _ (Same.refl _) R' .non⟩
        · rw [if_neg c] at P
          exact P.elim
      | _ => simp only [q] at P; exact P.elim
end
section
variable {X : Cx} {W : WX} {pin : List Nat} {fo fa : List Sl → Rs AV} {o e : Expr} {apos cpos : Pos}
theorem se_app (ho : SE X W pin o fo) (ha : SE X W pin e fa) (hbase : attributeBase o "append" X.env (eval o X.env) = eval o X.env := by rfl) (hline : (apos.endLine == cpos.line) = true := by rfl)
    (hs : starEach [e] X.env = (false, eval e X.env) :: starEach [] X.env := by rfl) (hfew : ((backTo cpos (starEach [e] X.env)).all (fun x => !x.1) && (backToKw cpos (keywordEach [] X.env)).all (fun x => x.1.isSome)
      && decide ([e].length + ([] : List Keyword).length + (if ([] : List Keyword).isEmpty then 0 else 1) < 30)) = true := by rfl) :
    SE X W pin (.Call (.Attribute o "append" apos) [e] [] cpos) (sApp fo fa) :=
  pe_mono (pe_bm PySem.F.plainAttrs_list PySem.F.slot_list_append PySem.F.type_list_append mt_append (se_st ho) (pa_cons (se_tk ha) pa_nil hs) hbase hfew hline hs rfl) fun σ H Q ⟨b, Fz, F, δ, hp, R, P⟩ => by
    refine rd_bind hp R P fun v H1 Fz1 F1 x δ1 s1 R1 A1 P1 => ?_
    by_cases c : isLst δ1 x = true
    · rw [if_pos c] at P1
      refine ⟨isLst_ty R1 A1 c, ?_⟩
      refine rd_val hp R1 P1 fun w H2 Fz2 F2 d δ2 s2 R2 A2 P2 => ?_
      exact app_ok R2 (A1.le s2) A2 P2
    · rw [if_neg c] at P1
      exact P1.elim
/-- xs.pop(i) -/
def popI (i : Nat) (k : Int) (δ : List Sl) : Rs AV := match δ[i]? with
  | some (.ol xs) => (match allFz xs with
    | some ds => (match ixN ds.length k with
      | some j => (match ds[j]? with
        | some d => if ds.length ≤ cap then .ok (.val d) (upS i (.ol ((ds.eraseIdx j).map .fz)) δ) else .bad
        | none => .bad)
      | none => .bad)
    | none => .bad)
  | _ => .bad
def sPop1 (fo fa : List Sl → Rs AV) : List Sl → Rs AV := fun δ => (sSt fo δ).bind fun x δ1 => if isLst δ1 x = true then (sTk fa δ1).val fun d δ2 => match x, d with
  | .ref i, .int k => popI i k δ2
  | _, _ => .bad
  else .bad
theorem pop_ok {K : PySem.W.Frag} {mg : Str → Option Value} {b : Bk} {Fz : Hp} {F : Nat → List Addr} {δ : List Sl} {σ : L2.St} {H : Hp} {Q : VK} {v : V} {i : Nat} {k : Int} (R : Rl K b Fz F δ σ H) (hv : σ[i]? = some (some v)) (P : Post K mg W b Fz σ Q (popI i k δ)) :
    ∃ l vs j u, v = .ref l ∧ H l = some (.lst vs) ∧ ixN vs.length k = some j ∧ vs[j]? = some u ∧ vs.length ≤ cap ∧ Q u (upd H l (.lst (vs.eraseIdx j))) := by
  unfold popI at P
  cases q : δ[i]? with
  | none => simp only [q] at P; exact P.elim
  | some s =>
    cases s with
    | ol xs =>
      simp only [q] at P
      cases q2 : allFz xs with
      | none => simp only [q2] at P; exact P.elim
      | some ds =>
        simp only [q2] at P
        cases q3 : ixN ds.length k with
        | none => simp only [q3] at P; exact P.elim
        | some j =>
          simp only [q3] at P
          cases q4 : ds[j]? with
          | none => simp only [q4] at P; exact P.elim
          | some d =>
            simp only [q4] at P
            by_cases c : ds.length ≤ cap
            · rw [if_pos c] at P
              obtain ⟨l, vs, g, e1, e2, e3, e4, e5⟩ := R.own q hv
              subst e1
              have rp := e3.allFz q2
              obtain ⟨u, hu, ru⟩ := rp.get q4
              have R' := R.mut (g := []) q hv (ElL.ofFz (rp.eraseIdx j)) (by simp) (fun a ha => nomatch ha)
              exact ⟨l, vs, j, u, rfl, e2, by rw [rp.len]; exact q3, hu, by rw [rp.len]; exact c, P u _ Fz _ (Same.refl _) R' ru⟩
            · rw [if_neg c] at P
              exact P.elim
    | _ => simp only [q] at P; exact P.elim
theorem se_pop1 (ho : SE X W pin o fo) (ha : SE X W pin e fa) (hbase : attributeBase o "pop" X.env (eval o X.env) = eval o X.env := by rfl) (hline : (apos.endLine == cpos.line) = true := by rfl)
    (hs : starEach [e] X.env = (false, eval e X.env) :: starEach [] X.env := by rfl) (hfew : ((backTo cpos (starEach [e] X.env)).all (fun x => !x.1) && (backToKw cpos (keywordEach [] X.env)).all (fun x => x.1.isSome)
      && decide ([e].length + ([] : List Keyword).length + (if ([] : List Keyword).isEmpty then 0 else 1) < 30)) = true := by rfl) :
    SE X W pin (.Call (.Attribute o "pop" apos) [e] [] cpos) (sPop1 fo fa) :=
  pe_mono (pe_bm PySem.F.plainAttrs_list PySem.F.slot_list_pop PySem.F.type_list_pop mt_popAt (se_st ho) (pa_cons (se_tk ha) pa_nil hs) hbase hfew hline hs rfl) fun σ H Q ⟨b, Fz, F, δ, hp, R, P⟩ => by
    refine rd_bind hp R P fun v H1 Fz1 F1 x δ1 s1 R1 A1 P1 => ?_
    by_cases c : isLst δ1 x = true
    · rw [if_pos c] at P1
      refine ⟨isLst_ty R1 A1 c, ?_⟩
      refine rd_val hp R1 P1 fun w H2 Fz2 F2 d δ2 s2 R2 A2 P2 => ?_
      cases x with
      | val e => exact P2.elim
      | tmp s => exact P2.elim
      | ref i =>
        cases d with
        | int k =>
          cases (show Rp X.K Fz2 w (.int k) from A2)
          obtain ⟨l, vs, j, u, e1, e2, e3, e4, e5, e6⟩ := pop_ok R2 (show σ[i]? = some (some v) from A1) P2
          obtain ⟨k1, k2, k3, k4⟩ := ixN_seq e3
          have : vs.length ≤ 1000000 := e5
          exact ⟨l, vs, k, j, u, e1, rfl, e2, by omega, by omega, k1, e4, e6⟩
        | _ => exact P2.elim
    · rw [if_neg c] at P1
      exact P1.elim
/-- xs.pop() -/
def sPop0 (fo : List Sl → Rs AV) : List Sl → Rs AV := fun δ => (sSt fo δ).bind fun x δ1 => if isLst δ1 x = true then match x with
  | .ref i => popI i (-1) δ1
  | _ => .bad
  else .bad
theorem se_pop0 (ho : SE X W pin o fo) (hbase : attributeBase o "pop" X.env (eval o X.env) = eval o X.env := by rfl) (hline : (apos.endLine == cpos.line) = true := by rfl) :
    SE X W pin (.Call (.Attribute o "pop" apos) [] [] cpos) (sPop0 fo) :=
  pe_mono (pe_bm0 PySem.F.plainAttrs_list PySem.F.slot_list_pop PySem.F.type_list_pop mt_pop (se_st ho) hbase hline) fun σ H Q ⟨b, Fz, F, δ, hp, R, P⟩ => by
    refine rd_bind hp R P fun v H1 Fz1 F1 x δ1 s1 R1 A1 P1 => ?_
    by_cases c : isLst δ1 x = true
    · rw [if_pos c] at P1
      refine ⟨isLst_ty R1 A1 c, ?_⟩
      cases x with
      | val e => exact P1.elim
      | tmp s => exact P1.elim
      | ref i =>
        obtain ⟨l, vs, j, u, e1, e2, e3, e4, e5, e6⟩ := pop_ok R1 (show σ[i]? = some (some v) from A1) P1
        have ej : j = vs.length - 1 := by
          unfold ixN at e3
          rw [if_neg (by decide)] at e3
          by_cases h : -(vs.length : Int) ≤ -1
          · rw [if_pos h] at e3
            have := Option.some.inj e3
            omega
          · rw [if_neg h] at e3
            cases e3
        subst ej
        refine ⟨l, vs, u, e1, rfl, e2, e4, ?_⟩
        rw [List.eraseIdx_length_sub_one] at e6
        exact e6
    · rw [if_neg c] at P1
      exact P1.elim
end

/-! ### statements -/
inductive Ot where
  | nx (δ : List Sl) | rt (s : Sl) (δ : List Sl) | bk (δ : List Sl) | ct (δ : List Sl) | er (x : Exn) (δ : List Sl) | bad
section
variable (K : PySem.W.Frag) (mg : Str → Option Value) (W : WX)
def PostXS (b : Bk) (Fz : Hp) (x : Exn) (δ : List Sl) : Prop := ∀ c dd σ' H' Fz' F', Same Fz Fz' → Rl K b Fz' F' δ σ' H' → ExR K mg Fz' H' x c dd → W c dd σ' H'
def PostS (b : Bk) (Fz : Hp) (D : Ends) : Ot → Prop
  | .nx δ => ∀ σ' H' Fz' F', Same Fz Fz' → Rl K b Fz' F' δ σ' H' → D.nx σ' H'
  | .rt s δ => ∀ v σ' H' Fz' F', Same Fz Fz' → Rl K b Fz' F' δ σ' H' → AvR K b Fz' F' H' σ' v (.tmp s) → D.rt v H'
  | .bk δ => ∀ σ' H' Fz' F', Same Fz Fz' → Rl K b Fz' F' δ σ' H' → D.bk σ' H'
  | .ct δ => ∀ σ' H' Fz' F', Same Fz Fz' → Rl K b Fz' F' δ σ' H' → D.ct σ' H'
  | .er x δ => PostXS K mg W b Fz x δ
  | .bad => False
def rdS (pin : List Nat) (f : List Sl → Ot) : TS := fun D σ H => ∃ b Fz F δ, b.pin = pin ∧ Rl K b Fz F δ σ H ∧ PostS K mg W b Fz D (f δ)
end
abbrev SS (X : Cx) (W : WX) (pin : List Nat) (st : Stmt) (f : List Sl → Ot) : Prop := PS X st (rdS X.K X.mg W pin f)
abbrev SSs (X : Cx) (W : WX) (pin : List Nat) (st : List Stmt) (f : List Sl → Ot) : Prop := PSs X st (rdS X.K X.mg W pin f)
theorem ps_mono {X : Cx} {st : Stmt} {t t' : TS} (h : PS X st t) (i : ∀ D σ H, t' D σ H → t D σ H) : PS X st t' := ⟨fun pins s σ H D I q => h.run pins s σ H D I (i D σ H q)⟩
theorem pss_mono {X : Cx} {st : List Stmt} {t t' : TS} (h : PSs X st t) (i : ∀ D σ H, t' D σ H → t D σ H) : PSs X st t' := ⟨fun pins s σ H D I q => h.run pins s σ H D I (i D σ H q)⟩
def Rs.ot {α : Type} (r : Rs α) (k : α → List Sl → Ot) : Ot := match r with
  | .ok a δ => k a δ
  | .er x δ => .er x δ
  | .bad => .bad
def oNext : List Sl → Ot := fun δ => .nx δ
def oSeq (f g : List Sl → Ot) : List Sl → Ot := fun δ => match f δ with
  | .nx δ' => g δ'
  | r => r
def oIf (t : List Sl → Rs Bool) (f g : List Sl → Ot) : List Sl → Ot := fun δ => (t δ).ot fun k δ' => if k = true then f δ' else g δ'
def oDrop (f : List Sl → Rs AV) : List Sl → Ot := fun δ => (f δ).ot fun _ δ' => .nx δ'
def oRet (f : List Sl → Rs AV) : List Sl → Ot := fun δ => (sMv f δ).ot fun a δ' => match a with
  | .val d => .rt (.fz d) δ'
  | .tmp s => .rt s δ'
  | .ref _ => .bad
def oRetN : List Sl → Ot := fun δ => .rt (.fz .none) δ
section
variable {K : PySem.W.Frag} {mg : Str → Option Value} {W : WX} {pin : List Nat} {b : Bk} {Fz Fz1 : Hp}
theorem PostXS.le {x : Exn} {δ : List Sl} (s : Same Fz Fz1) (p : PostXS K mg W b Fz x δ) : PostXS K mg W b Fz1 x δ := fun c dd σ' H' Fz' F' s' R e => p c dd σ' H' Fz' F' (s.trans s') R e
theorem PostXS.at_ {x : Exn} {δ : List Sl} {σ : L2.St} (p : PostXS K mg W b Fz x δ) : PostX K mg W b Fz σ x δ := fun c dd H' Fz' F' s' R e => p c dd σ H' Fz' F' s' R e
theorem PostS.le {D : Ends} {r : Ot} (s : Same Fz Fz1) (p : PostS K mg W b Fz D r) : PostS K mg W b Fz1 D r := by
  cases r with
  | nx δ => exact fun σ' H' Fz' F' s' R => p σ' H' Fz' F' (s.trans s') R
  | rt t δ => exact fun v σ' H' Fz' F' s' R A => p v σ' H' Fz' F' (s.trans s') R A
  | bk δ => exact fun σ' H' Fz' F' s' R => p σ' H' Fz' F' (s.trans s') R
  | ct δ => exact fun σ' H' Fz' F' s' R => p σ' H' Fz' F' (s.trans s') R
  | er x δ => exact PostXS.le s p
  | bad => exact p
/-- behind an expression -/
theorem rdS_bind {f : List Sl → Rs AV} {σ : L2.St} {H : Hp} {F : Nat → List Addr} {δ : List Sl} {k : AV → List Sl → Ot} {D : Ends} {R : VK} (hp : b.pin = pin) (Rr : Rl K b Fz F δ σ H) (P : PostS K mg W b Fz D ((f δ).ot k))
    (h : ∀ v H' Fz' F' a δ', Same Fz Fz' → Rl K b Fz' F' δ' σ H' → AvR K b Fz' F' H' σ v a → PostS K mg W b Fz' D (k a δ') → R v H') : rdE K mg W pin f σ H R := by
  refine ⟨b, Fz, F, δ, hp, Rr, ?_⟩
  cases q : f δ with
  | bad => rw [q] at P; exact P
  | er x δ' => rw [q] at P; exact PostXS.at_ P
  | ok a δ' =>
    rw [q] at P
    exact fun v H' Fz' F' s R' A => h v H' Fz' F' a δ' s R' A (PostS.le s P)
theorem rdS_bindT {t : List Sl → Rs Bool} {σ : L2.St} {H : Hp} {F : Nat → List Addr} {δ : List Sl} {k : Bool → List Sl → Ot} {D : Ends} {R : Bool → Hp → Prop} (hp : b.pin = pin) (Rr : Rl K b Fz F δ σ H) (P : PostS K mg W b Fz D ((t δ).ot k))
    (h : ∀ c H' Fz' F' δ', Same Fz Fz' → Rl K b Fz' F' δ' σ H' → PostS K mg W b Fz' D (k c δ') → R c H') : rdT K mg W pin t σ H R := by
  refine ⟨b, Fz, F, δ, hp, Rr, ?_⟩
  cases q : t δ with
  | bad => rw [q] at P; exact P
  | er x δ' => rw [q] at P; exact PostXS.at_ P
  | ok a δ' =>
    rw [q] at P
    exact fun H' Fz' F' s R' => h a H' Fz' F' δ' s R' (PostS.le s P)
end
section
variable {X : Cx} {W : WX} {pin : List Nat} {st : Stmt} {rest : List Stmt} {e c : Expr} {pos : Pos} {f : List Sl → Rs AV} {t : List Sl → Rs Bool} {u w : List Sl → Ot}
theorem ss_nil : SSs X W pin [] oNext := pss_mono pss_nil fun D σ H ⟨b, Fz, F, δ, hp, R, P⟩ => P σ H Fz F (Same.refl _) R
theorem seq_ok {K : PySem.W.Frag} {mg : Str → Option Value} : ∀ D σ H, rdS K mg W pin (oSeq u w) D σ H → tSeq (rdS K mg W pin u) (rdS K mg W pin w) D σ H := fun D σ H ⟨b, Fz, F, δ, hp, R, P⟩ => by
  refine ⟨b, Fz, F, δ, hp, R, ?_⟩
  unfold oSeq at P
  cases q : u δ with
  | nx δ' =>
    rw [q] at P
    exact fun σ' H' Fz' F' s R' => ⟨b, Fz', F', δ', hp, R', PostS.le s P⟩
  | rt s δ' => rw [q] at P; exact P
  | bk δ' => rw [q] at P; exact P
  | ct δ' => rw [q] at P; exact P
  | er x δ' => rw [q] at P; exact P
  | bad => rw [q] at P; exact P
theorem ss_cons (h1 : SS X W pin st u) (h2 : SSs X W pin rest w) : SSs X W pin (st :: rest) (oSeq u w) := pss_mono (pss_cons h1 h2) seq_ok
theorem ss_one (h1 : SS X W pin st u) : SSs X W pin [st] u := pss_one h1
theorem ss_pass : SS X W pin (.Pass pos) oNext := ps_mono ps_pass fun D σ H ⟨b, Fz, F, δ, hp, R, P⟩ => P σ H Fz F (Same.refl _) R
theorem ss_break : SS X W pin (.Break pos) (fun δ => .bk δ) := ps_mono ps_break fun D σ H ⟨b, Fz, F, δ, hp, R, P⟩ => P σ H Fz F (Same.refl _) R
theorem ss_continue : SS X W pin (.Continue pos) (fun δ => .ct δ) := ps_mono ps_continue fun D σ H ⟨b, Fz, F, δ, hp, R, P⟩ => P σ H Fz F (Same.refl _) R
theorem ss_never : SS X W pin st (fun _ => .bad) := ps_mono ps_never fun D σ H ⟨b, Fz, F, δ, hp, R, P⟩ => P
theorem ss_expr (h : SE X W pin e f) (hs : swapsWith e none pos.line X.env = pure false := by rfl) : SS X W pin (.Expr e pos) (oDrop f) := ps_mono (ps_expr h hs) fun D σ H ⟨b, Fz, F, δ, hp, R, P⟩ =>
  rdS_bind hp R P fun v H' Fz' F' a δ' s R' A P' => P' σ H' Fz' F' (Same.refl _) R'
theorem ss_ret (h : SE X W pin e f) : SS X W pin (.Return (some e) pos) (oRet f) := ps_mono (ps_ret (se_mv h)) fun D σ H ⟨b, Fz, F, δ, hp, R, P⟩ =>
  rdS_bind hp R P fun v H' Fz' F' a δ' s R' A P' => by
    cases a with
    | val d => exact P' v σ H' Fz' F' (Same.refl _) R' ⟨rfl, [], ⟨rfl, v, rfl, A⟩, List.nodup_nil, fun _ z => nomatch z⟩
    | tmp s => exact P' v σ H' Fz' F' (Same.refl _) R' A
    | ref i => exact P'.elim
theorem ss_retN : SS X W pin (.Return none pos) oRetN := ps_mono ps_retN fun D σ H ⟨b, Fz, F, δ, hp, R, P⟩ =>
  P .non σ H Fz F (Same.refl _) R ⟨rfl, [], ⟨rfl, .non, rfl, .non⟩, List.nodup_nil, fun _ z => nomatch z⟩
theorem ss_if {a d : List Stmt} (hc : ST X W pin c t) (ha : SSs X W pin a u) (hb : SSs X W pin d w) : SS X W pin (.If c a d pos) (oIf t u w) := ps_mono (ps_if hc ha hb) fun D σ H ⟨b, Fz, F, δ, hp, R, P⟩ =>
  rdS_bindT hp R P fun k H' Fz' F' δ' s R' P' => by
    by_cases e : k = true
    · rw [if_pos e] at P' ⊢
      exact ⟨b, Fz', F', δ', hp, R', P'⟩
    · rw [if_neg e] at P' ⊢
      exact ⟨b, Fz', F', δ', hp, R', P'⟩
/-! ### while -/
def oWh (t : List Sl → Rs Bool) (f : List Sl → Ot) : Nat → List Sl → Ot
  | 0, _ => .bad
  | n + 1, δ => (t δ).ot fun k δ1 => if k = true then (match f δ1 with
    | .nx δ2 => oWh t f n δ2
    | .ct δ2 => oWh t f n δ2
    | .bk δ2 => .nx δ2
    | r => r) else .nx δ1
theorem ss_while (n : Nat) {body : List Stmt} (hp : PassesOwn (model X.prog X.w) X.A X.env X.xe) (hc : ST X W pin c t) (hb : SSs X W pin body u) : SS X W pin (.While c body [] pos) (oWh t u n) := ps_mono (ps_while hp hc hb) fun D σ H ⟨b, Fz, F, δ, hpin, R, P⟩ => by
  refine ⟨fun m σ H => ∃ Fz F δ, Rl X.K b Fz F δ σ H ∧ PostS X.K X.mg W b Fz D (oWh t u m δ), ⟨n, Fz, F, δ, R, P⟩, ?_⟩
  rintro m σ1 H1 ⟨Fz1, F1, δ1, R1, P1⟩
  cases m with
  | zero => exact P1.elim
  | succ m =>
    refine rdS_bindT hpin R1 P1 fun k H' Fz' F' δ' s R' P' => ?_
    by_cases e : k = true
    · rw [if_pos e] at P' ⊢
      refine ⟨fun σ H => ∃ Fz F δ, Rl X.K b Fz F δ σ H ∧ PostS X.K X.mg W b Fz D (oWh t u m δ), fun σ2 H2 h => ⟨m, Nat.lt_succ_self m, h⟩, b, Fz', F', δ', hpin, R', ?_⟩
      cases q : u δ' with
      | nx δ2 => rw [q] at P'; exact fun σ3 H3 Fz3 F3 s3 R3 => ⟨Fz3, F3, δ2, R3, PostS.le s3 P'⟩
      | ct δ2 => rw [q] at P'; exact fun σ3 H3 Fz3 F3 s3 R3 => ⟨Fz3, F3, δ2, R3, PostS.le s3 P'⟩
      | bk δ2 => rw [q] at P'; exact P'
      | rt s δ2 => rw [q] at P'; exact P'
      | er x δ2 => rw [q] at P'; exact P'
      | bad => rw [q] at P'; exact P'
    · rw [if_neg e] at P' ⊢
      exact P' σ1 H' Fz' F' (Same.refl _) R'
end
end Hb

namespace Hb
open PySem PySem.Spec PyProof.Rows L2

/-! ### targets: ts the slots that they store -/
/-- only the slots ts were stored -/
def Stored (ts : List Nat) (σ σ' : L2.St) : Prop := σ'.length = σ.length ∧ ∀ k, k ∉ ts → σ'[k]? = σ[k]?
theorem Stored.refl (ts : List Nat) (σ : L2.St) : Stored ts σ σ := ⟨rfl, fun _ _ => rfl⟩
section
variable (K : PySem.W.Frag) (mg : Str → Option Value) (W : WX)
def PostG (b : Bk) (Fz : Hp) (ts : List Nat) (σ : L2.St) (Q : L2.St → Hp → Prop) : Rs Unit → Prop
  | .ok _ δ => ∀ σ' H' Fz' F', Same Fz Fz' → Rl K b Fz' F' δ σ' H' → Stored ts σ σ' → Q σ' H'
  | .er x δ => PostXS K mg W b Fz x δ
  | .bad => False
def rdG (pin ts : List Nat) (t : AV → List Sl → Rs Unit) : TG := fun v σ H Q => ∃ b Fz F δ a, b.pin = pin ∧ Rl K b Fz F δ σ H ∧ AvR K b Fz F H σ v a ∧ PostG K mg W b Fz ts σ Q (t a δ)
def rdGs (pin ts : List Nat) (t : List PyData → List Sl → Rs Unit) : TGs := fun vs σ H Q => ∃ b Fz F δ ds, b.pin = pin ∧ Rl K b Fz F δ σ H ∧ RpL K Fz vs ds ∧ PostG K mg W b Fz ts σ Q (t ds δ)
end
abbrev SG (X : Cx) (W : WX) (pin ts : List Nat) (e : Expr) (t : AV → List Sl → Rs Unit) : Prop := PG X e (rdG X.K X.mg W pin ts t)
abbrev SGs (X : Cx) (W : WX) (pin ts : List Nat) (es : List Expr) (t : List PyData → List Sl → Rs Unit) : Prop := PGs X es (rdGs X.K X.mg W pin ts t)
theorem pg_mono {X : Cx} {e : Expr} {t t' : TG} (h : PG X e t) (i : ∀ v σ H Q, t' v σ H Q → t v σ H Q) : PG X e t' := ⟨fun pins s σ H v u Q I r q => h.run pins s σ H v u Q I r (i v σ H Q q)⟩
theorem pgs_mono {X : Cx} {e : List Expr} {t t' : TGs} (h : PGs X e t) (i : ∀ v σ H Q, t' v σ H Q → t v σ H Q) : PGs X e t' := ⟨fun pins s σ H v u Q I r q => h.run pins s σ H v u Q I r (i v σ H Q q)⟩
def tgN (i : Nat) (a : AV) (δ : List Sl) : Rs Unit := match a with
  | .val d => .ok () (upS i (.fz d) δ)
  | .tmp s => .ok () (upS i s δ)
  | .ref _ => .bad
def tgNil (ds : List PyData) (δ : List Sl) : Rs Unit := match ds with
  | [] => .ok () δ
  | _ => .bad
def tgCons (t : AV → List Sl → Rs Unit) (u : List PyData → List Sl → Rs Unit) (ds : List PyData) (δ : List Sl) : Rs Unit := match ds with
  | [] => .bad
  | d :: ds => (t (.val d) δ).bind fun _ δ' => u ds δ'
def tgT (n : Nat) (u : List PyData → List Sl → Rs Unit) (a : AV) (δ : List Sl) : Rs Unit := match a with
  | .val (.tuple ds) => if ds.length = n then u ds δ else .bad
  | _ => .bad
section
variable {K : PySem.W.Frag} {mg : Str → Option Value} {W : WX} {pin ts us : List Nat}
theorem PostG.le {b : Bk} {Fz Fz1 : Hp} {σ : L2.St} {Q : L2.St → Hp → Prop} {r : Rs Unit} (s : Same Fz Fz1) (p : PostG K mg W b Fz ts σ Q r) : PostG K mg W b Fz1 ts σ Q r := by
  cases r with
  | ok a δ => exact fun σ' H' Fz' F' s' R e => p σ' H' Fz' F' (s.trans s') R e
  | er x δ => exact PostXS.le s p
  | bad => exact p
theorem upd_slot {σ : L2.St} {i k : Nat} {v : V} (h : k ≠ i) : (σ.set i (some v))[k]? = σ[k]? := List.getElem?_set_ne (Ne.symm h)
/-- a name gets a value -/
theorem Rl.name {b : Bk} {Fz : Hp} {F : Nat → List Addr} {δ : List Sl} {σ : L2.St} {H : Hp} {i : Nat} {v : V} {s : Sl} {g : List Addr} (R : Rl K b Fz F δ σ H) (hi : i ∉ b.pin) (ht : s.tree.isSome = true) (hs : SlH K Fz H [] g (some v) s) (hn : g.Nodup)
    (hg : ∀ a ∈ g, Fz a = none ∧ b.B a = none ∧ H a ≠ none ∧ ∀ i, a ∉ F i) : Rl K b Fz (fun k => if k = i then g else F k) (upS i s δ) (σ.set i (some v)) H := by
  refine R.put (Same.refl _) R.le R.base (List.length_set) (fun k hk => upd_slot hk) (.inr hi) (fun hlt => ?_) (fun x j z => by subst z; cases ht) hn (fun a ha => (hg a ha).1) (fun a ha => (hg a ha).2.1) (fun a ha k _ => (hg a ha).2.2.2 k) (fun a ha => (hg a ha).2.2.1) (fun _ _ _ _ => rfl) (fun k _ a ha => R.offF k a ha) (fun _ _ => rfl)
  rw [List.getElem?_set_self (by rw [R.len]; exact hlt)]
  cases s with
  | no => cases ht
  | al x j => cases ht
  | fz d => exact hs
  | ol xs => exact hs
  | od kvs => exact hs
theorem tgN_ok {b : Bk} {Fz : Hp} {F : Nat → List Addr} {δ : List Sl} {σ : L2.St} {H : Hp} {i : Nat} {v : V} {a : AV} {Q : L2.St → Hp → Prop} (hi : i ∈ ts) (hpin : i ∉ b.pin) (R : Rl K b Fz F δ σ H) (A : AvR K b Fz F H σ v a) (P : PostG K mg W b Fz ts σ Q (tgN i a δ)) : Q (σ.set i (some v)) H := by
  have fr : Stored ts σ (σ.set i (some v)) := ⟨List.length_set, fun k hk => upd_slot fun z => hk (by rw [z]; exact hi)⟩
  cases a with
  | val d => exact P _ H Fz _ (Same.refl _) (R.name hpin rfl (g := []) ⟨rfl, v, rfl, A⟩ List.nodup_nil fun _ z => nomatch z) fr
  | tmp s =>
    obtain ⟨ht, g, h1, h2, h3⟩ := A
    exact P _ H Fz _ (Same.refl _) (R.name hpin ht h1 h2 h3) fr
  | ref j => exact P.elim
end
section
variable {X : Cx} {W : WX} {pin ts us : List Nat} {pos : Pos}
theorem sg_name (i : Nat) {x : Str} (hN : X.N.Nodup) (hi : X.N[i]? = some x) (hx : Loc X.env.scope x) (hp : i ∉ pin) (hf : X.fn x = true ∨ X.env.scope.names.lookup x = some .local := by first | exact .inl rfl | exact .inr rfl | assumption) : SG X W pin [i] (.Name x pos) (tgN i) :=
  pg_mono (pg_name hN hi hx hf) fun v σ H Q ⟨b, Fz, F, δ, a, hpin, R, A, P⟩ => tgN_ok (List.mem_singleton.mpr rfl) (by rw [hpin]; exact hp) R A P
theorem sgs_nil : SGs X W pin [] [] tgNil := pgs_mono pgs_nil fun vs σ H Q ⟨b, Fz, F, δ, ds, hpin, R, A, P⟩ => by
  cases A with
  | nil => exact ⟨rfl, P σ H Fz F (Same.refl _) R (Stored.refl _ _)⟩
  | cons h t => exact P.elim
theorem sgs_cons {e : Expr} {es : List Expr} {t : AV → List Sl → Rs Unit} {u : List PyData → List Sl → Rs Unit} (h1 : SG X W pin ts e t) (h2 : SGs X W pin us es u)
    (hs : (assignEach (e :: es) X.env).map (·.2) = assign e X.env :: (assignEach es X.env).map (·.2) := by rfl) : SGs X W pin (ts ++ us) (e :: es) (tgCons t u) := pgs_mono (pgs_cons h1 h2 hs) fun vs σ H Q ⟨b, Fz, F, δ, ds, hpin, R, A, P⟩ => by
  cases A with
  | nil => exact P.elim
  | @cons v0 vs0 d ds h r =>
    refine ⟨_, _, rfl, b, Fz, F, δ, .val d, hpin, R, h, ?_⟩
    have P : PostG X.K X.mg W b Fz (ts ++ us) σ Q ((t (.val d) δ).bind fun _ δ' => u ds δ') := P
    cases q : t (.val d) δ with
    | bad => rw [q] at P; exact P
    | er x δ' => rw [q] at P; exact P
    | ok a δ' =>
      rw [q] at P
      have P : PostG X.K X.mg W b Fz (ts ++ us) σ Q (u ds δ') := P
      intro σ1 H1 Fz1 F1 s1 R1 fr1
      refine ⟨b, Fz1, F1, δ', ds, hpin, R1, r.mono s1, ?_⟩
      cases q2 : u ds δ' with
      | bad => rw [q2] at P; exact P
      | er x δ2 => rw [q2] at P; exact PostXS.le s1 P
      | ok a δ2 =>
        rw [q2] at P
        exact fun σ2 H2 Fz2 F2 s2 R2 fr2 => P σ2 H2 Fz2 F2 (s1.trans s2) R2 ⟨fr2.1.trans fr1.1, fun k hk => (fr2.2 k fun z => hk (List.mem_append_right _ z)).trans (fr1.2 k fun z => hk (List.mem_append_left _ z))⟩
theorem sg_tup {es : List Expr} {k n : Nat} {u : List PyData → List Sl → Rs Unit} (hc : X.calm = true) (h : SGs X W pin ts es u)
    (hn : (assignEach es X.env).length = n := by rfl) (hst : (assignEach es X.env).findIdx? (·.1) = none := by rfl) : SG X W pin ts (.Tuple es k pos) (tgT n u) := pg_mono (pg_tup hc h hn hst) fun v σ H Q ⟨b, Fz, F, δ, a, hpin, R, A, P⟩ => by
  cases a with
  | tmp s => exact P.elim
  | ref i => exact P.elim
  | val d =>
    cases d with
    | tuple ds =>
      have P : PostG X.K X.mg W b Fz ts σ Q (if ds.length = n then u ds δ else .bad) := P
      by_cases c : ds.length = n
      · rw [if_pos c] at P
        cases (show Rp X.K Fz v (.tuple ds) from A) with
        | tup h1 h2 => exact ⟨_, _, rfl, same_sqT R.le h1, by rw [h2.len]; exact c, b, Fz, F, δ, ds, hpin, R, h2, P⟩
      · rw [if_neg c] at P
        exact P.elim
    | _ => exact P.elim

/-! ### assignments -/
def Rs.otU (r : Rs Unit) : Ot := match r with
  | .ok _ δ => .nx δ
  | .er x δ => .er x δ
  | .bad => .bad
def oAsg (f : List Sl → Rs AV) (t : AV → List Sl → Rs Unit) : List Sl → Ot := fun δ => (f δ).ot fun a δ' => (t a δ').otU
theorem asg_ok {K : PySem.W.Frag} {mg : Str → Option Value} {f : List Sl → Rs AV} {t : AV → List Sl → Rs Unit} : ∀ D σ H, rdS K mg W pin (oAsg f t) D σ H → tAsg (rdE K mg W pin f) (rdG K mg W pin ts t) D σ H := fun D σ H ⟨b, Fz, F, δ, hp, R, P⟩ => by
  refine rdS_bind hp R P fun v H' Fz' F' a δ' s R' A P' => ?_
  refine ⟨b, Fz', F', δ', a, hp, R', A, ?_⟩
  cases q : t a δ' with
  | bad => rw [q] at P'; exact P'
  | er x δ2 => rw [q] at P'; exact P'
  | ok u δ2 =>
    rw [q] at P'
    exact fun σ2 H2 Fz2 F2 s2 R2 _ => P' σ2 H2 Fz2 F2 s2 R2
theorem ss_set (i : Nat) {x : Str} {e : Expr} {f : List Sl → Rs AV} {pos' : Pos} (hN : X.N.Nodup) (hi : X.N[i]? = some x) (hx : Loc X.env.scope x) (hp : i ∉ pin) (he : SE X W pin e f) (hs : swapsWith e (some (.Name x pos')) pos.line X.env = pure false := by rfl) (hf : X.fn x = true ∨ X.env.scope.names.lookup x = some .local := by first | exact .inl rfl | exact .inr rfl | assumption) :
    SS X W pin (.Assign [.Name x pos'] e pos) (oAsg f (tgN i)) := ps_mono (ps_set hN hi hx he hs hf) fun D σ H h => by
  obtain ⟨b, Fz, F, δ, hpin, R, P⟩ := h
  refine rdS_bind hpin R P fun v H' Fz' F' a δ' s R' A P' => ?_
  refine tgN_ok (K := X.K) (mg := X.mg) (W := W) (b := b) (ts := [i]) (List.mem_singleton.mpr rfl) (by rw [hpin]; exact hp) R' A ?_
  cases q : tgN i a δ' with
  | bad => rw [q] at P'; exact P'
  | er x δ2 => rw [q] at P'; exact P'
  | ok u δ2 =>
    rw [q] at P'
    exact fun σ2 H2 Fz2 F2 s2 R2 _ => P' σ2 H2 Fz2 F2 s2 R2
theorem ss_asg {tg e : Expr} {f : List Sl → Rs AV} {t : AV → List Sl → Rs Unit} (he : SE X W pin e f) (hg : SG X W pin ts tg t) (hs : swapsWithSole [tg] e pos.line X.env = pure false := by rfl) (hw : swappedStores [tg] e X.env = pure none := by rfl)
    (h1 : (assignEach [tg] X.env).map (·.2) = [assign tg X.env] := by rfl) : SS X W pin (.Assign [tg] e pos) (oAsg f t) := ps_mono (ps_asg he hg hs hw h1) asg_ok
/-- x[i] = v -/
def setA (x y : AV) (d : PyData) (δ : List Sl) : Rs Unit := match x, rdC δ y with
  | .ref k, some (.int i) => (match δ[k]? with
    | some (.ol xs) => (match ixN xs.length i with
      | some j => (match allFz xs with
        | some ds => .ok () (upS k (.ol ((ds.set j d).map .fz)) δ)
        | none => .bad)
      | none => .bad)
    | some (.al x j) => (match δ[x]? with
      | some (.ol es) => (match es[j]? with
        | some (.ow ys) => (match ixN ys.length i with
          | some m => .ok () (δ.set x (.ol (es.set j (.ow (ys.set m d)))))
          | none => .bad)
        | _ => .bad)
      | _ => .bad)
    | _ => .bad)
  | _, _ => .bad
def tgS (fo fi : List Sl → Rs AV) (a : AV) (δ : List Sl) : Rs Unit := match a with
  | .val d => (sSt fo δ).bind fun x δ1 => (sSt fi δ1).bind fun y δ2 => setA x y d δ2
  | _ => .bad
theorem ElL.set_ow {K : PySem.W.Frag} {Fz H : Hp} {a : Addr} {ws : List V} {ys : List PyData} (hr : RpL K Fz ws ys) : ∀ {f : List Addr} {vs : List V} {es : List El} {j : Nat} {xs : List PyData}, ElL K Fz H f vs es → f.Nodup → es[j]? = some (.ow xs) → vs[j]? = some (.ref a) →
    a ∈ f ∧ ElL K Fz (upd H a (.lst ws)) f vs (es.set j (.ow ys))
  | _, _, _, _, _, .nil, _, e, _ => by simp at e
  | _, _, _, 0, xs, .cons (f := f) (g := g) (v := v) h t, nd, e, e2 => by
    simp at e e2
    subst e e2
    obtain ⟨a', us, e3, e4, e5, e6⟩ := h
    cases e3
    subst e4
    rw [List.nodup_append] at nd
    refine ⟨by simp, .cons ⟨a, ws, rfl, rfl, upd_same, hr⟩ (t.keeps (Same.refl _) fun c hc => upd_ne fun z => ?_)⟩
    subst z
    exact nd.2.2 c (by simp) c hc rfl
  | _, _, _, j + 1, xs, .cons (f := f) (g := g) (v := v) (e := e0) h t, nd, e, e2 => by
    rw [List.nodup_append] at nd
    obtain ⟨h1, h2⟩ := ElL.set_ow hr t nd.2.1 (by simpa using e) (by simpa using e2)
    refine ⟨List.mem_append_right _ h1, .cons (h.keeps (Same.refl _) fun c hc => upd_ne fun z => ?_) h2⟩
    subst z
    exact nd.2.2 c hc c h1 rfl
/-- a row of a list of one's own changes -/
theorem Rl.row {K : PySem.W.Frag} {b : Bk} {Fz : Hp} {F : Nat → List Addr} {δ : List Sl} {σ : L2.St} {H : Hp} (R : Rl K b Fz F δ σ H) {x j : Nat} {es : List El} {xs ys : List PyData} {l a : Addr} {vs ws : List V}
    (hs : δ[x]? = some (.ol es)) (hv : σ[x]? = some (some (.ref l))) (hl : H l = some (.lst vs)) (hj : es[j]? = some (.ow xs)) (ha : vs[j]? = some (.ref a)) (hr : RpL K Fz ws ys) : Rl K b Fz F (δ.set x (.ol (es.set j (.ow ys)))) σ (upd H a (.lst ws)) := by
  obtain ⟨l', vs', g, e1, e2, e3, e4⟩ := R.slot x _ hs
  rw [hv] at e1
  cases e1
  rw [hl] at e3
  cases e3
  have nd := R.nd x
  rw [e2] at nd
  obtain ⟨nl, ng⟩ := List.nodup_cons.mp nd
  obtain ⟨h1, h2⟩ := ElL.set_ow hr e4 ng hj ha
  have hal : a ≠ l := fun z => nl (by rw [← z]; exact h1)
  have haF : a ∈ F x := by rw [e2]; exact List.mem_cons_of_mem _ h1
  have hlF : l ∈ F x := by rw [e2]; exact List.mem_cons_self
  have xl : x < δ.length := (List.getElem?_eq_some_iff.mp hs).1
  have ne : ∀ c, Fz c ≠ none → c ≠ a := fun c hc z => hc (by rw [z]; exact R.offF x a haF)
  have neB : ∀ c, b.B c ≠ none → c ≠ a := fun c hc z => hc (by rw [z]; exact R.offB x a haF)
  refine ⟨fun c o e => ?_, fun c o e => ?_, by rw [List.length_set]; exact R.len, fun k t e => ?_, R.nd, R.dj, R.offF, R.offB, fun k c hc => ?_, R.keep, R.f0, R.pin, fun k y m e => ?_⟩
  · rw [upd_ne (ne c (by rw [e]; simp))]
    exact R.le c o e
  · rw [upd_ne (neB c (by rw [e]; simp))]
    exact R.base c o e
  · by_cases hk : k = x
    · subst hk
      rw [List.getElem?_set_self xl] at e
      cases e
      rw [hv]
      exact ⟨l, vs, g, rfl, e2, by rw [upd_ne hal.symm]; exact hl, h2⟩
    · rw [List.getElem?_set_ne (Ne.symm hk)] at e
      refine (R.slot k t e).keeps (Same.refl _) (fun c hc => upd_ne fun z => hk (R.dj k x a (by rw [← z]; exact hc) haF)) fun y m ey c hc => upd_ne fun z => ?_
      subst ey
      subst z
      obtain ⟨xs', f1⟩ := R.als k y m e
      obtain ⟨l2, vs2, g2, p1, p2, p3, p4⟩ := R.slot y _ f1
      rw [hc] at p1
      cases p1
      have hyx : y = x := R.dj y x c (by rw [p2]; exact List.mem_cons_self) haF
      subst hyx
      rw [hv] at hc
      cases hc
      exact hal rfl
  · by_cases z : c = a
    · rw [z, upd_same]; simp
    · rw [upd_ne z]; exact R.on k c hc
  · by_cases hk : k = x
    · subst hk
      rw [List.getElem?_set_self xl] at e
      cases e
    · rw [List.getElem?_set_ne (Ne.symm hk)] at e
      obtain ⟨xs', f1⟩ := R.als k y m e
      by_cases hy : y = x
      · subst hy
        exact ⟨_, List.getElem?_set_self xl⟩
      · exact ⟨xs', by rw [List.getElem?_set_ne (Ne.symm hy)]; exact f1⟩
theorem sg_sub {o i : Expr} {fo fi : List Sl → Rs AV} (ho : SE X W pin o fo) (hi : SE X W pin i fi)
    (ha : ∀ v, assign (.Subscript o i pos) X.env v = (do
      let ov ← holding [v] (eval o X.env)
      let iv ← holding [v, ov] (eval i X.env)
      standAt pos
      holding [v, ov, iv] (setItem ov iv v)
      release [v, ov, iv] []) := by intro _; rfl) : SG X W pin [] (.Subscript o i pos) (tgS fo fi) := pg_mono (pg_sub (se_st ho) (se_st hi) set_list ha) fun v σ H Q ⟨b, Fz, F, δ, a, hpin, R, A, P⟩ => by
  cases a with
  | tmp s => exact P.elim
  | ref i => exact P.elim
  | val d =>
    have A : Rp X.K Fz v d := A
    have P : PostG X.K X.mg W b Fz [] σ Q ((sSt fo δ).bind fun x δ1 => (sSt fi δ1).bind fun y δ2 => setA x y d δ2) := P
    -- the two operands
    have two : ∀ (f : List Sl → Rs AV) (Fz1 : Hp) (F1 : Nat → List Addr) (δ1 : List Sl) (H1 : Hp) (k : AV → List Sl → Rs Unit) (R' : VK), Rl X.K b Fz1 F1 δ1 σ H1 → PostG X.K X.mg W b Fz1 [] σ Q ((sSt f δ1).bind k) →
        (∀ v H' Fz' F' x δ', Same Fz1 Fz' → Rl X.K b Fz' F' δ' σ H' → AvS X.K Fz' σ v x → PostG X.K X.mg W b Fz' [] σ Q (k x δ') → R' v H') → rdE X.K X.mg W pin (sSt f) σ H1 R' := fun f Fz1 F1 δ1 H1 k R' Rr PP h => by
      refine ⟨b, Fz1, F1, δ1, hpin, Rr, ?_⟩
      cases q : sSt f δ1 with
      | bad => rw [q] at PP; exact PP
      | er x δ' => rw [q] at PP; exact PostXS.at_ PP
      | ok a δ' =>
        rw [q] at PP
        intro v H' Fz' F' s R2 A2
        cases a with
        | tmp t => exact absurd q (sSt_notmp _ _ _ _)
        | val d => exact h v H' Fz' F' (.val d) δ' s R2 A2 (PostG.le s PP)
        | ref i => exact h v H' Fz' F' (.ref i) δ' s R2 A2 (PostG.le s PP)
    refine two fo Fz F δ H _ _ R P fun ov H1 Fz1 F1 x δ1 s1 R1 A1 P1 => ?_
    refine two fi Fz1 F1 δ1 H1 _ _ R1 P1 fun iv H2 Fz2 F2 y δ2 s2 R2 A2 P2 => ?_
    have A0 : Rp X.K Fz2 v d := (A.mono s1).mono s2
    have A1 := A1.le s2
    unfold setA at P2
    cases x with
    | val e => cases q : rdC δ2 y <;> exact P2.elim
    | tmp e => exact A1.elim
    | ref k =>
      cases q : rdC δ2 y with
      | none => simp only [q] at P2; exact P2.elim
      | some n =>
        cases n with
        | int n =>
          simp only [q] at P2
          have ei := rpc_int (rdC_ok R2 A2 q)
          have hv : σ[k]? = some (some ov) := A1
          cases q2 : δ2[k]? with
          | none => simp only [q2] at P2; exact P2.elim
          | some t =>
            cases t with
            | ol xs =>
              simp only [q2] at P2
              cases q3 : ixN xs.length n with
              | none => simp only [q3] at P2; exact P2.elim
              | some j =>
                simp only [q3] at P2
                cases q4 : allFz xs with
                | none => simp only [q4] at P2; exact P2.elim
                | some ds =>
                  simp only [q4] at P2
                  obtain ⟨l, vs, g, e1, e2, e3, e4, e5⟩ := R2.own q2 hv
                  subst e1
                  have rp := e3.allFz q4
                  have R' := R2.mut (g := []) q2 hv (ElL.ofFz (rp.set A0 j)) (by simp) (fun a ha => nomatch ha)
                  exact ⟨l, vs, n, j, rfl, ei, e2, by rw [e3.len]; exact q3, P2 _ _ Fz2 _ (Same.refl _) R' (Stored.refl _ _)⟩
            | al x j =>
              simp only [q2] at P2
              cases q3 : δ2[x]? with
              | none => simp only [q3] at P2; exact P2.elim
              | some t =>
                cases t with
                | ol es =>
                  simp only [q3] at P2
                  cases q4 : es[j]? with
                  | none => simp only [q4] at P2; exact P2.elim
                  | some el =>
                    cases el with
                    | fz d' => simp only [q4] at P2; exact P2.elim
                    | ow ys =>
                      simp only [q4] at P2
                      cases q5 : ixN ys.length n with
                      | none => simp only [q5] at P2; exact P2.elim
                      | some m =>
                        simp only [q5] at P2
                        obtain ⟨_, l, c, vs, f1, f2, f3, f4⟩ := R2.slot k _ q2
                        rw [hv] at f4
                        cases f4
                        obtain ⟨g, ⟨c', ws, g1, g2, g3, g4⟩, _⟩ := R2.al q2 q3 q4 hv
                        cases g1
                        have R' := R2.row q3 f1 f2 q4 f3 (g4.set A0 m)
                        exact ⟨c, ws, n, m, rfl, ei, g3, by rw [g4.len]; exact q5, P2 _ _ Fz2 _ (Same.refl _) R' (Stored.refl _ _)⟩
                | _ => simp only [q3] at P2; exact P2.elim
            | _ => simp only [q2] at P2; exact P2.elim
        | _ => simp only [q] at P2; exact P2.elim
/-- name op= e, of ints -/
def oAug (i : Nat) (g : Int → Int → Int) (f : List Sl → Rs AV) : List Sl → Ot := fun δ => match δ[i]? with
  | some (.fz (.int n)) => (sSt f δ).ot fun a δ' => (match rdC δ' a with
    | some (.int m) => .nx (upS i (.fz (.int (g n m))) δ')
    | _ => .bad)
  | _ => .bad
theorem ss_aug (i : Nat) {x : Str} {e : Expr} {f : List Sl → Rs AV} {op : Operator} {g : Int → Int → Int} {pos' : Pos} (hN : X.N.Nodup) (hi : X.N[i]? = some x) (hx : Loc X.env.scope x) (hp : i ∉ pin) (he : SE X W pin e f) (ho : PIp X op (ipI g)) (hf : X.fn x = true ∨ X.env.scope.names.lookup x = some .local := by first | exact .inl rfl | exact .inr rfl | assumption) :
    SS X W pin (.AugAssign (.Name x pos') op e pos) (oAug i g f) := ps_mono (ps_aug hN hi hx (se_st he) ho hf) fun D σ H ⟨b, Fz, F, δ, hpin, R, P⟩ => by
  unfold oAug at P
  cases q : δ[i]? with
  | none => simp only [q] at P; exact P.elim
  | some s =>
    cases s with
    | fz d =>
      cases d with
      | int n =>
        simp only [q] at P
        obtain ⟨_, v, e1, e2⟩ := R.slot i _ q
        cases e2
        refine ⟨.int n, join_some e1, ?_⟩
        refine rdS_bind hpin R P fun w H' Fz' F' a δ' s R' A P' => ?_
        cases q2 : rdC δ' a with
        | none => simp only [q2] at P'; exact P'.elim
        | some d =>
          cases d with
          | int m =>
            simp only [q2] at P'
            have A' : AvS X.K Fz' σ w a := by
              cases a with
              | val d => exact A
              | ref j => exact A
              | tmp t => simp [rdC] at q2
            exact ⟨n, m, rfl, rpc_int (rdC_ok R' A' q2), P' _ H' Fz' _ (Same.refl _) (R'.name (s := .fz (.int (g n m))) (g := []) (by rw [hpin]; exact hp) rfl ⟨rfl, _, rfl, .int _⟩ List.nodup_nil fun _ z => nomatch z)⟩
          | _ => simp only [q2] at P'; exact P'.elim
      | _ => simp only [q] at P; exact P.elim
    | _ => simp only [q] at P; exact P.elim
/-- name = list[i], the item stays the list's own -/
def oAls (i x : Nat) (fi : List Sl → Rs AV) : List Sl → Ot := fun δ => match δ[x]? with
  | some (.ol es) => (sSt fi δ).ot fun a δ' => (match δ'[x]?, rdC δ' a with
    | some (.ol es), some (.int n) => (match ixN es.length n with
      | some j => (match es[j]? with
        | some (.ow _) => .nx (upS i (.al x j) δ')
        | some (.fz d) => .nx (upS i (.fz d) δ')
        | none => .bad)
      | none => .bad)
    | _, _ => .bad)
  | _ => .bad
theorem ss_als (i xs : Nat) {x y : Str} {e : Expr} {f : List Sl → Rs AV} {px py pos' : Pos} (hN : X.N.Nodup) (hi : X.N[i]? = some x) (hx : Loc X.env.scope x) (hp : i ∉ pin) (hix : xs ≠ i) (hy : X.N[xs]? = some y) (hyv : Vis X.env.scope y) (he : SE X W pin e f) (hpl : PlainIx e := by intro _ _; rfl)
    (hyd : (y == ("__debug__" : Str)) = false := by decide) (hyc : (y == ("__classdict__" : Str)) = false := by decide)
    (hs : swapsWith (.Subscript (.Name y py) e px) (some (.Name x pos')) pos.line X.env = pure false := by rfl) (hf : X.fn x = true ∨ X.env.scope.names.lookup x = some .local := by first | exact .inl rfl | exact .inr rfl | assumption) :
    SS X W pin (.Assign [.Name x pos'] (.Subscript (.Name y py) e px) pos) (oAls i xs f) := ps_mono (ps_set hN hi hx (pe_ix ix_list (pe_var hy hyv hyd hyc) (se_st he) hpl) hs hf) fun D σ H ⟨b, Fz, F, δ, hpin, R, P⟩ => by
  unfold oAls at P
  cases q : δ[xs]? with
  | none => simp only [q] at P; exact P.elim
  | some s =>
    cases s with
    | ol es0 =>
      simp only [q] at P
      obtain ⟨l, vs0, g0, e1, _, _, _⟩ := R.slot xs _ q
      refine ⟨.ref l, join_some e1, ?_⟩
      refine rdS_bind hpin R P fun w H' Fz' F' a δ' s R' A P' => ?_
      cases q1 : δ'[xs]? with
      | none => simp only [q1] at P'; exact P'.elim
      | some t =>
        cases t with
        | ol es =>
          cases q2 : rdC δ' a with
          | none => simp only [q1, q2] at P'; exact P'.elim
          | some d =>
            cases d with
            | int n =>
              simp only [q1, q2] at P'
              have A' : AvS X.K Fz' σ w a := by
                cases a with
                | val d => exact A
                | ref j => exact A
                | tmp t => simp [rdC] at q2
              have ew := rpc_int (rdC_ok R' A' q2)
              cases q3 : ixN es.length n with
              | none => simp only [q3] at P'; exact P'.elim
              | some j =>
                simp only [q3] at P'
                obtain ⟨l', vs, g, f1, f2, f3, f4, f5⟩ := R'.own q1 (join_some e1)
                cases f1
                cases q4 : es[j]? with
                | none => simp only [q4] at P'; exact P'.elim
                | some el =>
                  obtain ⟨v, g', h1, h2, h3⟩ := f3.at_ q4
                  have hat : atI vs n = some v := by
                    unfold atI
                    rw [f3.len, q3]
                    exact h1
                  refine ⟨l, vs, n, v, rfl, ew, SqL.of f2, hat, ?_⟩
                  show D.nx (σ.set i (some v)) H'
                  cases el with
                  | fz d =>
                    simp only [q4] at P'
                    exact P' _ H' Fz' _ (Same.refl _) (R'.name (s := .fz d) (g := []) (by rw [hpin]; exact hp) rfl ⟨rfl, _, rfl, h2.2⟩ List.nodup_nil fun _ z => nomatch z)
                  | ow ys =>
                    simp only [q4] at P'
                    obtain ⟨a', ws, k1, k2, k3, k4⟩ := h2
                    subst k1
                    refine P' _ H' Fz' _ (Same.refl _) (R'.put (i := i) (s := .al xs j) (g := []) (Same.refl _) R'.le R'.base List.length_set (fun k hk => upd_slot hk) (.inr (by rw [hpin]; exact hp)) (fun hlt => ⟨rfl, l, a', vs, ?_, f2, h1, ?_⟩) (fun x' j' z => ?_) List.nodup_nil (fun _ z => nomatch z) (fun _ z => nomatch z) (fun _ z => nomatch z) (fun _ z => nomatch z) (fun _ _ _ _ => rfl) (fun k _ a ha => R'.offF k a ha) (fun _ _ => rfl))
                    · rw [upd_slot hix]
                      exact join_some e1
                    · rw [List.getElem?_set_self (by rw [R'.len]; exact hlt)]
                      rfl
                    · cases z
                      exact ⟨hix, es, q1⟩
            | _ => simp only [q1, q2] at P'; exact P'.elim
        | _ => cases q2 : rdC δ' a <;> (simp only [q1, q2] at P'; exact P'.elim)
    | _ => simp only [q] at P; exact P.elim
end
end Hb

namespace Hb
open PySem PySem.Spec PyProof.Rows L2

/-! ### what is walked -/
/-- J gives the trees ds, one a turn -/
def Wk (K : PySem.W.Frag) (Fz0 : Hp) (J : It) (ds : List PyData) : Prop := ∀ b Fz F δ σ H, Same Fz0 Fz → Rl K b Fz F δ σ H →
  (∀ i, i < ds.length → J.go i H ∧ ∀ x H', J.yld i H x H' → ∃ Fz' d, ds[i]? = some d ∧ Same Fz Fz' ∧ Rl K b Fz' F δ σ H' ∧ Rp K Fz' x d) ∧ J.stop ds.length H
section
variable (K : PySem.W.Frag) (mg : Str → Option Value) (W : WX)
def PostI (b : Bk) (Fz : Hp) (σ : L2.St) (R : It → Hp → Prop) : Rs (List PyData) → Prop
  | .ok ds δ => ∀ J H' Fz' F', Same Fz Fz' → Rl K b Fz' F' δ σ H' → Wk K Fz' J ds → R J H'
  | .er x δ => PostX K mg W b Fz σ x δ
  | .bad => False
def rdI (pin : List Nat) (w : List Sl → Rs (List PyData)) : TI := fun σ H R => ∃ b Fz F δ, b.pin = pin ∧ Rl K b Fz F δ σ H ∧ PostI K mg W b Fz σ R (w δ)
end
abbrev SI (X : Cx) (W : WX) (pin : List Nat) (tg iter : Expr) (w : List Sl → Rs (List PyData)) : Prop := PI X tg iter (rdI X.K X.mg W pin w)
theorem pi_mono {X : Cx} {tg iter : Expr} {t t' : TI} (h : PI X tg iter t) (i : ∀ σ H R, t' σ H R → t σ H R) : PI X tg iter t' := ⟨fun pins s σ H R I q => h.run pins s σ H R I (i σ H R q)⟩
theorem pi_or {X : Cx} {tg iter : Expr} {t t' : TI} (h : PI X tg iter t) (h' : PI X tg iter t') : PI X tg iter (fun σ H R => t σ H R ∨ t' σ H R) := ⟨fun pins s σ H R I q => q.elim (h.run pins s σ H R I) (h'.run pins s σ H R I)⟩
section
variable {K : PySem.W.Frag} {mg : Str → Option Value} {W : WX} {pin : List Nat}
theorem PostI.le {b : Bk} {Fz Fz1 : Hp} {σ : L2.St} {R : It → Hp → Prop} {r : Rs (List PyData)} (s : Same Fz Fz1) (p : PostI K mg W b Fz σ R r) : PostI K mg W b Fz1 σ R r := by
  cases r with
  | ok a δ => exact fun J H' Fz' F' s' R e => p J H' Fz' F' (s.trans s') R e
  | er x δ => exact PostX.le s p
  | bad => exact p
theorem rd_valI {f : List Sl → Rs AV} {σ : L2.St} {H : Hp} {b : Bk} {Fz : Hp} {F : Nat → List Addr} {δ : List Sl} {k : PyData → List Sl → Rs (List PyData)} {Q : It → Hp → Prop} {R : VK} (hp : b.pin = pin) (Rr : Rl K b Fz F δ σ H) (P : PostI K mg W b Fz σ Q ((sTk f δ).val k))
    (h : ∀ v H' Fz' F' d δ', Same Fz Fz' → Rl K b Fz' F' δ' σ H' → Rp K Fz' v d → PostI K mg W b Fz' σ Q (k d δ') → R v H') : rdE K mg W pin (sTk f) σ H R := by
  refine ⟨b, Fz, F, δ, hp, Rr, ?_⟩
  cases q : sTk f δ with
  | bad => rw [q] at P; exact P
  | er x δ' => rw [q] at P; exact P
  | ok a δ' =>
    rw [q] at P
    intro v H' Fz' F' s R' A
    cases a with
    | tmp t => exact False.elim P
    | ref i => exact False.elim P
    | val d => exact h v H' Fz' F' d δ' s R' A (PostI.le s P)
theorem wk_list {Fz0 : Hp} {a : Addr} {vs : List V} {ds : List PyData} (h : SqX K Fz0 a vs) (r : RpL K Fz0 vs ds) : Wk K Fz0 (Itl K a) ds := fun b Fz F δ σ H s R => by
  have hq : SqL K H a vs := (same_sqX (s.trans R.le) h).sq
  refine ⟨fun i hi => ?_, ⟨vs, hq, by rw [r.len]; exact Nat.le_refl _⟩⟩
  obtain ⟨v, e1, e2⟩ := r.get (List.getElem?_eq_getElem hi)
  refine ⟨⟨vs, v, hq, e1⟩, fun x H' y => ?_⟩
  obtain ⟨rfl, y⟩ := y
  have := y vs hq
  rw [e1] at this
  cases this
  exact ⟨Fz, _, List.getElem?_eq_getElem hi, Same.refl _, R, e2.mono s⟩
theorem wk_tup {Fz0 : Hp} {a : Addr} {vs : List V} {ds : List PyData} (h : SqT K Fz0 a vs) (r : RpL K Fz0 vs ds) : Wk K Fz0 (Itt K a) ds := fun b Fz F δ σ H s R => by
  have hq : SqT K H a vs := same_sqT (s.trans R.le) h
  refine ⟨fun i hi => ?_, ⟨vs, hq, by rw [r.len]; exact Nat.le_refl _⟩⟩
  obtain ⟨v, e1, e2⟩ := r.get (List.getElem?_eq_getElem hi)
  refine ⟨⟨vs, v, hq, e1⟩, fun x H' y => ?_⟩
  obtain ⟨rfl, y⟩ := y
  have := y vs hq
  rw [e1] at this
  cases this
  exact ⟨Fz, _, List.getElem?_eq_getElem hi, Same.refl _, R, e2.mono s⟩
def rangeD (lo : Int) (n : Nat) : List PyData := (List.range n).map fun i => .int (lo + (i : Nat))
theorem rangeD_len (lo : Int) (n : Nat) : (rangeD lo n).length = n := by simp [rangeD]
theorem rangeD_at {lo : Int} {n i : Nat} (h : i < n) : (rangeD lo n)[i]? = some (.int (lo + (i : Nat))) := by
  unfold rangeD
  rw [List.getElem?_map, List.getElem?_range h]
  rfl
theorem wk_range {Fz0 : Hp} (lo : Int) (n : Nat) : Wk K Fz0 (Itr lo n) (rangeD lo n) := fun b Fz F δ σ H s R => by
  rw [rangeD_len]
  refine ⟨fun i hi => ⟨hi, fun x H' y => ?_⟩, Nat.le_refl n⟩
  obtain ⟨rfl, rfl⟩ := y
  exact ⟨Fz, _, rangeD_at hi, Same.refl _, R, .int _⟩
def enumD (ds : List PyData) : List PyData := ds.zipIdx.map fun p => .tuple [.int (p.2 : Nat), p.1]
theorem enumD_len (ds : List PyData) : (enumD ds).length = ds.length := by simp [enumD]
theorem enumD_at {ds : List PyData} {i : Nat} {d : PyData} (h : ds[i]? = some d) : (enumD ds)[i]? = some (.tuple [.int (i : Nat), d]) := by
  unfold enumD
  rw [List.getElem?_map, List.getElem?_zipIdx, h]
  simp
theorem wk_enum {Fz0 : Hp} {a : Addr} {vs : List V} {ds : List PyData} (h : SqX K Fz0 a vs) (r : RpL K Fz0 vs ds) : Wk K Fz0 (Ite K a) (enumD ds) := fun b Fz F δ σ H s R => by
  have hq : SqL K H a vs := (same_sqX (s.trans R.le) h).sq
  rw [enumD_len]
  refine ⟨fun i hi => ?_, ⟨vs, hq, by rw [r.len]; exact Nat.le_refl _⟩⟩
  obtain ⟨v, e1, e2⟩ := r.get (List.getElem?_eq_getElem hi)
  refine ⟨⟨vs, v, hq, e1⟩, fun x H' y => ?_⟩
  obtain ⟨T, u, rfl, nT, rfl, y⟩ := y
  have := y vs hq
  rw [e1] at this
  cases this
  obtain ⟨s2, R2⟩ := R.newF nT (.tup [.int (i : Nat), v])
  exact ⟨_, _, enumD_at (List.getElem?_eq_getElem hi), s2, R2, .tup (SqT.of upd_same) (.cons (.int _) (.cons (e2.mono (s.trans s2)) .nil))⟩
def zipD : List PyData → List PyData → List PyData
  | d :: ds, e :: es => .tuple [d, e] :: zipD ds es
  | _, _ => []
theorem zipD_len : ∀ ds es : List PyData, (zipD ds es).length = min ds.length es.length
  | [], es => by simp [zipD]
  | d :: ds, [] => by simp [zipD]
  | d :: ds, e :: es => by
    rw [zipD, List.length_cons, zipD_len ds es, List.length_cons, List.length_cons]
    omega
theorem zipD_at : ∀ {ds es : List PyData} {i : Nat} {d e : PyData}, ds[i]? = some d → es[i]? = some e → (zipD ds es)[i]? = some (.tuple [d, e])
  | [], _, _, _, _, h, _ => by simp at h
  | _ :: _, [], _, _, _, _, h => by simp at h
  | d :: ds, e :: es, 0, _, _, h, h2 => by
    simp at h h2
    subst h h2
    rfl
  | d :: ds, e :: es, i + 1, _, _, h, h2 => by
    rw [zipD, List.getElem?_cons_succ]
    exact zipD_at (by simpa using h) (by simpa using h2)
theorem wk_zip {Fz0 : Hp} {a c : Addr} {vs ws : List V} {ds es : List PyData} (h : SqX K Fz0 a vs) (r : RpL K Fz0 vs ds) (h2 : SqX K Fz0 c ws) (r2 : RpL K Fz0 ws es) : Wk K Fz0 (Itz K a c) (zipD ds es) := fun b Fz F δ σ H s R => by
  have hq : SqL K H a vs := (same_sqX (s.trans R.le) h).sq
  have hq2 : SqL K H c ws := (same_sqX (s.trans R.le) h2).sq
  have l1 := r.len
  have l2 := r2.len
  rw [zipD_len]
  refine ⟨fun i hi => ?_, ⟨vs, ws, hq, hq2, by omega⟩⟩
  obtain ⟨v, e1, e2⟩ := r.get (List.getElem?_eq_getElem (show i < ds.length by omega))
  obtain ⟨w, f1, f2⟩ := r2.get (List.getElem?_eq_getElem (show i < es.length by omega))
  refine ⟨⟨vs, ws, v, w, hq, hq2, e1, f1⟩, fun x H' y => ?_⟩
  obtain ⟨T, u, t, rfl, nT, rfl, y1, y2⟩ := y
  have z1 := y1 vs hq
  rw [e1] at z1
  cases z1
  have z2 := y2 ws hq2
  rw [f1] at z2
  cases z2
  obtain ⟨s2, R2⟩ := R.newF nT (.tup [v, w])
  exact ⟨_, _, zipD_at (List.getElem?_eq_getElem (show i < ds.length by omega)) (List.getElem?_eq_getElem (show i < es.length by omega)), s2, R2, .tup (SqT.of upd_same) (.cons (e2.mono (s.trans s2)) (.cons (f2.mono (s.trans s2)) .nil))⟩
theorem wk_zipT {Fz0 : Hp} {a c : Addr} {vs ws : List V} {ds es : List PyData} (h : SqT K Fz0 a vs) (r : RpL K Fz0 vs ds) (h2 : SqT K Fz0 c ws) (r2 : RpL K Fz0 ws es) : Wk K Fz0 (RZ.ItzT K a c) (zipD ds es) := fun b Fz F δ σ H s R => by
  have hq : SqT K H a vs := same_sqT (s.trans R.le) h
  have hq2 : SqT K H c ws := same_sqT (s.trans R.le) h2
  have l1 := r.len
  have l2 := r2.len
  rw [zipD_len]
  refine ⟨fun i hi => ?_, ⟨vs, ws, hq, hq2, by omega⟩⟩
  obtain ⟨v, e1, e2⟩ := r.get (List.getElem?_eq_getElem (show i < ds.length by omega))
  obtain ⟨w, f1, f2⟩ := r2.get (List.getElem?_eq_getElem (show i < es.length by omega))
  refine ⟨⟨vs, ws, v, w, hq, hq2, e1, f1⟩, fun x H' y => ?_⟩
  obtain ⟨T, u, t, rfl, nT, rfl, y1, y2⟩ := y
  have z1 := y1 vs hq
  rw [e1] at z1
  cases z1
  have z2 := y2 ws hq2
  rw [f1] at z2
  cases z2
  obtain ⟨s2, R2⟩ := R.newF nT (.tup [v, w])
  exact ⟨_, _, zipD_at (List.getElem?_eq_getElem (show i < ds.length by omega)) (List.getElem?_eq_getElem (show i < es.length by omega)), s2, R2, .tup (SqT.of upd_same) (.cons (e2.mono (s.trans s2)) (.cons (f2.mono (s.trans s2)) .nil))⟩
end
def wSeq (f : List Sl → Rs AV) : List Sl → Rs (List PyData) := fun δ => (sTk f δ).val fun d δ' => match seqD d with
  | some ds => .ok ds δ'
  | none => .bad
def wEnum (f : List Sl → Rs AV) : List Sl → Rs (List PyData) := fun δ => (sTk f δ).val fun d δ' => match d with
  | .list ds => .ok (enumD ds) δ'
  | _ => .bad
def wRng1 (f : List Sl → Rs AV) : List Sl → Rs (List PyData) := fun δ => (sTk f δ).val fun d δ' => match d with
  | .int n => if -(2 ^ 62) ≤ n ∧ n < 2 ^ 62 then .ok (rangeD 0 n.toNat) δ' else .bad
  | _ => .bad
def wRng2 (f g : List Sl → Rs AV) : List Sl → Rs (List PyData) := fun δ => (sTk f δ).val fun d δ1 => (sTk g δ1).val fun e δ2 => match d, e with
  | .int i, .int j => if -(2 ^ 62) ≤ i ∧ i < 2 ^ 62 ∧ -(2 ^ 62) ≤ j ∧ j < 2 ^ 62 then .ok (rangeD i (j - i).toNat) δ2 else .bad
  | _, _ => .bad
def wZip (f g : List Sl → Rs AV) : List Sl → Rs (List PyData) := fun δ => (sTk f δ).val fun d δ1 => (sTk g δ1).val fun e δ2 => match d, e with
  | .list ds, .list es => .ok (zipD ds es) δ2
  | .tuple ds, .tuple es => .ok (zipD ds es) δ2
  | _, _ => .bad
section
variable {X : Cx} {W : WX} {pin : List Nat} {f g : List Sl → Rs AV} {e c tg : Expr} {p pos tpos : Pos} {elts : List Expr} {kk : Nat}
theorem si_seq (h : SE X W pin e f) : SI X W pin tg e (wSeq f) := pi_mono (pi_or (pi_list (se_tk h)) (pi_tup (se_tk h))) fun σ H R ⟨b, Fz, F, δ, hp, Rr, P⟩ => by
  have P0 := P
  unfold wSeq at P
  cases q : sTk f δ with
  | bad => rw [q] at P; exact P.elim
  | er x δ' =>
    rw [q] at P
    exact .inl ⟨b, Fz, F, δ, hp, Rr, by rw [q]; exact P⟩
  | ok a δ' =>
    rw [q] at P
    cases a with
    | tmp t => exact P.elim
    | ref i => exact P.elim
    | val d =>
      cases d with
      | list ds =>
        refine .inl ⟨b, Fz, F, δ, hp, Rr, ?_⟩
        rw [q]
        intro v H' Fz' F' s R' A
        cases (show Rp X.K Fz' v (.list ds) from A) with
        | lst h1 h2 => exact ⟨_, rfl, ⟨_, (same_sqX R'.le h1).sq⟩, P (Itl X.K _) H' Fz' F' s R' (wk_list h1 h2)⟩
      | tuple ds =>
        refine .inr ⟨b, Fz, F, δ, hp, Rr, ?_⟩
        rw [q]
        intro v H' Fz' F' s R' A
        cases (show Rp X.K Fz' v (.tuple ds) from A) with
        | tup h1 h2 => exact ⟨_, rfl, ⟨_, same_sqT R'.le h1⟩, P (Itt X.K _) H' Fz' F' s R' (wk_tup h1 h2)⟩
      | _ => exact P.elim
theorem si_rng1 (hg : Gl X "range") (hm : X.mg "range" = none) (h : SE X W pin e f) (hs : starEach [e] X.env = [(false, eval e X.env)] := by rfl) : SI X W pin tg (.Call (.Name "range" p) [e] [] pos) (wRng1 f) :=
  pi_mono (pi_range1 hg hm (pa_cons (se_tk h) pa_nil hs) hs) fun σ H R ⟨b, Fz, F, δ, hp, Rr, P⟩ => by
    refine rd_valI hp Rr P fun v H' Fz' F' d δ' s R' A P' => ?_
    cases d with
    | int n =>
      cases A
      have P' : PostI X.K X.mg W b Fz' σ R (if -(2 ^ 62) ≤ n ∧ n < 2 ^ 62 then .ok (rangeD 0 n.toNat) δ' else .bad) := P'
      by_cases c : -(2 ^ 62) ≤ n ∧ n < 2 ^ 62
      · rw [if_pos c] at P'
        exact ⟨n, rfl, c.1, c.2, P' _ H' Fz' F' (Same.refl _) R' (wk_range 0 n.toNat)⟩
      · rw [if_neg c] at P'
        exact P'.elim
    | _ => exact P'.elim
theorem si_rng2 (hg : Gl X "range") (hm : X.mg "range" = none) (h : SE X W pin e f) (h2 : SE X W pin c g) (hs : starEach [e, c] X.env = [(false, eval e X.env), (false, eval c X.env)] := by rfl) (hs2 : starEach [c] X.env = [(false, eval c X.env)] := by rfl) : SI X W pin tg (.Call (.Name "range" p) [e, c] [] pos) (wRng2 f g) :=
  pi_mono (pi_range2 hg hm (pa_cons (se_tk h) (pa_cons (se_tk h2) pa_nil hs2) (by rw [hs, hs2])) hs hs2) fun σ H R ⟨b, Fz, F, δ, hp, Rr, P⟩ => by
    refine rd_valI hp Rr P fun v H1 Fz1 F1 d δ1 s1 R1 A1 P1 => ?_
    refine rd_valI hp R1 P1 fun w H2 Fz2 F2 e δ2 s2 R2 A2 P2 => ?_
    cases d with
    | int i =>
      cases e with
      | int j =>
        cases A1
        cases A2
        have P2 : PostI X.K X.mg W b Fz2 σ R (if -(2 ^ 62) ≤ i ∧ i < 2 ^ 62 ∧ -(2 ^ 62) ≤ j ∧ j < 2 ^ 62 then .ok (rangeD i (j - i).toNat) δ2 else .bad) := P2
        by_cases c : -(2 ^ 62) ≤ i ∧ i < 2 ^ 62 ∧ -(2 ^ 62) ≤ j ∧ j < 2 ^ 62
        · rw [if_pos c] at P2
          exact ⟨i, j, rfl, c, P2 _ H2 Fz2 F2 (Same.refl _) R2 (wk_range i (j - i).toNat)⟩
        · rw [if_neg c] at P2
          exact P2.elim
      | _ => exact P2.elim
    | _ => exact P2.elim
theorem si_enum (hg : Gl X "enumerate") (hm : X.mg "enumerate" = none) (h : SE X W pin e f) (hs : starEach [e] X.env = [(false, eval e X.env)] := by rfl) : SI X W pin (.Tuple elts kk tpos) (.Call (.Name "enumerate" p) [e] [] pos) (wEnum f) :=
  pi_mono (pi_enum hg hm (pa_cons (se_tk h) pa_nil hs) hs) fun σ H R ⟨b, Fz, F, δ, hp, Rr, P⟩ => by
    refine rd_valI hp Rr P fun v H' Fz' F' d δ' s R' A P' => ?_
    cases d with
    | list ds =>
      cases A with
      | lst h1 h2 => exact ⟨_, _, rfl, (same_sqX R'.le h1).sq, P' _ H' Fz' F' (Same.refl _) R' (wk_enum h1 h2)⟩
    | _ => exact P'.elim
theorem si_zip (hg : Gl X "zip") (hm : X.mg "zip" = none) (h : SE X W pin e f) (h2 : SE X W pin c g) (hs : starEach [e, c] X.env = (false, eval e X.env) :: starEach [c] X.env := by rfl) (hs2 : starEach [c] X.env = (false, eval c X.env) :: starEach [] X.env := by rfl) (hpl : (backTo pos (starEach [c] X.env)).any (·.1) = false := by rfl) :
    SI X W pin (.Tuple elts kk tpos) (.Call (.Name "zip" p) [e, c] [] pos) (wZip f g) :=
  pi_mono (RZ.pi_zipA hg hm (pa_cons (se_tk h) (pa_cons (se_tk h2) pa_nil hs2) hs) hs hpl) fun σ H R ⟨b, Fz, F, δ, hp, Rr, P⟩ => by
    refine rd_valI hp Rr P fun v H1 Fz1 F1 d δ1 s1 R1 A1 P1 => ?_
    refine rd_valI hp R1 P1 fun w H2 Fz2 F2 e δ2 s2 R2 A2 P2 => ?_
    cases d with
    | list ds =>
      cases e with
      | list es =>
        cases A1.mono s2 with
        | lst h1 h2 =>
          cases A2 with
          | lst h3 h4 => exact ⟨_, _, _, _, rfl, .inl ⟨(same_sqX R2.le h1).sq, (same_sqX R2.le h3).sq, P2 _ H2 Fz2 F2 (Same.refl _) R2 (wk_zip h1 h2 h3 h4)⟩⟩
      | _ => exact P2.elim
    | tuple ds =>
      cases e with
      | tuple es =>
        cases A1.mono s2 with
        | tup h1 h2 =>
          cases A2 with
          | tup h3 h4 => exact ⟨_, _, _, _, rfl, .inr ⟨same_sqT R2.le h1, same_sqT R2.le h3, P2 _ H2 Fz2 F2 (Same.refl _) R2 (wk_zipT h1 h2 h3 h4)⟩⟩
      | _ => exact P2.elim
    | _ => exact P2.elim
end
/-! ### for -/
def forL (t : AV → List Sl → Rs Unit) (f : List Sl → Ot) : List PyData → List Sl → Ot
  | [], δ => .nx δ
  | d :: r, δ => match t (.val d) δ with
    | .ok _ δ1 => (match f δ1 with
      | .nx δ2 => forL t f r δ2
      | .ct δ2 => forL t f r δ2
      | .bk δ2 => .nx δ2
      | o => o)
    | .er x δ1 => .er x δ1
    | .bad => .bad
def oFor (w : List Sl → Rs (List PyData)) (t : AV → List Sl → Rs Unit) (f : List Sl → Ot) : List Sl → Ot := fun δ => (w δ).ot fun ds δ' => forL t f ds δ'
theorem ss_for {X : Cx} {W : WX} {pin ts : List Nat} {tg iter : Expr} {body : List Stmt} {w : List Sl → Rs (List PyData)} {t : AV → List Sl → Rs Unit} {u : List Sl → Ot} {pos : Pos} (hp : PassesOwn (model X.prog X.w) X.A X.env X.xe) (hc : X.calm = true) (hi : SI X W pin tg iter w) (hg : SG X W pin ts tg t) (hb : SSs X W pin body u)
    (hs : ∀ x, foldedSetIterable iter X.env x = pure x := by intro _; rfl) : SS X W pin (.For tg iter body [] pos) (oFor w t u) := ps_mono (ps_for hp hc hi hg hb hs) fun D σ H ⟨b, Fz, F, δ, hpin, R, P⟩ => by
  unfold oFor at P
  refine ⟨b, Fz, F, δ, hpin, R, ?_⟩
  cases q : w δ with
  | bad => rw [q] at P; exact P
  | er x δ' => rw [q] at P; exact PostXS.at_ P
  | ok ds δ' =>
    rw [q] at P
    have P : PostS X.K X.mg W b Fz D (forL t u ds δ') := P
    intro J H1 Fz1 F1 s1 R1 hw
    refine ⟨fun i m σ H => m = ds.length - i ∧ i ≤ ds.length ∧ ∃ Fz F δ, Same Fz1 Fz ∧ Rl X.K b Fz F δ σ H ∧ PostS X.K X.mg W b Fz D (forL t u (ds.drop i) δ), ⟨ds.length, by simp, Nat.zero_le _, Fz1, F1, δ', Same.refl _, R1, by rw [List.drop_zero]; exact PostS.le s1 P⟩, ?_⟩
    rintro i m σ2 H2 ⟨rfl, hi, Fz2, F2, δ2, s2, R2, P2⟩
    obtain ⟨go, stop⟩ := hw b Fz2 F2 δ2 σ2 H2 s2 R2
    by_cases hlt : i < ds.length
    · obtain ⟨g1, g2⟩ := go i hlt
      refine .inr ⟨g1, fun σ H => ∃ Fz F δ, Same Fz1 Fz ∧ Rl X.K b Fz F δ σ H ∧ PostS X.K X.mg W b Fz D (forL t u (ds.drop (i + 1)) δ), fun σ3 H3 h3 => ⟨ds.length - (i + 1), by omega, rfl, hlt, h3⟩, fun x H3 y => ?_⟩
      obtain ⟨Fz3, d, e1, s3, R3, r3⟩ := g2 x H3 y
      have ed : ds.drop i = d :: ds.drop (i + 1) := by
        rw [List.drop_eq_getElem_cons hlt]
        rw [List.getElem?_eq_getElem hlt] at e1
        rw [Option.some.inj e1]
      rw [ed] at P2
      unfold forL at P2
      refine ⟨b, Fz3, F2, δ2, .val d, hpin, R3, r3, ?_⟩
      cases q2 : t (.val d) δ2 with
      | bad => rw [q2] at P2; exact P2
      | er x δ3 => rw [q2] at P2; exact PostXS.le s3 P2
      | ok a δ3 =>
        simp only [q2] at P2
        intro σ4 H4 Fz4 F4 s4 R4 _
        refine ⟨b, Fz4, F4, δ3, hpin, R4, ?_⟩
        have s24 := s3.trans s4
        cases q3 : u δ3 with
        | nx δ4 =>
          simp only [q3] at P2
          exact fun σ5 H5 Fz5 F5 s5 R5 => ⟨Fz5, F5, δ4, (s2.trans s24).trans s5, R5, PostS.le (s24.trans s5) P2⟩
        | ct δ4 =>
          simp only [q3] at P2
          exact fun σ5 H5 Fz5 F5 s5 R5 => ⟨Fz5, F5, δ4, (s2.trans s24).trans s5, R5, PostS.le (s24.trans s5) P2⟩
        | bk δ4 => simp only [q3] at P2; exact PostS.le s24 P2
        | rt s δ4 => simp only [q3] at P2; exact PostS.le (r := .rt s δ4) s24 P2
        | er x δ4 => simp only [q3] at P2; exact PostS.le (r := .er x δ4) s24 P2
        | bad => simp only [q3] at P2; exact P2
    · have e : i = ds.length := by omega
      subst e
      rw [List.drop_length] at P2
      exact .inl ⟨stop, P2 σ2 H2 Fz2 F2 (Same.refl _) R2⟩
end Hb

namespace Hb
open PySem PySem.Spec PyProof.Rows L2

/-! ### things in flight: they belong to the ground meanwhile -/
abbrev gd (b : Bk) (H : Hp) (g : List Addr) : Bk := ⟨Hb.addF b.B H g, b.F0, b.pin, b.so⟩
section
variable {K : PySem.W.Frag} {b : Bk} {Fz : Hp} {F : Nat → List Addr} {δ : List Sl} {σ : L2.St} {H : Hp}
theorem Rl.guard (R : Rl K b Fz F δ σ H) {g : List Addr} (hg : ∀ a ∈ g, Fz a = none ∧ b.B a = none ∧ ∀ k, a ∉ F k) : Rl K (gd b H g) Fz F δ σ H where
  le := R.le
  base := addF_le R.base
  len := R.len
  slot := R.slot
  nd := R.nd
  dj := R.dj
  offF := R.offF
  offB := fun i a ha => by
    show Hb.addF b.B H g a = none
    rw [addF_out (fun z => (hg a z).2.2 i ha)]
    exact R.offB i a ha
  on := R.on
  keep := fun a ha => by
    have ha : Hb.addF b.B H g a ≠ none := ha
    show Fz a = b.F0 a
    by_cases q : a ∈ g
    · rw [(hg a q).1]
      cases e : b.F0 a with
      | none => rfl
      | some o => exact absurd (hg a q).2.1 (R.f0 a (by rw [e]; simp))
    · rw [addF_out q] at ha
      exact R.keep a ha
  f0 := fun a ha => by
    have h := R.f0 a ha
    show Hb.addF b.B H g a ≠ none
    rw [addF_out fun z => h (hg a z).2.1]
    exact h
  pin := R.pin
  als := R.als
theorem Rl.guarded {H' Fz' : Hp} {F' : Nat → List Addr} {δ' : List Sl} {σ' : L2.St} {g : List Addr} (R : Rl K (gd b H g) Fz' F' δ' σ' H') (hB : ∀ a ∈ g, b.B a = none) (f0 : ∀ a, b.F0 a ≠ none → b.B a ≠ none) (hH : ∀ a ∈ g, H a ≠ none) :
    ∀ a ∈ g, H' a = H a ∧ Fz' a = none ∧ ∀ k, a ∉ F' k := fun a ha => by
  have e : (gd b H g).B a = H a := addF_in ha
  have n : (gd b H g).B a ≠ none := by rw [e]; exact hH a ha
  refine ⟨?_, ?_, fun k hk => n (R.offB k a hk)⟩
  · cases q : H a with
    | none => exact absurd q (hH a ha)
    | some o => exact R.base a o (e.trans q)
  · rw [R.keep a n]
    cases q : b.F0 a with
    | none => rfl
    | some o => exact absurd (hB a ha) (f0 a (by rw [q]; simp))
theorem Rl.unguard {H' : Hp} {g : List Addr} (R : Rl K (gd b H g) Fz F δ σ H') (hB : ∀ a ∈ g, b.B a = none) (f0 : ∀ a, b.F0 a ≠ none → b.B a ≠ none) : Rl K b Fz F δ σ H' where
  le := R.le
  base := fun a o e => R.base a o (by
    show Hb.addF b.B H g a = some o
    rw [addF_out fun z => by rw [hB a z] at e; cases e]
    exact e)
  len := R.len
  slot := R.slot
  nd := R.nd
  dj := R.dj
  offF := R.offF
  offB := fun i a ha => by
    have h : Hb.addF b.B H g a = none := R.offB i a ha
    by_cases q : a ∈ g
    · exact hB a q
    · rw [addF_out q] at h
      exact h
  on := R.on
  keep := fun a ha => R.keep a (by
    show Hb.addF b.B H g a ≠ none
    rw [addF_out fun z => ha (hB a z)]
    exact ha)
  f0 := f0
  pin := R.pin
  als := R.als
/-- what nobody here knows of changes -/
theorem Rl.other (R : Rl K b Fz F δ σ H) {D : Addr} {o : HO} (h1 : Fz D = none) (h2 : b.B D = none) (h3 : ∀ k, D ∉ F k) : Rl K b Fz F δ σ (upd H D o) where
  le := fun a x e => by
    rw [upd_ne fun z => by rw [z, h1] at e; cases e]
    exact R.le a x e
  base := fun a x e => by
    rw [upd_ne fun z => by rw [z, h2] at e; cases e]
    exact R.base a x e
  len := R.len
  slot := fun i s e => (R.slot i s e).keeps (Same.refl _) (fun a ha => upd_ne fun z => h3 i (by rw [← z]; exact ha)) fun x j ej a ha => upd_ne fun z => by
    subst ej
    subst z
    obtain ⟨xs, hx⟩ := R.als i x j e
    obtain ⟨l, vs, g, p1, p2, _⟩ := R.slot x _ hx
    rw [ha] at p1
    cases p1
    exact h3 x (by rw [p2]; exact List.mem_cons_self)
  nd := R.nd
  dj := R.dj
  offF := R.offF
  offB := R.offB
  on := fun i a ha => by
    rw [upd_ne fun z => h3 i (by rw [← z]; exact ha)]
    exact R.on i a ha
  keep := R.keep
  f0 := R.f0
  pin := R.pin
  als := R.als

/-! ### the slots of a comprehension's own names -/
def plainS : Option Sl → Bool
  | some .no => true
  | some (.fz _) => true
  | _ => false
def okW (vs : List Nat) (δ : List Sl) : Bool := vs.all fun v => plainS δ[v]?
def wipeD (vs : List Nat) (δ : List Sl) : List Sl := vs.foldr (fun v δ => δ.set v .no) δ
def unw (vs : List Nat) (δ δ' : List Sl) : List Sl := vs.foldr (fun v δ' => upS v (δ[v]?.getD .no) δ') δ'
theorem Rl.wipe1 (R : Rl K b Fz F δ σ H) {v : Nat} (hv : plainS δ[v]? = true) (hp : v ∉ b.pin) : Rl K b Fz F (δ.set v .no) (σ.set v none) H := by
  have hF : F v = [] := by
    cases q : δ[v]? with
    | none => rw [q] at hv; cases hv
    | some s =>
      have h := R.slot v s q
      rw [q] at hv
      cases s with
      | no => exact h
      | fz d => exact h.1
      | _ => cases hv
  have hx : ∀ (x : Nat) xs, δ[x]? = some (.ol xs) → x ≠ v := fun x xs e z => by
    rw [z] at e
    rw [e] at hv
    cases hv
  refine ⟨R.le, R.base, by rw [List.length_set, List.length_set]; exact R.len, fun i s e => ?_, R.nd, R.dj, R.offF, R.offB, R.on, R.keep, R.f0, fun i hi => ?_, fun i x j e => ?_⟩
  · by_cases q : i = v
    · subst q
      have hl : i < δ.length := by
        have := (List.getElem?_eq_some_iff.mp e).1
        rwa [List.length_set] at this
      rw [List.getElem?_set_self hl] at e
      cases e
      exact hF
    · rw [List.getElem?_set_ne (Ne.symm q)] at e
      have h := R.slot i s e
      rw [List.getElem?_set_ne (Ne.symm q)]
      cases s with
      | al x j =>
        obtain ⟨h0, a, c, ws, h1, h2⟩ := h
        obtain ⟨xs, e2⟩ := R.als i x j e
        exact ⟨h0, a, c, ws, by rw [List.getElem?_set_ne (Ne.symm (hx x xs e2))]; exact h1, h2⟩
      | no => exact h
      | fz d => exact h
      | ol xs => exact h
      | od kvs => exact h
  · rw [List.getElem?_set_ne fun z => hp (by rw [z]; exact hi)]
    exact R.pin i hi
  · by_cases q : i = v
    · subst q
      have hl : i < δ.length := by
        have := (List.getElem?_eq_some_iff.mp e).1
        rwa [List.length_set] at this
      rw [List.getElem?_set_self hl] at e
      cases e
    · rw [List.getElem?_set_ne (Ne.symm q)] at e
      obtain ⟨xs, e2⟩ := R.als i x j e
      exact ⟨xs, by rw [List.getElem?_set_ne (Ne.symm (hx x xs e2))]; exact e2⟩
theorem plain_wipe {v : Nat} {δ : List Sl} (h : plainS δ[v]? = true) : ∀ vs : List Nat, plainS (wipeD vs δ)[v]? = true
  | [] => h
  | w :: vs => by
    show plainS ((wipeD vs δ).set w .no)[v]? = true
    have ih := plain_wipe h vs
    by_cases e : v = w
    · subst e
      by_cases hl : v < (wipeD vs δ).length
      · rw [List.getElem?_set_self hl]; rfl
      · rw [List.getElem?_eq_none (by omega)] at ih
        cases ih
    · rw [List.getElem?_set_ne (Ne.symm e)]
      exact ih
theorem Rl.wipe (R : Rl K b Fz F δ σ H) : ∀ {vs : List Nat}, okW vs δ = true → (∀ v ∈ vs, v ∉ b.pin) → Rl K b Fz F (wipeD vs δ) (L2.wipe σ vs) H
  | [], _, _ => R
  | v :: vs, h, hp => by
    have h' : plainS δ[v]? = true ∧ okW vs δ = true := by
      unfold okW at h ⊢
      rwa [List.all_cons, Bool.and_eq_true] at h
    exact (R.wipe h'.2 fun w hw => hp w (List.mem_cons_of_mem _ hw)).wipe1 (plain_wipe h'.1 vs) (hp v List.mem_cons_self)
theorem wipe_get {σ : L2.St} {k : Nat} : ∀ {vs : List Nat}, k ∉ vs → (L2.wipe σ vs)[k]? = σ[k]?
  | [], _ => rfl
  | v :: vs, h => by
    unfold L2.wipe
    rw [List.getElem?_set_ne fun z => h (by rw [z]; exact List.mem_cons_self)]
    exact wipe_get fun z => h (List.mem_cons_of_mem _ z)
theorem wipe_in {σ : L2.St} {k : Nat} : ∀ {vs : List Nat}, k ∈ vs → k < σ.length → (L2.wipe σ vs)[k]? = some none
  | v :: vs, h, hl => by
    unfold L2.wipe
    by_cases e : k = v
    · subst e
      rw [List.getElem?_set_self (by rw [L2.wipe_length]; exact hl)]
    · rw [List.getElem?_set_ne (Ne.symm e)]
      exact wipe_in ((List.mem_cons.mp h).resolve_left e) hl
theorem wipe_eq {σ σ2 : L2.St} {vs : List Nat} (hl : σ2.length = σ.length) (h : ∀ k, k ∉ vs → σ2[k]? = σ[k]?) : L2.wipe σ2 vs = L2.wipe σ vs := by
  refine List.ext_getElem? fun k => ?_
  by_cases q : k ∈ vs
  · by_cases hk : k < σ.length
    · rw [wipe_in q hk, wipe_in q (by rw [hl]; exact hk)]
    · rw [List.getElem?_eq_none (by rw [L2.wipe_length]; omega), List.getElem?_eq_none (by rw [L2.wipe_length]; omega)]
  · rw [wipe_get q, wipe_get q]
    exact h k q
def rst (vs : List Nat) (σ σ2 : L2.St) : L2.St := vs.foldr (fun v τ => τ.set v (σ[v]?.join)) σ2
theorem rst_len (vs : List Nat) (σ σ2 : L2.St) : (rst vs σ σ2).length = σ2.length := by
  induction vs with
  | nil => rfl
  | cons v vs ih =>
    show ((rst vs σ σ2).set v _).length = _
    rw [List.length_set, ih]
theorem rst_eq {vs : List Nat} {σ σ2 : L2.St} (hl : σ2.length = σ.length) (h : ∀ k, k ∉ vs → σ2[k]? = σ[k]?) : rst vs σ σ2 = σ := by
  have key : ∀ ws : List Nat, ∀ k, (k ∈ ws → (rst ws σ σ2)[k]? = σ[k]?) ∧ (k ∉ ws → (rst ws σ σ2)[k]? = σ2[k]?) := by
    intro ws
    induction ws with
    | nil => exact fun k => ⟨(fun z => nomatch z), fun _ => rfl⟩
    | cons v ws ih =>
      intro k
      have e : rst (v :: ws) σ σ2 = (rst ws σ σ2).set v (σ[v]?.join) := rfl
      rw [e]
      by_cases q : k = v
      · subst q
        refine ⟨fun _ => ?_, fun z => absurd List.mem_cons_self z⟩
        by_cases hk : k < σ.length
        · rw [List.getElem?_set_self (by rw [rst_len]; omega), List.getElem?_eq_getElem hk]
          rfl
        · rw [List.getElem?_eq_none (by rw [List.length_set, rst_len]; omega), List.getElem?_eq_none (by omega)]
      · rw [List.getElem?_set_ne (Ne.symm q)]
        exact ⟨fun z => (ih k).1 ((List.mem_cons.mp z).resolve_left q), fun z => (ih k).2 fun y => z (List.mem_cons_of_mem _ y)⟩
  refine List.ext_getElem? fun k => ?_
  by_cases q : k ∈ vs
  · exact (key vs k).1 q
  · rw [(key vs k).2 q]
    exact h k q
/-- the outer slots come back -/
theorem Rl.unwipe {δ' : List Sl} {σ2 : L2.St} (R2 : Rl K b Fz F δ' σ2 H) (hl : σ2.length = σ.length) : ∀ {vs : List Nat}, (∀ v ∈ vs, v ∉ b.pin) → (∀ v ∈ vs, ∀ s, δ[v]? = some s → SlH K Fz H [] [] (σ[v]?.join) s ∧ (∀ x j, s ≠ .al x j)) →
    ∃ F', Rl K b Fz F' (unw vs δ δ') (rst vs σ σ2) H ∧ ∀ k a, a ∈ F' k → a ∈ F k
  | [], _, _ => ⟨F, R2, fun _ _ h => h⟩
  | v :: vs, hp, hs => by
    obtain ⟨F1, R1, h1⟩ := Rl.unwipe R2 hl (vs := vs) (fun w hw => hp w (List.mem_cons_of_mem _ hw)) fun w hw => hs w (List.mem_cons_of_mem _ hw)
    have e1 : rst (v :: vs) σ σ2 = (rst vs σ σ2).set v (σ[v]?.join) := rfl
    have e2 : unw (v :: vs) δ δ' = upS v (δ[v]?.getD .no) (unw vs δ δ') := rfl
    rw [e1, e2]
    refine ⟨fun k => if k = v then [] else F1 k, R1.put (Same.refl _) R1.le R1.base List.length_set (fun k hk => List.getElem?_set_ne (Ne.symm hk)) (.inr (hp v List.mem_cons_self)) (fun hlt => ?_) (fun x j z => ?_) List.nodup_nil (fun _ z => nomatch z) (fun _ z => nomatch z) (fun _ z => nomatch z) (fun _ z => nomatch z) (fun _ _ _ _ => rfl) (fun k _ a ha => R1.offF k a ha) (fun _ _ => rfl), fun k a ha => ?_⟩
    · rw [List.getElem?_set_self (by rw [R1.len]; exact hlt)]
      cases q : δ[v]? with
      | none => exact rfl
      | some s =>
        obtain ⟨g1, g2⟩ := hs v List.mem_cons_self s q
        cases s with
        | al x j => exact absurd rfl (g2 x j)
        | no => exact g1
        | fz d => exact g1
        | ol xs => exact g1
        | od kvs => exact g1
    · cases q : δ[v]? with
      | none => rw [q] at z; cases z
      | some s =>
        rw [q] at z
        exact absurd z ((hs v List.mem_cons_self s q).2 x j)
    · have ha : a ∈ (if k = v then [] else F1 k) := ha
      by_cases q : k = v
      · rw [if_pos q] at ha; cases ha
      · rw [if_neg q] at ha
        exact h1 k a ha
end
/-! ### list comprehensions -/
abbrev W0 : WX := fun _ _ _ _ => False
/-- an item for the list: a tree, or (w) a list of its own -/
def elOf (w : Bool) : AV → Option El
  | .val d => some (.fz d)
  | .tmp (.ol xs) => if w = true then (allFz xs).map .ow else none
  | _ => none
def lcL (w : Bool) (vs : List Nat) (t : AV → List Sl → Rs Unit) (tt : List Sl → Rs Bool) (f : List Sl → Rs AV) : List PyData → List El → List Sl → Rs (List El)
  | [], es, δ => .ok es δ
  | d :: r, es, δ => if okW vs δ = true then (match t (.val d) (wipeD vs δ) with
    | .ok _ δ1 => (match tt δ1 with
      | .ok k δ2 => if k = true then (match f δ2 with
        | .ok a δ3 => (match elOf w a with
          | some e => if es.length ≤ cap then lcL w vs t tt f r (es ++ [e]) (unw vs δ δ3) else .bad
          | none => .bad)
        | _ => .bad) else lcL w vs t tt f r es (unw vs δ δ2)
      | _ => .bad)
    | _ => .bad) else .bad
def sLc (w : Bool) (wi : List Sl → Rs (List PyData)) (vs : List Nat) (t : AV → List Sl → Rs Unit) (tt : List Sl → Rs Bool) (f : List Sl → Rs AV) : List Sl → Rs AV := fun δ => (wi δ).bind fun ds δ1 => (lcL w vs t tt f ds [] δ1).bind fun es δ2 => .ok (.tmp (.ol es)) δ2
def tOk : List Sl → Rs Bool := fun δ => .ok true δ
theorem elOf_ok {K : PySem.W.Frag} {b : Bk} {Fz : Hp} {F : Nat → List Addr} {σ : L2.St} {H : Hp} {w : Bool} {a : AV} {e : El} {y : V} (A : AvR K b Fz F H σ y a) (h : elOf w a = some e) :
    ∃ g, ElR K Fz H g y e ∧ g.Nodup ∧ ∀ a ∈ g, Fz a = none ∧ b.B a = none ∧ H a ≠ none ∧ ∀ i, a ∉ F i := by
  cases a with
  | val d => cases h; exact ⟨[], ⟨rfl, A⟩, List.nodup_nil, fun _ z => nomatch z⟩
  | ref i => cases h
  | tmp s =>
    cases s with
    | ol xs =>
      unfold elOf at h
      by_cases c : w = true
      · simp only [if_pos c] at h
        cases q : allFz xs with
        | none => rw [q] at h; cases h
        | some ds =>
          rw [q] at h
          cases h
          obtain ⟨_, g, ⟨l, vs, g', e1, e2, e3, e4⟩, hn, hg⟩ := A
          cases e1
          have rp := e4.allFz q
          refine ⟨[l], ⟨l, vs, rfl, rfl, e3, rp⟩, by simp, fun c hc => hg c ?_⟩
          rw [List.mem_singleton] at hc
          rw [hc, e2]
          exact List.mem_cons_self
      · simp only [if_neg c] at h
        cases h
    | _ => cases h
theorem lc_ok {K : PySem.W.Frag} {mg : Str → Option Value} {W : WX} {pin ts vs : List Nat} {w : Bool} {wi : List Sl → Rs (List PyData)} {t : AV → List Sl → Rs Unit} {tt : List Sl → Rs Bool} {f : List Sl → Rs AV} {tT : TT} (hv : ∀ v ∈ vs, v ∉ pin) (hts : ∀ v ∈ ts, v ∈ vs) (hT : ∀ σ H Q, rdT K mg W0 pin tt σ H Q → tT σ H Q) :
    ∀ σ H Q, rdE K mg W pin (sLc w wi vs t tt f) σ H Q → tLc (rdI K mg W pin wi) (rdG K mg W0 pin ts t) tT (rdE K mg W0 pin f) vs σ H Q := fun σ H Q ⟨b, Fz, F, δ, hpin, R, P⟩ => by
  refine ⟨b, Fz, F, δ, hpin, R, ?_⟩
  unfold sLc at P
  cases q : wi δ with
  | bad => rw [q] at P; exact P
  | er x δ' => rw [q] at P; exact P
  | ok ds δ1 =>
    rw [q] at P
    have P : Post K mg W b Fz σ Q ((lcL w vs t tt f ds [] δ1).bind fun es δ2 => .ok (.tmp (.ol es)) δ2) := P
    intro J H1 Fz1 F1 s1 R1 hw D hD
    obtain ⟨d1, d2, d3⟩ := R1.offN hD
    refine ⟨fun i m H => m = ds.length - i ∧ i ≤ ds.length ∧ ∃ Fz F δ acc es g, Same Fz1 Fz ∧ Rl K b Fz F δ σ H ∧ H D = some (.lst acc) ∧ ElL K Fz H g acc es ∧ (D :: g).Nodup ∧ (∀ a ∈ D :: g, Fz a = none ∧ b.B a = none ∧ H a ≠ none ∧ ∀ k, a ∉ F k) ∧ Post K mg W b Fz σ Q ((lcL w vs t tt f (ds.drop i) es δ).bind fun es δ2 => .ok (.tmp (.ol es)) δ2),
      ⟨ds.length, by simp, Nat.zero_le _, Fz1, F1, δ1, [], [], [], Same.refl _, R1.new hD _, upd_same, .nil, by simp, fun a ha => ?_, by rw [List.drop_zero]; exact P.le s1⟩, ?_⟩
    · rw [List.mem_singleton] at ha
      subst ha
      exact ⟨d1, d2, by rw [upd_same]; simp, d3⟩
    rintro i m H2 ⟨rfl, hi, Fz2, F2, δ2, acc, es, g, s2, R2, hacc, hes, hnd, hg, P2⟩
    have gB : ∀ a ∈ D :: g, b.B a = none := fun a ha => (hg a ha).2.1
    have gH : ∀ a ∈ D :: g, H2 a ≠ none := fun a ha => (hg a ha).2.2.1
    have Rg := R2.guard (g := D :: g) fun a ha => ⟨(hg a ha).1, (hg a ha).2.1, (hg a ha).2.2.2⟩
    obtain ⟨go, stop⟩ := hw _ Fz2 F2 δ2 σ H2 s2 Rg
    by_cases hlt : i < ds.length
    · obtain ⟨g1, g2⟩ := go i hlt
      refine .inr ⟨g1, fun H => ∃ Fz F δ acc es g, Same Fz1 Fz ∧ Rl K b Fz F δ σ H ∧ H D = some (.lst acc) ∧ ElL K Fz H g acc es ∧ (D :: g).Nodup ∧ (∀ a ∈ D :: g, Fz a = none ∧ b.B a = none ∧ H a ≠ none ∧ ∀ k, a ∉ F k) ∧ Post K mg W b Fz σ Q ((lcL w vs t tt f (ds.drop (i + 1)) es δ).bind fun es δ2 => .ok (.tmp (.ol es)) δ2),
        fun H3 h3 => ⟨ds.length - (i + 1), by omega, rfl, hlt, h3⟩, fun x H3 y => ?_⟩
      obtain ⟨Fz3, d, e1, s3, R3, r3⟩ := g2 x H3 y
      have ed : ds.drop i = d :: ds.drop (i + 1) := by
        rw [List.drop_eq_getElem_cons hlt]
        rw [List.getElem?_eq_getElem hlt] at e1
        rw [Option.some.inj e1]
      rw [ed] at P2
      unfold lcL at P2
      by_cases cw : okW vs δ2 = true
      · rw [if_pos cw] at P2
        have hvb : ∀ v ∈ vs, v ∉ b.pin := by rw [hpin]; exact hv
        have R4 := R3.wipe cw hvb
        -- how it ends for a state behind the turn
        have back : ∀ {δ5 : List Sl} {σ5 : L2.St} {H5 Fz5 : Hp} {F5 : Nat → List Addr}, Same Fz2 Fz5 → Rl K (gd b H2 (D :: g)) Fz5 F5 δ5 σ5 H5 → σ5.length = σ.length → (∀ k, k ∉ vs → σ5[k]? = σ[k]?) → ∃ F6, Rl K b Fz5 F6 (unw vs δ2 δ5) σ H5 ∧ ∀ k a, a ∈ F6 k → a ∈ F5 k := by
          intro δ5 σ5 H5 Fz5 F5 s25 R5 hl5 fr5
          have R6 := R5.unguard gB R2.f0
          obtain ⟨F6, R7, h7⟩ := Rl.unwipe (σ := σ) (δ := δ2) R6 hl5 (vs := vs) hvb fun v hvv s hs => by
            have h0 := R2.slot v s hs
            have hpl : plainS δ2[v]? = true := by
              unfold okW at cw
              exact List.all_eq_true.mp cw v hvv
            rw [hs] at hpl
            cases s with
            | no => exact ⟨rfl, fun x j z => nomatch z⟩
            | fz d' =>
              obtain ⟨_, v', k1, k2⟩ := h0
              exact ⟨⟨rfl, v', k1, k2.mono s25⟩, fun x j z => nomatch z⟩
            | _ => cases hpl
          rw [rst_eq hl5 fr5] at R7
          exact ⟨F6, R7, h7⟩
        have fits : ∀ {δ5 : List Sl} {σ5 : L2.St} {H5 Fz5 : Hp} {F5 : Nat → List Addr}, Rl K (gd b H2 (D :: g)) Fz5 F5 δ5 σ5 H5 → ∀ a ∈ D :: g, H5 a = H2 a ∧ Fz5 a = none ∧ ∀ k, a ∉ F5 k := fun R5 => R5.guarded gB R2.f0 gH
        refine ⟨gd b H2 (D :: g), Fz3, F2, wipeD vs δ2, .val d, hpin, R4, r3, ?_⟩
        cases q2 : t (.val d) (wipeD vs δ2) with
        | bad => simp only [q2] at P2; exact P2
        | er x δ3 => simp only [q2] at P2; exact P2.elim
        | ok u δ3 =>
          simp only [q2] at P2
          intro σ4 H4 Fz4 F4 s4 R5 fr
          have hl4 : σ4.length = σ.length := by rw [fr.1, L2.wipe_length]
          have fr4 : ∀ k, k ∉ vs → σ4[k]? = σ[k]? := fun k hk => (fr.2 k fun z => hk (hts k z)).trans (wipe_get hk)
          refine ⟨wipe_eq hl4 fr4, ?_⟩
          have s24 : Same Fz2 Fz4 := s3.trans s4
          refine hT _ _ _ ⟨gd b H2 (D :: g), Fz4, F4, δ3, hpin, R5, ?_⟩
          cases q3 : tt δ3 with
          | bad => simp only [q3] at P2; exact P2.elim
          | er x δ4 => simp only [q3] at P2; exact P2.elim
          | ok k δ4 =>
            simp only [q3] at P2
            intro H5 Fz5 F5 s5 R6
            by_cases ck : k = true
            · rw [if_pos ck] at P2 ⊢
              refine ⟨gd b H2 (D :: g), Fz5, F5, δ4, hpin, R6, ?_⟩
              cases q4 : f δ4 with
              | bad => simp only [q4] at P2; exact P2.elim
              | er x δ5 => simp only [q4] at P2; exact P2.elim
              | ok a δ5 =>
                simp only [q4] at P2
                cases q5 : elOf w a with
                | none => simp only [q5] at P2; exact P2.elim
                | some e =>
                  simp only [q5] at P2
                  by_cases cl : es.length ≤ cap
                  · rw [if_pos cl] at P2
                    intro y H6 Fz6 F6 s6 R7 A
                    have s26 : Same Fz2 Fz6 := (s24.trans s5).trans s6
                    obtain ⟨ge, he, hne, hge⟩ := elOf_ok A q5
                    obtain ⟨F7, R8, h7⟩ := back s26 R7 hl4 fr4
                    have fit := fits R7
                    have fD := fit D List.mem_cons_self
                    have eD : H6 D = some (.lst acc) := fD.1.trans hacc
                    refine ⟨acc, eD, by rw [hes.len]; exact lt_line cl, ?_⟩
                    have gnot : ∀ a ∈ ge, a ∉ D :: g := fun a ha z => by
                      have h1 : (gd b H2 (D :: g)).B a = none := (hge a ha).2.1
                      have h2 : Hb.addF b.B H2 (D :: g) a = H2 a := addF_in z
                      have h3 : H2 a = none := h2.symm.trans h1
                      exact gH a z h3
                    have geB : ∀ a ∈ ge, b.B a = none := fun a ha => by
                      have h1 : Hb.addF b.B H2 (D :: g) a = none := (hge a ha).2.1
                      rwa [addF_out (gnot a ha)] at h1
                    have neD : ∀ a ∈ g, a ≠ D := fun a ha z => (List.nodup_cons.mp hnd).1 (by rw [← z]; exact ha)
                    have neD2 : ∀ a ∈ ge, a ≠ D := fun a ha z => gnot a ha (by rw [z]; exact List.mem_cons_self)
                    have R9 := R8.other (D := D) (o := .lst (acc ++ [y])) fD.2.1 (gB D List.mem_cons_self) fun k hk => fD.2.2 k (h7 k D hk)
                    have E1 : ElL K Fz6 (upd H6 D (.lst (acc ++ [y]))) g acc es := hes.keeps s26 fun a ha => by
                      rw [upd_ne (neD a ha)]
                      exact (fit a (List.mem_cons_of_mem _ ha)).1
                    have E2 : ElL K Fz6 (upd H6 D (.lst (acc ++ [y]))) (ge ++ []) [y] [e] := .cons (he.keeps (Same.refl _) fun a ha => upd_ne (neD2 a ha)) .nil
                    rw [List.append_nil] at E2
                    refine ⟨Fz6, F7, _, acc ++ [y], es ++ [e], g ++ ge, s2.trans s26, R9, upd_same, E1.app E2, ?_, fun a ha => ?_, P2.le s26⟩
                    · rw [List.nodup_cons, List.nodup_append]
                      refine ⟨fun z => ?_, (List.nodup_cons.mp hnd).2, hne, fun a ha c hc z => ?_⟩
                      · rcases List.mem_append.mp z with z | z
                        · exact (List.nodup_cons.mp hnd).1 z
                        · exact gnot D z List.mem_cons_self
                      · subst z
                        exact gnot a hc (List.mem_cons_of_mem _ ha)
                    · have cases3 : a = D ∨ a ∈ g ∨ a ∈ ge := by
                        rcases List.mem_cons.mp ha with z | z
                        · exact .inl z
                        · exact .inr (List.mem_append.mp z)
                      rcases cases3 with z | z | z
                      · subst z
                        exact ⟨fD.2.1, gB a List.mem_cons_self, by rw [upd_same]; simp, fun k hk => fD.2.2 k (h7 k a hk)⟩
                      · have fa := fit a (List.mem_cons_of_mem _ z)
                        exact ⟨fa.2.1, gB a (List.mem_cons_of_mem _ z), by rw [upd_ne (neD a z), fa.1]; exact gH a (List.mem_cons_of_mem _ z), fun k hk => fa.2.2 k (h7 k a hk)⟩
                      · have fa := hge a z
                        exact ⟨fa.1, geB a z, by rw [upd_ne (neD2 a z)]; exact fa.2.2.1, fun k hk => fa.2.2.2 k (h7 k a hk)⟩
                  · rw [if_neg cl] at P2
                    exact P2.elim
            · rw [if_neg ck] at P2 ⊢
              have s25 : Same Fz2 Fz5 := s24.trans s5
              obtain ⟨F7, R8, h7⟩ := back s25 R6 hl4 fr4
              have fit := fits R6
              refine ⟨Fz5, F7, _, acc, es, g, s2.trans s25, R8, (fit D List.mem_cons_self).1.trans hacc, hes.keeps s25 fun a ha => (fit a (List.mem_cons_of_mem _ ha)).1, hnd, fun a ha => ?_, P2.le s25⟩
              have fa := fit a ha
              exact ⟨fa.2.1, gB a ha, by rw [fa.1]; exact gH a ha, fun k hk => fa.2.2 k (h7 k a hk)⟩
      · rw [if_neg cw] at P2
        exact P2.elim
    · have e : i = ds.length := by omega
      subst e
      rw [List.drop_length] at P2
      refine .inl ⟨stop, ?_⟩
      exact P2 (.ref D) H2 Fz2 F2 (Same.refl _) R2 ⟨rfl, D :: g, ⟨D, acc, g, rfl, rfl, hacc, hes⟩, hnd, fun a ha => hg a ha⟩
section
variable {X : Cx} {W : WX} {pin ts : List Nat} {elt tg iter : Expr} {ifs : List Expr} {scope : Scope} {own : List (Str × Nat)} {pos : Pos} {wi : List Sl → Rs (List PyData)} {t : AV → List Sl → Rs Unit} {tt : List Sl → Rs Bool} {f : List Sl → Rs AV}
/-- the block's context -/
abbrev BX (X : Cx) (scope : Scope) (s : Shared) (H : Hp) (C : Addr) (cl : List (Str × Addr)) (fp : List Addr) : Cx := X.blk s H scope (compEnvC scope cl C X.env) fp
abbrev STs (X : Cx) (pin : List Nat) (ifs : List Expr) (tt : List Sl → Rs Bool) : Prop := PTs X ifs (rdT X.K X.mg W0 pin tt)
theorem pts_mono {X : Cx} {es : List Expr} {t t' : TT} (h : PTs X es t) (i : ∀ σ H Q, t' σ H Q → t σ H Q) : PTs X es t' := ⟨fun pins s σ H Q I q => h.run pins s σ H Q I (i σ H Q q)⟩
theorem sts_nil {X : Cx} : STs X pin [] tOk := pts_mono pts_nil fun σ H Q ⟨b, Fz, F, δ, hp, R, P⟩ => P H Fz F (Same.refl _) R
theorem sts_one {X : Cx} {c : Expr} (h : ST X W0 pin c tt) : STs X pin [c] tt := pts_one h
theorem se_lc (w : Bool) (hc : X.calm = true) (hN : X.N.Nodup) (hi : SI X W pin tg iter wi) (ok : blkC X.N X.env.scope scope own = true) (hv : ∀ v ∈ own.map (·.2), v ∉ pin) (hts : ∀ v ∈ ts, v ∈ own.map (·.2))
    (hg : ∀ s H C cl fp, SG (BX X scope s H C cl fp) W0 pin ts tg t) (ht : ∀ s H C cl fp, STs (BX X scope s H C cl fp) pin ifs tt) (he : ∀ s H C cl fp, SE (BX X scope s H C cl fp) W0 pin elt f) (hs : ∀ x, foldedSetIterable iter X.env x = pure x := by intro _; rfl) :
    SE X W pin (.ListComp elt [⟨tg, iter, ifs, 0⟩] scope pos) (sLc w wi (own.map (·.2)) t tt f) :=
  pe_mono (pe_lc hc hN hi (blkOk_by ok) hg ht he hs) (lc_ok hv hts fun _ _ _ h => h)
theorem ss_setLc (w : Bool) {i : Nat} {y : Str} {py spos : Pos} (hc : X.calm = true) (hN : X.N.Nodup) (hy : X.N[i]? = some y) (hyl : X.env.scope.names.lookup y = some .local) (hp : i ∉ pin)
    (hsw : swapsWith (.ListComp elt [⟨tg, iter, ifs, 0⟩] scope pos) (some (.Name y py)) spos.line X.env = pure true) (hi : SI X W pin tg iter wi) (ok : blkC X.N X.env.scope scope own = true) (hv : ∀ v ∈ own.map (·.2), v ∉ pin) (hts : ∀ v ∈ ts, v ∈ own.map (·.2))
    (hg : ∀ s H C cl fp, SG (BX X scope s H C cl fp) W0 pin ts tg t) (ht : ∀ s H C cl fp, STs (BX X scope s H C cl fp) pin ifs tt) (he : ∀ s H C cl fp, SE (BX X scope s H C cl fp) W0 pin elt f) (hs : ∀ x, foldedSetIterable iter X.env x = pure x := by intro _; rfl) :
    SS X W pin (.Assign [.Name y py] (.ListComp elt [⟨tg, iter, ifs, 0⟩] scope pos) spos) (oAsg (sLc w wi (own.map (·.2)) t tt f) (tgN i)) :=
  ps_mono (L2.ps_setLc hc hN hy hyl hsw hi (blkOk_by ok) hg ht he hs) fun D σ H ⟨b, Fz, F, δ, hpin, R, P⟩ => by
    refine lc_ok (K := X.K) (mg := X.mg) (W := W) (w := w) (wi := wi) (t := t) (tt := tt) (f := f) (tT := rdT X.K X.mg W0 pin tt) hv hts (fun _ _ _ h => h) σ H _ ?_
    refine rdS_bind hpin R P fun v H' Fz' F' a δ' s R' A P' => ?_
    refine tgN_ok (K := X.K) (mg := X.mg) (W := W) (b := b) (ts := [i]) (List.mem_singleton.mpr rfl) (by rw [hpin]; exact hp) R' A ?_
    cases q : tgN i a δ' with
    | bad => rw [q] at P'; exact P'
    | er x δ2 => rw [q] at P'; exact P'
    | ok u δ2 =>
      rw [q] at P'
      exact fun σ2 H2 Fz2 F2 s2 R2 _ => P' σ2 H2 Fz2 F2 s2 R2
end
end Hb

namespace Hb
open PySem PySem.Spec PyProof.Rows L2

/-! ### arguments -/
/-- an argument: a tree that stands still; the slot k by reference; a new thing of the callee's own -/
inductive Ar where
  | fz (d : PyData) | io (k : Nat) | own (s : Sl)
def ArH (K : PySem.W.Frag) (Fz H : Hp) (σ : L2.St) (f : List Addr) (v : V) : Ar → Prop
  | .fz d => f = [] ∧ Rp K Fz v d
  | .io k => f = [] ∧ σ[k]? = some (some v)
  | .own s => s.tree.isSome = true ∧ SlH K Fz H [] f (some v) s
structure ArOk (K : PySem.W.Frag) (b : Bk) (Fz : Hp) (F : Nat → List Addr) (H : Hp) (σ : L2.St) (vs : List V) (ars : List Ar) (G : Nat → List Addr) : Prop where
  len : vs.length = ars.length
  at_ : ∀ (j : Nat) (a : Ar), ars[j]? = some a → ∃ v, vs[j]? = some v ∧ ArH K Fz H σ (G j) v a
  nd : ∀ j, (G j).Nodup
  dj : ∀ i j a, a ∈ G i → a ∈ G j → i = j
  off : ∀ j a, a ∈ G j → Fz a = none ∧ b.B a = none ∧ H a ≠ none ∧ ∀ k, a ∉ F k
section
variable (K : PySem.W.Frag) (mg : Str → Option Value) (W : WX)
def PostAr (b : Bk) (Fz : Hp) (σ : L2.St) (Q : List V → Hp → Prop) : Rs (List Ar) → Prop
  | .ok ars δ => ∀ vs H' Fz' F' G, Same Fz Fz' → Rl K b Fz' F' δ σ H' → ArOk K b Fz' F' H' σ vs ars G → Q vs H'
  | .er x δ => PostX K mg W b Fz σ x δ
  | .bad => False
def rdAr (pin : List Nat) (f : List Sl → Rs (List Ar)) : TA := fun σ H Q => ∃ b Fz F δ, b.pin = pin ∧ Rl K b Fz F δ σ H ∧ PostAr K mg W b Fz σ Q (f δ)
end
abbrev SAr (X : Cx) (W : WX) (pin : List Nat) (es : List Expr) (f : List Sl → Rs (List Ar)) : Prop := PA X es (rdAr X.K X.mg W pin f)
def rNil : List Sl → Rs (List Ar) := fun δ => .ok [] δ
def arOf : AV → Option Ar
  | .val d => some (.fz d)
  | .tmp s => some (.own s)
  | .ref _ => none
/-- a value, or a new thing -/
def rCons (f : List Sl → Rs AV) (g : List Sl → Rs (List Ar)) : List Sl → Rs (List Ar) := fun δ => (f δ).bind fun a δ1 => match arOf a with
  | some r => (g δ1).bind fun rs δ2 => .ok (r :: rs) δ2
  | none => .bad
/-- a name by reference -/
def rIo (k : Nat) (g : List Sl → Rs (List Ar)) : List Sl → Rs (List Ar) := fun δ => (sVar k δ).bind fun _ δ1 => (g δ1).bind fun rs δ2 => .ok (.io k :: rs) δ2
section
variable {K : PySem.W.Frag} {mg : Str → Option Value} {W : WX} {pin : List Nat}
theorem PostAr.le {b : Bk} {Fz Fz1 : Hp} {σ : L2.St} {Q : List V → Hp → Prop} {r : Rs (List Ar)} (s : Same Fz Fz1) (p : PostAr K mg W b Fz σ Q r) : PostAr K mg W b Fz1 σ Q r := by
  cases r with
  | ok a δ => exact fun v H' Fz' F' G s' R e => p v H' Fz' F' G (s.trans s') R e
  | er x δ => exact PostX.le s p
  | bad => exact p
theorem arOk_nil {b : Bk} {Fz : Hp} {F : Nat → List Addr} {H : Hp} {σ : L2.St} : ArOk K b Fz F H σ [] [] (fun _ => []) := ⟨rfl, fun j a h => by simp at h, fun _ => List.nodup_nil, fun _ _ _ h => (nomatch h), fun _ _ h => (nomatch h)⟩
/-- one more argument ahead of the rest, which was reckoned while its thing belonged to the ground -/
theorem ArOk.cons {b : Bk} {Fz1 Fz2 : Hp} {F1 F2 : Nat → List Addr} {H1 H2 : Hp} {δ2 : List Sl} {σ : L2.St} {v : V} {vs : List V} {a : Ar} {ars : List Ar} {g : List Addr} {G : Nat → List Addr} (hs : Same Fz1 Fz2) (h1 : ArH K Fz1 H1 σ g v a) (hn : g.Nodup)
    (hg : ∀ c ∈ g, Fz1 c = none ∧ b.B c = none ∧ H1 c ≠ none ∧ ∀ k, c ∉ F1 k) (f0 : ∀ c, b.F0 c ≠ none → b.B c ≠ none) (R2 : Rl K (gd b H1 g) Fz2 F2 δ2 σ H2) (h2 : ArOk K (gd b H1 g) Fz2 F2 H2 σ vs ars G) :
    ArOk K b Fz2 F2 H2 σ (v :: vs) (a :: ars) (fun j => match j with
      | 0 => g
      | j + 1 => G j) := by
  have fit := R2.guarded (fun c hc => (hg c hc).2.1) f0 fun c hc => (hg c hc).2.2.1
  have notg : ∀ j c, c ∈ G j → c ∉ g := fun j c hc z => by
    have e1 : Hb.addF b.B H1 g c = none := (h2.off j c hc).2.1
    rw [addF_in z] at e1
    exact (hg c z).2.2.1 e1
  refine ⟨congrArg Nat.succ h2.len, fun j r e => ?_, fun j => ?_, fun i j c hi hj => ?_, fun j c hc => ?_⟩
  · cases j with
    | zero =>
      simp at e
      subst e
      refine ⟨v, rfl, ?_⟩
      cases a with
      | fz d => exact ⟨h1.1, h1.2.mono hs⟩
      | io k => exact h1
      | own s => exact ⟨h1.1, h1.2.keeps hs (fun c hc => (fit c hc).1) fun x j ej _ hx => by
          have := h1.1
          rw [ej] at this
          cases this⟩
    | succ j =>
      obtain ⟨u, e1, e2⟩ := h2.at_ j r (by simpa using e)
      exact ⟨u, by simpa using e1, e2⟩
  · cases j with
    | zero => exact hn
    | succ j => exact h2.nd j
  · cases i with
    | zero =>
      cases j with
      | zero => rfl
      | succ j => exact absurd hi (notg j c hj)
    | succ i =>
      cases j with
      | zero => exact absurd hj (notg i c hi)
      | succ j => exact congrArg Nat.succ (h2.dj i j c hi hj)
  · cases j with
    | zero =>
      obtain ⟨e1, e2, e3⟩ := fit c hc
      exact ⟨e2, (hg c hc).2.1, by rw [e1]; exact (hg c hc).2.2.1, e3⟩
    | succ j =>
      obtain ⟨e1, e2, e3⟩ := h2.off j c hc
      have e2 : Hb.addF b.B H1 g c = none := e2
      rw [addF_out (notg j c hc)] at e2
      exact ⟨e1, e2, e3⟩
end
section
variable {X : Cx} {W : WX} {pin : List Nat} {f : List Sl → Rs AV} {g : List Sl → Rs (List Ar)} {e : Expr} {es : List Expr}
theorem sr_nil : SAr X W pin [] rNil := pa_mono pa_nil fun σ H Q ⟨b, Fz, F, δ, hp, R, P⟩ => P [] H Fz F _ (Same.refl _) R arOk_nil
/-- the rest, while things of the ground's -/
theorem rest_ok {K : PySem.W.Frag} {mg : Str → Option Value} {b : Bk} {Fz1 : Hp} {F1 : Nat → List Addr} {δ1 : List Sl} {σ : L2.St} {H1 : Hp} {Q : List V → Hp → Prop} {v : V} {a : Ar} {gs : List Addr} (hp : b.pin = pin) (R1 : Rl K b Fz1 F1 δ1 σ H1) (h1 : ArH K Fz1 H1 σ gs v a) (hn : gs.Nodup)
    (hg : ∀ c ∈ gs, Fz1 c = none ∧ b.B c = none ∧ H1 c ≠ none ∧ ∀ k, c ∉ F1 k) (P : PostAr K mg W b Fz1 σ Q ((g δ1).bind fun rs δ2 => .ok (a :: rs) δ2)) : rdAr K mg W pin g σ H1 fun vs H2 => Q (v :: vs) H2 := by
  refine ⟨gd b H1 gs, Fz1, F1, δ1, hp, R1.guard fun c hc => ⟨(hg c hc).1, (hg c hc).2.1, (hg c hc).2.2.2⟩, ?_⟩
  have un : ∀ {Fz' F' δ' H'}, Rl K (gd b H1 gs) Fz' F' δ' σ H' → Rl K b Fz' F' δ' σ H' := fun R => R.unguard (fun c hc => (hg c hc).2.1) R1.f0
  cases q : g δ1 with
  | bad => rw [q] at P; exact P
  | er x δ' =>
    rw [q] at P
    exact fun c dd H' Fz' F' s R e => P c dd H' Fz' F' s (un R) e
  | ok ars δ' =>
    rw [q] at P
    exact fun vs H' Fz' F' G s R A => P (v :: vs) H' Fz' F' _ s (un R) (ArOk.cons s h1 hn hg R1.f0 R A)
theorem sr_cons (h : SE X W pin e f) (h2 : SAr X W pin es g) (hs : starEach (e :: es) X.env = (false, eval e X.env) :: starEach es X.env := by rfl) : SAr X W pin (e :: es) (rCons f g) := pa_mono (pa_cons h h2 hs) fun σ H Q ⟨b, Fz, F, δ, hp, R, P⟩ => by
  refine ⟨b, Fz, F, δ, hp, R, ?_⟩
  unfold rCons at P
  cases q : f δ with
  | bad => rw [q] at P; exact P
  | er x δ' => rw [q] at P; exact P
  | ok a δ1 =>
    rw [q] at P
    intro v H1 Fz1 F1 s1 R1 A
    have P := PostAr.le s1 P
    cases a with
    | ref i => exact P.elim
    | val d => exact rest_ok hp R1 (a := .fz d) (gs := []) ⟨rfl, A⟩ List.nodup_nil (fun _ z => nomatch z) P
    | tmp s =>
      obtain ⟨ht, gs, k1, k2, k3⟩ := A
      exact rest_ok hp R1 (a := .own s) (gs := gs) ⟨ht, k1⟩ k2 k3 P
theorem sr_io (k : Nat) {x : Str} {pos : Pos} (hN : X.N[k]? = some x) (hv : Vis X.env.scope x) (h2 : SAr X W pin es g) (hd : (x == ("__debug__" : Str)) = false := by decide) (hcd : (x == ("__classdict__" : Str)) = false := by decide)
    (hs : starEach (.Name x pos :: es) X.env = (false, eval (.Name x pos) X.env) :: starEach es X.env := by rfl) : SAr X W pin (.Name x pos :: es) (rIo k g) := pa_mono (pa_cons (pe_var hN hv hd hcd) h2 hs) fun σ H Q ⟨b, Fz, F, δ, hp, R, P⟩ => by
  unfold rIo at P
  have hvar : ∃ v, σ[k]? = some (some v) ∧ ∃ a, sVar k δ = .ok a δ := by
    cases q : sVar k δ with
    | bad => rw [q] at P; exact P.elim
    | er x δ' => unfold sVar at q; split at q <;> cases q
    | ok a δ' =>
      unfold sVar at q
      cases q2 : δ[k]? with
      | none => rw [q2] at q; cases q
      | some s =>
        have h := R.slot k s q2
        rw [q2] at q
        cases s with
        | no => cases q
        | fz d => cases q; obtain ⟨_, v, e1, _⟩ := h; exact ⟨v, join_some e1, _, rfl⟩
        | ol xs => cases q; obtain ⟨a, _, _, e1, _⟩ := h; exact ⟨_, join_some e1, _, rfl⟩
        | od kvs => cases q; obtain ⟨a, e1, _⟩ := h; exact ⟨_, join_some e1, _, rfl⟩
        | al y j => cases q; obtain ⟨_, a, c, vs, _, _, _, e1⟩ := h; exact ⟨_, join_some e1, _, rfl⟩
  obtain ⟨v, e1, a, e2⟩ := hvar
  rw [e2] at P
  exact ⟨v, e1, rest_ok hp R (a := .io k) (gs := []) ⟨rfl, e1⟩ List.nodup_nil (fun _ z => nomatch z) P⟩
end

/-! ### what a def does, over trees -/
inductive FR where
  | ok (r : Sl) (δ : List Sl) | er (x : Exn) (δ : List Sl) | bad
section
variable (K : PySem.W.Frag) (mg : Str → Option Value)
def PostF (b : Bk) (Fz : Hp) (vs : List V) (Q : VK) (E : XK) : FR → Prop
  | .ok r δ => ∀ v H' Fz' F', Same Fz Fz' → Rl K b Fz' F' δ (vs.map some) H' → AvR K b Fz' F' H' (vs.map some) v (.tmp r) → Q v H'
  | .er x δ => ∀ c dd H' Fz' F', Same Fz Fz' → Rl K b Fz' F' δ (vs.map some) H' → ExR K mg Fz' H' x c dd → E c dd H'
  | .bad => False
/-- the promise: n parameters -/
def spF (n : Nat) (f : List Sl → FR) : Sp := fun vs H Q E => vs.length = n ∧ ∃ b Fz F δ, Rl K b Fz F δ (vs.map some) H ∧ PostF K mg b Fz vs Q E (f δ)
end
def argS (δ : List Sl) : Ar → Option Sl
  | .fz d => some (.fz d)
  | .own s => some s
  | .io k => match δ[k]? with
    | some (.fz d) => some (.fz d)
    | some (.ol xs) => some (.ol xs)
    | some (.od kvs) => some (.od kvs)
    | _ => none
def argsS (δ : List Sl) : List Ar → Option (List Sl)
  | [] => some []
  | a :: r => match argS δ a, argsS δ r with
    | some s, some l => some (s :: l)
    | _, _ => none
/-- the slots that were handed over -/
def iosOf (δ : List Sl) : List Ar → List Nat
  | [] => []
  | .io k :: r => (match δ[k]? with
    | some (.ol _) => k :: iosOf δ r
    | some (.od _) => k :: iosOf δ r
    | _ => iosOf δ r)
  | _ :: r => iosOf δ r
/-- .. and come back -/
def clr (ks : List Nat) (δ : List Sl) : List Sl := ks.foldr (fun k δ => upS k .no δ) δ
def noAl : Sl → Sl
  | .al _ _ => .no
  | s => s
def putB (ks : List Nat) : List Ar → List Sl → List Sl → List Sl
  | .io k :: r, s :: l, δ => putB ks r l (if k ∈ ks then upS k (noAl s) δ else δ)
  | .fz _ :: r, _ :: l, δ => putB ks r l δ
  | .own _ :: r, _ :: l, δ => putB ks r l δ
  | _, _, δ => δ
def AV.ofSl : Sl → AV
  | .fz d => .val d
  | s => .tmp s
def backS (ars : List Ar) (δ' δ : List Sl) : List Sl := putB (iosOf δ ars) ars δ' (clr (iosOf δ ars) δ)
def callF (f : List Sl → FR) (ars : List Ar) (δ : List Sl) : Rs AV := if (iosOf δ ars).Nodup then (match argsS δ ars with
  | some δa => (match f δa with
    | .ok r δ' => .ok (AV.ofSl r) (backS ars δ' δ)
    | .er x δ' => .er x (backS ars δ' δ)
    | .bad => .bad)
  | none => .bad) else .bad
def sCall (f : List Sl → FR) (dd : List PyData) (g : List Sl → Rs (List Ar)) : List Sl → Rs AV := fun δ => (g δ).bind fun ars δ1 => callF f (ars ++ dd.map .fz) δ1
section
variable {δ : List Sl}
def ownS : Option Sl → Bool
  | some (.ol _) => true
  | some (.od _) => true
  | _ => false
theorem ios_cons_io {k : Nat} {r : List Ar} : iosOf δ (.io k :: r) = if ownS δ[k]? = true then k :: iosOf δ r else iosOf δ r := by
  cases q : δ[k]? with
  | none => simp [iosOf, q, ownS]
  | some s => cases s <;> simp [iosOf, q, ownS]
theorem ios_own {k : Nat} : ∀ {ars : List Ar}, k ∈ iosOf δ ars → ownS δ[k]? = true
  | [], h => by cases h
  | .fz d :: r, h => ios_own (ars := r) h
  | .own s :: r, h => ios_own (ars := r) h
  | .io j :: r, h => by
    rw [ios_cons_io] at h
    by_cases c : ownS δ[j]? = true
    · rw [if_pos c] at h
      rcases List.mem_cons.mp h with e | e
      · rw [e]; exact c
      · exact ios_own e
    · rw [if_neg c] at h
      exact ios_own h
theorem ios_mem {k : Nat} (c : ownS δ[k]? = true) : ∀ {ars : List Ar} {j : Nat}, ars[j]? = some (.io k) → k ∈ iosOf δ ars
  | [], _, h => by simp at h
  | a :: r, 0, h => by
    simp at h
    subst h
    rw [ios_cons_io, if_pos c]
    exact List.mem_cons_self
  | a :: r, j + 1, h => by
    have ih := ios_mem c (ars := r) (j := j) (by simpa using h)
    cases a with
    | fz d => exact ih
    | own s => exact ih
    | io m =>
      rw [ios_cons_io]
      by_cases e : ownS δ[m]? = true
      · rw [if_pos e]; exact List.mem_cons_of_mem _ ih
      · rw [if_neg e]; exact ih
theorem ios_uniq {k : Nat} (c : ownS δ[k]? = true) : ∀ {ars : List Ar} {i j : Nat}, (iosOf δ ars).Nodup → ars[i]? = some (.io k) → ars[j]? = some (.io k) → i = j
  | [], _, _, _, h, _ => by simp at h
  | a :: r, 0, 0, _, _, _ => rfl
  | a :: r, 0, j + 1, nd, h, h2 => by
    simp at h
    subst h
    rw [ios_cons_io, if_pos c] at nd
    exact absurd (ios_mem c (ars := r) (j := j) (by simpa using h2)) (List.nodup_cons.mp nd).1
  | a :: r, i + 1, 0, nd, h, h2 => by
    simp at h2
    subst h2
    rw [ios_cons_io, if_pos c] at nd
    exact absurd (ios_mem c (ars := r) (j := i) (by simpa using h)) (List.nodup_cons.mp nd).1
  | a :: r, i + 1, j + 1, nd, h, h2 => by
    have nd' : (iosOf δ r).Nodup := by
      cases a with
      | fz d => exact nd
      | own s => exact nd
      | io m =>
        rw [ios_cons_io] at nd
        by_cases e : ownS δ[m]? = true
        · rw [if_pos e] at nd; exact (List.nodup_cons.mp nd).2
        · rw [if_neg e] at nd; exact nd
    exact congrArg Nat.succ (ios_uniq c nd' (by simpa using h) (by simpa using h2))
theorem argsS_get : ∀ {ars : List Ar} {l : List Sl}, argsS δ ars = some l → l.length = ars.length ∧ ∀ (j : Nat) (a : Ar), ars[j]? = some a → ∃ s, l[j]? = some s ∧ argS δ a = some s
  | [], _, h => by
    cases h
    exact ⟨rfl, fun j a h => by simp at h⟩
  | a :: r, l, h => by
    unfold argsS at h
    cases q1 : argS δ a with
    | none => rw [q1] at h; cases h
    | some s =>
      cases q2 : argsS δ r with
      | none => rw [q1, q2] at h; cases h
      | some l' =>
        rw [q1, q2] at h
        cases h
        obtain ⟨e1, e2⟩ := argsS_get q2
        refine ⟨by simp [e1], fun j b hb => ?_⟩
        cases j with
        | zero =>
          simp at hb
          subst hb
          exact ⟨s, rfl, q1⟩
        | succ j =>
          obtain ⟨t, e3, e4⟩ := e2 j b (by simpa using hb)
          exact ⟨t, by simpa using e3, e4⟩
end
section
variable {K : PySem.W.Frag} {mg : Str → Option Value} {b : Bk} {Fz : Hp} {F : Nat → List Addr} {δ : List Sl} {σ : L2.St} {H : Hp}
theorem Rl.clear (R : Rl K b Fz F δ σ H) : ∀ ks : List Nat, Rl K b Fz (fun k => if k ∈ ks then [] else F k) (clr ks δ) σ H
  | [] => by
    have e : (fun k => if k ∈ ([] : List Nat) then [] else F k) = F := by funext k; simp
    rw [e]
    exact R
  | m :: ks => by
    have R1 := R.clear ks
    have R2 := R1.put (i := m) (s := .no) (g := []) (Same.refl _) R1.le R1.base rfl (fun _ _ => rfl) (.inl rfl) (fun _ => rfl) (fun x j z => nomatch z) List.nodup_nil (fun _ z => nomatch z) (fun _ z => nomatch z) (fun _ z => nomatch z) (fun _ z => nomatch z) (fun _ _ _ _ => rfl) (fun k _ a ha => R1.offF k a ha) (fun _ _ => rfl)
    have e : (fun k => if k = m then [] else if k ∈ ks then [] else F k) = fun k => if k ∈ m :: ks then [] else F k := by
      funext k
      by_cases q : k = m
      · simp [q]
      · simp [q]
    rw [e] at R2
    exact R2
theorem Rl.move (R : Rl K b Fz F δ σ H) {Fz' H' : Hp} (s : Same Fz Fz') (le : Same Fz' H') (base : Same b.B H') (hF : ∀ k a, a ∈ F k → H' a = H a ∧ Fz' a = none) (hB : ∀ a, b.B a ≠ none → Fz' a = Fz a) : Rl K b Fz' F δ σ H' where
  le := le
  base := base
  len := R.len
  slot := fun i t e => (R.slot i t e).keeps s (fun a ha => (hF i a ha).1) fun x j ej a ha => by
    subst ej
    obtain ⟨xs, hx⟩ := R.als i x j e
    obtain ⟨l, vs, g, p1, p2, _⟩ := R.slot x _ hx
    rw [ha] at p1
    cases p1
    exact (hF x a (by rw [p2]; exact List.mem_cons_self)).1
  nd := R.nd
  dj := R.dj
  offF := fun i a ha => (hF i a ha).2
  offB := R.offB
  on := fun i a ha => by
    rw [(hF i a ha).1]
    exact R.on i a ha
  keep := fun a ha => (hB a ha).trans (R.keep a ha)
  f0 := R.f0
  pin := R.pin
  als := R.als
def Fput (Fc : Nat → List Addr) (F' : Nat → List Addr) (ks : List Nat) : Nat → List Ar → Nat → List Addr
  | _, [] => Fc
  | j, .io k :: r => Fput (if k ∈ ks then (fun m => if m = k then F' j else Fc m) else Fc) F' ks (j + 1) r
  | j, _ :: r => Fput Fc F' ks (j + 1) r
theorem noAl_ok {Fz H : Hp} {σ1 σ2 : L2.St} {f : List Addr} {o : Option V} {s : Sl} (h : SlH K Fz H σ1 f o s) : SlH K Fz H σ2 f o (noAl s) := by
  cases s with
  | al x j => exact h.1
  | no => exact h
  | fz d => exact h
  | ol xs => exact h
  | od kvs => exact h
/-- the slots that were handed over come back, one by one -/
theorem Rl.putBack {ks : List Nat} {Fz' H' : Hp} {F' : Nat → List Addr} {δ' : List Sl} {vs : List V} {b' : Bk} (R' : Rl K b' Fz' F' δ' (vs.map some) H') (hb : ∀ a, b.B a ≠ none → b'.B a ≠ none) :
    ∀ (ars : List Ar) (l : List Sl) (j : Nat) (Fc : Nat → List Addr) (δc : List Sl), Rl K b Fz' Fc δc σ H' → l.length = ars.length → (∀ i s, l[i]? = some s → δ'[j + i]? = some s) → (∀ i k, ars[i]? = some (.io k) → ∃ v, vs[j + i]? = some v ∧ σ[k]? = some (some v)) →
      (∀ m a, a ∈ Fc m → b'.B a ≠ none ∨ ∃ i, i < j ∧ a ∈ F' i) → ∃ Fn, Rl K b Fz' Fn (putB ks ars l δc) σ H' ∧ ∀ m a, a ∈ Fn m → b'.B a ≠ none ∨ ∃ i, a ∈ F' i
  | [], l, j, Fc, δc, R, _, _, _, h => ⟨Fc, by cases l <;> exact R, fun m a ha => (h m a ha).imp id fun ⟨i, _, e⟩ => ⟨i, e⟩⟩
  | a :: r, [], _, _, _, _, hl, _, _, _ => by cases hl
  | .fz d :: r, s :: l, j, Fc, δc, R, hl, h1, h2, h3 => by
    refine Rl.putBack R' hb r l (j + 1) Fc δc R (by simpa using hl) (fun i t e => ?_) (fun i k e => ?_) fun m c hc => (h3 m c hc).imp id fun ⟨i, e1, e2⟩ => ⟨i, by omega, e2⟩
    · have := h1 (i + 1) t (by simpa using e)
      rwa [show j + (i + 1) = j + 1 + i by omega] at this
    · have := h2 (i + 1) k (by simpa using e)
      rwa [show j + (i + 1) = j + 1 + i by omega] at this
  | .own d :: r, s :: l, j, Fc, δc, R, hl, h1, h2, h3 => by
    refine Rl.putBack R' hb r l (j + 1) Fc δc R (by simpa using hl) (fun i t e => ?_) (fun i k e => ?_) fun m c hc => (h3 m c hc).imp id fun ⟨i, e1, e2⟩ => ⟨i, by omega, e2⟩
    · have := h1 (i + 1) t (by simpa using e)
      rwa [show j + (i + 1) = j + 1 + i by omega] at this
    · have := h2 (i + 1) k (by simpa using e)
      rwa [show j + (i + 1) = j + 1 + i by omega] at this
  | .io k :: r, s :: l, j, Fc, δc, R, hl, h1, h2, h3 => by
    have n1 : ∀ i t, l[i]? = some t → δ'[j + 1 + i]? = some t := fun i t e => by
      have := h1 (i + 1) t (by simpa using e)
      rwa [show j + (i + 1) = j + 1 + i by omega] at this
    have n2 : ∀ i k', r[i]? = some (.io k') → ∃ v, vs[j + 1 + i]? = some v ∧ σ[k']? = some (some v) := fun i k' e => by
      have := h2 (i + 1) k' (by simpa using e)
      rwa [show j + (i + 1) = j + 1 + i by omega] at this
    by_cases c : k ∈ ks
    · have e0 : putB ks (.io k :: r) (s :: l) δc = putB ks r l (upS k (noAl s) δc) := by
        show putB ks r l (if k ∈ ks then upS k (noAl s) δc else δc) = _
        rw [if_pos c]
      rw [e0]
      obtain ⟨v, v1, v2⟩ := h2 0 k rfl
      have hs := R'.slot j s (by simpa using h1 0 s rfl)
      have hvj : (vs.map some)[j]? = some (some v) := by
        rw [List.getElem?_map, show vs[j]? = some v by simpa using v1]
        rfl
      rw [hvj] at hs
      refine Rl.putBack R' hb r l (j + 1) _ _ (R.put (i := k) (s := noAl s) (g := F' j) (Same.refl _) R.le R.base rfl (fun _ _ => rfl) (.inl rfl) (fun _ => ?_) (fun x i z => ?_) (R'.nd j) (fun a ha => R'.offF j a ha) (fun a ha => ?_) (fun a ha m hm hin => ?_) (fun a ha => R'.on j a ha) (fun _ _ _ _ => rfl) (fun m _ a ha => R.offF m a ha) (fun _ _ => rfl)) (by simpa using hl) n1 n2 (fun m a ha => ?_)
      · rw [v2]
        exact noAl_ok hs
      · cases s <;> cases z
      · cases q : b.B a with
        | none => rfl
        | some o => exact absurd (R'.offB j a ha) (hb a (by rw [q]; simp))
      · rcases h3 m a hin with z | ⟨i, z1, z2⟩
        · exact z (R'.offB j a ha)
        · have := R'.dj i j a z2 ha
          omega
      · have ha : a ∈ (if m = k then F' j else Fc m) := ha
        by_cases q : m = k
        · rw [if_pos q] at ha
          exact .inr ⟨j, Nat.lt_succ_self j, ha⟩
        · rw [if_neg q] at ha
          exact (h3 m a ha).imp id fun ⟨i, e1, e2⟩ => ⟨i, by omega, e2⟩
    · have e0 : putB ks (.io k :: r) (s :: l) δc = putB ks r l δc := by
        show putB ks r l (if k ∈ ks then upS k (noAl s) δc else δc) = _
        rw [if_neg c]
      rw [e0]
      exact Rl.putBack R' hb r l (j + 1) Fc δc R (by simpa using hl) n1 n2 fun m a ha => (h3 m a ha).imp id fun ⟨i, e1, e2⟩ => ⟨i, by omega, e2⟩
end
end Hb

namespace Hb
open PySem PySem.Spec PyProof.Rows L2

section
variable {K : PySem.W.Frag} {mg : Str → Option Value} {W : WX} {b : Bk} {Fz : Hp} {F : Nat → List Addr} {δ : List Sl} {σ : L2.St} {H : Hp}
/-- what is handed over -/
def passL (δ : List Sl) (F G : Nat → List Addr) (ars : List Ar) : List Addr := (iosOf δ ars).flatMap F ++ (List.range ars.length).flatMap G
/-- the callee's ground: all else -/
def calB (H : Hp) (p : List Addr) : Hp := fun a => if a ∈ p then none else H a
def calF0 (H Fz : Hp) (p : List Addr) : Hp := fun a => if a ∈ p then none else if H a = none then none else Fz a
def calF (δ : List Sl) (F G : Nat → List Addr) (ars : List Ar) (j : Nat) : List Addr := match ars[j]? with
  | some (.io k) => if ownS δ[k]? = true then F k else []
  | some (.own _) => G j
  | _ => []
theorem call_ok {Q : VK} {vs : List V} {ars : List Ar} {G : Nat → List Addr} {f : List Sl → FR} (R : Rl K b Fz F δ σ H) (A : ArOk K b Fz F H σ vs ars G) (P : Post K mg W b Fz σ Q (callF f ars δ)) :
    spF K mg ars.length f vs H Q (fun c dd H' => W c dd σ H') := by
  refine ⟨A.len, ?_⟩
  unfold callF at P
  by_cases nd : (iosOf δ ars).Nodup
  · rw [if_pos nd] at P
    cases q1 : argsS δ ars with
    | none => simp only [q1] at P; exact P.elim
    | some δa =>
      simp only [q1] at P
      obtain ⟨la, ga⟩ := argsS_get q1
      obtain ⟨p, hp⟩ : ∃ p, p = passL δ F G ars := ⟨_, rfl⟩
      have pio : ∀ k, k ∈ iosOf δ ars → ∀ a ∈ F k, a ∈ p := fun k hk a ha => by
        rw [hp]
        exact List.mem_append_left _ (List.mem_flatMap.mpr ⟨k, hk, ha⟩)
      have pown : ∀ j, j < ars.length → ∀ a ∈ G j, a ∈ p := fun j hj a ha => by
        rw [hp]
        exact List.mem_append_right _ (List.mem_flatMap.mpr ⟨j, List.mem_range.mpr hj, ha⟩)
      have pin : ∀ a ∈ p, (∃ k, k ∈ iosOf δ ars ∧ a ∈ F k) ∨ ∃ j, a ∈ G j := fun a ha => by
        rw [hp] at ha
        rcases List.mem_append.mp ha with z | z
        · obtain ⟨k, e1, e2⟩ := List.mem_flatMap.mp z
          exact .inl ⟨k, e1, e2⟩
        · obtain ⟨j, _, e2⟩ := List.mem_flatMap.mp z
          exact .inr ⟨j, e2⟩
      have pFz : ∀ a ∈ p, Fz a = none := fun a ha => (pin a ha).elim (fun ⟨k, _, e⟩ => R.offF k a e) fun ⟨j, e⟩ => (A.off j a e).1
      have pB : ∀ a ∈ p, b.B a = none := fun a ha => (pin a ha).elim (fun ⟨k, _, e⟩ => R.offB k a e) fun ⟨j, e⟩ => (A.off j a e).2.1
      have getV : ∀ j a, ars[j]? = some a → ∃ s v, δa[j]? = some s ∧ argS δ a = some s ∧ vs[j]? = some v ∧ ArH K Fz H σ (G j) v a := fun j a e => by
        obtain ⟨s, e1, e2⟩ := ga j a e
        obtain ⟨v, e3, e4⟩ := A.at_ j a e
        exact ⟨s, v, e1, e2, e3, e4⟩
      have cF : ∀ j a, a ∈ calF δ F G ars j → (∃ k, ars[j]? = some (.io k) ∧ ownS δ[k]? = true ∧ a ∈ F k) ∨ ∃ s, ars[j]? = some (.own s) ∧ a ∈ G j := fun j a ha => by
        unfold calF at ha
        cases q : ars[j]? with
        | none => rw [q] at ha; cases ha
        | some r =>
          rw [q] at ha
          cases r with
          | fz d => cases ha
          | own s => exact .inr ⟨s, rfl, ha⟩
          | io k =>
            have ha : a ∈ (if ownS δ[k]? = true then F k else []) := ha
            by_cases c : ownS δ[k]? = true
            · rw [if_pos c] at ha
              exact .inl ⟨k, rfl, c, ha⟩
            · rw [if_neg c] at ha
              cases ha
      have cp : ∀ j a, a ∈ calF δ F G ars j → a ∈ p := fun j a ha => (cF j a ha).elim (fun ⟨k, e1, e2, e3⟩ => pio k (ios_mem e2 e1) a e3) fun ⟨s, e1, e2⟩ => pown j (List.getElem?_eq_some_iff.mp e1).1 a e2
      have Rc : Rl K ⟨calB H p, calF0 H Fz p, [], []⟩ Fz (calF δ F G ars) δa (vs.map some) H := by
        refine ⟨R.le, fun a o e => ?_, by rw [List.length_map, A.len, la], fun j s e => ?_, fun j => ?_, fun i j a h1 h2 => ?_, fun j a h => pFz a (cp j a h), fun j a h => if_pos (cp j a h), fun j a h => ?_, fun a h => ?_, fun a h => ?_, fun _ z => (nomatch z), fun j x m e => ?_⟩
        · have e : (if a ∈ p then none else H a) = some o := e
          by_cases c : a ∈ p
          · rw [if_pos c] at e; cases e
          · rw [if_neg c] at e; exact e
        · have hj : j < ars.length := by rw [← la]; exact (List.getElem?_eq_some_iff.mp e).1
          obtain ⟨s', v, e1, e2, e3, e4⟩ := getV j _ (List.getElem?_eq_getElem hj)
          rw [e] at e1
          cases e1
          have hv : (vs.map some)[j]?.join = some v := by rw [List.getElem?_map, e3]; rfl
          rw [hv]
          unfold calF
          rw [List.getElem?_eq_getElem hj]
          generalize ars[j] = r at e2 e4
          cases r with
          | fz d =>
            cases e2
            exact ⟨rfl, v, rfl, e4.2⟩
          | own t =>
            cases e2
            have h2 := e4.2
            cases s with
            | al x m => have := e4.1; cases this
            | no => exact h2
            | fz d => exact h2
            | ol xs => exact h2
            | od kvs => exact h2
          | io k =>
            have hk : σ[k]? = some (some v) := e4.2
            unfold argS at e2
            cases q2 : δ[k]? with
            | none => simp only [q2] at e2; cases e2
            | some t =>
              have hs := R.slot k t q2
              rw [hk] at hs
              cases t with
              | fz d => simp only [q2] at e2; cases e2; exact ⟨by simp [ownS, q2], hs.2⟩
              | ol xs => simp only [q2] at e2; cases e2; simp only [ownS, q2, if_true]; exact hs
              | od kvs => simp only [q2] at e2; cases e2; simp only [ownS, q2, if_true]; exact hs
              | no => simp only [q2] at e2; cases e2
              | al x m => simp only [q2] at e2; cases e2
        · unfold calF
          cases q : ars[j]? with
          | none => exact List.nodup_nil
          | some r =>
            cases r with
            | fz d => exact List.nodup_nil
            | own s => exact A.nd j
            | io k =>
              show (if ownS δ[k]? = true then F k else []).Nodup
              by_cases c : ownS δ[k]? = true
              · rw [if_pos c]; exact R.nd k
              · rw [if_neg c]; exact List.nodup_nil
        · rcases cF i a h1 with ⟨k, e1, e2, e3⟩ | ⟨s, e1, e2⟩
          · rcases cF j a h2 with ⟨m, f1, f2, f3⟩ | ⟨t, f1, f2⟩
            · have := R.dj k m a e3 f3
              subst this
              exact ios_uniq e2 nd e1 f1
            · exact absurd e3 ((A.off j a f2).2.2.2 k)
          · rcases cF j a h2 with ⟨m, f1, f2, f3⟩ | ⟨t, f1, f2⟩
            · exact absurd f3 ((A.off i a e2).2.2.2 m)
            · exact A.dj i j a e2 f2
        · rcases cF j a h with ⟨k, e1, e2, e3⟩ | ⟨s, e1, e2⟩
          · exact R.on k a e3
          · exact (A.off j a e2).2.2.1
        · have h : (if a ∈ p then none else H a) ≠ none := h
          show Fz a = if a ∈ p then none else if H a = none then none else Fz a
          by_cases c : a ∈ p
          · rw [if_pos c] at h; exact absurd rfl h
          · rw [if_neg c] at h ⊢
            rw [if_neg h]
        · have h : (if a ∈ p then none else if H a = none then none else Fz a) ≠ none := h
          show (if a ∈ p then none else H a) ≠ none
          by_cases c : a ∈ p
          · rw [if_pos c] at h; exact absurd rfl h
          · rw [if_neg c] at h ⊢
            by_cases c2 : H a = none
            · rw [if_pos c2] at h; exact absurd rfl h
            · exact c2
        · have hj : j < ars.length := by rw [← la]; exact (List.getElem?_eq_some_iff.mp e).1
          obtain ⟨s', v, e1, e2, e3, e4⟩ := getV j _ (List.getElem?_eq_getElem hj)
          rw [e] at e1
          cases e1
          generalize ars[j] = r at e2 e4
          cases r with
          | fz d => cases e2
          | own t =>
            cases e2
            have := e4.1
            cases this
          | io k =>
            unfold argS at e2
            cases q2 : δ[k]? with
            | none => simp only [q2] at e2; cases e2
            | some t => cases t <;> (simp only [q2] at e2; cases e2)
      refine ⟨_, Fz, _, δa, Rc, ?_⟩
      have calN : ∀ a, H a ≠ none → a ∉ p → calB H p a ≠ none := fun a h1 h2 => by
        show (if a ∈ p then none else H a) ≠ none
        rw [if_neg h2]
        exact h1
      -- what comes back
      have fin : ∀ {δ' : List Sl} {H' Fz' : Hp} {F' : Nat → List Addr}, Same Fz Fz' → Rl K ⟨calB H p, calF0 H Fz p, [], []⟩ Fz' F' δ' (vs.map some) H' → ∃ Fn, Rl K b Fz' Fn (backS ars δ' δ) σ H' ∧ ∀ m a, a ∈ Fn m → calB H p a ≠ none ∨ ∃ i, a ∈ F' i := by
        intro δ' H' Fz' F' s R'
        have outF : ∀ k, k ∉ iosOf δ ars → ∀ a ∈ F k, a ∉ p := fun k hk a ha z => by
          rcases pin a z with ⟨m, e1, e2⟩ | ⟨j, e⟩
          · exact hk (by rw [R.dj k m a ha e2]; exact e1)
          · exact (A.off j a e).2.2.2 k ha
        have R1 := (R.clear (iosOf δ ars)).move (Fz' := Fz') (H' := H') s R'.le (fun a o e => ?_) (fun k a ha => ?_) (fun a ha => ?_)
        · refine Rl.putBack (b := b) R' (fun a ha => ?_) ars δ' 0 _ _ R1 (by have := R'.len; rw [List.length_map, A.len] at this; exact this.symm) (fun i t e => by rwa [Nat.zero_add]) (fun i k e => ?_) (fun m a ha => ?_)
          · cases q : b.B a with
            | none => exact absurd q ha
            | some o => exact calN a (by rw [R.base a o q]; simp) fun z => by rw [pB a z] at q; cases q
          · obtain ⟨v, e1, e2⟩ := A.at_ i _ e
            exact ⟨v, by rwa [Nat.zero_add], e2.2⟩
          · have ha : a ∈ (if m ∈ iosOf δ ars then [] else F m) := ha
            by_cases c : m ∈ iosOf δ ars
            · rw [if_pos c] at ha; cases ha
            · rw [if_neg c] at ha
              exact .inl (calN a (R.on m a ha) (outF m c a ha))
        · have hn : a ∉ p := fun z => by rw [pB a z] at e; cases e
          exact R'.base a o (by
            show (if a ∈ p then none else H a) = some o
            rw [if_neg hn]
            exact R.base a o e)
        · have ha : a ∈ (if k ∈ iosOf δ ars then [] else F k) := ha
          by_cases c : k ∈ iosOf δ ars
          · rw [if_pos c] at ha; cases ha
          · rw [if_neg c] at ha
            have hn := outF k c a ha
            have nn := calN a (R.on k a ha) hn
            refine ⟨?_, ?_⟩
            · cases q : H a with
              | none => exact absurd q (R.on k a ha)
              | some o => exact R'.base a o (by
                  show (if a ∈ p then none else H a) = some o
                  rw [if_neg hn]
                  exact q)
            · rw [R'.keep a nn]
              show (if a ∈ p then none else if H a = none then none else Fz a) = none
              rw [if_neg hn, if_neg (R.on k a ha)]
              exact R.offF k a ha
        · have hn : a ∉ p := fun z => ha (pB a z)
          have hH : H a ≠ none := by
            cases q : b.B a with
            | none => exact absurd q ha
            | some o => rw [R.base a o q]; simp
          rw [R'.keep a (calN a hH hn)]
          show (if a ∈ p then none else if H a = none then none else Fz a) = Fz a
          rw [if_neg hn, if_neg hH]
      cases q2 : f δa with
      | bad => simp only [q2] at P; exact P
      | er x δ' =>
        simp only [q2] at P
        intro c dd H' Fz' F' s R' e
        obtain ⟨Fn, Rn, _⟩ := fin s R'
        exact P c dd H' Fz' Fn s Rn e
      | ok r δ' =>
        simp only [q2] at P
        intro v H' Fz' F' s R' Ar
        obtain ⟨Fn, Rn, hn⟩ := fin s R'
        refine P v H' Fz' Fn s Rn ?_
        obtain ⟨ht, g, h1, h2, h3⟩ := Ar
        have gn : ∀ a ∈ g, calB H p a = none := fun a ha => (h3 a ha).2.1
        have gen : AvR K b Fz' Fn H' σ v (.tmp r) := ⟨ht, g, h1, h2, fun a ha => ⟨(h3 a ha).1, ?_, (h3 a ha).2.2.1, fun m hm => ?_⟩⟩
        · cases r with
          | fz d =>
            obtain ⟨e, v', e1, e2⟩ := h1
            cases e1
            exact e2
          | no => cases ht
          | al x j => cases ht
          | ol xs => exact gen
          | od kvs => exact gen
        · cases q : b.B a with
          | none => rfl
          | some o => exact absurd (gn a ha) (calN a (by rw [R.base a o q]; simp) fun z => by rw [pB a z] at q; cases q)
        · rcases hn m a hm with z | ⟨i, z⟩
          · exact z (gn a ha)
          · exact (h3 a ha).2.2.2 i z
  · rw [if_neg nd] at P
    exact P.elim
end

/-! ### a def: it knows that no repr is running -/
structure FnG (P : Program) (w : World) (K : PySem.W.Frag) (mg : Str → Option Value) (base : Heap) (k : Nat) (f : Addr) (fd : FuncData) (ps : List Str) (sp : Sp) : Prop where
  len : ∀ vs H Q E, sp vs H Q E → vs.length = ps.length
  run : ∀ (A : Around) (outer : List Env) (s : Shared) (H : Hp) (args : Args) (us : List Value) (vs : List V) (Q : VK) (E : XK), A.guards = some [] → Room k A → Env0 P w K mg base A outer s H → BindsTo s fd args (ps.zip us) → Vals vs us → sp vs H Q E →
    codeAny (model P w) A (.call (.ref f) args) (CR (L2.CX P w) outer P w H s Q E) s
theorem FnG.mono {P : Program} {w : World} {K : PySem.W.Frag} {mg : Str → Option Value} {base : Heap} {j k : Nat} {f : Addr} {fd : FuncData} {ps : List Str} {sp : Sp} (F : FnG P w K mg base j f fd ps sp) (h : j ≤ k) : FnG P w K mg base k f fd ps sp :=
  ⟨F.len, fun A outer s H args us vs Q E hg hr => F.run A outer s H args us vs Q E hg (hr.mono h)⟩
section
variable {X : Cx} {k : Nat} {f : Addr} {fd : FuncData} {ps : List Str} {W : WX} {pin : List Nat} {x : Str} {p pos : Pos} {e : Expr} {es : List Expr} {n : Nat} {F : List Sl → FR} {g : List Sl → Rs (List Ar)} {ds : List Value} {dd : List PyData}
/-- a call of it, by values -/
theorem run_G (G : FnG X.prog X.w X.K X.mg X.base k f fd ps (spF X.K X.mg n F)) (hr : Room k X.A) (hgd : X.A.guards = some []) {pins : List (Addr × Obj)} {σ : L2.St} {H : Hp} {s : Shared} {Q : VK} {us : List Value} {vs dvs : List V} (hx : PassesAt (L2.CX X.prog X.w) X σ (WE W σ))
    (hb : Binds X.K fd ps ds) (hd : Vals dvs ds) (I : Inv X pins σ H s) (r : Vals vs us) (h : spF X.K X.mg n F (vs ++ dvs) H Q (WE W σ)) : wpAny (model X.prog X.w) X.A (call (.ref f) us) (EP X pins σ Q) X.xe s := by
  have r2 := r.append hd
  have hl : (us ++ ds).length = ps.length := r2.length.symm.trans (G.len _ _ _ _ h)
  have go := G.run X.A X.stack s H ⟨us, []⟩ (us ++ ds) (vs ++ dvs) Q (WE W σ) hgd hr I.env0 (hb s us I.kIn hl) r2 h
  refine wpAny_call (codeAny_mono go fun res s' hq => ?_)
  match res, hq with
  | .error err, hq => exact hx pins H s err s' I hq
  | .ok (.ret u), hq => exact I.after hq
theorem arOk_dfl {K : PySem.W.Frag} {b : Bk} {Fz : Hp} {F : Nat → List Addr} {H : Hp} {σ : L2.St} {vs : List V} {ars : List Ar} {G : Nat → List Addr} (A : ArOk K b Fz F H σ vs ars G) {dvs : List V} (h : RpL K Fz dvs dd) :
    ArOk K b Fz F H σ (vs ++ dvs) (ars ++ dd.map .fz) (fun j => if j < ars.length then G j else []) := by
  refine ⟨by simp [A.len, h.len], fun j a e => ?_, fun j => ?_, fun i j a h1 h2 => ?_, fun j a h1 => ?_⟩
  · by_cases c : j < ars.length
    · rw [List.getElem?_append_left c] at e
      obtain ⟨v, e1, e2⟩ := A.at_ j a e
      exact ⟨v, by rw [List.getElem?_append_left (by rw [A.len]; exact c)]; exact e1, by rw [if_pos c]; exact e2⟩
    · rw [List.getElem?_append_right (by omega), List.getElem?_map] at e
      cases q : dd[j - ars.length]? with
      | none => rw [q] at e; cases e
      | some d =>
        rw [q] at e
        cases e
        obtain ⟨v, e1, e2⟩ := h.get q
        exact ⟨v, by rw [List.getElem?_append_right (by rw [A.len]; omega), A.len]; exact e1, by rw [if_neg c], e2⟩
  · by_cases c : j < ars.length
    · rw [if_pos c]; exact A.nd j
    · rw [if_neg c]; exact List.nodup_nil
  · have h1 : a ∈ (if i < ars.length then G i else []) := h1
    have h2 : a ∈ (if j < ars.length then G j else []) := h2
    by_cases c : i < ars.length
    · by_cases c2 : j < ars.length
      · rw [if_pos c] at h1
        rw [if_pos c2] at h2
        exact A.dj i j a h1 h2
      · rw [if_neg c2] at h2; cases h2
    · rw [if_neg c] at h1; cases h1
  · have h1 : a ∈ (if j < ars.length then G j else []) := h1
    by_cases c : j < ars.length
    · rw [if_pos c] at h1; exact A.off j a h1
    · rw [if_neg c] at h1; cases h1
theorem rpl_flat {K : PySem.W.Frag} {H : Hp} : ∀ {dd : List PyData}, dd.all flatD = true → RpL K H (dd.map dV) dd
  | [], _ => .nil
  | d :: dd, h => by
    rw [List.all_cons, Bool.and_eq_true] at h
    exact .cons (rp_flat h.1) (rpl_flat h.2)
theorem call_rd {K : PySem.W.Frag} {mg : Str → Option Value} {W : WX} (hflat : dd.all flatD = true) (hlen : ∀ δ ars δ', g δ = .ok ars δ' → ars.length + dd.length = n) : ∀ σ H Q, rdE K mg W pin (sCall F dd g) σ H Q → rdAr K mg W pin g σ H fun vs H1 => spF K mg n F (vs ++ dd.map dV) H1 Q (WE W σ) := fun σ H Q ⟨b, Fz, Ff, δ, hp, R, P⟩ => by
  refine ⟨b, Fz, Ff, δ, hp, R, ?_⟩
  unfold sCall at P
  cases q : g δ with
  | bad => rw [q] at P; exact P
  | er x δ' => rw [q] at P; exact P
  | ok ars δ' =>
    rw [q] at P
    intro vs H' Fz' F' G s R' A
    have A' := arOk_dfl (dd := dd) A (rpl_flat hflat)
    have h := call_ok (mg := mg) (W := W) (f := F) R' A' (Post.le s P)
    have e : (ars ++ dd.map Ar.fz).length = n := by
      rw [List.length_append, List.length_map]
      exact hlen _ _ _ q
    rw [e] at h
    exact h
theorem se_call (G : FnG X.prog X.w X.K X.mg X.base k f fd ps (spF X.K X.mg n F)) (hr : Room k X.A) (hgd : X.A.guards = some []) (hx : ∀ σ, PassesAt (L2.CX X.prog X.w) X σ (WE W σ)) (hg : Gl X x) (hm : X.mg x = some (.ref f)) (hk : PySem.W.keepIn X.K (.ref f) = true)
    (hb : Binds X.K fd ps ds) (hd : Vals (dd.map dV) ds) (hflat : dd.all flatD = true) (ha : SAr X W pin (e :: es) g) (hlen : ∀ δ ars δ', g δ = .ok ars δ' → ars.length + dd.length = n)
    (hdb : (x == ("__debug__" : Str)) = false := by decide) (he : starEach (e :: es) X.env = (false, eval e X.env) :: starEach es X.env := by rfl) (hpl : (backTo pos (starEach es X.env)).any (·.1) = false := by rfl) :
    SE X W pin (.Call (.Name x p) (e :: es) [] pos) (sCall F dd g) := by
  refine ⟨fun pins s σ H Q I h => wpAny_Call_Name_kw (ld_glob I hg hm ?_ hdb)⟩
  have h2 := call_rd (n := n) hflat hlen σ H Q h
  refine PySem.W.callWith_K (h₀ := X.base) I.ok.mod.kin hk (thn (ha.run pos pins s σ H _ I h2) fun us s1 q => ?_) he hpl
  obtain ⟨vs, H1, I1, r, q⟩ := q
  exact ⟨I1.kIn, run_G G hr hgd (hx σ) hb hd I1 r q⟩
theorem se_call0 (G : FnG X.prog X.w X.K X.mg X.base k f fd ps (spF X.K X.mg n F)) (hr : Room k X.A) (hgd : X.A.guards = some []) (hx : ∀ σ, PassesAt (L2.CX X.prog X.w) X σ (WE W σ)) (hg : Gl X x) (hm : X.mg x = some (.ref f)) (hk : PySem.W.keepIn X.K (.ref f) = true)
    (hb : Binds X.K fd ps ds) (hd : Vals (dd.map dV) ds) (hflat : dd.all flatD = true) (hlen : dd.length = n) (hdb : (x == ("__debug__" : Str)) = false := by decide) :
    SE X W pin (.Call (.Name x p) [] [] pos) (sCall F dd rNil) := by
  refine ⟨fun pins s σ H Q I h => wpAny_Call_Name_kw (ld_glob I hg hm ?_ hdb)⟩
  have h2 := call_rd (n := n) (g := rNil) hflat (fun δ ars δ' e => by cases e; simpa using hlen) σ H Q h
  obtain ⟨b, Fz, Ff, δ, hp, R, P⟩ := h2
  have q := P [] H Fz Ff _ (Same.refl _) R arOk_nil
  exact PySem.W.callWith_K0 I.kIn hk (run_G (us := []) G hr hgd (hx σ) hb hd I .nil q)
theorem len_rNil : ∀ δ ars δ', rNil δ = .ok ars δ' → ars.length = 0 := fun _ _ _ e => by cases e; rfl
theorem len_rCons {f : List Sl → Rs AV} {m : Nat} (h : ∀ δ ars δ', g δ = .ok ars δ' → ars.length = m) : ∀ δ ars δ', rCons f g δ = .ok ars δ' → ars.length = m + 1 := fun δ ars δ' e => by
  unfold rCons at e
  cases q : f δ with
  | bad => rw [q] at e; cases e
  | er x d => rw [q] at e; cases e
  | ok a δ1 =>
    rw [q] at e
    have e : (match arOf a with
      | some r => (g δ1).bind fun rs δ2 => .ok (r :: rs) δ2
      | none => .bad) = Rs.ok ars δ' := e
    cases q2 : arOf a with
    | none => simp only [q2] at e; cases e
    | some r =>
      simp only [q2] at e
      cases q3 : g δ1 with
      | bad => rw [q3] at e; cases e
      | er x d => rw [q3] at e; cases e
      | ok rs δ2 =>
        rw [q3] at e
        cases e
        simp [h _ _ _ q3]
theorem len_rIo {j m : Nat} (h : ∀ δ ars δ', g δ = .ok ars δ' → ars.length = m) : ∀ δ ars δ', rIo j g δ = .ok ars δ' → ars.length = m + 1 := fun δ ars δ' e => by
  unfold rIo at e
  cases q : sVar j δ with
  | bad => rw [q] at e; cases e
  | er x d => rw [q] at e; cases e
  | ok a δ1 =>
    rw [q] at e
    have e : ((g δ1).bind fun rs δ2 => Rs.ok (Ar.io j :: rs) δ2) = Rs.ok ars δ' := e
    cases q3 : g δ1 with
    | bad => rw [q3] at e; cases e
    | er x d => rw [q3] at e; cases e
    | ok rs δ2 =>
      rw [q3] at e
      cases e
      simp [h _ _ _ q3]
end
end Hb

namespace Hb
open PySem PySem.Spec PyProof.Rows L2

/-! ### a def by its body -/
def outs (n : Nat) (pin : List Nat) (δ : List Sl) : List Sl := (List.range n).map fun i => if i ∈ pin then noAl ((δ[i]?).getD .no) else .no
def fnRun (n m : Nat) (pin : List Nat) (body : List Sl → Ot) : List Sl → FR := fun δ => match body (δ ++ List.replicate (m - n) .no) with
  | .nx δ' => .ok (.fz .none) (outs n pin δ')
  | .rt s δ' => .ok s (outs n pin δ')
  | .er x δ' => .er x (outs n pin δ')
  | _ => .bad
def oF (pin : List Nat) (n : Nat) (F : Nat → List Addr) : Nat → List Addr := fun i => if i < n ∧ i ∈ pin then F i else []
theorem no_al {s : Sl} {x j : Nat} : noAl s ≠ .al x j := by cases s <;> simp [noAl]
theorem start_get {N : List Str} {vs : List V} {i : Nat} (h : i < vs.length) : (L2.start N vs)[i]? = (vs.map some)[i]? := by
  unfold L2.start
  rw [List.getElem?_append_left (by simpa using h)]
section
variable {K : PySem.W.Frag} {mg : Str → Option Value} {b : Bk} {Fz : Hp} {F : Nat → List Addr} {δ : List Sl} {H : Hp} {vs : List V} {N : List Str} {pin : List Nat}
theorem rl_in (R : Rl K b Fz F δ (vs.map some) H) (hN : vs.length ≤ N.length) : Rl K ⟨b.B, b.F0, pin, L2.start N vs⟩ Fz (fun i => if i < vs.length then F i else []) (δ ++ List.replicate (N.length - vs.length) .no) (L2.start N vs) H := by
  have hl : δ.length = vs.length := by have := R.len; simpa using this.symm
  refine ⟨R.le, R.base, ?_, fun i s e => ?_, fun i => ?_, fun i j a h1 h2 => ?_, fun i a h => ?_, fun i a h => ?_, fun i a h => ?_, R.keep, R.f0, fun _ _ => rfl, fun i x j e => ?_⟩
  · unfold L2.start
    simp [hl]
  · by_cases c : i < vs.length
    · rw [List.getElem?_append_left (by omega)] at e
      rw [start_get c, if_pos c]
      have h := R.slot i s e
      cases s with
      | al x j =>
        obtain ⟨h1, a, b', ws, h2, h3⟩ := h
        refine ⟨h1, a, b', ws, ?_, h3⟩
        have hx : x < vs.length := by
          by_cases q : x < vs.length
          · exact q
          · rw [List.getElem?_eq_none (by simpa using q)] at h2
            cases h2
        rw [start_get hx]
        exact h2
      | no => exact h
      | fz d => exact h
      | ol xs => exact h
      | od kvs => exact h
    · rw [List.getElem?_append_right (by omega), List.getElem?_replicate] at e
      split at e
      · cases e
        exact if_neg c
      · cases e
  · by_cases c : i < vs.length
    · rw [if_pos c]; exact R.nd i
    · rw [if_neg c]; exact List.nodup_nil
  · have h1 : a ∈ (if i < vs.length then F i else []) := h1
    have h2 : a ∈ (if j < vs.length then F j else []) := h2
    by_cases c : i < vs.length
    · by_cases c2 : j < vs.length
      · rw [if_pos c] at h1
        rw [if_pos c2] at h2
        exact R.dj i j a h1 h2
      · rw [if_neg c2] at h2; cases h2
    · rw [if_neg c] at h1; cases h1
  · have h : a ∈ (if i < vs.length then F i else []) := h
    by_cases c : i < vs.length
    · rw [if_pos c] at h; exact R.offF i a h
    · rw [if_neg c] at h; cases h
  · have h : a ∈ (if i < vs.length then F i else []) := h
    by_cases c : i < vs.length
    · rw [if_pos c] at h; exact R.offB i a h
    · rw [if_neg c] at h; cases h
  · have h : a ∈ (if i < vs.length then F i else []) := h
    by_cases c : i < vs.length
    · rw [if_pos c] at h; exact R.on i a h
    · rw [if_neg c] at h; cases h
  · by_cases c : i < δ.length
    · rw [List.getElem?_append_left c] at e
      obtain ⟨xs, hx⟩ := R.als i x j e
      exact ⟨xs, by rw [List.getElem?_append_left (List.getElem?_eq_some_iff.mp hx).1]; exact hx⟩
    · rw [List.getElem?_append_right (by omega), List.getElem?_replicate] at e
      split at e <;> cases e
theorem rl_out {Fz0 : Hp} {F0 : Nat → List Addr} {δ0 : List Sl} {H0 : Hp} (R0 : Rl K b Fz0 F0 δ0 (vs.map some) H0) {σ : L2.St} (R : Rl K ⟨b.B, b.F0, pin, L2.start N vs⟩ Fz F δ σ H) : Rl K b Fz (oF pin vs.length F) (outs vs.length pin δ) (vs.map some) H := by
  have inF : ∀ i a, a ∈ oF pin vs.length F i → i < vs.length ∧ i ∈ pin ∧ a ∈ F i := fun i a h => by
    unfold oF at h
    by_cases c : i < vs.length ∧ i ∈ pin
    · rw [if_pos c] at h
      exact ⟨c.1, c.2, h⟩
    · rw [if_neg c] at h
      cases h
  have gt : ∀ i, i < vs.length → (outs vs.length pin δ)[i]? = some (if i ∈ pin then noAl ((δ[i]?).getD .no) else .no) := fun i h => by
    unfold outs
    rw [List.getElem?_map, List.getElem?_range h]
    rfl
  refine ⟨R.le, R.base, by simp [outs], fun i s e => ?_, fun i => ?_, fun i j a h1 h2 => R.dj i j a (inF i a h1).2.2 (inF j a h2).2.2, fun i a h => R.offF i a (inF i a h).2.2, fun i a h => R.offB i a (inF i a h).2.2, fun i a h => R.on i a (inF i a h).2.2, R.keep, R.f0, R0.pin, fun i x j e => ?_⟩
  · have hi : i < vs.length := by
      have := (List.getElem?_eq_some_iff.mp e).1
      simpa [outs] using this
    rw [gt i hi] at e
    cases e
    unfold oF
    by_cases c : i ∈ pin
    · rw [if_pos c, if_pos ⟨hi, c⟩]
      have hp : σ[i]? = (L2.start N vs)[i]? := R.pin i c
      rw [start_get hi] at hp
      rw [← hp]
      cases q : δ[i]? with
      | none =>
        exfalso
        have h1 : i < σ.length := by
          have : σ[i]? = some (some vs[i]) := by rw [hp, List.getElem?_map, List.getElem?_eq_getElem hi]; rfl
          exact (List.getElem?_eq_some_iff.mp this).1
        rw [R.len] at h1
        rw [List.getElem?_eq_getElem h1] at q
        cases q
      | some t => exact noAl_ok (R.slot i t q)
    · rw [if_neg c, if_neg (fun z => c z.2)]
      rfl
  · unfold oF
    by_cases c : i < vs.length ∧ i ∈ pin
    · rw [if_pos c]; exact R.nd i
    · rw [if_neg c]; exact List.nodup_nil
  · have hi : i < vs.length := by
      have := (List.getElem?_eq_some_iff.mp e).1
      simpa [outs] using this
    rw [gt i hi] at e
    by_cases c : i ∈ pin
    · rw [if_pos c] at e
      exact absurd (Option.some.inj e) no_al
    · rw [if_neg c] at e
      cases e
theorem av_out {σ : L2.St} {v : V} {s : Sl} {n : Nat} (A : AvR K b Fz F H σ v (.tmp s)) : AvR K b Fz (oF pin n F) H (vs.map some) v (.tmp s) := by
  obtain ⟨h1, g, h2, h3, h4⟩ := A
  refine ⟨h1, g, h2, h3, fun a ha => ⟨(h4 a ha).1, (h4 a ha).2.1, (h4 a ha).2.2.1, fun i hi => ?_⟩⟩
  unfold oF at hi
  by_cases c : i < n ∧ i ∈ pin
  · rw [if_pos c] at hi
    exact (h4 a ha).2.2.2 i hi
  · rw [if_neg c] at hi
    cases hi
end
theorem body_ok {K : PySem.W.Frag} {mg : Str → Option Value} {N : List Str} {vs : List V} {H : Hp} {Q : VK} {E : XK} {n : Nat} {pin : List Nat} {body : List Sl → Ot} (hN : n ≤ N.length) (h : spF K mg n (fnRun n N.length pin body) vs H Q E) :
    rdS K mg (fun cls d _ H => E cls d H) pin body { nx := fun _ H' => Q .non H', rt := Q } (L2.start N vs) H := by
  obtain ⟨hl, b, Fz, F, δ, R, P⟩ := h
  subst hl
  refine ⟨_, Fz, _, _, rfl, rl_in (pin := pin) R hN, ?_⟩
  unfold fnRun at P
  cases q : body (δ ++ List.replicate (N.length - vs.length) .no) with
  | bad => rw [q] at P; exact P
  | bk δ' => rw [q] at P; exact P.elim
  | ct δ' => rw [q] at P; exact P.elim
  | nx δ' =>
    rw [q] at P
    exact fun σ' H' Fz' F' s R' => P .non H' Fz' _ s (rl_out R R') ⟨rfl, [], ⟨rfl, _, rfl, .non⟩, List.nodup_nil, fun _ z => nomatch z⟩
  | rt t δ' =>
    rw [q] at P
    exact fun v σ' H' Fz' F' s R' A => P v H' Fz' _ s (rl_out R R') (av_out (b := b) (σ := σ') A)
  | er x δ' =>
    rw [q] at P
    exact fun c dd σ' H' Fz' F' s R' e => P c dd H' Fz' _ s (rl_out R R') e
/-- the context of a def's body -/
abbrev GX (P : Program) (w : World) (K : PySem.W.Frag) (mg : Str → Option Value) (base : Heap) (N : List Str) (qual : Str) (scope : Scope) (f : Addr) (cd : Value) (A : Around) (outer : List Env) (s : Shared) (H : Hp) (E : XK) : Cx := cxOf (L2.CX P w) P w K mg base N qual scope f cd A outer s H E
abbrev GW (E : XK) : WX := fun cls d _ H => E cls d H
theorem fnG_of {P : Program} {w : World} {K : PySem.W.Frag} {mg : Str → Option Value} {base : Heap} {k : Nat} {f : Addr} {name qual : Str} {params : Arguments} {body : List Stmt} {scope : Scope} {dV kV doc pm cdv ct oc : Value} {an od : Option Addr}
    {osl : Array (Option Value)} {N ps : List Str} {n : Nat} {pin : List Nat} {fb : List Sl → Ot} (lk : K.lookup f = some ⟨oc, od, .func (PySem.W.fnOf name qual params body scope dV kV doc pm an cdv ct), osl⟩) (hcd : PySem.W.codeIn K cdv qual = true) (S : FnScope N ps scope)
    (hn : ps.length = n)
    (hbody : ∀ (A : Around) (outer : List Env) (s : Shared) (H : Hp) (E : XK), Room k (A.deeper (envOfC qual scope s.heap.objs.size f cdv)) → A.guards = some [] →
      SSs (GX P w K mg base N qual scope f cdv A outer s H E) (GW E) pin body fb) :
    FnG P w K mg base (k + 1) f (PySem.W.fnOf name qual params body scope dV kV doc pm an cdv ct) ps (spF K mg n (fnRun n N.length pin fb)) := by
  have hpl : n ≤ N.length := by have := congrArg List.length S.pre; rw [List.length_take] at this; omega
  refine ⟨fun vs H Q E h => h.1.trans hn.symm, fun A outer s H args us vs Q E hgd hr e0 hb r hsp => ?_⟩
  have hl : vs.length = ps.length := hsp.1.trans hn.symm
  have KX : K.In s.heap := e0.mod.kin.keeps fun b o e => (e0.bs b o e).1
  have lim : s.heap.NoLimit := e0.mod.nolimit.keeps fun b o e => (e0.bs b o e).1
  have hkind : ∀ y ∈ ps.zip us, scope.names.lookup y.1 = some .local ∨ (scope.names.lookup y.1 = some .cell ∧ ((cellsFrom (s.heap.objs.size + 1) scope.names []).lookup y.1).isSome = true) := fun ⟨n, v⟩ hy => by
    rcases S.par n (List.of_mem_zip hy).1 with q | q
    · exact .inl q
    · exact .inr ⟨q, PySem.W.cellsFrom_some _ _ _ (.inl q)⟩
  refine codeAny_call_function hr.depth (KX _ _ lk) rfl S.co S.gen rfl (PySem.W.codeRec_of KX hcd) (hb _ _ _ _ ?_)
  refine wpAny_newFunctionEnv_cells S.kind hkind fun env he s1 x => ?_
  subst he
  refine ⟨lim.keeps x.toInCall.keep, codeAny_func ?_⟩
  have ht := hbody A outer s H E (hr.deeper _) hgd
  have hq := body_ok hpl hsp
  have I : Inv (GX P w K mg base N qual scope f cdv A outer s H E) [] (L2.start N vs) H s1 := inv_start S hr.hd e0 hl r x
  refine wpAny_mono (ht.run [] s1 (L2.start N vs) H _ I hq) (fun fl s' hs => ?_) fun e s' hs => hs
  have fin : ∀ {σ' : L2.St} {H' : Hp} {v : V} {u : Value}, Inv (GX P w K mg base N qual scope f cdv A outer s H E) [] σ' H' s' → RelV v u → Q v H' → CE outer P w H s Q u s' :=
    fun {σ' H' v u} J rv q => ⟨v, H', J.os, J.bare, J.base, J.hok, rv, q⟩
  cases fl with
  | ret u =>
    obtain ⟨v, σ', H', J, rv, q⟩ := hs
    exact fin J rv q
  | next =>
    obtain ⟨σ', H', J, q⟩ := hs
    exact fin (v := V.non) (u := Value.none) J rfl q
  | brk =>
    obtain ⟨_, _, _, q⟩ := hs
    exact False.elim q
  | cont =>
    obtain ⟨_, _, _, q⟩ := hs
    exact False.elim q
theorem gx_pass {P : Program} {w : World} {K : PySem.W.Frag} {mg : Str → Option Value} {base : Heap} {N : List Str} {qual : Str} {scope : Scope} {f : Addr} {cd : Value} {A : Around} {outer : List Env} {s : Shared} {H : Hp} {E : XK} :
    ∀ σ, PassesAt (L2.CX P w) (GX P w K mg base N qual scope f cd A outer s H E) σ (WE (GW E) σ) := passAt (X := GX P w K mg base N qual scope f cd A outer s H E) (W := GW E) (takes_of rfl rfl rfl rfl)
theorem w0_pass {X : Cx} {P : Program} {w : World} : ∀ σ, PassesAt (L2.CX P w) X σ (WE W0 σ) := fun σ pins H s e s' I h => by
  obtain ⟨_, _, _, _, _, _, _, _, _, _, _, _, z⟩ := h
  exact z.elim
/-! ### the law's end -/
theorem sp_law {K : PySem.W.Frag} {mg : Str → Option Value} {F : List Sl → FR} {H : Hp} {a : Addr} {ns : List Int} {δ : List Sl} (hX : SqX K H a (ns.map V.int)) (h : F [.fz (.list (ns.map PyData.int))] = .ok (.fz (.bool true)) δ) :
    spF K mg 1 F [.ref a] H (fun v _ => v = .bl true) fun _ _ _ => False := by
  have rL : ∀ ns : List Int, RpL K H (ns.map V.int) (ns.map PyData.int) := fun ns => by
    induction ns with
    | nil => exact .nil
    | cons n r ih => exact .cons (.int n) ih
  refine ⟨rfl, ⟨H, H, [], []⟩, H, fun _ => [], [.fz (.list (ns.map PyData.int))], ⟨Same.refl _, Same.refl _, rfl, fun i s e => ?_, fun _ => List.nodup_nil, fun _ _ _ z => (nomatch z), fun _ _ z => (nomatch z), fun _ _ z => (nomatch z), fun _ _ z => (nomatch z), fun _ _ => rfl, fun _ h => h, fun _ z => (nomatch z), fun i x j e => ?_⟩, ?_⟩
  · cases i with
    | zero =>
      cases e
      exact ⟨rfl, _, rfl, .lst hX (rL ns)⟩
    | succ i => cases e
  · cases i with
    | zero => cases e
    | succ i => cases e
  · rw [h]
    intro v H' Fz' F' s R A
    obtain ⟨_, g, ⟨_, v', e, r⟩, _⟩ := A
    cases e
    cases r
    rfl
/-- the head's end: the law is called over a ground that shows nothing but the script -/
theorem lawG {P : Program} {w : World} {K : PySem.W.Frag} {mg mb : Str → Option Value} {k : Nat} {fa a : Addr} {fd : FuncData} {x : Str} {sp : Sp} {s₁ : Shared} {vs : List Value} {ns : List Int}
    (KX : K.In s₁.heap) (hns : s₁.heap.Ns mainGlobals mg) (hb : s₁.heap.Ns builtinsNs mb) (hbb : ∀ x : Str, x ≠ "__name__" → mb x = bootBuiltins x) (hlim : s₁.heap.NoLimit) (hg : s₁.gens = #[])
    (ha : s₁.heap.get? a = some { cls := .type "list", data := .seq vs.toArray }) (hi : IntsAre vs ns) (hl : ns.length ≤ sizeLine) (hr : Room k callerA)
    (FF : ∀ bs : Heap, K.In bs → bs.Ns mainGlobals mg → FnG P w K mg bs k fa fd [x] sp) (hbind : ∀ (s : Shared) (u : Value), BindsTo s fd ⟨[u], []⟩ [(x, u)])
    (hsp : ∀ H : Hp, SqX K H a (ns.map V.int) → sp [.ref a] H (fun v _ => v = .bl true) fun _ _ _ => False) :
    codeAny (model P w) callerA (.call (.ref fa) ⟨[.ref a], []⟩) (fun r s' => r = .ok (.ret (.bool true)) ∧ OldK s₁.heap s'.heap ∧ s'.os = s₁.os ∧ AllBare s'.gens) s₁ := by
  have rv := vals_ints hi
  have nv := hi.length
  have main : ∀ G : Hp, Only G → SqX K G a (ns.map V.int) → HOk P w G s₁.heap → (∀ c, G c ≠ none → c = a) → (G a ≠ none → K.lookup a = none) →
      codeAny (model P w) callerA (.call (.ref fa) ⟨[.ref a], []⟩) (fun r s' => r = .ok (.ret (.bool true)) ∧ OldK s₁.heap s'.heap ∧ s'.os = s₁.os ∧ AllBare s'.gens) s₁ := by
    intro G gO gS gok gA gK
    have at_a : ∀ {c : Addr} {u : HO}, G c = some u → c = a := fun {c u} e => gA c (by rw [e]; simp)
    have free : ∀ {c : Addr} {o : Obj} {es : Array DictEntry} {ep : Nat}, s₁.heap.get? c = some o → o.data = .dict es ep → G c = none := fun {c o es ep} e d => by
      cases q : G c with
      | none => rfl
      | some u =>
        have e2 := at_a q
        subst e2
        rw [ha] at e
        cases e
        exact absurd d (by intro z; cases z)
    have names : ∀ {c : Addr} {m : Str → Option Value}, s₁.heap.Ns c m → (hidT s₁.heap G).Ns c m := fun {c m} ⟨o, es, ep, e, d, r⟩ => ⟨o, es, ep, hidT_get e (free e d), d, r⟩
    have kin : K.In (hidT s₁.heap G) := fun c o e => hidT_get (KX c o e) (by
      cases q : G c with
      | none => rfl
      | some u =>
        have e2 := at_a q
        subst e2
        rw [gK (by rw [q]; simp)] at e
        cases e)
    have md : Mod K mg (hidT s₁.heap G) := ⟨kin, names hns, ⟨mb, names hb, hbb⟩, let ⟨mc, h1, h2⟩ := hlim; ⟨mc, names h1, h2⟩⟩
    have e0 : Env0 P w K mg (hidT s₁.heap G) callerA [] s₁ G := ⟨rfl, md, fun c o e => of_hidT e, Nat.le_of_eq (hidT_size _ _), trivial, fun c z => absurd (show c ∈ ([] : List Addr) from z) (by simp), gok, .of_eq hg⟩
    refine codeAny_mono ((FF _ kin (names hns)).run callerA [] s₁ G ⟨[.ref a], []⟩ [.ref a] [.ref a] _ _ rfl hr e0 (hbind s₁ (.ref a)) (.cons rfl .nil) (hsp G gS)) fun r s' h => ?_
    cases r with
    | error e =>
      obtain ⟨_, _, _, _, _, _, _, _, _, _, _, _, z⟩ := h
      exact z.elim
    | ok fl =>
      cases fl with
      | next => exact False.elim h
      | brk => exact False.elim h
      | cont => exact False.elim h
      | ret u =>
        obtain ⟨v, G2, os, bare, un, ok2, r2, q⟩ := h
        have q : v = .bl true := q
        subst q
        obtain rfl : u = Value.bool true := r2
        refine ⟨rfl, OldK.of_keep fun c o e => ?_, os, bare⟩
        cases q2 : G c with
        | none => exact un.keep c o e q2 (fun z => absurd (show c ∈ ([] : List Addr) from z) (by simp)) (by simp)
        | some u =>
          rcases gO c with z | ⟨oc, xs, z⟩
          · rw [q2] at z; cases z
          · obtain ⟨e1, _⟩ := gok c _ z
            obtain ⟨e2, _⟩ := ok2 c _ (un.frzs c oc _ z)
            rw [e] at e1
            cases e1
            exact e2
  cases hk : K.lookup a with
  | some o =>
    have e := KX a o hk
    rw [ha] at e
    cases e
    exact main (fun _ => none) (fun _ => .inl rfl) (.inr ⟨vs, 0, hk, by rw [nv]; exact hl, rv⟩) (fun c u z => nomatch z) (fun c z => absurd rfl z) fun z => absurd rfl z
  | none =>
    refine main (fun c => if c = a then some (.frz { cls := .type "list", data := .seq vs.toArray } (.lst (ns.map V.int))) else none) (fun c => ?_) (.inl (.inr ⟨_, if_pos rfl⟩)) (fun c u z => ?_) (fun c z => ?_) fun _ => hk
    · by_cases hc : c = a
      · exact .inr ⟨_, _, if_pos hc⟩
      · exact .inl (if_neg hc)
    · by_cases hc : c = a
      · have z2 := (if_pos hc).symm.trans z
        cases z2
        subst hc
        exact ⟨ha, by rw [List.length_map]; exact hl, vs, _, rv, ha⟩
      · have z2 := (if_neg hc).symm.trans z
        cases z2
    · by_cases hc : c = a
      · exact hc
      · exact absurd (if_neg hc) z
theorem walkG {l : PySem.W.OpenLaw} {n k : Nat} {q : Program} {loose : List Str} {XP : (Str → Option Value) → Heap → Prop} {YP : World → Heap → Prop} {d : DefRec} {x : Str}
    (hn : l.most = some n) (hn2 : n ≤ sizeLine) (hdf : d.params.defaults = []) (hr : Room k callerA)
    (FF : ∀ (w : World) (mg : Str → Option Value) (fa : Addr) (h : Heap), YP w h → h.Ns mainGlobals mg → mg d.name = some (.ref fa) →
      ∃ (K : PySem.W.Frag) (fd : FuncData) (sp : Sp), K.In h ∧ (∀ (s : Shared) (u : Value), BindsTo s fd ⟨[u], []⟩ [(x, u)]) ∧
        (∀ (H : Hp) (a : Addr) (ns : List Int), ns.length ≤ n → SqX K H a (ns.map V.int) → sp [.ref a] H (fun v _ => v = .bl true) fun _ _ _ => False) ∧
        ∀ bs : Heap, K.In bs → bs.Ns mainGlobals mg → FnG l.prog w K mg bs k fa fd [x] sp) :
    PySem.W.WalkO q loose XP YP l.row.toRowW d [] (fun f vs => PySem.call f vs) := by
  refine Att.attach_call hn hdf fun w s₀ s₁ mg mb fa o pm cd doc a vs ns G Y ho hd hcd hmg hobj hints hlen hg => ?_
  obtain ⟨K, fd, sp, KX, hb, hsp, hF⟩ := FF w mg fa _ Y G.T.g hmg
  exact lawG KX G.T.g G.T.b G.T.builtins G.T.nolimit hg hobj hints (Nat.le_trans hlen hn2) hr hF hb fun H hS => hsp H a ns hlen hS
end Hb

namespace Hb
open PySem PySem.Spec PyProof.Rows L2

/-! ### the text of a tree -/
mutual
def shw : PyData → Bool
  | .none => true
  | .bool _ => true
  | .str _ => true
  | .int i => decide (i.natAbs.log2 < 1920)
  | .list xs => shwAll xs
  | .tuple xs => shwAll xs
  | .dict kvs => kvs.isEmpty
def shwAll : List PyData → Bool
  | [] => true
  | x :: xs => shw x && shwAll xs
end
section
variable {X : Cx} {pins : List (Addr × Obj)} {σ : L2.St} {H : Hp} {s : Shared}
def RR (X : Cx) (h : Heap) (u : Value) (d : PyData) : Prop := ∃ bs as, Reads h u d as ∧ ReadAtMost h d.depth bs ∧ ReprK X.prog X.w bs h d.depth u d.shown
def RRs (X : Cx) (h : Heap) (us : List Value) (ds : List PyData) : Prop := ∃ bs as, ReadsAll h us ds as ∧ ReadAtMost h (PyData.depthAll ds) bs ∧ ReprAllK X.prog X.w bs h (PyData.depthAll ds) us (PyData.shownAll ds)
theorem rr_cons {h : Heap} {u : Value} {us : List Value} {d : PyData} {ds : List PyData} : RR X h u d → RRs X h us ds → RRs X h (u :: us) (d :: ds) := fun ⟨b1, a1, r1, m1, k1⟩ ⟨b2, a2, r2, m2, k2⟩ => by
  refine ⟨b1 ++ b2, _, .cons r1 r2, ?_, ?_⟩
  · simp only [PyData.depthAll]
    exact (m1.mono (Nat.le_max_left _ _)).append (m2.mono (Nat.le_max_right _ _))
  · simp only [PyData.depthAll, PyData.shownAll]
    exact .cons ((k1.more fun b hb => List.mem_append_left _ hb).level_le (Nat.le_max_left _ _)) (k2.more_le (fun b hb => List.mem_append_right _ hb) (Nat.le_max_right _ _))
theorem rr_leaf {h : Heap} {u : Value} {d : PyData} (r : Reads h u d []) (k : ReprIs X.prog X.w u d.shown) : RR X h u d := ⟨[], _, r, fun _ z => (nomatch z), .of_is k _ _ _⟩
theorem rr_list {h : Heap} {a : Addr} {its : List Value} {n : Nat} {ds : List PyData} (e : h.get? a = some { cls := .type "list", data := .seq its.toArray n }) : RRs X h its ds → RR X h (.ref a) (.list ds) := fun ⟨bs, as, r, m, k⟩ => by
  have rr : Reads h (.ref a) (.list ds) _ := .list e rfl rfl (by simpa using r)
  have na : a ∉ bs := not_mem_of_deeper rr (by simp only [PyData.depth]; omega) m
  refine ⟨a :: bs, _, rr, ReadAtMost.cons rr (by simp only [PyData.depth]; omega) m, ?_⟩
  simp only [PyData.depth, PyData.shown]
  cases its with
  | nil =>
    cases r
    simp only [PyData.shownAll, listText_nil]
    exact ReprK.listEmpty e rfl rfl
  | cons x l => exact ReprK.list e rfl rfl na (by simpa using k.length_eq) fun i y q => k.item i y (by simpa using q)
theorem rr_tup {h : Heap} {a : Addr} {o : Obj} {its : List Value} {n : Nat} {ds : List PyData} (e : h.get? a = some o) (hc : o.cls = .type "tuple") (hd : o.data = .seq its.toArray n) : RRs X h its ds → RR X h (.ref a) (.tuple ds) := fun ⟨bs, as, r, m, k⟩ => by
  have rr : Reads h (.ref a) (.tuple ds) _ := .tuple e hc hd (by simpa using r)
  have na : a ∉ bs := not_mem_of_deeper rr (by simp only [PyData.depth]; omega) m
  refine ⟨a :: bs, _, rr, ReadAtMost.cons rr (by simp only [PyData.depth]; omega) m, ?_⟩
  simp only [PyData.depth, PyData.shown]
  exact ReprK.tuple e hc hd na (by simpa using k)
theorem rr_dic {h : Heap} {a : Addr} {o : Obj} {n : Nat} (e : h.get? a = some o) (hc : o.cls = .type "dict") (hd : o.data = .dict #[] n) (hs : (a == sysModules) = false) : RR X h (.ref a) (.dict []) := by
  have rr : Reads h (.ref a) (.dict []) _ := .dict e hc hd (by simpa using ReadsAll.nil) (by simpa using ReadsAll.nil)
  have m : ReadAtMost h (PyData.depthKv []) [] := fun _ z => (nomatch z)
  refine ⟨a :: [], _, rr, ReadAtMost.cons rr (by simp only [PyData.depth]; omega) m, ?_⟩
  simp only [PyData.depth, PyData.shown]
  exact ReprK.dict e hc hd hs (by simp) (by simpa [PyData.shownKv] using ReprEntriesK.nil)
mutual
theorem rr_of (I : Inv X pins σ H s) : ∀ {v : V} {d : PyData} {u : Value}, Rp X.K H v d → RelV v u → shw d = true → d.shown.length ≤ sizeLine → RR X s.heap u d
  | _, _, _, .non, e, _, _ => by
    obtain rfl : _ = Value.none := e
    exact rr_leaf .none (by simp only [PyData.shown]; exact ReprIs.none)
  | _, _, _, .bl b, e, _, _ => by
    obtain rfl : _ = Value.bool b := e
    exact rr_leaf (.bool b) (by simp only [PyData.shown]; exact ReprIs.bool b)
  | _, _, _, .int i, e, hs, _ => by
    obtain ⟨t, rfl⟩ := e
    exact rr_leaf (.int i t) (by simp only [PyData.shown]; exact ReprIs.int t (by simpa [shw] using hs))
  | _, _, _, .str x, e, _, hz => by
    obtain ⟨t, rfl⟩ := e
    exact rr_leaf (.str x t) (by simp only [PyData.shown] at hz ⊢; exact ReprIs.str x t hz)
  | _, _, _, .lst (ds := ds) h1 h2, e, hs, hz => by
    obtain rfl : _ = Value.ref _ := e
    obtain ⟨its, n, r, e, _⟩ := inv_lstX I h1
    have hz' : (listText (PyData.shownAll ds)).length ≤ sizeLine := by simpa only [PyData.shown] using hz
    exact rr_list e (rrs_of I h2 r (by simpa [shw] using hs) fun t ht => Nat.le_trans (listText_mem_le ht) hz')
  | _, _, _, .tup (ds := ds) h1 h2, e, hs, hz => by
    obtain rfl : _ = Value.ref _ := e
    obtain ⟨its, r, ⟨o, e, hc, n, hd⟩, _⟩ := I.tuple h1
    have hz' : (tupleText (PyData.shownAll ds)).length ≤ sizeLine := by simpa only [PyData.shown] using hz
    exact rr_tup e hc hd (rrs_of I h2 r (by simpa [shw] using hs) fun t ht => Nat.le_trans (tupleText_mem_le ht) hz')
  | _, _, _, .dK h1 h2, e, hs, _ => by
    obtain rfl : _ = Value.ref _ := e
    cases h2 with
    | cons _ _ => simp [shw] at hs
    | nil =>
      obtain ⟨_, hy, vs, kv, o, es, ep, e, hx, hd, _, pr, _⟩ := I.hok _ _ h1
      cases kv
      have : es.toList = [] := by
        generalize es.toList = l at pr
        cases pr
        rfl
      have e2 : es = #[] := by simpa using this
      subst e2
      exact rr_dic e hx.1 hd hy
  | _, _, _, .dT h1 h2, e, hs, _ => by
    obtain rfl : _ = Value.ref _ := e
    cases h2 with
    | cons _ _ => simp [shw] at hs
    | nil =>
      obtain ⟨_, hy, xs, kv, o, es, ep, e, hx, hd, pr, _⟩ := I.hok _ _ h1
      cases kv
      have e2 : es = #[] := by simpa using pr
      subst e2
      exact rr_dic e hx.1 hd hy
theorem rrs_of (I : Inv X pins σ H s) : ∀ {vs : List V} {ds : List PyData} {us : List Value}, RpL X.K H vs ds → Vals vs us → shwAll ds = true → (∀ t ∈ PyData.shownAll ds, t.length ≤ sizeLine) → RRs X s.heap us ds
  | _, _, _, .nil, r, _, _ => by
    cases r
    exact ⟨[], _, .nil, fun _ z => (nomatch z), by simp only [PyData.shownAll]; exact .nil⟩
  | _, _, _, .cons (d := d) (ds := ds) h t, r, hs, hz => by
    cases r with
    | cons r1 r2 =>
      have hs2 : shw d = true ∧ shwAll ds = true := by simpa [shwAll] using hs
      exact rr_cons (rr_of I h r1 hs2.1 (hz _ (by simp only [PyData.shownAll]; exact List.mem_cons_self))) (rrs_of I t r2 hs2.2 fun t ht => hz _ (by simp only [PyData.shownAll]; exact List.mem_cons_of_mem _ ht))
end
/-- repr(v): no repr is running -/
def rRepr (K : PySem.W.Frag) : List V → Hp → VK → Prop := fun xs H Q => ∃ v d, xs = [v] ∧ Rp K H v d ∧ (shw d = true ∧ d.depth ≤ 60) ∧ d.shown.length ≤ sizeLine ∧ Q (.str d.shown) H
theorem call_reprT (hu : X.A.units + 64 < cLine) (hg : X.A.guards = some []) : CallR X (.builtin "repr") (rRepr X.K) := by
  intro pins s σ H xs us Q I r h
  obtain ⟨v, d, rfl, hr, ⟨hs, hd⟩, hz, q⟩ := h
  obtain ⟨u, rfl, rv⟩ := vals1 r
  have fin : ∀ h' tk tk2, (∀ b o, s.heap.get? b = some o → h'.get? b = some o) → EP X pins σ Q (.str d.shown tk) { s with heap := h', toks := tk2 } := fun h' tk tk2 k => ⟨.str d.shown, H, I.kept k, ⟨_, rfl⟩, q⟩
  cases hr with
  | non =>
    obtain rfl : _ = Value.none := rv
    exact PySem.P.repr_of_none (by simpa [PyData.shown] using fin s.heap _ _ fun _ _ e => e)
  | bl b =>
    obtain rfl : _ = Value.bool b := rv
    exact PySem.P.repr_of_bool (by simpa [PyData.shown] using fin s.heap _ _ fun _ _ e => e)
  | int i =>
    obtain ⟨t, rfl⟩ := rv
    exact PySem.P.repr_of_int (by simpa [shw] using hs) (by simpa [PyData.shown] using fin s.heap _ _ fun _ _ e => e)
  | str x =>
    obtain ⟨t, rfl⟩ := rv
    exact PySem.P.repr_of_str (by simpa [PyData.shown] using fin s.heap _ _ fun _ _ e => e) (by simpa [PyData.shown] using hz)
  | lst h1 h2 =>
    rename_i a xs ds
    obtain rfl : _ = Value.ref a := rv
    obtain ⟨its, n, r, e, _⟩ := inv_lstX I h1
    have hz' : (listText (PyData.shownAll ds)).length ≤ sizeLine := by simpa only [PyData.shown] using hz
    obtain ⟨bs, as, rs, m, k⟩ := rrs_of I h2 r (by simpa [shw] using hs) fun t ht => Nat.le_trans (listText_mem_le ht) hz'
    have rr : Reads s.heap (.ref a) (.list ds) _ := .list e rfl rfl (by simpa using rs)
    have na : a ∉ bs := not_mem_of_deeper rr (by simp only [PyData.depth]; omega) m
    simp only [PyData.depth] at hd
    simp only [PyData.shown] at fin
    refine call_repr_slot (T := "list") (by omega) ⟨_, e, rfl⟩ F.slot_list_repr.toG ?_
    cases its with
    | nil =>
      cases rs
      simp only [PyData.shownAll, listText_nil] at fin
      exact call_list_repr_empty ⟨_, e, rfl⟩ e rfl ⟨_, _, rfl, fin s.heap _ _ fun _ _ e => e⟩
    | cons x l =>
      exact call_list_reprK e rfl rfl na (by simpa using k.length_eq) (fun i y q => k.item i y (by simpa using q)) hg (fun b _ => Clear.nil b) (by show X.A.units + 1 + _ < cLine; omega) (fun _ _ e => e) (fun h' u tk kk => ⟨_, _, rfl, fin h' _ _ kk⟩) hz'
  | tup h1 h2 =>
    rename_i a xs ds
    obtain rfl : _ = Value.ref a := rv
    obtain ⟨its, r, ⟨o, e, hc, n, hdd⟩, _⟩ := I.tuple h1
    have hz' : (tupleText (PyData.shownAll ds)).length ≤ sizeLine := by simpa only [PyData.shown] using hz
    obtain ⟨bs, as, rs, m, k⟩ := rrs_of I h2 r (by simpa [shw] using hs) fun t ht => Nat.le_trans (tupleText_mem_le ht) hz'
    have rr : Reads s.heap (.ref a) (.tuple ds) _ := .tuple e hc hdd (by simpa using rs)
    have na : a ∉ bs := not_mem_of_deeper rr (by simp only [PyData.depth]; omega) m
    simp only [PyData.depth] at hd
    simp only [PyData.shown] at fin
    refine call_repr_slot (T := "tuple") (by omega) ⟨_, e, hc⟩ F.slot_tuple_repr ?_
    exact call_tuple_reprK e hc hdd na (by simpa using k) hg (fun b _ => Clear.nil b) (by show X.A.units + 1 + _ < cLine; omega) (fun _ _ e => e) (fun h' u tk kk => ⟨_, _, rfl, fin h' _ _ kk⟩) hz'
  | dK h1 h2 =>
    cases h2 with
    | cons _ _ => simp [shw] at hs
    | nil =>
      rename_i a
      obtain rfl : _ = Value.ref a := rv
      obtain ⟨_, hy, vs, kv, o, es, ep, e, hx, hdd, _, pr, _⟩ := I.hok _ _ h1
      cases kv
      have e1 : es.toList = [] := by
        generalize es.toList = l at pr
        cases pr
        rfl
      have e2 : es = #[] := by simpa using e1
      subst e2
      simp only [PyData.shown] at fin hz
      refine call_repr_slot (T := "dict") (by omega) ⟨_, e, hx.1⟩ F.slot_dict_repr ?_
      exact call_dict_reprK (as := []) (d := 0) e hx.1 hdd hy (by simp) .nil hg (fun b _ => Clear.nil b) (by show X.A.units + 1 + _ < cLine; omega) (fun _ _ e => e) (fun h' u tk kk => ⟨_, _, rfl, by simpa [PyData.shownKv] using fin h' _ _ kk⟩) (by simpa [PyData.shownKv] using hz)
  | dT h1 h2 =>
    cases h2 with
    | cons _ _ => simp [shw] at hs
    | nil =>
      rename_i a
      obtain rfl : _ = Value.ref a := rv
      obtain ⟨_, hy, xs, kv, o, es, ep, e, hx, hdd, pr, _⟩ := I.hok _ _ h1
      cases kv
      have e2 : es = #[] := by simpa using pr
      subst e2
      simp only [PyData.shown] at fin hz
      refine call_repr_slot (T := "dict") (by omega) ⟨_, e, hx.1⟩ F.slot_dict_repr ?_
      exact call_dict_reprK (as := []) (d := 0) e hx.1 hdd hy (by simp) .nil hg (fun b _ => Clear.nil b) (by show X.A.units + 1 + _ < cLine; omega) (fun _ _ e => e) (fun h' u tk kk => ⟨_, _, rfl, by simpa [PyData.shownKv] using fin h' _ _ kk⟩) (by simpa [PyData.shownKv] using hz)
def reprD (d : PyData) : Option PyData := if (shw d = true ∧ d.depth ≤ 60) ∧ d.shown.length ≤ sizeLine then some (.str d.shown) else none
theorem c1_repr {K : PySem.W.Frag} {mg : Str → Option Value} {W : WX} {pin : List Nat} : C1 K mg W pin (rRepr K) (gRd reprD) := c1_rd fun v d e H Q r k f q => by
  unfold reprD at k
  split at k
  · rename_i h
    cases k
    exact ⟨v, d, rfl, r, h.1, h.2, q⟩
  · cases k
end
end Hb

namespace Hb
open PySem PySem.Spec PyProof.Rows L2

/-! ### products -/
def rRepX (K : PySem.W.Frag) : R2 := fun x y H Q => ∃ l k xs, x = .ref l ∧ y = .int k ∧ SqX K H l xs ∧ -(2 ^ 63) ≤ k ∧ k < 2 ^ 63 ∧ xs.length * k.toNat ≤ sizeLine ∧
  ∀ p, H p = none → Q (.ref p) (upd H p (.lst (List.replicate k.toNat xs).flatten))
theorem op_repX {X : Cx} : OpR X (binaryOp .Mult) (rRepX X.K) := by
  intro pins s σ H x y v u Q I rx ry h
  obtain ⟨l, k, xs, rfl, rfl, hX, k1, k2, hz, q⟩ := h
  cases rx
  obtain ⟨t, rfl⟩ := ry
  obtain ⟨its, n, r, e, z⟩ := inv_lstX I hX
  have hl := r.length
  have hlen : its.toArray.size * k.toNat ≤ sizeLine := by rw [List.size_toArray, ← hl]; exact hz
  have line8 : (sizeLine : Nat) ≤ (2 ^ 63 - 1) / 8 := by decide
  have notcap : ¬ its.toArray.size * k.toNat > (2 ^ 63 - 1) / 8 := by omega
  have fit : ¬ (!Builtin.List.listFitsIndex k) = true := by
    rw [fitsIndex_both k1 k2]
    exact Bool.false_ne_true
  have notlong : ¬ Builtin.List.listTooLong (its.toArray.size * k.toNat) = true := by
    rw [notLongL hlen]
    exact Bool.false_ne_true
  have made : List.foldl (fun x1 x2 => x1 ++ x2) #[] (List.replicate (if its.toArray.isEmpty = true then 0 else k.toNat) its.toArray) = (List.replicate k.toNat its).flatten.toArray := by
    have f0 : ∀ m : Nat, List.foldl (fun x1 x2 => x1 ++ x2) #[] (List.replicate m its.toArray) = (List.replicate m its).flatten.toArray := fun m => by
      have g := foldl_rep its m []
      rwa [List.nil_append] at g
    rw [f0]
    cases its with
    | nil => simp
    | cons a r' => rw [if_neg (by simp)]
  refine wpAny_binaryOp_repeat_ref (T := "list") (U := "int") (by decide) ⟨_, e, rfl⟩ (fun s' => typeIs_int s' k t) noFill_list_mul F.fills_int_mul F.slot_int_rmul repeat_list F.slot_int_index.lookup
    (call_meets F.slot_int_rmul (typeIs_int s k t) F.entry_int_rmul (F.args_int_rmul_2 _ _) (int___rmul___int_list k t l its.toArray n)
      ⟨e, rfl, ⟨_, e, rfl⟩, call_meets F.slot_list_mul ⟨_, e, rfl⟩ F.entry_list_mul (F.args_list_mul_2 _ _) (AutoListH.list___mul___list_int_3 l its.toArray n k t fit notcap notlong) ⟨e, ?_⟩⟩)
  rw [made]
  exact ⟨.ref _, _, I.lnew (t' := s.toks) (r.rep k.toNat) (by rw [PyProof.Rows.lm_len_rep_flat, Nat.mul_comm]; exact hz), rfl, q _ I.fresh⟩
def rMulX (K : PySem.W.Frag) : R2 := fun x y H Q => (rI CMul (fun i j => .int (i * j)) x y H Q ∨ rI CMulW (fun i j => .int (i * j)) x y H Q) ∨ rRepX K x y H Q
theorem op_mulX2 {X : Cx} : OpR X (binaryOp .Mult) (rMulX X.K) := OpR.or (OpR.or op_mul op_mulW) op_repX
theorem RpL.rep {K : PySem.W.Frag} {H : Hp} {vs : List V} {ds : List PyData} (h : RpL K H vs ds) : ∀ k : Nat, RpL K H (List.replicate k vs).flatten (List.replicate k ds).flatten
  | 0 => .nil
  | k + 1 => by
    rw [List.replicate_succ, List.replicate_succ, List.flatten_cons, List.flatten_cons]
    exact h.append (RpL.rep h k)
theorem len_rep {α : Type} (xs : List α) (k : Nat) : (List.replicate k xs).flatten.length = xs.length * k := by
  rw [PyProof.Rows.lm_len_rep_flat, Nat.mul_comm]
def gMulX (x y : AV) (δ : List Sl) : Rs AV := match rdC δ x, rdC δ y with
  | some (.int i), some (.int j) => if i.natAbs < 2 ^ 64 ∨ j.natAbs < 2 ^ 64 then .ok (.val (.int (i * j))) δ else .bad
  | some (.list ds), some (.int k) => if ds.length ≤ 1000 ∧ 0 ≤ k ∧ k ≤ 1000 then .ok (.tmp (.ol ((List.replicate k.toNat ds).flatten.map .fz))) δ else .bad
  | _, _ => .bad
section
variable {K : PySem.W.Frag} {mg : Str → Option Value} {W : WX} {pin : List Nat}
theorem v2_mul : V2 K mg W pin (rMulX K) gMulX := by
  intro b Fz F δ σ H v w x y Q hp R A B P
  unfold gMulX at P
  cases q1 : rdC δ x with
  | none => simp only [q1] at P; exact P.elim
  | some d =>
    cases q2 : rdC δ y with
    | none => cases d <;> (simp only [q1, q2] at P; exact P.elim)
    | some e =>
      have h1 := rdC_ok R A q1
      have h2 := rdC_ok R B q2
      cases d with
      | int i =>
        cases e with
        | int j =>
          simp only [q1, q2] at P
          by_cases c : i.natAbs < 2 ^ 64 ∨ j.natAbs < 2 ^ 64
          · rw [if_pos c] at P
            exact .inl (.inl ⟨i, j, rpc_int h1, rpc_int h2, by unfold CMul; omega, P _ H Fz F (Same.refl _) R (.int _)⟩)
          · rw [if_neg c] at P; exact P.elim
        | _ => simp only [q1, q2] at P; exact P.elim
      | list ds =>
        cases e with
        | int k =>
          simp only [q1, q2] at P
          by_cases c : ds.length ≤ 1000 ∧ 0 ≤ k ∧ k ≤ 1000
          · rw [if_pos c] at P
            obtain ⟨a1, v1, e1, s1, r1⟩ := h1.list R.le
            have l1 := r1.len
            have hk : k.toNat ≤ 1000 := by omega
            refine .inr ⟨a1, k, v1, e1, rpc_int h2, s1, by omega, by omega, ?_, post_newL R (r1.rep k.toNat) P⟩
            have := Nat.mul_le_mul (Nat.le_of_eq l1) hk
            have h3 := Nat.mul_le_mul_right 1000 c.1
            rw [sizeLine_eq]
            omega
          · rw [if_neg c] at P; exact P.elim
        | _ => simp only [q1, q2] at P; exact P.elim
      | _ => cases e <;> (simp only [q1, q2] at P; exact P.elim)
end
section
variable {X : Cx} {W : WX} {pin : List Nat} {fa fb : List Sl → Rs AV} {a c : Expr} {pos : Pos}
theorem se_mul (ha : SE X W pin a fa) (hb : SE X W pin c fb) : SE X W pin (.BinOp a .Mult c pos) (s2 gMulX fa fb) := se_bin op_mulX2 v2_mul ha hb

/-! ### list(range(..)) -/
def rgD (a b : Int) : List PyData := (List.range (b - a).toNat).map fun i => PyData.int (a + (i : Nat))
theorem rgD_rp {K : PySem.W.Frag} {H : Hp} (a b : Int) : RpL K H (rgV a b) (rgD a b) := by
  unfold rgV rgD
  generalize List.range _ = l
  induction l with
  | nil => exact .nil
  | cons i r ih => exact .cons (.int _) ih
def mkRg (a b : Int) (δ : List Sl) : Rs AV := if (-1000000 ≤ a ∧ a ≤ 1000000) ∧ -1000000 ≤ b ∧ b ≤ 1000000 then .ok (.tmp (.ol ((rgD a b).map .fz))) δ else .bad
def gRg1 (x : AV) (δ : List Sl) : Rs AV := match rdC δ x with
  | some (.int n) => mkRg 0 n δ
  | _ => .bad
def gRg2 (x y : AV) (δ : List Sl) : Rs AV := match rdC δ x, rdC δ y with
  | some (.int m), some (.int n) => mkRg m n δ
  | _, _ => .bad
theorem mkRg_ok {K : PySem.W.Frag} {mg : Str → Option Value} {b : Bk} {Fz : Hp} {F : Nat → List Addr} {δ : List Sl} {σ : L2.St} {H : Hp} {Q : VK} {m n : Int} (R : Rl K b Fz F δ σ H) (P : Post K mg W b Fz σ Q (mkRg m n δ)) :
    RgOk m n ∧ ∀ q, H q = none → Q (.ref q) (upd H q (.lst (rgV m n))) := by
  unfold mkRg at P
  by_cases c : (-1000000 ≤ m ∧ m ≤ 1000000) ∧ -1000000 ≤ n ∧ n ≤ 1000000
  · rw [if_pos c] at P
    exact ⟨by unfold RgOk; omega, post_newL R (rgD_rp m n) P⟩
  · rw [if_neg c] at P
    exact P.elim
theorem se_lrg1 {p p2 pos2 : Pos} (hc : X.calm = true) (hg : Gl X "list") (hm : X.mg "list" = none) (hg2 : Gl X "range") (hm2 : X.mg "range" = none) (ha : SE X W pin a fa) (na : starEach [a] X.env = (false, eval a X.env) :: starEach [] X.env := by rfl)
    (nb : starEach [.Call (.Name "range" p2) [a] [] pos2] X.env = (false, eval (.Call (.Name "range" p2) [a] [] pos2) X.env) :: starEach [] X.env := by rfl) :
    SE X W pin (.Call (.Name "list" p) [.Call (.Name "range" p2) [a] [] pos2] [] pos) (s1 gRg1 fa) := pe_mono (pe_listRg hc hg hm (prg_1 hg2 hm2 (se_st ha) na) nb) fun σ H Q ⟨b, Fz, F, δ, hp, R, P⟩ => by
  refine rd_bind hp R P fun v H1 Fz1 F1 x δ1 s1 R1 A1 P1 => ?_
  unfold gRg1 at P1
  cases q : rdC δ1 x with
  | none => simp only [q] at P1; exact P1.elim
  | some d =>
    cases d with
    | int n =>
      simp only [q] at P1
      exact ⟨n, rpc_int (rdC_ok R1 A1 q), mkRg_ok R1 P1⟩
    | _ => simp only [q] at P1; exact P1.elim
theorem se_lrg2 {p p2 pos2 : Pos} (hc : X.calm = true) (hg : Gl X "list") (hm : X.mg "list" = none) (hg2 : Gl X "range") (hm2 : X.mg "range" = none) (ha : SE X W pin a fa) (hb : SE X W pin c fb)
    (na : starEach [a, c] X.env = (false, eval a X.env) :: starEach [c] X.env := by rfl) (nc : starEach [c] X.env = (false, eval c X.env) :: starEach [] X.env := by rfl) (hpl : (backTo pos2 (starEach [c] X.env)).any (·.1) = false := by rfl)
    (nb : starEach [.Call (.Name "range" p2) [a, c] [] pos2] X.env = (false, eval (.Call (.Name "range" p2) [a, c] [] pos2) X.env) :: starEach [] X.env := by rfl) :
    SE X W pin (.Call (.Name "list" p) [.Call (.Name "range" p2) [a, c] [] pos2] [] pos) (s2 gRg2 fa fb) := pe_mono (pe_listRg hc hg hm (prg_2 hg2 hm2 (se_st ha) (se_st hb) na nc hpl) nb) fun σ H Q ⟨b, Fz, F, δ, hp, R, P⟩ => by
  refine rd_bind hp R P fun v H1 Fz1 F1 x δ1 s1 R1 A1 P1 => ?_
  refine rd_bind hp R1 P1 fun w H2 Fz2 F2 y δ2 s2 R2 A2 P2 => ?_
  have A1 := A1.le s2
  unfold gRg2 at P2
  cases q : rdC δ2 x with
  | none => simp only [q] at P2; exact P2.elim
  | some d =>
    cases q2 : rdC δ2 y with
    | none => cases d <;> (simp only [q, q2] at P2; exact P2.elim)
    | some e =>
      cases d with
      | int m =>
        cases e with
        | int n =>
          simp only [q, q2] at P2
          exact ⟨m, n, rpc_int (rdC_ok R2 A1 q), rpc_int (rdC_ok R2 A2 q2), mkRg_ok R2 P2⟩
        | _ => simp only [q, q2] at P2; exact P2.elim
      | _ => cases e <;> (simp only [q, q2] at P2; exact P2.elim)
end

/-! ### str(v) -/
def strD : PyData → Option PyData
  | .int i => if i.natAbs.log2 < 1920 then some (.str (toString i)) else none
  | .str x => some (.str x)
  | _ => none
theorem call_strU {X : Cx} : CallR X (.type "str") (fun xs H Q => (∃ i, xs = [V.int i] ∧ i.natAbs.log2 < 1920 ∧ Q (.str (toString i)) H) ∨ ∃ a, xs = [V.str a] ∧ Q (.str a) H) := by
  intro pins s σ H xs us Q I r h
  rcases h with h | ⟨a, rfl, q⟩
  · exact call_str_int pins s σ H xs us Q I r h
  · obtain ⟨u, rfl, t, rfl⟩ := vals1 r
    exact PySem.P.str_of_str ⟨.str a, H, I, ⟨t, rfl⟩, q⟩
theorem c1_str {K : PySem.W.Frag} {mg : Str → Option Value} {W : WX} {pin : List Nat} : C1 K mg W pin (fun xs H Q => (∃ i, xs = [V.int i] ∧ i.natAbs.log2 < 1920 ∧ Q (.str (toString i)) H) ∨ ∃ a, xs = [V.str a] ∧ Q (.str a) H) (gRd strD) := c1_rd fun v d e H Q r k f q => by
  cases r with
  | int i =>
    have k : (if i.natAbs.log2 < 1920 then some (PyData.str (toString i)) else none) = some e := k
    by_cases c : i.natAbs.log2 < 1920
    · rw [if_pos c] at k
      cases k
      exact .inl ⟨i, rfl, c, q⟩
    · rw [if_neg c] at k
      cases k
  | str x =>
    cases k
    exact .inr ⟨x, rfl, q⟩
  | _ => cases k

/-! ### l.index(x) -/
def gIdx (x y : AV) (δ : List Sl) : Rs AV := match rdC δ x, rdC δ y with
  | some (.list ds), some d => if SeqAt.shaped (.list ds) = true ∧ SeqAt.shaped d = true then (match ds.findIdx? (fun z => PyData.eqv z d) with
    | some j => .ok (.val (.int (j : Nat))) δ
    | none => .bad) else .bad
  | _, _ => .bad
section
variable {X : Cx} {W : WX} {pin : List Nat} {fo fa : List Sl → Rs AV} {o e : Expr} {apos cpos : Pos}
def sIdx (fo fa : List Sl → Rs AV) : List Sl → Rs AV := fun δ => (sSt fo δ).bind fun x δ1 => if isLst δ1 x = true then (sSt fa δ1).bind fun y δ2 => gIdx x y δ2 else .bad
theorem se_index (hu : X.A.units + 65 < cLine) (ho : SE X W pin o fo) (ha : SE X W pin e fa) (hbase : attributeBase o "index" X.env (eval o X.env) = eval o X.env := by rfl) (hline : (apos.endLine == cpos.line) = true := by rfl)
    (hs : starEach [e] X.env = (false, eval e X.env) :: starEach [] X.env := by rfl) (hfew : ((backTo cpos (starEach [e] X.env)).all (fun x => !x.1) && (backToKw cpos (keywordEach [] X.env)).all (fun x => x.1.isSome)
      && decide ([e].length + ([] : List Keyword).length + (if ([] : List Keyword).isEmpty then 0 else 1) < 30)) = true := by rfl) :
    SE X W pin (.Call (.Attribute o "index" apos) [e] [] cpos) (sIdx fo fa) :=
  pe_mono (pe_bm PySem.F.plainAttrs_list PySem.F.slot_list_index PySem.F.type_list_index (mt_indexD hu) (se_st ho) (pa_cons (se_st ha) pa_nil hs) hbase hfew hline hs rfl) fun σ H Q ⟨b, Fz, F, δ, hp, R, P⟩ => by
    refine rd_bind hp R P fun v H1 Fz1 F1 x δ1 s1 R1 A1 P1 => ?_
    by_cases c : isLst δ1 x = true
    · rw [if_pos c] at P1
      refine ⟨isLst_ty R1 A1 c, ?_⟩
      refine rd_bind hp R1 P1 fun w H2 Fz2 F2 y δ2 s2 R2 A2 P2 => ?_
      have A1 := A1.le s2
      unfold gIdx at P2
      cases q : rdC δ2 x with
      | none => simp only [q] at P2; exact P2.elim
      | some d =>
        cases q2 : rdC δ2 y with
        | none => cases d <;> (simp only [q, q2] at P2; exact P2.elim)
        | some z =>
          cases d with
          | list ds =>
            simp only [q, q2] at P2
            by_cases c2 : SeqAt.shaped (.list ds) = true ∧ SeqAt.shaped z = true
            · rw [if_pos c2] at P2
              cases q3 : ds.findIdx? (fun u => PyData.eqv u z) with
              | none => simp only [q3] at P2; exact P2.elim
              | some j =>
                simp only [q3] at P2
                have r1 := (rdC_ok R2 A1 q).rp R2.le
                have r2 := (rdC_ok R2 A2 q2).rp R2.le
                obtain ⟨hj, hz, hn⟩ := List.findIdx?_eq_some_iff_getElem.mp q3
                cases r1 with
                | lst h1 h2 =>
                  exact ⟨_, w, z, ds, j, ds[j], rfl, rfl, rp_dp (.lst h1 h2) c2.1, rp_dp r2 c2.2, c2.1, c2.2, List.getElem?_eq_getElem hj, hz, fun m z' hm e => by
                    obtain ⟨hm2, e2⟩ := List.getElem?_eq_some_iff.mp e
                    subst e2
                    simpa using hn m hm, P2 _ H2 Fz2 F2 (Same.refl _) R2 (.int _)⟩
            · rw [if_neg c2] at P2; exact P2.elim
          | _ => cases z <;> (simp only [q, q2] at P2; exact P2.elim)
    · rw [if_neg c] at P1
      exact P1.elim
end

/-! ### a, b = x, y -/
def noIo : List Ar → Bool
  | [] => true
  | .io _ :: _ => false
  | .fz _ :: r => noIo r
  | .own _ :: r => noIo r
def asgA : List Nat → List Ar → List Sl → Ot
  | [], [], δ => .nx δ
  | k :: ks, .fz d :: r, δ => asgA ks r (upS k (.fz d) δ)
  | k :: ks, .own s :: r, δ => asgA ks r (upS k s δ)
  | _, _, _ => .bad
def oPar (ks : List Nat) (g : List Sl → Rs (List Ar)) : List Sl → Ot := fun δ => match g δ with
  | .ok ars δ' => if noIo ars = true then asgA ks ars δ' else .bad
  | .er x δ' => .er x δ'
  | .bad => .bad
def setL (σ : L2.St) : List Nat → List V → L2.St
  | k :: ks, v :: vs => setL (σ.set k (some v)) ks vs
  | _, _ => σ
def ParH (K : PySem.W.Frag) (Fz H : Hp) (g : List Addr) (v : V) : Ar → Prop
  | .fz d => g = [] ∧ Rp K Fz v d
  | .own s => s.tree.isSome = true ∧ SlH K Fz H [] g (some v) s
  | .io _ => False
def ParOk (K : PySem.W.Frag) (b : Bk) (Fz H : Hp) : (Addr → Prop) → List V → List Ar → Prop
  | _, [], [] => True
  | U, v :: vs, a :: r => ∃ g : List Addr, ParH K Fz H g v a ∧ g.Nodup ∧ (∀ c ∈ g, Fz c = none ∧ b.B c = none ∧ H c ≠ none ∧ ¬U c) ∧ ParOk K b Fz H (fun c => U c ∨ c ∈ g) vs r
  | _, _, _ => False
theorem parOk_of {K : PySem.W.Frag} {b : Bk} {Fz H : Hp} {σ : L2.St} : ∀ {ars : List Ar} {vs : List V} {G : Nat → List Addr} {U : Addr → Prop}, vs.length = ars.length → (∀ (j : Nat) (a : Ar), ars[j]? = some a → ∃ v, vs[j]? = some v ∧ ArH K Fz H σ (G j) v a) → (∀ j, (G j).Nodup) →
    (∀ i j a, a ∈ G i → a ∈ G j → i = j) → (∀ j c, c ∈ G j → Fz c = none ∧ b.B c = none ∧ H c ≠ none ∧ ¬U c) → noIo ars = true → ParOk K b Fz H U vs ars
  | [], [], _, _, _, _, _, _, _, _ => trivial
  | [], v :: vs, _, _, h, _, _, _, _, _ => by cases h
  | a :: r, [], _, _, h, _, _, _, _, _ => by cases h
  | a :: r, v :: vs, G, U, h, hA, nd, dj, off, io => by
    obtain ⟨w, e1, e2⟩ := hA 0 a rfl
    cases e1
    refine ⟨G 0, ?_, nd 0, off 0, parOk_of (σ := σ) (G := fun j => G (j + 1)) (by simpa using h) (fun j c e => ?_) (fun j => nd _) (fun i j c h1 h2 => by have := dj _ _ c h1 h2; omega) (fun j c hc => ?_) ?_⟩
    · cases a with
      | fz d => exact e2
      | own s => exact e2
      | io k => cases io
    · obtain ⟨w, e3, e4⟩ := hA (j + 1) c (by simpa using e)
      exact ⟨w, by simpa using e3, e4⟩
    · obtain ⟨h1, h2, h3, h4⟩ := off (j + 1) c hc
      exact ⟨h1, h2, h3, fun z => z.elim h4 fun z => by have := dj _ _ c hc z; omega⟩
    · cases a with
      | fz d => exact io
      | own s => exact io
      | io k => cases io
theorem asgA_ok {K : PySem.W.Frag} {mg : Str → Option Value} {W : WX} {b : Bk} {Fz H : Hp} {D : Ends} : ∀ {ks : List Nat} {ars : List Ar} {vs : List V} {F : Nat → List Addr} {δ : List Sl} {σ : L2.St} {U : Addr → Prop}, (∀ k ∈ ks, k ∉ b.pin) → (∀ k c, c ∈ F k → U c) → Rl K b Fz F δ σ H → ParOk K b Fz H U vs ars →
    PostS K mg W b Fz D (asgA ks ars δ) → vs.length = ks.length ∧ D.nx (setL σ ks vs) H
  | [], [], [], F, δ, σ, U, _, _, R, A, P => ⟨rfl, P σ H Fz F (Same.refl _) R⟩
  | _, [], v :: vs, _, _, _, _, _, _, _, A, _ => A.elim
  | _, a :: r, [], _, _, _, _, _, _, _, A, _ => A.elim
  | [], .fz d :: r, _, _, _, _, _, _, _, _, _, P => P.elim
  | [], .own d :: r, _, _, _, _, _, _, _, _, _, P => P.elim
  | k :: ks, [], _, _, _, _, _, _, _, _, _, P => P.elim
  | _, .io m :: r, v :: vs, _, _, _, _, _, _, _, A, _ => by
    obtain ⟨_, z, _⟩ := A
    exact z.elim
  | k :: ks, .fz d :: r, v :: vs, F, δ, σ, U, hp, hU, R, A, P => by
    obtain ⟨g, ⟨h0, h1⟩, h2, h3, h4⟩ := A
    subst h0
    have R1 := R.name (s := .fz d) (v := v) (hp k List.mem_cons_self) rfl (g := []) ⟨rfl, v, rfl, h1⟩ List.nodup_nil fun _ z => nomatch z
    have hU2 : ∀ m c, c ∈ (fun m => if m = k then [] else F m) m → U c ∨ c ∈ ([] : List Addr) := fun m c hc => by
      have hc : c ∈ (if m = k then [] else F m) := hc
      by_cases e : m = k
      · rw [if_pos e] at hc; cases hc
      · rw [if_neg e] at hc; exact .inl (hU m c hc)
    obtain ⟨q1, q2⟩ := asgA_ok (fun m hm => hp m (List.mem_cons_of_mem _ hm)) hU2 R1 h4 P
    exact ⟨by simp [q1], q2⟩
  | k :: ks, .own s :: r, v :: vs, F, δ, σ, U, hp, hU, R, A, P => by
    obtain ⟨g, ⟨h0, h1⟩, h2, h3, h4⟩ := A
    have R1 := R.name (s := s) (v := v) (hp k List.mem_cons_self) h0 (g := g) h1 h2 fun c hc => ⟨(h3 c hc).1, (h3 c hc).2.1, (h3 c hc).2.2.1, fun m z => (h3 c hc).2.2.2 (hU m c z)⟩
    have hU2 : ∀ m c, c ∈ (fun m => if m = k then g else F m) m → U c ∨ c ∈ g := fun m c hc => by
      have hc : c ∈ (if m = k then g else F m) := hc
      by_cases e : m = k
      · rw [if_pos e] at hc; exact .inr hc
      · rw [if_neg e] at hc; exact .inl (hU m c hc)
    obtain ⟨q1, q2⟩ := asgA_ok (fun m hm => hp m (List.mem_cons_of_mem _ hm)) hU2 R1 h4 P
    exact ⟨by simp [q1], q2⟩
theorem par_ok {K : PySem.W.Frag} {mg : Str → Option Value} {W : WX} {pin ks : List Nat} {g : List Sl → Rs (List Ar)} {D : Ends} {σ : L2.St} {H : Hp} (hp : ∀ k ∈ ks, k ∉ pin) : rdS K mg W pin (oPar ks g) D σ H → rdAr K mg W pin g σ H fun vs H' => vs.length = ks.length ∧ D.nx (setL σ ks vs) H' :=
  fun ⟨b, Fz, F, δ, hb, R, P⟩ => by
    refine ⟨b, Fz, F, δ, hb, R, ?_⟩
    unfold oPar at P
    cases q : g δ with
    | bad => rw [q] at P; exact P
    | er x δ' => rw [q] at P; exact PostXS.at_ P
    | ok ars δ' =>
      rw [q] at P
      simp only at P
      by_cases c : noIo ars = true
      · rw [if_pos c] at P
        intro vs H' Fz' F' G s R' A
        exact asgA_ok (U := fun c => ∃ k, c ∈ F' k) (by rw [hb]; exact hp) (fun k c hc => ⟨k, hc⟩) R' (parOk_of A.len A.at_ A.nd A.dj (fun j c hc => ⟨(A.off j c hc).1, (A.off j c hc).2.1, (A.off j c hc).2.2.1, fun ⟨k, z⟩ => (A.off j c hc).2.2.2 k z⟩) c) (PostS.le s P)
      · rw [if_neg c] at P
        exact P.elim
section
variable {X : Cx} {W : WX} {pin : List Nat} {a c e : Expr} {g : List Sl → Rs (List Ar)} {pos : Pos}
theorem ss_par2 {i j : Nat} {x y : Str} {px py pt : Pos} {kt k2 pt2} (hc : X.calm = true) (hN : X.N.Nodup) (hi : X.N[i]? = some x) (hj : X.N[j]? = some y) (hij : i ≠ j) (hp : ∀ k ∈ [i, j], k ∉ pin)
    (hx : X.env.scope.names.lookup x = some .local) (hy : X.env.scope.names.lookup y = some .local) (ha : SAr X W pin [a, c] g)
    (hw : swappedStores [.Tuple [.Name x px, .Name y py] kt pt] (.Tuple [a, c] k2 pt2) X.env = pure (some [x, y]) := by rfl)
    (hs : swapsWithSole [.Tuple [.Name x px, .Name y py] kt pt] (.Tuple [a, c] k2 pt2) pos.line X.env = pure false := by rfl) :
    SS X W pin (.Assign [.Tuple [.Name x px, .Name y py] kt pt] (.Tuple [a, c] k2 pt2) pos) (oPar [i, j] g) := ps_mono (ps_par hc hN hi hj hij hx hy ha hw hs) fun D σ H h => by
  obtain ⟨b, Fz, F, δ, hb, R, P⟩ := par_ok hp h
  refine ⟨b, Fz, F, δ, hb, R, ?_⟩
  cases q : g δ with
  | bad => rw [q] at P; exact P
  | er x δ' => rw [q] at P; exact P
  | ok ars δ' =>
    rw [q] at P
    intro vs H' Fz' F' G s R' A
    obtain ⟨hl, q⟩ := P vs H' Fz' F' G s R' A
    match vs, hl with
    | [v, w], _ => exact ⟨v, w, rfl, q⟩
theorem ss_par3 {i j l : Nat} {x y z : Str} {px py pz pt : Pos} {kt k2 pt2} (hc : X.calm = true) (hN : X.N.Nodup) (hi : X.N[i]? = some x) (hj : X.N[j]? = some y) (hl : X.N[l]? = some z) (hij : i ≠ j) (hil : i ≠ l) (hjl : j ≠ l) (hp : ∀ k ∈ [i, j, l], k ∉ pin)
    (hx : X.env.scope.names.lookup x = some .local) (hy : X.env.scope.names.lookup y = some .local) (hz : X.env.scope.names.lookup z = some .local) (ha : SAr X W pin [a, c, e] g)
    (hw : swappedStores [.Tuple [.Name x px, .Name y py, .Name z pz] kt pt] (.Tuple [a, c, e] k2 pt2) X.env = pure (some [x, y, z]) := by rfl)
    (hs : swapsWithSole [.Tuple [.Name x px, .Name y py, .Name z pz] kt pt] (.Tuple [a, c, e] k2 pt2) pos.line X.env = pure false := by rfl) :
    SS X W pin (.Assign [.Tuple [.Name x px, .Name y py, .Name z pz] kt pt] (.Tuple [a, c, e] k2 pt2) pos) (oPar [i, j, l] g) := ps_mono (L2.ps_par3 hc hN hi hj hl hij hil hjl hx hy hz ha hw hs) fun D σ H h => by
  obtain ⟨b, Fz, F, δ, hb, R, P⟩ := par_ok hp h
  refine ⟨b, Fz, F, δ, hb, R, ?_⟩
  cases q : g δ with
  | bad => rw [q] at P; exact P
  | er x δ' => rw [q] at P; exact P
  | ok ars δ' =>
    rw [q] at P
    intro vs H' Fz' F' G s R' A
    obtain ⟨hl, q⟩ := P vs H' Fz' F' G s R' A
    match vs, hl with
    | [u, v, w], _ => exact ⟨u, v, w, rfl, q⟩
end
end Hb

namespace Hb
open PySem PySem.Spec PyProof.Rows L2

/-! ### a def of the module, with so many values given -/
structure Dfn (P : Program) (w : World) (K : PySem.W.Frag) (mg : Str → Option Value) (base : Heap) (k : Nat) (x : Str) (n : Nat) (F : List Sl → FR) (m : Nat) (dd : List PyData) : Prop where
  ex : ∃ (f : Addr) (fd : FuncData) (ps : List Str) (ds : List Value), mg x = some (.ref f) ∧ PySem.W.keepIn K (.ref f) = true ∧ FnG P w K mg base k f fd ps (spF K mg n F) ∧ Binds K fd ps ds ∧ Vals (dd.map dV) ds ∧ m + dd.length = n ∧ dd.all flatD = true
theorem Dfn.mono {P : Program} {w : World} {K : PySem.W.Frag} {mg : Str → Option Value} {base : Heap} {k j : Nat} {x : Str} {n : Nat} {F : List Sl → FR} {m : Nat} {dd : List PyData} (D : Dfn P w K mg base k x n F m dd) (h : k ≤ j) : Dfn P w K mg base j x n F m dd := by
  obtain ⟨f, fd, ps, ds, h1, h2, h3, h4⟩ := D.ex
  exact ⟨f, fd, ps, ds, h1, h2, h3.mono h, h4⟩
section
variable {X : Cx} {k : Nat} {W : WX} {pin : List Nat} {x : Str} {p pos : Pos} {e : Expr} {es : List Expr} {n m : Nat} {F : List Sl → FR} {g : List Sl → Rs (List Ar)} {dd : List PyData}
theorem se_callD (D : Dfn X.prog X.w X.K X.mg X.base k x n F m dd) (hr : Room k X.A) (hgd : X.A.guards = some []) (hx : ∀ σ, PassesAt (L2.CX X.prog X.w) X σ (WE W σ)) (hg : Gl X x)
    (ha : SAr X W pin (e :: es) g) (hlen : ∀ δ ars δ', g δ = .ok ars δ' → ars.length = m)
    (hdb : (x == ("__debug__" : Str)) = false := by decide) (he : starEach (e :: es) X.env = (false, eval e X.env) :: starEach es X.env := by rfl) (hpl : (backTo pos (starEach es X.env)).any (·.1) = false := by rfl) :
    SE X W pin (.Call (.Name x p) (e :: es) [] pos) (sCall F dd g) := by
  obtain ⟨f, fd, ps, ds, hm, hk, G, hb, hd, hn, hf⟩ := D.ex
  exact se_call G hr hgd hx hg hm hk hb hd hf ha (fun δ ars δ' q => by rw [hlen δ ars δ' q]; exact hn) hdb he hpl
theorem se_callD0 (D : Dfn X.prog X.w X.K X.mg X.base k x n F 0 dd) (hr : Room k X.A) (hgd : X.A.guards = some []) (hx : ∀ σ, PassesAt (L2.CX X.prog X.w) X σ (WE W σ)) (hg : Gl X x) (hdb : (x == ("__debug__" : Str)) = false := by decide) :
    SE X W pin (.Call (.Name x p) [] [] pos) (sCall F dd rNil) := by
  obtain ⟨f, fd, ps, ds, hm, hk, G, hb, hd, hn, hf⟩ := D.ex
  exact se_call0 G hr hgd hx hg hm hk hb hd hf (by omega) hdb
end
def dvD : He.Dv → PyData
  | .non => .none
  | .bl b => .bool b
  | .int i => .int i
  | .str x => .str x
  | _ => .none
section
variable {P : Program} {w : World} {K : PySem.W.Frag} {mg : Str → Option Value} {base : Heap} {name qual : Str} {params : Arguments} {body : List Stmt} {scope : Scope} {dvs : List V} {kws : List (Str × V)} {f : Addr} {fd : FuncData} {N ps : List Str} {n k : Nat} {pin : List Nat} {fb : List Sl → Ot}
theorem fnG_D (FD : FunD K name qual params body scope dvs kws f fd) (S : FnScope N ps scope) (hn : ps.length = n)
    (hbody : ∀ (cdv : Value) (A : Around) (outer : List Env) (s : Shared) (H : Hp) (E : XK), Room k (A.deeper (envOfC qual scope s.heap.objs.size f cdv)) → A.guards = some [] →
      SSs (GX P w K mg base N qual scope f cdv A outer s H E) (GW E) pin body fb) : FnG P w K mg base (k + 1) f fd ps (spF K mg n (fnRun n N.length pin fb)) := by
  obtain ⟨oc, od, dV, kV, doc, pm, an, cdv, ct, osl, rfl, lk, hcd, _, _⟩ := FD.ex
  exact fnG_of lk hcd S hn (hbody cdv)
end
end Hb

namespace Hb
open PySem PySem.Spec PyProof.Rows L2

/-! ### xs == [], whatever xs holds -/
def rEqE (K : PySem.W.Frag) (n : Bool) : R2 := fun x y H Q => ∃ a b xs, x = V.ref a ∧ y = V.ref b ∧ SqX K H a xs ∧ SqX K H b [] ∧ Q (.bl (n != xs.isEmpty)) H
section
variable {X : Cx}
theorem isList_of {h : Heap} {a : Addr} {its : List Value} {n : Nat} (e : h.get? a = some { cls := .type "list", data := .seq its.toArray n }) : h.IsList a its.toArray := ⟨_, e, rfl, n, rfl⟩
theorem op_eqE (hu : X.A.units + 64 < cLine) : OpR X (compareOp .Eq) (rEqE X.K false) := by
  intro pins s σ H x y v u Q I rx ry h
  obtain ⟨a, b, xs, rfl, rfl, h1, h2, q⟩ := h
  cases rx
  cases ry
  obtain ⟨i1, n1, r1, g1, _⟩ := inv_lstX I h1
  obtain ⟨i2, n2, r2, g2, _⟩ := inv_lstX I h2
  cases r2
  have hu0 : X.A.units < cLine := by omega
  cases r1 with
  | nil =>
    exact SeqAt.eq_listAt (e := fun _ => true) (isList_of g1) (isList_of g2) rfl hu0 (fun j h => nomatch h) ⟨.bl _, H, I, rfl, q⟩
  | cons r0 rt => exact SeqAt.eq_list_lengthsAt (isList_of g1) (isList_of g2) (by simp) hu0 ⟨.bl _, H, I, rfl, q⟩
theorem op_neE (hu : X.A.units + 64 < cLine) : OpR X (compareOp .NotEq) (rEqE X.K true) := by
  intro pins s σ H x y v u Q I rx ry h
  obtain ⟨a, b, xs, rfl, rfl, h1, h2, q⟩ := h
  cases rx
  cases ry
  obtain ⟨i1, n1, r1, g1, _⟩ := inv_lstX I h1
  obtain ⟨i2, n2, r2, g2, _⟩ := inv_lstX I h2
  cases r2
  have hu0 : X.A.units < cLine := by omega
  cases r1 with
  | nil => exact SeqAt.RcNeAt.lists (e := fun _ => true) (isList_of g1) (isList_of g2) rfl hu0 (fun j h => nomatch h) X.prog X.w _ _ ⟨.bl _, H, I, rfl, q⟩
  | cons r0 rt => exact SeqAt.RcNeAt.lists_lengths (isList_of g1) (isList_of g2) (by simp) hu0 X.prog X.w _ _ ⟨.bl _, H, I, rfl, q⟩
end
def gEqE (n : Bool) (x y : AV) (δ : List Sl) : Rs AV := match rdA δ x, rdA δ y with
  | some (.list ds), some (.list []) => .ok (.val (.bool (n != ds.isEmpty))) δ
  | _, _ => .bad
section
variable {K : PySem.W.Frag} {mg : Str → Option Value} {W : WX} {pin : List Nat}
theorem v2_eqE {n : Bool} : V2 K mg W pin (rEqE K n) (gEqE n) := by
  intro b Fz F δ σ H v w x y Q hp R A B P
  unfold gEqE at P
  cases q1 : rdA δ x with
  | none => simp only [q1] at P; exact P.elim
  | some d =>
    cases q2 : rdA δ y with
    | none => cases d <;> (simp only [q1, q2] at P; exact P.elim)
    | some e =>
      cases d with
      | list ds =>
        cases e with
        | list es =>
          cases es with
          | cons e0 er => simp only [q1, q2] at P; exact P.elim
          | nil =>
            simp only [q1, q2] at P
            have r1 := rdA_ok R A q1
            have r2 := rdA_ok R B q2
            cases r1 with
            | lst s1 l1 =>
              cases r2 with
              | lst s2 l2 =>
                cases l2
                refine ⟨_, _, _, rfl, rfl, s1, s2, ?_⟩
                have := P _ H Fz F (Same.refl _) R (.bl _)
                cases l1 with
                | nil => exact this
                | cons _ _ => exact this
        | _ => simp only [q1, q2] at P; exact P.elim
      | _ => cases e <;> (simp only [q1, q2] at P; exact P.elim)
end
section
variable {X : Cx} {W : WX} {pin : List Nat} {fa fb : List Sl → Rs AV} {a c : Expr} {pos : Pos}
theorem se_eqE (hu : X.A.units + 64 < cLine) (ha : SE X W pin a fa) (hb : SE X W pin c fb) : SE X W pin (.Compare a [.Eq] [c] pos) (s2 (gEqE false) fa fb) := se_cmp (op_eqE hu) v2_eqE ha hb (nomark _)
theorem se_neE (hu : X.A.units + 64 < cLine) (ha : SE X W pin a fa) (hb : SE X W pin c fb) : SE X W pin (.Compare a [.NotEq] [c] pos) (s2 (gEqE true) fa fb) := se_cmp (op_neE hu) v2_eqE ha hb (nomark _)
theorem st_eqE (hu : X.A.units + 64 < cLine) (ha : SE X W pin a fa) (hb : SE X W pin c fb) : ST X W pin (.Compare a [.Eq] [c] pos) (sTst (s2 (gEqE false) fa fb)) := st_cmp (op_eqE hu) v2_eqE ha hb (nomark _)
theorem st_neE (hu : X.A.units + 64 < cLine) (ha : SE X W pin a fa) (hb : SE X W pin c fb) : ST X W pin (.Compare a [.NotEq] [c] pos) (sTst (s2 (gEqE true) fa fb)) := st_cmp (op_neE hu) v2_eqE ha hb (nomark _)
end

/-! ### == of texts -/
def rEqS (n : Bool) : R2 := fun x y H Q => ∃ i j : Str, x = V.str i ∧ y = V.str j ∧ Q (.bl (n != (i.cps.toList == j.cps.toList))) H
section
variable {X : Cx}
theorem op_eqS : OpR X (compareOp .Eq) (rEqS false) := by
  intro pins s σ H x y v u Q I rx ry h
  obtain ⟨i, j, rfl, rfl, q⟩ := h
  obtain ⟨t, rfl⟩ := rx
  obtain ⟨t', rfl⟩ := ry
  exact PySem.P.eq_str ⟨.bl _, H, I, rfl, by simpa using q⟩
theorem op_neS : OpR X (compareOp .NotEq) (rEqS true) := by
  intro pins s σ H x y v u Q I rx ry h
  obtain ⟨i, j, rfl, rfl, q⟩ := h
  obtain ⟨t, rfl⟩ := rx
  obtain ⟨t', rfl⟩ := ry
  exact PySem.P.ne_str ⟨.bl _, H, I, rfl, by simpa [bne] using q⟩
end
def gEqS (n : Bool) (x y : AV) (δ : List Sl) : Rs AV := match rdC δ x, rdC δ y with
  | some (.str i), some (.str j) => .ok (.val (.bool (n != (i.cps.toList == j.cps.toList)))) δ
  | _, _ => .bad
section
variable {K : PySem.W.Frag} {mg : Str → Option Value} {W : WX} {pin : List Nat}
theorem v2_eqS {n : Bool} : V2 K mg W pin (rEqS n) (gEqS n) := by
  intro b Fz F δ σ H v w x y Q hp R A B P
  unfold gEqS at P
  cases q1 : rdC δ x with
  | none => simp only [q1] at P; exact P.elim
  | some d =>
    cases q2 : rdC δ y with
    | none => cases d <;> (simp only [q1, q2] at P; exact P.elim)
    | some e =>
      cases d with
      | str i =>
        cases e with
        | str j =>
          simp only [q1, q2] at P
          exact ⟨i, j, rpc_str (rdC_ok R A q1), rpc_str (rdC_ok R B q2), P _ H Fz F (Same.refl _) R (.bl _)⟩
        | _ => simp only [q1, q2] at P; exact P.elim
      | _ => cases e <;> (simp only [q1, q2] at P; exact P.elim)
end
section
variable {X : Cx} {W : WX} {pin : List Nat} {fa fb : List Sl → Rs AV} {a c : Expr} {pos : Pos}
theorem se_eqS (ha : SE X W pin a fa) (hb : SE X W pin c fb) : SE X W pin (.Compare a [.Eq] [c] pos) (s2 (gEqS false) fa fb) := se_cmp op_eqS v2_eqS ha hb (nomark _)
theorem se_neS (ha : SE X W pin a fa) (hb : SE X W pin c fb) : SE X W pin (.Compare a [.NotEq] [c] pos) (s2 (gEqS true) fa fb) := se_cmp op_neS v2_eqS ha hb (nomark _)
theorem st_eqS (ha : SE X W pin a fa) (hb : SE X W pin c fb) : ST X W pin (.Compare a [.Eq] [c] pos) (sTst (s2 (gEqS false) fa fb)) := st_cmp op_eqS v2_eqS ha hb (nomark _)
theorem st_neS (ha : SE X W pin a fa) (hb : SE X W pin c fb) : ST X W pin (.Compare a [.NotEq] [c] pos) (sTst (s2 (gEqS true) fa fb)) := st_cmp op_neS v2_eqS ha hb (nomark _)
end
end Hb

namespace Hb
open PySem L2
abbrev fi (i : Int) : El := .fz (.int i)
section
variable {f fa fb fo : List Sl → Rs AV} {δ δ1 δ2 : List Sl} {a x y : AV} {d e : PyData} {u w : List Sl → Ot} {t : List Sl → Rs Bool}
@[simp] theorem e_sC : sC d δ = .ok (.val d) δ := rfl
@[simp] theorem e_val : sSt (fun δ => .ok (.val d) δ) δ = .ok (.val d) δ := rfl
@[simp] theorem e_bind {α β : Type} {v : α} {k : α → List Sl → Rs β} : (Rs.ok v δ).bind k = k v δ := rfl
@[simp] theorem e_bindb {α β : Type} {k : α → List Sl → Rs β} : (Rs.bad : Rs α).bind k = .bad := rfl
@[simp] theorem e_ot {α : Type} {v : α} {k : α → List Sl → Ot} : (Rs.ok v δ).ot k = k v δ := rfl
@[simp] theorem e_otU {v : Unit} : (Rs.ok v δ).otU = .nx δ := rfl
@[simp] theorem e_oNext : oNext δ = .nx δ := rfl
@[simp] theorem e_rdAv : rdA δ (.val d) = some d := rfl
@[simp] theorem e_rdCv : rdC δ (.val d) = some d := rfl
@[simp] theorem e_allFz (ds : List PyData) : allFz (ds.map El.fz) = some ds := by
  induction ds with
  | nil => rfl
  | cons d r ih => simp [allFz, ih]
theorem e_s2 (g : AV → AV → List Sl → Rs AV) (h1 : sSt fa δ = .ok x δ1) (h2 : sSt fb δ1 = .ok y δ2) : s2 g fa fb δ = g x y δ2 := by
  unfold s2
  rw [h1, e_bind, h2, e_bind]
theorem e_s1 (g : AV → List Sl → Rs AV) (h1 : sSt fa δ = .ok x δ1) : s1 g fa δ = g x δ1 := by
  unfold s1
  rw [h1, e_bind]
theorem e_oSeq (h : u δ = .nx δ1) : oSeq u w δ = w δ1 := by
  unfold oSeq
  rw [h]
theorem e_oSeqR {s : Sl} (h : u δ = .rt s δ1) : oSeq u w δ = .rt s δ1 := by
  unfold oSeq
  rw [h]
theorem e_oIf {k : Bool} (h : t δ = .ok k δ1) : oIf t u w δ = if k = true then u δ1 else w δ1 := by
  unfold oIf
  rw [h, e_ot]
end
/-! ### comprehensions, loops -/
/-- nothing changes but the block's own names -/
theorem lc_pure {vs : List Nat} {t : AV → List Sl → Rs Unit} {tt : List Sl → Rs Bool} {f : List Sl → Rs AV} {δ : List Sl} (p : PyData → Bool) (g : PyData → PyData) (hw : okW vs δ = true) : ∀ {ds : List PyData} {es : List El}, es.length + ds.length ≤ cap →
    (∀ d ∈ ds, ∃ δ1 δ2, t (.val d) (wipeD vs δ) = .ok () δ1 ∧ tt δ1 = .ok (p d) δ2 ∧ (p d = false → unw vs δ δ2 = δ) ∧ (p d = true → ∃ δ3, f δ2 = .ok (.val (g d)) δ3 ∧ unw vs δ δ3 = δ)) →
    lcL false vs t tt f ds es δ = .ok (es ++ (((ds.filter p).map g).map El.fz)) δ
  | [], es, _, _ => by simp [lcL]
  | d :: r, es, hl, h => by
    obtain ⟨δ1, δ2, h1, h2, h3, h4⟩ := h d List.mem_cons_self
    simp only [List.length_cons] at hl
    have hr : ∀ x ∈ r, _ := fun x hx => h x (List.mem_cons_of_mem _ hx)
    unfold lcL
    rw [if_pos hw, h1]
    simp only [h2]
    cases q : p d with
    | false =>
      rw [if_neg (by simp), h3 q, lc_pure p g hw (by omega) hr]
      simp [q]
    | true =>
      obtain ⟨δ3, h5, h6⟩ := h4 q
      simp only [if_true, h5, elOf]
      rw [if_pos (by show es.length ≤ cap; omega), h6, lc_pure p g hw (by simp; omega) hr]
      simp [q]
/-- with an invariant: each turn makes an item -/
theorem lc_inv {vs : List Nat} {t : AV → List Sl → Rs Unit} {tt : List Sl → Rs Bool} {f : List Sl → Rs AV} (I : List Sl → Prop) (G : PyData → Prop) (hw : ∀ δ, I δ → okW vs δ = true) : ∀ {ds : List PyData} {es : List El} {δ : List Sl}, es.length + ds.length ≤ cap → I δ →
    (∀ d ∈ ds, ∀ δ, I δ → ∃ δ1 δ2 y δ3, t (.val d) (wipeD vs δ) = .ok () δ1 ∧ tt δ1 = .ok true δ2 ∧ f δ2 = .ok (.val y) δ3 ∧ I (unw vs δ δ3) ∧ G y) →
    ∃ (ys : List PyData) (δ' : List Sl), lcL false vs t tt f ds es δ = .ok (es ++ ys.map El.fz) δ' ∧ I δ' ∧ ys.length = ds.length ∧ ∀ y ∈ ys, G y
  | [], es, δ, _, hI, _ => ⟨[], δ, by simp [lcL], hI, rfl, fun _ z => nomatch z⟩
  | d :: r, es, δ, hl, hI, h => by
    obtain ⟨δ1, δ2, y, δ3, h1, h2, h3, h4, h5⟩ := h d List.mem_cons_self δ hI
    simp only [List.length_cons] at hl
    obtain ⟨ys, δ', q1, q2, q3, q4⟩ := lc_inv I G hw (ds := r) (es := es ++ [.fz y]) (by simp; omega) h4 fun x hx => h x (List.mem_cons_of_mem _ hx)
    refine ⟨y :: ys, δ', ?_, q2, by simp [q3], fun z hz => ?_⟩
    · unfold lcL
      rw [if_pos (hw δ hI), h1]
      simp only [h2, if_true, h3, elOf]
      rw [if_pos (by show es.length ≤ cap; omega), q1]
      simp
    · rcases List.mem_cons.mp hz with e | e
      · rw [e]; exact h5
      · exact q4 z e
theorem for_inv {t : AV → List Sl → Rs Unit} {f : List Sl → Ot} (I : Nat → List Sl → Prop) : ∀ {ds : List PyData} {k : Nat} {δ : List Sl}, I k δ →
    (∀ j d δ, ds[j]? = some d → I (k + j) δ → ∃ δ1 δ2, t (.val d) δ = .ok () δ1 ∧ f δ1 = .nx δ2 ∧ I (k + j + 1) δ2) → ∃ δ', forL t f ds δ = .nx δ' ∧ I (k + ds.length) δ'
  | [], k, δ, hI, _ => ⟨δ, rfl, hI⟩
  | d :: r, k, δ, hI, h => by
    obtain ⟨δ1, δ2, h1, h2, h3⟩ := h 0 d δ rfl hI
    obtain ⟨δ', q1, q2⟩ := for_inv I (ds := r) (k := k + 1) (δ := δ2) h3 fun j x δ e hj => by
      have := h (j + 1) x δ (by simpa using e) (by rwa [show k + (j + 1) = k + 1 + j by omega])
      rwa [show k + (j + 1) + 1 = k + 1 + j + 1 by omega] at this
    refine ⟨δ', ?_, by rwa [show k + (d :: r).length = k + 1 + r.length by simp; omega]⟩
    unfold forL
    rw [h1]
    simp only [h2]
    exact q1
theorem eqvAll_ints : ∀ ns ms : List Int, PyData.eqvAll (ns.map .int) (ms.map .int) = decide (ns = ms)
  | [], [] => by simp [PyData.eqvAll]
  | [], m :: ms => by simp [PyData.eqvAll]
  | n :: ns, [] => by simp [PyData.eqvAll]
  | n :: ns, m :: ms => by
    simp only [List.map_cons, PyData.eqvAll, eqvAll_ints ns ms, PyData.eqv]
    by_cases h : n = m <;> by_cases h2 : ns = ms <;> simp [h, h2]
theorem canLay_ints : ∀ ns : List Int, PyData.canLayAll0 (ns.map .int) = true
  | [] => by simp [PyData.canLayAll0]
  | n :: ns => by simp [PyData.canLayAll0, canLay_ints ns, PyData.canLay0]
theorem depth_ints : ∀ ns : List Int, PyData.depthAll (ns.map .int) = 0
  | [] => by simp [PyData.depthAll]
  | n :: ns => by simp [PyData.depthAll, depth_ints ns, PyData.depth]
theorem shaped_ints (ns : List Int) : SeqAt.shaped (.list (ns.map .int)) = true := by
  simp [SeqAt.shaped, PyData.canLay0, canLay_ints, PyData.depth, depth_ints]
theorem eqD_ints (ns ms : List Int) : eqD (.list (ns.map .int)) (.list (ms.map .int)) = some (decide (ns = ms)) := by
  unfold eqD
  rw [if_pos ⟨shaped_ints ns, shaped_ints ms⟩]
  show some (PyData.eqvAll _ _) = _
  rw [eqvAll_ints]
theorem intsOf_ints : ∀ ns : List Int, intsOf (ns.map .int) = some ns
  | [] => rfl
  | n :: r => by simp [intsOf, intsOf_ints r]
theorem boolsOf_bools : ∀ ns : List Bool, boolsOf (ns.map .bool) = some ns
  | [] => rfl
  | n :: r => by simp [boolsOf, boolsOf_bools r]
theorem eqD_int (n m : Int) : eqD (.int n) (.int m) = some (decide (n = m)) := by
  simp [eqD, SeqAt.shaped, PyData.canLay0, PyData.depth, PyData.eqv]
  by_cases h : n = m <;> simp [h]
/-! ### the tap -/
abbrev tapS (a b c : Int) : Sl := .ol [fi a, fi b, fi c]
def TapOk (a b c : Int) : Prop := c.natAbs < 2 ^ 64
end Hb

/-! ### k01 -/
namespace K01
open PySem PySem.Spec PyProof.Rows L2 Hb
def topS (i : Nat) : Stmt := PySem.Challenge.pw_hillballots_k01_ballots_recognized.main.body.getD i (.Pass ⟨0, 0, 0, 0⟩)
def d__law_cells : He.DefD := ⟨("_law_cells", none), "_law_cells", "_law_cells", defArgs (topS 16), defBody (topS 16), defScope (topS 16), [], []⟩
def d__law_draw : He.DefD := ⟨("_law_draw", none), "_law_draw", "_law_draw", defArgs (topS 15), defBody (topS 15), defScope (topS 15), [], []⟩
def d__law_mixed : He.DefD := ⟨("_law_mixed", none), "_law_mixed", "_law_mixed", defArgs (topS 17), defBody (topS 17), defScope (topS 17), [], []⟩
def d__law_near : He.DefD := ⟨("_law_near", none), "_law_near", "_law_near", defArgs (topS 22), defBody (topS 22), defScope (topS 22), [], []⟩
def d_is_integer : He.DefD := ⟨("is_integer", none), "is_integer", "is_integer", defArgs (topS 6), defBody (topS 6), defScope (topS 6), [.non], []⟩
def d_need_count : He.DefD := ⟨("need_count", none), "need_count", "need_count", defArgs (topS 9), defBody (topS 9), defScope (topS 9), [.int 12], []⟩
def d_is_each_once : He.DefD := ⟨("is_each_once", none), "is_each_once", "is_each_once", defArgs (topS 7), defBody (topS 7), defScope (topS 7), [], []⟩
def d_is_ballot : He.DefD := ⟨("is_ballot", none), "is_ballot", "is_ballot", defArgs (topS 11), defBody (topS 11), defScope (topS 11), [], []⟩
def d_are_each_once : He.DefD := ⟨("are_each_once", none), "are_each_once", "are_each_once", defArgs (topS 8), defBody (topS 8), defScope (topS 8), [], []⟩
def d_are_ballots : He.DefD := ⟨("are_ballots", none), "are_ballots", "are_ballots", defArgs (topS 12), defBody (topS 12), defScope (topS 12), [], []⟩
def d__law_is_one : He.DefD := ⟨("_law_is_one", none), "_law_is_one", "_law_is_one", defArgs (topS 20), defBody (topS 20), defScope (topS 20), [], []⟩
def d__law_are_ones : He.DefD := ⟨("_law_are_ones", none), "_law_are_ones", "_law_are_ones", defArgs (topS 21), defBody (topS 21), defScope (topS 21), [], []⟩
def d__law_right : He.DefD := ⟨("_law_right", none), "_law_right", "_law_right", defArgs (topS 23), defBody (topS 23), defScope (topS 23), [], []⟩
def d__law_tap : He.DefD := ⟨("_law_tap", none), "_law_tap", "_law_tap", defArgs (topS 14), defBody (topS 14), defScope (topS 14), [], []⟩
def d_law : He.DefD := ⟨("law", none), "law", "law", defArgs (topS 24), defBody (topS 24), defScope (topS 24), [], []⟩
def fn : List He.DefD := [d__law_cells, d__law_draw, d__law_mixed, d__law_near, d_is_integer, d_need_count, d_is_each_once, d_is_ballot, d_are_each_once, d_are_ballots, d__law_is_one, d__law_are_ones, d__law_right, d__law_tap, d_law]
def fa : List He.Fa := [.glo "_law_cells", .glo "_law_draw", .glo "_law_mixed", .glo "_law_near", .glo "is_integer", .glo "need_count", .glo "is_each_once", .glo "is_ballot", .glo "are_each_once", .glo "are_ballots", .glo "_law_is_one", .glo "_law_are_ones", .glo "_law_right", .glo "_law_tap", .glo "law", .int "MOST_BALLOTS" 40, .free "abs", .free "all", .free "bool", .free "int", .free "isinstance", .free "len", .free "list", .free "max", .free "min", .free "range", .free "repr", .free "sorted", .free "str", .free "tuple"]
structure Ctx (K : PySem.W.Frag) (mg : Str → Option Value) : Prop where
  c : He.SaysD fa fn K
  ex : ∃ h : Heap, K.In h ∧ h.Ns mainGlobals mg
variable {P : Program} {w : World} {K : PySem.W.Frag} {mg : Str → Option Value} {base : Heap}
theorem m_MOST_BALLOTS (Y : Ctx K mg) : ∃ t, mg "MOST_BALLOTS" = some (.int 40 t) := let ⟨_, X, G⟩ := Y.ex; He.int_ok X G (Y.c.fact 15)
theorem m_abs (Y : Ctx K mg) : mg "abs" = none := let ⟨_, X, G⟩ := Y.ex; He.free_ok X G (Y.c.fact 16)
theorem m_all (Y : Ctx K mg) : mg "all" = none := let ⟨_, X, G⟩ := Y.ex; He.free_ok X G (Y.c.fact 17)
theorem m_bool (Y : Ctx K mg) : mg "bool" = none := let ⟨_, X, G⟩ := Y.ex; He.free_ok X G (Y.c.fact 18)
theorem m_int (Y : Ctx K mg) : mg "int" = none := let ⟨_, X, G⟩ := Y.ex; He.free_ok X G (Y.c.fact 19)
theorem m_isinstance (Y : Ctx K mg) : mg "isinstance" = none := let ⟨_, X, G⟩ := Y.ex; He.free_ok X G (Y.c.fact 20)
theorem m_len (Y : Ctx K mg) : mg "len" = none := let ⟨_, X, G⟩ := Y.ex; He.free_ok X G (Y.c.fact 21)
theorem m_list (Y : Ctx K mg) : mg "list" = none := let ⟨_, X, G⟩ := Y.ex; He.free_ok X G (Y.c.fact 22)
theorem m_max (Y : Ctx K mg) : mg "max" = none := let ⟨_, X, G⟩ := Y.ex; He.free_ok X G (Y.c.fact 23)
theorem m_min (Y : Ctx K mg) : mg "min" = none := let ⟨_, X, G⟩ := Y.ex; He.free_ok X G (Y.c.fact 24)
theorem m_range (Y : Ctx K mg) : mg "range" = none := let ⟨_, X, G⟩ := Y.ex; He.free_ok X G (Y.c.fact 25)
theorem m_repr (Y : Ctx K mg) : mg "repr" = none := let ⟨_, X, G⟩ := Y.ex; He.free_ok X G (Y.c.fact 26)
theorem m_sorted (Y : Ctx K mg) : mg "sorted" = none := let ⟨_, X, G⟩ := Y.ex; He.free_ok X G (Y.c.fact 27)
theorem m_str (Y : Ctx K mg) : mg "str" = none := let ⟨_, X, G⟩ := Y.ex; He.free_ok X G (Y.c.fact 28)
theorem m_tuple (Y : Ctx K mg) : mg "tuple" = none := let ⟨_, X, G⟩ := Y.ex; He.free_ok X G (Y.c.fact 29)
/-! _law_cells: 0 _law_script, 1 _law_many -/
def N__law_cells : List Str := ["_law_script", "_law_many"]
def B__law_cells : List Sl → Ot :=
    oRet (sSl (s2 gAdd (sVar 0) (sLst (lCons (sC (.int 0)) (lNil)))) none (some (s2 gMax2 (sC (.int 1)) (s2 gMin2 (sVar 1) (s1 (gRd lenD) (sVar 0))))))
def F__law_cells : List Sl → FR := fnRun 2 2 [] B__law_cells
theorem W__law_cells (Y : Ctx K mg) {f : Addr} (cdv : Value) (A : Around) (outer : List Env) (s : Shared) (H : Hp) (E : XK) (hr : Room 0 (A.deeper (envOfC "_law_cells" (defScope (topS 16)) s.heap.objs.size f cdv))) (hgd : A.guards = some []) :
    SSs (GX P w K mg base N__law_cells "_law_cells" (defScope (topS 16)) f cdv A outer s H E) (GW E) [] (defBody (topS 16)) B__law_cells := by
  have h64 : (A.deeper (envOfC "_law_cells" (defScope (topS 16)) s.heap.objs.size f cdv)).units + 64 < cLine := hr.units
  have h65 : (A.deeper (envOfC "_law_cells" (defScope (topS 16)) s.heap.objs.size f cdv)).units + 65 < cLine := by have := hr.un; omega
  have nd : N__law_cells.Nodup := by decide
  exact (ss_one (ss_ret (se_sl (se_add (se_var 0) (se_lst (sa_cons se_int sa_nil))) .no (.yes (se_b2 (call_max2 rfl) c2_i rfl (m_max Y) (by decide +kernel) se_int (se_b2 (call_min2 rfl) c2_i rfl (m_min Y) (by decide +kernel) (se_var 1) (se_b1 call_lenU c1_len rfl (m_len Y) (by decide +kernel) (se_var 0))))))))
theorem S__law_cells : FnScope N__law_cells ["_law_script", "_law_many"] (defScope (topS 16)) := ⟨rfl, rfl, rfl, by decide, rfl, by decide +kernel, by decide +kernel⟩
theorem D__law_cells_2 (Y : Ctx K mg) : Dfn P w K mg base 1 "_law_cells" 2 F__law_cells 2 [] := by
  obtain ⟨_, X, G⟩ := Y.ex
  obtain ⟨fd, FD⟩ := Y.c.def_ 0 (d := d__law_cells)
  have hb : Binds K fd ["_law_script", "_law_many"] [] := FD.bindsN fun _ _ _ _ _ _ us h => by
    match us, h with
    | [a0, a1], _ => rfl
  exact ⟨⟨_, fd, ["_law_script", "_law_many"], [], He.glo_ok X G (Y.c.fact 0), FD.kp, fnG_D FD S__law_cells rfl fun cdv A outer s H E hr hgd => W__law_cells Y cdv A outer s H E hr hgd, hb, .nil, rfl, rfl⟩⟩
/-! _law_draw: 0 _law_tap_here, 1 _law_bound, 2 _law_found -/
def N__law_draw : List Str := ["_law_tap_here", "_law_bound", "_law_found"]
def B__law_draw : List Sl → Ot :=
    oSeq (oIf (sTst (s2 gGe (s2 gIx (sVar 0) (sC (.int 0))) (s2 gPow (sC (.int 10)) (sC (.int 18))))) (oSeq (oAsg (s2 gMod (s1 (gRd intD) (s2 gIx (sVar 0) (sC (.int 0)))) (sVar 1)) (tgN 2))
    (oSeq (oAsg (s2 gFdiv (s2 gIx (sVar 0) (sC (.int 0))) (sVar 1)) (tgS (sVar 0) (sC (.int 0))))
    (oRet (sVar 2)))) (oNext))
    (oSeq (oAsg (s2 gMod (s1 (gRd intD) (s2 gAdd (s2 gMulX (s2 gIx (sVar 0) (sC (.int 1))) (sC (.int 69069))) (sC (.int 40503)))) (sC (.int 4294967291))) (tgS (sVar 0) (sC (.int 1))))
    (oSeq (oAsg (s2 gMod (s1 (gRd intD) (s2 gAdd (s2 gMulX (s2 gIx (sVar 0) (sC (.int 2))) (s2 gIx (sVar 0) (sC (.int 2)))) (s2 gIx (sVar 0) (sC (.int 1))))) (sC (.int 2147483587))) (tgS (sVar 0) (sC (.int 2))))
    (oRet (s2 gMod (s1 (gRd intD) (s2 gAdd (s2 gFdiv (s2 gIx (sVar 0) (sC (.int 1))) (sC (.int 32))) (s2 gFdiv (s2 gIx (sVar 0) (sC (.int 2))) (sC (.int 16))))) (sVar 1)))))
def F__law_draw : List Sl → FR := fnRun 2 3 [0] B__law_draw
theorem W__law_draw (Y : Ctx K mg) {f : Addr} (cdv : Value) (A : Around) (outer : List Env) (s : Shared) (H : Hp) (E : XK) (hr : Room 0 (A.deeper (envOfC "_law_draw" (defScope (topS 15)) s.heap.objs.size f cdv))) (hgd : A.guards = some []) :
    SSs (GX P w K mg base N__law_draw "_law_draw" (defScope (topS 15)) f cdv A outer s H E) (GW E) [0] (defBody (topS 15)) B__law_draw := by
  have h64 : (A.deeper (envOfC "_law_draw" (defScope (topS 15)) s.heap.objs.size f cdv)).units + 64 < cLine := hr.units
  have h65 : (A.deeper (envOfC "_law_draw" (defScope (topS 15)) s.heap.objs.size f cdv)).units + 65 < cLine := by have := hr.un; omega
  have nd : N__law_draw.Nodup := by decide
  exact (ss_cons (ss_if (st_ge (se_sub_ix (se_var 0) se_int) (se_pow se_int se_int)) (ss_cons (ss_set 2 nd rfl (by first | exact Or.inl rfl | exact Or.inr rfl) (by decide) (se_mod (se_t1 call_int1 c1_int rfl (m_int Y) (by decide +kernel) (se_sub_ix (se_var 0) se_int)) (se_var 1)))
    (ss_cons (ss_asg (se_fdiv (se_sub_ix (se_var 0) se_int) (se_var 1)) (sg_sub (se_var 0) se_int))
    (ss_one (ss_ret (se_var 2))))) ss_nil)
    (ss_cons (ss_asg (se_mod (se_t1 call_int1 c1_int rfl (m_int Y) (by decide +kernel) (se_add (se_mul (se_sub_ix (se_var 0) se_int) se_int) se_int)) se_int) (sg_sub (se_var 0) se_int))
    (ss_cons (ss_asg (se_mod (se_t1 call_int1 c1_int rfl (m_int Y) (by decide +kernel) (se_add (se_mul (se_sub_ix (se_var 0) se_int) (se_sub_ix (se_var 0) se_int)) (se_sub_ix (se_var 0) se_int))) se_int) (sg_sub (se_var 0) se_int))
    (ss_one (ss_ret (se_mod (se_t1 call_int1 c1_int rfl (m_int Y) (by decide +kernel) (se_add (se_fdiv (se_sub_ix (se_var 0) se_int) se_int) (se_fdiv (se_sub_ix (se_var 0) se_int) se_int))) (se_var 1)))))))
theorem S__law_draw : FnScope N__law_draw ["_law_tap_here", "_law_bound"] (defScope (topS 15)) := ⟨rfl, rfl, rfl, by decide, rfl, by decide +kernel, by decide +kernel⟩
theorem D__law_draw_2 (Y : Ctx K mg) : Dfn P w K mg base 1 "_law_draw" 2 F__law_draw 2 [] := by
  obtain ⟨_, X, G⟩ := Y.ex
  obtain ⟨fd, FD⟩ := Y.c.def_ 1 (d := d__law_draw)
  have hb : Binds K fd ["_law_tap_here", "_law_bound"] [] := FD.bindsN fun _ _ _ _ _ _ us h => by
    match us, h with
    | [a0, a1], _ => rfl
  exact ⟨⟨_, fd, ["_law_tap_here", "_law_bound"], [], He.glo_ok X G (Y.c.fact 1), FD.kp, fnG_D FD S__law_draw rfl fun cdv A outer s H E hr hgd => W__law_draw Y cdv A outer s H E hr hgd, hb, .nil, rfl, rfl⟩⟩
/-! _law_mixed: 0 _law_tap_here, 1 _law_count, 2 _law_left, 3 _law_found -/
def N__law_mixed : List Str := ["_law_tap_here", "_law_count", "_law_left", "_law_found"]
def B__law_mixed : List Sl → Ot :=
    oSeq (oPar [2, 3] (rCons (s1 gRg1 (sVar 1)) (rCons (sLst (lNil)) (rNil))))
    (oSeq (oWh (sTst (s2 (gEqE true) (sVar 2) (sLst (lNil)))) (oDrop (sApp (sVar 3) (sPop1 (sVar 2) (sCall F__law_draw [] (rIo 0 (rCons (sTk (s1 (gRd lenD) (sVar 2))) (rNil))))))) 1000)
    (oRet (sVar 3)))
def F__law_mixed : List Sl → FR := fnRun 2 4 [0] B__law_mixed
theorem W__law_mixed (Y : Ctx K mg) {f : Addr} (cdv : Value) (A : Around) (outer : List Env) (s : Shared) (H : Hp) (E : XK) (hr : Room 1 (A.deeper (envOfC "_law_mixed" (defScope (topS 17)) s.heap.objs.size f cdv))) (hgd : A.guards = some []) :
    SSs (GX P w K mg base N__law_mixed "_law_mixed" (defScope (topS 17)) f cdv A outer s H E) (GW E) [0] (defBody (topS 17)) B__law_mixed := by
  have h64 : (A.deeper (envOfC "_law_mixed" (defScope (topS 17)) s.heap.objs.size f cdv)).units + 64 < cLine := hr.units
  have h65 : (A.deeper (envOfC "_law_mixed" (defScope (topS 17)) s.heap.objs.size f cdv)).units + 65 < cLine := by have := hr.un; omega
  have nd : N__law_mixed.Nodup := by decide
  exact (ss_cons (ss_par2 rfl nd rfl rfl (by decide) (by decide) rfl rfl (sr_cons (se_lrg1 rfl rfl (m_list Y) rfl (m_range Y) (se_var 1)) (sr_cons (se_lst sa_nil) sr_nil)))
    (ss_cons (ss_while 1000 (passes_of rfl) (st_neE h64 (se_var 2) (se_lst sa_nil)) (ss_one (ss_expr (se_app (se_var 3) (se_pop1 (se_var 2) (se_callD ((D__law_draw_2 Y).mono (by decide)) hr hgd gx_pass rfl (sr_io 0 rfl (by first | exact Or.inl rfl | exact Or.inr (Or.inl rfl) | exact Or.inr (Or.inr rfl)) (sr_cons (se_tk (se_b1 call_lenU c1_len rfl (m_len Y) (by decide +kernel) (se_var 2))) sr_nil)) (len_rIo (len_rCons len_rNil))))))))
    (ss_one (ss_ret (se_var 3)))))
theorem S__law_mixed : FnScope N__law_mixed ["_law_tap_here", "_law_count"] (defScope (topS 17)) := ⟨rfl, rfl, rfl, by decide, rfl, by decide +kernel, by decide +kernel⟩
theorem D__law_mixed_2 (Y : Ctx K mg) : Dfn P w K mg base 2 "_law_mixed" 2 F__law_mixed 2 [] := by
  obtain ⟨_, X, G⟩ := Y.ex
  obtain ⟨fd, FD⟩ := Y.c.def_ 2 (d := d__law_mixed)
  have hb : Binds K fd ["_law_tap_here", "_law_count"] [] := FD.bindsN fun _ _ _ _ _ _ us h => by
    match us, h with
    | [a0, a1], _ => rfl
  exact ⟨⟨_, fd, ["_law_tap_here", "_law_count"], [], He.glo_ok X G (Y.c.fact 2), FD.kp, fnG_D FD S__law_mixed rfl fun cdv A outer s H E hr hgd => W__law_mixed Y cdv A outer s H E hr hgd, hb, .nil, rfl, rfl⟩⟩
/-! _law_near: 0 _law_tap_here, 1 _law_row, 2 _law_found, 3 _law_moved_on, 4 _law_one, 5 _law_at, 6 _law_to -/
def N__law_near : List Str := ["_law_tap_here", "_law_row", "_law_found", "_law_moved_on", "_law_one", "_law_at", "_law_to"]
def B__law_near : List Sl → Ot :=
    oSeq (oPar [5, 6] (rCons (sCall F__law_draw [] (rIo 0 (rCons (sTk (s1 (gRd lenD) (sVar 1))) (rNil)))) (rCons (sCall F__law_draw [] (rIo 0 (rCons (sTk (s1 (gRd lenD) (sVar 1))) (rNil)))) (rNil))))
    (oSeq (oAsg (sLst (lCons (sVar 1) (lCons (s1 gRev (sVar 1)) (lCons (s1 (gTuple) (sVar 1)) (lCons (sSl (sVar 1) (some (sC (.int 1))) none) (lCons (s2 gAdd (sVar 1) (sLst (lCons (s1 (gRd lenD) (sVar 1)) (lNil)))) (lCons (s2 gAdd (sVar 1) (sSl (sVar 1) none (some (sC (.int 1))))) (lCons (sLst (lCons (sVar 1) (lNil))) (lCons (sDic0) (lCons (sC .none) (lCons (sC (.str "0")) (lCons (sC (.int 0)) (lCons (sLst (lNil)) (lCons (sLst (lCons (sC .none) (lNil))) (lNil))))))))))))))) (tgN 2))
    (oSeq (oAsg (s1 (gList) (sVar 1)) (tgN 3))
    (oSeq (oAsg (sTup (lCons (s2 gIx (sVar 1) (sVar 6)) (lCons (s2 gIx (sVar 1) (sVar 5)) (lNil)))) (tgT 2 (tgCons (tgS (sVar 3) (sVar 5)) (tgCons (tgS (sVar 3) (sVar 6)) (tgNil)))))
    (oSeq (oDrop (sApp (sVar 2) (sVar 3)))
    (oSeq (oFor (wSeq (sLst (lCons (s2 gIx (sVar 1) (sVar 6)) (lCons (s1 gNeg (sC (.int 1))) (lCons (s1 (gRd lenD) (sVar 1)) (lCons (s2 gPow (sC (.int 10)) (sC (.int 39))) (lCons (sC (.bool true)) (lCons (sC (.bool false)) (lCons (sC .none) (lCons (s1 (gRd strD) (s2 gIx (sVar 1) (sVar 5))) (lCons (sLst (lCons (s2 gIx (sVar 1) (sVar 5)) (lNil))) (lCons (sTup (lCons (s2 gIx (sVar 1) (sVar 5)) (lNil))) (lCons (s2 gEq (s2 gIx (sVar 1) (sVar 5)) (sC (.int 1))) (lNil)))))))))))))) (tgN 4) (oDrop (sApp (sVar 2) (s2 gAdd (s2 gAdd (sSl (sVar 1) none (some (sVar 5))) (sLst (lCons (sVar 4) (lNil)))) (sSl (sVar 1) (some (s2 gAdd (sVar 5) (sC (.int 1)))) none)))))
    (oRet (s2 gAdd (sVar 2) (sLst (lCons (sLc false (wSeq (sVar 1)) [4] (tgN 4) (tOk) (sTk (sIf (sTst (s2 gLt (sVar 4) (sC (.int 2)))) (s2 gEq (sVar 4) (sC (.int 1))) (sVar 4)))) (lCons (sLc false (wSeq (sVar 1)) [4] (tgN 4) (tOk) (sTk (s2 gAdd (sVar 4) (sC (.int 1))))) (lCons (s2 gMulX (sLst (lCons (sC (.int 0)) (lNil))) (s1 (gRd lenD) (sVar 1))) (lNil))))))))))))
def F__law_near : List Sl → FR := fnRun 2 7 [0] B__law_near
theorem W__law_near (Y : Ctx K mg) {f : Addr} (cdv : Value) (A : Around) (outer : List Env) (s : Shared) (H : Hp) (E : XK) (hr : Room 1 (A.deeper (envOfC "_law_near" (defScope (topS 22)) s.heap.objs.size f cdv))) (hgd : A.guards = some []) :
    SSs (GX P w K mg base N__law_near "_law_near" (defScope (topS 22)) f cdv A outer s H E) (GW E) [0] (defBody (topS 22)) B__law_near := by
  have h64 : (A.deeper (envOfC "_law_near" (defScope (topS 22)) s.heap.objs.size f cdv)).units + 64 < cLine := hr.units
  have h65 : (A.deeper (envOfC "_law_near" (defScope (topS 22)) s.heap.objs.size f cdv)).units + 65 < cLine := by have := hr.un; omega
  have nd : N__law_near.Nodup := by decide
  exact (ss_cons (ss_par2 rfl nd rfl rfl (by decide) (by decide) rfl rfl (sr_cons (se_callD ((D__law_draw_2 Y).mono (by decide)) hr hgd gx_pass rfl (sr_io 0 rfl (by first | exact Or.inl rfl | exact Or.inr (Or.inl rfl) | exact Or.inr (Or.inr rfl)) (sr_cons (se_tk (se_b1 call_lenU c1_len rfl (m_len Y) (by decide +kernel) (se_var 1))) sr_nil)) (len_rIo (len_rCons len_rNil))) (sr_cons (se_callD ((D__law_draw_2 Y).mono (by decide)) hr hgd gx_pass rfl (sr_io 0 rfl (by first | exact Or.inl rfl | exact Or.inr (Or.inl rfl) | exact Or.inr (Or.inr rfl)) (sr_cons (se_tk (se_b1 call_lenU c1_len rfl (m_len Y) (by decide +kernel) (se_var 1))) sr_nil)) (len_rIo (len_rCons len_rNil))) sr_nil)))
    (ss_cons (ss_set 2 nd rfl (by first | exact Or.inl rfl | exact Or.inr rfl) (by decide) (se_lst (sa_cons (se_var 1) (sa_cons (se_rev (se_var 1)) (sa_cons (se_t1 call_tuple_of c1_tuple rfl (m_tuple Y) (by decide +kernel) (se_var 1)) (sa_cons (se_sl (se_var 1) (.yes se_int) .no) (sa_cons (se_add (se_var 1) (se_lst (sa_cons (se_b1 call_lenU c1_len rfl (m_len Y) (by decide +kernel) (se_var 1)) sa_nil))) (sa_cons (se_add (se_var 1) (se_sl (se_var 1) .no (.yes se_int))) (sa_cons (se_lst (sa_cons (se_var 1) sa_nil)) (sa_cons se_dic0 (sa_cons se_non (sa_cons se_str (sa_cons se_int (sa_cons (se_lst sa_nil) (sa_cons (se_lst (sa_cons se_non sa_nil)) sa_nil)))))))))))))))
    (ss_cons (ss_set 3 nd rfl (by first | exact Or.inl rfl | exact Or.inr rfl) (by decide) (se_t1 call_list_of c1_list rfl (m_list Y) (by decide +kernel) (se_var 1)))
    (ss_cons (ss_asg (se_tup (sa_cons (se_sub_ix (se_var 1) (se_var 6)) (sa_cons (se_sub_ix (se_var 1) (se_var 5)) sa_nil))) (sg_tup rfl (sgs_cons (sg_sub (se_var 3) (se_var 5)) (sgs_cons (sg_sub (se_var 3) (se_var 6)) sgs_nil))))
    (ss_cons (ss_expr (se_app (se_var 2) (se_var 3)))
    (ss_cons (ss_for (passes_of rfl) rfl (si_seq (se_lst (sa_cons (se_sub_ix (se_var 1) (se_var 6)) (sa_cons (se_neg se_int) (sa_cons (se_b1 call_lenU c1_len rfl (m_len Y) (by decide +kernel) (se_var 1)) (sa_cons (se_pow se_int se_int) (sa_cons se_bl (sa_cons se_bl (sa_cons se_non (sa_cons (se_t1 call_strU c1_str rfl (m_str Y) (by decide +kernel) (se_sub_ix (se_var 1) (se_var 5))) (sa_cons (se_lst (sa_cons (se_sub_ix (se_var 1) (se_var 5)) sa_nil)) (sa_cons (se_tup (sa_cons (se_sub_ix (se_var 1) (se_var 5)) sa_nil)) (sa_cons (se_eq h64 (se_sub_ix (se_var 1) (se_var 5)) se_int) sa_nil))))))))))))) (sg_name 4 nd rfl (by first | exact Or.inl rfl | exact Or.inr rfl) (by decide)) (ss_one (ss_expr (se_app (se_var 2) (se_add (se_add (se_sl (se_var 1) .no (.yes (se_var 5))) (se_lst (sa_cons (se_var 4) sa_nil))) (se_sl (se_var 1) (.yes (se_add (se_var 5) se_int)) .no))))))
    (ss_one (ss_ret (se_add (se_var 2) (se_lst (sa_cons (se_lc false rfl nd (si_seq (se_var 1)) (own := [("_law_one", 4)]) (by kernel_rfl) (by decide) (by decide) (fun _ _ _ _ _ => (sg_name 4 nd rfl (by first | exact Or.inl rfl | exact Or.inr rfl) (by decide))) (fun _ _ _ _ _ => sts_nil) (fun _ _ _ _ _ => (se_tk (se_if (st_lt (se_var 4) se_int) (se_eq h64 (se_var 4) se_int) (se_var 4))))) (sa_cons (se_lc false rfl nd (si_seq (se_var 1)) (own := [("_law_one", 4)]) (by kernel_rfl) (by decide) (by decide) (fun _ _ _ _ _ => (sg_name 4 nd rfl (by first | exact Or.inl rfl | exact Or.inr rfl) (by decide))) (fun _ _ _ _ _ => sts_nil) (fun _ _ _ _ _ => (se_tk (se_add (se_var 4) se_int)))) (sa_cons (se_mul (se_lst (sa_cons se_int sa_nil)) (se_b1 call_lenU c1_len rfl (m_len Y) (by decide +kernel) (se_var 1))) sa_nil)))))))))))))
theorem S__law_near : FnScope N__law_near ["_law_tap_here", "_law_row"] (defScope (topS 22)) := ⟨rfl, rfl, rfl, by decide, rfl, by decide +kernel, by decide +kernel⟩
theorem D__law_near_2 (Y : Ctx K mg) : Dfn P w K mg base 2 "_law_near" 2 F__law_near 2 [] := by
  obtain ⟨_, X, G⟩ := Y.ex
  obtain ⟨fd, FD⟩ := Y.c.def_ 3 (d := d__law_near)
  have hb : Binds K fd ["_law_tap_here", "_law_row"] [] := FD.bindsN fun _ _ _ _ _ _ us h => by
    match us, h with
    | [a0, a1], _ => rfl
  exact ⟨⟨_, fd, ["_law_tap_here", "_law_row"], [], He.glo_ok X G (Y.c.fact 3), FD.kp, fnG_D FD S__law_near rfl fun cdv A outer s H E hr hgd => W__law_near Y cdv A outer s H E hr hgd, hb, .nil, rfl, rfl⟩⟩
/-! is_integer: 0 value, 1 low, 2 high -/
def N_is_integer : List Str := ["value", "low", "high"]
def B_is_integer : List Sl → Ot :=
    oSeq (oIf (sOr (sNot (sTru (s1 (gIsi "int") (sVar 0)))) (sTru (s1 (gIsi "bool") (sVar 0)))) (oRet (sC (.bool false))) (oNext))
    (oRet (sAndV (s2 gLe (sVar 1) (sVar 0)) (sOrV (s2 (gIs false) (sVar 2) (sC .none)) (s2 gLe (sVar 0) (sVar 2)))))
def F_is_integer : List Sl → FR := fnRun 3 3 [] B_is_integer
theorem W_is_integer (Y : Ctx K mg) {f : Addr} (cdv : Value) (A : Around) (outer : List Env) (s : Shared) (H : Hp) (E : XK) (hr : Room 0 (A.deeper (envOfC "is_integer" (defScope (topS 6)) s.heap.objs.size f cdv))) (hgd : A.guards = some []) :
    SSs (GX P w K mg base N_is_integer "is_integer" (defScope (topS 6)) f cdv A outer s H E) (GW E) [] (defBody (topS 6)) B_is_integer := by
  have h64 : (A.deeper (envOfC "is_integer" (defScope (topS 6)) s.heap.objs.size f cdv)).units + 64 < cLine := hr.units
  have h65 : (A.deeper (envOfC "is_integer" (defScope (topS 6)) s.heap.objs.size f cdv)).units + 65 < cLine := by have := hr.un; omega
  have nd : N_is_integer.Nodup := by decide
  exact (ss_cons (ss_if (st_w (sw_or (st_not (st_tru (se_isi (T := "int") (by decide +kernel) rfl (m_isinstance Y) rfl (m_int Y) (by decide +kernel) (se_var 0)))) (sw_or1 (st_tru (se_isi (T := "bool") (by decide +kernel) rfl (m_isinstance Y) rfl (m_bool Y) (by decide +kernel) (se_var 0)))))) (ss_one (ss_ret se_bl)) ss_nil)
    (ss_one (ss_ret (se_and (se_le (se_var 1) (se_var 0)) (se_oneA (se_or (se_is (se_var 2) se_non) (se_oneO (se_le (se_var 0) (se_var 2)))))))))
theorem S_is_integer : FnScope N_is_integer ["value", "low", "high"] (defScope (topS 6)) := ⟨rfl, rfl, rfl, by decide, rfl, by decide +kernel, by decide +kernel⟩
theorem D_is_integer_2 (Y : Ctx K mg) : Dfn P w K mg base 1 "is_integer" 3 F_is_integer 2 [.none] := by
  obtain ⟨_, X, G⟩ := Y.ex
  obtain ⟨fd, FD⟩ := Y.c.def_ 4 (d := d_is_integer)
  have hb := FD.binds1 (ps := ["value", "low", "high"]) 2 0 (fun z => nomatch z) rfl fun T kV doc pm an cdv ct us its h1 h2 => by
    match us, h1, its, h2 with
    | [a0, a1], _, [b0], _ => exact ⟨_, rfl, rfl⟩
  obtain ⟨ds, r, hb⟩ := hb
  exact ⟨⟨_, fd, ["value", "low", "high"], ds, He.glo_ok X G (Y.c.fact 4), FD.kp, fnG_D FD S_is_integer rfl fun cdv A outer s H E hr hgd => W_is_integer Y cdv A outer s H E hr hgd, hb, r, rfl, rfl⟩⟩
theorem D_is_integer_3 (Y : Ctx K mg) : Dfn P w K mg base 1 "is_integer" 3 F_is_integer 3 [] := by
  obtain ⟨_, X, G⟩ := Y.ex
  obtain ⟨fd, FD⟩ := Y.c.def_ 4 (d := d_is_integer)
  have hb := FD.binds1 (ps := ["value", "low", "high"]) 3 1 (fun z => nomatch z) rfl fun T kV doc pm an cdv ct us its h1 h2 => by
    match us, h1, its, h2 with
    | [a0, a1, a2], _, [b0], _ => exact ⟨_, rfl, rfl⟩
  obtain ⟨ds, r, hb⟩ := hb
  exact ⟨⟨_, fd, ["value", "low", "high"], ds, He.glo_ok X G (Y.c.fact 4), FD.kp, fnG_D FD S_is_integer rfl fun cdv A outer s H E hr hgd => W_is_integer Y cdv A outer s H E hr hgd, hb, r, rfl, rfl⟩⟩
/-! need_count: 0 count, 1 most -/
def N_need_count : List Str := ["count", "most"]
def B_need_count : List Sl → Ot :=
    oIf (sNot (sTru (sCall F_is_integer [] (rCons (sTk (sVar 0)) (rCons (sC (.int 1)) (rCons (sTk (sVar 1)) (rNil))))))) (fun _ => .bad) (oNext)
def F_need_count : List Sl → FR := fnRun 2 2 [] B_need_count
theorem W_need_count (Y : Ctx K mg) {f : Addr} (cdv : Value) (A : Around) (outer : List Env) (s : Shared) (H : Hp) (E : XK) (hr : Room 1 (A.deeper (envOfC "need_count" (defScope (topS 9)) s.heap.objs.size f cdv))) (hgd : A.guards = some []) :
    SSs (GX P w K mg base N_need_count "need_count" (defScope (topS 9)) f cdv A outer s H E) (GW E) [] (defBody (topS 9)) B_need_count := by
  have h64 : (A.deeper (envOfC "need_count" (defScope (topS 9)) s.heap.objs.size f cdv)).units + 64 < cLine := hr.units
  have h65 : (A.deeper (envOfC "need_count" (defScope (topS 9)) s.heap.objs.size f cdv)).units + 65 < cLine := by have := hr.un; omega
  have nd : N_need_count.Nodup := by decide
  exact (ss_one (ss_if (st_not (st_tru (se_callD ((D_is_integer_3 Y).mono (by decide)) hr hgd gx_pass rfl (sr_cons (se_tk (se_var 0)) (sr_cons se_int (sr_cons (se_tk (se_var 1)) sr_nil))) (len_rCons (len_rCons (len_rCons len_rNil)))))) (ss_one ss_never) ss_nil))
theorem S_need_count : FnScope N_need_count ["count", "most"] (defScope (topS 9)) := ⟨rfl, rfl, rfl, by decide, rfl, by decide +kernel, by decide +kernel⟩
theorem D_need_count_1 (Y : Ctx K mg) : Dfn P w K mg base 2 "need_count" 2 F_need_count 1 [.int 12] := by
  obtain ⟨_, X, G⟩ := Y.ex
  obtain ⟨fd, FD⟩ := Y.c.def_ 5 (d := d_need_count)
  have hb := FD.binds1 (ps := ["count", "most"]) 1 0 (fun z => nomatch z) rfl fun T kV doc pm an cdv ct us its h1 h2 => by
    match us, h1, its, h2 with
    | [a0], _, [b0], _ => exact ⟨_, rfl, rfl⟩
  obtain ⟨ds, r, hb⟩ := hb
  exact ⟨⟨_, fd, ["count", "most"], ds, He.glo_ok X G (Y.c.fact 5), FD.kp, fnG_D FD S_need_count rfl fun cdv A outer s H E hr hgd => W_need_count Y cdv A outer s H E hr hgd, hb, r, rfl, rfl⟩⟩
/-! is_each_once: 0 count, 1 value, 2 item -/
def N_is_each_once : List Str := ["count", "value", "item"]
def B_is_each_once : List Sl → Ot :=
    oSeq (oIf (sOr (sNot (sTru (s1 (gIsi "list") (sVar 1)))) (sOr (sTst (s2 gNe (s1 (gRd lenD) (sVar 1)) (sVar 0))) (sNot (sTru (s1 (gRd (overB fun ns => some (.bool (ns.all id)))) (sLc false (wSeq (sVar 1)) [2] (tgN 2) (tOk) (sTk (sCall F_is_integer [.none] (rCons (sTk (sVar 2)) (rCons (sC (.int 0)) (rNil))))))))))) (oRet (sC (.bool false))) (oNext))
    (oRet (s2 gEq (s1 (gSortI) (sVar 1)) (s1 gRg1 (sVar 0))))
def F_is_each_once : List Sl → FR := fnRun 2 3 [] B_is_each_once
theorem W_is_each_once (Y : Ctx K mg) {f : Addr} (cdv : Value) (A : Around) (outer : List Env) (s : Shared) (H : Hp) (E : XK) (hr : Room 1 (A.deeper (envOfC "is_each_once" (defScope (topS 7)) s.heap.objs.size f cdv))) (hgd : A.guards = some []) :
    SSs (GX P w K mg base N_is_each_once "is_each_once" (defScope (topS 7)) f cdv A outer s H E) (GW E) [] (defBody (topS 7)) B_is_each_once := by
  have h64 : (A.deeper (envOfC "is_each_once" (defScope (topS 7)) s.heap.objs.size f cdv)).units + 64 < cLine := hr.units
  have h65 : (A.deeper (envOfC "is_each_once" (defScope (topS 7)) s.heap.objs.size f cdv)).units + 65 < cLine := by have := hr.un; omega
  have nd : N_is_each_once.Nodup := by decide
  exact (ss_cons (ss_if (st_w (sw_or (st_not (st_tru (se_isi (T := "list") (by decide +kernel) rfl (m_isinstance Y) rfl (m_list Y) (by decide +kernel) (se_var 1)))) (sw_or (st_ne h64 (se_b1 call_lenU c1_len rfl (m_len Y) (by decide +kernel) (se_var 1)) (se_var 0)) (sw_or1 (st_not (st_tru (se_b1 (cr_all rfl) c1_all rfl (m_all Y) (by decide +kernel) (se_lc false rfl nd (si_seq (se_var 1)) (own := [("item", 2)]) (by kernel_rfl) (by decide) (by decide) (fun _ _ _ _ _ => (sg_name 2 nd rfl (by first | exact Or.inl rfl | exact Or.inr rfl) (by decide))) (fun _ _ _ _ _ => sts_nil) (fun _ _ _ _ _ => (se_tk (se_callD ((D_is_integer_2 Y).mono (by decide)) hr hgd w0_pass rfl (sr_cons (se_tk (se_var 2)) (sr_cons se_int sr_nil)) (len_rCons (len_rCons len_rNil))))))))))))) (ss_one (ss_ret se_bl)) ss_nil)
    (ss_one (ss_ret (se_eq h64 (se_b1 cr_sortedI c1_sortI rfl (m_sorted Y) (by decide +kernel) (se_var 1)) (se_lrg1 rfl rfl (m_list Y) rfl (m_range Y) (se_var 0))))))
theorem S_is_each_once : FnScope N_is_each_once ["count", "value"] (defScope (topS 7)) := ⟨rfl, rfl, rfl, by decide, rfl, by decide +kernel, by decide +kernel⟩
theorem D_is_each_once_2 (Y : Ctx K mg) : Dfn P w K mg base 2 "is_each_once" 2 F_is_each_once 2 [] := by
  obtain ⟨_, X, G⟩ := Y.ex
  obtain ⟨fd, FD⟩ := Y.c.def_ 6 (d := d_is_each_once)
  have hb : Binds K fd ["count", "value"] [] := FD.bindsN fun _ _ _ _ _ _ us h => by
    match us, h with
    | [a0, a1], _ => rfl
  exact ⟨⟨_, fd, ["count", "value"], [], He.glo_ok X G (Y.c.fact 6), FD.kp, fnG_D FD S_is_each_once rfl fun cdv A outer s H E hr hgd => W_is_each_once Y cdv A outer s H E hr hgd, hb, .nil, rfl, rfl⟩⟩
/-! is_ballot: 0 count, 1 value -/
def N_is_ballot : List Str := ["count", "value"]
def B_is_ballot : List Sl → Ot :=
    oSeq (oDrop (sCall F_need_count [.int 12] (rCons (sTk (sVar 0)) (rNil))))
    (oRet (sCall F_is_each_once [] (rCons (sTk (sVar 0)) (rCons (sTk (sVar 1)) (rNil)))))
def F_is_ballot : List Sl → FR := fnRun 2 2 [] B_is_ballot
theorem W_is_ballot (Y : Ctx K mg) {f : Addr} (cdv : Value) (A : Around) (outer : List Env) (s : Shared) (H : Hp) (E : XK) (hr : Room 2 (A.deeper (envOfC "is_ballot" (defScope (topS 11)) s.heap.objs.size f cdv))) (hgd : A.guards = some []) :
    SSs (GX P w K mg base N_is_ballot "is_ballot" (defScope (topS 11)) f cdv A outer s H E) (GW E) [] (defBody (topS 11)) B_is_ballot := by
  have h64 : (A.deeper (envOfC "is_ballot" (defScope (topS 11)) s.heap.objs.size f cdv)).units + 64 < cLine := hr.units
  have h65 : (A.deeper (envOfC "is_ballot" (defScope (topS 11)) s.heap.objs.size f cdv)).units + 65 < cLine := by have := hr.un; omega
  have nd : N_is_ballot.Nodup := by decide
  exact (ss_cons (ss_expr (se_callD ((D_need_count_1 Y).mono (by decide)) hr hgd gx_pass rfl (sr_cons (se_tk (se_var 0)) sr_nil) (len_rCons len_rNil)))
    (ss_one (ss_ret (se_callD ((D_is_each_once_2 Y).mono (by decide)) hr hgd gx_pass rfl (sr_cons (se_tk (se_var 0)) (sr_cons (se_tk (se_var 1)) sr_nil)) (len_rCons (len_rCons len_rNil))))))
theorem S_is_ballot : FnScope N_is_ballot ["count", "value"] (defScope (topS 11)) := ⟨rfl, rfl, rfl, by decide, rfl, by decide +kernel, by decide +kernel⟩
theorem D_is_ballot_2 (Y : Ctx K mg) : Dfn P w K mg base 3 "is_ballot" 2 F_is_ballot 2 [] := by
  obtain ⟨_, X, G⟩ := Y.ex
  obtain ⟨fd, FD⟩ := Y.c.def_ 7 (d := d_is_ballot)
  have hb : Binds K fd ["count", "value"] [] := FD.bindsN fun _ _ _ _ _ _ us h => by
    match us, h with
    | [a0, a1], _ => rfl
  exact ⟨⟨_, fd, ["count", "value"], [], He.glo_ok X G (Y.c.fact 7), FD.kp, fnG_D FD S_is_ballot rfl fun cdv A outer s H E hr hgd => W_is_ballot Y cdv A outer s H E hr hgd, hb, .nil, rfl, rfl⟩⟩
/-! are_each_once: 0 count, 1 value, 2 one -/
def N_are_each_once : List Str := ["count", "value", "one"]
def B_are_each_once : List Sl → Ot :=
    oRet (sAndV (s1 (gIsi "list") (sVar 1)) (sAndV (s2 gLe (s1 (gRd lenD) (sVar 1)) (sC (.int 40))) (s1 (gRd (overB fun ns => some (.bool (ns.all id)))) (sLc false (wSeq (sVar 1)) [2] (tgN 2) (tOk) (sTk (sCall F_is_each_once [] (rCons (sTk (sVar 0)) (rCons (sTk (sVar 2)) (rNil)))))))))
def F_are_each_once : List Sl → FR := fnRun 2 3 [] B_are_each_once
theorem W_are_each_once (Y : Ctx K mg) {f : Addr} (cdv : Value) (A : Around) (outer : List Env) (s : Shared) (H : Hp) (E : XK) (hr : Room 2 (A.deeper (envOfC "are_each_once" (defScope (topS 8)) s.heap.objs.size f cdv))) (hgd : A.guards = some []) :
    SSs (GX P w K mg base N_are_each_once "are_each_once" (defScope (topS 8)) f cdv A outer s H E) (GW E) [] (defBody (topS 8)) B_are_each_once := by
  have h64 : (A.deeper (envOfC "are_each_once" (defScope (topS 8)) s.heap.objs.size f cdv)).units + 64 < cLine := hr.units
  have h65 : (A.deeper (envOfC "are_each_once" (defScope (topS 8)) s.heap.objs.size f cdv)).units + 65 < cLine := by have := hr.un; omega
  have nd : N_are_each_once.Nodup := by decide
  exact (ss_one (ss_ret (se_and (se_isi (T := "list") (by decide +kernel) rfl (m_isinstance Y) rfl (m_list Y) (by decide +kernel) (se_var 1)) (se_and (se_le (se_b1 call_lenU c1_len rfl (m_len Y) (by decide +kernel) (se_var 1)) (se_globI rfl (m_MOST_BALLOTS Y))) (se_oneA (se_b1 (cr_all rfl) c1_all rfl (m_all Y) (by decide +kernel) (se_lc false rfl nd (si_seq (se_var 1)) (own := [("one", 2)]) (by kernel_rfl) (by decide) (by decide) (fun _ _ _ _ _ => (sg_name 2 nd rfl (by first | exact Or.inl rfl | exact Or.inr rfl) (by decide))) (fun _ _ _ _ _ => sts_nil) (fun _ _ _ _ _ => (se_tk (se_callD ((D_is_each_once_2 Y).mono (by decide)) hr hgd w0_pass rfl (sr_cons (se_tk (se_var 0)) (sr_cons (se_tk (se_var 2)) sr_nil)) (len_rCons (len_rCons len_rNil))))))))))))
theorem S_are_each_once : FnScope N_are_each_once ["count", "value"] (defScope (topS 8)) := ⟨rfl, rfl, rfl, by decide, rfl, by decide +kernel, by decide +kernel⟩
theorem D_are_each_once_2 (Y : Ctx K mg) : Dfn P w K mg base 3 "are_each_once" 2 F_are_each_once 2 [] := by
  obtain ⟨_, X, G⟩ := Y.ex
  obtain ⟨fd, FD⟩ := Y.c.def_ 8 (d := d_are_each_once)
  have hb : Binds K fd ["count", "value"] [] := FD.bindsN fun _ _ _ _ _ _ us h => by
    match us, h with
    | [a0, a1], _ => rfl
  exact ⟨⟨_, fd, ["count", "value"], [], He.glo_ok X G (Y.c.fact 8), FD.kp, fnG_D FD S_are_each_once rfl fun cdv A outer s H E hr hgd => W_are_each_once Y cdv A outer s H E hr hgd, hb, .nil, rfl, rfl⟩⟩
/-! are_ballots: 0 count, 1 value -/
def N_are_ballots : List Str := ["count", "value"]
def B_are_ballots : List Sl → Ot :=
    oSeq (oDrop (sCall F_need_count [.int 12] (rCons (sTk (sVar 0)) (rNil))))
    (oRet (sCall F_are_each_once [] (rCons (sTk (sVar 0)) (rCons (sTk (sVar 1)) (rNil)))))
def F_are_ballots : List Sl → FR := fnRun 2 2 [] B_are_ballots
theorem W_are_ballots (Y : Ctx K mg) {f : Addr} (cdv : Value) (A : Around) (outer : List Env) (s : Shared) (H : Hp) (E : XK) (hr : Room 3 (A.deeper (envOfC "are_ballots" (defScope (topS 12)) s.heap.objs.size f cdv))) (hgd : A.guards = some []) :
    SSs (GX P w K mg base N_are_ballots "are_ballots" (defScope (topS 12)) f cdv A outer s H E) (GW E) [] (defBody (topS 12)) B_are_ballots := by
  have h64 : (A.deeper (envOfC "are_ballots" (defScope (topS 12)) s.heap.objs.size f cdv)).units + 64 < cLine := hr.units
  have h65 : (A.deeper (envOfC "are_ballots" (defScope (topS 12)) s.heap.objs.size f cdv)).units + 65 < cLine := by have := hr.un; omega
  have nd : N_are_ballots.Nodup := by decide
  exact (ss_cons (ss_expr (se_callD ((D_need_count_1 Y).mono (by decide)) hr hgd gx_pass rfl (sr_cons (se_tk (se_var 0)) sr_nil) (len_rCons len_rNil)))
    (ss_one (ss_ret (se_callD ((D_are_each_once_2 Y).mono (by decide)) hr hgd gx_pass rfl (sr_cons (se_tk (se_var 0)) (sr_cons (se_tk (se_var 1)) sr_nil)) (len_rCons (len_rCons len_rNil))))))
theorem S_are_ballots : FnScope N_are_ballots ["count", "value"] (defScope (topS 12)) := ⟨rfl, rfl, rfl, by decide, rfl, by decide +kernel, by decide +kernel⟩
theorem D_are_ballots_2 (Y : Ctx K mg) : Dfn P w K mg base 4 "are_ballots" 2 F_are_ballots 2 [] := by
  obtain ⟨_, X, G⟩ := Y.ex
  obtain ⟨fd, FD⟩ := Y.c.def_ 9 (d := d_are_ballots)
  have hb : Binds K fd ["count", "value"] [] := FD.bindsN fun _ _ _ _ _ _ us h => by
    match us, h with
    | [a0, a1], _ => rfl
  exact ⟨⟨_, fd, ["count", "value"], [], He.glo_ok X G (Y.c.fact 9), FD.kp, fnG_D FD S_are_ballots rfl fun cdv A outer s H E hr hgd => W_are_ballots Y cdv A outer s H E hr hgd, hb, .nil, rfl, rfl⟩⟩
/-! _law_is_one: 0 _law_count, 1 _law_value, 2 _law_one -/
def N__law_is_one : List Str := ["_law_count", "_law_value", "_law_one"]
def B__law_is_one : List Sl → Ot :=
    oSeq (oIf (sOr (sNot (sTru (s1 (gIsi "list") (sVar 1)))) (sTst (s2 gNe (s1 (gRd lenD) (sVar 1)) (sVar 0)))) (oRet (sC (.bool false))) (oNext))
    (oSeq (oIf (sTst (s2 (gEqE true) (sLc false (wSeq (sVar 1)) [2] (tgN 2) (sOr (sNot (sTru (s1 (gIsi "int") (sVar 2)))) (sTru (s1 (gIsi "bool") (sVar 2)))) (sTk (sVar 2))) (sLst (lNil)))) (oRet (sC (.bool false))) (oNext))
    (oRet (s2 gEq (s1 (gSortI) (sVar 1)) (s1 gRg1 (sVar 0)))))
def F__law_is_one : List Sl → FR := fnRun 2 3 [] B__law_is_one
theorem W__law_is_one (Y : Ctx K mg) {f : Addr} (cdv : Value) (A : Around) (outer : List Env) (s : Shared) (H : Hp) (E : XK) (hr : Room 0 (A.deeper (envOfC "_law_is_one" (defScope (topS 20)) s.heap.objs.size f cdv))) (hgd : A.guards = some []) :
    SSs (GX P w K mg base N__law_is_one "_law_is_one" (defScope (topS 20)) f cdv A outer s H E) (GW E) [] (defBody (topS 20)) B__law_is_one := by
  have h64 : (A.deeper (envOfC "_law_is_one" (defScope (topS 20)) s.heap.objs.size f cdv)).units + 64 < cLine := hr.units
  have h65 : (A.deeper (envOfC "_law_is_one" (defScope (topS 20)) s.heap.objs.size f cdv)).units + 65 < cLine := by have := hr.un; omega
  have nd : N__law_is_one.Nodup := by decide
  exact (ss_cons (ss_if (st_w (sw_or (st_not (st_tru (se_isi (T := "list") (by decide +kernel) rfl (m_isinstance Y) rfl (m_list Y) (by decide +kernel) (se_var 1)))) (sw_or1 (st_ne h64 (se_b1 call_lenU c1_len rfl (m_len Y) (by decide +kernel) (se_var 1)) (se_var 0))))) (ss_one (ss_ret se_bl)) ss_nil)
    (ss_cons (ss_if (st_neE h64 (se_lc false rfl nd (si_seq (se_var 1)) (own := [("_law_one", 2)]) (by kernel_rfl) (by decide) (by decide) (fun _ _ _ _ _ => (sg_name 2 nd rfl (by first | exact Or.inl rfl | exact Or.inr rfl) (by decide))) (fun _ _ _ _ _ => (sts_one (st_w (sw_or (st_not (st_tru (se_isi (T := "int") (by decide +kernel) rfl (m_isinstance Y) rfl (m_int Y) (by decide +kernel) (se_var 2)))) (sw_or1 (st_tru (se_isi (T := "bool") (by decide +kernel) rfl (m_isinstance Y) rfl (m_bool Y) (by decide +kernel) (se_var 2)))))))) (fun _ _ _ _ _ => (se_tk (se_var 2)))) (se_lst sa_nil)) (ss_one (ss_ret se_bl)) ss_nil)
    (ss_one (ss_ret (se_eq h64 (se_b1 cr_sortedI c1_sortI rfl (m_sorted Y) (by decide +kernel) (se_var 1)) (se_lrg1 rfl rfl (m_list Y) rfl (m_range Y) (se_var 0)))))))
theorem S__law_is_one : FnScope N__law_is_one ["_law_count", "_law_value"] (defScope (topS 20)) := ⟨rfl, rfl, rfl, by decide, rfl, by decide +kernel, by decide +kernel⟩
theorem D__law_is_one_2 (Y : Ctx K mg) : Dfn P w K mg base 1 "_law_is_one" 2 F__law_is_one 2 [] := by
  obtain ⟨_, X, G⟩ := Y.ex
  obtain ⟨fd, FD⟩ := Y.c.def_ 10 (d := d__law_is_one)
  have hb : Binds K fd ["_law_count", "_law_value"] [] := FD.bindsN fun _ _ _ _ _ _ us h => by
    match us, h with
    | [a0, a1], _ => rfl
  exact ⟨⟨_, fd, ["_law_count", "_law_value"], [], He.glo_ok X G (Y.c.fact 10), FD.kp, fnG_D FD S__law_is_one rfl fun cdv A outer s H E hr hgd => W__law_is_one Y cdv A outer s H E hr hgd, hb, .nil, rfl, rfl⟩⟩
/-! _law_are_ones: 0 _law_count, 1 _law_value, 2 _law_one -/
def N__law_are_ones : List Str := ["_law_count", "_law_value", "_law_one"]
def B__law_are_ones : List Sl → Ot :=
    oSeq (oIf (sOr (sNot (sTru (s1 (gIsi "list") (sVar 1)))) (sTst (s2 gGt (s1 (gRd lenD) (sVar 1)) (sC (.int 40))))) (oRet (sC (.bool false))) (oNext))
    (oRet (s2 (gEqE false) (sLc false (wSeq (sVar 1)) [2] (tgN 2) (sNot (sTru (sCall F__law_is_one [] (rCons (sTk (sVar 0)) (rCons (sTk (sVar 2)) (rNil)))))) (sTk (sVar 2))) (sLst (lNil))))
def F__law_are_ones : List Sl → FR := fnRun 2 3 [] B__law_are_ones
theorem W__law_are_ones (Y : Ctx K mg) {f : Addr} (cdv : Value) (A : Around) (outer : List Env) (s : Shared) (H : Hp) (E : XK) (hr : Room 1 (A.deeper (envOfC "_law_are_ones" (defScope (topS 21)) s.heap.objs.size f cdv))) (hgd : A.guards = some []) :
    SSs (GX P w K mg base N__law_are_ones "_law_are_ones" (defScope (topS 21)) f cdv A outer s H E) (GW E) [] (defBody (topS 21)) B__law_are_ones := by
  have h64 : (A.deeper (envOfC "_law_are_ones" (defScope (topS 21)) s.heap.objs.size f cdv)).units + 64 < cLine := hr.units
  have h65 : (A.deeper (envOfC "_law_are_ones" (defScope (topS 21)) s.heap.objs.size f cdv)).units + 65 < cLine := by have := hr.un; omega
  have nd : N__law_are_ones.Nodup := by decide
  exact (ss_cons (ss_if (st_w (sw_or (st_not (st_tru (se_isi (T := "list") (by decide +kernel) rfl (m_isinstance Y) rfl (m_list Y) (by decide +kernel) (se_var 1)))) (sw_or1 (st_gt (se_b1 call_lenU c1_len rfl (m_len Y) (by decide +kernel) (se_var 1)) se_int)))) (ss_one (ss_ret se_bl)) ss_nil)
    (ss_one (ss_ret (se_eqE h64 (se_lc false rfl nd (si_seq (se_var 1)) (own := [("_law_one", 2)]) (by kernel_rfl) (by decide) (by decide) (fun _ _ _ _ _ => (sg_name 2 nd rfl (by first | exact Or.inl rfl | exact Or.inr rfl) (by decide))) (fun _ _ _ _ _ => (sts_one (st_not (st_tru (se_callD ((D__law_is_one_2 Y).mono (by decide)) hr hgd w0_pass rfl (sr_cons (se_tk (se_var 0)) (sr_cons (se_tk (se_var 2)) sr_nil)) (len_rCons (len_rCons len_rNil))))))) (fun _ _ _ _ _ => (se_tk (se_var 2)))) (se_lst sa_nil)))))
theorem S__law_are_ones : FnScope N__law_are_ones ["_law_count", "_law_value"] (defScope (topS 21)) := ⟨rfl, rfl, rfl, by decide, rfl, by decide +kernel, by decide +kernel⟩
theorem D__law_are_ones_2 (Y : Ctx K mg) : Dfn P w K mg base 2 "_law_are_ones" 2 F__law_are_ones 2 [] := by
  obtain ⟨_, X, G⟩ := Y.ex
  obtain ⟨fd, FD⟩ := Y.c.def_ 11 (d := d__law_are_ones)
  have hb : Binds K fd ["_law_count", "_law_value"] [] := FD.bindsN fun _ _ _ _ _ _ us h => by
    match us, h with
    | [a0, a1], _ => rfl
  exact ⟨⟨_, fd, ["_law_count", "_law_value"], [], He.glo_ok X G (Y.c.fact 11), FD.kp, fnG_D FD S__law_are_ones rfl fun cdv A outer s H E hr hgd => W__law_are_ones Y cdv A outer s H E hr hgd, hb, .nil, rfl, rfl⟩⟩
/-! _law_right: 0 _law_tap_here, 1 _law_count, 2 _law_row, 3 _law_values, 4 _law_rows, 5 _law_spot, 6 _law_lists, 7 _law_deep, 8 _law_turn, 9 _law_one, 10 _law_before, 11 _law_value, 12 _law_told -/
def N__law_right : List Str := ["_law_tap_here", "_law_count", "_law_row", "_law_values", "_law_rows", "_law_spot", "_law_lists", "_law_deep", "_law_turn", "_law_one", "_law_before", "_law_value", "_law_told"]
def B__law_right : List Sl → Ot :=
    oSeq (oAsg (s2 gAdd (sC (.int 1)) (sCall F__law_draw [] (rIo 0 (rCons (sC (.int 12)) (rNil))))) (tgN 1))
    (oSeq (oAsg (sCall F__law_mixed [] (rIo 0 (rCons (sTk (sVar 1)) (rNil)))) (tgN 2))
    (oSeq (oAsg (s2 gAdd (sCall F__law_near [] (rIo 0 (rCons (sTk (sVar 2)) (rNil)))) (sLst (lCons (sC (.bool true)) (lCons (sC (.str "")) (lCons (sTup (lNil)) (lCons (s1 gRg1 (s2 gAdd (sVar 1) (sC (.int 1)))) (lCons (s1 gRg1 (sVar 1)) (lNil)))))))) (tgN 3))
    (oSeq (oAsg (sLc false (wRng1 (sCall F__law_draw [] (rIo 0 (rCons (sC (.int 41)) (rNil))))) [8] (tgN 8) (tOk) (sTk (sCall F__law_mixed [] (rIo 0 (rCons (sTk (sVar 1)) (rNil)))))) (tgN 4))
    (oSeq (oAsg (sCall F__law_draw [] (rIo 0 (rCons (sTk (s2 gAdd (s1 (gRd lenD) (sVar 4)) (sC (.int 1)))) (rNil)))) (tgN 5))
    (oSeq (oAsg (sLst (lCons (sVar 4) (lCons (s1 (gTuple) (sVar 4)) (lCons (s2 gMulX (sSl (sVar 4) none (some (sC (.int 1)))) (sC (.int 40))) (lCons (s2 gMulX (sSl (sVar 4) none (some (sC (.int 1)))) (sC (.int 41))) (lCons (s2 gMulX (sSl (sVar 4) none (some (sC (.int 1)))) (sC (.int 500))) (lCons (sLst (lNil)) (lCons (sLst (lCons (sLst (lNil)) (lNil))) (lCons (sLst (lCons (sVar 4) (lNil))) (lCons (sDic0) (lCons (sC .none) (lCons (sC (.int 0)) (lCons (sC (.str "")) (lCons (sVar 2) (lNil))))))))))))))) (tgN 6))
    (oSeq (oAsg (sLst (lNil)) (tgN 7))
    (oSeq (oFor (wRng1 (sC (.int 18))) (tgN 8) (oAsg (sLst (lCons (sVar 7) (lNil))) (tgN 7)))
    (oSeq (oDrop (sApp (sVar 6) (sVar 7)))
    (oSeq (oFor (wSeq (sVar 3)) (tgN 9) (oDrop (sApp (sVar 6) (s2 gAdd (s2 gAdd (sSl (sVar 4) none (some (sVar 5))) (sLst (lCons (sVar 9) (lNil)))) (sSl (sVar 4) (some (s2 gAdd (sVar 5) (sC (.int 1)))) none)))))
    (oSeq (oAsg (s1 (gRd reprD) (sLst (lCons (sVar 3) (lCons (sVar 6) (lNil))))) (tgN 10))
    (oSeq (oFor (wSeq (s2 gAdd (sVar 3) (sVar 6))) (tgN 11) (oSeq (oAsg (sLst (lCons (sCall F_is_ballot [] (rCons (sTk (sVar 1)) (rCons (sTk (sVar 11)) (rNil)))) (lCons (sCall F_are_ballots [] (rCons (sTk (sVar 1)) (rCons (sTk (sVar 11)) (rNil)))) (lNil)))) (tgN 12))
    (oIf (sTst (s2 (gEqS true) (s1 (gRd reprD) (sVar 12)) (s1 (gRd reprD) (sLst (lCons (sCall F__law_is_one [] (rCons (sTk (sVar 1)) (rCons (sTk (sVar 11)) (rNil)))) (lCons (sCall F__law_are_ones [] (rCons (sTk (sVar 1)) (rCons (sTk (sVar 11)) (rNil)))) (lNil))))))) (oRet (sC (.bool false))) (oNext))))
    (oRet (s2 (gEqS false) (s1 (gRd reprD) (sLst (lCons (sVar 3) (lCons (sVar 6) (lNil))))) (sVar 10))))))))))))))
def F__law_right : List Sl → FR := fnRun 1 13 [0] B__law_right
theorem W__law_right (Y : Ctx K mg) {f : Addr} (cdv : Value) (A : Around) (outer : List Env) (s : Shared) (H : Hp) (E : XK) (hr : Room 4 (A.deeper (envOfC "_law_right" (defScope (topS 23)) s.heap.objs.size f cdv))) (hgd : A.guards = some []) :
    SSs (GX P w K mg base N__law_right "_law_right" (defScope (topS 23)) f cdv A outer s H E) (GW E) [0] (defBody (topS 23)) B__law_right := by
  have h64 : (A.deeper (envOfC "_law_right" (defScope (topS 23)) s.heap.objs.size f cdv)).units + 64 < cLine := hr.units
  have h65 : (A.deeper (envOfC "_law_right" (defScope (topS 23)) s.heap.objs.size f cdv)).units + 65 < cLine := by have := hr.un; omega
  have nd : N__law_right.Nodup := by decide
  exact (ss_cons (ss_set 1 nd rfl (by first | exact Or.inl rfl | exact Or.inr rfl) (by decide) (se_add se_int (se_callD ((D__law_draw_2 Y).mono (by decide)) hr hgd gx_pass rfl (sr_io 0 rfl (by first | exact Or.inl rfl | exact Or.inr (Or.inl rfl) | exact Or.inr (Or.inr rfl)) (sr_cons se_int sr_nil)) (len_rIo (len_rCons len_rNil)))))
    (ss_cons (ss_set 2 nd rfl (by first | exact Or.inl rfl | exact Or.inr rfl) (by decide) (se_callD ((D__law_mixed_2 Y).mono (by decide)) hr hgd gx_pass rfl (sr_io 0 rfl (by first | exact Or.inl rfl | exact Or.inr (Or.inl rfl) | exact Or.inr (Or.inr rfl)) (sr_cons (se_tk (se_var 1)) sr_nil)) (len_rIo (len_rCons len_rNil))))
    (ss_cons (ss_set 3 nd rfl (by first | exact Or.inl rfl | exact Or.inr rfl) (by decide) (se_add (se_callD ((D__law_near_2 Y).mono (by decide)) hr hgd gx_pass rfl (sr_io 0 rfl (by first | exact Or.inl rfl | exact Or.inr (Or.inl rfl) | exact Or.inr (Or.inr rfl)) (sr_cons (se_tk (se_var 2)) sr_nil)) (len_rIo (len_rCons len_rNil))) (se_lst (sa_cons se_bl (sa_cons se_str (sa_cons (se_tup sa_nil) (sa_cons (se_lrg1 rfl rfl (m_list Y) rfl (m_range Y) (se_add (se_var 1) se_int)) (sa_cons (se_lrg1 rfl rfl (m_list Y) rfl (m_range Y) (se_var 1)) sa_nil))))))))
    (ss_cons (ss_setLc false (i := 4) rfl nd rfl rfl (by decide) (sw_true rfl rfl rfl rfl) (si_rng1 rfl (m_range Y) (se_callD ((D__law_draw_2 Y).mono (by decide)) hr hgd gx_pass rfl (sr_io 0 rfl (by first | exact Or.inl rfl | exact Or.inr (Or.inl rfl) | exact Or.inr (Or.inr rfl)) (sr_cons se_int sr_nil)) (len_rIo (len_rCons len_rNil)))) (own := [("_law_turn", 8)]) (by kernel_rfl) (by decide) (by decide) (fun _ _ _ _ _ => (sg_name 8 nd rfl (by first | exact Or.inl rfl | exact Or.inr rfl) (by decide))) (fun _ _ _ _ _ => sts_nil) (fun _ _ _ _ _ => (se_tk (se_callD ((D__law_mixed_2 Y).mono (by decide)) hr hgd w0_pass rfl (sr_io 0 rfl (by first | exact Or.inl rfl | exact Or.inr (Or.inl rfl) | exact Or.inr (Or.inr rfl)) (sr_cons (se_tk (se_var 1)) sr_nil)) (len_rIo (len_rCons len_rNil))))))
    (ss_cons (ss_set 5 nd rfl (by first | exact Or.inl rfl | exact Or.inr rfl) (by decide) (se_callD ((D__law_draw_2 Y).mono (by decide)) hr hgd gx_pass rfl (sr_io 0 rfl (by first | exact Or.inl rfl | exact Or.inr (Or.inl rfl) | exact Or.inr (Or.inr rfl)) (sr_cons (se_tk (se_add (se_b1 call_lenU c1_len rfl (m_len Y) (by decide +kernel) (se_var 4)) se_int)) sr_nil)) (len_rIo (len_rCons len_rNil))))
    (ss_cons (ss_set 6 nd rfl (by first | exact Or.inl rfl | exact Or.inr rfl) (by decide) (se_lst (sa_cons (se_var 4) (sa_cons (se_t1 call_tuple_of c1_tuple rfl (m_tuple Y) (by decide +kernel) (se_var 4)) (sa_cons (se_mul (se_sl (se_var 4) .no (.yes se_int)) se_int) (sa_cons (se_mul (se_sl (se_var 4) .no (.yes se_int)) se_int) (sa_cons (se_mul (se_sl (se_var 4) .no (.yes se_int)) se_int) (sa_cons (se_lst sa_nil) (sa_cons (se_lst (sa_cons (se_lst sa_nil) sa_nil)) (sa_cons (se_lst (sa_cons (se_var 4) sa_nil)) (sa_cons se_dic0 (sa_cons se_non (sa_cons se_int (sa_cons se_str (sa_cons (se_var 2) sa_nil)))))))))))))))
    (ss_cons (ss_set 7 nd rfl (by first | exact Or.inl rfl | exact Or.inr rfl) (by decide) (se_lst sa_nil))
    (ss_cons (ss_for (passes_of rfl) rfl (si_rng1 rfl (m_range Y) se_int) (sg_name 8 nd rfl (by first | exact Or.inl rfl | exact Or.inr rfl) (by decide)) (ss_one (ss_set 7 nd rfl (by first | exact Or.inl rfl | exact Or.inr rfl) (by decide) (se_lst (sa_cons (se_var 7) sa_nil)))))
    (ss_cons (ss_expr (se_app (se_var 6) (se_var 7)))
    (ss_cons (ss_for (passes_of rfl) rfl (si_seq (se_var 3)) (sg_name 9 nd rfl (by first | exact Or.inl rfl | exact Or.inr rfl) (by decide)) (ss_one (ss_expr (se_app (se_var 6) (se_add (se_add (se_sl (se_var 4) .no (.yes (se_var 5))) (se_lst (sa_cons (se_var 9) sa_nil))) (se_sl (se_var 4) (.yes (se_add (se_var 5) se_int)) .no))))))
    (ss_cons (ss_set 10 nd rfl (by first | exact Or.inl rfl | exact Or.inr rfl) (by decide) (se_b1 (call_reprT h64 hgd) c1_repr rfl (m_repr Y) (by decide +kernel) (se_lst (sa_cons (se_var 3) (sa_cons (se_var 6) sa_nil)))))
    (ss_cons (ss_for (passes_of rfl) rfl (si_seq (se_add (se_var 3) (se_var 6))) (sg_name 11 nd rfl (by first | exact Or.inl rfl | exact Or.inr rfl) (by decide)) (ss_cons (ss_set 12 nd rfl (by first | exact Or.inl rfl | exact Or.inr rfl) (by decide) (se_lst (sa_cons (se_callD ((D_is_ballot_2 Y).mono (by decide)) hr hgd gx_pass rfl (sr_cons (se_tk (se_var 1)) (sr_cons (se_tk (se_var 11)) sr_nil)) (len_rCons (len_rCons len_rNil))) (sa_cons (se_callD ((D_are_ballots_2 Y).mono (by decide)) hr hgd gx_pass rfl (sr_cons (se_tk (se_var 1)) (sr_cons (se_tk (se_var 11)) sr_nil)) (len_rCons (len_rCons len_rNil))) sa_nil))))
    (ss_one (ss_if (st_neS (se_b1 (call_reprT h64 hgd) c1_repr rfl (m_repr Y) (by decide +kernel) (se_var 12)) (se_b1 (call_reprT h64 hgd) c1_repr rfl (m_repr Y) (by decide +kernel) (se_lst (sa_cons (se_callD ((D__law_is_one_2 Y).mono (by decide)) hr hgd gx_pass rfl (sr_cons (se_tk (se_var 1)) (sr_cons (se_tk (se_var 11)) sr_nil)) (len_rCons (len_rCons len_rNil))) (sa_cons (se_callD ((D__law_are_ones_2 Y).mono (by decide)) hr hgd gx_pass rfl (sr_cons (se_tk (se_var 1)) (sr_cons (se_tk (se_var 11)) sr_nil)) (len_rCons (len_rCons len_rNil))) sa_nil))))) (ss_one (ss_ret se_bl)) ss_nil))))
    (ss_one (ss_ret (se_eqS (se_b1 (call_reprT h64 hgd) c1_repr rfl (m_repr Y) (by decide +kernel) (se_lst (sa_cons (se_var 3) (sa_cons (se_var 6) sa_nil)))) (se_var 10))))))))))))))))
theorem S__law_right : FnScope N__law_right ["_law_tap_here"] (defScope (topS 23)) := ⟨rfl, rfl, rfl, by decide, rfl, by decide +kernel, by decide +kernel⟩
theorem D__law_right_1 (Y : Ctx K mg) : Dfn P w K mg base 5 "_law_right" 1 F__law_right 1 [] := by
  obtain ⟨_, X, G⟩ := Y.ex
  obtain ⟨fd, FD⟩ := Y.c.def_ 12 (d := d__law_right)
  have hb : Binds K fd ["_law_tap_here"] [] := FD.bindsN fun _ _ _ _ _ _ us h => by
    match us, h with
    | [a0], _ => rfl
  exact ⟨⟨_, fd, ["_law_tap_here"], [], He.glo_ok X G (Y.c.fact 12), FD.kp, fnG_D FD S__law_right rfl fun cdv A outer s H E hr hgd => W__law_right Y cdv A outer s H E hr hgd, hb, .nil, rfl, rfl⟩⟩
/-! _law_tap: 0 _law_cell, 1 _law_turn, 2 _law_whole -/
def N__law_tap : List Str := ["_law_cell", "_law_turn", "_law_whole"]
def B__law_tap : List Sl → Ot :=
    oSeq (oAsg (s2 gAdd (s2 gMulX (sC (.int 2)) (s1 (gRd absD) (sVar 0))) (s1 (gRd intD) (s2 gLt (sVar 0) (sC (.int 0))))) (tgN 2))
    (oRet (sLst (lCons (sVar 2) (lCons (s2 gAdd (s2 gAdd (s2 gMod (s1 (gRd intD) (sVar 2)) (sC (.int 4294967291))) (s2 gMulX (sC (.int 977)) (sVar 1))) (sC (.int 1))) (lCons (s2 gAdd (s2 gAdd (s2 gMod (s1 (gRd intD) (sVar 2)) (sC (.int 2147483587))) (s2 gMulX (sC (.int 31)) (sVar 1))) (sC (.int 2))) (lNil))))))
def F__law_tap : List Sl → FR := fnRun 2 3 [] B__law_tap
theorem W__law_tap (Y : Ctx K mg) {f : Addr} (cdv : Value) (A : Around) (outer : List Env) (s : Shared) (H : Hp) (E : XK) (hr : Room 0 (A.deeper (envOfC "_law_tap" (defScope (topS 14)) s.heap.objs.size f cdv))) (hgd : A.guards = some []) :
    SSs (GX P w K mg base N__law_tap "_law_tap" (defScope (topS 14)) f cdv A outer s H E) (GW E) [] (defBody (topS 14)) B__law_tap := by
  have h64 : (A.deeper (envOfC "_law_tap" (defScope (topS 14)) s.heap.objs.size f cdv)).units + 64 < cLine := hr.units
  have h65 : (A.deeper (envOfC "_law_tap" (defScope (topS 14)) s.heap.objs.size f cdv)).units + 65 < cLine := by have := hr.un; omega
  have nd : N__law_tap.Nodup := by decide
  exact (ss_cons (ss_set 2 nd rfl (by first | exact Or.inl rfl | exact Or.inr rfl) (by decide) (se_add (se_mul se_int (se_b1 call_abs c1_abs rfl (m_abs Y) (by decide +kernel) (se_var 0))) (se_t1 call_int1 c1_int rfl (m_int Y) (by decide +kernel) (se_lt (se_var 0) se_int))))
    (ss_one (ss_ret (se_lst (sa_cons (se_var 2) (sa_cons (se_add (se_add (se_mod (se_t1 call_int1 c1_int rfl (m_int Y) (by decide +kernel) (se_var 2)) se_int) (se_mul se_int (se_var 1))) se_int) (sa_cons (se_add (se_add (se_mod (se_t1 call_int1 c1_int rfl (m_int Y) (by decide +kernel) (se_var 2)) se_int) (se_mul se_int (se_var 1))) se_int) sa_nil)))))))
theorem S__law_tap : FnScope N__law_tap ["_law_cell", "_law_turn"] (defScope (topS 14)) := ⟨rfl, rfl, rfl, by decide, rfl, by decide +kernel, by decide +kernel⟩
theorem D__law_tap_2 (Y : Ctx K mg) : Dfn P w K mg base 1 "_law_tap" 2 F__law_tap 2 [] := by
  obtain ⟨_, X, G⟩ := Y.ex
  obtain ⟨fd, FD⟩ := Y.c.def_ 13 (d := d__law_tap)
  have hb : Binds K fd ["_law_cell", "_law_turn"] [] := FD.bindsN fun _ _ _ _ _ _ us h => by
    match us, h with
    | [a0, a1], _ => rfl
  exact ⟨⟨_, fd, ["_law_cell", "_law_turn"], [], He.glo_ok X G (Y.c.fact 13), FD.kp, fnG_D FD S__law_tap rfl fun cdv A outer s H E hr hgd => W__law_tap Y cdv A outer s H E hr hgd, hb, .nil, rfl, rfl⟩⟩
/-! law: 0 _law_script, 1 _law_cells_here, 2 _law_k -/
def N_law : List Str := ["_law_script", "_law_cells_here", "_law_k"]
def B_law : List Sl → Ot :=
    oSeq (oAsg (sCall F__law_cells [] (rCons (sTk (sVar 0)) (rCons (sC (.int 6)) (rNil)))) (tgN 1))
    (oRet (s2 (gEqE false) (sLc false (wRng1 (s1 (gRd lenD) (sVar 1))) [2] (tgN 2) (sNot (sTru (sCall F__law_right [] (rCons (sCall F__law_tap [] (rCons (sTk (s2 gIx (sVar 1) (sVar 2))) (rCons (sTk (sVar 2)) (rNil)))) (rNil))))) (sTk (sVar 2))) (sLst (lNil))))
def F_law : List Sl → FR := fnRun 1 3 [] B_law
theorem W_law (Y : Ctx K mg) {f : Addr} (cdv : Value) (A : Around) (outer : List Env) (s : Shared) (H : Hp) (E : XK) (hr : Room 5 (A.deeper (envOfC "law" (defScope (topS 24)) s.heap.objs.size f cdv))) (hgd : A.guards = some []) :
    SSs (GX P w K mg base N_law "law" (defScope (topS 24)) f cdv A outer s H E) (GW E) [] (defBody (topS 24)) B_law := by
  have h64 : (A.deeper (envOfC "law" (defScope (topS 24)) s.heap.objs.size f cdv)).units + 64 < cLine := hr.units
  have h65 : (A.deeper (envOfC "law" (defScope (topS 24)) s.heap.objs.size f cdv)).units + 65 < cLine := by have := hr.un; omega
  have nd : N_law.Nodup := by decide
  exact (ss_cons (ss_set 1 nd rfl (by first | exact Or.inl rfl | exact Or.inr rfl) (by decide) (se_callD ((D__law_cells_2 Y).mono (by decide)) hr hgd gx_pass rfl (sr_cons (se_tk (se_var 0)) (sr_cons se_int sr_nil)) (len_rCons (len_rCons len_rNil))))
    (ss_one (ss_ret (se_eqE h64 (se_lc false rfl nd (si_rng1 rfl (m_range Y) (se_b1 call_lenU c1_len rfl (m_len Y) (by decide +kernel) (se_var 1))) (own := [("_law_k", 2)]) (by kernel_rfl) (by decide) (by decide) (fun _ _ _ _ _ => (sg_name 2 nd rfl (by first | exact Or.inl rfl | exact Or.inr rfl) (by decide))) (fun _ _ _ _ _ => (sts_one (st_not (st_tru (se_callD ((D__law_right_1 Y).mono (by decide)) hr hgd w0_pass rfl (sr_cons (se_callD ((D__law_tap_2 Y).mono (by decide)) hr hgd w0_pass rfl (sr_cons (se_tk (se_sub_ix (se_var 1) (se_var 2))) (sr_cons (se_tk (se_var 2)) sr_nil)) (len_rCons (len_rCons len_rNil))) sr_nil) (len_rCons len_rNil)))))) (fun _ _ _ _ _ => (se_tk (se_var 2)))) (se_lst sa_nil)))))
theorem S_law : FnScope N_law ["_law_script"] (defScope (topS 24)) := ⟨rfl, rfl, rfl, by decide, rfl, by decide +kernel, by decide +kernel⟩
theorem D_law_1 (Y : Ctx K mg) : Dfn P w K mg base 6 "law" 1 F_law 1 [] := by
  obtain ⟨_, X, G⟩ := Y.ex
  obtain ⟨fd, FD⟩ := Y.c.def_ 14 (d := d_law)
  have hb : Binds K fd ["_law_script"] [] := FD.bindsN fun _ _ _ _ _ _ us h => by
    match us, h with
    | [a0], _ => rfl
  exact ⟨⟨_, fd, ["_law_script"], [], He.glo_ok X G (Y.c.fact 14), FD.kp, fnG_D FD S_law rfl fun cdv A outer s H E hr hgd => W_law Y cdv A outer s H E hr hgd, hb, .nil, rfl, rfl⟩⟩
end K01

namespace K01
open PySem Hb L2
theorem rng2 : List.range 2 = [0, 1] := rfl
theorem rng1 : List.range 1 = [0] := rfl
theorem rng3 : List.range 3 = [0, 1, 2] := rfl
theorem draw_big {a b c n : Int} (ha : 10 ^ 18 ≤ a) (h1 : 0 < n) (h2 : n < 1073741824) : F__law_draw [tapS a b c, .fz (.int n)] = .ok (.fz (.int (a % n))) [tapS (a / n) b c, .no] := by
  have h3 : (1000000000000000000 : Int) ≤ a := ha
  simp [F__law_draw, B__law_draw, fnRun, oSeq, oIf, sTst, s2, s1, sSt, sVar, sC, gB, rdC, gI, gIx, itemA, atI, ixN, El.fzd, oAsg, gRd, intD, tgN, tgS, setA, oRet, sMv, moveI, outs, rdA, Sl.tree, flatD, allFz, upS, dropAl, noAl, gAdd, gMulX, sCall, callF, rIo, rCons, rNil, argsS, argS, iosOf, backS, putB, clr, AV.ofSl, arOf, sTk, takeI, lNil, lCons, sLst, sTup, Rs.val, oDrop, gGe, gPow, gMod, gFdiv, h1, h2, h3]
  rfl
theorem draw_small {a b c n : Int} (ha : a < 10 ^ 18) (h1 : 0 < n) (h2 : n < 1073741824) (hc : c.natAbs < 2 ^ 64) : ∃ b' c', F__law_draw [tapS a b c, .fz (.int n)] = .ok (.fz (.int ((b' / 32 + c' / 16) % n))) [tapS a b' c', .no] ∧ c'.natAbs < 2 ^ 64 := by
  have h3 : ¬ (1000000000000000000 : Int) ≤ a := by omega
  have hc' : c.natAbs < 18446744073709551616 := hc
  refine ⟨(b * 69069 + 40503) % 4294967291, (c * c + (b * 69069 + 40503) % 4294967291) % 2147483587, ?_, by omega⟩
  simp [F__law_draw, B__law_draw, fnRun, oSeq, oIf, sTst, s2, s1, sSt, sVar, sC, gB, rdC, gI, gIx, itemA, atI, ixN, El.fzd, oAsg, gRd, intD, tgN, tgS, setA, oRet, sMv, moveI, outs, rdA, Sl.tree, flatD, allFz, upS, dropAl, noAl, gAdd, gMulX, sCall, callF, rIo, rCons, rNil, argsS, argS, iosOf, backS, putB, clr, AV.ofSl, arOf, sTk, takeI, lNil, lCons, sLst, sTup, Rs.val, oDrop, gGe, gPow, gMod, gFdiv, h1, h2, h3, hc']
  rfl
def Tap (T : Sl) : Prop := ∃ a b c, T = tapS a b c ∧ c.natAbs < 2 ^ 64
theorem draw_ok {T : Sl} (h : Tap T) {n : Int} (h1 : 0 < n) (h2 : n < 1073741824) : ∃ T' r, F__law_draw [T, .fz (.int n)] = .ok (.fz (.int r)) [T', .no] ∧ Tap T' ∧ 0 ≤ r ∧ r < n := by
  obtain ⟨a, b, c, rfl, hc⟩ := h
  by_cases ha : 10 ^ 18 ≤ a
  · exact ⟨_, _, draw_big ha h1 h2, ⟨_, _, _, rfl, hc⟩, Int.emod_nonneg _ (by omega), Int.emod_lt_of_pos _ h1⟩
  · obtain ⟨b', c', e, hc'⟩ := draw_small (a := a) (b := b) (by omega) h1 h2 hc
    exact ⟨_, _, e, ⟨_, _, _, rfl, hc'⟩, Int.emod_nonneg _ (by omega), Int.emod_lt_of_pos _ h1⟩
theorem tap_ok (c k : Int) (h1 : 0 ≤ k) (h2 : k ≤ 100) : ∃ T, F__law_tap [.fz (.int c), .fz (.int k)] = .ok T [.no, .no] ∧ Tap T := by
  have h : ∃ a b e, F__law_tap [.fz (.int c), .fz (.int k)] = .ok (tapS a b e) [.no, .no] ∧ e.natAbs < 2 ^ 64 := by
    by_cases hc : c < 0
    · refine ⟨2 * -c + 1, (2 * -c + 1) % 4294967291 + 977 * k + 1, (2 * -c + 1) % 2147483587 + 31 * k + 2, ?_, by omega⟩
      simp [F__law_tap, B__law_tap, fnRun, oSeq, oIf, sTst, s2, s1, sSt, sVar, sC, gB, rdC, gI, gIx, itemA, atI, ixN, El.fzd, oAsg, gRd, intD, tgN, tgS, setA, oRet, sMv, moveI, outs, rdA, Sl.tree, flatD, allFz, upS, dropAl, noAl, gAdd, gMulX, sCall, callF, rIo, rCons, rNil, argsS, argS, iosOf, backS, putB, clr, AV.ofSl, arOf, sTk, takeI, lNil, lCons, sLst, sTup, Rs.val, oDrop, gMod, gLt, absD, cap, hc]
      rfl
    · refine ⟨2 * c + 0, (2 * c + 0) % 4294967291 + 977 * k + 1, (2 * c + 0) % 2147483587 + 31 * k + 2, ?_, by omega⟩
      simp [F__law_tap, B__law_tap, fnRun, oSeq, oIf, sTst, s2, s1, sSt, sVar, sC, gB, rdC, gI, gIx, itemA, atI, ixN, El.fzd, oAsg, gRd, intD, tgN, tgS, setA, oRet, sMv, moveI, outs, rdA, Sl.tree, flatD, allFz, upS, dropAl, noAl, gAdd, gMulX, sCall, callF, rIo, rCons, rNil, argsS, argS, iosOf, backS, putB, clr, AV.ofSl, arOf, sTk, takeI, lNil, lCons, sLst, sTup, Rs.val, oDrop, gMod, gLt, absD, cap, hc]
      rfl
  obtain ⟨a, b, e, h, he⟩ := h
  exact ⟨_, h, _, _, _, rfl, he⟩
theorem tap_io {T : Sl} (h : Tap T) : ∃ xs, T = .ol xs := by
  obtain ⟨a, b, c, rfl, _⟩ := h
  exact ⟨_, rfl⟩
end K01

namespace K01
open PySem Hb L2
def mixT : List Sl → Rs Bool := sTst (s2 (gEqE true) (sVar 2) (sLst (lNil)))
def mixB : List Sl → Ot := oDrop (sApp (sVar 3) (sPop1 (sVar 2) (sCall F__law_draw [] (rIo 0 (rCons (sTk (s1 (gRd lenD) (sVar 2))) (rNil))))))
theorem ixN_nat {n : Nat} {i : Int} (h0 : 0 ≤ i) (h1 : i < n) : ixN n i = some i.toNat := by
  unfold ixN
  rw [if_pos h0, if_pos h1]
theorem mapD (ds : List PyData) : (ds.map El.fz).map El.d = ds := by
  induction ds with
  | nil => rfl
  | cons d r ih => simp [El.d, ih]
theorem mixT_ok {q0 q1 q3 : Sl} {ds : List PyData} : mixT [q0, q1, .ol (ds.map .fz), q3] = .ok (!ds.isEmpty) [q0, q1, .ol (ds.map .fz), q3] := by
  simp [mixT, gEqE, fnRun, oSeq, oIf, sTst, s2, s1, sSt, sVar, sC, gB, rdC, gI, gIx, itemA, atI, El.fzd, oAsg, gRd, intD, tgN, tgS, setA, oRet, sMv, moveI, outs, rdA, Sl.tree, flatD, allFz, upS, dropAl, noAl, gAdd, gMulX, sCall, callF, rIo, rCons, rNil, argsS, argS, iosOf, backS, putB, clr, AV.ofSl, arOf, sTk, takeI, lNil, lCons, sLst, sTup, Rs.val, oDrop, mapD, cap]
theorem mix_step {xs : List El} (hT : Tap (.ol xs)) {n : Int} {ds fs : List PyData} (hne : ds ≠ []) (hl : ds.length ≤ 1000) (hf : fs.length ≤ 1000) :
    ∃ xs' j, Tap (.ol xs') ∧ ∃ h : j < ds.length, mixB [.ol xs, .fz (.int n), .ol (ds.map .fz), .ol (fs.map .fz)] = .nx [.ol xs', .fz (.int n), .ol ((ds.eraseIdx j).map .fz), .ol ((fs ++ [ds[j]]).map .fz)] := by
  have h0 : 0 < ds.length := List.length_pos_iff.mpr hne
  obtain ⟨T', r, e, hT', r0, r1⟩ := draw_ok hT (n := ds.length) (by omega) (by omega)
  obtain ⟨xs', rfl⟩ := tap_io hT'
  have hj : r.toNat < ds.length := by omega
  refine ⟨xs', r.toNat, hT', hj, ?_⟩
  have c1 : ds.length ≤ 1000000 := by omega
  have c2 : fs.length ≤ 1000000 := by omega
  simp [mixB, sApp, sPop1, isLst, popI, appA, appI, lenD, mapD, cap, fnRun, oSeq, oIf, sTst, s2, s1, sSt, sVar, sC, gB, rdC, gI, gIx, itemA, atI, El.fzd, oAsg, gRd, intD, tgN, tgS, setA, oRet, sMv, moveI, outs, rdA, Sl.tree, flatD, allFz, upS, dropAl, noAl, gAdd, gMulX, sCall, callF, rIo, rCons, rNil, argsS, argS, iosOf, backS, putB, clr, AV.ofSl, arOf, sTk, takeI, lNil, lCons, sLst, sTup, Rs.val, oDrop, e, ixN_nat r0 r1, hj, c1, c2]
end K01

namespace K01
open PySem Hb L2
theorem perm_erase {α : Type} : ∀ (l : List α) (j : Nat) (h : j < l.length), (l[j] :: l.eraseIdx j).Perm l
  | a :: t, 0, _ => .refl _
  | a :: t, j + 1, h => by
    have ih := perm_erase t j (by simpa using h)
    simp only [List.getElem_cons_succ, List.eraseIdx_cons_succ]
    exact (List.Perm.swap _ _ _).trans (ih.cons a)
theorem mix_loop : ∀ (k : Nat) {xs : List El} {n : Int} {ds fs : List PyData} {fuel : Nat}, Tap (.ol xs) → ds.length = k → ds.length + fs.length ≤ 1000 → k < fuel →
    ∃ xs' out, oWh mixT mixB fuel [.ol xs, .fz (.int n), .ol (ds.map .fz), .ol (fs.map .fz)] = .nx [.ol xs', .fz (.int n), .ol [], .ol ((fs ++ out).map .fz)] ∧ Tap (.ol xs') ∧ out.Perm ds
  | 0, xs, n, ds, fs, fuel, hT, hk, hl, hf => by
    obtain ⟨m, rfl⟩ : ∃ m, fuel = m + 1 := ⟨fuel - 1, by omega⟩
    have hd : ds = [] := List.length_eq_zero_iff.mp hk
    subst hd
    refine ⟨xs, [], ?_, hT, .refl _⟩
    unfold oWh
    rw [mixT_ok]
    simp
  | k + 1, xs, n, ds, fs, fuel, hT, hk, hl, hf => by
    obtain ⟨m, rfl⟩ : ∃ m, fuel = m + 1 := ⟨fuel - 1, by omega⟩
    have hne : ds ≠ [] := fun z => by rw [z] at hk; cases hk
    have he : ds.isEmpty = false := by cases ds with
      | nil => exact absurd rfl hne
      | cons _ _ => rfl
    obtain ⟨xs1, j, hT1, hj, e1⟩ := mix_step hT (n := n) (ds := ds) (fs := fs) hne (by omega) (by omega)
    have hlen : (ds.eraseIdx j).length = k := by rw [List.length_eraseIdx_of_lt hj]; omega
    obtain ⟨xs2, out, e2, hT2, p⟩ := mix_loop k (n := n) (ds := ds.eraseIdx j) (fs := fs ++ [ds[j]]) (fuel := m) hT1 hlen (by simp; omega) (by omega)
    refine ⟨xs2, ds[j] :: out, ?_, hT2, (p.cons _).trans (perm_erase ds j hj)⟩
    unfold oWh
    rw [mixT_ok, he]
    simp only [Bool.not_false, e_ot, if_true, e1, e2]
    simp
theorem rgD_len (n : Int) : (rgD 0 n).length = n.toNat := by simp [rgD]
theorem mixed_ok {xs : List El} (hT : Tap (.ol xs)) {n : Int} (h0 : 0 ≤ n) (h1 : n ≤ 900) : ∃ (xs' : List El) (p : List PyData), F__law_mixed [.ol xs, .fz (.int n)] = .ok (.ol (p.map .fz)) [.ol xs', .no] ∧ Tap (.ol xs') ∧ p.Perm (rgD 0 n) := by
  obtain ⟨xs', p, e, hT', pp⟩ := mix_loop (rgD 0 n).length (n := n) (ds := rgD 0 n) (fs := []) (fuel := 1000) hT rfl (by simp [rgD_len]; omega) (by rw [rgD_len]; omega)
  rw [List.map_nil, List.nil_append] at e
  refine ⟨xs', p, ?_, hT', pp⟩
  have e0 : oPar [2, 3] (rCons (s1 gRg1 (sVar 1)) (rCons (sLst (lNil)) (rNil))) [.ol xs, .fz (.int n), .no, .no] = .nx [.ol xs, .fz (.int n), .ol ((rgD 0 n).map .fz), .ol []] := by
    have c : -1000000 ≤ n := by omega
    have c2 : n ≤ 1000000 := by omega
    simp [oPar, gRg1, mkRg, asgA, noIo, fnRun, oSeq, oIf, sTst, s2, s1, sSt, sVar, sC, gB, rdC, gI, gIx, itemA, atI, El.fzd, oAsg, gRd, intD, tgN, tgS, setA, oRet, sMv, moveI, outs, rdA, Sl.tree, flatD, allFz, upS, dropAl, noAl, gAdd, gMulX, sCall, callF, rIo, rCons, rNil, argsS, argS, iosOf, backS, putB, clr, AV.ofSl, arOf, sTk, takeI, lNil, lCons, sLst, sTup, Rs.val, oDrop, c, c2]
  have e1 : B__law_mixed [.ol xs, .fz (.int n), .no, .no] = .rt (.ol (p.map .fz)) [.ol xs', .fz (.int n), .ol [], .no] := by
    show oSeq _ (oSeq (oWh mixT mixB 1000) (oRet (sVar 3))) _ = _
    rw [e_oSeq e0, e_oSeq e]
    simp [oRet, sMv, sVar, moveI, Rs.ot, upS, dropAl]
  show fnRun 2 4 [0] B__law_mixed _ = _
  unfold fnRun
  show (match B__law_mixed [.ol xs, .fz (.int n), .no, .no] with
    | .nx δ' => FR.ok (.fz .none) (outs 2 [0] δ')
    | .rt s δ' => .ok s (outs 2 [0] δ')
    | .er x δ' => .er x (outs 2 [0] δ')
    | _ => .bad) = _
  rw [e1]
  rfl
end K01

namespace K01
open PySem Hb L2
def isI : PyData → Bool
  | .int _ => true
  | _ => false
def isN : PyData → Bool
  | .int i => decide (0 ≤ i)
  | _ => false
theorem isi_int (v : PyData) : (isiB (tyD v) "int" && !isiB (tyD v) "bool") = isI v := by
  cases v <;> rfl
theorem integer_ok (v : PyData) : F_is_integer [.fz v, .fz (.int 0), .fz .none] = .ok (.fz (.bool (isN v))) [.no, .no, .no] := by
  cases v with
  | int i =>
    have a1 : isiB "int" "int" = true := by decide
    have a2 : isiB "int" "bool" = false := by decide
    by_cases c : 0 ≤ i
    · simp [F_is_integer, B_is_integer, sOr, sNot, sTru, truD, gIsi, sAndV, sOrV, gIs, isD, gLe, tyD, fnRun, oSeq, oIf, sTst, s2, s1, sSt, sVar, sC, gB, rdC, gI, gIx, itemA, atI, El.fzd, oAsg, gRd, intD, tgN, tgS, setA, oRet, sMv, moveI, outs, rdA, Sl.tree, flatD, allFz, upS, dropAl, noAl, gAdd, gMulX, sCall, callF, rIo, rCons, rNil, argsS, argS, iosOf, backS, putB, clr, AV.ofSl, arOf, sTk, takeI, lNil, lCons, sLst, sTup, Rs.val, oDrop, a1, a2, c, isN]
      rfl
    · simp [F_is_integer, B_is_integer, sOr, sNot, sTru, truD, gIsi, sAndV, sOrV, gIs, isD, gLe, tyD, fnRun, oSeq, oIf, sTst, s2, s1, sSt, sVar, sC, gB, rdC, gI, gIx, itemA, atI, El.fzd, oAsg, gRd, intD, tgN, tgS, setA, oRet, sMv, moveI, outs, rdA, Sl.tree, flatD, allFz, upS, dropAl, noAl, gAdd, gMulX, sCall, callF, rIo, rCons, rNil, argsS, argS, iosOf, backS, putB, clr, AV.ofSl, arOf, sTk, takeI, lNil, lCons, sLst, sTup, Rs.val, oDrop, a1, a2, c, isN]
      rfl
  | bool b =>
    have a1 : isiB "bool" "int" = true := by decide
    have a2 : isiB "bool" "bool" = true := by decide
    simp [F_is_integer, B_is_integer, sOr, sNot, sTru, truD, gIsi, sAndV, sOrV, gIs, isD, gLe, tyD, fnRun, oSeq, oIf, sTst, s2, s1, sSt, sVar, sC, gB, rdC, gI, gIx, itemA, atI, El.fzd, oAsg, gRd, intD, tgN, tgS, setA, oRet, sMv, moveI, outs, rdA, Sl.tree, flatD, allFz, upS, dropAl, noAl, gAdd, gMulX, sCall, callF, rIo, rCons, rNil, argsS, argS, iosOf, backS, putB, clr, AV.ofSl, arOf, sTk, takeI, lNil, lCons, sLst, sTup, Rs.val, oDrop, a1, a2, isN]
    rfl
  | none =>
    have a1 : isiB "NoneType" "int" = false := by decide
    simp [F_is_integer, B_is_integer, sOr, sNot, sTru, truD, gIsi, sAndV, sOrV, gIs, isD, gLe, tyD, fnRun, oSeq, oIf, sTst, s2, s1, sSt, sVar, sC, gB, rdC, gI, gIx, itemA, atI, El.fzd, oAsg, gRd, intD, tgN, tgS, setA, oRet, sMv, moveI, outs, rdA, Sl.tree, flatD, allFz, upS, dropAl, noAl, gAdd, gMulX, sCall, callF, rIo, rCons, rNil, argsS, argS, iosOf, backS, putB, clr, AV.ofSl, arOf, sTk, takeI, lNil, lCons, sLst, sTup, Rs.val, oDrop, a1, isN]
    rfl
  | str x =>
    have a1 : isiB "str" "int" = false := by decide
    simp [F_is_integer, B_is_integer, sOr, sNot, sTru, truD, gIsi, sAndV, sOrV, gIs, isD, gLe, tyD, fnRun, oSeq, oIf, sTst, s2, s1, sSt, sVar, sC, gB, rdC, gI, gIx, itemA, atI, El.fzd, oAsg, gRd, intD, tgN, tgS, setA, oRet, sMv, moveI, outs, rdA, Sl.tree, flatD, allFz, upS, dropAl, noAl, gAdd, gMulX, sCall, callF, rIo, rCons, rNil, argsS, argS, iosOf, backS, putB, clr, AV.ofSl, arOf, sTk, takeI, lNil, lCons, sLst, sTup, Rs.val, oDrop, a1, isN]
    rfl
  | list x =>
    have a1 : isiB "list" "int" = false := by decide
    simp [F_is_integer, B_is_integer, sOr, sNot, sTru, truD, gIsi, sAndV, sOrV, gIs, isD, gLe, tyD, fnRun, oSeq, oIf, sTst, s2, s1, sSt, sVar, sC, gB, rdC, gI, gIx, itemA, atI, El.fzd, oAsg, gRd, intD, tgN, tgS, setA, oRet, sMv, moveI, outs, rdA, Sl.tree, flatD, allFz, upS, dropAl, noAl, gAdd, gMulX, sCall, callF, rIo, rCons, rNil, argsS, argS, iosOf, backS, putB, clr, AV.ofSl, arOf, sTk, takeI, lNil, lCons, sLst, sTup, Rs.val, oDrop, a1, isN]
    rfl
  | tuple x =>
    have a1 : isiB "tuple" "int" = false := by decide
    simp [F_is_integer, B_is_integer, sOr, sNot, sTru, truD, gIsi, sAndV, sOrV, gIs, isD, gLe, tyD, fnRun, oSeq, oIf, sTst, s2, s1, sSt, sVar, sC, gB, rdC, gI, gIx, itemA, atI, El.fzd, oAsg, gRd, intD, tgN, tgS, setA, oRet, sMv, moveI, outs, rdA, Sl.tree, flatD, allFz, upS, dropAl, noAl, gAdd, gMulX, sCall, callF, rIo, rCons, rNil, argsS, argS, iosOf, backS, putB, clr, AV.ofSl, arOf, sTk, takeI, lNil, lCons, sLst, sTup, Rs.val, oDrop, a1, isN]
    rfl
  | dict x =>
    have a1 : isiB "dict" "int" = false := by decide
    simp [F_is_integer, B_is_integer, sOr, sNot, sTru, truD, gIsi, sAndV, sOrV, gIs, isD, gLe, tyD, fnRun, oSeq, oIf, sTst, s2, s1, sSt, sVar, sC, gB, rdC, gI, gIx, itemA, atI, El.fzd, oAsg, gRd, intD, tgN, tgS, setA, oRet, sMv, moveI, outs, rdA, Sl.tree, flatD, allFz, upS, dropAl, noAl, gAdd, gMulX, sCall, callF, rIo, rCons, rNil, argsS, argS, iosOf, backS, putB, clr, AV.ofSl, arOf, sTk, takeI, lNil, lCons, sLst, sTup, Rs.val, oDrop, a1, isN]
    rfl
theorem count_ok {n : Int} (h1 : 1 ≤ n) (h2 : n ≤ 12) : F_need_count [.fz (.int n), .fz (.int 12)] = .ok (.fz .none) [.no, .no] := by
  have a1 : isiB "int" "int" = true := by decide
  have a2 : isiB "int" "bool" = false := by decide
  have e : F_is_integer [.fz (.int n), .fz (.int 1), .fz (.int 12)] = .ok (.fz (.bool true)) [.no, .no, .no] := by
    simp [F_is_integer, B_is_integer, sOr, sNot, sTru, truD, gIsi, sAndV, sOrV, gIs, isD, gLe, tyD, fnRun, oSeq, oIf, sTst, s2, s1, sSt, sVar, sC, gB, rdC, gI, gIx, itemA, atI, El.fzd, oAsg, gRd, intD, tgN, tgS, setA, oRet, sMv, moveI, outs, rdA, Sl.tree, flatD, allFz, upS, dropAl, noAl, gAdd, gMulX, sCall, callF, rIo, rCons, rNil, argsS, argS, iosOf, backS, putB, clr, AV.ofSl, arOf, sTk, takeI, lNil, lCons, sLst, sTup, Rs.val, oDrop, a1, a2, h1, h2]
    rfl
  simp [F_need_count, B_need_count, sNot, sTru, truD, fnRun, oSeq, oIf, sTst, s2, s1, sSt, sVar, sC, gB, rdC, gI, gIx, itemA, atI, El.fzd, oAsg, gRd, intD, tgN, tgS, setA, oRet, sMv, moveI, outs, rdA, Sl.tree, flatD, allFz, upS, dropAl, noAl, gAdd, gMulX, sCall, callF, rIo, rCons, rNil, argsS, argS, iosOf, backS, putB, clr, AV.ofSl, arOf, sTk, takeI, lNil, lCons, sLst, sTup, Rs.val, oDrop, e]
  rfl
end K01

namespace K01
open PySem Hb L2
def rgL (n : Int) : List Int := (List.range n.toNat).map fun (i : Nat) => (i : Int)
theorem rgD_L (n : Int) : rgD 0 n = (rgL n).map PyData.int := by
  simp [rgD, rgL, Function.comp_def]
def isOne (n : Int) : PyData → Bool
  | .list ds => match intsOf ds with
    | some ns => decide ((ds.length : Int) = n) && decide (sortI ns = rgL n)
    | none => false
  | _ => false
theorem rgL_nn {n i : Int} (h : i ∈ rgL n) : 0 ≤ i := by
  obtain ⟨k, _, rfl⟩ := List.mem_map.mp h
  omega
theorem eachLC {q' : PyData} (ds : List PyData) (hl : ds.length ≤ 1000000) : sLc false (wSeq (sVar 1)) [2] (tgN 2) (tOk) (sTk (sCall F_is_integer [.none] (rCons (sTk (sVar 2)) (rCons (sC (.int 0)) (rNil))))) [.fz q', .fz (.list ds), .no] =
    .ok (.tmp (.ol ((ds.map fun d => PyData.bool (isN d)).map .fz))) [.fz q', .fz (.list ds), .no] := by
  have h := lc_pure (vs := [2]) (t := tgN 2) (tt := tOk) (f := sTk (sCall F_is_integer [.none] (rCons (sTk (sVar 2)) (rCons (sC (.int 0)) (rNil))))) (δ := [.fz q', .fz (.list ds), .no]) (fun _ => true) (fun d => PyData.bool (isN d)) rfl (ds := ds) (es := []) (by simpa [cap] using hl) fun d _ => by
    refine ⟨[.fz q', .fz (.list ds), .fz d], [.fz q', .fz (.list ds), .fz d], rfl, rfl, ⟨(fun z => nomatch z), fun _ => ⟨[.fz q', .fz (.list ds), .fz d], ?_, rfl⟩⟩⟩
    simp [fnRun, oSeq, oIf, sTst, s2, s1, sSt, sVar, sC, gB, rdC, gI, gIx, itemA, atI, El.fzd, oAsg, gRd, intD, tgN, tgS, setA, oRet, sMv, moveI, outs, rdA, Sl.tree, flatD, allFz, upS, dropAl, noAl, gAdd, gMulX, sCall, callF, rIo, rCons, rNil, argsS, argS, iosOf, backS, putB, clr, AV.ofSl, arOf, sTk, takeI, lNil, lCons, sLst, sTup, Rs.val, oDrop, integer_ok]
  unfold sLc
  have w : wSeq (sVar 1) [.fz q', .fz (.list ds), .no] = .ok ds [.fz q', .fz (.list ds), .no] := by
    simp [wSeq, seqD, fnRun, oSeq, oIf, sTst, s2, s1, sSt, sVar, sC, gB, rdC, gI, gIx, itemA, atI, El.fzd, oAsg, gRd, intD, tgN, tgS, setA, oRet, sMv, moveI, outs, rdA, Sl.tree, flatD, allFz, upS, dropAl, noAl, gAdd, gMulX, sCall, callF, rIo, rCons, rNil, argsS, argS, iosOf, backS, putB, clr, AV.ofSl, arOf, sTk, takeI, lNil, lCons, sLst, sTup, Rs.val, oDrop]
  have ft : ds.filter (fun _ => true) = ds := List.filter_eq_self.mpr fun _ _ => rfl
  rw [w, e_bind, h, ft]
  rfl
theorem intsOf_none_or (ds : List PyData) : (∃ ns, ds = ns.map PyData.int ∧ intsOf ds = some ns) ∨ (intsOf ds = none ∧ ds.all isI = false) := by
  induction ds with
  | nil => exact .inl ⟨[], rfl, rfl⟩
  | cons d r ih =>
    cases d with
    | int i =>
      rcases ih with ⟨ns, e1, e2⟩ | ⟨e1, e2⟩
      · exact .inl ⟨i :: ns, by rw [e1]; rfl, by rw [intsOf, e2]; rfl⟩
      · exact .inr ⟨by rw [intsOf, e1]; rfl, by simp [isI, e2]⟩
    | _ => exact .inr ⟨rfl, by simp [isI]⟩
theorem allN (ns : List Int) : ((ns.map PyData.int).map isN).all id = ns.all fun i => decide (0 ≤ i) := by
  induction ns with
  | nil => rfl
  | cons i r ih => simp [isN] at ih ⊢; simp [ih]
theorem notN {ds : List PyData} (h : ds.all isI = false) : (ds.map isN).all id = false := by
  induction ds with
  | nil => cases h
  | cons d r ih =>
    simp only [List.all_cons, Bool.and_eq_false_iff] at h
    simp only [List.map_cons, List.all_cons, Bool.and_eq_false_iff, id]
    rcases h with h | h
    · left
      cases d <;> first | rfl | cases h
    · exact .inr (ih h)
theorem sort_nn {ns : List Int} {n : Int} (h : sortI ns = rgL n) : (ns.all fun i => decide (0 ≤ i)) = true := by
  rw [List.all_eq_true]
  intro i hi
  have : i ∈ sortI ns := (sortI_perm ns).mem_iff.mpr hi
  rw [h] at this
  simpa using rgL_nn this
theorem each_ok (v : PyData) {n : Int} (h0 : 0 ≤ n) (h1 : n ≤ 1000) (hl : ∀ ds, v = .list ds → ds.length ≤ 1000000) : F_is_each_once [.fz (.int n), .fz v] = .ok (.fz (.bool (isOne n v))) [.no, .no] := by
  have hb : B_is_each_once [.fz (.int n), .fz v, .no] = .rt (.fz (.bool (isOne n v))) [.fz (.int n), .fz v, .no] := by
    cases v with
    | list ds =>
      have hl := hl ds rfl
      have a1 : isiB "list" "list" = true := by decide
      by_cases c : (ds.length : Int) = n
      · have lc := eachLC ds hl (q' := .int n)
        have hbo : ((ds.map fun d => PyData.bool (isN d))) = (ds.map isN).map PyData.bool := by simp
        rw [hbo] at lc
        have al := boolsOf_bools (ds.map isN)
        by_cases ca : (ds.map isN).all id = true
        · rcases intsOf_none_or ds with ⟨ns, e1, e2⟩ | ⟨e1, e2⟩
          · have ev : isOne n (.list ds) = decide (sortI ns = rgL n) := by simp [isOne, e2, c]
            have c2 : -1000000 ≤ n := by omega
            have c3 : n ≤ 1000000 := by omega
            rw [ev]
            simp [B_is_each_once, sOr, sNot, sTru, truD, gIsi, gNe, tyD, fnRun, oSeq, oIf, sTst, s2, s1, sSt, sVar, sC, gB, rdC, gI, gIx, itemA, atI, El.fzd, oAsg, gRd, intD, tgN, tgS, setA, oRet, sMv, moveI, outs, rdA, Sl.tree, flatD, allFz, upS, dropAl, noAl, gAdd, gMulX, sCall, callF, rIo, rCons, rNil, argsS, argS, iosOf, backS, putB, clr, AV.ofSl, arOf, sTk, takeI, lNil, lCons, sLst, sTup, Rs.val, oDrop, a1, lenD, eqD_int, c, lc, overB, mapD, al, ca, gSortI, e2, gRg1, mkRg, c2, c3, gEq, rgD_L, eqD_ints, -List.map_map]
          · rw [notN e2] at ca
            cases ca
        · have ev : isOne n (.list ds) = false := by
            rcases intsOf_none_or ds with ⟨ns, e1, e2⟩ | ⟨e1, e2⟩
            · simp only [isOne, e2]
              by_cases cs : sortI ns = rgL n
              · exact absurd (by rw [e1, allN]; exact sort_nn cs) ca
              · simp [cs]
            · simp [isOne, e1]
          have ca : (ds.map isN).all id = false := by simpa using ca
          rw [ev]
          simp [B_is_each_once, sOr, sNot, sTru, truD, gIsi, gNe, tyD, fnRun, oSeq, oIf, sTst, s2, s1, sSt, sVar, sC, gB, rdC, gI, gIx, itemA, atI, El.fzd, oAsg, gRd, intD, tgN, tgS, setA, oRet, sMv, moveI, outs, rdA, Sl.tree, flatD, allFz, upS, dropAl, noAl, gAdd, gMulX, sCall, callF, rIo, rCons, rNil, argsS, argS, iosOf, backS, putB, clr, AV.ofSl, arOf, sTk, takeI, lNil, lCons, sLst, sTup, Rs.val, oDrop, a1, lenD, eqD_int, c, lc, overB, mapD, al, ca, -List.map_map, -List.all_map, -List.all_eq_false]
      · have ev : isOne n (.list ds) = false := by
          simp only [isOne]
          cases q : intsOf ds with
          | none => simp
          | some ns => simp [c]
        rw [ev]
        simp [B_is_each_once, sOr, sNot, sTru, truD, gIsi, gNe, tyD, fnRun, oSeq, oIf, sTst, s2, s1, sSt, sVar, sC, gB, rdC, gI, gIx, itemA, atI, El.fzd, oAsg, gRd, intD, tgN, tgS, setA, oRet, sMv, moveI, outs, rdA, Sl.tree, flatD, allFz, upS, dropAl, noAl, gAdd, gMulX, sCall, callF, rIo, rCons, rNil, argsS, argS, iosOf, backS, putB, clr, AV.ofSl, arOf, sTk, takeI, lNil, lCons, sLst, sTup, Rs.val, oDrop, a1, lenD, eqD_int, c]
    | none =>
      have a1 : isiB "NoneType" "list" = false := by decide
      simp [B_is_each_once, sOr, sNot, sTru, truD, gIsi, tyD, fnRun, oSeq, oIf, sTst, s2, s1, sSt, sVar, sC, gB, rdC, gI, gIx, itemA, atI, El.fzd, oAsg, gRd, intD, tgN, tgS, setA, oRet, sMv, moveI, outs, rdA, Sl.tree, flatD, allFz, upS, dropAl, noAl, gAdd, gMulX, sCall, callF, rIo, rCons, rNil, argsS, argS, iosOf, backS, putB, clr, AV.ofSl, arOf, sTk, takeI, lNil, lCons, sLst, sTup, Rs.val, oDrop, a1, isOne]
    | bool b =>
      have a1 : isiB "bool" "list" = false := by decide
      simp [B_is_each_once, sOr, sNot, sTru, truD, gIsi, tyD, fnRun, oSeq, oIf, sTst, s2, s1, sSt, sVar, sC, gB, rdC, gI, gIx, itemA, atI, El.fzd, oAsg, gRd, intD, tgN, tgS, setA, oRet, sMv, moveI, outs, rdA, Sl.tree, flatD, allFz, upS, dropAl, noAl, gAdd, gMulX, sCall, callF, rIo, rCons, rNil, argsS, argS, iosOf, backS, putB, clr, AV.ofSl, arOf, sTk, takeI, lNil, lCons, sLst, sTup, Rs.val, oDrop, a1, isOne]
    | int b =>
      have a1 : isiB "int" "list" = false := by decide
      simp [B_is_each_once, sOr, sNot, sTru, truD, gIsi, tyD, fnRun, oSeq, oIf, sTst, s2, s1, sSt, sVar, sC, gB, rdC, gI, gIx, itemA, atI, El.fzd, oAsg, gRd, intD, tgN, tgS, setA, oRet, sMv, moveI, outs, rdA, Sl.tree, flatD, allFz, upS, dropAl, noAl, gAdd, gMulX, sCall, callF, rIo, rCons, rNil, argsS, argS, iosOf, backS, putB, clr, AV.ofSl, arOf, sTk, takeI, lNil, lCons, sLst, sTup, Rs.val, oDrop, a1, isOne]
    | str b =>
      have a1 : isiB "str" "list" = false := by decide
      simp [B_is_each_once, sOr, sNot, sTru, truD, gIsi, tyD, fnRun, oSeq, oIf, sTst, s2, s1, sSt, sVar, sC, gB, rdC, gI, gIx, itemA, atI, El.fzd, oAsg, gRd, intD, tgN, tgS, setA, oRet, sMv, moveI, outs, rdA, Sl.tree, flatD, allFz, upS, dropAl, noAl, gAdd, gMulX, sCall, callF, rIo, rCons, rNil, argsS, argS, iosOf, backS, putB, clr, AV.ofSl, arOf, sTk, takeI, lNil, lCons, sLst, sTup, Rs.val, oDrop, a1, isOne]
    | tuple b =>
      have a1 : isiB "tuple" "list" = false := by decide
      simp [B_is_each_once, sOr, sNot, sTru, truD, gIsi, tyD, fnRun, oSeq, oIf, sTst, s2, s1, sSt, sVar, sC, gB, rdC, gI, gIx, itemA, atI, El.fzd, oAsg, gRd, intD, tgN, tgS, setA, oRet, sMv, moveI, outs, rdA, Sl.tree, flatD, allFz, upS, dropAl, noAl, gAdd, gMulX, sCall, callF, rIo, rCons, rNil, argsS, argS, iosOf, backS, putB, clr, AV.ofSl, arOf, sTk, takeI, lNil, lCons, sLst, sTup, Rs.val, oDrop, a1, isOne]
    | dict b =>
      have a1 : isiB "dict" "list" = false := by decide
      simp [B_is_each_once, sOr, sNot, sTru, truD, gIsi, tyD, fnRun, oSeq, oIf, sTst, s2, s1, sSt, sVar, sC, gB, rdC, gI, gIx, itemA, atI, El.fzd, oAsg, gRd, intD, tgN, tgS, setA, oRet, sMv, moveI, outs, rdA, Sl.tree, flatD, allFz, upS, dropAl, noAl, gAdd, gMulX, sCall, callF, rIo, rCons, rNil, argsS, argS, iosOf, backS, putB, clr, AV.ofSl, arOf, sTk, takeI, lNil, lCons, sLst, sTup, Rs.val, oDrop, a1, isOne]
  show fnRun 2 3 [] B_is_each_once _ = _
  unfold fnRun
  show (match B_is_each_once [.fz (.int n), .fz v, .no] with
    | .nx δ' => FR.ok (.fz .none) (outs 2 [] δ')
    | .rt s δ' => .ok s (outs 2 [] δ')
    | .er x δ' => .er x (outs 2 [] δ')
    | _ => .bad) = _
  rw [hb]
  rfl
end K01

namespace K01
open PySem Hb L2
def lcOne : List Sl → Rs AV := sLc false (wSeq (sVar 1)) [2] (tgN 2) (sOr (sNot (sTru (s1 (gIsi "int") (sVar 2)))) (sTru (s1 (gIsi "bool") (sVar 2)))) (sTk (sVar 2))
def oneB : List Sl → Ot := oSeq (oIf (sOr (sNot (sTru (s1 (gIsi "list") (sVar 1)))) (sTst (s2 gNe (s1 (gRd lenD) (sVar 1)) (sVar 0)))) (oRet (sC (.bool false))) (oNext))
    (oSeq (oIf (sTst (s2 (gEqE true) lcOne (sLst (lNil)))) (oRet (sC (.bool false))) (oNext))
    (oRet (s2 gEq (s1 (gSortI) (sVar 1)) (s1 gRg1 (sVar 0)))))
theorem oneLC {q' : PyData} (ds : List PyData) (hl : ds.length ≤ 1000000) : lcOne [.fz q', .fz (.list ds), .no] =
    .ok (.tmp (.ol ((ds.filter fun d => !isI d).map .fz))) [.fz q', .fz (.list ds), .no] := by
  have h := lc_pure (vs := [2]) (t := tgN 2) (tt := sOr (sNot (sTru (s1 (gIsi "int") (sVar 2)))) (sTru (s1 (gIsi "bool") (sVar 2)))) (f := sTk (sVar 2)) (δ := [.fz q', .fz (.list ds), .no]) (fun d => !isI d) id rfl (ds := ds) (es := []) (by simpa [cap] using hl) fun d _ => by
    refine ⟨[.fz q', .fz (.list ds), .fz d], [.fz q', .fz (.list ds), .fz d], rfl, ?_, fun _ => rfl, fun _ => ⟨[.fz q', .fz (.list ds), .fz d], rfl, rfl⟩⟩
    have hi := isi_int d
    cases p1 : isiB (tyD d) "int" <;> cases p2 : isiB (tyD d) "bool" <;> (rw [p1, p2] at hi; simp [sOr, sNot, sTru, truD, gIsi, fnRun, oSeq, oIf, sTst, s2, s1, sSt, sVar, sC, gB, rdC, gI, gIx, itemA, atI, El.fzd, oAsg, gRd, intD, tgN, tgS, setA, oRet, sMv, moveI, outs, rdA, Sl.tree, flatD, allFz, upS, dropAl, noAl, gAdd, gMulX, sCall, callF, rIo, rCons, rNil, argsS, argS, iosOf, backS, putB, clr, AV.ofSl, arOf, sTk, takeI, lNil, lCons, sLst, sTup, Rs.val, oDrop, p1, p2, ← hi])
  unfold lcOne sLc
  have w : wSeq (sVar 1) [.fz q', .fz (.list ds), .no] = .ok ds [.fz q', .fz (.list ds), .no] := by
    simp [wSeq, seqD, fnRun, oSeq, oIf, sTst, s2, s1, sSt, sVar, sC, gB, rdC, gI, gIx, itemA, atI, El.fzd, oAsg, gRd, intD, tgN, tgS, setA, oRet, sMv, moveI, outs, rdA, Sl.tree, flatD, allFz, upS, dropAl, noAl, gAdd, gMulX, sCall, callF, rIo, rCons, rNil, argsS, argS, iosOf, backS, putB, clr, AV.ofSl, arOf, sTk, takeI, lNil, lCons, sLst, sTup, Rs.val, oDrop]
  rw [w, e_bind, h, List.map_id]
  rfl
theorem filt_nil (ds : List PyData) : (ds.filter fun d => !isI d).isEmpty = ds.all isI := by
  induction ds with
  | nil => rfl
  | cons d r ih =>
    cases h : isI d
    · simp [h]
    · simp [h, ih]
theorem all_isI (ns : List Int) : (ns.map PyData.int).all isI = true := by
  simp [isI]
theorem lone_ok (v : PyData) {n : Int} (h0 : 0 ≤ n) (h1 : n ≤ 1000) (hl : ∀ ds, v = .list ds → ds.length ≤ 1000000) : F__law_is_one [.fz (.int n), .fz v] = .ok (.fz (.bool (isOne n v))) [.no, .no] := by
  have hb : oneB [.fz (.int n), .fz v, .no] = .rt (.fz (.bool (isOne n v))) [.fz (.int n), .fz v, .no] := by
    cases v with
    | list ds =>
      have hl := hl ds rfl
      have a1 : isiB "list" "list" = true := by decide
      by_cases c : (ds.length : Int) = n
      · have lc := oneLC ds hl (q' := .int n)
        have fe := filt_nil ds
        rcases intsOf_none_or ds with ⟨ns, e1, e2⟩ | ⟨e1, e2⟩
        · have ai : ds.all isI = true := by rw [e1]; exact all_isI ns
          have ev : isOne n (.list ds) = decide (sortI ns = rgL n) := by simp [isOne, e2, c]
          have c2 : -1000000 ≤ n := by omega
          have c3 : n ≤ 1000000 := by omega
          rw [ai] at fe
          rw [ev]
          simp [oneB, sOr, sNot, sTru, truD, gIsi, gNe, tyD, fnRun, oSeq, oIf, sTst, s2, s1, sSt, sVar, sC, gB, rdC, gI, gIx, itemA, atI, El.fzd, oAsg, gRd, intD, tgN, tgS, setA, oRet, sMv, moveI, outs, rdA, Sl.tree, flatD, allFz, upS, dropAl, noAl, gAdd, gMulX, sCall, callF, rIo, rCons, rNil, argsS, argS, iosOf, backS, putB, clr, AV.ofSl, arOf, sTk, takeI, lNil, lCons, sLst, sTup, Rs.val, oDrop, a1, lenD, eqD_int, c, lc, gEqE, mapD, fe, gSortI, e2, gRg1, mkRg, c2, c3, gEq, rgD_L, eqD_ints, cap, -List.map_map, -List.isEmpty_iff]
        · have ev : isOne n (.list ds) = false := by simp [isOne, e1]
          rw [e2] at fe
          rw [ev]
          simp [oneB, sOr, sNot, sTru, truD, gIsi, gNe, tyD, fnRun, oSeq, oIf, sTst, s2, s1, sSt, sVar, sC, gB, rdC, gI, gIx, itemA, atI, El.fzd, oAsg, gRd, intD, tgN, tgS, setA, oRet, sMv, moveI, outs, rdA, Sl.tree, flatD, allFz, upS, dropAl, noAl, gAdd, gMulX, sCall, callF, rIo, rCons, rNil, argsS, argS, iosOf, backS, putB, clr, AV.ofSl, arOf, sTk, takeI, lNil, lCons, sLst, sTup, Rs.val, oDrop, a1, lenD, eqD_int, c, lc, gEqE, mapD, fe, cap, -List.map_map, -List.isEmpty_iff]
      · have ev : isOne n (.list ds) = false := by
          simp only [isOne]
          cases q : intsOf ds with
          | none => simp
          | some ns => simp [c]
        rw [ev]
        simp [oneB, sOr, sNot, sTru, truD, gIsi, gNe, tyD, fnRun, oSeq, oIf, sTst, s2, s1, sSt, sVar, sC, gB, rdC, gI, gIx, itemA, atI, El.fzd, oAsg, gRd, intD, tgN, tgS, setA, oRet, sMv, moveI, outs, rdA, Sl.tree, flatD, allFz, upS, dropAl, noAl, gAdd, gMulX, sCall, callF, rIo, rCons, rNil, argsS, argS, iosOf, backS, putB, clr, AV.ofSl, arOf, sTk, takeI, lNil, lCons, sLst, sTup, Rs.val, oDrop, a1, lenD, eqD_int, c]
    | none =>
      have a1 : isiB "NoneType" "list" = false := by decide
      simp [oneB, sOr, sNot, sTru, truD, gIsi, tyD, fnRun, oSeq, oIf, sTst, s2, s1, sSt, sVar, sC, gB, rdC, gI, gIx, itemA, atI, El.fzd, oAsg, gRd, intD, tgN, tgS, setA, oRet, sMv, moveI, outs, rdA, Sl.tree, flatD, allFz, upS, dropAl, noAl, gAdd, gMulX, sCall, callF, rIo, rCons, rNil, argsS, argS, iosOf, backS, putB, clr, AV.ofSl, arOf, sTk, takeI, lNil, lCons, sLst, sTup, Rs.val, oDrop, a1, isOne]
    | bool b =>
      have a1 : isiB "bool" "list" = false := by decide
      simp [oneB, sOr, sNot, sTru, truD, gIsi, tyD, fnRun, oSeq, oIf, sTst, s2, s1, sSt, sVar, sC, gB, rdC, gI, gIx, itemA, atI, El.fzd, oAsg, gRd, intD, tgN, tgS, setA, oRet, sMv, moveI, outs, rdA, Sl.tree, flatD, allFz, upS, dropAl, noAl, gAdd, gMulX, sCall, callF, rIo, rCons, rNil, argsS, argS, iosOf, backS, putB, clr, AV.ofSl, arOf, sTk, takeI, lNil, lCons, sLst, sTup, Rs.val, oDrop, a1, isOne]
    | int b =>
      have a1 : isiB "int" "list" = false := by decide
      simp [oneB, sOr, sNot, sTru, truD, gIsi, tyD, fnRun, oSeq, oIf, sTst, s2, s1, sSt, sVar, sC, gB, rdC, gI, gIx, itemA, atI, El.fzd, oAsg, gRd, intD, tgN, tgS, setA, oRet, sMv, moveI, outs, rdA, Sl.tree, flatD, allFz, upS, dropAl, noAl, gAdd, gMulX, sCall, callF, rIo, rCons, rNil, argsS, argS, iosOf, backS, putB, clr, AV.ofSl, arOf, sTk, takeI, lNil, lCons, sLst, sTup, Rs.val, oDrop, a1, isOne]
    | str b =>
      have a1 : isiB "str" "list" = false := by decide
      simp [oneB, sOr, sNot, sTru, truD, gIsi, tyD, fnRun, oSeq, oIf, sTst, s2, s1, sSt, sVar, sC, gB, rdC, gI, gIx, itemA, atI, El.fzd, oAsg, gRd, intD, tgN, tgS, setA, oRet, sMv, moveI, outs, rdA, Sl.tree, flatD, allFz, upS, dropAl, noAl, gAdd, gMulX, sCall, callF, rIo, rCons, rNil, argsS, argS, iosOf, backS, putB, clr, AV.ofSl, arOf, sTk, takeI, lNil, lCons, sLst, sTup, Rs.val, oDrop, a1, isOne]
    | tuple b =>
      have a1 : isiB "tuple" "list" = false := by decide
      simp [oneB, sOr, sNot, sTru, truD, gIsi, tyD, fnRun, oSeq, oIf, sTst, s2, s1, sSt, sVar, sC, gB, rdC, gI, gIx, itemA, atI, El.fzd, oAsg, gRd, intD, tgN, tgS, setA, oRet, sMv, moveI, outs, rdA, Sl.tree, flatD, allFz, upS, dropAl, noAl, gAdd, gMulX, sCall, callF, rIo, rCons, rNil, argsS, argS, iosOf, backS, putB, clr, AV.ofSl, arOf, sTk, takeI, lNil, lCons, sLst, sTup, Rs.val, oDrop, a1, isOne]
    | dict b =>
      have a1 : isiB "dict" "list" = false := by decide
      simp [oneB, sOr, sNot, sTru, truD, gIsi, tyD, fnRun, oSeq, oIf, sTst, s2, s1, sSt, sVar, sC, gB, rdC, gI, gIx, itemA, atI, El.fzd, oAsg, gRd, intD, tgN, tgS, setA, oRet, sMv, moveI, outs, rdA, Sl.tree, flatD, allFz, upS, dropAl, noAl, gAdd, gMulX, sCall, callF, rIo, rCons, rNil, argsS, argS, iosOf, backS, putB, clr, AV.ofSl, arOf, sTk, takeI, lNil, lCons, sLst, sTup, Rs.val, oDrop, a1, isOne]
  show fnRun 2 3 [] B__law_is_one _ = _
  unfold fnRun
  show (match B__law_is_one [.fz (.int n), .fz v, .no] with
    | .nx δ' => FR.ok (.fz .none) (outs 2 [] δ')
    | .rt s δ' => .ok s (outs 2 [] δ')
    | .er x δ' => .er x (outs 2 [] δ')
    | _ => .bad) = _
  rw [show B__law_is_one = oneB from rfl, hb]
  rfl
end K01

namespace K01
open PySem Hb L2
def isOnes (n : Int) : PyData → Bool
  | .list ds => decide (ds.length ≤ 40) && ds.all (isOne n)
  | _ => false
def Okv (v : PyData) : Prop := ∀ ds, v = .list ds → ds.length ≤ 1000000 ∧ ∀ d ∈ ds, ∀ es, d = .list es → es.length ≤ 1000000
def lcEach : List Sl → Rs AV := sLc false (wSeq (sVar 1)) [2] (tgN 2) (tOk) (sTk (sCall F_is_each_once [] (rCons (sTk (sVar 0)) (rCons (sTk (sVar 2)) (rNil)))))
def eachB : List Sl → Ot := oRet (sAndV (s1 (gIsi "list") (sVar 1)) (sAndV (s2 gLe (s1 (gRd lenD) (sVar 1)) (sC (.int 40))) (s1 (gRd (overB fun ns => some (.bool (ns.all id)))) lcEach)))
theorem lcEach_ok {n : Int} (h0 : 0 ≤ n) (h1 : n ≤ 1000) {ds : List PyData} (hv : Okv (.list ds)) : lcEach [.fz (.int n), .fz (.list ds), .no] =
    .ok (.tmp (.ol (((ds.map (isOne n)).map PyData.bool).map .fz))) [.fz (.int n), .fz (.list ds), .no] := by
  obtain ⟨hl, hv⟩ := hv ds rfl
  have h := lc_pure (vs := [2]) (t := tgN 2) (tt := tOk) (f := sTk (sCall F_is_each_once [] (rCons (sTk (sVar 0)) (rCons (sTk (sVar 2)) (rNil))))) (δ := [.fz (.int n), .fz (.list ds), .no]) (fun _ => true) (fun d => PyData.bool (isOne n d)) rfl (ds := ds) (es := []) (by simpa [cap] using hl) fun d hd => by
    refine ⟨[.fz (.int n), .fz (.list ds), .fz d], [.fz (.int n), .fz (.list ds), .fz d], rfl, rfl, ⟨(fun z => nomatch z), fun _ => ⟨[.fz (.int n), .fz (.list ds), .fz d], ?_, rfl⟩⟩⟩
    simp [fnRun, oSeq, oIf, sTst, s2, s1, sSt, sVar, sC, gB, rdC, gI, gIx, itemA, atI, El.fzd, oAsg, gRd, intD, tgN, tgS, setA, oRet, sMv, moveI, outs, rdA, Sl.tree, flatD, allFz, upS, dropAl, noAl, gAdd, gMulX, sCall, callF, rIo, rCons, rNil, argsS, argS, iosOf, backS, putB, clr, AV.ofSl, arOf, sTk, takeI, lNil, lCons, sLst, sTup, Rs.val, oDrop, each_ok d h0 h1 (hv d hd)]
  unfold lcEach sLc
  have w : wSeq (sVar 1) [.fz (.int n), .fz (.list ds), .no] = .ok ds [.fz (.int n), .fz (.list ds), .no] := by
    simp [wSeq, seqD, fnRun, oSeq, oIf, sTst, s2, s1, sSt, sVar, sC, gB, rdC, gI, gIx, itemA, atI, El.fzd, oAsg, gRd, intD, tgN, tgS, setA, oRet, sMv, moveI, outs, rdA, Sl.tree, flatD, allFz, upS, dropAl, noAl, gAdd, gMulX, sCall, callF, rIo, rCons, rNil, argsS, argS, iosOf, backS, putB, clr, AV.ofSl, arOf, sTk, takeI, lNil, lCons, sLst, sTup, Rs.val, oDrop]
  have ft : ds.filter (fun _ => true) = ds := List.filter_eq_self.mpr fun _ _ => rfl
  rw [w, e_bind, h, ft]
  simp [Function.comp_def]
theorem all_idm {α : Type} (p : α → Bool) (l : List α) : (l.map p).all id = l.all p := by
  induction l with
  | nil => rfl
  | cons a r ih => simp only [List.map_cons, List.all_cons, ih, id]
theorem eaches_ok (v : PyData) {n : Int} (h0 : 0 ≤ n) (h1 : n ≤ 1000) (hv : Okv v) : F_are_each_once [.fz (.int n), .fz v] = .ok (.fz (.bool (isOnes n v))) [.no, .no] := by
  have hb : eachB [.fz (.int n), .fz v, .no] = .rt (.fz (.bool (isOnes n v))) [.fz (.int n), .fz v, .no] := by
    cases v with
    | list ds =>
      have a1 : isiB "list" "list" = true := by decide
      have lc := lcEach_ok h0 h1 hv
      have al := boolsOf_bools (ds.map (isOne n))
      have ai := all_idm (isOne n) ds
      by_cases c : ds.length ≤ 40
      · have c2 : (ds.length : Int) ≤ 40 := by omega
        simp [eachB, sAndV, truD, gIsi, gLe, tyD, fnRun, oSeq, oIf, sTst, s2, s1, sSt, sVar, sC, gB, rdC, gI, gIx, itemA, atI, El.fzd, oAsg, gRd, intD, tgN, tgS, setA, oRet, sMv, moveI, outs, rdA, Sl.tree, flatD, allFz, upS, dropAl, noAl, gAdd, gMulX, sCall, callF, rIo, rCons, rNil, argsS, argS, iosOf, backS, putB, clr, AV.ofSl, arOf, sTk, takeI, lNil, lCons, sLst, sTup, Rs.val, oDrop, a1, lenD, c, c2, lc, overB, mapD, al, ai, isOnes, -List.map_map, -List.all_map]
      · have c2 : ¬ (ds.length : Int) ≤ 40 := by omega
        simp [eachB, sAndV, truD, gIsi, gLe, tyD, fnRun, oSeq, oIf, sTst, s2, s1, sSt, sVar, sC, gB, rdC, gI, gIx, itemA, atI, El.fzd, oAsg, gRd, intD, tgN, tgS, setA, oRet, sMv, moveI, outs, rdA, Sl.tree, flatD, allFz, upS, dropAl, noAl, gAdd, gMulX, sCall, callF, rIo, rCons, rNil, argsS, argS, iosOf, backS, putB, clr, AV.ofSl, arOf, sTk, takeI, lNil, lCons, sLst, sTup, Rs.val, oDrop, a1, lenD, c, c2, isOnes]
    | none =>
      have a1 : isiB "NoneType" "list" = false := by decide
      simp [eachB, sAndV, sNot, sTru, truD, gIsi, tyD, fnRun, oSeq, oIf, sTst, s2, s1, sSt, sVar, sC, gB, rdC, gI, gIx, itemA, atI, El.fzd, oAsg, gRd, intD, tgN, tgS, setA, oRet, sMv, moveI, outs, rdA, Sl.tree, flatD, allFz, upS, dropAl, noAl, gAdd, gMulX, sCall, callF, rIo, rCons, rNil, argsS, argS, iosOf, backS, putB, clr, AV.ofSl, arOf, sTk, takeI, lNil, lCons, sLst, sTup, Rs.val, oDrop, a1, isOnes]
    | bool b =>
      have a1 : isiB "bool" "list" = false := by decide
      simp [eachB, sAndV, sNot, sTru, truD, gIsi, tyD, fnRun, oSeq, oIf, sTst, s2, s1, sSt, sVar, sC, gB, rdC, gI, gIx, itemA, atI, El.fzd, oAsg, gRd, intD, tgN, tgS, setA, oRet, sMv, moveI, outs, rdA, Sl.tree, flatD, allFz, upS, dropAl, noAl, gAdd, gMulX, sCall, callF, rIo, rCons, rNil, argsS, argS, iosOf, backS, putB, clr, AV.ofSl, arOf, sTk, takeI, lNil, lCons, sLst, sTup, Rs.val, oDrop, a1, isOnes]
    | int b =>
      have a1 : isiB "int" "list" = false := by decide
      simp [eachB, sAndV, sNot, sTru, truD, gIsi, tyD, fnRun, oSeq, oIf, sTst, s2, s1, sSt, sVar, sC, gB, rdC, gI, gIx, itemA, atI, El.fzd, oAsg, gRd, intD, tgN, tgS, setA, oRet, sMv, moveI, outs, rdA, Sl.tree, flatD, allFz, upS, dropAl, noAl, gAdd, gMulX, sCall, callF, rIo, rCons, rNil, argsS, argS, iosOf, backS, putB, clr, AV.ofSl, arOf, sTk, takeI, lNil, lCons, sLst, sTup, Rs.val, oDrop, a1, isOnes]
    | str b =>
      have a1 : isiB "str" "list" = false := by decide
      simp [eachB, sAndV, sNot, sTru, truD, gIsi, tyD, fnRun, oSeq, oIf, sTst, s2, s1, sSt, sVar, sC, gB, rdC, gI, gIx, itemA, atI, El.fzd, oAsg, gRd, intD, tgN, tgS, setA, oRet, sMv, moveI, outs, rdA, Sl.tree, flatD, allFz, upS, dropAl, noAl, gAdd, gMulX, sCall, callF, rIo, rCons, rNil, argsS, argS, iosOf, backS, putB, clr, AV.ofSl, arOf, sTk, takeI, lNil, lCons, sLst, sTup, Rs.val, oDrop, a1, isOnes]
    | tuple b =>
      have a1 : isiB "tuple" "list" = false := by decide
      simp [eachB, sAndV, sNot, sTru, truD, gIsi, tyD, fnRun, oSeq, oIf, sTst, s2, s1, sSt, sVar, sC, gB, rdC, gI, gIx, itemA, atI, El.fzd, oAsg, gRd, intD, tgN, tgS, setA, oRet, sMv, moveI, outs, rdA, Sl.tree, flatD, allFz, upS, dropAl, noAl, gAdd, gMulX, sCall, callF, rIo, rCons, rNil, argsS, argS, iosOf, backS, putB, clr, AV.ofSl, arOf, sTk, takeI, lNil, lCons, sLst, sTup, Rs.val, oDrop, a1, isOnes]
    | dict b =>
      have a1 : isiB "dict" "list" = false := by decide
      simp [eachB, sAndV, sNot, sTru, truD, gIsi, tyD, fnRun, oSeq, oIf, sTst, s2, s1, sSt, sVar, sC, gB, rdC, gI, gIx, itemA, atI, El.fzd, oAsg, gRd, intD, tgN, tgS, setA, oRet, sMv, moveI, outs, rdA, Sl.tree, flatD, allFz, upS, dropAl, noAl, gAdd, gMulX, sCall, callF, rIo, rCons, rNil, argsS, argS, iosOf, backS, putB, clr, AV.ofSl, arOf, sTk, takeI, lNil, lCons, sLst, sTup, Rs.val, oDrop, a1, isOnes]
  show fnRun 2 3 [] B_are_each_once _ = _
  unfold fnRun
  show (match B_are_each_once [.fz (.int n), .fz v, .no] with
    | .nx δ' => FR.ok (.fz .none) (outs 2 [] δ')
    | .rt s δ' => .ok s (outs 2 [] δ')
    | .er x δ' => .er x (outs 2 [] δ')
    | _ => .bad) = _
  rw [show B_are_each_once = eachB from rfl, hb]
  rfl
def lcOnes : List Sl → Rs AV := sLc false (wSeq (sVar 1)) [2] (tgN 2) (sNot (sTru (sCall F__law_is_one [] (rCons (sTk (sVar 0)) (rCons (sTk (sVar 2)) (rNil)))))) (sTk (sVar 2))
def onesB : List Sl → Ot := oSeq (oIf (sOr (sNot (sTru (s1 (gIsi "list") (sVar 1)))) (sTst (s2 gGt (s1 (gRd lenD) (sVar 1)) (sC (.int 40))))) (oRet (sC (.bool false))) (oNext))
    (oRet (s2 (gEqE false) lcOnes (sLst (lNil))))
theorem lcOnes_ok {n : Int} (h0 : 0 ≤ n) (h1 : n ≤ 1000) {ds : List PyData} (hv : Okv (.list ds)) : lcOnes [.fz (.int n), .fz (.list ds), .no] =
    .ok (.tmp (.ol ((ds.filter fun d => !isOne n d).map .fz))) [.fz (.int n), .fz (.list ds), .no] := by
  obtain ⟨hl, hv⟩ := hv ds rfl
  have h := lc_pure (vs := [2]) (t := tgN 2) (tt := sNot (sTru (sCall F__law_is_one [] (rCons (sTk (sVar 0)) (rCons (sTk (sVar 2)) (rNil)))))) (f := sTk (sVar 2)) (δ := [.fz (.int n), .fz (.list ds), .no]) (fun d => !isOne n d) id rfl (ds := ds) (es := []) (by simpa [cap] using hl) fun d hd => by
    refine ⟨[.fz (.int n), .fz (.list ds), .fz d], [.fz (.int n), .fz (.list ds), .fz d], rfl, ?_, fun _ => rfl, fun _ => ⟨[.fz (.int n), .fz (.list ds), .fz d], rfl, rfl⟩⟩
    simp [sNot, sTru, truD, fnRun, oSeq, oIf, sTst, s2, s1, sSt, sVar, sC, gB, rdC, gI, gIx, itemA, atI, El.fzd, oAsg, gRd, intD, tgN, tgS, setA, oRet, sMv, moveI, outs, rdA, Sl.tree, flatD, allFz, upS, dropAl, noAl, gAdd, gMulX, sCall, callF, rIo, rCons, rNil, argsS, argS, iosOf, backS, putB, clr, AV.ofSl, arOf, sTk, takeI, lNil, lCons, sLst, sTup, Rs.val, oDrop, lone_ok d h0 h1 (hv d hd)]
  unfold lcOnes sLc
  have w : wSeq (sVar 1) [.fz (.int n), .fz (.list ds), .no] = .ok ds [.fz (.int n), .fz (.list ds), .no] := by
    simp [wSeq, seqD, fnRun, oSeq, oIf, sTst, s2, s1, sSt, sVar, sC, gB, rdC, gI, gIx, itemA, atI, El.fzd, oAsg, gRd, intD, tgN, tgS, setA, oRet, sMv, moveI, outs, rdA, Sl.tree, flatD, allFz, upS, dropAl, noAl, gAdd, gMulX, sCall, callF, rIo, rCons, rNil, argsS, argS, iosOf, backS, putB, clr, AV.ofSl, arOf, sTk, takeI, lNil, lCons, sLst, sTup, Rs.val, oDrop]
  rw [w, e_bind, h, List.map_id]
  rfl
theorem filt_nil2 (p : PyData → Bool) (ds : List PyData) : (ds.filter fun d => !p d).isEmpty = ds.all p := by
  induction ds with
  | nil => rfl
  | cons d r ih =>
    cases h : p d
    · simp [h]
    · simp [h, ih]
theorem lones_ok (v : PyData) {n : Int} (h0 : 0 ≤ n) (h1 : n ≤ 1000) (hv : Okv v) : F__law_are_ones [.fz (.int n), .fz v] = .ok (.fz (.bool (isOnes n v))) [.no, .no] := by
  have hb : onesB [.fz (.int n), .fz v, .no] = .rt (.fz (.bool (isOnes n v))) [.fz (.int n), .fz v, .no] := by
    cases v with
    | list ds =>
      have a1 : isiB "list" "list" = true := by decide
      have lc := lcOnes_ok h0 h1 hv
      have fe := filt_nil2 (isOne n) ds
      by_cases c : ds.length ≤ 40
      · have c2 : ¬ (40 : Int) < ds.length := by omega
        have c3 : ¬ 40 < ds.length := by omega
        simp [onesB, sOr, sNot, sTru, truD, gIsi, gGt, tyD, fnRun, oSeq, oIf, sTst, s2, s1, sSt, sVar, sC, gB, rdC, gI, gIx, itemA, atI, El.fzd, oAsg, gRd, intD, tgN, tgS, setA, oRet, sMv, moveI, outs, rdA, Sl.tree, flatD, allFz, upS, dropAl, noAl, gAdd, gMulX, sCall, callF, rIo, rCons, rNil, argsS, argS, iosOf, backS, putB, clr, AV.ofSl, arOf, sTk, takeI, lNil, lCons, sLst, sTup, Rs.val, oDrop, a1, lenD, c, c2, c3, lc, gEqE, mapD, fe, isOnes, cap, -List.map_map, -List.isEmpty_iff]
      · have c2 : (40 : Int) < ds.length := by omega
        have c3 : 40 < ds.length := by omega
        simp [onesB, sOr, sNot, sTru, truD, gIsi, gGt, tyD, fnRun, oSeq, oIf, sTst, s2, s1, sSt, sVar, sC, gB, rdC, gI, gIx, itemA, atI, El.fzd, oAsg, gRd, intD, tgN, tgS, setA, oRet, sMv, moveI, outs, rdA, Sl.tree, flatD, allFz, upS, dropAl, noAl, gAdd, gMulX, sCall, callF, rIo, rCons, rNil, argsS, argS, iosOf, backS, putB, clr, AV.ofSl, arOf, sTk, takeI, lNil, lCons, sLst, sTup, Rs.val, oDrop, a1, lenD, c, c2, c3, isOnes]
    | none =>
      have a1 : isiB "NoneType" "list" = false := by decide
      simp [onesB, sOr, sNot, sTru, truD, gIsi, tyD, fnRun, oSeq, oIf, sTst, s2, s1, sSt, sVar, sC, gB, rdC, gI, gIx, itemA, atI, El.fzd, oAsg, gRd, intD, tgN, tgS, setA, oRet, sMv, moveI, outs, rdA, Sl.tree, flatD, allFz, upS, dropAl, noAl, gAdd, gMulX, sCall, callF, rIo, rCons, rNil, argsS, argS, iosOf, backS, putB, clr, AV.ofSl, arOf, sTk, takeI, lNil, lCons, sLst, sTup, Rs.val, oDrop, a1, isOnes]
    | bool b =>
      have a1 : isiB "bool" "list" = false := by decide
      simp [onesB, sOr, sNot, sTru, truD, gIsi, tyD, fnRun, oSeq, oIf, sTst, s2, s1, sSt, sVar, sC, gB, rdC, gI, gIx, itemA, atI, El.fzd, oAsg, gRd, intD, tgN, tgS, setA, oRet, sMv, moveI, outs, rdA, Sl.tree, flatD, allFz, upS, dropAl, noAl, gAdd, gMulX, sCall, callF, rIo, rCons, rNil, argsS, argS, iosOf, backS, putB, clr, AV.ofSl, arOf, sTk, takeI, lNil, lCons, sLst, sTup, Rs.val, oDrop, a1, isOnes]
    | int b =>
      have a1 : isiB "int" "list" = false := by decide
      simp [onesB, sOr, sNot, sTru, truD, gIsi, tyD, fnRun, oSeq, oIf, sTst, s2, s1, sSt, sVar, sC, gB, rdC, gI, gIx, itemA, atI, El.fzd, oAsg, gRd, intD, tgN, tgS, setA, oRet, sMv, moveI, outs, rdA, Sl.tree, flatD, allFz, upS, dropAl, noAl, gAdd, gMulX, sCall, callF, rIo, rCons, rNil, argsS, argS, iosOf, backS, putB, clr, AV.ofSl, arOf, sTk, takeI, lNil, lCons, sLst, sTup, Rs.val, oDrop, a1, isOnes]
    | str b =>
      have a1 : isiB "str" "list" = false := by decide
      simp [onesB, sOr, sNot, sTru, truD, gIsi, tyD, fnRun, oSeq, oIf, sTst, s2, s1, sSt, sVar, sC, gB, rdC, gI, gIx, itemA, atI, El.fzd, oAsg, gRd, intD, tgN, tgS, setA, oRet, sMv, moveI, outs, rdA, Sl.tree, flatD, allFz, upS, dropAl, noAl, gAdd, gMulX, sCall, callF, rIo, rCons, rNil, argsS, argS, iosOf, backS, putB, clr, AV.ofSl, arOf, sTk, takeI, lNil, lCons, sLst, sTup, Rs.val, oDrop, a1, isOnes]
    | tuple b =>
      have a1 : isiB "tuple" "list" = false := by decide
      simp [onesB, sOr, sNot, sTru, truD, gIsi, tyD, fnRun, oSeq, oIf, sTst, s2, s1, sSt, sVar, sC, gB, rdC, gI, gIx, itemA, atI, El.fzd, oAsg, gRd, intD, tgN, tgS, setA, oRet, sMv, moveI, outs, rdA, Sl.tree, flatD, allFz, upS, dropAl, noAl, gAdd, gMulX, sCall, callF, rIo, rCons, rNil, argsS, argS, iosOf, backS, putB, clr, AV.ofSl, arOf, sTk, takeI, lNil, lCons, sLst, sTup, Rs.val, oDrop, a1, isOnes]
    | dict b =>
      have a1 : isiB "dict" "list" = false := by decide
      simp [onesB, sOr, sNot, sTru, truD, gIsi, tyD, fnRun, oSeq, oIf, sTst, s2, s1, sSt, sVar, sC, gB, rdC, gI, gIx, itemA, atI, El.fzd, oAsg, gRd, intD, tgN, tgS, setA, oRet, sMv, moveI, outs, rdA, Sl.tree, flatD, allFz, upS, dropAl, noAl, gAdd, gMulX, sCall, callF, rIo, rCons, rNil, argsS, argS, iosOf, backS, putB, clr, AV.ofSl, arOf, sTk, takeI, lNil, lCons, sLst, sTup, Rs.val, oDrop, a1, isOnes]
  show fnRun 2 3 [] B__law_are_ones _ = _
  unfold fnRun
  show (match B__law_are_ones [.fz (.int n), .fz v, .no] with
    | .nx δ' => FR.ok (.fz .none) (outs 2 [] δ')
    | .rt s δ' => .ok s (outs 2 [] δ')
    | .er x δ' => .er x (outs 2 [] δ')
    | _ => .bad) = _
  rw [show B__law_are_ones = onesB from rfl, hb]
  rfl
theorem ballot_ok (v : PyData) {n : Int} (h0 : 1 ≤ n) (h1 : n ≤ 12) (hv : Okv v) : F_is_ballot [.fz (.int n), .fz v] = .ok (.fz (.bool (isOne n v))) [.no, .no] := by
  simp [F_is_ballot, B_is_ballot, fnRun, oSeq, oIf, sTst, s2, s1, sSt, sVar, sC, gB, rdC, gI, gIx, itemA, atI, El.fzd, oAsg, gRd, intD, tgN, tgS, setA, oRet, sMv, moveI, outs, rdA, Sl.tree, flatD, allFz, upS, dropAl, noAl, gAdd, gMulX, sCall, callF, rIo, rCons, rNil, argsS, argS, iosOf, backS, putB, clr, AV.ofSl, arOf, sTk, takeI, lNil, lCons, sLst, sTup, Rs.val, oDrop, count_ok h0 h1, each_ok v (n := n) (by omega) (by omega) fun ds e => (hv ds e).1]
  rfl
theorem ballots_ok (v : PyData) {n : Int} (h0 : 1 ≤ n) (h1 : n ≤ 12) (hv : Okv v) : F_are_ballots [.fz (.int n), .fz v] = .ok (.fz (.bool (isOnes n v))) [.no, .no] := by
  simp [F_are_ballots, B_are_ballots, fnRun, oSeq, oIf, sTst, s2, s1, sSt, sVar, sC, gB, rdC, gI, gIx, itemA, atI, El.fzd, oAsg, gRd, intD, tgN, tgS, setA, oRet, sMv, moveI, outs, rdA, Sl.tree, flatD, allFz, upS, dropAl, noAl, gAdd, gMulX, sCall, callF, rIo, rCons, rNil, argsS, argS, iosOf, backS, putB, clr, AV.ofSl, arOf, sTk, takeI, lNil, lCons, sLst, sTup, Rs.val, oDrop, count_ok h0 h1, eaches_ok v (n := n) (by omega) (by omega) hv]
  rfl
end K01

namespace K01
open PySem Hb L2
structure Vd (D W : Nat) (d : PyData) : Prop where
  hs : shw d = true
  hl : d.leavesShort 50 = true
  hd : d.depth ≤ D
  hw : d.weight ≤ W
theorem Vd.mono {D W D' W' : Nat} {d : PyData} (h : Vd D W d) (h1 : D ≤ D') (h2 : W ≤ W') : Vd D' W' d := ⟨h.hs, h.hl, Nat.le_trans h.hd h1, Nat.le_trans h.hw h2⟩
theorem vd_all {D W : Nat} : ∀ {xs : List PyData}, (∀ x ∈ xs, Vd D W x) → shwAll xs = true ∧ PyData.leavesShortAll 50 xs = true ∧ PyData.depthAll xs ≤ D ∧ PyData.weightAll xs ≤ xs.length * (W + 1)
  | [], _ => by simp [shwAll, PyData.leavesShortAll, PyData.depthAll, PyData.weightAll]
  | x :: r, h => by
    obtain ⟨h1, h2, h3, h4⟩ := vd_all (xs := r) fun y hy => h y (List.mem_cons_of_mem _ hy)
    have hx := h x List.mem_cons_self
    have h5 := hx.hd
    have h6 := hx.hw
    refine ⟨by simp [shwAll, hx.hs, h1], by simp [PyData.leavesShortAll, hx.hl, h2], by simp only [PyData.depthAll]; omega, ?_⟩
    simp only [PyData.weightAll, List.length_cons, Nat.add_mul, Nat.one_mul]
    omega
theorem vd_list {D W L : Nat} {xs : List PyData} (h : ∀ x ∈ xs, Vd D W x) (hl : xs.length ≤ L) : Vd (D + 1) (L * (W + 1)) (.list xs) := by
  obtain ⟨h1, h2, h3, h4⟩ := vd_all h
  exact ⟨by simpa [shw] using h1, by simpa [PyData.leavesShort] using h2, by simp only [PyData.depth]; omega, by simp only [PyData.weight]; exact Nat.le_trans h4 (Nat.mul_le_mul_right _ hl)⟩
theorem vd_tup {D W L : Nat} {xs : List PyData} (h : ∀ x ∈ xs, Vd D W x) (hl : xs.length ≤ L) : Vd (D + 1) (L * (W + 1)) (.tuple xs) := by
  obtain ⟨h1, h2, h3, h4⟩ := vd_all h
  exact ⟨by simpa [shw] using h1, by simpa [PyData.leavesShort] using h2, by simp only [PyData.depth]; omega, by simp only [PyData.weight]; exact Nat.le_trans h4 (Nat.mul_le_mul_right _ hl)⟩
theorem vd_repr {D W : Nat} {d : PyData} (h : Vd D W d) (hD : D ≤ 60) (hW : W ≤ 300000) : reprD d = some (.str d.shown) := by
  have h1 := PyData.shown_le 50 (by decide) d h.hl
  have h2 := h.hw
  have h3 := h.hd
  have h4 : d.shown.length ≤ sizeLine := by
    rw [sizeLine_eq]
    omega
  unfold reprD
  rw [if_pos ⟨⟨h.hs, by omega⟩, h4⟩]
end K01

namespace K01
open PySem Hb L2
theorem eld : El.d ∘ El.fz = id := rfl
theorem eld3 : El.d ∘ El.fz ∘ El.d ∘ El.fz = id := rfl
theorem eld2 (d : PyData) : El.d (.fz d) = d := rfl
theorem atI_ints {ns : List Int} {a : Int} (h0 : 0 ≤ a) (h1 : a < ns.length) : ∃ x ∈ ns, atI (ns.map PyData.int) a = some (.int x) := by
  have hj : a.toNat < ns.length := by omega
  refine ⟨ns[a.toNat], List.getElem_mem hj, ?_⟩
  unfold atI
  rw [ixN_nat h0 (by simpa using h1)]
  simp [hj]
def nearP : List Sl → Ot := oPar [5, 6] (rCons (sCall F__law_draw [] (rIo 0 (rCons (sTk (s1 (gRd lenD) (sVar 1))) (rNil)))) (rCons (sCall F__law_draw [] (rIo 0 (rCons (sTk (s1 (gRd lenD) (sVar 1))) (rNil)))) (rNil)))
theorem nearP_ok {xs : List El} (hT : Tap (.ol xs)) {ds : List PyData} (h0 : 0 < ds.length) (h1 : ds.length ≤ 1000) : ∃ xs' a t, nearP [.ol xs, .fz (.list ds), .no, .no, .no, .no, .no] = .nx [.ol xs', .fz (.list ds), .no, .no, .no, .fz (.int a), .fz (.int t)] ∧ Tap (.ol xs') ∧ (0 ≤ a ∧ a < ds.length) ∧ 0 ≤ t ∧ t < ds.length := by
  obtain ⟨T1, a, e1, hT1, a0, a1⟩ := draw_ok hT (n := ds.length) (by omega) (by omega)
  obtain ⟨x1, rfl⟩ := tap_io hT1
  obtain ⟨T2, t, e2, hT2, t0, t1⟩ := draw_ok hT1 (n := ds.length) (by omega) (by omega)
  obtain ⟨x2, rfl⟩ := tap_io hT2
  refine ⟨x2, a, t, ?_, hT2, ⟨a0, a1⟩, t0, t1⟩
  simp [nearP, oPar, asgA, noIo, lenD, fnRun, oSeq, oIf, sTst, s2, s1, sSt, sVar, sC, gB, rdC, gI, gIx, itemA, El.fzd, oAsg, gRd, intD, tgN, tgS, setA, oRet, sMv, moveI, outs, rdA, Sl.tree, flatD, allFz, upS, dropAl, noAl, gAdd, gMulX, sCall, callF, rIo, rCons, rNil, argsS, argS, iosOf, backS, putB, clr, AV.ofSl, arOf, sTk, takeI, lNil, lCons, sLst, sTup, Rs.val, oDrop, e1, e2]
def near0 : List Sl → Rs AV := sLst (lCons (sVar 1) (lCons (s1 gRev (sVar 1)) (lCons (s1 (gTuple) (sVar 1)) (lCons (sSl (sVar 1) (some (sC (.int 1))) none) (lCons (s2 gAdd (sVar 1) (sLst (lCons (s1 (gRd lenD) (sVar 1)) (lNil)))) (lCons (s2 gAdd (sVar 1) (sSl (sVar 1) none (some (sC (.int 1))))) (lCons (sLst (lCons (sVar 1) (lNil))) (lCons (sDic0) (lCons (sC .none) (lCons (sC (.str "0")) (lCons (sC (.int 0)) (lCons (sLst (lNil)) (lCons (sLst (lCons (sC .none) (lNil))) (lNil))))))))))))))
def L0 (ds : List PyData) : List PyData := [.list ds, .list ds.reverse, .tuple ds, .list (cutD ds (some 1) none), .list (ds ++ [.int ds.length]), .list (ds ++ cutD ds none (some 1)), .list [.list ds], .dict [], .none, .str "0", .int 0, .list [], .list [.none]]
theorem cut_len (ds : List PyData) (lo hi : Option Int) : (cutD ds lo hi).length ≤ ds.length := by
  unfold cutD
  rw [List.length_take, List.length_drop]
  omega
theorem near0_ok {q0 q5 q6 : Sl} {ds : List PyData} (h1 : ds.length ≤ 1000) : near0 [q0, .fz (.list ds), .no, .no, .no, q5, q6] = .ok (.tmp (.ol ((L0 ds).map .fz))) [q0, .fz (.list ds), .no, .no, .no, q5, q6] := by
  have c1 : ds.length ≤ 1000000 := by omega
  have c2 := cut_len ds none (some 1)
  have c3 : (cutD ds none (some 1)).length ≤ 1000000 := by omega
  simp [near0, L0, sSl, sPartO, gSl, gRev, gTuple, sDic0, lenD, partI, seqD, mapD, cap, fnRun, oSeq, oIf, sTst, s2, s1, sSt, sVar, sC, gB, rdC, gI, gIx, itemA, El.fzd, oAsg, gRd, intD, tgN, tgS, setA, oRet, sMv, moveI, outs, rdA, Sl.tree, flatD, allFz, upS, dropAl, noAl, gAdd, gMulX, sCall, callF, rIo, rCons, rNil, argsS, argS, iosOf, backS, putB, clr, AV.ofSl, arOf, sTk, takeI, lNil, lCons, sLst, sTup, Rs.val, oDrop, c1, c3, eld, eld2, eld3]
/-- the row with two of its items exchanged -/
def nearX : List Sl → Ot := oAsg (sTup (lCons (s2 gIx (sVar 1) (sVar 6)) (lCons (s2 gIx (sVar 1) (sVar 5)) (lNil)))) (tgT 2 (tgCons (tgS (sVar 3) (sVar 5)) (tgCons (tgS (sVar 3) (sVar 6)) (tgNil))))
theorem nearX_ok {xs ys : List El} {ns : List Int} {a t : Int} (a0 : 0 ≤ a) (a1 : a < ns.length) (t0 : 0 ≤ t) (t1 : t < ns.length) :
    ∃ x ∈ ns, ∃ y ∈ ns, nearX [.ol xs, .fz (.list (ns.map .int)), .ol ys, .ol ((ns.map PyData.int).map .fz), .no, .fz (.int a), .fz (.int t)] =
      .nx [.ol xs, .fz (.list (ns.map .int)), .ol ys, .ol ((((ns.set a.toNat x).set t.toNat y).map PyData.int).map .fz), .no, .fz (.int a), .fz (.int t)] := by
  obtain ⟨x, hx, ex⟩ := atI_ints t0 t1
  obtain ⟨y, hy, ey⟩ := atI_ints a0 a1
  refine ⟨x, hx, y, hy, ?_⟩
  have i1 : ixN ns.length a = some a.toNat := ixN_nat a0 a1
  have i2 : ixN ns.length t = some t.toNat := ixN_nat t0 t1
  have e0 := e_allFz (ns.map PyData.int)
  have e1 := e_allFz ((ns.set a.toNat x).map PyData.int)
  have m1 : (ns.set a.toNat x).map PyData.int = (ns.map PyData.int).set a.toNat (.int x) := List.map_set
  have m2 : ((ns.set a.toNat x).set t.toNat y).map PyData.int = ((ns.map PyData.int).set a.toNat (.int x)).set t.toNat (.int y) := by rw [List.map_set, List.map_set]
  rw [m1] at e1
  rw [m2]
  have ll : (ns.map PyData.int).length = ns.length := List.length_map _
  generalize ns.map PyData.int = R at *
  have l1 : ixN R.length a = some a.toNat := by rw [ll]; exact i1
  have l2 : ixN R.length t = some t.toNat := by rw [ll]; exact i2
  simp [nearX, tgT, tgCons, tgNil, Rs.otU, cap, itemD, fnRun, oSeq, oIf, sTst, s2, s1, sSt, sVar, sC, gB, rdC, gI, gIx, itemA, El.fzd, oAsg, gRd, intD, tgN, tgS, setA, oRet, sMv, moveI, outs, rdA, Sl.tree, flatD, allFz, upS, dropAl, noAl, gAdd, gMulX, sCall, callF, rIo, rCons, rNil, argsS, argS, iosOf, backS, putB, clr, AV.ofSl, arOf, sTk, takeI, lNil, lCons, sLst, sTup, Rs.val, oDrop, ex, ey, l1, l2, e0, e1, mapD, eld, eld2, -List.map_set]
def nearF : List Sl → Ot := oDrop (sApp (sVar 2) (s2 gAdd (s2 gAdd (sSl (sVar 1) none (some (sVar 5))) (sLst (lCons (sVar 4) (lNil)))) (sSl (sVar 1) (some (s2 gAdd (sVar 5) (sC (.int 1)))) none)))
theorem nearF_ok {xs ys : List El} {q3' : PyData} {ds vs : List PyData} {d : PyData} {a t : Int} (h1 : ds.length ≤ 1000) (h2 : vs.length ≤ 1000) :
    nearF [.ol xs, .fz (.list ds), .ol (vs.map .fz), .fz q3', .fz d, .fz (.int a), .fz (.int t)] =
      .nx [.ol xs, .fz (.list ds), .ol ((vs ++ [PyData.list (cutD ds none (some a) ++ [d] ++ cutD ds (some (a + 1)) none)]).map .fz), .fz q3', .fz d, .fz (.int a), .fz (.int t)] := by
  have c1 := cut_len ds none (some a)
  have c2 := cut_len ds (some (a + 1)) none
  have c3 : (cutD ds none (some a)).length ≤ 1000000 := by omega
  have c4 : (cutD ds (some (a + 1)) none).length ≤ 1000000 := by omega
  have c5 : vs.length ≤ 1000000 := by omega
  have c6 : (cutD ds none (some a)).length + 1 ≤ 1000000 := by omega
  simp [nearF, sApp, isLst, appA, appI, sSl, sPartO, gSl, mapD, cap, fnRun, oSeq, oIf, sTst, s2, s1, sSt, sVar, sC, gB, rdC, gI, gIx, itemA, El.fzd, oAsg, gRd, intD, tgN, tgS, setA, oRet, sMv, moveI, outs, rdA, Sl.tree, flatD, allFz, upS, dropAl, noAl, gAdd, gMulX, sCall, callF, rIo, rCons, rNil, argsS, argS, iosOf, backS, putB, clr, AV.ofSl, arOf, sTk, takeI, lNil, lCons, sLst, sTup, Rs.val, oDrop, c3, c4, c5, c6, eld, eld2, eld3]
def nearI : List Sl → Rs AV := sLst (lCons (s2 gIx (sVar 1) (sVar 6)) (lCons (s1 gNeg (sC (.int 1))) (lCons (s1 (gRd lenD) (sVar 1)) (lCons (s2 gPow (sC (.int 10)) (sC (.int 39))) (lCons (sC (.bool true)) (lCons (sC (.bool false)) (lCons (sC .none) (lCons (s1 (gRd strD) (s2 gIx (sVar 1) (sVar 5))) (lCons (sLst (lCons (s2 gIx (sVar 1) (sVar 5)) (lNil))) (lCons (sTup (lCons (s2 gIx (sVar 1) (sVar 5)) (lNil))) (lCons (s2 gEq (s2 gIx (sVar 1) (sVar 5)) (sC (.int 1))) (lNil))))))))))))
def L1 (x y m : Int) : List PyData := [.int y, .int (-1), .int m, .int (10 ^ 39), .bool true, .bool false, .none, .str (toString x), .list [.int x], .tuple [.int x], .bool (decide (x = 1))]
theorem nearI_ok {xs ys : List El} {q3' : PyData} {ds : List PyData} {a t x y : Int} (ex : atI ds a = some (.int x)) (ey : atI ds t = some (.int y)) (hx : x.natAbs.log2 < 1920) :
    nearI [.ol xs, .fz (.list ds), .ol ys, .fz q3', .no, .fz (.int a), .fz (.int t)] =
      .ok (.tmp (.ol ((L1 x y ds.length).map .fz))) [.ol xs, .fz (.list ds), .ol ys, .fz q3', .no, .fz (.int a), .fz (.int t)] := by
  simp [nearI, L1, gNeg, gPow, strD, gEq, eqD_int, lenD, itemD, cap, fnRun, oSeq, oIf, sTst, s2, s1, sSt, sVar, sC, gB, rdC, gI, gIx, itemA, El.fzd, oAsg, gRd, intD, tgN, tgS, setA, oRet, sMv, moveI, outs, rdA, Sl.tree, flatD, allFz, upS, dropAl, noAl, gAdd, gMulX, sCall, callF, rIo, rCons, rNil, argsS, argS, iosOf, backS, putB, clr, AV.ofSl, arOf, sTk, takeI, lNil, lCons, sLst, sTup, Rs.val, oDrop, ex, ey, hx, eld, eld2]
end K01

namespace K01
open PySem Hb L2
def lcA : List Sl → Rs AV := sLc false (wSeq (sVar 1)) [4] (tgN 4) (tOk) (sTk (sIf (sTst (s2 gLt (sVar 4) (sC (.int 2)))) (s2 gEq (sVar 4) (sC (.int 1))) (sVar 4)))
def lcB : List Sl → Rs AV := sLc false (wSeq (sVar 1)) [4] (tgN 4) (tOk) (sTk (s2 gAdd (sVar 4) (sC (.int 1))))
def gA : PyData → PyData
  | .int i => if i < 2 then .bool (decide (i = 1)) else .int i
  | d => d
def gB1 : PyData → PyData
  | .int i => .int (i + 1)
  | d => d
theorem lcA_ok {xs ys : List El} {q3' q4' q5 q6 : PyData} {ns : List Int} (h1 : ns.length ≤ 1000) : lcA [.ol xs, .fz (.list (ns.map .int)), .ol ys, .fz q3', .fz q4', .fz q5, .fz q6] =
    .ok (.tmp (.ol (((ns.map PyData.int).map gA).map .fz))) [.ol xs, .fz (.list (ns.map .int)), .ol ys, .fz q3', .fz q4', .fz q5, .fz q6] := by
  have h := lc_pure (vs := [4]) (t := tgN 4) (tt := tOk) (f := sTk (sIf (sTst (s2 gLt (sVar 4) (sC (.int 2)))) (s2 gEq (sVar 4) (sC (.int 1))) (sVar 4))) (δ := [.ol xs, .fz (.list (ns.map .int)), .ol ys, .fz q3', .fz q4', .fz q5, .fz q6]) (fun _ => true) gA rfl (ds := ns.map .int) (es := []) (by simp [cap]; omega) fun d hd => by
    obtain ⟨i, _, rfl⟩ := List.mem_map.mp hd
    refine ⟨[.ol xs, .fz (.list (ns.map .int)), .ol ys, .fz q3', .fz (.int i), .fz q5, .fz q6], [.ol xs, .fz (.list (ns.map .int)), .ol ys, .fz q3', .fz (.int i), .fz q5, .fz q6], rfl, rfl, ⟨(fun z => nomatch z), fun _ => ⟨[.ol xs, .fz (.list (ns.map .int)), .ol ys, .fz q3', .fz (.int i), .fz q5, .fz q6], ?_, rfl⟩⟩⟩
    by_cases c : i < 2
    · simp [sIf, gLt, gEq, eqD_int, gA, fnRun, oSeq, oIf, sTst, s2, s1, sSt, sVar, sC, gB, rdC, gI, gIx, itemA, El.fzd, oAsg, gRd, intD, tgN, tgS, setA, oRet, sMv, moveI, outs, rdA, Sl.tree, flatD, allFz, upS, dropAl, noAl, gAdd, gMulX, sCall, callF, rIo, rCons, rNil, argsS, argS, iosOf, backS, putB, clr, AV.ofSl, arOf, sTk, takeI, lNil, lCons, sLst, sTup, Rs.val, oDrop, c]
    · simp [sIf, gLt, gEq, eqD_int, gA, fnRun, oSeq, oIf, sTst, s2, s1, sSt, sVar, sC, gB, rdC, gI, gIx, itemA, El.fzd, oAsg, gRd, intD, tgN, tgS, setA, oRet, sMv, moveI, outs, rdA, Sl.tree, flatD, allFz, upS, dropAl, noAl, gAdd, gMulX, sCall, callF, rIo, rCons, rNil, argsS, argS, iosOf, backS, putB, clr, AV.ofSl, arOf, sTk, takeI, lNil, lCons, sLst, sTup, Rs.val, oDrop, c]
  unfold lcA sLc
  have w : wSeq (sVar 1) [.ol xs, .fz (.list (ns.map .int)), .ol ys, .fz q3', .fz q4', .fz q5, .fz q6] = .ok (ns.map .int) [.ol xs, .fz (.list (ns.map .int)), .ol ys, .fz q3', .fz q4', .fz q5, .fz q6] := by
    simp [wSeq, seqD, fnRun, oSeq, oIf, sTst, s2, s1, sSt, sVar, sC, gB, rdC, gI, gIx, itemA, El.fzd, oAsg, gRd, intD, tgN, tgS, setA, oRet, sMv, moveI, outs, rdA, Sl.tree, flatD, allFz, upS, dropAl, noAl, gAdd, gMulX, sCall, callF, rIo, rCons, rNil, argsS, argS, iosOf, backS, putB, clr, AV.ofSl, arOf, sTk, takeI, lNil, lCons, sLst, sTup, Rs.val, oDrop]
  have ft : (ns.map PyData.int).filter (fun _ => true) = ns.map PyData.int := List.filter_eq_self.mpr fun _ _ => rfl
  rw [w, e_bind, h, ft]
  rfl
theorem lcB_ok {xs ys : List El} {q3' q4' q5 q6 : PyData} {ns : List Int} (h1 : ns.length ≤ 1000) : lcB [.ol xs, .fz (.list (ns.map .int)), .ol ys, .fz q3', .fz q4', .fz q5, .fz q6] =
    .ok (.tmp (.ol (((ns.map PyData.int).map gB1).map .fz))) [.ol xs, .fz (.list (ns.map .int)), .ol ys, .fz q3', .fz q4', .fz q5, .fz q6] := by
  have h := lc_pure (vs := [4]) (t := tgN 4) (tt := tOk) (f := sTk (s2 gAdd (sVar 4) (sC (.int 1)))) (δ := [.ol xs, .fz (.list (ns.map .int)), .ol ys, .fz q3', .fz q4', .fz q5, .fz q6]) (fun _ => true) gB1 rfl (ds := ns.map .int) (es := []) (by simp [cap]; omega) fun d hd => by
    obtain ⟨i, _, rfl⟩ := List.mem_map.mp hd
    refine ⟨[.ol xs, .fz (.list (ns.map .int)), .ol ys, .fz q3', .fz (.int i), .fz q5, .fz q6], [.ol xs, .fz (.list (ns.map .int)), .ol ys, .fz q3', .fz (.int i), .fz q5, .fz q6], rfl, rfl, ⟨(fun z => nomatch z), fun _ => ⟨[.ol xs, .fz (.list (ns.map .int)), .ol ys, .fz q3', .fz (.int i), .fz q5, .fz q6], ?_, rfl⟩⟩⟩
    simp [gB1, fnRun, oSeq, oIf, sTst, s2, s1, sSt, sVar, sC, gB, rdC, gI, gIx, itemA, El.fzd, oAsg, gRd, intD, tgN, tgS, setA, oRet, sMv, moveI, outs, rdA, Sl.tree, flatD, allFz, upS, dropAl, noAl, gAdd, gMulX, sCall, callF, rIo, rCons, rNil, argsS, argS, iosOf, backS, putB, clr, AV.ofSl, arOf, sTk, takeI, lNil, lCons, sLst, sTup, Rs.val, oDrop]
  unfold lcB sLc
  have w : wSeq (sVar 1) [.ol xs, .fz (.list (ns.map .int)), .ol ys, .fz q3', .fz q4', .fz q5, .fz q6] = .ok (ns.map .int) [.ol xs, .fz (.list (ns.map .int)), .ol ys, .fz q3', .fz q4', .fz q5, .fz q6] := by
    simp [wSeq, seqD, fnRun, oSeq, oIf, sTst, s2, s1, sSt, sVar, sC, gB, rdC, gI, gIx, itemA, El.fzd, oAsg, gRd, intD, tgN, tgS, setA, oRet, sMv, moveI, outs, rdA, Sl.tree, flatD, allFz, upS, dropAl, noAl, gAdd, gMulX, sCall, callF, rIo, rCons, rNil, argsS, argS, iosOf, backS, putB, clr, AV.ofSl, arOf, sTk, takeI, lNil, lCons, sLst, sTup, Rs.val, oDrop]
  have ft : (ns.map PyData.int).filter (fun _ => true) = ns.map PyData.int := List.filter_eq_self.mpr fun _ _ => rfl
  rw [w, e_bind, h, ft]
  rfl
def nearR : List Sl → Rs AV := s2 gAdd (sVar 2) (sLst (lCons lcA (lCons lcB (lCons (s2 gMulX (sLst (lCons (sC (.int 0)) (lNil))) (s1 (gRd lenD) (sVar 1))) (lNil)))))
def Lz (ns : List Int) : List PyData := [.list ((ns.map PyData.int).map gA), .list ((ns.map PyData.int).map gB1), .list (List.replicate ns.length (.int 0))]
theorem nearR_ok {xs : List El} {vs : List PyData} {q3' q4' q5 q6 : PyData} {ns : List Int} (h1 : ns.length ≤ 1000) (h2 : vs.length ≤ 1000) : nearR [.ol xs, .fz (.list (ns.map .int)), .ol (vs.map .fz), .fz q3', .fz q4', .fz q5, .fz q6] =
    .ok (.tmp (.ol ((vs ++ Lz ns).map .fz))) [.ol xs, .fz (.list (ns.map .int)), .ol (vs.map .fz), .fz q3', .fz q4', .fz q5, .fz q6] := by
  have lA := lcA_ok (xs := xs) (ys := vs.map .fz) (q3' := q3') (q4' := q4') (q5 := q5) (q6 := q6) h1
  have lB := lcB_ok (xs := xs) (ys := vs.map .fz) (q3' := q3') (q4' := q4') (q5 := q5) (q6 := q6) h1
  have c1 : vs.length ≤ 1000000 := by omega
  have c2 : (ns.length : Int) ≤ 1000 := by omega
  have c3 : (List.replicate ns.length [PyData.int 0]).flatten = List.replicate ns.length (PyData.int 0) := by
    generalize ns.length = k
    induction k with
    | zero => rfl
    | succ k ih => rw [List.replicate_succ, List.flatten_cons, ih]; rfl
  have c4 := e_allFz vs
  simp [nearR, Lz, lenD, mapD, cap, fnRun, oSeq, oIf, sTst, s2, s1, sSt, sVar, sC, gB, rdC, gI, gIx, itemA, El.fzd, oAsg, gRd, intD, tgN, tgS, setA, oRet, sMv, moveI, outs, rdA, Sl.tree, flatD, allFz, upS, dropAl, noAl, gAdd, gMulX, sCall, callF, rIo, rCons, rNil, argsS, argS, iosOf, backS, putB, clr, AV.ofSl, arOf, sTk, takeI, lNil, lCons, sLst, sTup, Rs.val, oDrop, lA, lB, c1, c2, c3, c4, h1, eld, eld2, eld3, -List.map_map]
theorem nearEq : B__law_near = oSeq nearP (oSeq (oAsg near0 (tgN 2)) (oSeq (oAsg (s1 gList (sVar 1)) (tgN 3)) (oSeq nearX (oSeq (oDrop (sApp (sVar 2) (sVar 3))) (oSeq (oFor (wSeq nearI) (tgN 4) nearF) (oRet nearR)))))) := rfl
end K01

namespace K01
open PySem Hb L2
theorem shown_nat {i : Int} (h : i.natAbs < 10 ^ 12) : (PyData.shown (.int i)).length ≤ 13 := PyData.shown_int_le h
theorem vd_int {i : Int} (h0 : 0 ≤ i) (h1 : i ≤ 13) : Vd 0 4 (.int i) := by
  have h2 : (PyData.shown (.int i)).length ≤ 13 := shown_nat (by omega)
  have hl : i.natAbs.log2 ≤ 3 := by
    have : i.natAbs ≤ 13 := by omega
    generalize i.natAbs = k at this
    have : k < 14 := by omega
    revert this
    revert k
    decide
  refine ⟨by simp [shw]; omega, by simp [PyData.leavesShort]; omega, by simp [PyData.depth], ?_⟩
  simp only [PyData.weight]
  split <;> omega
structure NV (v : PyData) : Prop where
  ok : Okv v
  vd : Vd 3 420 v
theorem nv_leaf {v : PyData} (h : Vd 3 420 v) (hn : ∀ ds, v ≠ .list ds) : NV v := ⟨fun ds e => absurd e (hn ds), h⟩
theorem nv_list {ds : List PyData} (h : Vd 3 420 (.list ds)) (hl : ds.length ≤ 1000) (h2 : ∀ d ∈ ds, ∀ es, d = .list es → es.length ≤ 1000) : NV (.list ds) :=
  ⟨fun es e => by cases e; exact ⟨by omega, fun d hd es q => by have := h2 d hd es q; omega⟩, h⟩
/-- a list of small leaves -/
theorem nv_small {ds : List PyData} (hl : ds.length ≤ 40) (h : ∀ d ∈ ds, Vd 0 5 d) : NV (.list ds) :=
  nv_list ((vd_list h hl).mono (by omega) (by omega)) (by omega) fun d hd es e => by
    have := (h d hd).hd
    subst e
    simp only [PyData.depth] at this
    omega
theorem vd_none : Vd 0 5 .none := ⟨by simp [shw], by simp [PyData.leavesShort], by simp [PyData.depth], by simp [PyData.weight]⟩
theorem vd_bool (b : Bool) : Vd 0 5 (.bool b) := ⟨by simp [shw], by simp [PyData.leavesShort], by simp [PyData.depth], by simp [PyData.weight]⟩
theorem vd_big : Vd 0 131 (.int (10 ^ 39)) := ⟨by simp [shw]; decide, by decide, by simp [PyData.depth], by decide⟩
theorem vd_neg : Vd 0 5 (.int (-1)) := ⟨by decide, by decide, by simp [PyData.depth], by decide⟩
theorem cut_mem {ds : List PyData} {lo hi : Option Int} {d : PyData} (h : d ∈ cutD ds lo hi) : d ∈ ds := by
  unfold cutD at h
  exact List.mem_of_mem_drop (List.mem_of_mem_take h)
end K01

namespace K01
open PySem Hb L2
theorem shw_app : ∀ xs ys : List PyData, shwAll (xs ++ ys) = (shwAll xs && shwAll ys)
  | [], ys => by simp [shwAll]
  | x :: r, ys => by simp [shwAll, shw_app r ys, Bool.and_assoc]
theorem lsh_app : ∀ xs ys : List PyData, PyData.leavesShortAll 50 (xs ++ ys) = (PyData.leavesShortAll 50 xs && PyData.leavesShortAll 50 ys)
  | [], ys => by simp [PyData.leavesShortAll]
  | x :: r, ys => by simp [PyData.leavesShortAll, lsh_app r ys, Bool.and_assoc]
theorem dep_app : ∀ xs ys : List PyData, PyData.depthAll (xs ++ ys) = max (PyData.depthAll xs) (PyData.depthAll ys)
  | [], ys => by simp [PyData.depthAll]
  | x :: r, ys => by simp [PyData.depthAll, dep_app r ys, Nat.max_assoc]
theorem wei_app : ∀ xs ys : List PyData, PyData.weightAll (xs ++ ys) = PyData.weightAll xs + PyData.weightAll ys
  | [], ys => by simp [PyData.weightAll]
  | x :: r, ys => by simp [PyData.weightAll, wei_app r ys, Nat.add_assoc]
structure Va (D W : Nat) (xs : List PyData) : Prop where
  s : shwAll xs = true
  l : PyData.leavesShortAll 50 xs = true
  d : PyData.depthAll xs ≤ D
  w : PyData.weightAll xs ≤ W
theorem va_of {D W L : Nat} {xs : List PyData} (h : ∀ x ∈ xs, Vd D W x) (hl : xs.length ≤ L) : Va D (L * (W + 1)) xs := by
  obtain ⟨h1, h2, h3, h4⟩ := vd_all h
  exact ⟨h1, h2, h3, Nat.le_trans h4 (Nat.mul_le_mul_right _ hl)⟩
theorem Va.app {D W D' W' : Nat} {xs ys : List PyData} (h : Va D W xs) (h' : Va D' W' ys) : Va (max D D') (W + W') (xs ++ ys) := by
  refine ⟨by rw [shw_app, h.s, h'.s]; rfl, by rw [lsh_app, h.l, h'.l]; rfl, ?_, ?_⟩
  · rw [dep_app]
    have h1 := h.d
    have h2 := h'.d
    omega
  · rw [wei_app]
    exact Nat.add_le_add h.w h'.w
theorem Va.list {D W : Nat} {xs : List PyData} (h : Va D W xs) : Vd (D + 1) W (.list xs) := by
  obtain ⟨h1, h2, h3, h4⟩ := h
  exact ⟨by simpa [shw] using h1, by simpa [PyData.leavesShort] using h2, by simp only [PyData.depth]; omega, by simpa only [PyData.weight] using h4⟩
theorem nv_mid {A B : List PyData} {d : PyData} (hA : ∀ x ∈ A, Vd 0 5 x) (hB : ∀ x ∈ B, Vd 0 5 x) (lA : A.length ≤ 12) (lB : B.length ≤ 12) (hd : Vd 1 131 d) (ld : ∀ es, d = .list es → es.length ≤ 1000) : NV (.list (A ++ [d] ++ B)) := by
  have v := ((va_of hA lA).app (va_of (xs := [d]) (L := 1) (fun x hx => by rw [List.mem_singleton.mp hx]; exact hd) (by simp))).app (va_of hB lB)
  refine nv_list (v.list.mono (by omega) (by omega)) (by simp; omega) fun x hx es e => ?_
  have flat : ∀ {y : PyData}, Vd 0 5 y → y = .list es → es.length ≤ 1000 := fun {y} hy e => by
    have := hy.hd
    subst e
    simp only [PyData.depth] at this
    omega
  rcases List.mem_append.mp hx with h | h
  · rcases List.mem_append.mp h with h | h
    · exact flat (hA x h) e
    · rw [List.mem_singleton.mp h] at e
      exact ld es e
  · exact flat (hB x h) e
theorem vd_str {x : Int} (h0 : 0 ≤ x) (h1 : x ≤ 12) : Vd 0 5 (.str (toString x)) := by
  have h : x = 0 ∨ x = 1 ∨ x = 2 ∨ x = 3 ∨ x = 4 ∨ x = 5 ∨ x = 6 ∨ x = 7 ∨ x = 8 ∨ x = 9 ∨ x = 10 ∨ x = 11 ∨ x = 12 := by omega
  rcases h with rfl | rfl | rfl | rfl | rfl | rfl | rfl | rfl | rfl | rfl | rfl | rfl | rfl <;> exact ⟨by simp [shw], by decide, by simp [PyData.depth], by decide⟩
def Sm (ns : List Int) : Prop := ns.length ≤ 12 ∧ ∀ i ∈ ns, 0 ≤ i ∧ i < 12
theorem sm_vd {ns : List Int} (h : Sm ns) : ∀ d ∈ ns.map PyData.int, Vd 0 5 d := fun d hd => by
  obtain ⟨i, hi, rfl⟩ := List.mem_map.mp hd
  have := h.2 i hi
  exact (vd_int this.1 (by omega)).mono (Nat.le_refl _) (by omega)
theorem nv_L0 {ns : List Int} (h : Sm ns) : ∀ v ∈ L0 (ns.map .int), NV v := by
  have hm := sm_vd h
  have hl : (ns.map PyData.int).length ≤ 12 := by simpa using h.1
  generalize ns.map PyData.int = ds at hm hl
  have c1 := cut_len ds (some 1) none
  have c2 := cut_len ds none (some 1)
  intro v hv
  simp only [L0, List.mem_cons, List.not_mem_nil, or_false] at hv
  rcases hv with rfl | rfl | rfl | rfl | rfl | rfl | rfl | rfl | rfl | rfl | rfl | rfl | rfl
  · exact nv_small (by omega) hm
  · exact nv_small (by simp; omega) fun d hd => hm d (List.mem_reverse.mp hd)
  · exact nv_leaf ((vd_tup hm hl).mono (by omega) (by omega)) fun _ e => by cases e
  · exact nv_small (by omega) fun d hd => hm d (cut_mem hd)
  · refine nv_small (by simp; omega) fun d hd => ?_
    rcases List.mem_append.mp hd with q | q
    · exact hm d q
    · rw [List.mem_singleton.mp q]
      exact (vd_int (by omega) (by omega)).mono (Nat.le_refl _) (by omega)
  · refine nv_small (by simp; omega) fun d hd => ?_
    rcases List.mem_append.mp hd with q | q
    · exact hm d q
    · exact hm d (cut_mem q)
  · have w := vd_list (L := 1) (xs := [.list ds]) (fun x hx => by rw [List.mem_singleton.mp hx]; exact vd_list hm hl) (by simp)
    exact nv_list (w.mono (by omega) (by omega)) (by simp) fun d hd es e => by
      rw [List.mem_singleton.mp hd] at e
      cases e
      omega
  · exact nv_leaf ⟨by simp [shw], by simp [PyData.leavesShort, PyData.leavesShortKv], by simp [PyData.depth, PyData.depthKv], by simp [PyData.weight, PyData.weightKv]⟩ fun _ e => by cases e
  · exact nv_leaf (vd_none.mono (by omega) (by omega)) fun _ e => by cases e
  · exact nv_leaf ⟨by simp [shw], by decide, by simp [PyData.depth], by decide⟩ fun _ e => by cases e
  · exact nv_leaf ((vd_int (by omega) (by omega)).mono (by omega) (by omega)) fun _ e => by cases e
  · exact nv_small (by simp) fun d hd => by cases hd
  · exact nv_small (by simp) fun d hd => by rw [List.mem_singleton.mp hd]; exact vd_none
theorem vd_L1 {x y m : Int} (hx : 0 ≤ x ∧ x ≤ 12) (hy : 0 ≤ y ∧ y ≤ 12) (hm : 0 ≤ m ∧ m ≤ 12) : ∀ d ∈ L1 x y m, Vd 1 131 d ∧ ∀ es, d = .list es → es.length ≤ 1000 := by
  have nl : ∀ {d : PyData} {W : Nat}, Vd 0 W d → ∀ es, d = .list es → es.length ≤ 1000 := fun {d W} h es e => by
    have := h.hd
    subst e
    simp only [PyData.depth] at this
    omega
  have up : ∀ {d : PyData} {W : Nat}, Vd 0 W d → W ≤ 131 → Vd 1 131 d ∧ ∀ es, d = .list es → es.length ≤ 1000 := fun h w => ⟨h.mono (by omega) w, nl h⟩
  intro d hd
  simp only [L1, List.mem_cons, List.not_mem_nil, or_false] at hd
  rcases hd with rfl | rfl | rfl | rfl | rfl | rfl | rfl | rfl | rfl | rfl | rfl
  · exact up (vd_int hy.1 (by omega)) (by omega)
  · exact up vd_neg (by omega)
  · exact up (vd_int hm.1 (by omega)) (by omega)
  · exact up vd_big (by omega)
  · exact up (vd_bool _) (by omega)
  · exact up (vd_bool _) (by omega)
  · exact up vd_none (by omega)
  · exact up (vd_str hx.1 hx.2) (by omega)
  · exact ⟨(vd_list (L := 1) (xs := [.int x]) (fun z hz => by rw [List.mem_singleton.mp hz]; exact vd_int hx.1 (by omega)) (by simp)).mono (by omega) (by omega), fun es e => by cases e; simp⟩
  · exact ⟨(vd_tup (L := 1) (xs := [.int x]) (fun z hz => by rw [List.mem_singleton.mp hz]; exact vd_int hx.1 (by omega)) (by simp)).mono (by omega) (by omega), fun es e => by cases e⟩
  · exact up (vd_bool _) (by omega)
theorem nv_Lz {ns : List Int} (h : Sm ns) : ∀ v ∈ Lz ns, NV v := by
  intro v hv
  have hl := h.1
  simp only [Lz, List.mem_cons, List.not_mem_nil, or_false] at hv
  rcases hv with rfl | rfl | rfl
  · refine nv_small (by simp; omega) fun d hd => ?_
    obtain ⟨e, he, rfl⟩ := List.mem_map.mp hd
    obtain ⟨i, hi, rfl⟩ := List.mem_map.mp he
    have := h.2 i hi
    by_cases c : i < 2
    · simp only [gA, if_pos c]
      exact vd_bool _
    · simp only [gA, if_neg c]
      exact (vd_int this.1 (by omega)).mono (Nat.le_refl _) (by omega)
  · refine nv_small (by simp; omega) fun d hd => ?_
    obtain ⟨e, he, rfl⟩ := List.mem_map.mp hd
    obtain ⟨i, hi, rfl⟩ := List.mem_map.mp he
    have := h.2 i hi
    exact (vd_int (by omega) (by omega)).mono (Nat.le_refl _) (by omega)
  · refine nv_small (by simp; omega) fun d hd => ?_
    rw [List.eq_of_mem_replicate hd]
    exact (vd_int (by omega) (by omega)).mono (Nat.le_refl _) (by omega)
end K01

namespace K01
open PySem Hb L2
theorem near_run {xs : List El} (hT : Tap (.ol xs)) {ns : List Int} (h0 : 0 < ns.length) (hs : Sm ns) :
    ∃ (xs' : List El) (vs : List PyData), F__law_near [.ol xs, .fz (.list (ns.map .int))] = .ok (.ol (vs.map .fz)) [.ol xs', .no] ∧ Tap (.ol xs') ∧ vs.length ≤ 40 ∧ ∀ v ∈ vs, NV v := by
  have hl := hs.1
  have hlm : (ns.map PyData.int).length = ns.length := List.length_map _
  obtain ⟨x1, a, t, e1, hT1, ⟨a0, a1⟩, t0, t1⟩ := nearP_ok hT (ds := ns.map .int) (by omega) (by omega)
  rw [hlm] at a1 t1
  obtain ⟨x, hx, y, hy, e4⟩ := nearX_ok (xs := x1) (ys := (L0 (ns.map .int)).map .fz) a0 a1 t0 t1
  have e2 : oAsg near0 (tgN 2) [.ol x1, .fz (.list (ns.map .int)), .no, .no, .no, .fz (.int a), .fz (.int t)] = .nx [.ol x1, .fz (.list (ns.map .int)), .ol ((L0 (ns.map .int)).map .fz), .no, .no, .fz (.int a), .fz (.int t)] := by
    unfold oAsg
    rw [near0_ok (by omega)]
    rfl
  have e3 : oAsg (s1 gList (sVar 1)) (tgN 3) [.ol x1, .fz (.list (ns.map .int)), .ol ((L0 (ns.map .int)).map .fz), .no, .no, .fz (.int a), .fz (.int t)] = .nx [.ol x1, .fz (.list (ns.map .int)), .ol ((L0 (ns.map .int)).map .fz), .ol ((ns.map PyData.int).map .fz), .no, .fz (.int a), .fz (.int t)] := by
    have c := hlm
    generalize ns.map PyData.int = ds at *
    have c1 : ds.length ≤ 1000000 := by omega
    simp [gList, cap, fnRun, oSeq, oIf, sTst, s2, s1, sSt, sVar, sC, gB, rdC, gI, gIx, itemA, El.fzd, oAsg, gRd, intD, tgN, tgS, setA, oRet, sMv, moveI, outs, rdA, Sl.tree, flatD, allFz, upS, dropAl, noAl, gAdd, gMulX, sCall, callF, rIo, rCons, rNil, argsS, argS, iosOf, backS, putB, clr, AV.ofSl, arOf, sTk, takeI, lNil, lCons, sLst, sTup, Rs.val, oDrop, c1]
  obtain ⟨mv, hmv⟩ : ∃ mv, mv = (ns.set a.toNat x).set t.toNat y := ⟨_, rfl⟩
  rw [← hmv] at e4
  have hsm : Sm mv := by
    refine ⟨by rw [hmv, List.length_set, List.length_set]; exact hl, fun i hi => ?_⟩
    rw [hmv] at hi
    rcases List.mem_or_eq_of_mem_set hi with q | q
    · rcases List.mem_or_eq_of_mem_set q with q | q
      · exact hs.2 i q
      · rw [q]; exact hs.2 x hx
    · rw [q]; exact hs.2 y hy
  have e5 : oDrop (sApp (sVar 2) (sVar 3)) [.ol x1, .fz (.list (ns.map .int)), .ol ((L0 (ns.map .int)).map .fz), .ol ((mv.map PyData.int).map .fz), .no, .fz (.int a), .fz (.int t)] =
      .nx [.ol x1, .fz (.list (ns.map .int)), .ol ((L0 (ns.map .int) ++ [PyData.list (mv.map .int)]).map .fz), .fz (.list (mv.map .int)), .no, .fz (.int a), .fz (.int t)] := by
    generalize mv.map PyData.int = ms
    have c : (L0 (ns.map PyData.int)).length = 13 := rfl
    generalize L0 (ns.map PyData.int) = vs at *
    have c1 : vs.length ≤ 1000000 := by omega
    simp [sApp, isLst, appA, appI, mapD, cap, fnRun, oSeq, oIf, sTst, s2, s1, sSt, sVar, sC, gB, rdC, gI, gIx, itemA, El.fzd, oAsg, gRd, intD, tgN, tgS, setA, oRet, sMv, moveI, outs, rdA, Sl.tree, flatD, allFz, upS, dropAl, noAl, gAdd, gMulX, sCall, callF, rIo, rCons, rNil, argsS, argS, iosOf, backS, putB, clr, AV.ofSl, arOf, sTk, takeI, lNil, lCons, sLst, sTup, Rs.val, oDrop, c1, eld, eld2]
  obtain ⟨z, hz, ez⟩ := atI_ints a0 a1
  obtain ⟨u, hu, eu⟩ := atI_ints t0 t1
  have zb := hs.2 z hz
  have ub := hs.2 u hu
  have e6 := nearI_ok (xs := x1) (ys := (L0 (ns.map .int) ++ [PyData.list (mv.map .int)]).map .fz) (q3' := .list (mv.map .int)) (ds := ns.map .int) ez eu (by
    have : z.natAbs ≤ 12 := by omega
    exact Nat.lt_of_le_of_lt (Nat.log2_le_self _) (by omega))
  have lv := vd_L1 (x := z) (y := u) (m := (ns.map PyData.int).length) (by omega) (by omega) (by omega)
  have fi := for_inv (t := tgN 4) (f := nearF) (fun k δ => ∃ (vs : List PyData) (q4 : Sl), δ = [.ol x1, .fz (.list (ns.map .int)), .ol (vs.map .fz), .fz (.list (mv.map .int)), q4, .fz (.int a), .fz (.int t)] ∧ vs.length = 14 + k ∧ (∀ v ∈ vs, NV v) ∧ (q4 = .no ∨ ∃ q, q4 = .fz q) ∧ (0 < k → ∃ q, q4 = .fz q))
    (ds := L1 z u (ns.map PyData.int).length) (k := 0) (δ := [.ol x1, .fz (.list (ns.map .int)), .ol ((L0 (ns.map .int) ++ [PyData.list (mv.map .int)]).map .fz), .fz (.list (mv.map .int)), .no, .fz (.int a), .fz (.int t)])
    ⟨_, _, rfl, rfl, fun v hv => (List.mem_append.mp hv).elim (nv_L0 hs v) fun q => by rw [List.mem_singleton.mp q]; exact nv_small (by simp; have := hsm.1; omega) (sm_vd hsm), .inl rfl, fun z => absurd z (Nat.lt_irrefl 0)⟩
    fun j d δ hj ⟨vs, q4, hδ, hlen, hnv, hq, _⟩ => by
      subst hδ
      have hj11 : j < 11 := by
        have := (List.getElem?_eq_some_iff.mp hj).1
        exact this
      have hd := lv d (List.mem_of_getElem? hj)
      refine ⟨[.ol x1, .fz (.list (ns.map .int)), .ol (vs.map .fz), .fz (.list (mv.map .int)), .fz d, .fz (.int a), .fz (.int t)], _, ?_, nearF_ok (ys := []) (by omega) (by omega), ⟨_, _, rfl, by simp; omega, fun v hv => ?_, .inr ⟨_, rfl⟩, fun _ => ⟨_, rfl⟩⟩⟩
      · rcases hq with rfl | ⟨q, rfl⟩ <;> rfl
      · rcases List.mem_append.mp hv with q | q
        · exact hnv v q
        · rw [List.mem_singleton.mp q]
          have c1 := cut_len (ns.map PyData.int) none (some a)
          have c2 := cut_len (ns.map PyData.int) (some (a + 1)) none
          exact nv_mid (fun x hx => sm_vd hs x (cut_mem hx)) (fun x hx => sm_vd hs x (cut_mem hx)) (by omega) (by omega) hd.1 hd.2
  obtain ⟨δ', e7, vs, q4, rfl, hlen, hnv, _, hq⟩ := fi
  obtain ⟨q, rfl⟩ := hq (show 0 < 0 + 11 by decide)
  have hlen : vs.length = 25 := hlen
  have e8 : oFor (wSeq nearI) (tgN 4) nearF [.ol x1, .fz (.list (ns.map .int)), .ol ((L0 (ns.map .int) ++ [PyData.list (mv.map .int)]).map .fz), .fz (.list (mv.map .int)), .no, .fz (.int a), .fz (.int t)] = .nx [.ol x1, .fz (.list (ns.map .int)), .ol (vs.map .fz), .fz (.list (mv.map .int)), .fz q, .fz (.int a), .fz (.int t)] := by
    unfold oFor
    have w : wSeq nearI [.ol x1, .fz (.list (ns.map .int)), .ol ((L0 (ns.map .int) ++ [PyData.list (mv.map .int)]).map .fz), .fz (.list (mv.map .int)), .no, .fz (.int a), .fz (.int t)] = .ok (L1 z u (ns.map PyData.int).length) [.ol x1, .fz (.list (ns.map .int)), .ol ((L0 (ns.map .int) ++ [PyData.list (mv.map .int)]).map .fz), .fz (.list (mv.map .int)), .no, .fz (.int a), .fz (.int t)] := by
      unfold wSeq sTk sSt
      rw [e6]
      simp [Sl.tree, Rs.val, Rs.bind, seqD, eld]
    rw [w, e_ot]
    exact e7
  have e9 : B__law_near [.ol xs, .fz (.list (ns.map .int)), .no, .no, .no, .no, .no] = .rt (.ol ((vs ++ Lz ns).map .fz)) [.ol x1, .fz (.list (ns.map .int)), .ol (vs.map .fz), .fz (.list (mv.map .int)), .fz q, .fz (.int a), .fz (.int t)] := by
    rw [nearEq, e_oSeq e1, e_oSeq e2, e_oSeq e3, e_oSeq e4, e_oSeq e5, e_oSeq e8]
    unfold oRet sMv
    rw [nearR_ok (by omega) (by omega)]
    rfl
  refine ⟨x1, vs ++ Lz ns, ?_, hT1, by simp [hlen, Lz], fun v hv => (List.mem_append.mp hv).elim (hnv v) (nv_Lz hs v)⟩
  show fnRun 2 7 [0] B__law_near _ = _
  unfold fnRun
  show (match B__law_near [.ol xs, .fz (.list (ns.map .int)), .no, .no, .no, .no, .no] with
    | .nx δ' => FR.ok (.fz .none) (outs 2 [0] δ')
    | .rt s δ' => .ok s (outs 2 [0] δ')
    | .er x δ' => .er x (outs 2 [0] δ')
    | _ => .bad) = _
  rw [e9]
  rfl
end K01

namespace K01
open PySem Hb L2
abbrev no8 : List Sl := [.no, .no, .no, .no, .no, .no, .no, .no]
theorem perm_ints {p : List PyData} {n : Int} (h0 : 0 ≤ n) (h1 : n ≤ 12) (h : p.Perm (rgD 0 n)) : ∃ ns, p = ns.map PyData.int ∧ Sm ns ∧ (ns.length : Int) = n := by
  have hm : ∀ d ∈ p, ∃ i, d = PyData.int i ∧ 0 ≤ i ∧ i < 12 := fun d hd => by
    have := h.mem_iff.mp hd
    unfold rgD at this
    obtain ⟨k, hk, rfl⟩ := List.mem_map.mp this
    rw [List.mem_range] at hk
    exact ⟨_, rfl, by omega, by omega⟩
  have hl : p.length = n.toNat := by rw [h.length_eq, rgD_len]
  have build : ∀ q : List PyData, (∀ d ∈ q, ∃ i, d = PyData.int i ∧ 0 ≤ i ∧ i < 12) → ∃ ns : List Int, q = ns.map PyData.int ∧ ∀ i ∈ ns, 0 ≤ i ∧ i < 12 := fun q => by
    induction q with
    | nil => exact fun _ => ⟨[], rfl, fun _ z => nomatch z⟩
    | cons d r ih =>
      intro hq
      obtain ⟨ns, e, hn⟩ := ih fun x hx => hq x (List.mem_cons_of_mem _ hx)
      obtain ⟨i, rfl, hi⟩ := hq d List.mem_cons_self
      exact ⟨i :: ns, by rw [e]; rfl, fun j hj => (List.mem_cons.mp hj).elim (fun z => by rw [z]; exact hi) (hn j)⟩
  obtain ⟨ns, e, hn⟩ := build p hm
  rw [e, List.length_map] at hl
  exact ⟨ns, e, ⟨by omega, hn⟩, by omega⟩
def R1 : List Sl → Ot := oAsg (s2 gAdd (sC (.int 1)) (sCall F__law_draw [] (rIo 0 (rCons (sC (.int 12)) (rNil))))) (tgN 1)
theorem R1_ok {xs : List El} (hT : Tap (.ol xs)) : ∃ x1 n, R1 [.ol xs, .no, .no, .no, .no, .no, .no, .no, .no, .no, .no, .no, .no] = .nx [.ol x1, .fz (.int n), .no, .no, .no, .no, .no, .no, .no, .no, .no, .no, .no] ∧ Tap (.ol x1) ∧ 1 ≤ n ∧ n ≤ 12 := by
  obtain ⟨T1, r, e, hT1, r0, r1⟩ := draw_ok hT (n := 12) (by omega) (by omega)
  obtain ⟨x1, rfl⟩ := tap_io hT1
  refine ⟨x1, 1 + r, ?_, hT1, by omega, by omega⟩
  simp [R1, fnRun, oSeq, oIf, sTst, s2, s1, sSt, sVar, sC, gB, rdC, gI, gIx, itemA, El.fzd, oAsg, gRd, intD, tgN, tgS, setA, oRet, sMv, moveI, outs, rdA, Sl.tree, flatD, allFz, upS, dropAl, noAl, gAdd, gMulX, sCall, callF, rIo, rCons, rNil, argsS, argS, iosOf, backS, putB, clr, AV.ofSl, arOf, sTk, takeI, lNil, lCons, sLst, sTup, Rs.val, oDrop, e]
def R2 : List Sl → Ot := oAsg (sCall F__law_mixed [] (rIo 0 (rCons (sTk (sVar 1)) (rNil)))) (tgN 2)
theorem R2_ok {xs : List El} (hT : Tap (.ol xs)) {n : Int} (h0 : 1 ≤ n) (h1 : n ≤ 12) : ∃ x1 ns, R2 [.ol xs, .fz (.int n), .no, .no, .no, .no, .no, .no, .no, .no, .no, .no, .no] = .nx [.ol x1, .fz (.int n), .ol ((ns.map PyData.int).map .fz), .no, .no, .no, .no, .no, .no, .no, .no, .no, .no] ∧ Tap (.ol x1) ∧ Sm ns ∧ (ns.length : Int) = n := by
  obtain ⟨x1, p, e, hT1, pp⟩ := mixed_ok hT (n := n) (by omega) (by omega)
  obtain ⟨ns, rfl, hs, hl⟩ := perm_ints (by omega) h1 pp
  refine ⟨x1, ns, ?_, hT1, hs, hl⟩
  generalize ns.map PyData.int = ds at *
  simp [R2, fnRun, oSeq, oIf, sTst, s2, s1, sSt, sVar, sC, gB, rdC, gI, gIx, itemA, El.fzd, oAsg, gRd, intD, tgN, tgS, setA, oRet, sMv, moveI, outs, rdA, Sl.tree, flatD, allFz, upS, dropAl, noAl, gAdd, gMulX, sCall, callF, rIo, rCons, rNil, argsS, argS, iosOf, backS, putB, clr, AV.ofSl, arOf, sTk, takeI, lNil, lCons, sLst, sTup, Rs.val, oDrop, e]
def R3 : List Sl → Ot := oAsg (s2 gAdd (sCall F__law_near [] (rIo 0 (rCons (sTk (sVar 2)) (rNil)))) (sLst (lCons (sC (.bool true)) (lCons (sC (.str "")) (lCons (sTup (lNil)) (lCons (s1 gRg1 (s2 gAdd (sVar 1) (sC (.int 1)))) (lCons (s1 gRg1 (sVar 1)) (lNil)))))))) (tgN 3)
def V5 (n : Int) : List PyData := [.bool true, .str "", .tuple [], .list (rgD 0 (n + 1)), .list (rgD 0 n)]
theorem R3_ok {xs : List El} (hT : Tap (.ol xs)) {n : Int} (h0 : 1 ≤ n) (h1 : n ≤ 12) {ns : List Int} (hs : Sm ns) (hn : (ns.length : Int) = n) :
    ∃ x1 vs, R3 [.ol xs, .fz (.int n), .ol ((ns.map PyData.int).map .fz), .no, .no, .no, .no, .no, .no, .no, .no, .no, .no] = .nx [.ol x1, .fz (.int n), .fz (.list (ns.map .int)), .ol ((vs ++ V5 n).map .fz), .no, .no, .no, .no, .no, .no, .no, .no, .no] ∧ Tap (.ol x1) ∧ vs.length ≤ 40 ∧ ∀ v ∈ vs, NV v := by
  obtain ⟨x1, vs, e, hT1, hl, hv⟩ := near_run hT (ns := ns) (by omega) hs
  refine ⟨x1, vs, ?_, hT1, hl, hv⟩
  have c1 : vs.length ≤ 1000000 := by omega
  have c2 : n + 1 ≤ 1000000 := by omega
  have c3 : n ≤ 1000000 := by omega
  have c4 : -1000000 ≤ n + 1 := by omega
  have c5 : -1000000 ≤ n := by omega
  have c6 : n + 1 < 1000000 := by omega
  generalize ns.map PyData.int = ds at *
  simp [R3, V5, gRg1, mkRg, mapD, cap, fnRun, oSeq, oIf, sTst, s2, s1, sSt, sVar, sC, gB, rdC, gI, gIx, itemA, El.fzd, oAsg, gRd, intD, tgN, tgS, setA, oRet, sMv, moveI, outs, rdA, Sl.tree, flatD, allFz, upS, dropAl, noAl, gAdd, gMulX, sCall, callF, rIo, rCons, rNil, argsS, argS, iosOf, backS, putB, clr, AV.ofSl, arOf, sTk, takeI, lNil, lCons, sLst, sTup, Rs.val, oDrop, e, c1, c2, c3, c4, c5, eld, eld2, eld3]
end K01

namespace K01
open PySem Hb L2
abbrev st4 (xs vs : List El) (n : Int) (R : PyData) (q4 q5 q6 q7 q8 q9 : Sl) : List Sl := [.ol xs, .fz (.int n), .fz R, .ol vs, q4, q5, q6, q7, q8, q9, .no, .no, .no]
def R4c : List Sl → Rs AV := sLc false (wRng1 (sCall F__law_draw [] (rIo 0 (rCons (sC (.int 41)) (rNil))))) [8] (tgN 8) (tOk) (sTk (sCall F__law_mixed [] (rIo 0 (rCons (sTk (sVar 1)) (rNil)))))
def IsRow (n : Int) (y : PyData) : Prop := ∃ ns : List Int, y = .list (ns.map .int) ∧ Sm ns ∧ (ns.length : Int) = n
theorem R4_ok {xs vs : List El} {R : PyData} (hT : Tap (.ol xs)) {n : Int} (h0 : 1 ≤ n) (h1 : n ≤ 12) :
    ∃ (x1 : List El) (rs : List PyData), oAsg R4c (tgN 4) (st4 xs vs n R .no .no .no .no .no .no) = .nx (st4 x1 vs n R (.ol (rs.map .fz)) .no .no .no .no .no) ∧ Tap (.ol x1) ∧ rs.length ≤ 40 ∧ ∀ r ∈ rs, IsRow n r := by
  obtain ⟨T1, r, e, hT1, r0, r1⟩ := draw_ok hT (n := 41) (by omega) (by omega)
  obtain ⟨x1, rfl⟩ := tap_io hT1
  have w : wRng1 (sCall F__law_draw [] (rIo 0 (rCons (sC (.int 41)) (rNil)))) (st4 xs vs n R .no .no .no .no .no .no) = .ok (rangeD 0 r.toNat) (st4 x1 vs n R .no .no .no .no .no .no) := by
    have c1 : r < 4611686018427387904 := by omega
    have c2 : -4611686018427387904 ≤ r := by omega
    simp [wRng1, cap, fnRun, oSeq, oIf, sTst, s2, s1, sSt, sVar, sC, gB, rdC, gI, gIx, itemA, El.fzd, oAsg, gRd, intD, tgN, tgS, setA, oRet, sMv, moveI, outs, rdA, Sl.tree, flatD, allFz, upS, dropAl, noAl, gAdd, gMulX, sCall, callF, rIo, rCons, rNil, argsS, argS, iosOf, backS, putB, clr, AV.ofSl, arOf, sTk, takeI, lNil, lCons, sLst, sTup, Rs.val, oDrop, e, c1, c2]
  have hl : (rangeD 0 r.toNat).length = r.toNat := by simp [rangeD]
  obtain ⟨ys, δ', q1, ⟨x2, hT2, rfl⟩, q3, q4⟩ := lc_inv (vs := [8]) (t := tgN 8) (tt := tOk) (f := sTk (sCall F__law_mixed [] (rIo 0 (rCons (sTk (sVar 1)) (rNil))))) (fun δ => ∃ x2, Tap (.ol x2) ∧ δ = st4 x2 vs n R .no .no .no .no .no .no) (IsRow n)
    (fun δ ⟨x2, _, e⟩ => by subst e; rfl) (ds := rangeD 0 r.toNat) (es := []) (δ := st4 x1 vs n R .no .no .no .no .no .no) (by simp [hl, cap]; omega) ⟨x1, hT1, rfl⟩ fun d _ δ ⟨x2, hT2, e⟩ => by
      subst e
      obtain ⟨x3, p, e3, hT3, pp⟩ := mixed_ok hT2 (n := n) (by omega) (by omega)
      obtain ⟨ns, rfl, hs, hn⟩ := perm_ints (by omega) h1 pp
      refine ⟨st4 x2 vs n R .no .no .no .no (.fz d) .no, st4 x2 vs n R .no .no .no .no (.fz d) .no, .list (ns.map .int), st4 x3 vs n R .no .no .no .no (.fz d) .no, rfl, rfl, ?_, ⟨x3, hT3, rfl⟩, ns, rfl, hs, hn⟩
      generalize ns.map PyData.int = ds at *
      simp [fnRun, oSeq, oIf, sTst, s2, s1, sSt, sVar, sC, gB, rdC, gI, gIx, itemA, El.fzd, oAsg, gRd, intD, tgN, tgS, setA, oRet, sMv, moveI, outs, rdA, Sl.tree, flatD, allFz, upS, dropAl, noAl, gAdd, gMulX, sCall, callF, rIo, rCons, rNil, argsS, argS, iosOf, backS, putB, clr, AV.ofSl, arOf, sTk, takeI, lNil, lCons, sLst, sTup, Rs.val, oDrop, e3, eld, eld2]
  refine ⟨x2, ys, ?_, hT2, by rw [q3, hl]; omega, q4⟩
  unfold oAsg R4c sLc
  rw [w, e_bind, q1]
  rfl
def R5 : List Sl → Ot := oAsg (sCall F__law_draw [] (rIo 0 (rCons (sTk (s2 gAdd (s1 (gRd lenD) (sVar 4)) (sC (.int 1)))) (rNil)))) (tgN 5)
theorem R5_ok {xs vs : List El} {R : PyData} (hT : Tap (.ol xs)) {n : Int} {rs : List PyData} (hl : rs.length ≤ 40) :
    ∃ x1 k, R5 (st4 xs vs n R (.ol (rs.map .fz)) .no .no .no .no .no) = .nx (st4 x1 vs n R (.ol (rs.map .fz)) (.fz (.int k)) .no .no .no .no) ∧ Tap (.ol x1) ∧ 0 ≤ k := by
  obtain ⟨T1, r, e, hT1, r0, r1⟩ := draw_ok hT (n := rs.length + 1) (by omega) (by omega)
  obtain ⟨x1, rfl⟩ := tap_io hT1
  refine ⟨x1, r, ?_, hT1, r0⟩
  simp [R5, lenD, mapD, fnRun, oSeq, oIf, sTst, s2, s1, sSt, sVar, sC, gB, rdC, gI, gIx, itemA, El.fzd, oAsg, gRd, intD, tgN, tgS, setA, oRet, sMv, moveI, outs, rdA, Sl.tree, flatD, allFz, upS, dropAl, noAl, gAdd, gMulX, sCall, callF, rIo, rCons, rNil, argsS, argS, iosOf, backS, putB, clr, AV.ofSl, arOf, sTk, takeI, lNil, lCons, sLst, sTup, Rs.val, oDrop, e, eld]
def R6c : List Sl → Rs AV := sLst (lCons (sVar 4) (lCons (s1 (gTuple) (sVar 4)) (lCons (s2 gMulX (sSl (sVar 4) none (some (sC (.int 1)))) (sC (.int 40))) (lCons (s2 gMulX (sSl (sVar 4) none (some (sC (.int 1)))) (sC (.int 41))) (lCons (s2 gMulX (sSl (sVar 4) none (some (sC (.int 1)))) (sC (.int 500))) (lCons (sLst (lNil)) (lCons (sLst (lCons (sLst (lNil)) (lNil))) (lCons (sLst (lCons (sVar 4) (lNil))) (lCons (sDic0) (lCons (sC .none) (lCons (sC (.int 0)) (lCons (sC (.str "")) (lCons (sVar 2) (lNil))))))))))))))
def L6 (rs : List PyData) (R : PyData) : List PyData := [.list rs, .tuple rs, .list (List.replicate 40 (cutD rs none (some 1))).flatten, .list (List.replicate 41 (cutD rs none (some 1))).flatten, .list (List.replicate 500 (cutD rs none (some 1))).flatten, .list [], .list [.list []], .list [.list rs], .dict [], .none, .int 0, .str "", R]
theorem R6_ok {xs vs : List El} {R : PyData} {n k : Int} {rs : List PyData} (hl : rs.length ≤ 40) :
    oAsg R6c (tgN 6) (st4 xs vs n R (.ol (rs.map .fz)) (.fz (.int k)) .no .no .no .no) = .nx (st4 xs vs n R (.fz (.list rs)) (.fz (.int k)) (.ol ((L6 rs R).map .fz)) .no .no .no) := by
  have c0 := cut_len rs none (some 1)
  have c1 : (cutD rs none (some 1)).length ≤ 1000 := by omega
  have c2 : rs.length ≤ 1000000 := by omega
  have r40 : R6c (st4 xs vs n R (.ol (rs.map .fz)) (.fz (.int k)) .no .no .no .no) = .ok (.tmp (.ol ((L6 rs R).map .fz))) (st4 xs vs n R (.fz (.list rs)) (.fz (.int k)) .no .no .no .no) := by
    generalize hc : cutD rs none (some 1) = cs at *
    simp [R6c, L6, sSl, sPartO, gSl, gTuple, sDic0, seqD, mapD, cap, fnRun, oSeq, oIf, sTst, s2, s1, sSt, sVar, sC, gB, rdC, gI, gIx, itemA, El.fzd, oAsg, gRd, intD, tgN, tgS, setA, oRet, sMv, moveI, outs, rdA, Sl.tree, flatD, allFz, upS, dropAl, noAl, gAdd, gMulX, sCall, callF, rIo, rCons, rNil, argsS, argS, iosOf, backS, putB, clr, AV.ofSl, arOf, sTk, takeI, lNil, lCons, sLst, sTup, Rs.val, oDrop, c1, c2, eld, eld2, eld3, hc, -List.map_flatten]
  unfold oAsg
  rw [r40]
  rfl
end K01

namespace K01
open PySem Hb L2
/-- a list in a list in a list .. -/
def deepD : Nat → PyData
  | 0 => .list []
  | k + 1 => .list [deepD k]
theorem vd_deep : ∀ k, Vd (k + 1) k (deepD k)
  | 0 => ⟨by simp [deepD, shw, shwAll], by simp [deepD, PyData.leavesShort, PyData.leavesShortAll], by simp [deepD, PyData.depth, PyData.depthAll], by simp [deepD, PyData.weight, PyData.weightAll]⟩
  | k + 1 => by
    have h := vd_list (L := 1) (xs := [deepD k]) (fun x hx => by rw [List.mem_singleton.mp hx]; exact vd_deep k) (by simp)
    exact h.mono (Nat.le_refl _) (by omega)
def R8b : List Sl → Ot := oAsg (sLst (lCons (sVar 7) (lNil))) (tgN 7)
theorem R8_ok {xs vs : List El} {R q4 q5 : PyData} {n : Int} {ls : List El} :
    ∃ q8 es, oFor (wRng1 (sC (.int 18))) (tgN 8) R8b (st4 xs vs n R (.fz q4) (.fz q5) (.ol ls) (.ol []) .no .no) = .nx (st4 xs vs n R (.fz q4) (.fz q5) (.ol ls) (.ol es) (.fz q8) .no) ∧ es.map El.d = [deepD 17] := by
  have w : wRng1 (sC (.int 18)) (st4 xs vs n R (.fz q4) (.fz q5) (.ol ls) (.ol []) .no .no) = .ok (rangeD 0 18) (st4 xs vs n R (.fz q4) (.fz q5) (.ol ls) (.ol []) .no .no) := by
    simp [wRng1, fnRun, oSeq, oIf, sTst, s2, s1, sSt, sVar, sC, gB, rdC, gI, gIx, itemA, El.fzd, oAsg, gRd, intD, tgN, tgS, setA, oRet, sMv, moveI, outs, rdA, Sl.tree, flatD, allFz, upS, dropAl, noAl, gAdd, gMulX, sCall, callF, rIo, rCons, rNil, argsS, argS, iosOf, backS, putB, clr, AV.ofSl, arOf, sTk, takeI, lNil, lCons, sLst, sTup, Rs.val, oDrop]
  obtain ⟨δ', e, q8, es, rfl, h1, h2⟩ := for_inv (t := tgN 8) (f := R8b) (fun k δ => ∃ (q8 : Sl) (es : List El), δ = st4 xs vs n R (.fz q4) (.fz q5) (.ol ls) (.ol es) q8 .no ∧ PyData.list (es.map El.d) = deepD k ∧ ((k = 0 ∧ q8 = .no) ∨ ∃ q, q8 = .fz q))
    (ds := rangeD 0 18) (k := 0) (δ := st4 xs vs n R (.fz q4) (.fz q5) (.ol ls) (.ol []) .no .no) ⟨.no, [], rfl, rfl, .inl ⟨rfl, rfl⟩⟩ fun j d δ hj ⟨q8, es, hδ, hd, hq⟩ => by
      subst hδ
      refine ⟨st4 xs vs n R (.fz q4) (.fz q5) (.ol ls) (.ol es) (.fz d) .no, st4 xs vs n R (.fz q4) (.fz q5) (.ol ls) (.ol [.fz (.list (es.map El.d))]) (.fz d) .no, ?_, ?_, .fz d, _, rfl, ?_, .inr ⟨d, rfl⟩⟩
      · rcases hq with ⟨_, rfl⟩ | ⟨q, rfl⟩ <;> rfl
      · simp [R8b, cap, fnRun, oSeq, oIf, sTst, s2, s1, sSt, sVar, sC, gB, rdC, gI, gIx, itemA, El.fzd, oAsg, gRd, intD, tgN, tgS, setA, oRet, sMv, moveI, outs, rdA, Sl.tree, flatD, allFz, upS, dropAl, noAl, gAdd, gMulX, sCall, callF, rIo, rCons, rNil, argsS, argS, iosOf, backS, putB, clr, AV.ofSl, arOf, sTk, takeI, lNil, lCons, sLst, sTup, Rs.val, oDrop]
      · show PyData.list [PyData.list (es.map El.d)] = deepD (0 + j + 1)
        rw [hd]
        rfl
  have e18 : (rangeD 0 18).length = 18 := by simp [rangeD]
  rw [e18] at h1 h2
  obtain ⟨q, rfl⟩ : ∃ q, q8 = .fz q := h2.elim (fun z => by cases z.1) id
  refine ⟨q, es, ?_, ?_⟩
  · unfold oFor
    rw [w, e_ot]
    exact e
  · have h3 : PyData.list (es.map El.d) = .list [deepD 17] := h1
    exact PyData.list.inj h3
def R9 : List Sl → Ot := oDrop (sApp (sVar 6) (sVar 7))
theorem R9_ok {xs vs es : List El} {R q4 q5 q8 : PyData} {n : Int} {ls : List PyData} (hl : ls.length ≤ 1000) (h : es.map El.d = [deepD 17]) :
    R9 (st4 xs vs n R (.fz q4) (.fz q5) (.ol (ls.map .fz)) (.ol es) (.fz q8) .no) = .nx (st4 xs vs n R (.fz q4) (.fz q5) (.ol ((ls ++ [deepD 18]).map .fz)) (.fz (deepD 18)) (.fz q8) .no) := by
  have c1 : ls.length ≤ 1000000 := by omega
  have d18 : deepD 18 = .list [deepD 17] := rfl
  rw [d18]
  generalize deepD 17 = D at *
  simp [R9, sApp, isLst, appA, appI, mapD, cap, fnRun, oSeq, oIf, sTst, s2, s1, sSt, sVar, sC, gB, rdC, gI, gIx, itemA, El.fzd, oAsg, gRd, intD, tgN, tgS, setA, oRet, sMv, moveI, outs, rdA, Sl.tree, flatD, allFz, upS, dropAl, noAl, gAdd, gMulX, sCall, callF, rIo, rCons, rNil, argsS, argS, iosOf, backS, putB, clr, AV.ofSl, arOf, sTk, takeI, lNil, lCons, sLst, sTup, Rs.val, oDrop, c1, eld, eld2, h]
def R10b : List Sl → Ot := oDrop (sApp (sVar 6) (s2 gAdd (s2 gAdd (sSl (sVar 4) none (some (sVar 5))) (sLst (lCons (sVar 9) (lNil)))) (sSl (sVar 4) (some (s2 gAdd (sVar 5) (sC (.int 1)))) none)))
theorem R10b_ok {xs : List El} {R d q3 q7 q8 : PyData} {n k : Int} {rs ls : List PyData} (hl : ls.length ≤ 1000) (hr : rs.length ≤ 40) :
    R10b [.ol xs, .fz (.int n), .fz R, .fz q3, .fz (.list rs), .fz (.int k), .ol (ls.map .fz), .fz q7, .fz q8, .fz d, .no, .no, .no] =
      .nx [.ol xs, .fz (.int n), .fz R, .fz q3, .fz (.list rs), .fz (.int k), .ol ((ls ++ [PyData.list (cutD rs none (some k) ++ [d] ++ cutD rs (some (k + 1)) none)]).map .fz), .fz q7, .fz q8, .fz d, .no, .no, .no] := by
  have c1 := cut_len rs none (some k)
  have c2 := cut_len rs (some (k + 1)) none
  have c3 : (cutD rs none (some k)).length ≤ 1000000 := by omega
  have c4 : (cutD rs (some (k + 1)) none).length ≤ 1000000 := by omega
  have c5 : ls.length ≤ 1000000 := by omega
  have c6 : (cutD rs none (some k)).length + 1 ≤ 1000000 := by omega
  simp [R10b, sApp, isLst, appA, appI, sSl, sPartO, gSl, mapD, cap, fnRun, oSeq, oIf, sTst, s2, s1, sSt, sVar, sC, gB, rdC, gI, gIx, itemA, El.fzd, oAsg, gRd, intD, tgN, tgS, setA, oRet, sMv, moveI, outs, rdA, Sl.tree, flatD, allFz, upS, dropAl, noAl, gAdd, gMulX, sCall, callF, rIo, rCons, rNil, argsS, argS, iosOf, backS, putB, clr, AV.ofSl, arOf, sTk, takeI, lNil, lCons, sLst, sTup, Rs.val, oDrop, c3, c4, c5, c6, eld, eld2, eld3]
end K01

namespace K01
open PySem Hb L2
theorem cut1_len (ds : List PyData) : (cutD ds none (some 1)).length ≤ 1 := by
  unfold cutD HT.sIx
  simp
  omega
def midD (rs : List PyData) (k : Int) (d : PyData) : PyData := .list (cutD rs none (some k) ++ [d] ++ cutD rs (some (k + 1)) none)
abbrev st9 (xs : List El) (n k : Int) (R q3 q7 q8 : PyData) (rs ls : List PyData) (q9 : Sl) : List Sl := [.ol xs, .fz (.int n), .fz R, .fz q3, .fz (.list rs), .fz (.int k), .ol (ls.map .fz), .fz q7, .fz q8, q9, .no, .no, .no]
theorem R10_ok {xs : List El} {R q7 q8 : PyData} {n k : Int} {rs ls VS : List PyData} (hl : ls.length ≤ 100) (hr : rs.length ≤ 40) (hV : VS.length ≤ 100) (h0 : 0 < VS.length) :
    ∃ q9, oFor (wSeq (sVar 3)) (tgN 9) R10b [.ol xs, .fz (.int n), .fz R, .ol (VS.map .fz), .fz (.list rs), .fz (.int k), .ol (ls.map .fz), .fz q7, .fz q8, .no, .no, .no, .no] =
      .nx (st9 xs n k R (.list VS) q7 q8 rs (ls ++ VS.map (midD rs k)) (.fz q9)) := by
  have w : wSeq (sVar 3) [.ol xs, .fz (.int n), .fz R, .ol (VS.map .fz), .fz (.list rs), .fz (.int k), .ol (ls.map .fz), .fz q7, .fz q8, .no, .no, .no, .no] = .ok VS (st9 xs n k R (.list VS) q7 q8 rs ls .no) := by
    simp [wSeq, seqD, fnRun, oSeq, oIf, sTst, s2, s1, sSt, sVar, sC, gB, rdC, gI, gIx, itemA, El.fzd, oAsg, gRd, intD, tgN, tgS, setA, oRet, sMv, moveI, outs, rdA, Sl.tree, flatD, allFz, upS, dropAl, noAl, gAdd, gMulX, sCall, callF, rIo, rCons, rNil, argsS, argS, iosOf, backS, putB, clr, AV.ofSl, arOf, sTk, takeI, lNil, lCons, sLst, sTup, Rs.val, oDrop, eld]
  obtain ⟨δ', e, q9, rfl, hq⟩ := for_inv (t := tgN 9) (f := R10b) (fun j δ => ∃ q9, δ = st9 xs n k R (.list VS) q7 q8 rs (ls ++ (VS.take j).map (midD rs k)) q9 ∧ ((j = 0 ∧ q9 = .no) ∨ ∃ q, q9 = .fz q))
    (ds := VS) (k := 0) (δ := st9 xs n k R (.list VS) q7 q8 rs ls .no) ⟨.no, by simp, .inl ⟨rfl, rfl⟩⟩ fun j d δ hj ⟨q9, hδ, hq⟩ => by
      subst hδ
      have hjl := (List.getElem?_eq_some_iff.mp hj).1
      have ht : ((VS.take (0 + j)).map (midD rs k)).length ≤ 100 := by simp; omega
      refine ⟨st9 xs n k R (.list VS) q7 q8 rs (ls ++ (VS.take (0 + j)).map (midD rs k)) (.fz d), _, ?_, R10b_ok (by rw [List.length_append]; omega) hr, .fz d, ?_, .inr ⟨d, rfl⟩⟩
      · rcases hq with ⟨_, rfl⟩ | ⟨q, rfl⟩ <;> rfl
      · have e1 : VS.take (0 + j + 1) = VS.take (0 + j) ++ [d] := by
          rw [Nat.zero_add, List.take_add_one, hj]
          rfl
        have e2 : ls ++ (VS.take (0 + j) ++ [d]).map (midD rs k) = (ls ++ (VS.take (0 + j)).map (midD rs k)) ++ [midD rs k d] := by
          rw [List.map_append, List.append_assoc]
          rfl
        rw [e1, e2]
        rfl
  obtain ⟨q, rfl⟩ : ∃ q, q9 = .fz q := hq.elim (fun z => by omega) id
  refine ⟨q, ?_⟩
  unfold oFor
  rw [w, e_ot, e]
  simp
def reprB (d : PyData) : Prop := reprD d = some (.str d.shown)
def R11 : List Sl → Ot := oAsg (s1 (gRd reprD) (sLst (lCons (sVar 3) (lCons (sVar 6) (lNil))))) (tgN 10)
abbrev st11 (xs : List El) (n k : Int) (R q7 q8 q9 : PyData) (rs VS LS : List PyData) (z : Str) (a b : Sl) : List Sl := [.ol xs, .fz (.int n), .fz R, .fz (.list VS), .fz (.list rs), .fz (.int k), .fz (.list LS), .fz q7, .fz q8, .fz q9, .fz (.str z), a, b]
theorem R11_ok {xs : List El} {R q7 q8 q9 : PyData} {n k : Int} {rs VS LS : List PyData} (h : reprB (.list [.list VS, .list LS])) :
    R11 (st9 xs n k R (.list VS) q7 q8 rs LS (.fz q9)) = .nx (st11 xs n k R q7 q8 q9 rs VS LS (PyData.list [.list VS, .list LS]).shown .no .no) := by
  unfold reprB at h
  generalize (PyData.list [.list VS, .list LS]).shown = z at *
  simp [R11, cap, fnRun, oSeq, oIf, sTst, s2, s1, sSt, sVar, sC, gB, rdC, gI, gIx, itemA, El.fzd, oAsg, gRd, intD, tgN, tgS, setA, oRet, sMv, moveI, outs, rdA, Sl.tree, flatD, allFz, upS, dropAl, noAl, gAdd, gMulX, sCall, callF, rIo, rCons, rNil, argsS, argS, iosOf, backS, putB, clr, AV.ofSl, arOf, sTk, takeI, lNil, lCons, sLst, sTup, Rs.val, oDrop, eld, eld2, h]
theorem repr_two (a b : Bool) : reprD (.list [.bool a, .bool b]) = some (.str (PyData.list [.bool a, .bool b]).shown) := by
  have v := vd_list (L := 2) (xs := [.bool a, .bool b]) (D := 0) (W := 5) (fun x hx => by
    simp only [List.mem_cons, List.not_mem_nil, or_false] at hx
    rcases hx with rfl | rfl <;> exact vd_bool _) (by simp)
  exact vd_repr v (by omega) (by omega)
def R12a : List Sl → Ot := oAsg (sLst (lCons (sCall F_is_ballot [] (rCons (sTk (sVar 1)) (rCons (sTk (sVar 11)) (rNil)))) (lCons (sCall F_are_ballots [] (rCons (sTk (sVar 1)) (rCons (sTk (sVar 11)) (rNil)))) (lNil)))) (tgN 12)
def R12b : List Sl → Ot := oIf (sTst (s2 (gEqS true) (s1 (gRd reprD) (sVar 12)) (s1 (gRd reprD) (sLst (lCons (sCall F__law_is_one [] (rCons (sTk (sVar 1)) (rCons (sTk (sVar 11)) (rNil)))) (lCons (sCall F__law_are_ones [] (rCons (sTk (sVar 1)) (rCons (sTk (sVar 11)) (rNil)))) (lNil))))))) (oRet (sC (.bool false))) (oNext)
theorem R12_ok {xs : List El} {R q7 q8 q9 v : PyData} {n k : Int} {rs VS LS : List PyData} {z : Str} {b : Sl} (hb : b = .no ∨ ∃ es, b = .ol es) (h0 : 1 ≤ n) (h1 : n ≤ 12) (hv : Okv v) :
    oSeq R12a R12b (st11 xs n k R q7 q8 q9 rs VS LS z (.fz v) b) = .nx (st11 xs n k R q7 q8 q9 rs VS LS z (.fz v) (.ol [.fz (.bool (isOne n v)), .fz (.bool (isOnes n v))])) := by
  have e1 := ballot_ok v h0 h1 hv
  have e2 := ballots_ok v h0 h1 hv
  have e3 := lone_ok v (n := n) (by omega) (by omega) fun ds e => (hv ds e).1
  have e4 := lones_ok v (n := n) (by omega) (by omega) hv
  have e5 := repr_two (isOne n v) (isOnes n v)
  generalize (PyData.list [.bool (isOne n v), .bool (isOnes n v)]).shown = y at e5
  have s1' : R12a (st11 xs n k R q7 q8 q9 rs VS LS z (.fz v) b) = .nx (st11 xs n k R q7 q8 q9 rs VS LS z (.fz v) (.ol [.fz (.bool (isOne n v)), .fz (.bool (isOnes n v))])) := by
    rcases hb with rfl | ⟨es, rfl⟩ <;> simp [R12a, cap, fnRun, oSeq, oIf, sTst, s2, s1, sSt, sVar, sC, gB, rdC, gI, gIx, itemA, El.fzd, oAsg, gRd, intD, tgN, tgS, setA, oRet, sMv, moveI, outs, rdA, Sl.tree, flatD, allFz, upS, dropAl, noAl, gAdd, gMulX, sCall, callF, rIo, rCons, rNil, argsS, argS, iosOf, backS, putB, clr, AV.ofSl, arOf, sTk, takeI, lNil, lCons, sLst, sTup, Rs.val, oDrop, e1, e2]
  rw [e_oSeq s1']
  simp [R12b, gEqS, cap, fnRun, oSeq, oIf, sTst, s2, s1, sSt, sVar, sC, gB, rdC, gI, gIx, itemA, El.fzd, oAsg, gRd, intD, tgN, tgS, setA, oRet, sMv, moveI, outs, rdA, Sl.tree, flatD, allFz, upS, dropAl, noAl, gAdd, gMulX, sCall, callF, rIo, rCons, rNil, argsS, argS, iosOf, backS, putB, clr, AV.ofSl, arOf, sTk, takeI, lNil, lCons, sLst, sTup, Rs.val, oDrop, e3, e4, e5, eld2]
end K01

namespace K01
open PySem Hb L2
theorem cut2_len (ds : List PyData) {k : Int} (h : 0 ≤ k) : (cutD ds none (some k)).length + (cutD ds (some (k + 1)) none).length ≤ ds.length := by
  have h1 : ¬ k < 0 := by omega
  have h2 : ¬ k + 1 < 0 := by omega
  have h3 : (k + 1).toNat = k.toNat + 1 := by omega
  unfold cutD HT.sIx
  simp only [h1, h2, if_false, List.length_take, List.length_drop, h3]
  omega
theorem row_vd {n : Int} {y : PyData} (h : IsRow n y) : Vd 1 72 y := by
  obtain ⟨ns, rfl, hs, _⟩ := h
  exact (vd_list (L := 12) (sm_vd hs) (by simpa using hs.1)).mono (by omega) (by omega)
theorem row_ok {n : Int} {y : PyData} (h : IsRow n y) : ∀ es, y = .list es → es.length ≤ 12 := fun es e => by
  obtain ⟨ns, rfl, hs, _⟩ := h
  cases e
  simpa using hs.1
theorem rgD_nv {m : Int} (h0 : 0 ≤ m) (h1 : m ≤ 13) : NV (.list (rgD 0 m)) := nv_small (by rw [rgD_len]; omega) fun d hd => by
  unfold rgD at hd
  obtain ⟨k, hk, rfl⟩ := List.mem_map.mp hd
  rw [List.mem_range] at hk
  exact (vd_int (by omega) (by omega)).mono (by omega) (by omega)
theorem nv_V5 {n : Int} (h0 : 1 ≤ n) (h1 : n ≤ 12) : ∀ v ∈ V5 n, NV v := by
  intro v hv
  simp only [V5, List.mem_cons, List.not_mem_nil, or_false] at hv
  rcases hv with rfl | rfl | rfl | rfl | rfl
  · exact nv_leaf ((vd_bool _).mono (by omega) (by omega)) fun _ e => by cases e
  · exact nv_leaf ⟨by simp [shw], by decide, by simp [PyData.depth], by decide⟩ fun _ e => by cases e
  · exact nv_leaf ((vd_tup (L := 0) (D := 0) (W := 0) (xs := []) (fun _ z => nomatch z) (by simp)).mono (by omega) (by omega)) fun _ e => by cases e
  · exact rgD_nv (by omega) (by omega)
  · exact rgD_nv (by omega) (by omega)
theorem rep_mem {cs : List PyData} {m : Nat} {d : PyData} (h : d ∈ (List.replicate m cs).flatten) : d ∈ cs := by
  obtain ⟨l, hl, hd⟩ := List.mem_flatten.mp h
  rw [List.eq_of_mem_replicate hl] at hd
  exact hd
theorem rep_vd {n : Int} {rs : List PyData} (hr : ∀ r ∈ rs, IsRow n r) (m : Nat) : Vd 2 (m * 73) (.list (List.replicate m (cutD rs none (some 1))).flatten) := by
  refine vd_list (D := 1) (W := 72) (fun x hx => row_vd (hr x (cut_mem (rep_mem hx)))) ?_
  rw [len_rep]
  have := cut1_len rs
  have := Nat.mul_le_mul_right m this
  omega
theorem ok_rows {n : Int} {xs : List PyData} (hr : ∀ r ∈ xs, IsRow n r) (hl : xs.length ≤ 1000000) : Okv (.list xs) := fun es e => by
  cases e
  exact ⟨hl, fun d hd es q => by have := row_ok (hr d hd) es q; omega⟩
theorem ok_leaf {v : PyData} (h : ∀ ds, v ≠ .list ds) : Okv v := fun ds e => absurd e (h ds)
theorem L6_ok {n : Int} {rs : List PyData} {R : PyData} (hr : ∀ r ∈ rs, IsRow n r) (hl : rs.length ≤ 40) (hR : IsRow n R) : Va 3 71900 (L6 rs R) ∧ ∀ v ∈ L6 rs R, Okv v := by
  have rv : ∀ r ∈ rs, Vd 1 72 r := fun r h => row_vd (hr r h)
  have v1 := vd_list rv hl
  have v2 := vd_tup rv hl
  have A : Va 3 11976 [.list rs, .tuple rs, .list (List.replicate 40 (cutD rs none (some 1))).flatten, .list (List.replicate 41 (cutD rs none (some 1))).flatten] := by
    refine va_of (L := 4) (D := 3) (W := 2993) (fun x hx => ?_) (by simp)
    simp only [List.mem_cons, List.not_mem_nil, or_false] at hx
    rcases hx with rfl | rfl | rfl | rfl
    · exact v1.mono (by omega) (by omega)
    · exact v2.mono (by omega) (by omega)
    · exact (rep_vd hr 40).mono (by omega) (by omega)
    · exact (rep_vd hr 41).mono (by omega) (by omega)
  have B : Va 2 36501 [.list (List.replicate 500 (cutD rs none (some 1))).flatten] := va_of (L := 1) (W := 36500) (fun x hx => by rw [List.mem_singleton.mp hx]; exact rep_vd hr 500) (by simp)
  have e0 : Vd 1 0 (.list []) := vd_list (L := 0) (D := 0) (W := 0) (fun _ z => nomatch z) (by simp)
  have C : Va 3 23376 [.list [], .list [.list []], .list [.list rs], .dict [], .none, .int 0, .str "", R] := by
    refine va_of (L := 8) (D := 3) (W := 2921) (fun x hx => ?_) (by simp)
    simp only [List.mem_cons, List.not_mem_nil, or_false] at hx
    rcases hx with rfl | rfl | rfl | rfl | rfl | rfl | rfl | rfl
    · exact e0.mono (by omega) (by omega)
    · exact (vd_list (L := 1) (xs := [.list []]) (fun x hx => by rw [List.mem_singleton.mp hx]; exact e0) (by simp)).mono (by omega) (by omega)
    · exact (vd_list (L := 1) (xs := [.list rs]) (fun x hx => by rw [List.mem_singleton.mp hx]; exact v1) (by simp)).mono (by omega) (by omega)
    · exact ⟨by simp [shw], by simp [PyData.leavesShort, PyData.leavesShortKv], by simp [PyData.depth, PyData.depthKv], by simp [PyData.weight, PyData.weightKv]⟩
    · exact vd_none.mono (by omega) (by omega)
    · exact (vd_int (by omega) (by omega)).mono (by omega) (by omega)
    · exact ⟨by simp [shw], by decide, by simp [PyData.depth], by decide⟩
    · exact (row_vd hR).mono (by omega) (by omega)
  have V := (A.app B).app C
  refine ⟨⟨V.s, V.l, Nat.le_trans V.d (by omega), Nat.le_trans V.w (by omega)⟩, fun v hv => ?_⟩
  have rp : ∀ m, m ≤ 1000 → Okv (.list (List.replicate m (cutD rs none (some 1))).flatten) := fun m hm => ok_rows (fun r h => hr r (cut_mem (rep_mem h))) (by
    rw [len_rep]
    have := Nat.mul_le_mul_right m (cut1_len rs)
    omega)
  simp only [L6, List.mem_cons, List.not_mem_nil, or_false] at hv
  rcases hv with rfl | rfl | rfl | rfl | rfl | rfl | rfl | rfl | rfl | rfl | rfl | rfl | rfl
  · exact ok_rows hr (by omega)
  · exact ok_leaf fun _ e => by cases e
  · exact rp 40 (by omega)
  · exact rp 41 (by omega)
  · exact rp 500 (by omega)
  · exact fun es e => by cases e; simp
  · exact fun es e => by
      cases e
      exact ⟨by simp, fun d hd es q => by rw [List.mem_singleton.mp hd] at q; cases q; simp⟩
  · exact fun es e => by
      cases e
      exact ⟨by simp, fun d hd es q => by rw [List.mem_singleton.mp hd] at q; cases q; omega⟩
  · exact ok_leaf fun _ e => by cases e
  · exact ok_leaf fun _ e => by cases e
  · exact ok_leaf fun _ e => by cases e
  · exact ok_leaf fun _ e => by cases e
  · obtain ⟨ns, rfl, hs, _⟩ := hR
    exact fun es e => by
      cases e
      exact ⟨by have := hs.1; simp; omega, fun d hd es q => by obtain ⟨i, _, rfl⟩ := List.mem_map.mp hd; cases q⟩
theorem mid_ok {n k : Int} {rs : List PyData} (hk : 0 ≤ k) (hr : ∀ r ∈ rs, IsRow n r) (hl : rs.length ≤ 40) {d : PyData} (h : NV d) : Vd 4 3341 (midD rs k d) ∧ Okv (midD rs k d) := by
  have c := cut2_len rs hk
  have h1 := va_of (fun x hx => row_vd (hr x (cut_mem hx))) (Nat.le_refl (cutD rs none (some k)).length)
  have h2 := va_of (fun x hx => row_vd (hr x (cut_mem hx))) (Nat.le_refl (cutD rs (some (k + 1)) none).length)
  have h3 := va_of (L := 1) (xs := [d]) (fun x hx => by rw [List.mem_singleton.mp hx]; exact h.vd) (by simp)
  have v := ((h1.app h3).app h2).list
  refine ⟨v.mono (by omega) (by omega), fun es e => ?_⟩
  unfold midD at e
  cases e
  refine ⟨by simp; omega, fun x hx es q => ?_⟩
  rcases List.mem_append.mp hx with z | z
  · rcases List.mem_append.mp z with z | z
    · have := row_ok (hr x (cut_mem z)) es q
      omega
    · rw [List.mem_singleton.mp z] at q
      exact (h.ok es q).1
  · have := row_ok (hr x (cut_mem z)) es q
    omega
end K01

namespace K01
open PySem Hb L2
theorem rightEq : B__law_right = oSeq R1 (oSeq R2 (oSeq R3 (oSeq (oAsg R4c (tgN 4)) (oSeq R5 (oSeq (oAsg R6c (tgN 6)) (oSeq (oAsg (sLst (lNil)) (tgN 7)) (oSeq (oFor (wRng1 (sC (.int 18))) (tgN 8) R8b) (oSeq R9 (oSeq (oFor (wSeq (sVar 3)) (tgN 9) R10b) (oSeq R11 (oSeq (oFor (wSeq (s2 gAdd (sVar 3) (sVar 6))) (tgN 11) (oSeq R12a R12b)) (oRet (s2 (gEqS false) (s1 (gRd reprD) (sLst (lCons (sVar 3) (lCons (sVar 6) (lNil))))) (sVar 10))))))))))))))  := rfl
theorem right_ok {xs : List El} (hT : Tap (.ol xs)) : ∃ δ, F__law_right [.ol xs] = .ok (.fz (.bool true)) δ := by
  obtain ⟨x1, n, e1, hT1, n0, n1⟩ := R1_ok hT
  obtain ⟨x2, ns, e2, hT2, hs, hn⟩ := R2_ok hT1 n0 n1
  obtain ⟨x3, vs, e3, hT3, hvl, hv⟩ := R3_ok hT2 n0 n1 hs hn
  obtain ⟨VS, hVS⟩ : ∃ VS, VS = vs ++ V5 n := ⟨_, rfl⟩
  rw [← hVS] at e3
  have hVl : VS.length ≤ 45 := by rw [hVS, List.length_append]; simp [V5]; omega
  have hV0 : 0 < VS.length := by rw [hVS, List.length_append]; simp [V5]
  have hVn : ∀ v ∈ VS, NV v := fun v h => by
    rw [hVS] at h
    exact (List.mem_append.mp h).elim (hv v) (nv_V5 n0 n1 v)
  obtain ⟨R, hR⟩ : ∃ R, R = PyData.list (ns.map .int) := ⟨_, rfl⟩
  have hRr : IsRow n R := ⟨ns, hR, hs, hn⟩
  rw [← hR] at e3
  obtain ⟨x4, rs, e4, hT4, hrl, hr⟩ := R4_ok (vs := VS.map .fz) (R := R) hT3 n0 n1
  obtain ⟨x5, k, e5, hT5, k0⟩ := R5_ok (vs := VS.map .fz) (R := R) (n := n) hT4 hrl
  have e6 := R6_ok (xs := x5) (vs := VS.map .fz) (R := R) (n := n) (k := k) hrl
  have e7 : oAsg (sLst (lNil)) (tgN 7) (st4 x5 (VS.map .fz) n R (.fz (.list rs)) (.fz (.int k)) (.ol ((L6 rs R).map .fz)) .no .no .no) = .nx (st4 x5 (VS.map .fz) n R (.fz (.list rs)) (.fz (.int k)) (.ol ((L6 rs R).map .fz)) (.ol []) .no .no) := rfl
  obtain ⟨q8, es, e8, hes⟩ := R8_ok (xs := x5) (vs := VS.map .fz) (R := R) (q4 := .list rs) (q5 := .int k) (n := n) (ls := (L6 rs R).map .fz)
  have l6 : (L6 rs R).length = 13 := rfl
  have e9 := R9_ok (xs := x5) (vs := VS.map .fz) (R := R) (q4 := .list rs) (q5 := .int k) (q8 := q8) (n := n) (ls := L6 rs R) (by omega) hes
  obtain ⟨q9, e10⟩ := R10_ok (xs := x5) (R := R) (q7 := deepD 18) (q8 := q8) (n := n) (k := k) (rs := rs) (ls := L6 rs R ++ [deepD 18]) (VS := VS) (by simp; omega) hrl (by omega) hV0
  obtain ⟨LS, hLS⟩ : ∃ LS, LS = L6 rs R ++ [deepD 18] ++ VS.map (midD rs k) := ⟨_, rfl⟩
  rw [← hLS] at e10
  obtain ⟨v6, o6⟩ := L6_ok hr hrl hRr
  have vd : Va 19 19 [deepD 18] := va_of (L := 1) (W := 18) (fun x hx => by rw [List.mem_singleton.mp hx]; exact vd_deep 18) (by simp)
  have vm : Va 4 (45 * 3342) (VS.map (midD rs k)) := va_of (W := 3341) (fun x hx => by
    obtain ⟨d, hd, rfl⟩ := List.mem_map.mp hx
    exact (mid_ok k0 hr hrl (hVn d hd)).1) (by simpa using hVl)
  have vL := ((v6.app vd).app vm).list
  rw [← hLS] at vL
  have vV := vd_list (fun x hx => (hVn x hx).vd) hVl
  have vD := ((va_of (L := 1) (xs := [.list VS]) (fun x hx => by rw [List.mem_singleton.mp hx]; exact vV) (by simp)).app (va_of (L := 1) (xs := [.list LS]) (fun x hx => by rw [List.mem_singleton.mp hx]; exact vL) (by simp))).list
  have rB : reprB (.list [.list VS, .list LS]) := vd_repr vD (by omega) (by omega)
  have hLl : LS.length ≤ 100 := by rw [hLS]; simp; omega
  have okA : ∀ v ∈ VS ++ LS, Okv v := fun v h => by
    rcases List.mem_append.mp h with h | h
    · exact (hVn v h).ok
    · rw [hLS] at h
      rcases List.mem_append.mp h with h | h
      · rcases List.mem_append.mp h with h | h
        · exact o6 v h
        · rw [List.mem_singleton.mp h]
          exact fun es e => by
            cases e
            exact ⟨by simp, fun d hd es q => by rw [List.mem_singleton.mp hd] at q; cases q; simp⟩
      · obtain ⟨d, hd, rfl⟩ := List.mem_map.mp h
        exact (mid_ok k0 hr hrl (hVn d hd)).2
  have e11 := R11_ok (xs := x5) (R := R) (q7 := deepD 18) (q8 := q8) (q9 := q9) (n := n) (k := k) (rs := rs) rB
  obtain ⟨z, hz⟩ : ∃ z, z = (PyData.list [.list VS, .list LS]).shown := ⟨_, rfl⟩
  unfold reprB at rB
  rw [← hz] at e11 rB
  have w : wSeq (s2 gAdd (sVar 3) (sVar 6)) (st11 x5 n k R (deepD 18) q8 q9 rs VS LS z .no .no) = .ok (VS ++ LS) (st11 x5 n k R (deepD 18) q8 q9 rs VS LS z .no .no) := by
    have c1 : VS.length ≤ 1000000 := by omega
    have c2 : LS.length ≤ 1000000 := by omega
    generalize deepD 18 = D
    simp [wSeq, seqD, cap, fnRun, oSeq, oIf, sTst, s2, s1, sSt, sVar, sC, gB, rdC, gI, gIx, itemA, El.fzd, oAsg, gRd, intD, tgN, tgS, setA, oRet, sMv, moveI, outs, rdA, Sl.tree, flatD, allFz, upS, dropAl, noAl, gAdd, gMulX, sCall, callF, rIo, rCons, rNil, argsS, argS, iosOf, backS, putB, clr, AV.ofSl, arOf, sTk, takeI, lNil, lCons, sLst, sTup, Rs.val, oDrop, c1, c2, eld]
  obtain ⟨δ', e12, a, b, rfl, _, _⟩ := for_inv (t := tgN 11) (f := oSeq R12a R12b) (fun _ δ => ∃ a b, δ = st11 x5 n k R (deepD 18) q8 q9 rs VS LS z a b ∧ (a = .no ∨ ∃ q, a = .fz q) ∧ (b = .no ∨ ∃ es, b = .ol es))
    (ds := VS ++ LS) (k := 0) (δ := st11 x5 n k R (deepD 18) q8 q9 rs VS LS z .no .no) ⟨.no, .no, rfl, .inl rfl, .inl rfl⟩ fun j d δ hj ⟨a, b, hδ, ha, hb⟩ => by
      subst hδ
      refine ⟨st11 x5 n k R (deepD 18) q8 q9 rs VS LS z (.fz d) b, _, ?_, R12_ok hb n0 n1 (okA d (List.mem_of_getElem? hj)), _, _, rfl, .inr ⟨_, rfl⟩, .inr ⟨_, rfl⟩⟩
      rcases ha with rfl | ⟨q, rfl⟩ <;> rcases hb with rfl | ⟨es, rfl⟩ <;> rfl
  have e12' : oFor (wSeq (s2 gAdd (sVar 3) (sVar 6))) (tgN 11) (oSeq R12a R12b) (st11 x5 n k R (deepD 18) q8 q9 rs VS LS z .no .no) = .nx (st11 x5 n k R (deepD 18) q8 q9 rs VS LS z a b) := by
    unfold oFor
    rw [w, e_ot]
    exact e12
  have e13 : oRet (s2 (gEqS false) (s1 (gRd reprD) (sLst (lCons (sVar 3) (lCons (sVar 6) (lNil))))) (sVar 10)) (st11 x5 n k R (deepD 18) q8 q9 rs VS LS z a b) = .rt (.fz (.bool true)) (st11 x5 n k R (deepD 18) q8 q9 rs VS LS z a b) := by
    generalize deepD 18 = D
    simp [gEqS, cap, fnRun, oSeq, oIf, sTst, s2, s1, sSt, sVar, sC, gB, rdC, gI, gIx, itemA, El.fzd, oAsg, gRd, intD, tgN, tgS, setA, oRet, sMv, moveI, outs, rdA, Sl.tree, flatD, allFz, upS, dropAl, noAl, gAdd, gMulX, sCall, callF, rIo, rCons, rNil, argsS, argS, iosOf, backS, putB, clr, AV.ofSl, arOf, sTk, takeI, lNil, lCons, sLst, sTup, Rs.val, oDrop, eld, eld2, rB]
  have all : B__law_right [.ol xs, .no, .no, .no, .no, .no, .no, .no, .no, .no, .no, .no, .no] = .rt (.fz (.bool true)) (st11 x5 n k R (deepD 18) q8 q9 rs VS LS z a b) := by
    rw [rightEq]
    refine (e_oSeq e1).trans ?_
    refine (e_oSeq e2).trans ?_
    refine (e_oSeq e3).trans ?_
    refine (e_oSeq e4).trans ?_
    refine (e_oSeq e5).trans ?_
    refine (e_oSeq e6).trans ?_
    refine (e_oSeq e7).trans ?_
    refine (e_oSeq e8).trans ?_
    refine (e_oSeq e9).trans ?_
    refine (e_oSeq e10).trans ?_
    refine (e_oSeq e11).trans ?_
    refine (e_oSeq e12').trans ?_
    exact e13
  refine ⟨outs 1 [0] (st11 x5 n k R (deepD 18) q8 q9 rs VS LS z a b), ?_⟩
  show fnRun 1 13 [0] B__law_right _ = _
  unfold fnRun
  show (match B__law_right [.ol xs, .no, .no, .no, .no, .no, .no, .no, .no, .no, .no, .no, .no] with
    | .nx δ' => FR.ok (.fz .none) (outs 1 [0] δ')
    | .rt s δ' => .ok s (outs 1 [0] δ')
    | .er x δ' => .er x (outs 1 [0] δ')
    | _ => .bad) = _
  rw [all]
end K01

namespace K01
open PySem Hb L2
theorem cut_ints (ms : List Int) (lo hi : Option Int) : ∃ cs : List Int, cutD (ms.map PyData.int) lo hi = cs.map PyData.int ∧ cs.length ≤ ms.length := by
  refine ⟨(ms.drop (HT.sIx ms.length 0 lo)).take (HT.sIx ms.length ms.length hi - HT.sIx ms.length 0 lo), ?_, by rw [List.length_take, List.length_drop]; omega⟩
  unfold cutD
  rw [List.map_take, List.map_drop, List.length_map]
theorem cells_ok {ms : List Int} (hl : ms.length ≤ 63) : ∃ cs : List Int, F__law_cells [.fz (.list (ms.map .int)), .fz (.int 6)] = .ok (.ol ((cs.map PyData.int).map .fz)) [.no, .no] ∧ cs.length ≤ 64 := by
  have hlm : (ms.map PyData.int).length ≤ 63 := by simpa using hl
  obtain ⟨cs, e, hc⟩ := cut_ints (ms ++ [0]) none (some (if (if ((ms.map PyData.int).length : Int) < 6 then ((ms.map PyData.int).length : Int) else 6) > 1 then (if ((ms.map PyData.int).length : Int) < 6 then ((ms.map PyData.int).length : Int) else 6) else 1))
  refine ⟨cs, ?_, by simp at hc; omega⟩
  rw [List.map_append] at e
  have e2 : [(0 : Int)].map PyData.int = [.int 0] := rfl
  rw [e2] at e
  generalize ms.map PyData.int = ds at *
  have c1 : ds.length ≤ 1000000 := by omega
  have hb : B__law_cells [.fz (.list ds), .fz (.int 6)] = .rt (.ol ((cs.map PyData.int).map .fz)) [.fz (.list ds), .fz (.int 6)] := by
    rw [← e]
    simp [B__law_cells, sSl, sPartO, gSl, gMax2, gMin2, yes2, lenD, cap, fnRun, oSeq, oIf, sTst, s2, s1, sSt, sVar, sC, gB, rdC, gI, gIx, itemA, El.fzd, oAsg, gRd, intD, tgN, tgS, setA, oRet, sMv, moveI, outs, rdA, Sl.tree, flatD, allFz, upS, dropAl, noAl, gAdd, gMulX, sCall, callF, rIo, rCons, rNil, argsS, argS, iosOf, backS, putB, clr, AV.ofSl, arOf, sTk, takeI, lNil, lCons, sLst, sTup, Rs.val, oDrop, c1, eld, eld2]
  show fnRun 2 2 [] B__law_cells _ = _
  unfold fnRun
  show (match B__law_cells [.fz (.list ds), .fz (.int 6)] with
    | .nx δ' => FR.ok (.fz .none) (outs 2 [] δ')
    | .rt s δ' => .ok s (outs 2 [] δ')
    | .er x δ' => .er x (outs 2 [] δ')
    | _ => .bad) = _
  rw [hb]
  rfl
def lawT : List Sl → Rs Bool := sNot (sTru (sCall F__law_right [] (rCons (sCall F__law_tap [] (rCons (sTk (s2 gIx (sVar 1) (sVar 2))) (rCons (sTk (sVar 2)) (rNil)))) (rNil))))
theorem lawT_ok {S : PyData} {cs : List Int} {i : Int} (h0 : 0 ≤ i) (h1 : i < cs.length) (hl : cs.length ≤ 64) :
    lawT [.fz S, .ol ((cs.map PyData.int).map .fz), .fz (.int i)] = .ok false [.fz S, .ol ((cs.map PyData.int).map .fz), .fz (.int i)] := by
  obtain ⟨c, _, ec⟩ := atI_ints h0 h1
  obtain ⟨T, eT, hT⟩ := tap_ok c i h0 (by omega)
  obtain ⟨xs, rfl⟩ := tap_io hT
  obtain ⟨δ, eR⟩ := right_ok hT
  have e2 := atI_map (f := El.fz) (xs := cs.map PyData.int) (i := i)
  rw [ec] at e2
  generalize cs.map PyData.int = ds at *
  cases δ with
  | nil => simp [lawT, sNot, sTru, truD, cap, fnRun, oSeq, oIf, sTst, s2, s1, sSt, sVar, sC, gB, rdC, gI, gIx, itemA, El.fzd, oAsg, gRd, intD, tgN, tgS, setA, oRet, sMv, moveI, outs, rdA, Sl.tree, flatD, allFz, upS, dropAl, noAl, gAdd, gMulX, sCall, callF, rIo, rCons, rNil, argsS, argS, iosOf, backS, putB, clr, AV.ofSl, arOf, sTk, takeI, lNil, lCons, sLst, sTup, Rs.val, oDrop, e2, eT, eR]
  | cons q r => simp [lawT, sNot, sTru, truD, cap, fnRun, oSeq, oIf, sTst, s2, s1, sSt, sVar, sC, gB, rdC, gI, gIx, itemA, El.fzd, oAsg, gRd, intD, tgN, tgS, setA, oRet, sMv, moveI, outs, rdA, Sl.tree, flatD, allFz, upS, dropAl, noAl, gAdd, gMulX, sCall, callF, rIo, rCons, rNil, argsS, argS, iosOf, backS, putB, clr, AV.ofSl, arOf, sTk, takeI, lNil, lCons, sLst, sTup, Rs.val, oDrop, e2, eT, eR]
def lawC : List Sl → Ot := oAsg (sCall F__law_cells [] (rCons (sTk (sVar 0)) (rCons (sC (.int 6)) (rNil)))) (tgN 1)
def lawL : List Sl → Rs AV := sLc false (wRng1 (s1 (gRd lenD) (sVar 1))) [2] (tgN 2) lawT (sTk (sVar 2))
def lawB : List Sl → Ot := oSeq lawC (oRet (s2 (gEqE false) lawL (sLst (lNil))))
theorem lawBeq : B_law = lawB := rfl
theorem lawC_ok {S : PyData} {ds : List PyData} (ec : F__law_cells [.fz S, .fz (.int 6)] = .ok (.ol (ds.map .fz)) [.no, .no]) : lawC [.fz S, .no, .no] = .nx [.fz S, .ol (ds.map .fz), .no] := by
  simp [lawC, fnRun, oSeq, oIf, sTst, s2, s1, sSt, sVar, sC, gB, rdC, gI, gIx, itemA, El.fzd, oAsg, gRd, intD, tgN, tgS, setA, oRet, sMv, moveI, outs, rdA, Sl.tree, flatD, allFz, upS, dropAl, noAl, gAdd, gMulX, sCall, callF, rIo, rCons, rNil, argsS, argS, iosOf, backS, putB, clr, AV.ofSl, arOf, sTk, takeI, lNil, lCons, sLst, sTup, Rs.val, oDrop, ec]
theorem wr1_ok {f : List Sl → Rs AV} {δ : List Sl} {L : Int} (h : f δ = .ok (.val (.int L)) δ) (c1 : L ≤ 64) (c2 : 0 ≤ L) : wRng1 f δ = .ok (rangeD 0 L.toNat) δ := by
  have c3 : L < 4611686018427387904 := by omega
  have c4 : -4611686018427387904 ≤ L := by omega
  simp [wRng1, fnRun, oSeq, oIf, sTst, s2, s1, sSt, sVar, sC, gB, rdC, gI, gIx, itemA, El.fzd, oAsg, gRd, intD, tgN, tgS, setA, oRet, sMv, moveI, outs, rdA, Sl.tree, flatD, allFz, upS, dropAl, noAl, gAdd, gMulX, sCall, callF, rIo, rCons, rNil, argsS, argS, iosOf, backS, putB, clr, AV.ofSl, arOf, sTk, takeI, lNil, lCons, sLst, sTup, Rs.val, oDrop, h, c3, c4]
theorem lawN_ok {S : PyData} {ds : List PyData} : s1 (gRd lenD) (sVar 1) [.fz S, .ol (ds.map .fz), .no] = .ok (.val (.int ds.length)) [.fz S, .ol (ds.map .fz), .no] := by
  simp [lenD, mapD, cap, fnRun, oSeq, oIf, sTst, s2, s1, sSt, sVar, sC, gB, rdC, gI, gIx, itemA, El.fzd, oAsg, gRd, intD, tgN, tgS, setA, oRet, sMv, moveI, outs, rdA, Sl.tree, flatD, allFz, upS, dropAl, noAl, gAdd, gMulX, sCall, callF, rIo, rCons, rNil, argsS, argS, iosOf, backS, putB, clr, AV.ofSl, arOf, sTk, takeI, lNil, lCons, sLst, sTup, Rs.val, oDrop, eld]
theorem lawW_ok {S : PyData} {ds : List PyData} (hc : ds.length ≤ 64) : wRng1 (s1 (gRd lenD) (sVar 1)) [.fz S, .ol (ds.map .fz), .no] = .ok (rangeD 0 ds.length) [.fz S, .ol (ds.map .fz), .no] := by
  have h := wr1_ok (lawN_ok (S := S) (ds := ds)) (by omega) (by omega)
  rwa [Int.toNat_natCast] at h
theorem lawL_ok {S : PyData} {cs : List Int} (hc : cs.length ≤ 64) : lawL [.fz S, .ol ((cs.map PyData.int).map .fz), .no] = .ok (.tmp (.ol [])) [.fz S, .ol ((cs.map PyData.int).map .fz), .no] := by
  have hlm : (cs.map PyData.int).length = cs.length := List.length_map _
  have w := lawW_ok (S := S) (ds := cs.map .int) (by omega)
  rw [hlm] at w
  have hr : (rangeD 0 cs.length).length = cs.length := by simp [rangeD]
  have lc := lc_pure (vs := [2]) (t := tgN 2) (tt := lawT) (f := sTk (sVar 2)) (δ := [.fz S, .ol ((cs.map PyData.int).map .fz), .no]) (fun _ => false) id rfl (ds := rangeD 0 cs.length) (es := []) (by rw [hr]; exact Nat.le_trans (by simpa using hc) (by decide : 64 ≤ 1000000)) fun d hd => by
    unfold rangeD at hd
    obtain ⟨j, hj, rfl⟩ := List.mem_map.mp hd
    rw [List.mem_range] at hj
    exact ⟨_, _, rfl, lawT_ok (by omega) (by omega) hc, fun _ => rfl, fun z => nomatch z⟩
  unfold lawL sLc
  rw [w, e_bind, lc]
  simp
theorem lawE_ok {δ : List Sl} (q : lawL δ = .ok (.tmp (.ol [])) δ) : oRet (s2 (gEqE false) lawL (sLst (lNil))) δ = .rt (.fz (.bool true)) δ := by
  simp [gEqE, cap, fnRun, oSeq, oIf, sTst, s2, s1, sSt, sVar, sC, gB, rdC, gI, gIx, itemA, El.fzd, oAsg, gRd, intD, tgN, tgS, setA, oRet, sMv, moveI, outs, rdA, Sl.tree, flatD, allFz, upS, dropAl, noAl, gAdd, gMulX, sCall, callF, rIo, rCons, rNil, argsS, argS, iosOf, backS, putB, clr, AV.ofSl, arOf, sTk, takeI, lNil, lCons, sLst, sTup, Rs.val, oDrop, q]
theorem law_ok {ms : List Int} (hl : ms.length ≤ 63) : ∃ δ, F_law [.fz (.list (ms.map .int))] = .ok (.fz (.bool true)) δ := by
  obtain ⟨cs, ec, hc⟩ := cells_ok hl
  have hb : B_law [.fz (.list (ms.map .int)), .no, .no] = .rt (.fz (.bool true)) [.fz (.list (ms.map .int)), .ol ((cs.map PyData.int).map .fz), .no] := by
    rw [lawBeq]
    exact (e_oSeq (lawC_ok ec)).trans (lawE_ok (lawL_ok hc))
  refine ⟨outs 1 [] [.fz (.list (ms.map .int)), .ol ((cs.map PyData.int).map .fz), .no], ?_⟩
  unfold F_law fnRun
  show (match B_law [.fz (.list (ms.map .int)), .no, .no] with
    | .nx δ' => FR.ok (.fz .none) (outs 1 [] δ')
    | .rt s δ' => .ok s (outs 1 [] δ')
    | .er x δ' => .er x (outs 1 [] δ')
    | _ => .bad) = _
  rw [hb]
end K01

namespace K01
open PySem PySem.Spec PyProof.Rows L2 Hb
def names : List PySem.Str := (["is_integer", "is_each_once", "are_each_once", "need_count", "is_ballot", "are_ballots", "_law_tap", "_law_draw", "_law_cells", "_law_mixed", "_law_falls", "_law_fallen", "_law_is_one", "_law_are_ones", "_law_near", "_law_right", "BallotError", "InvalidCount", "MOST_PLACES", "MOST_BALLOTS"] : List PySem.Str)
abbrev R : PySem.W.OpenRow := PySem.W.OpenLaw.row PySem.Challenge.rw_hillballots_k01_ballots_recognized
abbrev hk : PySem.W.Hook := He.hookD 6 fa fn
def ob (s : PySem.W.SharedT) : He.AlD := He.obsDG 6 fa fn (HandSHeadRun.getT s)
theorem ob_eq (s : PySem.W.SharedT) : ob s = hk.obs s.abs := He.obsDG_eq (HandSHeadRun.getT_eq s)
theorem run (w : World) : HandSHeadRun.RunEq R (PySem.W.view R.prog [24]) hk ob 2000 names w := by
  intro os
  kernel_rfl
end K01
open PySem PySem.W PySem.Calls PyProof.Rows
theorem PySem.Challenge.cw_hillballots_k01_ballots_recognized_holds : PySem.Challenge.rw_hillballots_k01_ballots_recognized.Holds := by
  w_on; o_law
  refine HandSHeadRun.head_any (r := OpenLaw.row PySem.Challenge.rw_hillballots_k01_ballots_recognized) (q := view (OpenLaw.row PySem.Challenge.rw_hillballots_k01_ballots_recognized).prog [24]) (H := K01.hk) (ob := K01.ob) (M := 2000) (loose := K01.names) (d := HandSHeadRun.topDef (OpenLaw.row PySem.Challenge.rw_hillballots_k01_ballots_recognized).prog 24) (kwd := []) K01.ob_eq
    (by kernel_rfl) (fun s => by kernel_rfl) K01.run (by kernel_rfl) (by kernel_rfl) (by kernel_rfl) (by rfl) (by first | assumption | decide +kernel) (by decide +kernel) ⟨rfl, rfl, rfl, rfl, rfl, by decide +kernel⟩ ?hw ?hc
  case hw => w_witness2
  case hc =>
    refine Hb.walkG (l := PySem.Challenge.rw_hillballots_k01_ballots_recognized) (n := 63) (k := 6) (x := "_law_script") rfl (by decide) (by kernel_rfl) ⟨rfl, by decide, by decide⟩ ?F
    intro w mg fa h Y G hmg0
    obtain ⟨K, KX, c⟩ := Y
    have hmg : mg ("law" : PySem.Str) = some (.ref fa) := by
      have e : (HandSHeadRun.topDef (OpenLaw.row PySem.Challenge.rw_hillballots_k01_ballots_recognized).prog 24).name = ("law" : PySem.Str) := by kernel_rfl
      rw [← e]
      exact hmg0
    have Y : K01.Ctx K mg := ⟨c, h, KX, G⟩
    obtain ⟨fd, FD⟩ := c.def_ 14 (d := K01.d_law)
    have hf : fa = He.fAd K ("law", none) := by
      have e2 := He.glo_ok KX G (c.fact 14 (f := .glo "law"))
      rw [hmg] at e2
      exact PySem.Value.ref.inj (Option.some.inj e2)
    refine ⟨K, fd, Hb.spF K mg 1 K01.F_law, KX, fun s u => ?_, fun H a ns hl hX => ?_, fun bs _ _ => ?_⟩
    · exact FD.bindsA (ps := ["_law_script"]) (fun _ _ _ _ _ _ us h => by
        match us, h with
        | [a0], _ => rfl) s [u] rfl
    · obtain ⟨δ, e⟩ := K01.law_ok hl
      exact Hb.sp_law hX e
    · rw [hf]
      exact Hb.fnG_D FD K01.S_law rfl fun cdv A outer s H E hr hgd => K01.W_law Y cdv A outer s H E hr hgd
