import PyProof.Rows.All
import Wide.All
import OpenK.AllK
import Wide.FinOn
import KE.KStateDown
import Lean
import HandS.ForExc
import HandS.Defaults
import HandS.Head0
import HandS.Head1
import HandS.Head2
import HandS.HeadEnd
import HandS.HeadHook1
import HandS.HeadHook2
import HandS.ForMost
import HandS.Exc
import HandS.TryOnly
import HandS.ExcOwn
import HandS.WordsExc
import HandS.Wide
import HandS.Conv
import HandS.Flow
import HandS.Style
import HandS.Deep
import HandS.IsInst
import HandS.SortInts
import HandS.Lambda
import HandS.HeadHook4
import HandS.TupAny
import HandS.SortRule
import HandS.Star
import HandS.TupLen
import HandS.WordsDict
import HandS.Zip
import HandS.Rev
import HandS.RevRange
import KE.SortData
import KE.KRevSl
import HandS.TryMany
import HandS.DictComp
import KE.DataMinMax
import KE.KDictCopyH
import HandS.SetFor
import HandS.NoneIn
import HandS.Small
import HandS.Strs
import HandS.TupMul
import KE.GoesEnum
import HandS.ExcIs
import HandS.EndTab
import HandS.Evl
import HandS.ExcInit
import HandS.ExcField
import HandS.ExcValue
import PySem.Challenge.RW_hillballots_k48_texts_shown
set_option Elab.async false
set_option linter.all false
set_option maxRecDepth 100000
set_option exponentiation.threshold 3000
set_option maxHeartbeats 0
namespace Hb
open PySem PySem.Spec PyProof.Rows L2
def kD : Key → PyData
  | .inl i => .int i
  | .inr x => .str x
/-- a list that may be read: tracked, locked, or one of the module's own in the plain form -/
def SqX (K : PySem.W.Frag) (H : Hp) (a : Addr) (xs : List V) : Prop :=
  Rd H a (.lst xs) ∨ ∃ (its : List Value) (n : Nat), K.lookup a = some { cls := .type "list", data := .seq its.toArray n } ∧ its.length ≤ sizeLine ∧ Vals xs its
theorem SqX.of {K : PySem.W.Frag} {H : Hp} {a : Addr} {xs : List V} (h : H a = some (.lst xs)) : SqX K H a xs := .inl (.inl h)
theorem SqX.sq {K : PySem.W.Frag} {H : Hp} {a : Addr} {xs : List V} (h : SqX K H a xs) : SqL K H a xs := by
  rcases h with h | ⟨its, n, h1, h2, h3⟩
  · exact .inl h
  · exact .inr ⟨_, its.toArray, n, h1, rfl, rfl, rfl, by simpa using h2, by simpa using h3⟩
theorem inv_lstX {X : Cx} {pins : List (Addr × Obj)} {σ : L2.St} {H : Hp} {s : Shared} {a : Addr} {xs : List V} (I : Inv X pins σ H s) (h : SqX X.K H a xs) :
    ∃ (its : List Value) (n : Nat), Vals xs its ∧ s.heap.get? a = some { cls := .type "list", data := .seq its.toArray n } ∧ xs.length ≤ sizeLine := by
  rcases h with h | ⟨its, n, h1, h2, h3⟩
  · obtain ⟨z, its, n, r, e⟩ := h.ok I.hok
    exact ⟨its, n, r, e, z⟩
  · exact ⟨its, n, h3, I.kIn a _ h1, by rw [h3.length]; exact h2⟩
mutual
/-- the value v stands, in the heap H, for the tree d -/
inductive Rp (K : PySem.W.Frag) (H : Hp) : V → PyData → Prop
  | non : Rp K H .non .none
  | bl (b : Bool) : Rp K H (.bl b) (.bool b)
  | int (i : Int) : Rp K H (.int i) (.int i)
  | str (x : Str) : Rp K H (.str x) (.str x)
  | lst {a : Addr} {xs : List V} {ds : List PyData} : SqX K H a xs → RpL K H xs ds → Rp K H (.ref a) (.list ds)
  | tup {a : Addr} {xs : List V} {ds : List PyData} : H a = some (.tup xs) → RpL K H xs ds → Rp K H (.ref a) (.tuple ds)
  | dK {a : Addr} {kvs : List (Key × V)} {ds : List (PyData × PyData)} : H a = some (.dK kvs) → RpK K H kvs ds → Rp K H (.ref a) (.dict ds)
  | dT {a : Addr} {kvs : List (List Key × V)} {ds : List (PyData × PyData)} : H a = some (.dT kvs) → RpT K H kvs ds → Rp K H (.ref a) (.dict ds)
inductive RpL (K : PySem.W.Frag) (H : Hp) : List V → List PyData → Prop
  | nil : RpL K H [] []
  | cons {v : V} {vs : List V} {d : PyData} {ds : List PyData} : Rp K H v d → RpL K H vs ds → RpL K H (v :: vs) (d :: ds)
inductive RpK (K : PySem.W.Frag) (H : Hp) : List (Key × V) → List (PyData × PyData) → Prop
  | nil : RpK K H [] []
  | cons {k : Key} {v : V} {vs : List (Key × V)} {d : PyData} {ds : List (PyData × PyData)} : Rp K H v d → RpK K H vs ds → RpK K H ((k, v) :: vs) ((kD k, d) :: ds)
inductive RpT (K : PySem.W.Frag) (H : Hp) : List (List Key × V) → List (PyData × PyData) → Prop
  | nil : RpT K H [] []
  | cons {k : List Key} {v : V} {vs : List (List Key × V)} {d : PyData} {ds : List (PyData × PyData)} : Rp K H v d → RpT K H vs ds → RpT K H ((k, v) :: vs) ((.tuple (k.map kD), d) :: ds)
end
theorem same_sqT {K : PySem.W.Frag} {H H' : Hp} {a : Addr} {xs : List V} (e : Same H H') (h : SqT K H a xs) : SqT K H' a xs := by
  rcases h with (h | ⟨o, h⟩) | h
  · exact .inl (.inl (e _ _ h))
  · exact .inl (.inr ⟨o, e _ _ h⟩)
  · exact .inr h
theorem same_rd {H H' : Hp} {a : Addr} {u : HO} (e : Same H H') (h : Rd H a u) : Rd H' a u := by
  rcases h with h | ⟨o, h⟩
  · exact .inl (e _ _ h)
  · exact .inr ⟨o, e _ _ h⟩
theorem same_sqX {K : PySem.W.Frag} {H H' : Hp} {a : Addr} {xs : List V} (e : Same H H') (h : SqX K H a xs) : SqX K H' a xs := by
  rcases h with h | h
  · exact .inl (same_rd e h)
  · exact .inr h
section
variable {K : PySem.W.Frag} {H H' : Hp} (e : Same H H')
include e
mutual
theorem Rp.mono : ∀ {v : V} {d : PyData}, Rp K H v d → Rp K H' v d
  | _, _, .non => .non
  | _, _, .bl b => .bl b
  | _, _, .int i => .int i
  | _, _, .str x => .str x
  | _, _, .lst h1 h2 => .lst (same_sqX e h1) (RpL.mono h2)
  | _, _, .tup h1 h2 => .tup (e _ _ h1) (RpL.mono h2)
  | _, _, .dK h1 h2 => .dK (e _ _ h1) (RpK.mono h2)
  | _, _, .dT h1 h2 => .dT (e _ _ h1) (RpT.mono h2)
theorem RpL.mono : ∀ {vs : List V} {ds : List PyData}, RpL K H vs ds → RpL K H' vs ds
  | _, _, .nil => .nil
  | _, _, .cons h1 h2 => .cons (Rp.mono h1) (RpL.mono h2)
theorem RpK.mono : ∀ {vs : List (Key × V)} {ds : List (PyData × PyData)}, RpK K H vs ds → RpK K H' vs ds
  | _, _, .nil => .nil
  | _, _, .cons h1 h2 => .cons (Rp.mono h1) (RpK.mono h2)
theorem RpT.mono : ∀ {vs : List (List Key × V)} {ds : List (PyData × PyData)}, RpT K H vs ds → RpT K H' vs ds
  | _, _, .nil => .nil
  | _, _, .cons h1 h2 => .cons (Rp.mono h1) (RpT.mono h2)
end
end
section
variable {K : PySem.W.Frag} {H : Hp}
theorem RpL.len : ∀ {vs : List V} {ds : List PyData}, RpL K H vs ds → vs.length = ds.length
  | _, _, .nil => rfl
  | _, _, .cons _ t => by simp [RpL.len t]
theorem RpL.get : ∀ {vs : List V} {ds : List PyData} {i : Nat} {d : PyData}, RpL K H vs ds → ds[i]? = some d → ∃ v, vs[i]? = some v ∧ Rp K H v d
  | _, _, _, _, .nil, e => by simp at e
  | _, _, 0, _, .cons r _, e => by simp at e; subst e; exact ⟨_, rfl, r⟩
  | _, _, i + 1, d, .cons _ t, e => by
    obtain ⟨u, h1, h2⟩ := RpL.get (i := i) (d := d) t (by simpa using e)
    exact ⟨u, by simpa using h1, h2⟩
theorem RpL.getV : ∀ {vs : List V} {ds : List PyData} {i : Nat} {v : V}, RpL K H vs ds → vs[i]? = some v → ∃ d, ds[i]? = some d ∧ Rp K H v d
  | _, _, _, _, .nil, e => by simp at e
  | _, _, 0, _, .cons r _, e => by simp at e; subst e; exact ⟨_, rfl, r⟩
  | _, _, i + 1, d, .cons _ t, e => by
    obtain ⟨u, h1, h2⟩ := RpL.getV (i := i) (v := d) t (by simpa using e)
    exact ⟨u, by simpa using h1, h2⟩
theorem RpL.append : ∀ {vs ws : List V} {ds es : List PyData}, RpL K H vs ds → RpL K H ws es → RpL K H (vs ++ ws) (ds ++ es)
  | _, _, _, _, .nil, s => s
  | _, _, _, _, .cons r t, s => .cons r (RpL.append t s)
theorem RpL.one {v : V} {d : PyData} (h : Rp K H v d) : RpL K H [v] [d] := .cons h .nil
theorem RpL.take : ∀ {vs : List V} {ds : List PyData} (n : Nat), RpL K H vs ds → RpL K H (vs.take n) (ds.take n)
  | _, _, 0, _ => by simp; exact .nil
  | _, _, n + 1, .nil => by simp; exact .nil
  | _, _, n + 1, .cons r t => .cons r (RpL.take n t)
theorem RpL.drop : ∀ {vs : List V} {ds : List PyData} (n : Nat), RpL K H vs ds → RpL K H (vs.drop n) (ds.drop n)
  | _, _, 0, h => h
  | _, _, n + 1, .nil => by simp; exact .nil
  | _, _, n + 1, .cons _ t => RpL.drop n t
theorem RpL.set {v : V} {d : PyData} (h : Rp K H v d) : ∀ {vs : List V} {ds : List PyData} (n : Nat), RpL K H vs ds → RpL K H (vs.set n v) (ds.set n d)
  | _, _, _, .nil => .nil
  | _, _, 0, .cons _ t => .cons h t
  | _, _, n + 1, .cons r t => .cons r (RpL.set h n t)
theorem RpL.eraseIdx : ∀ {vs : List V} {ds : List PyData} (n : Nat), RpL K H vs ds → RpL K H (vs.eraseIdx n) (ds.eraseIdx n)
  | _, _, _, .nil => .nil
  | _, _, 0, .cons _ t => t
  | _, _, n + 1, .cons r t => .cons r (RpL.eraseIdx n t)
theorem RpL.mem {vs : List V} {ds : List PyData} (h : RpL K H vs ds) {v : V} (hv : v ∈ vs) : ∃ d ∈ ds, Rp K H v d := by
  obtain ⟨i, hi, e⟩ := List.mem_iff_getElem.mp hv
  obtain ⟨d, e1, r⟩ := h.getV (i := i) (v := v) (by rw [← e]; exact List.getElem?_eq_getElem hi)
  exact ⟨d, List.mem_of_getElem? e1, r⟩
end
/-- an item of a list that is one's own: a tree that stands still, or a list of one's own -/
inductive El where
  | fz (d : PyData) | ow (xs : List PyData)
def El.d : El → PyData
  | .fz d => d
  | .ow xs => .list xs
/-- a name: nothing is known; a tree that stands still; a list of one's own; a dict of one's own; the item j of the list of slot x -/
inductive Sl where
  | no | fz (d : PyData) | ol (xs : List El) | od (kvs : List (PyData × PyData)) | al (x j : Nat)
def ElR (K : PySem.W.Frag) (Fz H : Hp) (f : List Addr) (v : V) : El → Prop
  | .fz d => f = [] ∧ Rp K Fz v d
  | .ow xs => ∃ a vs, v = .ref a ∧ f = [a] ∧ H a = some (.lst vs) ∧ RpL K Fz vs xs
inductive ElL (K : PySem.W.Frag) (Fz H : Hp) : List Addr → List V → List El → Prop
  | nil : ElL K Fz H [] [] []
  | cons {f g : List Addr} {v : V} {vs : List V} {e : El} {es : List El} : ElR K Fz H f v e → ElL K Fz H g vs es → ElL K Fz H (f ++ g) (v :: vs) (e :: es)
def DcR (K : PySem.W.Frag) (Fz H : Hp) (a : Addr) (kvs : List (PyData × PyData)) : Prop :=
  (∃ ws, H a = some (.dK ws) ∧ RpK K Fz ws kvs) ∨ (∃ ws, H a = some (.dT ws) ∧ RpT K Fz ws kvs)
def SlH (K : PySem.W.Frag) (Fz H : Hp) (σ : L2.St) (f : List Addr) (o : Option V) : Sl → Prop
  | .no => f = []
  | .fz d => f = [] ∧ ∃ v, o = some v ∧ Rp K Fz v d
  | .ol xs => ∃ a vs g, o = some (.ref a) ∧ f = a :: g ∧ H a = some (.lst vs) ∧ ElL K Fz H g vs xs
  | .od kvs => ∃ a, o = some (.ref a) ∧ f = [a] ∧ DcR K Fz H a kvs
  | .al x j => f = [] ∧ ∃ a b vs, σ[x]? = some (some (.ref a)) ∧ H a = some (.lst vs) ∧ vs[j]? = some (.ref b) ∧ o = some (.ref b)
/-- what stays through a body: the ground B, what of it stands still (F0), the slots that stay (pin, as in so) -/
structure Bk where
  B : Hp
  F0 : Hp
  pin : List Nat
  so : L2.St
  T : List (Addr × Str) := []
/-- a mark among the pinned slots: the table of the code objects of lambdas is followed here -/
@[reducible] def mkT : Nat := 1000000
def unm (pin : List Nat) : List Nat := pin.filter (· ≠ mkT)
theorem mk_unm {pin : List Nat} : mkT ∉ unm pin := fun h => by
  unfold unm at h
  have := (List.mem_filter.mp h).2
  simp at this
theorem unm_sub {pin : List Nat} {i : Nat} (h : i ∈ unm pin) : i ∈ pin := (List.mem_filter.mp h).1
/-- the one table that is followed: that of the def that makes a lambda -/
def TK (K : PySem.W.Frag) : List (Addr × Str) := [((He.cT K ("_law_raised", none)).2, "_law_raised.<locals>.<lambda>")]
/-- no tuple, no table of code objects, no code object -/
def Pl (o : Option HO) : Prop := (∀ xs, o ≠ some (.tup xs)) ∧ (∀ ps, o ≠ some (.tbl ps)) ∧ ∀ φ, o ≠ some (.ext φ)
theorem Pl.lst {xs : List V} : Pl (some (.lst xs)) := by
  refine ⟨?_, ?_, ?_⟩ <;> (intro _ z; cases z)
theorem Pl.dK {xs : List (Key × V)} : Pl (some (.dK xs)) := by
  refine ⟨?_, ?_, ?_⟩ <;> (intro _ z; cases z)
theorem Pl.dT {xs : List (List Key × V)} : Pl (some (.dT xs)) := by
  refine ⟨?_, ?_, ?_⟩ <;> (intro _ z; cases z)
theorem Pl.tup {o : Option HO} (h : Pl o) {xs : List V} (e : o = some (.tup xs)) : False := h.1 xs e
/-- the tables of code objects that are followed: they tell what they may, and nothing else leans on them -/
def Tb (b : Bk) (Fz H : Hp) : Prop := ∀ p ∈ b.T, LamX.TabS H p.1 p.2 ∧ Fz p.1 = none ∧ b.B p.1 = none
theorem tabS_keep {H H' : Hp} {P : Addr} {q : Str} (t : LamX.TabS H P q) (k : ∀ a o, H a = some o → ¬Pl (some o) → H' a = some o) : LamX.TabS H' P q := by
  obtain ⟨ps, h1, h2, h3⟩ := t
  refine ⟨ps, k _ _ h1 fun z => z.2.1 ps rfl, h2, fun pos cv hc => ?_⟩
  obtain ⟨c, e1, e2⟩ := h3 pos cv hc
  exact ⟨c, e1, k _ _ e2 fun z => z.2.2 _ rfl⟩
theorem Tb.keep {b : Bk} {Fz H H' : Hp} (t : Tb b Fz H) (k : ∀ a o, H a = some o → ¬Pl (some o) → H' a = some o) : Tb b Fz H' := fun p hp => ⟨tabS_keep (t p hp).1 k, (t p hp).2⟩
theorem Tb.tbl {b : Bk} {Fz H : Hp} (t : Tb b Fz H) {p : Addr × Str} (hp : p ∈ b.T) : ¬Pl (H p.1) := by
  obtain ⟨⟨ps, h1, _⟩, _⟩ := t p hp
  rw [h1]
  exact fun z => z.2.1 ps rfl
theorem Tb.nil {b : Bk} {Fz H : Hp} (h : b.T = []) : Tb b Fz H := fun p hp => by rw [h] at hp; cases hp
theorem Tb.upd {b : Bk} {Fz H : Hp} (t : Tb b Fz H) {a : Addr} {o : HO} (h : H a = none ∨ Pl (H a)) : Tb b Fz (upd H a o) := t.keep fun c u e n => by
  by_cases q : c = a
  · subst q
    rcases h with z | z
    · rw [z] at e; cases e
    · rw [e] at z; exact absurd z n
  · rw [upd_ne q]; exact e
theorem Tb.fz {b : Bk} {Fz Fz' H : Hp} (t : Tb b Fz H) (h : ∀ p ∈ b.T, Fz' p.1 = none) : Tb b Fz' H := fun p hp => ⟨(t p hp).1, h p hp, (t p hp).2.2⟩
structure Rl (K : PySem.W.Frag) (b : Bk) (Fz : Hp) (F : Nat → List Addr) (δ : List Sl) (σ : L2.St) (H : Hp) : Prop where
  le : Same Fz H
  base : Same b.B H
  len : σ.length = δ.length
  slot : ∀ i s, δ[i]? = some s → SlH K Fz H σ (F i) (σ[i]?.join) s
  nd : ∀ i, (F i).Nodup
  dj : ∀ i j a, a ∈ F i → a ∈ F j → i = j
  offF : ∀ i a, a ∈ F i → Fz a = none
  offB : ∀ i a, a ∈ F i → b.B a = none
  on : ∀ i a, a ∈ F i → H a ≠ none
  keep : ∀ a, b.B a ≠ none → Fz a = b.F0 a ∨ ((∃ xs, b.B a = some (.tup xs)) ∧ Fz a = b.B a)
  f0 : ∀ a, b.F0 a ≠ none → b.B a ≠ none
  pin : ∀ i ∈ b.pin, σ[i]? = b.so[i]?
  als : ∀ (i x j : Nat), δ[i]? = some (.al x j) → ∃ xs, δ[x]? = some (.ol xs)
  noT : ∀ i a, a ∈ F i → Pl (H a)
  tb : Tb b Fz H
  tp : mkT ∈ b.pin → b.T = TK K
theorem ElL.noT {K : PySem.W.Frag} {Fz H : Hp} : ∀ {f : List Addr} {vs : List V} {es : List El}, ElL K Fz H f vs es → ∀ a ∈ f, Pl (H a)
  | _, _, _, .nil, _, h => nomatch h
  | _, _, _, .cons (e := .fz d) h t, a, ha => by
    rw [h.1, List.nil_append] at ha
    exact t.noT a ha
  | _, _, _, .cons (e := .ow ys) h t, a, ha => by
    obtain ⟨c, vs, _, e2, e3, _⟩ := h
    rw [e2] at ha
    rcases List.mem_append.mp ha with z | z
    · rw [List.mem_singleton] at z
      subst z
      rw [e3]
      exact .lst
    · exact t.noT a z
/-- what a slot owns is plain -/
theorem SlH.noT {K : PySem.W.Frag} {Fz H : Hp} {σ : L2.St} {f : List Addr} {o : Option V} {s : Sl} (h : SlH K Fz H σ f o s) : ∀ a ∈ f, Pl (H a) := fun a ha => by
  cases s with
  | no => rw [show f = [] from h] at ha; cases ha
  | fz d => rw [h.1] at ha; cases ha
  | al x j => rw [h.1] at ha; cases ha
  | ol ys =>
    obtain ⟨c, vs, g, _, e2, e3, e4⟩ := h
    rw [e2] at ha
    rcases List.mem_cons.mp ha with z | z
    · subst z
      rw [e3]
      exact .lst
    · exact e4.noT a z
  | od kvs =>
    obtain ⟨c, _, e2, e3⟩ := h
    rw [e2, List.mem_singleton] at ha
    subst ha
    rcases e3 with ⟨ws, h1, _⟩ | ⟨ws, h1, _⟩ <;> rw [h1]
    · exact .dK
    · exact .dT
theorem ElR.keeps {K : PySem.W.Frag} {Fz Fz' H H' : Hp} {f : List Addr} {v : V} {e : El} (h : ElR K Fz H f v e) (hF : Same Fz Fz') (hH : ∀ a ∈ f, H' a = H a) : ElR K Fz' H' f v e := by
  cases e with
  | fz d => exact ⟨h.1, h.2.mono hF⟩
  | ow xs =>
    obtain ⟨a, vs, e1, e2, e3, e4⟩ := h
    exact ⟨a, vs, e1, e2, (hH a (by simp [e2])).trans e3, e4.mono hF⟩
theorem ElL.keeps {K : PySem.W.Frag} {Fz Fz' H H' : Hp} : ∀ {f : List Addr} {vs : List V} {es : List El}, ElL K Fz H f vs es → Same Fz Fz' → (∀ a ∈ f, H' a = H a) → ElL K Fz' H' f vs es
  | _, _, _, .nil, _, _ => .nil
  | _, _, _, .cons h t, hF, hH => .cons (h.keeps hF fun a ha => hH a (List.mem_append_left _ ha)) (t.keeps hF fun a ha => hH a (List.mem_append_right _ ha))
theorem DcR.keeps {K : PySem.W.Frag} {Fz Fz' H H' : Hp} {a : Addr} {kvs : List (PyData × PyData)} (h : DcR K Fz H a kvs) (hF : Same Fz Fz') (hH : H' a = H a) : DcR K Fz' H' a kvs := by
  rcases h with ⟨ws, h1, h2⟩ | ⟨ws, h1, h2⟩
  · exact .inl ⟨ws, hH.trans h1, h2.mono hF⟩
  · exact .inr ⟨ws, hH.trans h1, h2.mono hF⟩
/-- the slot's own objects, and (for an item of another slot) its list, are as they were -/
theorem SlH.keeps {K : PySem.W.Frag} {Fz Fz' H H' : Hp} {σ : L2.St} {f : List Addr} {o : Option V} {s : Sl} (h : SlH K Fz H σ f o s) (hF : Same Fz Fz') (hH : ∀ a ∈ f, H' a = H a)
    (hA : ∀ x j, s = .al x j → ∀ a, σ[x]? = some (some (.ref a)) → H' a = H a) : SlH K Fz' H' σ f o s := by
  cases s with
  | no => exact h
  | fz d =>
    obtain ⟨e, v, e2, r⟩ := h
    exact ⟨e, v, e2, r.mono hF⟩
  | ol xs =>
    obtain ⟨a, vs, g, e1, e2, e3, e4⟩ := h
    exact ⟨a, vs, g, e1, e2, (hH a (by simp [e2])).trans e3, e4.keeps hF fun c hc => hH c (by simp [e2, hc])⟩
  | od kvs =>
    obtain ⟨a, e1, e2, e3⟩ := h
    exact ⟨a, e1, e2, e3.keeps hF (hH a (by simp [e2]))⟩
  | al x j =>
    obtain ⟨e, a, b, vs, e1, e2, e3, e4⟩ := h
    exact ⟨e, a, b, vs, e1, (hA x j rfl a e1).trans e2, e3, e4⟩
theorem upd_new {H : Hp} {p b : Addr} {o : HO} (n : H p = none) (h : H b ≠ none) : upd H p o b = H b := upd_ne fun e => h (by rw [e]; exact n)
theorem same_new {H : Hp} {p : Addr} {o : HO} (n : H p = none) : Same H (upd H p o) := fun b x e => by
  rw [upd_new n (by rw [e]; simp)]
  exact e
section
variable {K : PySem.W.Frag} {b : Bk} {Fz : Hp} {F : Nat → List Addr} {δ : List Sl} {σ : L2.St} {H : Hp}
/-- the heap grew -/
theorem Rl.grow (R : Rl K b Fz F δ σ H) {H' : Hp} (s : Same H H') : Rl K b Fz F δ σ H' where
  le := R.le.trans s
  base := R.base.trans s
  len := R.len
  slot := fun i s' e => (R.slot i s' e).keeps (Same.refl _) (fun a ha => by
    cases q : H a with
    | none => exact absurd q (R.on i a ha)
    | some o => exact s a o q) fun x j _ a ha => by
      cases q : H a with
      | some o => exact s a o q
      | none =>
        rename_i e2
        subst e2
        obtain ⟨_, a', _, vs, e1, e2, _⟩ := R.slot i _ e
        rw [ha] at e1
        cases e1
        rw [q] at e2
        cases e2
  nd := R.nd
  dj := R.dj
  offF := R.offF
  offB := R.offB
  on := fun i a ha => by
    cases q : H a with
    | none => exact absurd q (R.on i a ha)
    | some o =>
      rw [s a o q]
      simp
  keep := R.keep
  f0 := R.f0
  pin := R.pin
  als := R.als
  noT := fun i a ha => by
    cases q : H a with
    | none => exact absurd q (R.on i a ha)
    | some o =>
      rw [s a o q, ← q]
      exact R.noT i a ha
  tb := R.tb.keep fun a o e _ => s a o e
  tp := R.tp
theorem Rl.new (R : Rl K b Fz F δ σ H) {p : Addr} (n : H p = none) (o : HO) : Rl K b Fz F δ σ (upd H p o) := R.grow (same_new n)
theorem Rl.offN (R : Rl K b Fz F δ σ H) {p : Addr} (n : H p = none) : Fz p = none ∧ b.B p = none ∧ ∀ i, p ∉ F i := by
  refine ⟨?_, ?_, fun i hi => R.on i p hi n⟩
  · cases q : Fz p with
    | none => rfl
    | some o =>
      have := R.le p o q
      rw [n] at this
      cases this
  · cases q : b.B p with
    | none => rfl
    | some o =>
      have := R.base p o q
      rw [n] at this
      cases this
/-- more stands still: objects at hand that nobody owns, outside the ground, or tuples -/
theorem Rl.freezeT (R : Rl K b Fz F δ σ H) {Fz' : Hp} (s : Same Fz Fz') (le : Same Fz' H) (off : ∀ a, Fz a = none → Fz' a ≠ none → (b.B a = none ∧ ∀ i, a ∉ F i) ∨ ∃ xs, H a = some (.tup xs)) (ht : ∀ p ∈ b.T, Fz' p.1 = none) : Rl K b Fz' F δ σ H where
  le := le
  base := R.base
  len := R.len
  slot := fun i s' e => (R.slot i s' e).keeps s (fun _ _ => rfl) fun _ _ _ _ _ => rfl
  nd := R.nd
  dj := R.dj
  offF := fun i a ha => by
    cases q : Fz' a with
    | none => rfl
    | some o =>
      rcases off a (R.offF i a ha) (by rw [q]; simp) with z | ⟨xs, z⟩
      · exact absurd ha (z.2 i)
      · exact ((R.noT i a ha).tup z).elim
  offB := R.offB
  on := R.on
  keep := fun a ha => by
    rcases R.keep a ha with k | ⟨⟨xs, k1⟩, k2⟩
    · cases q : Fz a with
      | some o => exact .inl (by rw [← k, q]; exact s a o q)
      | none =>
        cases q' : Fz' a with
        | none => exact .inl (by rw [← k, q])
        | some o =>
          rcases off a q (by rw [q']; simp) with z | ⟨xs, z⟩
          · exact absurd z.1 ha
          · have h1 := le a o q'
            rw [z] at h1
            cases h1
            cases qb : b.B a with
            | none => exact absurd qb ha
            | some o' =>
              have h2 := R.base a o' qb
              rw [z] at h2
              cases h2
              exact .inr ⟨⟨xs, rfl⟩, rfl⟩
    · exact .inr ⟨⟨xs, k1⟩, by rw [k1] at k2 ⊢; exact s a _ k2⟩
  f0 := R.f0
  pin := R.pin
  als := R.als
  noT := R.noT
  tb := R.tb.fz ht
  tp := R.tp
theorem Rl.freeze (R : Rl K b Fz F δ σ H) {Fz' : Hp} (s : Same Fz Fz') (le : Same Fz' H) (off : ∀ a, Fz a = none → Fz' a ≠ none → b.B a = none ∧ ∀ i, a ∉ F i) (ht : ∀ p ∈ b.T, Fz' p.1 = none) : Rl K b Fz' F δ σ H :=
  R.freezeT s le (fun a h1 h2 => .inl (off a h1 h2)) ht
end
end Hb
namespace Hb
open PySem PySem.Spec PyProof.Rows L2
/-- what an expression gives: a tree that stands still; the slot i by reference; a new thing of nobody's -/
inductive AV where
  | val (d : PyData) | ref (i : Nat) | tmp (s : Sl)
/-- an error: its class's name, the field that it bears -/
structure Exn where
  cls : Str
  arg : Option (Str × PyData) := none
inductive Rs (α : Type) where
  | ok (a : α) (δ : List Sl) | er (x : Exn) (δ : List Sl) | bad
def Rs.bind {α β : Type} (r : Rs α) (k : α → List Sl → Rs β) : Rs β := match r with
  | .ok a δ => k a δ
  | .er x δ => .er x δ
  | .bad => .bad
def Sl.tree : Sl → Option PyData
  | .fz d => some d
  | .ol xs => some (.list (xs.map El.d))
  | .od kvs => some (.dict kvs)
  | _ => none
/-- the tree that is read -/
def rdA (δ : List Sl) : AV → Option PyData
  | .val d => some d
  | .ref i => match δ[i]? with
    | some (.al x j) => (match δ[x]? with
      | some (.ol xs) => xs[j]?.map El.d
      | _ => none)
    | some s => s.tree
    | none => none
  | .tmp _ => none
def allFz : List El → Option (List PyData)
  | [] => some []
  | .fz d :: r => (allFz r).map (d :: ·)
  | .ow _ :: _ => none
/-- a list whose items stand still -/
def rdC (δ : List Sl) : AV → Option PyData
  | .val d => some d
  | .ref i => match δ[i]? with
    | some (.al x j) => (match δ[x]? with
      | some (.ol xs) => xs[j]?.map El.d
      | _ => none)
    | some (.fz d) => some d
    | some (.ol xs) => (allFz xs).map .list
    | _ => none
  | .tmp _ => none
def AvS (K : PySem.W.Frag) (Fz : Hp) (σ : L2.St) (v : V) : AV → Prop
  | .val d => Rp K Fz v d
  | .ref i => σ[i]? = some (some v)
  | .tmp _ => False
def AvR (K : PySem.W.Frag) (b : Bk) (Fz : Hp) (F : Nat → List Addr) (H : Hp) (σ : L2.St) (v : V) : AV → Prop
  | .val d => Rp K Fz v d
  | .ref i => σ[i]? = some (some v)
  | .tmp s => s.tree.isSome = true ∧ ∃ g, SlH K Fz H [] g (some v) s ∧ g.Nodup ∧ ∀ a ∈ g, Fz a = none ∧ b.B a = none ∧ H a ≠ none ∧ ∀ i, a ∉ F i
def ExR (K : PySem.W.Frag) (mg : Str → Option Value) (Fz H : Hp) (x : Exn) (c : Value) (dd : Option Addr) : Prop :=
  (∃ C, mg x.cls = some (.ref C) ∧ c = .ref C) ∧ match x.arg with
    | none => dd = none
    | some p => ∃ a v, dd = some a ∧ H a = some (.xd [(p.1, v)]) ∧ Rp K Fz v p.2
section
variable (K : PySem.W.Frag) (mg : Str → Option Value) (W : WX)
def PostX (b : Bk) (Fz : Hp) (σ : L2.St) (x : Exn) (δ : List Sl) : Prop := ∀ c dd H' Fz' F', Same Fz Fz' → Rl K b Fz' F' δ σ H' → ExR K mg Fz' H' x c dd → W c dd σ H'
def Post (b : Bk) (Fz : Hp) (σ : L2.St) (Q : VK) : Rs AV → Prop
  | .ok a δ => ∀ v H' Fz' F', Same Fz Fz' → Rl K b Fz' F' δ σ H' → AvR K b Fz' F' H' σ v a → Q v H'
  | .er x δ => PostX K mg W b Fz σ x δ
  | .bad => False
def rdE (pin : List Nat) (f : List Sl → Rs AV) : TE := fun σ H Q => ∃ b Fz F δ, b.pin = pin ∧ Rl K b Fz F δ σ H ∧ Post K mg W b Fz σ Q (f δ)
/-- a test -/
def PostT (b : Bk) (Fz : Hp) (σ : L2.St) (Q : Bool → Hp → Prop) : Rs Bool → Prop
  | .ok a δ => ∀ H' Fz' F', Same Fz Fz' → Rl K b Fz' F' δ σ H' → Q a H'
  | .er x δ => PostX K mg W b Fz σ x δ
  | .bad => False
def rdT (pin : List Nat) (f : List Sl → Rs Bool) : TT := fun σ H Q => ∃ b Fz F δ, b.pin = pin ∧ Rl K b Fz F δ σ H ∧ PostT K mg W b Fz σ Q (f δ)
end
abbrev SE (X : Cx) (W : WX) (pin : List Nat) (e : Expr) (f : List Sl → Rs AV) : Prop := PE X e (rdE X.K X.mg W pin f)
abbrev ST (X : Cx) (W : WX) (pin : List Nat) (e : Expr) (f : List Sl → Rs Bool) : Prop := PT X e (rdT X.K X.mg W pin f)
theorem pe_mono {X : Cx} {e : Expr} {t t' : TE} (h : PE X e t) (i : ∀ σ H Q, t' σ H Q → t σ H Q) : PE X e t' := ⟨fun pins s σ H Q I q => h.run pins s σ H Q I (i σ H Q q)⟩
theorem pt_mono {X : Cx} {e : Expr} {t t' : TT} (h : PT X e t) (i : ∀ σ H Q, t' σ H Q → t σ H Q) : PT X e t' := ⟨fun pins s σ H Q I q => h.run pins s σ H Q I (i σ H Q q)⟩
section
variable {K : PySem.W.Frag} {mg : Str → Option Value} {W : WX} {b : Bk} {Fz Fz1 : Hp} {F : Nat → List Addr} {δ : List Sl} {σ : L2.St} {H : Hp} {Q : VK}
theorem PostX.le {x : Exn} (s : Same Fz Fz1) (p : PostX K mg W b Fz σ x δ) : PostX K mg W b Fz1 σ x δ := fun c dd H' Fz' F' s' R e => p c dd H' Fz' F' (s.trans s') R e
theorem Post.le {r : Rs AV} (s : Same Fz Fz1) (p : Post K mg W b Fz σ Q r) : Post K mg W b Fz1 σ Q r := by
  cases r with
  | ok a δ => exact fun v H' Fz' F' s' R e => p v H' Fz' F' (s.trans s') R e
  | er x δ => exact PostX.le s p
  | bad => exact p
theorem PostT.le {Q : Bool → Hp → Prop} {r : Rs Bool} (s : Same Fz Fz1) (p : PostT K mg W b Fz σ Q r) : PostT K mg W b Fz1 σ Q r := by
  cases r with
  | ok a δ => exact fun H' Fz' F' s' R => p H' Fz' F' (s.trans s') R
  | er x δ => exact PostX.le s p
  | bad => exact p
theorem AvS.le {v : V} {a : AV} (s : Same Fz Fz1) (p : AvS K Fz σ v a) : AvS K Fz1 σ v a := by
  cases a with
  | val d => exact Rp.mono s p
  | ref i => exact p
  | tmp t => exact p
theorem AvR.of {v : V} {a : AV} (p : AvS K Fz σ v a) : AvR K b Fz F H σ v a := by
  cases a with
  | val d => exact p
  | ref i => exact p
  | tmp t => exact False.elim p
theorem ElL.tree {Fz H : Hp} (le : Same Fz H) : ∀ {f : List Addr} {vs : List V} {es : List El}, ElL K Fz H f vs es → RpL K H vs (es.map El.d)
  | _, _, _, .nil => .nil
  | _, _, _, .cons (e := .fz d) h t => .cons (h.2.mono le) (ElL.tree le t)
  | _, _, _, .cons (e := .ow xs) h t => by
    obtain ⟨a, vs, e1, e2, e3, e4⟩ := h
    subst e1
    exact .cons (.lst (SqX.of e3) (e4.mono le)) (ElL.tree le t)
theorem ElL.at_ {Fz H : Hp} : ∀ {f : List Addr} {vs : List V} {es : List El} {j : Nat} {e : El}, ElL K Fz H f vs es → es[j]? = some e → ∃ v g, vs[j]? = some v ∧ ElR K Fz H g v e ∧ ∀ a ∈ g, a ∈ f
  | _, _, _, _, _, .nil, e => by simp at e
  | _, _, _, 0, _, .cons (f := f) (v := v) h t, e => by
    simp at e
    subst e
    exact ⟨v, f, rfl, h, fun a ha => List.mem_append_left _ ha⟩
  | _, _, _, j + 1, _, .cons h t, e => by
    obtain ⟨v, g, e1, e2, e3⟩ := ElL.at_ t (by simpa using e)
    exact ⟨v, g, by simpa using e1, e2, fun a ha => List.mem_append_right _ (e3 a ha)⟩
theorem ElL.allFz {Fz H : Hp} : ∀ {f : List Addr} {vs : List V} {es : List El} {ds : List PyData}, ElL K Fz H f vs es → Hb.allFz es = some ds → RpL K Fz vs ds
  | _, _, _, _, .nil, e => by cases e; exact .nil
  | _, _, _, ds, .cons (e := .fz d) (es := es) h t, e => by
    cases q : Hb.allFz es with
    | none =>
      rw [Hb.allFz, q] at e
      cases e
    | some ds' =>
      rw [Hb.allFz, q] at e
      cases e
      exact .cons h.2 (ElL.allFz t q)
  | _, _, _, ds, .cons (e := .ow xs) h t, e => by cases e
/-- a value that is read -/
def RpC (K : PySem.W.Frag) (Fz H : Hp) (v : V) (d : PyData) : Prop := Rp K Fz v d ∨ ∃ a vs ds, v = .ref a ∧ d = .list ds ∧ H a = some (.lst vs) ∧ RpL K Fz vs ds
theorem join_some {o : Option (Option V)} {v : V} (h : o.join = some v) : o = some (some v) := by
  cases o with
  | none => cases h
  | some o => exact congrArg some h
theorem Rl.al (R : Rl K b Fz F δ σ H) {i x j : Nat} {xs : List El} {e : El} {v : V} (h : δ[i]? = some (.al x j)) (hx : δ[x]? = some (.ol xs)) (hj : xs[j]? = some e) (hv : σ[i]? = some (some v)) : ∃ g, ElR K Fz H g v e ∧ ∀ a ∈ g, a ∈ F x := by
  obtain ⟨_, a, c, vs, e1, e2, e3, e4⟩ := R.slot i _ h
  obtain ⟨a', vs', g, e5, e6, e7, e8⟩ := R.slot x _ hx
  rw [e1] at e5
  cases e5
  rw [e2] at e7
  cases e7
  obtain ⟨v', g', e9, e10, e11⟩ := e8.at_ hj
  rw [e3] at e9
  cases e9
  rw [hv] at e4
  cases e4
  exact ⟨g', e10, fun a ha => by rw [e6]; exact List.mem_cons_of_mem _ (e11 a ha)⟩
theorem rdA_ok (R : Rl K b Fz F δ σ H) {v : V} {a : AV} {d : PyData} (p : AvS K Fz σ v a) (h : rdA δ a = some d) : Rp K H v d := by
  cases a with
  | val d' =>
    cases h
    exact Rp.mono R.le p
  | tmp t => exact False.elim p
  | ref i =>
    have hv : σ[i]? = some (some v) := p
    cases q : δ[i]? with
    | none =>
      simp only [rdA, q] at h
      cases h
    | some s =>
      have hs := R.slot i s q
      rw [hv] at hs
      cases s with
      | no =>
        simp only [rdA, q] at h
        cases h
      | fz d' =>
        simp only [rdA, q] at h
        cases h
        obtain ⟨_, v', e1, e2⟩ := hs
        cases e1
        exact e2.mono R.le
      | ol xs =>
        simp only [rdA, q] at h
        cases h
        obtain ⟨a, vs, g, e1, e2, e3, e4⟩ := hs
        cases e1
        exact .lst (SqX.of e3) (e4.tree R.le)
      | od kvs =>
        simp only [rdA, q] at h
        cases h
        obtain ⟨a, e1, e2, e3⟩ := hs
        cases e1
        rcases e3 with ⟨ws, h1, h2⟩ | ⟨ws, h1, h2⟩
        · exact .dK h1 (h2.mono R.le)
        · exact .dT h1 (h2.mono R.le)
      | al x j =>
        cases q2 : δ[x]? with
        | none =>
          simp only [rdA, q, q2] at h
          cases h
        | some t =>
          cases t with
          | ol xs =>
            cases q3 : xs[j]? with
            | none =>
              simp only [rdA, q, q2, q3] at h
              cases h
            | some e =>
              simp only [rdA, q, q2, q3] at h
              cases h
              obtain ⟨g, e1, _⟩ := R.al q q2 q3 hv
              cases e with
              | fz d' => exact e1.2.mono R.le
              | ow ys =>
                obtain ⟨a, vs, f1, _, f3, f4⟩ := e1
                subst f1
                exact .lst (SqX.of f3) (f4.mono R.le)
          | _ =>
            simp only [rdA, q, q2] at h
            cases h
theorem rdC_ok (R : Rl K b Fz F δ σ H) {v : V} {a : AV} {d : PyData} (p : AvS K Fz σ v a) (h : rdC δ a = some d) : RpC K Fz H v d := by
  cases a with
  | val d' =>
    cases h
    exact .inl p
  | tmp t => exact False.elim p
  | ref i =>
    have hv : σ[i]? = some (some v) := p
    cases q : δ[i]? with
    | none =>
      simp only [rdC, q] at h
      cases h
    | some s =>
      have hs := R.slot i s q
      rw [hv] at hs
      cases s with
      | no =>
        simp only [rdC, q] at h
        cases h
      | fz d' =>
        simp only [rdC, q] at h
        cases h
        obtain ⟨_, v', e1, e2⟩ := hs
        cases e1
        exact .inl e2
      | ol xs =>
        simp only [rdC, q] at h
        cases q2 : allFz xs with
        | none =>
          rw [q2] at h
          cases h
        | some ds =>
          rw [q2] at h
          cases h
          obtain ⟨a, vs, g, e1, e2, e3, e4⟩ := hs
          cases e1
          exact .inr ⟨a, vs, ds, rfl, rfl, e3, e4.allFz q2⟩
      | od kvs =>
        simp only [rdC, q] at h
        cases h
      | al x j =>
        cases q2 : δ[x]? with
        | none =>
          simp only [rdC, q, q2] at h
          cases h
        | some t =>
          cases t with
          | ol xs =>
            cases q3 : xs[j]? with
            | none =>
              simp only [rdC, q, q2, q3] at h
              cases h
            | some e =>
              simp only [rdC, q, q2, q3] at h
              cases h
              obtain ⟨g, e1, _⟩ := R.al q q2 q3 hv
              cases e with
              | fz d' => exact .inl e1.2
              | ow ys =>
                obtain ⟨a, vs, f1, _, f3, f4⟩ := e1
                subst f1
                exact .inr ⟨a, vs, ys, rfl, rfl, f3, f4⟩
          | _ =>
            simp only [rdC, q, q2] at h
            cases h
theorem RpC.list {v : V} {ds : List PyData} (le : Same Fz H) (h : RpC K Fz H v (.list ds)) : ∃ a vs, v = .ref a ∧ SqX K H a vs ∧ RpL K Fz vs ds := by
  rcases h with h | ⟨a, vs, es, e1, e2, e3, e4⟩
  · cases h with
    | lst h1 h2 => exact ⟨_, _, rfl, same_sqX le h1, h2⟩
  · cases e2
    exact ⟨a, vs, e1, SqX.of e3, e4⟩
theorem RpC.tup {v : V} {ds : List PyData} (le : Same Fz H) (h : RpC K Fz H v (.tuple ds)) : ∃ a vs, v = .ref a ∧ SqT K H a vs ∧ RpL K Fz vs ds := by
  rcases h with h | ⟨a, vs, es, e1, e2, e3, e4⟩
  · cases h with
    | tup h1 h2 => exact ⟨_, _, rfl, SqT.of (le _ _ h1), h2⟩
  · cases e2
theorem ElL.ofFz {H : Hp} : ∀ {vs : List V} {ds : List PyData}, RpL K Fz vs ds → ElL K Fz H [] vs (ds.map .fz)
  | _, _, .nil => .nil
  | _, _, .cons h t => .cons (f := []) ⟨rfl, h⟩ (ElL.ofFz t)
theorem post_newL (R : Rl K b Fz F δ σ H) {vs : List V} {ds : List PyData} (h : RpL K Fz vs ds) (P : Post K mg W b Fz σ Q (.ok (.tmp (.ol (ds.map .fz))) δ)) : ∀ p, H p = none → Q (.ref p) (upd H p (.lst vs)) := fun p n => by
  obtain ⟨n1, n2, n3⟩ := R.offN n
  refine P (.ref p) _ Fz F (Same.refl _) (R.new n _) ⟨rfl, [p], ⟨p, vs, [], rfl, rfl, upd_same, ElL.ofFz h⟩, by simp, fun a ha => ?_⟩
  rw [List.mem_singleton] at ha
  subst ha
  exact ⟨n1, n2, by rw [upd_same]; simp, n3⟩
/-- a new thing that stands still at once -/
theorem Rl.newF (R : Rl K b Fz F δ σ H) {p : Addr} (n : H p = none) (o : HO) : Same Fz (upd Fz p o) ∧ Rl K b (upd Fz p o) F δ σ (upd H p o) := by
  obtain ⟨n1, n2, n3⟩ := R.offN n
  refine ⟨same_new n1, (R.new n o).freeze (same_new n1) (fun a x e => ?_) (fun a ha hb => ?_) fun q hq => ?_⟩
  · by_cases q : a = p
    · subst q
      rw [upd_same] at e ⊢
      exact e
    · rw [upd_ne q] at e ⊢
      exact R.le a x e
  · by_cases q : a = p
    · subst q
      exact ⟨n2, n3⟩
    · rw [upd_ne q] at hb
      exact absurd ha hb
  · obtain ⟨⟨ps, e, _⟩, h2, _⟩ := R.tb q hq
    rw [upd_ne fun z => by rw [z, n] at e; cases e]
    exact h2
theorem post_newT (R : Rl K b Fz F δ σ H) {vs : List V} {ds : List PyData} (h : RpL K Fz vs ds) (P : Post K mg W b Fz σ Q (.ok (.val (.tuple ds)) δ)) : ∀ p, H p = none → Q (.ref p) (upd H p (.tup vs)) := fun p n => by
  obtain ⟨s, R'⟩ := R.newF n (.tup vs)
  exact P (.ref p) _ _ F s R' (.tup upd_same (h.mono s))
theorem ElL.treeF {H : Hp} {Fz' : Hp} (s : Same Fz Fz') : ∀ {f : List Addr} {vs : List V} {es : List El}, ElL K Fz H f vs es → (∀ a ∈ f, Fz' a = H a) → RpL K Fz' vs (es.map El.d)
  | _, _, _, .nil, _ => .nil
  | _, _, _, .cons (e := .fz d) h t, hg => .cons (h.2.mono s) (ElL.treeF s t fun a ha => hg a (List.mem_append_right _ ha))
  | _, _, _, .cons (e := .ow xs) h t, hg => by
    obtain ⟨a, vs, e1, e2, e3, e4⟩ := h
    subst e1
    have q := hg a (List.mem_append_left _ (by simp [e2]))
    exact .cons (.lst (SqX.of (q.trans e3)) (e4.mono s)) (ElL.treeF s t fun a ha => hg a (List.mem_append_right _ ha))
theorem SlH.treeF {Fz' : Hp} {σ0 : L2.St} {g : List Addr} {v : V} {t : Sl} {d : PyData} (h : SlH K Fz H σ0 g (some v) t) (ht : t.tree = some d) (s : Same Fz Fz') (hg : ∀ a ∈ g, Fz' a = H a) : Rp K Fz' v d := by
  cases t with
  | no => cases ht
  | fz d' =>
    cases ht
    obtain ⟨_, v', e1, e2⟩ := h
    cases e1
    exact e2.mono s
  | ol xs =>
    cases ht
    obtain ⟨a, vs, g', e1, e2, e3, e4⟩ := h
    cases e1
    exact .lst (SqX.of ((hg a (by simp [e2])).trans e3)) (e4.treeF s fun c hc => hg c (by simp [e2, hc]))
  | od kvs =>
    cases ht
    obtain ⟨a, e1, e2, e3⟩ := h
    cases e1
    have q := hg a (by simp [e2])
    rcases e3 with ⟨ws, h1, h2⟩ | ⟨ws, h1, h2⟩
    · exact .dK (q.trans h1) (h2.mono s)
    · exact .dT (q.trans h1) (h2.mono s)
  | al x j => cases ht
/-- Fz with the objects at g as they stand -/
def addF (Fz H : Hp) (g : List Addr) : Hp := fun a => if a ∈ g then H a else Fz a
theorem addF_in {Fz H : Hp} {g : List Addr} {a : Addr} (h : a ∈ g) : addF Fz H g a = H a := if_pos h
theorem addF_out {Fz H : Hp} {g : List Addr} {a : Addr} (h : a ∉ g) : addF Fz H g a = Fz a := if_neg h
theorem addF_same {Fz H : Hp} {g : List Addr} (h : ∀ a ∈ g, Fz a = none) : Same Fz (addF Fz H g) := fun a o e => by
  by_cases q : a ∈ g
  · rw [h a q] at e
    cases e
  · rw [addF_out q]
    exact e
theorem addF_le {Fz H : Hp} {g : List Addr} (le : Same Fz H) : Same (addF Fz H g) H := fun a o e => by
  by_cases q : a ∈ g
  · rw [addF_in q] at e
    exact e
  · rw [addF_out q] at e
    exact le a o e
theorem addT {b : Bk} {Fz H : Hp} {g : List Addr} (t : Tb b Fz H) (hp : ∀ a ∈ g, Pl (H a)) {p : Addr × Str} (hq : p ∈ b.T) : Hb.addF Fz H g p.1 = none := by
  rw [addF_out fun z => t.tbl hq (hp _ z)]
  exact (t p hq).2.1
theorem Rl.addF (R : Rl K b Fz F δ σ H) {g : List Addr} (hg : ∀ a ∈ g, Fz a = none ∧ b.B a = none ∧ ∀ i, a ∉ F i) (hp : ∀ a ∈ g, Pl (H a)) : Same Fz (addF Fz H g) ∧ Rl K b (Hb.addF Fz H g) F δ σ H := by
  have s := addF_same (H := H) fun a ha => (hg a ha).1
  refine ⟨s, R.freeze s (addF_le R.le) (fun a h1 h2 => ?_) fun p hq => addT R.tb hp hq⟩
  by_cases q : a ∈ g
  · exact ⟨(hg a q).2.1, (hg a q).2.2⟩
  · rw [addF_out q] at h2
    exact absurd h1 h2
/-- aliases of slot i are forgotten -/
def dropAl (i : Nat) (δ : List Sl) : List Sl := δ.map fun s => match s with
  | .al x j => if x = i then .no else .al x j
  | s => s
def upS (i : Nat) (s : Sl) (δ : List Sl) : List Sl := (dropAl i δ).set i s
theorem dropAl_at {i k : Nat} {s : Sl} {δ : List Sl} (h : (dropAl i δ)[k]? = some s) : s = .no ∧ (∃ j, δ[k]? = some (.al i j)) ∨ δ[k]? = some s ∧ ∀ j, s ≠ .al i j := by
  unfold dropAl at h
  rw [List.getElem?_map] at h
  cases q : δ[k]? with
  | none =>
    rw [q] at h
    cases h
  | some t =>
    rw [q] at h
    cases t with
    | al x j =>
      by_cases e : x = i
      · subst e
        have h' : some (if x = x then Sl.no else Sl.al x j) = some s := h
        rw [if_pos rfl] at h'
        cases h'
        exact .inl ⟨rfl, j, rfl⟩
      · have h' : some (if x = i then Sl.no else Sl.al x j) = some s := h
        rw [if_neg e] at h'
        cases h'
        exact .inr ⟨rfl, fun j' z => by cases z; exact e rfl⟩
    | no => cases h; exact .inr ⟨rfl, fun j' z => nomatch z⟩
    | fz d => cases h; exact .inr ⟨rfl, fun j' z => nomatch z⟩
    | ol xs => cases h; exact .inr ⟨rfl, fun j' z => nomatch z⟩
    | od kvs => cases h; exact .inr ⟨rfl, fun j' z => nomatch z⟩
theorem dropAl_len {i : Nat} {δ : List Sl} : (dropAl i δ).length = δ.length := by simp [dropAl]
/-- slot i (not pinned, or its value the same) gets another value, another heap of its own -/
theorem Rl.put (R : Rl K b Fz F δ σ H) {i : Nat} {s : Sl} {g : List Addr} {σ' : L2.St} {H' : Hp} {Fz' : Hp} (sF : Same Fz Fz') (leF : Same Fz' H') (hb : Same b.B H')
    (hl : σ'.length = σ.length) (hσ : ∀ k, k ≠ i → σ'[k]? = σ[k]?) (hp : σ'[i]? = σ[i]? ∨ i ∉ b.pin)
    (hs : i < δ.length → SlH K Fz' H' σ' g (σ'[i]?.join) s) (ns : ∀ x j, s = .al x j → x ≠ i ∧ ∃ xs, δ[x]? = some (.ol xs))
    (hg : g.Nodup) (gF : ∀ a ∈ g, Fz' a = none) (gB : ∀ a ∈ g, b.B a = none) (gO : ∀ a ∈ g, ∀ k, k ≠ i → a ∉ F k) (gH : ∀ a ∈ g, H' a ≠ none)
    (oH : ∀ k, k ≠ i → ∀ a ∈ F k, H' a = H a) (oF : ∀ k, k ≠ i → ∀ a ∈ F k, Fz' a = none) (kF : ∀ a, b.B a ≠ none → Fz' a = Fz a) (gT : ∀ a ∈ g, Pl (H' a) := by intro _ z; exact nomatch z) (tb : Tb b Fz' H' := by first | exact Rl.tb (by assumption) | assumption) :
    Rl K b Fz' (fun k => if k = i then g else F k) (upS i s δ) σ' H' where
  le := leF
  base := hb
  len := by rw [hl, R.len, upS, List.length_set, dropAl_len]
  slot := fun k t e => by
    by_cases hk : k = i
    · subst hk
      unfold upS at e
      have hlt : k < δ.length := by
        have := (List.getElem?_eq_some_iff.mp e).1
        rw [List.length_set, dropAl_len] at this
        exact this
      rw [List.getElem?_set_self (by rw [dropAl_len]; exact hlt)] at e
      cases e
      rw [if_pos rfl]
      exact hs hlt
    · unfold upS at e
      rw [List.getElem?_set_ne (Ne.symm hk)] at e
      rw [if_neg hk]
      rcases dropAl_at e with ⟨e1, j, e2⟩ | ⟨e1, e2⟩
      · subst e1
        exact (R.slot k _ e2).1
      · have h0 := R.slot k t e1
        rw [hσ k hk]
        have h1 : SlH K Fz' H' σ (F k) (σ[k]?.join) t := h0.keeps sF (oH k hk) fun x j ej a ha => by
          subst ej
          have hx : x ≠ i := fun z => e2 j (by rw [z])
          obtain ⟨xs, hxs⟩ := R.als k x j e1
          obtain ⟨a2, vs2, g2, p1, p2, _⟩ := R.slot x _ hxs
          rw [ha] at p1
          cases p1
          exact oH x hx a (by rw [p2]; exact List.mem_cons_self)
        cases t with
        | al x j =>
          obtain ⟨f0, a1, c1, vs1, f1, f2, f3, f4⟩ := h1
          exact ⟨f0, a1, c1, vs1, by rw [hσ x (fun z => e2 j (by rw [z]))]; exact f1, f2, f3, f4⟩
        | no => exact h1
        | fz d => exact h1
        | ol xs => exact h1
        | od kvs => exact h1
  nd := fun k => by
    by_cases hk : k = i
    · rw [if_pos hk]; exact hg
    · rw [if_neg hk]; exact R.nd k
  dj := fun k l a h1 h2 => by
    by_cases hk : k = i
    · by_cases hl : l = i
      · rw [hk, hl]
      · rw [if_pos hk] at h1
        rw [if_neg hl] at h2
        exact absurd h2 (gO a h1 l hl)
    · by_cases hl : l = i
      · rw [if_pos hl] at h2
        rw [if_neg hk] at h1
        exact absurd h1 (gO a h2 k hk)
      · rw [if_neg hk] at h1
        rw [if_neg hl] at h2
        exact R.dj k l a h1 h2
  offF := fun k a h => by
    by_cases hk : k = i
    · rw [if_pos hk] at h; exact gF a h
    · rw [if_neg hk] at h; exact oF k hk a h
  offB := fun k a h => by
    by_cases hk : k = i
    · rw [if_pos hk] at h; exact gB a h
    · rw [if_neg hk] at h; exact R.offB k a h
  on := fun k a h => by
    by_cases hk : k = i
    · rw [if_pos hk] at h; exact gH a h
    · rw [if_neg hk] at h
      rw [oH k hk a h]
      exact R.on k a h
  keep := fun a h => by
    rw [kF a h]
    exact R.keep a h
  noT := fun k a h => by
    by_cases hk : k = i
    · rw [if_pos hk] at h; exact gT a h
    · rw [if_neg hk] at h
      rw [oH k hk a h]
      exact R.noT k a h
  tb := tb
  tp := R.tp
  f0 := R.f0
  pin := fun k hk => by
    by_cases e : k = i
    · subst e
      rcases hp with z | z
      · exact z.trans (R.pin k hk)
      · exact absurd hk z
    · rw [hσ k e]
      exact R.pin k hk
  als := fun k x j e => by
    unfold upS at e ⊢
    by_cases hk : k = i
    · subst hk
      have hlt : k < δ.length := by
        have := (List.getElem?_eq_some_iff.mp e).1
        rw [List.length_set, dropAl_len] at this
        exact this
      rw [List.getElem?_set_self (by rw [dropAl_len]; exact hlt)] at e
      cases e
      obtain ⟨hx, xs, e1⟩ := ns x j rfl
      refine ⟨xs, ?_⟩
      rw [List.getElem?_set_ne (Ne.symm hx), dropAl, List.getElem?_map, e1]
      rfl
    · rw [List.getElem?_set_ne (Ne.symm hk)] at e
      rcases dropAl_at e with ⟨e1, _⟩ | ⟨e1, e2⟩
      · cases e1
      · obtain ⟨xs, e3⟩ := R.als k x j e1
        refine ⟨xs, ?_⟩
        rw [List.getElem?_set_ne (fun z => e2 j (by rw [z])), dropAl, List.getElem?_map, e3]
        rfl
end
end Hb
namespace Hb
open PySem PySem.Spec PyProof.Rows L2
def sSt (f : List Sl → Rs AV) : List Sl → Rs AV := fun δ => match f δ with
  | .ok (.tmp s) δ' => (match s.tree with
    | some d => .ok (.val d) δ'
    | none => .bad)
  | r => r
/-- the slot i by reference: its tree stands still from now on -/
def takeI (i : Nat) (δ : List Sl) : Rs AV := match δ[i]? with
  | some (.fz d) => .ok (.val d) δ
  | some (.ol xs) => .ok (.val (.list (xs.map El.d))) (upS i (.fz (.list (xs.map El.d))) δ)
  | some (.od kvs) => .ok (.val (.dict kvs)) (upS i (.fz (.dict kvs)) δ)
  | some (.al x j) => (match δ[x]? with
    | some (.ol xs) => (match xs[j]? with
      | some (.fz d) => .ok (.val d) δ
      | _ => .bad)
    | _ => .bad)
  | _ => .bad
def sTk (f : List Sl → Rs AV) : List Sl → Rs AV := fun δ => match sSt f δ with
  | .ok (.ref i) δ' => takeI i δ'
  | r => r
/-- the slot i by reference: its thing is given away -/
def moveI (i : Nat) (δ : List Sl) : Rs AV := match δ[i]? with
  | some (.fz d) => .ok (.val d) δ
  | some (.ol xs) => .ok (.tmp (.ol xs)) (upS i .no δ)
  | some (.od kvs) => .ok (.tmp (.od kvs)) (upS i .no δ)
  | _ => .bad
def sMv (f : List Sl → Rs AV) : List Sl → Rs AV := fun δ => match f δ with
  | .ok (.ref i) δ' => moveI i δ'
  | r => r
section
variable {X : Cx} {W : WX} {pin : List Nat} {e : Expr} {f : List Sl → Rs AV}
theorem se_st (h : SE X W pin e f) : SE X W pin e (sSt f) := pe_mono h fun σ H Q ⟨b, Fz, F, δ, hp, R, P⟩ => by
  refine ⟨b, Fz, F, δ, hp, R, ?_⟩
  unfold sSt at P
  cases q : f δ with
  | bad => rw [q] at P; exact P
  | er x δ' => rw [q] at P; exact P
  | ok a δ' =>
    rw [q] at P
    cases a with
    | val d => exact P
    | ref i => exact P
    | tmp s =>
      intro v H' Fz' F' s1 R' ⟨ht, g, hs, hn, hg⟩
      cases q2 : s.tree with
      | none => rw [q2] at ht; cases ht
      | some d =>
        simp only [q2] at P
        obtain ⟨s2, R2⟩ := R'.addF (g := g) (fun a ha => ⟨(hg a ha).1, (hg a ha).2.1, (hg a ha).2.2.2⟩) hs.noT
        exact P v H' _ F' (s1.trans s2) R2 (hs.treeF q2 s2 fun a ha => addF_in ha)
theorem take_ok {K : PySem.W.Frag} {b : Bk} {Fz : Hp} {F : Nat → List Addr} {δ : List Sl} {σ : L2.St} {H : Hp} {i : Nat} {s : Sl} {d : PyData} {v : V} (R : Rl K b Fz F δ σ H) (hs : δ[i]? = some s) (ht : s.tree = some d) (hv : σ[i]? = some (some v)) (na : ∀ x j, s ≠ .al x j) :
    ∃ Fz', Same Fz Fz' ∧ Rl K b Fz' (fun k => if k = i then [] else F k) (upS i (.fz d) δ) σ H ∧ Rp K Fz' v d := by
  have h := R.slot i s hs
  rw [hv] at h
  have sF := addF_same (H := H) (g := F i) fun a ha => R.offF i a ha
  have r : Rp K (addF Fz H (F i)) v d := by
    have h2 : SlH K Fz H [] (F i) (some v) s := by
      cases s with
      | al x j => exact absurd rfl (na x j)
      | _ => exact h
    exact h2.treeF ht sF fun a ha => addF_in ha
  have out : ∀ k, k ≠ i → ∀ a ∈ F k, a ∉ F i := fun k hk a ha hi => hk (R.dj k i a ha hi)
  have tb : Tb b (addF Fz H (F i)) H := R.tb.fz fun p hp => addT R.tb (R.noT i) hp
  refine ⟨addF Fz H (F i), sF, R.put sF (addF_le R.le) R.base rfl (fun _ _ => rfl) (.inl rfl) (fun _ => ⟨rfl, v, by rw [hv]; rfl, r⟩) (fun x j z => nomatch z) List.nodup_nil (fun _ z => nomatch z) (fun _ z => nomatch z) (fun _ z => nomatch z) (fun _ z => nomatch z) (fun _ _ _ _ => rfl) (fun k hk a ha => ?_) (fun a ha => ?_), r⟩
  · rw [addF_out (out k hk a ha)]
    exact R.offF k a ha
  · exact addF_out fun hi => ha (R.offB i a hi)
theorem post_take {K : PySem.W.Frag} {mg : Str → Option Value} {W : WX} {b : Bk} {Fz : Hp} {F : Nat → List Addr} {δ : List Sl} {σ : L2.St} {H : Hp} {Q : VK} {i : Nat} {v : V} (R : Rl K b Fz F δ σ H) (hv : σ[i]? = some (some v)) (P : Post K mg W b Fz σ Q (takeI i δ)) : Q v H := by
  unfold takeI at P
  cases q : δ[i]? with
  | none => simp only [q] at P; exact P.elim
  | some s =>
    cases s with
    | no => simp only [q] at P; exact P.elim
    | fz d =>
      simp only [q] at P
      obtain ⟨_, v', e1, e2⟩ := R.slot i _ q
      rw [hv] at e1
      cases e1
      exact P v H Fz F (Same.refl _) R e2
    | ol xs =>
      simp only [q] at P
      obtain ⟨Fz', s1, R', r⟩ := take_ok R q rfl hv (fun _ _ z => nomatch z)
      exact P v H Fz' _ s1 R' r
    | od kvs =>
      simp only [q] at P
      obtain ⟨Fz', s1, R', r⟩ := take_ok R q rfl hv (fun _ _ z => nomatch z)
      exact P v H Fz' _ s1 R' r
    | al x j =>
      simp only [q] at P
      cases q2 : δ[x]? with
      | none => simp only [q2] at P; exact P.elim
      | some t =>
        cases t with
        | ol xs =>
          simp only [q2] at P
          cases q3 : xs[j]? with
          | none => simp only [q3] at P; exact P.elim
          | some el =>
            cases el with
            | ow ys => simp only [q3] at P; exact P.elim
            | fz d =>
              simp only [q3] at P
              obtain ⟨g, e1, _⟩ := R.al q q2 q3 hv
              exact P v H Fz F (Same.refl _) R e1.2
        | _ => simp only [q2] at P; exact P.elim
theorem se_tk (h : SE X W pin e f) : SE X W pin e (sTk f) := pe_mono (se_st h) fun σ H Q ⟨b, Fz, F, δ, hp, R, P⟩ => by
  refine ⟨b, Fz, F, δ, hp, R, ?_⟩
  unfold sTk at P
  cases q : sSt f δ with
  | bad => rw [q] at P; exact P
  | er x δ' => rw [q] at P; exact P
  | ok a δ' =>
    rw [q] at P
    cases a with
    | val d => exact P
    | tmp s => exact P
    | ref i => exact fun v H' Fz' F' s1 R' hv => post_take R' hv (P.le s1)
theorem se_mv (h : SE X W pin e f) : SE X W pin e (sMv f) := pe_mono h fun σ H Q ⟨b, Fz, F, δ, hp, R, P⟩ => by
  refine ⟨b, Fz, F, δ, hp, R, ?_⟩
  unfold sMv at P
  cases q : f δ with
  | bad => rw [q] at P; exact P
  | er x δ' => rw [q] at P; exact P
  | ok a δ' =>
    rw [q] at P
    cases a with
    | val d => exact P
    | tmp s => exact P
    | ref i =>
      intro v H' Fz' F' s1 R' hv
      have hv' : σ[i]? = some (some v) := hv
      have P' := P.le s1
      unfold moveI at P'
      have go : ∀ s : Sl, δ'[i]? = some s → s.tree.isSome = true → (∀ x j, s ≠ .al x j) → (∀ d, s ≠ .fz d) → Post X.K X.mg W b Fz' σ Q (.ok (.tmp s) (upS i .no δ')) → Q v H' := fun s hs ht na nf PP => by
        have h0 := R'.slot i s hs
        rw [hv'] at h0
        have h2 : SlH X.K Fz' H' [] (F' i) (some v) s := by
          cases s with
          | al x j => exact absurd rfl (na x j)
          | _ => exact h0
        have R2 := R'.put (i := i) (s := .no) (g := []) (Same.refl _) R'.le R'.base rfl (fun _ _ => rfl) (.inl rfl) (fun _ => rfl) (fun x j z => nomatch z) List.nodup_nil (fun _ z => nomatch z) (fun _ z => nomatch z) (fun _ z => nomatch z) (fun _ z => nomatch z) (fun _ _ _ _ => rfl) (fun k _ a ha => R'.offF k a ha) (fun _ _ => rfl)
        refine PP v H' Fz' _ (Same.refl _) R2 ⟨ht, F' i, h2, R'.nd i, fun a ha => ⟨R'.offF i a ha, R'.offB i a ha, R'.on i a ha, fun k hk => ?_⟩⟩
        have hk' : a ∈ (if k = i then [] else F' k) := hk
        by_cases e : k = i
        · rw [if_pos e] at hk'
          cases hk'
        · rw [if_neg e] at hk'
          exact e (R'.dj k i a hk' ha)
      cases q2 : δ'[i]? with
      | none => simp only [q2] at P'; exact P'.elim
      | some s =>
        cases s with
        | no => simp only [q2] at P'; exact P'.elim
        | fz d =>
          simp only [q2] at P'
          obtain ⟨_, v', e1, e2⟩ := R'.slot i _ q2
          rw [hv'] at e1
          cases e1
          exact P' v H' Fz' F' (Same.refl _) R' e2
        | ol xs =>
          simp only [q2] at P'
          exact go _ q2 rfl (fun _ _ z => nomatch z) (fun _ z => nomatch z) P'
        | od kvs =>
          simp only [q2] at P'
          exact go _ q2 rfl (fun _ _ z => nomatch z) (fun _ z => nomatch z) P'
        | al x j => simp only [q2] at P'; exact P'.elim
end
def sC (d : PyData) : List Sl → Rs AV := fun δ => .ok (.val d) δ
def sVar (i : Nat) : List Sl → Rs AV := fun δ => match δ[i]? with
  | some (.fz d) => .ok (.val d) δ
  | some (.ol _) => .ok (.ref i) δ
  | some (.od _) => .ok (.ref i) δ
  | some (.al _ _) => .ok (.ref i) δ
  | _ => .bad
section
variable {X : Cx} {W : WX} {pin : List Nat} {pos : Pos}
theorem se_int {i : Int} {j : Nat} : SE X W pin (.Constant (.int i) j pos) (sC (.int i)) := pe_mono pe_int fun σ H Q ⟨b, Fz, F, δ, hp, R, P⟩ => P _ H Fz F (Same.refl _) R (.int i)
theorem se_bl {i : Bool} {j : Nat} : SE X W pin (.Constant (.bool i) j pos) (sC (.bool i)) := pe_mono pe_bl fun σ H Q ⟨b, Fz, F, δ, hp, R, P⟩ => P _ H Fz F (Same.refl _) R (.bl i)
theorem se_non {j : Nat} : SE X W pin (.Constant .none j pos) (sC .none) := pe_mono pe_non fun σ H Q ⟨b, Fz, F, δ, hp, R, P⟩ => P _ H Fz F (Same.refl _) R .non
theorem se_str {x : Str} {j : Nat} : SE X W pin (.Constant (.str x) j pos) (sC (.str x)) := pe_mono pe_str fun σ H Q ⟨b, Fz, F, δ, hp, R, P⟩ => P _ H Fz F (Same.refl _) R (.str x)
theorem se_globI {x : Str} {i : Int} (hg : Gl X x) (hm : ∃ t, X.mg x = some (.int i t)) (hd : (x == ("__debug__" : Str)) = false := by decide) : SE X W pin (.Name x pos) (sC (.int i)) := by
  obtain ⟨t, hm⟩ := hm
  exact pe_mono (pe_glob hg hm (v := .int i) ⟨t, rfl⟩ hd) fun σ H Q ⟨b, Fz, F, δ, hp, R, P⟩ => P _ H Fz F (Same.refl _) R (.int i)
theorem se_globS {x z : Str} (hg : Gl X x) (hm : ∃ t, X.mg x = some (.str z t)) (hd : (x == ("__debug__" : Str)) = false := by decide) : SE X W pin (.Name x pos) (sC (.str z)) := by
  obtain ⟨t, hm⟩ := hm
  exact pe_mono (pe_glob hg hm (v := .str z) ⟨t, rfl⟩ hd) fun σ H Q ⟨b, Fz, F, δ, hp, R, P⟩ => P _ H Fz F (Same.refl _) R (.str z)
theorem post_var {K : PySem.W.Frag} {mg : Str → Option Value} {b : Bk} {Fz : Hp} {F : Nat → List Addr} {δ : List Sl} {σ : L2.St} {H : Hp} {Q : VK} {i : Nat} (R : Rl K b Fz F δ σ H) (P : Post K mg W b Fz σ Q (sVar i δ)) : ∃ v, σ[i]? = some (some v) ∧ Q v H := by
  unfold sVar at P
  cases q : δ[i]? with
  | none => simp only [q] at P; exact P.elim
  | some s =>
    have h := R.slot i s q
    cases s with
    | no => simp only [q] at P; exact P.elim
    | fz d =>
      simp only [q] at P
      obtain ⟨_, v, e1, e2⟩ := h
      exact ⟨v, join_some e1, P v H Fz F (Same.refl _) R e2⟩
    | ol xs =>
      simp only [q] at P
      obtain ⟨a, vs, g, e1, _⟩ := h
      exact ⟨_, join_some e1, P _ H Fz F (Same.refl _) R (join_some e1)⟩
    | od kvs =>
      simp only [q] at P
      obtain ⟨a, e1, _⟩ := h
      exact ⟨_, join_some e1, P _ H Fz F (Same.refl _) R (join_some e1)⟩
    | al x j =>
      simp only [q] at P
      obtain ⟨_, a, c, vs, _, _, _, e1⟩ := h
      exact ⟨_, join_some e1, P _ H Fz F (Same.refl _) R (join_some e1)⟩
theorem se_var (i : Nat) {x : Str} (hN : X.N[i]? = some x := by rfl) (hv : Vis X.env.scope x := by first | exact Or.inl rfl | exact Or.inr (Or.inl rfl) | exact Or.inr (Or.inr rfl)) (hd : (x == ("__debug__" : Str)) = false := by decide)
    (hcd : (x == ("__classdict__" : Str)) = false := by decide) : SE X W pin (.Name x pos) (sVar i) := pe_mono (pe_var hN hv hd hcd) fun σ H Q ⟨b, Fz, F, δ, hp, R, P⟩ => post_var R P
end
def s2 (g : AV → AV → List Sl → Rs AV) (fa fb : List Sl → Rs AV) : List Sl → Rs AV := fun δ => (sSt fa δ).bind fun x δ1 => (sSt fb δ1).bind fun y δ2 => g x y δ2
def s1 (g : AV → List Sl → Rs AV) (fa : List Sl → Rs AV) : List Sl → Rs AV := fun δ => (sSt fa δ).bind fun x δ1 => g x δ1
section
variable (K : PySem.W.Frag) (mg : Str → Option Value) (W : WX) (pin : List Nat)
def V2 (r : R2) (g : AV → AV → List Sl → Rs AV) : Prop := ∀ b Fz F δ σ H v w x y Q, b.pin = pin → Rl K b Fz F δ σ H → AvS K Fz σ v x → AvS K Fz σ w y → Post K mg W b Fz σ Q (g x y δ) → r v w H Q
def V1 (r : V → Hp → VK → Prop) (g : AV → List Sl → Rs AV) : Prop := ∀ b Fz F δ σ H v x Q, b.pin = pin → Rl K b Fz F δ σ H → AvS K Fz σ v x → Post K mg W b Fz σ Q (g x δ) → r v H Q
end
section
variable {X : Cx} {W : WX} {pin : List Nat} {fa fb : List Sl → Rs AV}
theorem sSt_notmp (f : List Sl → Rs AV) (δ : List Sl) (s : Sl) (δ' : List Sl) : sSt f δ ≠ .ok (.tmp s) δ' := by
  unfold sSt
  cases q : f δ with
  | bad => exact fun z => nomatch z
  | er x δ' => exact fun z => nomatch z
  | ok a δ2 =>
    cases a with
    | val d => exact fun z => nomatch z
    | ref i => exact fun z => nomatch z
    | tmp t =>
      cases q2 : t.tree with
      | none => simp only [q2]; exact fun z => nomatch z
      | some d => simp only [q2]; exact fun z => nomatch z
/-- behind one stable operand -/
theorem rd_bind {K : PySem.W.Frag} {mg : Str → Option Value} {σ : L2.St} {H : Hp} {b : Bk} {Fz : Hp} {F : Nat → List Addr} {δ : List Sl} {k : AV → List Sl → Rs AV} {Q R : VK} (hp : b.pin = pin) (Rr : Rl K b Fz F δ σ H) (P : Post K mg W b Fz σ Q ((sSt fa δ).bind k))
    (h : ∀ v H' Fz' F' x δ', Same Fz Fz' → Rl K b Fz' F' δ' σ H' → AvS K Fz' σ v x → Post K mg W b Fz' σ Q (k x δ') → R v H') : rdE K mg W pin (sSt fa) σ H R := by
  refine ⟨b, Fz, F, δ, hp, Rr, ?_⟩
  cases q : sSt fa δ with
  | bad => rw [q] at P; exact P
  | er x δ' => rw [q] at P; exact P
  | ok a δ' =>
    rw [q] at P
    intro v H' Fz' F' s R' A
    cases a with
    | tmp t => exact absurd q (sSt_notmp _ _ _ _)
    | val d => exact h v H' Fz' F' (.val d) δ' s R' A (Post.le s P)
    | ref i => exact h v H' Fz' F' (.ref i) δ' s R' A (Post.le s P)
theorem t2_ok {a c : Expr} {g : AV → AV → List Sl → Rs AV} {r : R2} (hv : V2 X.K X.mg W pin r g) : ∀ σ H Q, rdE X.K X.mg W pin (s2 g fa fb) σ H Q → tOp r (rdE X.K X.mg W pin (sSt fa)) (rdE X.K X.mg W pin (sSt fb)) σ H Q := fun σ H Q ⟨b, Fz, F, δ, hp, R, P⟩ => by
  refine rd_bind hp R P fun v H1 Fz1 F1 x δ1 s1 R1 A1 P1 => ?_
  refine rd_bind hp R1 P1 fun w H2 Fz2 F2 y δ2 s2 R2 A2 P2 => ?_
  exact hv b Fz2 F2 δ2 σ H2 v w x y Q hp R2 (A1.le s2) A2 P2
theorem t1_ok {g : AV → List Sl → Rs AV} {r : V → Hp → VK → Prop} (hv : V1 X.K X.mg W pin r g) : ∀ σ H Q, rdE X.K X.mg W pin (s1 g fa) σ H Q → tUn r (rdE X.K X.mg W pin (sSt fa)) σ H Q := fun σ H Q ⟨b, Fz, F, δ, hp, R, P⟩ => by
  refine rd_bind hp R P fun v H1 Fz1 F1 x δ1 s1 R1 A1 P1 => ?_
  exact hv b Fz1 F1 δ1 σ H1 v x Q hp R1 A1 P1
theorem se_bin {a c : Expr} {op : Operator} {pos : Pos} {g : AV → AV → List Sl → Rs AV} {r : R2} (ho : OpR X (binaryOp op) r) (hv : V2 X.K X.mg W pin r g) (ha : SE X W pin a fa) (hb : SE X W pin c fb) : SE X W pin (.BinOp a op c pos) (s2 g fa fb) :=
  pe_mono (pe_op ho (se_st ha) (se_st hb)) (t2_ok (a := a) (c := c) hv)
theorem se_cmp {a c : Expr} {op : CmpOp} {pos : Pos} {g : AV → AV → List Sl → Rs AV} {r : R2} (ho : OpR X (compareOp op) r) (hv : V2 X.K X.mg W pin r g) (ha : SE X W pin a fa) (hb : SE X W pin c fb) (hm : behindInMarks op c = false) : SE X W pin (.Compare a [op] [c] pos) (s2 g fa fb) :=
  pe_mono (pe_cmpR ho (se_st ha) (se_st hb) hm) (t2_ok (a := a) (c := c) hv)
theorem se_un {a : Expr} {op : UnaryOp} {pos : Pos} {g : AV → List Sl → Rs AV} {r : V → Hp → VK → Prop} (ho : UnR X (unaryOp op) r) (hv : V1 X.K X.mg W pin r g) (ha : SE X W pin a fa) : SE X W pin (.UnaryOp op a pos) (s1 g fa) :=
  pe_mono (pe_un ho (se_st ha)) (t1_ok hv)
/-- a test by a comparison -/
def sTst (f : List Sl → Rs AV) : List Sl → Rs Bool := fun δ => (f δ).bind fun a δ' => match a with
  | .val (.bool k) => .ok k δ'
  | _ => .bad
theorem tst_ok {K : PySem.W.Frag} {mg : Str → Option Value} {f : List Sl → Rs AV} : ∀ σ H Q, rdT K mg W pin (sTst f) σ H Q → rdE K mg W pin f σ H (fun x H' => ∃ k, x = .bl k ∧ Q k H') := fun σ H Q ⟨b, Fz, F, δ, hp, R, P⟩ => by
  refine ⟨b, Fz, F, δ, hp, R, ?_⟩
  unfold sTst at P
  cases q : f δ with
  | bad => rw [q] at P; exact P
  | er x δ' => rw [q] at P; exact P
  | ok a δ' =>
    rw [q] at P
    cases a with
    | tmp s => exact P.elim
    | ref i => exact P.elim
    | val d =>
      cases d with
      | bool k =>
        intro v H' Fz' F' s R' A
        cases (show Rp K Fz' v (.bool k) from A)
        exact ⟨k, rfl, P H' Fz' F' s R'⟩
      | _ => exact P.elim
theorem st_cmp {a c : Expr} {op : CmpOp} {pos : Pos} {g : AV → AV → List Sl → Rs AV} {r : R2} (ho : OpR X (compareOp op) r) (hv : V2 X.K X.mg W pin r g) (ha : SE X W pin a fa) (hb : SE X W pin c fb) (hm : behindInMarks op c = false) : ST X W pin (.Compare a [op] [c] pos) (sTst (s2 g fa fb)) :=
  pt_mono (pt_cmpR ho (se_st ha) (se_st hb) hm) fun σ H Q h => t2_ok (a := a) (c := c) hv σ H _ (tst_ok σ H Q h)
def truD : PyData → Option Bool
  | .none => some false
  | .bool b => some b
  | .int i => some (i != 0)
  | .list ds => some !ds.isEmpty
  | .tuple ds => some !ds.isEmpty
  | _ => none
theorem RpL.isEmpty {K : PySem.W.Frag} {H : Hp} {vs : List V} {ds : List PyData} (h : RpL K H vs ds) : vs.isEmpty = ds.isEmpty := by
  cases h <;> rfl
theorem truD_ok {K : PySem.W.Frag} {H : Hp} {v : V} {d : PyData} {k : Bool} (r : Rp K H v d) (h : truD d = some k) : TruV K v H k := by
  cases r with
  | non => cases h; rfl
  | bl b => cases h; rfl
  | int i => cases h; rfl
  | str x => cases h
  | lst h1 h2 => cases h; exact .inl ⟨_, h1.sq, by rw [h2.isEmpty]⟩
  | tup h1 h2 => cases h; exact .inr (.inl ⟨_, SqT.of h1, by rw [h2.isEmpty]⟩)
  | dK h1 h2 => cases h
  | dT h1 h2 => cases h
def sTru (f : List Sl → Rs AV) : List Sl → Rs Bool := fun δ => (sSt f δ).bind fun a δ' => match (rdA δ' a).bind truD with
  | some k => .ok k δ'
  | none => .bad
theorem rd_bindT {K : PySem.W.Frag} {mg : Str → Option Value} {σ : L2.St} {H : Hp} {b : Bk} {Fz : Hp} {F : Nat → List Addr} {δ : List Sl} {k : AV → List Sl → Rs Bool} {Q : Bool → Hp → Prop} {R : VK} (hp : b.pin = pin) (Rr : Rl K b Fz F δ σ H) (P : PostT K mg W b Fz σ Q ((sSt fa δ).bind k))
    (h : ∀ v H' Fz' F' x δ', Same Fz Fz' → Rl K b Fz' F' δ' σ H' → AvS K Fz' σ v x → PostT K mg W b Fz' σ Q (k x δ') → R v H') : rdE K mg W pin (sSt fa) σ H R := by
  refine ⟨b, Fz, F, δ, hp, Rr, ?_⟩
  cases q : sSt fa δ with
  | bad => rw [q] at P; exact P
  | er x δ' => rw [q] at P; exact P
  | ok a δ' =>
    rw [q] at P
    intro v H' Fz' F' s R' A
    cases a with
    | tmp t => exact absurd q (sSt_notmp _ _ _ _)
    | val d => exact h v H' Fz' F' (.val d) δ' s R' A (PostT.le s P)
    | ref i => exact h v H' Fz' F' (.ref i) δ' s R' A (PostT.le s P)
theorem tru_mono {K : PySem.W.Frag} {mg : Str → Option Value} : ∀ σ H Q, rdT K mg W pin (sTru fa) σ H Q → rdE K mg W pin (sSt fa) σ H fun x H' => ∃ k, TruV K x H' k ∧ Q k H' := fun σ H Q ⟨b, Fz, F, δ, hp, R, P⟩ => by
  refine rd_bindT hp R P fun v H1 Fz1 F1 x δ1 s1 R1 A1 P1 => ?_
  cases q : rdA δ1 x with
  | none => simp only [q, Option.bind_none] at P1; exact P1.elim
  | some d =>
    cases q2 : truD d with
    | none => simp only [q, Option.bind_some, q2] at P1; exact P1.elim
    | some k =>
      simp only [q, Option.bind_some, q2] at P1
      exact ⟨k, truD_ok (rdA_ok R1 A1 q) q2, P1 H1 Fz1 F1 (Same.refl _) R1⟩
theorem st_tru {a : Expr} (ha : SE X W pin a fa) (he : ∀ whole, isTrue a X.env whole = (do let v ← whole; standAt a.pos; holding [v] (truthy v)) := by intro _; rfl) : ST X W pin a (sTru fa) :=
  pt_mono (pt_truth (se_st ha) he) fun σ H Q h => tru_mono σ H Q h
def sNot (t : List Sl → Rs Bool) : List Sl → Rs Bool := fun δ => (t δ).bind fun k δ' => .ok (!k) δ'
def sAnd (t u : List Sl → Rs Bool) : List Sl → Rs Bool := fun δ => (t δ).bind fun k δ' => if k = true then u δ' else .ok false δ'
def sOr (t u : List Sl → Rs Bool) : List Sl → Rs Bool := fun δ => (t δ).bind fun k δ' => if k = true then .ok true δ' else u δ'
def sIf (t : List Sl → Rs Bool) (f g : List Sl → Rs AV) : List Sl → Rs AV := fun δ => (t δ).bind fun k δ' => if k = true then f δ' else g δ'
section
variable {K : PySem.W.Frag} {mg : Str → Option Value} {σ : L2.St} {H : Hp} {b : Bk} {Fz : Hp} {F : Nat → List Addr} {δ : List Sl} {t : List Sl → Rs Bool}
theorem rdT_bind {k : Bool → List Sl → Rs Bool} {Q : Bool → Hp → Prop} {R : Bool → Hp → Prop} (hp : b.pin = pin) (Rr : Rl K b Fz F δ σ H) (P : PostT K mg W b Fz σ Q ((t δ).bind k))
    (h : ∀ c H' Fz' F' δ', Same Fz Fz' → Rl K b Fz' F' δ' σ H' → PostT K mg W b Fz' σ Q (k c δ') → R c H') : rdT K mg W pin t σ H R := by
  refine ⟨b, Fz, F, δ, hp, Rr, ?_⟩
  cases q : t δ with
  | bad => rw [q] at P; exact P
  | er x δ' => rw [q] at P; exact P
  | ok a δ' =>
    rw [q] at P
    exact fun H' Fz' F' s R' => h a H' Fz' F' δ' s R' (PostT.le s P)
theorem rdT_bindE {k : Bool → List Sl → Rs AV} {Q : VK} {R : Bool → Hp → Prop} (hp : b.pin = pin) (Rr : Rl K b Fz F δ σ H) (P : Post K mg W b Fz σ Q ((t δ).bind k))
    (h : ∀ c H' Fz' F' δ', Same Fz Fz' → Rl K b Fz' F' δ' σ H' → Post K mg W b Fz' σ Q (k c δ') → R c H') : rdT K mg W pin t σ H R := by
  refine ⟨b, Fz, F, δ, hp, Rr, ?_⟩
  cases q : t δ with
  | bad => rw [q] at P; exact P
  | er x δ' => rw [q] at P; exact P
  | ok a δ' =>
    rw [q] at P
    exact fun H' Fz' F' s R' => h a H' Fz' F' δ' s R' (Post.le s P)
end
variable {a c d : Expr} {rest : List Expr} {pos : Pos} {t u : List Sl → Rs Bool} {f g : List Sl → Rs AV}
theorem st_not (h : ST X W pin a t) : ST X W pin (.UnaryOp .Not a pos) (sNot t) := pt_mono (pt_not h) fun σ H Q ⟨b, Fz, F, δ, hp, R, P⟩ =>
  rdT_bind hp R P fun c H' Fz' F' δ' s R' P' => P' H' Fz' F' (Same.refl _) R'
abbrev SW (X : Cx) (W : WX) (pin : List Nat) (e : Expr) (f : List Sl → Rs Bool) : Prop := PW X e (rdT X.K X.mg W pin f)
theorem pw_mono {e : Expr} {t t' : TT} (h : PW X e t) (i : ∀ σ H Q, t' σ H Q → t σ H Q) : PW X e t' := ⟨fun wh pins s σ H Q I q => h.run wh pins s σ H Q I (i σ H Q q)⟩
theorem sw_and1 (h : ST X W pin a t) : SW X W pin (.BoolOp .And [a] pos) t := pw_and1 h
theorem sw_or1 (h : ST X W pin a t) : SW X W pin (.BoolOp .Or [a] pos) t := pw_or1 h
theorem sw_and (h : ST X W pin a t) (h2 : SW X W pin (.BoolOp .And (c :: rest) pos) u) : SW X W pin (.BoolOp .And (a :: c :: rest) pos) (sAnd t u) := pw_mono (pw_and h h2) fun σ H Q ⟨b, Fz, F, δ, hp, R, P⟩ =>
  rdT_bind hp R P fun k H' Fz' F' δ' s R' P' => by
    by_cases e : k = true
    · rw [if_pos e] at P' ⊢
      exact ⟨b, Fz', F', δ', hp, R', P'⟩
    · rw [if_neg e] at P' ⊢
      exact P' H' Fz' F' (Same.refl _) R'
theorem sw_or (h : ST X W pin a t) (h2 : SW X W pin (.BoolOp .Or (c :: rest) pos) u) : SW X W pin (.BoolOp .Or (a :: c :: rest) pos) (sOr t u) := pw_mono (pw_or h h2) fun σ H Q ⟨b, Fz, F, δ, hp, R, P⟩ =>
  rdT_bind hp R P fun k H' Fz' F' δ' s R' P' => by
    by_cases e : k = true
    · rw [if_pos e] at P' ⊢
      exact P' H' Fz' F' (Same.refl _) R'
    · rw [if_neg e] at P' ⊢
      exact ⟨b, Fz', F', δ', hp, R', P'⟩
theorem st_w (h : SW X W pin a t) : ST X W pin a t := h.pt
theorem se_if (hc : ST X W pin a t) (ha : SE X W pin c f) (hb : SE X W pin d g) : SE X W pin (.IfExp a c d pos) (sIf t f g) := pe_mono (pe_ifExp hc ha hb) fun σ H Q ⟨b, Fz, F, δ, hp, R, P⟩ =>
  rdT_bindE hp R P fun k H' Fz' F' δ' s R' P' => by
    by_cases e : k = true
    · rw [if_pos e] at P' ⊢
      exact ⟨b, Fz', F', δ', hp, R', P'⟩
    · rw [if_neg e] at P' ⊢
      exact ⟨b, Fz', F', δ', hp, R', P'⟩
/-- and, or, not as values: the value's truth decides -/
def sAndV (f g : List Sl → Rs AV) : List Sl → Rs AV := fun δ => (sSt f δ).bind fun a δ' => match (rdA δ' a).bind truD with
  | some k => if k = true then g δ' else .ok a δ'
  | none => .bad
def sOrV (f g : List Sl → Rs AV) : List Sl → Rs AV := fun δ => (sSt f δ).bind fun a δ' => match (rdA δ' a).bind truD with
  | some k => if k = true then .ok a δ' else g δ'
  | none => .bad
theorem se_and (ha : SE X W pin a f) (hb : SE X W pin (.BoolOp .And (c :: rest) pos) g) : SE X W pin (.BoolOp .And (a :: c :: rest) pos) (sAndV f g) := pe_mono (pe_andT (se_st ha) hb) fun σ H Q ⟨b, Fz, F, δ, hp, R, P⟩ =>
  rd_bind hp R P fun v H1 Fz1 F1 x δ1 s1 R1 A1 P1 => by
    cases q : rdA δ1 x with
    | none => simp only [q, Option.bind_none] at P1; exact P1.elim
    | some d =>
      cases q2 : truD d with
      | none => simp only [q, Option.bind_some, q2] at P1; exact P1.elim
      | some k =>
        simp only [q, Option.bind_some, q2] at P1
        refine ⟨k, truD_ok (rdA_ok R1 A1 q) q2, ?_⟩
        by_cases e : k = true
        · rw [if_pos e] at P1 ⊢
          exact ⟨b, Fz1, F1, δ1, hp, R1, P1⟩
        · rw [if_neg e] at P1 ⊢
          exact P1 v H1 Fz1 F1 (Same.refl _) R1 (AvR.of A1)
theorem se_or (ha : SE X W pin a f) (hb : SE X W pin (.BoolOp .Or (c :: rest) pos) g) : SE X W pin (.BoolOp .Or (a :: c :: rest) pos) (sOrV f g) := pe_mono (pe_orT (se_st ha) hb) fun σ H Q ⟨b, Fz, F, δ, hp, R, P⟩ =>
  rd_bind hp R P fun v H1 Fz1 F1 x δ1 s1 R1 A1 P1 => by
    cases q : rdA δ1 x with
    | none => simp only [q, Option.bind_none] at P1; exact P1.elim
    | some d =>
      cases q2 : truD d with
      | none => simp only [q, Option.bind_some, q2] at P1; exact P1.elim
      | some k =>
        simp only [q, Option.bind_some, q2] at P1
        refine ⟨k, truD_ok (rdA_ok R1 A1 q) q2, ?_⟩
        by_cases e : k = true
        · rw [if_pos e] at P1 ⊢
          exact P1 v H1 Fz1 F1 (Same.refl _) R1 (AvR.of A1)
        · rw [if_neg e] at P1 ⊢
          exact ⟨b, Fz1, F1, δ1, hp, R1, P1⟩
theorem se_oneO (ha : SE X W pin a f) : SE X W pin (.BoolOp .Or [a] pos) f := ha_one ha
where ha_one {X : Cx} {W : WX} {pin : List Nat} {a : Expr} {f : List Sl → Rs AV} {pos : Pos} (ha : SE X W pin a f) : SE X W pin (.BoolOp .Or [a] pos) f := pe_one ha
theorem se_oneA (ha : SE X W pin a f) : SE X W pin (.BoolOp .And [a] pos) f := pe_one ha
end
end Hb
namespace Hb
open PySem PySem.Spec PyProof.Rows L2
abbrev cap : Nat := 1000000
theorem cap_line : cap + cap < sizeLine := by rw [sizeLine_eq]; decide
theorem le_line {n : Nat} (h : n ≤ cap) : n ≤ sizeLine := Nat.le_trans h (by rw [sizeLine_eq]; decide)
theorem lt_line {n : Nat} (h : n ≤ cap) : n < sizeLine := Nat.lt_of_le_of_lt h (by rw [sizeLine_eq]; decide)
def gI (C : Int → Int → Bool) (g : Int → Int → Int) (x y : AV) (δ : List Sl) : Rs AV := match rdC δ x, rdC δ y with
  | some (.int i), some (.int j) => if C i j = true then .ok (.val (.int (g i j))) δ else .bad
  | _, _ => .bad
def gB (g : Int → Int → Bool) (x y : AV) (δ : List Sl) : Rs AV := match rdC δ x, rdC δ y with
  | some (.int i), some (.int j) => .ok (.val (.bool (g i j))) δ
  | _, _ => .bad
def gNeg (x : AV) (δ : List Sl) : Rs AV := match rdC δ x with
  | some (.int i) => .ok (.val (.int (-i))) δ
  | _ => .bad
theorem rpc_int {K : PySem.W.Frag} {Fz H : Hp} {v : V} {i : Int} (h : RpC K Fz H v (.int i)) : v = .int i := by
  rcases h with h | ⟨a, vs, ds, e1, e2, _⟩
  · cases h; rfl
  · cases e2
theorem rpc_str {K : PySem.W.Frag} {Fz H : Hp} {v : V} {i : Str} (h : RpC K Fz H v (.str i)) : v = .str i := by
  rcases h with h | ⟨a, vs, ds, e1, e2, _⟩
  · cases h; rfl
  · cases e2
section
variable {K : PySem.W.Frag} {mg : Str → Option Value} {W : WX} {pin : List Nat}
theorem v2_i {C : Int → Int → Bool} {C' : Int → Int → Prop} {g : Int → Int → Int} (hC : ∀ i j, C i j = true → C' i j) : V2 K mg W pin (rI C' fun i j => .int (g i j)) (gI C g) := by
  intro b Fz F δ σ H v w x y Q hp R A B P
  unfold gI at P
  cases q1 : rdC δ x with
  | none => simp only [q1] at P; exact P.elim
  | some d =>
    cases q2 : rdC δ y with
    | none => cases d <;> (simp only [q1, q2] at P; exact P.elim)
    | some e =>
      cases d with
      | int i =>
        cases e with
        | int j =>
          simp only [q1, q2] at P
          by_cases c : C i j = true
          · rw [if_pos c] at P
            exact ⟨i, j, rpc_int (rdC_ok R A q1), rpc_int (rdC_ok R B q2), hC i j c, P _ H Fz F (Same.refl _) R (.int _)⟩
          · rw [if_neg c] at P
            exact P.elim
        | _ => simp only [q1, q2] at P; exact P.elim
      | _ => simp only [q1, q2] at P; exact P.elim
theorem v2_i0 {C : Int → Int → Bool} {g : Int → Int → Int} : V2 K mg W pin (rI0 fun i j => .int (g i j)) (gI C g) := by
  intro b Fz F δ σ H v w x y Q hp R A B P
  obtain ⟨i, j, h1, h2, _, q⟩ := v2_i (K := K) (mg := mg) (W := W) (C' := fun _ _ => True) (fun _ _ _ => trivial) b Fz F δ σ H v w x y Q hp R A B P
  exact ⟨i, j, h1, h2, q⟩
theorem v2_b {g : Int → Int → Bool} : V2 K mg W pin (rI0 fun i j => .bl (g i j)) (gB g) := by
  intro b Fz F δ σ H v w x y Q hp R A B P
  unfold gB at P
  cases q1 : rdC δ x with
  | none => simp only [q1] at P; exact P.elim
  | some d =>
    cases q2 : rdC δ y with
    | none => cases d <;> (simp only [q1, q2] at P; exact P.elim)
    | some e =>
      cases d with
      | int i =>
        cases e with
        | int j =>
          simp only [q1, q2] at P
          exact ⟨i, j, rpc_int (rdC_ok R A q1), rpc_int (rdC_ok R B q2), P _ H Fz F (Same.refl _) R (.bl _)⟩
        | _ => simp only [q1, q2] at P; exact P.elim
      | _ => simp only [q1, q2] at P; exact P.elim
theorem v1_neg : V1 K mg W pin (rU fun i => .int (-i)) gNeg := by
  intro b Fz F δ σ H v x Q hp R A P
  unfold gNeg at P
  cases q1 : rdC δ x with
  | none => simp only [q1] at P; exact P.elim
  | some d =>
    cases d with
    | int i =>
      simp only [q1] at P
      exact ⟨i, rpc_int (rdC_ok R A q1), P _ H Fz F (Same.refl _) R (.int _)⟩
    | _ => simp only [q1] at P; exact P.elim
end
def yes2 : Int → Int → Bool := fun _ _ => true
abbrev gSub := gI yes2 (· - ·)
abbrev gMod := gI (fun _ j => decide (0 < j)) (· % ·)
abbrev gLt := gB fun i j => decide (i < j)
abbrev gLe := gB fun i j => decide (i ≤ j)
abbrev gGt := gB fun i j => decide (j < i)
section
variable {X : Cx} {W : WX} {pin : List Nat} {fa fb : List Sl → Rs AV} {a c : Expr} {pos : Pos}
theorem se_sub (ha : SE X W pin a fa) (hb : SE X W pin c fb) : SE X W pin (.BinOp a .Sub c pos) (s2 gSub fa fb) := se_bin op_sub v2_i0 ha hb
theorem se_mod (ha : SE X W pin a fa) (hb : SE X W pin c fb) : SE X W pin (.BinOp a .Mod c pos) (s2 gMod fa fb) := se_bin op_mod (v2_i fun _ _ h => of_decide_eq_true h) ha hb
theorem se_neg (ha : SE X W pin a fa) : SE X W pin (.UnaryOp .USub a pos) (s1 gNeg fa) := se_un un_neg v1_neg ha
theorem se_le (ha : SE X W pin a fa) (hb : SE X W pin c fb) : SE X W pin (.Compare a [.LtE] [c] pos) (s2 gLe fa fb) := se_cmp op_le v2_b ha hb (nomark _)
theorem st_lt (ha : SE X W pin a fa) (hb : SE X W pin c fb) : ST X W pin (.Compare a [.Lt] [c] pos) (sTst (s2 gLt fa fb)) := st_cmp op_lt v2_b ha hb (nomark _)
theorem st_gt (ha : SE X W pin a fa) (hb : SE X W pin c fb) : ST X W pin (.Compare a [.Gt] [c] pos) (sTst (s2 gGt fa fb)) := st_cmp op_gt v2_b ha hb (nomark _)
end
def rCatX (K : PySem.W.Frag) : R2 := fun x y H Q => ∃ l b xs zs, x = .ref l ∧ y = .ref b ∧ SqX K H l xs ∧ SqX K H b zs ∧ xs.length + zs.length ≤ sizeLine ∧ ∀ p, H p = none → Q (.ref p) (upd H p (.lst (xs ++ zs)))
theorem op_catX {X : Cx} : OpR X (binaryOp .Add) (rCatX X.K) := by
  intro pins s σ H x y v u Q I rx ry h
  obtain ⟨l, b, xs, zs, e1, e2, hX, hZ, hz, q⟩ := h
  subst e1 e2
  cases rx
  cases ry
  obtain ⟨i1, n1, r1, g1, z1⟩ := inv_lstX I hX
  obtain ⟨i2, n2, r2, g2, z2⟩ := inv_lstX I hZ
  have l1 := r1.length
  have l2 := r2.length
  refine PySem.P.add_list g1 g2 ?_ (by rw [List.size_toArray, List.size_toArray, ← l1, ← l2]; exact hz)
  rw [show i1.toArray ++ i2.toArray = (i1 ++ i2).toArray by simp]
  exact ⟨.ref _, _, I.lnew (t' := s.toks) (r1.append r2) (by rw [List.length_append]; exact hz), rfl, q _ I.fresh⟩
def rStrCat : R2 := fun x y H Q => ∃ i j, x = .str i ∧ y = .str j ∧ i.length + j.length ≤ sizeLine ∧ Q (.str (i ++ j)) H
def rAddU (K : PySem.W.Frag) : R2 := fun x y H Q => ((rI0 (fun i j => .int (i + j)) x y H Q ∨ rCatX K x y H Q) ∨ rStrCat x y H Q) ∨ rCatA K x y H Q
theorem op_addU {X : Cx} : OpR X (binaryOp .Add) (rAddU X.K) := OpR.or (OpR.or (OpR.or op_add op_catX) op_add_str) op_catA
def gAdd (x y : AV) (δ : List Sl) : Rs AV := match rdC δ x, rdC δ y with
  | some (.int i), some (.int j) => .ok (.val (.int (i + j))) δ
  | some (.list ds), some (.list es) => if ds.length ≤ cap ∧ es.length ≤ cap then .ok (.tmp (.ol ((ds ++ es).map .fz))) δ else .bad
  | some (.str s), some (.str t) => if s.length ≤ cap ∧ t.length ≤ cap then .ok (.val (.str (s ++ t))) δ else .bad
  | some (.tuple ds), some (.tuple es) => if ds.length ≤ cap ∧ es.length ≤ cap then .ok (.val (.tuple (ds ++ es))) δ else .bad
  | _, _ => .bad
section
variable {K : PySem.W.Frag} {mg : Str → Option Value} {W : WX} {pin : List Nat}
theorem v2_add : V2 K mg W pin (rAddU K) gAdd := by
  intro b Fz F δ σ H v w x y Q hp R A B P
  unfold gAdd at P
  cases q1 : rdC δ x with
  | none => simp only [q1] at P; exact P.elim
  | some d =>
    cases q2 : rdC δ y with
    | none => cases d <;> (simp only [q1, q2] at P; exact P.elim)
    | some e =>
      have h1 := rdC_ok R A q1
      have h2 := rdC_ok R B q2
      have cl := cap_line
      cases d with
      | int i =>
        cases e with
        | int j =>
          simp only [q1, q2] at P
          exact .inl (.inl (.inl ⟨i, j, rpc_int h1, rpc_int h2, P _ H Fz F (Same.refl _) R (.int _)⟩))
        | _ => simp only [q1, q2] at P; exact P.elim
      | str i =>
        cases e with
        | str j =>
          simp only [q1, q2] at P
          by_cases c : i.length ≤ cap ∧ j.length ≤ cap
          · rw [if_pos c] at P
            exact .inl (.inr ⟨i, j, rpc_str h1, rpc_str h2, by omega, P _ H Fz F (Same.refl _) R (.str _)⟩)
          · rw [if_neg c] at P; exact P.elim
        | _ => simp only [q1, q2] at P; exact P.elim
      | list ds =>
        cases e with
        | list es =>
          simp only [q1, q2] at P
          by_cases c : ds.length ≤ cap ∧ es.length ≤ cap
          · rw [if_pos c] at P
            obtain ⟨a1, v1, e1, s1, r1⟩ := h1.list R.le
            obtain ⟨a2, v2, e2, s2, r2⟩ := h2.list R.le
            have l1 := r1.len
            have l2 := r2.len
            exact .inl (.inl (.inr ⟨a1, a2, v1, v2, e1, e2, s1, s2, by omega, post_newL R (r1.append r2) P⟩))
          · rw [if_neg c] at P; exact P.elim
        | _ => simp only [q1, q2] at P; exact P.elim
      | tuple ds =>
        cases e with
        | tuple es =>
          simp only [q1, q2] at P
          by_cases c : ds.length ≤ cap ∧ es.length ≤ cap
          · rw [if_pos c] at P
            have k1 : Rp K Fz v (.tuple ds) := by
              rcases h1 with h | ⟨_, _, _, _, e2, _⟩
              · exact h
              · cases e2
            have k2 : Rp K Fz w (.tuple es) := by
              rcases h2 with h | ⟨_, _, _, _, e2, _⟩
              · exact h
              · cases e2
            obtain ⟨a1, v1, e1, s1, r1⟩ := h1.tup R.le
            obtain ⟨a2, v2, e2, s2, r2⟩ := h2.tup R.le
            have l1 := r1.len
            have l2 := r2.len
            refine .inr ⟨a1, a2, v1, v2, e1, e2, s1, s2, by omega, fun z => ?_, fun _ z => ?_, fun _ _ => post_newT R (r1.append r2) P⟩
            · subst z
              cases r1
              rw [← e2]
              exact P w H Fz F (Same.refl _) R k2
            · subst z
              cases r2
              rw [← e1]
              rw [List.append_nil] at P
              exact P v H Fz F (Same.refl _) R k1
          · rw [if_neg c] at P; exact P.elim
        | _ => simp only [q1, q2] at P; exact P.elim
      | _ => simp only [q1, q2] at P; exact P.elim
end
theorem se_add {X : Cx} {W : WX} {pin : List Nat} {fa fb : List Sl → Rs AV} {a c : Expr} {pos : Pos} (ha : SE X W pin a fa) (hb : SE X W pin c fb) : SE X W pin (.BinOp a .Add c pos) (s2 gAdd fa fb) := se_bin op_addU v2_add ha hb
mutual
theorem Rp.dp {K : PySem.W.Frag} {H : Hp} : ∀ {v : V} {d : PyData}, Rp K H v d → d.canLay0 = true → Dp K H v d
  | _, _, .non, _ => .non
  | _, _, .bl b, _ => .bl b
  | _, _, .int i, _ => .int i
  | _, _, .str x, _ => .str x
  | _, _, .lst (ds := ds) h1 h2, c => .lst h1.sq (RpL.dp h2 (by rw [PyData.canLay0] at c; exact c))
  | _, _, .tup (ds := ds) h1 h2, c => .tup (SqT.of h1) (RpL.dp h2 (by rw [PyData.canLay0] at c; exact c))
  | _, _, .dK h1 h2, c => by rw [PyData.canLay0] at c; cases c
  | _, _, .dT h1 h2, c => by rw [PyData.canLay0] at c; cases c
theorem RpL.dp {K : PySem.W.Frag} {H : Hp} : ∀ {vs : List V} {ds : List PyData}, RpL K H vs ds → PyData.canLayAll0 ds = true → DpAll K H vs ds
  | _, _, .nil, _ => .nil
  | _, _, .cons h t, c => by
    rw [PyData.canLayAll0, Bool.and_eq_true] at c
    exact .cons (Rp.dp h c.1) (RpL.dp t c.2)
end
theorem rp_dp {K : PySem.W.Frag} {H : Hp} {v : V} {d : PyData} (h : Rp K H v d) (c : SeqAt.shaped d = true) : Dp K H v d := h.dp (SeqAt.canLay_of_shaped c)
def eqD (d e : PyData) : Option Bool := if SeqAt.shaped d = true ∧ SeqAt.shaped e = true then some (PyData.eqv d e) else none
def gEq (x y : AV) (δ : List Sl) : Rs AV := match rdA δ x, rdA δ y with
  | some d, some e => (match eqD d e with
    | some k => .ok (.val (.bool k)) δ
    | none => .bad)
  | _, _ => .bad
def gNe (x y : AV) (δ : List Sl) : Rs AV := match rdA δ x, rdA δ y with
  | some d, some e => (match eqD d e with
    | some k => .ok (.val (.bool !k)) δ
    | none => .bad)
  | _, _ => .bad
section
variable {K : PySem.W.Frag} {mg : Str → Option Value} {W : WX} {pin : List Nat}
theorem v2_eq : V2 K mg W pin (rEqD K) gEq := by
  intro b Fz F δ σ H v w x y Q hp R A B P
  unfold gEq at P
  cases q1 : rdA δ x with
  | none => simp only [q1] at P; exact P.elim
  | some d =>
    cases q2 : rdA δ y with
    | none => simp only [q1, q2] at P; exact P.elim
    | some e =>
      simp only [q1, q2, eqD] at P
      by_cases c : SeqAt.shaped d = true ∧ SeqAt.shaped e = true
      · simp only [if_pos c] at P
        exact ⟨d, e, rp_dp (rdA_ok R A q1) c.1, rp_dp (rdA_ok R B q2) c.2, c.1, c.2, P _ H Fz F (Same.refl _) R (.bl _)⟩
      · simp only [if_neg c] at P
        exact P.elim
theorem v2_ne : V2 K mg W pin (rNeD K) gNe := by
  intro b Fz F δ σ H v w x y Q hp R A B P
  unfold gNe at P
  cases q1 : rdA δ x with
  | none => simp only [q1] at P; exact P.elim
  | some d =>
    cases q2 : rdA δ y with
    | none => simp only [q1, q2] at P; exact P.elim
    | some e =>
      simp only [q1, q2, eqD] at P
      by_cases c : SeqAt.shaped d = true ∧ SeqAt.shaped e = true
      · simp only [if_pos c] at P
        exact ⟨d, e, rp_dp (rdA_ok R A q1) c.1, rp_dp (rdA_ok R B q2) c.2, c.1, c.2, P _ H Fz F (Same.refl _) R (.bl _)⟩
      · simp only [if_neg c] at P
        exact P.elim
end
def flatD : PyData → Bool
  | .none | .bool _ | .int _ | .str _ => true
  | _ => false
theorem flatD_V {K : PySem.W.Frag} {H : Hp} {v : V} {d : PyData} (h : Rp K H v d) (f : flatD d = true) : flatV v = true := by
  cases h <;> first | rfl | cases f
theorem eqV_D {K : PySem.W.Frag} {H : Hp} {v w : V} {d e : PyData} (h : Rp K H v d) (h2 : Rp K H w e) (f : flatD d = true) (f2 : flatD e = true) : eqV v w = PyData.eqv d e := by
  cases h <;> first | (exact absurd f Bool.false_ne_true) | (cases h2 <;> first | (exact absurd f2 Bool.false_ne_true) | rfl | (simp only [eqV, PyData.eqv]))
theorem flatAll {K : PySem.W.Frag} {H : Hp} : ∀ {vs : List V} {ds : List PyData}, RpL K H vs ds → ds.all flatD = true → vs.all flatV = true
  | _, _, .nil, _ => rfl
  | _, _, .cons h t, f => by
    rw [List.all_cons, Bool.and_eq_true] at f ⊢
    exact ⟨flatD_V h f.1, flatAll t f.2⟩
theorem inV_D {K : PySem.W.Frag} {H : Hp} {v : V} {d : PyData} (h : Rp K H v d) (f : flatD d = true) : ∀ {vs : List V} {ds : List PyData}, RpL K H vs ds → ds.all flatD = true → inV v vs = ds.any fun z => PyData.eqv z d
  | _, _, .nil, _ => rfl
  | _, _, .cons h2 t, f2 => by
    rw [List.all_cons, Bool.and_eq_true] at f2
    unfold inV
    rw [List.any_cons, List.any_cons, eqV_D h2 h f2.1 f]
    exact congrArg (_ || ·) (inV_D h f t f2.2)
def inD (d : PyData) : PyData → Option Bool
  | .list ds => if SeqAt.shaped d = true ∧ SeqAt.shaped (.list ds) = true then some (ds.any fun z => PyData.eqv z d) else none
  | .tuple ds => if flatD d = true ∧ ds.all flatD = true then some (ds.any fun z => PyData.eqv z d) else none
  | _ => none
def rInU (K : PySem.W.Frag) (n : Bool) : R2 := fun x y H Q => (if n = true then rNotInD K x y H Q else rInD K x y H Q) ∨ rIn K n x y H Q
theorem op_notInU {X : Cx} (hu : X.A.units + 65 < cLine) : OpR X (compareOp .NotIn) (rInU X.K true) := OpR.or (op_notInD hu) op_notIn_seq
def gIn (n : Bool) (x y : AV) (δ : List Sl) : Rs AV := match rdA δ x, rdA δ y with
  | some d, some e => (match inD d e with
    | some k => .ok (.val (.bool (if n = true then !k else k))) δ
    | none => .bad)
  | _, _ => .bad
theorem v2_in {K : PySem.W.Frag} {mg : Str → Option Value} {W : WX} {pin : List Nat} {n : Bool} : V2 K mg W pin (rInU K n) (gIn n) := by
  intro b Fz F δ σ H v w x y Q hp R A B P
  unfold gIn at P
  cases q1 : rdA δ x with
  | none => simp only [q1] at P; exact P.elim
  | some d =>
    cases q2 : rdA δ y with
    | none => simp only [q1, q2] at P; exact P.elim
    | some e =>
      simp only [q1, q2] at P
      have h1 := rdA_ok R A q1
      have h2 := rdA_ok R B q2
      cases e with
      | list ds =>
        unfold inD at P
        by_cases c : SeqAt.shaped d = true ∧ SeqAt.shaped (.list ds) = true
        · simp only [if_pos c] at P
          refine .inl ?_
          have q := P (.bl (if n = true then !(ds.any fun z => PyData.eqv z d) else ds.any fun z => PyData.eqv z d)) H Fz F (Same.refl _) R (.bl _)
          cases n with
          | true => exact ⟨d, ds, rp_dp h1 c.1, rp_dp h2 c.2, c.1, c.2, q⟩
          | false => exact ⟨d, ds, rp_dp h1 c.1, rp_dp h2 c.2, c.1, c.2, q⟩
        · simp only [if_neg c] at P
          exact P.elim
      | tuple ds =>
        unfold inD at P
        by_cases c : flatD d = true ∧ ds.all flatD = true
        · simp only [if_pos c] at P
          have q := P (.bl (if n = true then !(ds.any fun z => PyData.eqv z d) else ds.any fun z => PyData.eqv z d)) H Fz F (Same.refl _) R (.bl _)
          cases h2 with
          | tup s1 s2 =>
            refine .inr ⟨_, _, rfl, .inr (SqT.of s1), flatD_V h1 c.1, flatAll s2 c.2, ?_⟩
            rw [inV_D h1 c.1 s2 c.2]
            exact q
        · simp only [if_neg c] at P
          exact P.elim
      | _ => exact P.elim
def rIsU : R2 := fun x y H Q => (y = .non ∧ Q (.bl (decide (x = .non))) H) ∨ rIsB x y H Q
theorem op_isU {X : Cx} : OpR X (compareOp .Is) rIsU := OpR.or op_isN op_isBl
def isD : PyData → PyData → Option Bool
  | .none, .none => some true
  | _, .none => some false
  | .bool a, .bool b => some (a == b)
  | _, _ => none
def gIs (n : Bool) (x y : AV) (δ : List Sl) : Rs AV := match rdA δ x, rdA δ y with
  | some d, some e => (match isD d e with
    | some k => .ok (.val (.bool (if n = true then !k else k))) δ
    | none => .bad)
  | _, _ => .bad
theorem isD_ok {K : PySem.W.Frag} {H : Hp} {v w : V} {d e : PyData} {k : Bool} (h : Rp K H v d) (h2 : Rp K H w e) (i : isD d e = some k) : (w = .non ∧ k = decide (v = .non)) ∨ ∃ a c : Bool, v = .bl a ∧ w = .bl c ∧ k = decide (a = c) := by
  cases h2 with
  | non =>
    refine .inl ⟨rfl, ?_⟩
    cases h <;> (simp only [isD, Option.some.injEq] at i; subst i; simp)
  | bl c =>
    cases h with
    | bl a =>
      simp only [isD, Option.some.injEq] at i
      subst i
      refine .inr ⟨a, c, rfl, rfl, ?_⟩
      cases a <;> cases c <;> rfl
    | _ => simp [isD] at i
  | _ => cases h <;> simp [isD] at i
theorem v2_is {K : PySem.W.Frag} {mg : Str → Option Value} {W : WX} {pin : List Nat} : V2 K mg W pin rIsU (gIs false) := by
  intro b Fz F δ σ H v w x y Q hp R A B P
  unfold gIs at P
  cases q1 : rdA δ x with
  | none => simp only [q1] at P; exact P.elim
  | some d =>
    cases q2 : rdA δ y with
    | none => simp only [q1, q2] at P; exact P.elim
    | some e =>
      cases q3 : isD d e with
      | none => simp only [q1, q2, q3] at P; exact P.elim
      | some k =>
        simp only [q1, q2, q3] at P
        have q := P (.bl k) H Fz F (Same.refl _) R (.bl _)
        rcases isD_ok (rdA_ok R A q1) (rdA_ok R B q2) q3 with ⟨e1, e2⟩ | ⟨a, c, e1, e2, e3⟩
        · subst e2
          exact .inl ⟨e1, q⟩
        · subst e3
          exact .inr ⟨a, c, e1, e2, q⟩
section
variable {X : Cx} {W : WX} {pin : List Nat} {fa fb : List Sl → Rs AV} {a c : Expr} {pos : Pos}
theorem se_eq (hu : X.A.units + 64 < cLine) (ha : SE X W pin a fa) (hb : SE X W pin c fb) : SE X W pin (.Compare a [.Eq] [c] pos) (s2 gEq fa fb) := se_cmp (op_eqD hu) v2_eq ha hb (nomark _)
theorem st_eq (hu : X.A.units + 64 < cLine) (ha : SE X W pin a fa) (hb : SE X W pin c fb) : ST X W pin (.Compare a [.Eq] [c] pos) (sTst (s2 gEq fa fb)) := st_cmp (op_eqD hu) v2_eq ha hb (nomark _)
theorem st_ne (hu : X.A.units + 64 < cLine) (ha : SE X W pin a fa) (hb : SE X W pin c fb) : ST X W pin (.Compare a [.NotEq] [c] pos) (sTst (s2 gNe fa fb)) := st_cmp (op_neD hu) v2_ne ha hb (nomark _)
theorem st_nin (hu : X.A.units + 65 < cLine) (ha : SE X W pin a fa) (hb : SE X W pin c fb) (hm : behindInMarks .NotIn c = false := by with_unfolding_all rfl) : ST X W pin (.Compare a [.NotIn] [c] pos) (sTst (s2 (gIn true) fa fb)) := st_cmp (op_notInU hu) v2_in ha hb hm
theorem se_is (ha : SE X W pin a fa) (hb : SE X W pin c fb) : SE X W pin (.Compare a [.Is] [c] pos) (s2 (gIs false) fa fb) := se_cmp op_isU v2_is ha hb (nomark _)
theorem st_is (ha : SE X W pin a fa) (hb : SE X W pin c fb) : ST X W pin (.Compare a [.Is] [c] pos) (sTst (s2 (gIs false) fa fb)) := st_cmp op_isU v2_is ha hb (nomark _)
end
/-- the item at a place, a tree that stands still -/
def itemD : PyData → PyData → Option PyData
  | .list ds, .int i => atI ds i
  | .tuple ds, .int i => atI ds i
  | _, _ => none
def El.fzd : El → Option PyData
  | .fz d => some d
  | .ow _ => none
def itemA (δ : List Sl) (x : AV) (i : PyData) : Option PyData := match x with
  | .val d => itemD d i
  | .ref k => match δ[k]? with
    | some (.fz d) => itemD d i
    | some (.ol xs) => (match i with
      | .int i => (atI xs i).bind El.fzd
      | _ => none)
    | some (.al x j) => (match δ[x]? with
      | some (.ol xs) => (match xs[j]? with
        | some (.ow ys) => itemD (.list ys) i
        | some (.fz d) => itemD d i
        | none => none)
      | _ => none)
    | _ => none
  | .tmp _ => none
def gIx (x y : AV) (δ : List Sl) : Rs AV := match rdC δ y with
  | some i => (match itemA δ x i with
    | some d => .ok (.val d) δ
    | none => .bad)
  | none => .bad
theorem atI_map {α β : Type} {f : α → β} {xs : List α} {i : Int} : atI (xs.map f) i = (atI xs i).map f := by
  unfold atI
  rw [List.length_map]
  cases ixN xs.length i with
  | none => rfl
  | some j => simp
theorem rpl_at {K : PySem.W.Frag} {H : Hp} {vs : List V} {ds : List PyData} {i : Int} {d : PyData} (h : RpL K H vs ds) (e : atI ds i = some d) : ∃ v, atI vs i = some v ∧ Rp K H v d := by
  unfold atI at e ⊢
  rw [h.len]
  cases q : ixN ds.length i with
  | none => rw [q] at e; cases e
  | some j =>
    rw [q] at e
    exact h.get e
def rIxU (K : PySem.W.Frag) : R2 := fun x y H Q => rIxL K x y H Q ∨ rIxT K x y H Q
theorem ix_U {X : Cx} : IxR X (rIxU X.K) := IxR.or ix_list ix_tup
theorem itemD_ok {K : PySem.W.Frag} {Fz H : Hp} {v w : V} {d i r : PyData} {Q : VK} (le : Same Fz H) (h : RpC K Fz H v d) (h2 : RpC K Fz H w i) (e : itemD d i = some r) (q : ∀ u, Rp K Fz u r → Q u H) : rIxU K v w H Q := by
  cases d with
  | list ds =>
    cases i with
    | int i =>
      obtain ⟨a, vs, e1, s1, r1⟩ := h.list le
      obtain ⟨u, e2, r2⟩ := rpl_at r1 (show atI ds i = some r from e)
      exact .inl ⟨a, vs, i, u, e1, rpc_int h2, s1.sq, e2, q u r2⟩
    | _ => cases e
  | tuple ds =>
    cases i with
    | int i =>
      obtain ⟨a, vs, e1, s1, r1⟩ := h.tup le
      obtain ⟨u, e2, r2⟩ := rpl_at r1 (show atI ds i = some r from e)
      exact .inr ⟨a, vs, i, u, e1, rpc_int h2, s1, e2, q u r2⟩
    | _ => cases e
  | _ => cases i <;> cases e
theorem ElL.len {K : PySem.W.Frag} {Fz H : Hp} : ∀ {f : List Addr} {vs : List V} {es : List El}, ElL K Fz H f vs es → vs.length = es.length
  | _, _, _, .nil => rfl
  | _, _, _, .cons _ t => by simp [ElL.len t]
theorem ElL.atI {K : PySem.W.Frag} {Fz H : Hp} {f : List Addr} {vs : List V} {es : List El} {i : Int} {e : El} (h : ElL K Fz H f vs es) (q : L2.atI es i = some e) : ∃ v g, L2.atI vs i = some v ∧ ElR K Fz H g v e := by
  unfold L2.atI at q ⊢
  rw [h.len]
  cases q1 : ixN es.length i with
  | none => rw [q1] at q; cases q
  | some j =>
    rw [q1] at q
    obtain ⟨v, g, e1, e2, _⟩ := h.at_ (j := j) q
    exact ⟨v, g, e1, e2⟩
theorem v2_ix {K : PySem.W.Frag} {mg : Str → Option Value} {W : WX} {pin : List Nat} : V2 K mg W pin (rIxU K) gIx := by
  intro b Fz F δ σ H v w x y Q hp R A B P
  unfold gIx at P
  cases q1 : rdC δ y with
  | none => simp only [q1] at P; exact P.elim
  | some i =>
    cases q2 : itemA δ x i with
    | none => simp only [q1, q2] at P; exact P.elim
    | some r =>
      simp only [q1, q2] at P
      have h2 := rdC_ok R B q1
      have fin : ∀ u, Rp K Fz u r → Q u H := fun u hu => P u H Fz F (Same.refl _) R hu
      cases x with
      | val d => exact itemD_ok R.le (.inl A) h2 q2 fin
      | tmp s => exact False.elim A
      | ref k =>
        have hv : σ[k]? = some (some v) := A
        unfold itemA at q2
        cases q3 : δ[k]? with
        | none => simp only [q3] at q2; cases q2
        | some s =>
          have hs := R.slot k s q3
          rw [hv] at hs
          cases s with
          | no => simp only [q3] at q2; cases q2
          | od kvs => simp only [q3] at q2; cases q2
          | fz d =>
            simp only [q3] at q2
            obtain ⟨_, v', e1, e2⟩ := hs
            cases e1
            exact itemD_ok R.le (.inl e2) h2 q2 fin
          | ol xs =>
            cases i with
            | int n =>
              simp only [q3] at q2
              cases q4 : atI xs n with
              | none => rw [q4] at q2; cases q2
              | some e =>
                rw [q4] at q2
                cases e with
                | ow ys => cases q2
                | fz d =>
                  cases q2
                  obtain ⟨a, vs, g, e1, e2, e3, e4⟩ := hs
                  cases e1
                  obtain ⟨u, g', f1, f2⟩ := e4.atI q4
                  exact .inl ⟨a, vs, n, u, rfl, rpc_int h2, SqL.of e3, f1, fin u f2.2⟩
            | _ => simp only [q3] at q2; cases q2
          | al x j =>
            simp only [q3] at q2
            cases q4 : δ[x]? with
            | none => simp only [q4] at q2; cases q2
            | some t =>
              cases t with
              | ol xs =>
                simp only [q4] at q2
                cases q5 : xs[j]? with
                | none => simp only [q5] at q2; cases q2
                | some e =>
                  obtain ⟨g, e1, _⟩ := R.al q3 q4 q5 hv
                  cases e with
                  | fz d =>
                    simp only [q5] at q2
                    exact itemD_ok R.le (.inl e1.2) h2 q2 fin
                  | ow ys =>
                    simp only [q5] at q2
                    obtain ⟨a, vs, f1, _, f3, f4⟩ := e1
                    exact itemD_ok R.le (.inr ⟨a, vs, ys, f1, rfl, f3, f4⟩) h2 q2 fin
              | _ => simp only [q4] at q2; cases q2
def cutD (ds : List PyData) (lo hi : Option Int) : List PyData := (ds.drop (HT.sIx ds.length 0 lo)).take (HT.sIx ds.length ds.length hi - HT.sIx ds.length 0 lo)
theorem rpl_cut {K : PySem.W.Frag} {H : Hp} {vs : List V} {ds : List PyData} (h : RpL K H vs ds) (lo hi : Option Int) : RpL K H (cutV vs lo hi) (cutD ds lo hi) := by
  unfold cutV cutD
  rw [h.len]
  exact (h.drop _).take _
def gSl (x : AV) (lo hi : Option Int) (δ : List Sl) : Rs AV := match rdC δ x with
  | some (.list ds) => .ok (.tmp (.ol ((cutD ds lo hi).map .fz))) δ
  | some (.tuple ds) => .ok (.val (.tuple (cutD ds lo hi))) δ
  | _ => .bad
end Hb
namespace Hb
open PySem PySem.Spec PyProof.Rows L2
def sPartO : Option (List Sl → Rs AV) → List Sl → Rs (Option Int)
  | none => fun δ => .ok none δ
  | some f => fun δ => (sSt f δ).bind fun a δ' => match rdC δ' a with
    | some (.int i) => .ok (some i) δ'
    | _ => .bad
def rdP (K : PySem.W.Frag) (mg : Str → Option Value) (W : WX) (pin : List Nat) : Option (List Sl → Rs AV) → TO
  | none => tNoPart
  | some f => tPart (rdE K mg W pin (sSt f))
inductive SPO (X : Cx) (W : WX) (pin : List Nat) : Option Expr → Option (List Sl → Rs AV) → Prop
  | no : SPO X W pin none none
  | yes {e : Expr} {f : List Sl → Rs AV} : SE X W pin e f → SPO X W pin (some e) (some f)
theorem SPO.po {X : Cx} {W : WX} {pin : List Nat} {e : Option Expr} {f : Option (List Sl → Rs AV)} (h : SPO X W pin e f) : PO X e (rdP X.K X.mg W pin f) := by
  cases h with
  | no => exact po_none
  | yes h => exact po_some (se_st h)
section
variable {K : PySem.W.Frag} {mg : Str → Option Value} {W : WX} {pin : List Nat}
theorem rdP_bind {o : Option (List Sl → Rs AV)} {σ : L2.St} {H : Hp} {b : Bk} {Fz : Hp} {F : Nat → List Addr} {δ : List Sl} {k : Option Int → List Sl → Rs AV} {Q : VK} {R : Option Int → Hp → Prop} (hp : b.pin = pin) (Rr : Rl K b Fz F δ σ H) (P : Post K mg W b Fz σ Q ((sPartO o δ).bind k))
    (h : ∀ i H' Fz' F' δ', Same Fz Fz' → Rl K b Fz' F' δ' σ H' → Post K mg W b Fz' σ Q (k i δ') → R i H') : rdP K mg W pin o σ H R := by
  cases o with
  | none => exact h none H Fz F δ (Same.refl _) Rr P
  | some f =>
    have P' : Post K mg W b Fz σ Q ((sSt f δ).bind fun a δ' => (match rdC δ' a with
      | some (.int i) => (.ok (some i) δ' : Rs (Option Int))
      | _ => .bad).bind k) := by
      simp only [sPartO] at P
      cases q : sSt f δ with
      | bad => rw [q] at P; exact P
      | er x δ' => rw [q] at P; exact P
      | ok a δ' => rw [q] at P; exact P
    refine rd_bind hp Rr P' fun v H' Fz' F' x δ' s R' A P2 => ?_
    cases q : rdC δ' x with
    | none => simp only [q] at P2; exact P2.elim
    | some d =>
      cases d with
      | int i =>
        simp only [q] at P2
        exact ⟨i, rpc_int (rdC_ok R' A q), h (some i) H' Fz' F' δ' s R' P2⟩
      | _ => simp only [q] at P2; exact P2.elim
def sSl (f : List Sl → Rs AV) (lo hi : Option (List Sl → Rs AV)) : List Sl → Rs AV := fun δ => (sSt f δ).bind fun x δ1 => (sPartO lo δ1).bind fun l δ2 => (sPartO hi δ2).bind fun u δ3 => gSl x l u δ3
def rSlU (K : PySem.W.Frag) : V → Option Int → Option Int → Hp → VK → Prop := fun x lo hi H Q => rSlL K x lo hi H Q ∨ rSlA K x lo hi H Q
theorem sl_U {X : Cx} : SlR X (rSlU X.K) := SlR.or sl_list sl_tupA
theorem gSl_ok {b : Bk} {Fz : Hp} {F : Nat → List Addr} {δ : List Sl} {σ : L2.St} {H : Hp} {Q : VK} {v : V} {x : AV} {lo hi : Option Int} (R : Rl K b Fz F δ σ H) (A : AvS K Fz σ v x) (P : Post K mg W b Fz σ Q (gSl x lo hi δ)) : rSlU K v lo hi H Q := by
  unfold gSl at P
  cases q : rdC δ x with
  | none => simp only [q] at P; exact P.elim
  | some d =>
    have h1 := rdC_ok R A q
    cases d with
    | list ds =>
      simp only [q] at P
      obtain ⟨a, vs, e1, s1, r1⟩ := h1.list R.le
      exact .inl ⟨a, vs, e1, s1.sq, post_newL R (rpl_cut r1 lo hi) P⟩
    | tuple ds =>
      simp only [q] at P
      obtain ⟨a, vs, e1, s1, r1⟩ := h1.tup R.le
      refine .inr ⟨a, vs, e1, s1, fun w => ?_, fun _ => post_newT R (rpl_cut r1 lo hi) P⟩
      have e2 : cutD ds lo hi = ds := by
        have w' := w
        rw [r1.len] at w'
        unfold cutD
        rw [w'.1, w'.2]
        simp
      rw [e2] at P
      rcases h1 with h | ⟨_, _, _, _, e3, _⟩
      · rw [← e1]
        exact P v H Fz F (Same.refl _) R h
      · cases e3
    | _ => simp only [q] at P; exact P.elim
end
theorem se_sl {X : Cx} {W : WX} {pin : List Nat} {fa : List Sl → Rs AV} {a : Expr} {lo hi : Option Expr} {fl fh : Option (List Sl → Rs AV)} {p2 pos : Pos} (ha : SE X W pin a fa) (hl : SPO X W pin lo fl) (hh : SPO X W pin hi fh) :
    SE X W pin (.Subscript a (.Slice lo hi none p2) pos) (sSl fa fl fh) := pe_mono (pe_slice sl_U (se_st ha) hl.po hh.po) fun σ H Q ⟨b, Fz, F, δ, hp, R, P⟩ => by
  refine rd_bind hp R P fun v H1 Fz1 F1 x δ1 s1 R1 A1 P1 => ?_
  refine rdP_bind hp R1 P1 fun l H2 Fz2 F2 δ2 s2 R2 P2 => ?_
  refine rdP_bind hp R2 P2 fun u H3 Fz3 F3 δ3 s3 R3 P3 => ?_
  exact gSl_ok R3 (A1.le (s2.trans s3)) P3
section
variable (K : PySem.W.Frag) (mg : Str → Option Value) (W : WX)
def PostL (b : Bk) (Fz : Hp) (σ : L2.St) (Q : List V → Hp → Prop) : Rs (List PyData) → Prop
  | .ok ds δ => ∀ vs H' Fz' F', Same Fz Fz' → Rl K b Fz' F' δ σ H' → RpL K Fz' vs ds → Q vs H'
  | .er x δ => PostX K mg W b Fz σ x δ
  | .bad => False
def rdL (pin : List Nat) (f : List Sl → Rs (List PyData)) : TA := fun σ H Q => ∃ b Fz F δ, b.pin = pin ∧ Rl K b Fz F δ σ H ∧ PostL K mg W b Fz σ Q (f δ)
end
abbrev SA (X : Cx) (W : WX) (pin : List Nat) (es : List Expr) (f : List Sl → Rs (List PyData)) : Prop := PA X es (rdL X.K X.mg W pin f)
theorem pa_mono {X : Cx} {es : List Expr} {t t' : TA} (h : PA X es t) (i : ∀ σ H Q, t' σ H Q → t σ H Q) : PA X es t' := ⟨fun pos pins s σ H Q I q => h.run pos pins s σ H Q I (i σ H Q q)⟩
/-- a value taken -/
def Rs.val {α : Type} (r : Rs AV) (k : PyData → List Sl → Rs α) : Rs α := r.bind fun a δ => match a with
  | .val d => k d δ
  | _ => .bad
def lNil : List Sl → Rs (List PyData) := fun δ => .ok [] δ
def lCons (f : List Sl → Rs AV) (g : List Sl → Rs (List PyData)) : List Sl → Rs (List PyData) := fun δ => (sTk f δ).val fun d δ1 => (g δ1).bind fun ds δ2 => .ok (d :: ds) δ2
def seqD : PyData → Option (List PyData)
  | .list ds => some ds
  | .tuple ds => some ds
  | _ => none
section
variable {X : Cx} {W : WX} {pin : List Nat} {f : List Sl → Rs AV} {g : List Sl → Rs (List PyData)} {e : Expr} {es : List Expr}
theorem PostL.le {K : PySem.W.Frag} {mg : Str → Option Value} {b : Bk} {Fz Fz1 : Hp} {σ : L2.St} {Q : List V → Hp → Prop} {r : Rs (List PyData)} (s : Same Fz Fz1) (p : PostL K mg W b Fz σ Q r) : PostL K mg W b Fz1 σ Q r := by
  cases r with
  | ok a δ => exact fun v H' Fz' F' s' R e => p v H' Fz' F' (s.trans s') R e
  | er x δ => exact PostX.le s p
  | bad => exact p
/-- behind a taken value -/
theorem rd_valL {K : PySem.W.Frag} {mg : Str → Option Value} {σ : L2.St} {H : Hp} {b : Bk} {Fz : Hp} {F : Nat → List Addr} {δ : List Sl} {k : PyData → List Sl → Rs (List PyData)} {Q : List V → Hp → Prop} {R : VK} (hp : b.pin = pin) (Rr : Rl K b Fz F δ σ H) (P : PostL K mg W b Fz σ Q ((sTk f δ).val k))
    (h : ∀ v H' Fz' F' d δ', Same Fz Fz' → Rl K b Fz' F' δ' σ H' → Rp K Fz' v d → PostL K mg W b Fz' σ Q (k d δ') → R v H') : rdE K mg W pin (sTk f) σ H R := by
  refine ⟨b, Fz, F, δ, hp, Rr, ?_⟩
  cases q : sTk f δ with
  | bad => rw [q] at P; exact P
  | er x δ' => rw [q] at P; exact P
  | ok a δ' =>
    rw [q] at P
    intro v H' Fz' F' s R' A
    cases a with
    | tmp t => exact False.elim P
    | ref i => exact False.elim P
    | val d => exact h v H' Fz' F' d δ' s R' A (PostL.le s P)
/-- behind the values -/
theorem rdL_bindL {K : PySem.W.Frag} {mg : Str → Option Value} {σ : L2.St} {H : Hp} {b : Bk} {Fz : Hp} {F : Nat → List Addr} {δ : List Sl} {k : List PyData → List Sl → Rs (List PyData)} {Q R : List V → Hp → Prop} (hp : b.pin = pin) (Rr : Rl K b Fz F δ σ H) (P : PostL K mg W b Fz σ Q ((g δ).bind k))
    (h : ∀ vs H' Fz' F' ds δ', Same Fz Fz' → Rl K b Fz' F' δ' σ H' → RpL K Fz' vs ds → PostL K mg W b Fz' σ Q (k ds δ') → R vs H') : rdL K mg W pin g σ H R := by
  refine ⟨b, Fz, F, δ, hp, Rr, ?_⟩
  cases q : g δ with
  | bad => rw [q] at P; exact P
  | er x δ' => rw [q] at P; exact P
  | ok a δ' =>
    rw [q] at P
    exact fun v H' Fz' F' s R' A => h v H' Fz' F' a δ' s R' A (PostL.le s P)
theorem rdL_bind {K : PySem.W.Frag} {mg : Str → Option Value} {σ : L2.St} {H : Hp} {b : Bk} {Fz : Hp} {F : Nat → List Addr} {δ : List Sl} {k : List PyData → List Sl → Rs AV} {Q : VK} {R : List V → Hp → Prop} (hp : b.pin = pin) (Rr : Rl K b Fz F δ σ H) (P : Post K mg W b Fz σ Q ((g δ).bind k))
    (h : ∀ vs H' Fz' F' ds δ', Same Fz Fz' → Rl K b Fz' F' δ' σ H' → RpL K Fz' vs ds → Post K mg W b Fz' σ Q (k ds δ') → R vs H') : rdL K mg W pin g σ H R := by
  refine ⟨b, Fz, F, δ, hp, Rr, ?_⟩
  cases q : g δ with
  | bad => rw [q] at P; exact P
  | er x δ' => rw [q] at P; exact P
  | ok a δ' =>
    rw [q] at P
    exact fun v H' Fz' F' s R' A => h v H' Fz' F' a δ' s R' A (Post.le s P)
theorem sa_nil : SA X W pin [] lNil := pa_mono pa_nil fun σ H Q ⟨b, Fz, F, δ, hp, R, P⟩ => P [] H Fz F (Same.refl _) R .nil
theorem sa_cons (h : SE X W pin e f) (h2 : SA X W pin es g) (hs : starEach (e :: es) X.env = (false, eval e X.env) :: starEach es X.env := by rfl) : SA X W pin (e :: es) (lCons f g) := pa_mono (pa_cons (se_tk h) h2 hs) fun σ H Q ⟨b, Fz, F, δ, hp, R, P⟩ => by
  refine rd_valL hp R P fun v H1 Fz1 F1 d δ1 s1 R1 A1 P1 => ?_
  refine rdL_bindL hp R1 P1 fun vs H2 Fz2 F2 ds δ2 s2 R2 A2 P2 => ?_
  exact P2 (v :: vs) H2 Fz2 F2 (Same.refl _) R2 (.cons (A1.mono s2) A2)
def sLst (g : List Sl → Rs (List PyData)) : List Sl → Rs AV := fun δ => (g δ).bind fun ds δ' => if ds.length ≤ cap then .ok (.tmp (.ol (ds.map .fz))) δ' else .bad
def sTup (g : List Sl → Rs (List PyData)) : List Sl → Rs AV := fun δ => (g δ).bind fun ds δ' => if ds.length ≤ cap then .ok (.val (.tuple ds)) δ' else .bad
theorem se_lst {pos : Pos} (h : SA X W pin es g) : SE X W pin (.List es pos) (sLst g) := pe_mono (pe_lst h) fun σ H Q ⟨b, Fz, F, δ, hp, R, P⟩ => by
  refine rdL_bind hp R P fun vs H2 Fz2 F2 ds δ2 s2 R2 A2 P2 => ?_
  by_cases c : ds.length ≤ cap
  · rw [if_pos c] at P2
    exact ⟨by rw [A2.len]; exact le_line c, post_newL R2 A2 P2⟩
  · rw [if_neg c] at P2
    exact P2.elim
theorem se_tup {x1 : Nat} {pos : Pos} (h : SA X W pin es g) : SE X W pin (.Tuple es x1 pos) (sTup g) := pe_mono (pe_tup h) fun σ H Q ⟨b, Fz, F, δ, hp, R, P⟩ => by
  refine rdL_bind hp R P fun vs H2 Fz2 F2 ds δ2 s2 R2 A2 P2 => ?_
  by_cases c : ds.length ≤ cap
  · rw [if_pos c] at P2
    exact ⟨by rw [A2.len]; exact le_line c, post_newT R2 A2 P2⟩
  · rw [if_neg c] at P2
    exact P2.elim
end
section
variable (K : PySem.W.Frag) (mg : Str → Option Value) (W : WX) (pin : List Nat)
def C1 (r : List V → Hp → VK → Prop) (g : AV → List Sl → Rs AV) : Prop := ∀ b Fz F δ σ H v x Q, b.pin = pin → Rl K b Fz F δ σ H → AvS K Fz σ v x → Post K mg W b Fz σ Q (g x δ) → r [v] H Q
def C2 (r : List V → Hp → VK → Prop) (g : AV → AV → List Sl → Rs AV) : Prop := ∀ b Fz F δ σ H v w x y Q, b.pin = pin → Rl K b Fz F δ σ H → AvS K Fz σ v x → AvS K Fz σ w y → Post K mg W b Fz σ Q (g x y δ) → r [v, w] H Q
end
section
variable {X : Cx} {W : WX} {pin : List Nat} {fa fb : List Sl → Rs AV} {a c : Expr} {x : Str} {p pos : Pos} {id T : String} {r : List V → Hp → VK → Prop} {g : AV → List Sl → Rs AV} {g2 : AV → AV → List Sl → Rs AV}
theorem se_b1 (hc : CallR X (.builtin id) r) (hv : C1 X.K X.mg W pin r g) (hg : Gl X x) (hm : X.mg x = none) (hb : bootBuiltins x = some (.builtin id)) (ha : SE X W pin a fa) (hn : x ≠ "__name__" := by decide) (hdb : (x == ("__debug__" : Str)) = false := by decide)
    (he : starEach [a] X.env = (false, eval a X.env) :: starEach [] X.env := by rfl) : SE X W pin (.Call (.Name x p) [a] [] pos) (s1 g fa) := pe_mono (pe_callB hc hg hm hb (pa_cons (se_st ha) pa_nil he) hn hdb he rfl) fun σ H Q ⟨b, Fz, F, δ, hp, R, P⟩ => by
  refine rd_bind hp R P fun v H1 Fz1 F1 x δ1 s1 R1 A1 P1 => ?_
  exact hv b Fz1 F1 δ1 σ H1 v x Q hp R1 A1 P1
theorem se_t1 (hc : CallR X (.type T) r) (hv : C1 X.K X.mg W pin r g) (hg : Gl X x) (hm : X.mg x = none) (hb : bootBuiltins x = some (.type T)) (ha : SE X W pin a fa) (hn : x ≠ "__name__" := by decide) (hdb : (x == ("__debug__" : Str)) = false := by decide)
    (he : starEach [a] X.env = (false, eval a X.env) :: starEach [] X.env := by rfl) : SE X W pin (.Call (.Name x p) [a] [] pos) (s1 g fa) := pe_mono (pe_callTy hc hg hm hb (pa_cons (se_st ha) pa_nil he) hn hdb he rfl) fun σ H Q ⟨b, Fz, F, δ, hp, R, P⟩ => by
  refine rd_bind hp R P fun v H1 Fz1 F1 x δ1 s1 R1 A1 P1 => ?_
  exact hv b Fz1 F1 δ1 σ H1 v x Q hp R1 A1 P1
theorem se_b2 (hc : CallR X (.builtin id) r) (hv : C2 X.K X.mg W pin r g2) (hg : Gl X x) (hm : X.mg x = none) (hb : bootBuiltins x = some (.builtin id)) (ha : SE X W pin a fa) (hcc : SE X W pin c fb) (hn : x ≠ "__name__" := by decide) (hdb : (x == ("__debug__" : Str)) = false := by decide)
    (he : starEach [a, c] X.env = (false, eval a X.env) :: starEach [c] X.env := by rfl) (he2 : starEach [c] X.env = (false, eval c X.env) :: starEach [] X.env := by rfl) (hpl : (backTo pos (starEach [c] X.env)).any (·.1) = false := by rfl) : SE X W pin (.Call (.Name x p) [a, c] [] pos) (s2 g2 fa fb) := pe_mono (pe_callB hc hg hm hb (pa_cons (se_st ha) (pa_cons (se_st hcc) pa_nil he2) he) hn hdb he hpl) fun σ H Q ⟨b, Fz, F, δ, hp, R, P⟩ => by
  refine rd_bind hp R P fun v H1 Fz1 F1 x δ1 s1 R1 A1 P1 => ?_
  refine rd_bind hp R1 P1 fun w H2 Fz2 F2 y δ2 s2 R2 A2 P2 => ?_
  exact hv b Fz2 F2 δ2 σ H2 v w x y Q hp R2 (A1.le s2) A2 P2
end
/-- a look at a tree that gives a number, a truth value, a text -/
def gRd (k : PyData → Option PyData) (x : AV) (δ : List Sl) : Rs AV := match (rdA δ x).bind k with
  | some d => if flatD d = true then .ok (.val d) δ else .bad
  | none => .bad
def dV : PyData → V
  | .none => .non
  | .bool b => .bl b
  | .int i => .int i
  | .str s => .str s
  | _ => .non
theorem rp_flat {K : PySem.W.Frag} {H : Hp} {d : PyData} (h : flatD d = true) : Rp K H (dV d) d := by
  cases d with
  | none => exact .non
  | bool b => exact .bl b
  | int i => exact .int i
  | str s => exact .str s
  | _ => cases h
theorem c1_rd {K : PySem.W.Frag} {mg : Str → Option Value} {W : WX} {pin : List Nat} {k : PyData → Option PyData} {r : List V → Hp → VK → Prop} (h : ∀ v d e H (Q : VK), Rp K H v d → k d = some e → flatD e = true → Q (dV e) H → r [v] H Q) : C1 K mg W pin r (gRd k) := by
  intro b Fz F δ σ H v x Q hp R A P
  unfold gRd at P
  cases q : rdA δ x with
  | none => simp only [q, Option.bind_none] at P; exact P.elim
  | some d =>
    cases q2 : k d with
    | none => simp only [q, Option.bind_some, q2] at P; exact P.elim
    | some e =>
      simp only [q, Option.bind_some, q2] at P
      by_cases c : flatD e = true
      · rw [if_pos c] at P
        exact h v d e H Q (rdA_ok R A q) q2 c (P _ H Fz F (Same.refl _) R (rp_flat c))
      · rw [if_neg c] at P
        exact P.elim
def lenD : PyData → Option PyData
  | .list ds => some (.int ds.length)
  | .tuple ds => some (.int ds.length)
  | .str z => if z.length ≤ cap then some (.int z.length) else none
  | .dict ds => some (.int ds.length)
  | _ => none
theorem RpK.len {K : PySem.W.Frag} {H : Hp} : ∀ {vs : List (Key × V)} {ds : List (PyData × PyData)}, RpK K H vs ds → vs.length = ds.length
  | _, _, .nil => rfl
  | _, _, .cons _ t => by simp [RpK.len t]
theorem RpT.len {K : PySem.W.Frag} {H : Hp} : ∀ {vs : List (List Key × V)} {ds : List (PyData × PyData)}, RpT K H vs ds → vs.length = ds.length
  | _, _, .nil => rfl
  | _, _, .cons _ t => by simp [RpT.len t]
def rLenU (K : PySem.W.Frag) : List V → Hp → VK → Prop := fun xs H Q => ((∃ x n, xs = [x] ∧ LenV K x H n ∧ Q (.int n) H) ∨ ∃ a kvs, xs = [V.ref a] ∧ H a = some (.dK kvs) ∧ Q (.int kvs.length) H) ∨ ∃ a kvs, xs = [V.ref a] ∧ H a = some (.dT kvs) ∧ Q (.int kvs.length) H
theorem call_lenU {X : Cx} : CallR X (.builtin "len") (rLenU X.K) := CallR.or (CallR.or call_len call_lenD) call_len_dT
theorem c1_len {K : PySem.W.Frag} {mg : Str → Option Value} {W : WX} {pin : List Nat} : C1 K mg W pin (rLenU K) (gRd lenD) := c1_rd fun v d e H Q r k f q => by
  cases r with
  | lst h1 h2 =>
    cases k
    exact .inl (.inl ⟨_, _, rfl, .inl ⟨_, h1.sq, rfl⟩, by rw [h2.len]; exact q⟩)
  | tup h1 h2 =>
    cases k
    exact .inl (.inl ⟨_, _, rfl, .inr ⟨_, SqT.of h1, rfl⟩, by rw [h2.len]; exact q⟩)
  | dK h1 h2 =>
    cases k
    exact .inl (.inr ⟨_, _, rfl, h1, by rw [h2.len]; exact q⟩)
  | dT h1 h2 =>
    cases k
    exact .inr ⟨_, _, rfl, h1, by rw [h2.len]; exact q⟩
  | str z =>
    simp only [lenD] at k
    by_cases c : z.length ≤ cap
    · rw [if_pos c] at k
      cases k
      exact .inl (.inl ⟨_, _, rfl, ⟨le_line c, rfl⟩, q⟩)
    · rw [if_neg c] at k
      cases k
  | _ => cases k
def absD : PyData → Option PyData
  | .int i => some (.int (if i < 0 then -i else i))
  | _ => none
theorem c1_abs {K : PySem.W.Frag} {mg : Str → Option Value} {W : WX} {pin : List Nat} : C1 K mg W pin (fun xs H Q => ∃ i, xs = [.int i] ∧ Q (.int (if i < 0 then -i else i)) H) (gRd absD) := c1_rd fun v d e H Q r k f q => by
  cases r with
  | int i =>
    cases k
    exact ⟨i, rfl, q⟩
  | _ => cases k
def intD : PyData → Option PyData
  | .int i => some (.int i)
  | .bool k => some (.int (if k then 1 else 0))
  | _ => none
theorem c1_int {K : PySem.W.Frag} {mg : Str → Option Value} {W : WX} {pin : List Nat} : C1 K mg W pin (fun xs H Q => (∃ i, xs = [.int i] ∧ Q (.int i) H) ∨ ∃ k, xs = [.bl k] ∧ Q (.int (if k then 1 else 0)) H) (gRd intD) := c1_rd fun v d e H Q r k f q => by
  cases r with
  | int i =>
    cases k
    exact .inl ⟨i, rfl, q⟩
  | bl b =>
    cases k
    exact .inr ⟨b, rfl, q⟩
  | _ => cases k
def intsOf : List PyData → Option (List Int)
  | [] => some []
  | .int i :: r => (intsOf r).map (i :: ·)
  | _ :: _ => none
theorem intsOf_eq : ∀ {ds : List PyData} {ns : List Int}, intsOf ds = some ns → ds = ns.map .int
  | [], _, h => by cases h; rfl
  | .int i :: r, ns, h => by
    rw [intsOf] at h
    cases q : intsOf r with
    | none => rw [q] at h; cases h
    | some ms =>
      rw [q] at h
      cases h
      rw [intsOf_eq q]
      rfl
  | .none :: r, _, h => by cases h
  | .bool _ :: r, _, h => by cases h
  | .str _ :: r, _, h => by cases h
  | .list _ :: r, _, h => by cases h
  | .tuple _ :: r, _, h => by cases h
  | .dict _ :: r, _, h => by cases h
def boolsOf : List PyData → Option (List Bool)
  | [] => some []
  | .bool i :: r => (boolsOf r).map (i :: ·)
  | _ :: _ => none
theorem boolsOf_eq : ∀ {ds : List PyData} {ns : List Bool}, boolsOf ds = some ns → ds = ns.map .bool
  | [], _, h => by cases h; rfl
  | .bool i :: r, ns, h => by
    rw [boolsOf] at h
    cases q : boolsOf r with
    | none => rw [q] at h; cases h
    | some ms =>
      rw [q] at h
      cases h
      rw [boolsOf_eq q]
      rfl
  | .none :: r, _, h => by cases h
  | .int _ :: r, _, h => by cases h
  | .str _ :: r, _, h => by cases h
  | .list _ :: r, _, h => by cases h
  | .tuple _ :: r, _, h => by cases h
  | .dict _ :: r, _, h => by cases h
theorem boolsOf_map : ∀ ns : List Bool, boolsOf (ns.map .bool) = some ns
  | [] => rfl
  | n :: ns => by
    rw [List.map_cons, boolsOf, boolsOf_map ns]
    rfl
theorem RpL.bools {K : PySem.W.Frag} {H : Hp} : ∀ {vs : List V} {ns : List Bool}, RpL K H vs (ns.map .bool) → vs = ns.map V.bl
  | _, [], .nil => rfl
  | _, n :: ns, .cons r t => by
    cases r
    rw [RpL.bools t]
    rfl
def overB (k : List Bool → Option PyData) : PyData → Option PyData
  | .list ds => (boolsOf ds).bind k
  | _ => none
theorem c1_overB {K : PySem.W.Frag} {mg : Str → Option Value} {W : WX} {pin : List Nat} {k : List Bool → Option PyData} {r : List V → Hp → VK → Prop} (h : ∀ a ns e H (Q : VK), SqL K H a (ns.map V.bl) → k ns = some e → Q (dV e) H → r [.ref a] H Q) : C1 K mg W pin r (gRd (overB k)) := c1_rd fun v d e H Q rp ke f q => by
  cases rp with
  | lst h1 h2 =>
    rename_i ds
    simp only [overB] at ke
    cases q1 : boolsOf ds with
    | none => rw [q1] at ke; cases ke
    | some ns =>
      rw [q1] at ke
      have e1 := boolsOf_eq q1
      subst e1
      have e2 := h2.bools
      subst e2
      exact h _ ns e H Q h1.sq ke q
  | _ => cases ke
section
variable {K : PySem.W.Frag} {mg : Str → Option Value} {W : WX} {pin : List Nat}
theorem c1_all : C1 K mg W pin (rAll K) (gRd (overB fun ns => some (.bool (ns.all id)))) := c1_overB fun a ns e H Q s k q => by
  cases k
  exact ⟨a, ns, rfl, s, q⟩
abbrev gMax2 := gI yes2 fun i j => if j > i then j else i
abbrev gMin2 := gI yes2 fun i j => if j < i then j else i
theorem c2_i {g : Int → Int → Int} : C2 K mg W pin (fun xs H Q => ∃ i j, xs = [.int i, .int j] ∧ Q (.int (g i j)) H) (gI yes2 g) := by
  intro b Fz F δ σ H v w x y Q hp R A B P
  obtain ⟨i, j, h1, h2, _, q⟩ := v2_i (K := K) (mg := mg) (W := W) (C' := fun _ _ => True) (fun _ _ _ => trivial) b Fz F δ σ H v w x y Q hp R A B P
  exact ⟨i, j, by rw [h1, h2], q⟩
def sortI (ns : List Int) : List Int := ns.mergeSort fun a b => decide (a ≤ b)
theorem sortI_perm (ns : List Int) : (sortI ns).Perm ns := List.mergeSort_perm _ _
theorem sortI_up (ns : List Int) : (sortI ns).Pairwise (· ≤ ·) := by
  have h := List.pairwise_mergeSort (le := fun a b : Int => decide (a ≤ b)) (fun a b c h1 h2 => by simp at *; omega) (fun a b => by simp; omega) ns
  exact h.imp fun {a b} q => of_decide_eq_true q
theorem up_unique : ∀ {xs ys : List Int}, xs.Perm ys → xs.Pairwise (· ≤ ·) → ys.Pairwise (· ≤ ·) → xs = ys
  | [], ys, p, _, _ => by rw [List.Perm.eq_nil (p.symm)]
  | x :: xs, [], p, _, _ => by cases p.eq_nil
  | x :: xs, y :: ys, p, h1, h2 => by
    rw [List.pairwise_cons] at h1 h2
    have e : x = y := by
      have a1 : x ∈ y :: ys := p.mem_iff.mp List.mem_cons_self
      have a2 : y ∈ x :: xs := p.mem_iff.mpr List.mem_cons_self
      rcases List.mem_cons.mp a1 with z | z
      · exact z
      · rcases List.mem_cons.mp a2 with w | w
        · exact w.symm
        · have := h1.1 y w
          have := h2.1 x z
          omega
    subst e
    rw [up_unique (List.Perm.cons_inv p) h1.2 h2.2]
theorem sortI_eq {ns ms : List Int} (p : ms.Perm ns) (h : ms.Pairwise (· ≤ ·)) : ms = sortI ns := up_unique (p.trans (sortI_perm ns).symm) h (sortI_up ns)
end
def tyD : PyData → String
  | .none => "NoneType"
  | .bool _ => "bool"
  | .int _ => "int"
  | .str _ => "str"
  | .list _ => "list"
  | .tuple _ => "tuple"
  | .dict _ => "dict"
def isiB (a b : String) : Bool := a == b || (a == "bool" && b == "int")
def gIsi (T : String) : AV → List Sl → Rs AV := gRd fun d => some (.bool (isiB (tyD d) T))
theorem tyx_of {K : PySem.W.Frag} {H : Hp} {v : V} {d : PyData} (h : Rp K H v d) : TyX K H v (.type (tyD d)) := by
  cases h with
  | non => exact .base .non
  | bl b => exact .base (.bl b)
  | int i => exact .base (.int i)
  | str x => exact .base (.str x)
  | lst h1 h2 =>
    rcases h1 with (h | ⟨o, h⟩) | ⟨its, n, h, _⟩
    · exact .base (.lst h)
    · exact .base (.frz h)
    · exact .kList h rfl
  | tup h1 h2 => exact .base (.tup h1)
  | dK h1 h2 => exact .base (.dK h1)
  | dT h1 h2 => exact .base (.dT h1)
def kitAll (T : String) : Bool := ["NoneType", "bool", "int", "str", "list", "tuple", "dict"].all fun t => decide (kitB t T = some (isiB t T))
theorem se_isi {X : Cx} {W : WX} {pin : List Nat} {fa : List Sl → Rs AV} {a : Expr} {y : Str} {T : String} {p p2 pos : Pos} (hk : kitAll T = true) (hg : Gl X "isinstance") (hm : X.mg "isinstance" = none) (hg2 : Gl X y) (hm2 : X.mg y = none) (hv2 : bootBuiltins y = some (.type T)) (ha : SE X W pin a fa)
    (hn : y ≠ "__name__" := by decide) (hdb : (y == ("__debug__" : Str)) = false := by decide) (he : starEach [a, .Name y p2] X.env = (false, eval a X.env) :: starEach [.Name y p2] X.env := by rfl) : SE X W pin (.Call (.Name "isinstance" p) [a, .Name y p2] [] pos) (s1 (gIsi T) fa) :=
  pe_mono (pe_callB call_isi hg hm PyProof.Rows.boot_isinstance (pa_cons (se_st ha) (pa_cons (pe_bltn (v := .ty T) hg2 hm2 hv2 rfl hn hdb) pa_nil) he) (by decide) (by decide) he) fun σ H Q ⟨b, Fz, F, δ, hp, R, P⟩ => by
    refine rd_bind hp R P fun v H1 Fz1 F1 x δ1 s1 R1 A1 P1 => ?_
    unfold gIsi gRd at P1
    cases q : rdA δ1 x with
    | none => simp only [q, Option.bind_none] at P1; exact P1.elim
    | some d =>
      simp only [q, Option.bind_some, flatD, if_true] at P1
      have r := rdA_ok R1 A1 q
      refine ⟨v, .ty T, .type (tyD d), .type T, isiB (tyD d) T, rfl, .ty T, tyx_of r, kit_ty ?_, P1 _ H1 Fz1 F1 (Same.refl _) R1 (.bl _)⟩
      unfold kitAll at hk
      rw [List.all_eq_true] at hk
      have hin : tyD d ∈ ["NoneType", "bool", "int", "str", "list", "tuple", "dict"] := by cases d <;> simp [tyD]
      exact of_decide_eq_true (hk _ hin)
end Hb
namespace Hb
open PySem PySem.Spec PyProof.Rows L2
theorem Rl.mut {K : PySem.W.Frag} {b : Bk} {Fz : Hp} {F : Nat → List Addr} {δ : List Sl} {σ : L2.St} {H : Hp} (R : Rl K b Fz F δ σ H) {i : Nat} {xs es : List El} {l : Addr} {vs : List V} {g : List Addr}
    (hs : δ[i]? = some (.ol xs)) (hv : σ[i]? = some (some (.ref l))) (hE : ElL K Fz H g vs es) (hg : (l :: g).Nodup) (sub : ∀ a ∈ g, a ∈ F i) :
    Rl K b Fz (fun k => if k = i then l :: g else F k) (upS i (.ol es) δ) σ (upd H l (.lst vs)) := by
  obtain ⟨a, ws, g0, e1, e2, e3, e4⟩ := R.slot i _ hs
  rw [hv] at e1
  cases e1
  have hl : l ∈ F i := by rw [e2]; exact List.mem_cons_self
  have ne : ∀ c, Fz c ≠ none → c ≠ l := fun c hc z => hc (by rw [z]; exact R.offF i l hl)
  have neB : ∀ c, b.B c ≠ none → c ≠ l := fun c hc z => hc (by rw [z]; exact R.offB i l hl)
  have all : ∀ a ∈ l :: g, a ∈ F i := fun a ha => (List.mem_cons.mp ha).elim (fun z => by rw [z]; exact hl) (sub a)
  refine R.put (Same.refl _) (fun c o e => ?_) (fun c o e => ?_) rfl (fun _ _ => rfl) (.inl rfl) (fun _ => ?_) (fun x j z => nomatch z) hg (fun a ha => R.offF i a (all a ha)) (fun a ha => R.offB i a (all a ha)) (fun a ha k hk hin => hk (R.dj k i a hin (all a ha))) (fun a ha => ?_) (fun k hk a ha => ?_) (fun k hk a ha => R.offF k a ha) (fun _ _ => rfl) (fun a ha => ?_) (R.tb.upd (.inr (R.noT i l hl)))
  · rw [upd_ne (ne c (by rw [e]; simp))]
    exact R.le c o e
  · rw [upd_ne (neB c (by rw [e]; simp))]
    exact R.base c o e
  · rw [hv]
    refine ⟨l, vs, g, rfl, rfl, upd_same, hE.keeps (Same.refl _) fun c hc => upd_ne fun z => ?_⟩
    subst z
    exact (List.nodup_cons.mp hg).1 hc
  · by_cases z : a = l
    · rw [z, upd_same]; simp
    · rw [upd_ne z]
      exact R.on i a (all a ha)
  · exact upd_ne fun z => hk (R.dj k i a ha (by rw [z]; exact hl))
  · by_cases z : a = l
    · rw [z, upd_same]; exact .lst
    · rw [upd_ne z]
      exact R.noT i a (all a ha)
theorem Rl.own {K : PySem.W.Frag} {b : Bk} {Fz : Hp} {F : Nat → List Addr} {δ : List Sl} {σ : L2.St} {H : Hp} (R : Rl K b Fz F δ σ H) {i : Nat} {xs : List El} {v : V} (hs : δ[i]? = some (.ol xs)) (hv : σ[i]? = some (some v)) :
    ∃ l vs g, v = .ref l ∧ H l = some (.lst vs) ∧ ElL K Fz H g vs xs ∧ F i = l :: g ∧ (l :: g).Nodup := by
  obtain ⟨a, ws, g0, e1, e2, e3, e4⟩ := R.slot i _ hs
  rw [hv] at e1
  cases e1
  exact ⟨a, ws, g0, rfl, e3, e4, e2, by rw [← e2]; exact R.nd i⟩
theorem ElL.app {K : PySem.W.Frag} {Fz H : Hp} : ∀ {f g : List Addr} {vs ws : List V} {es ds : List El}, ElL K Fz H f vs es → ElL K Fz H g ws ds → ElL K Fz H (f ++ g) (vs ++ ws) (es ++ ds)
  | _, _, _, _, _, _, .nil, s => s
  | _, _, _, _, _, _, .cons h t, s => by
    rw [List.append_assoc]
    exact .cons h (t.app s)
def appI (i : Nat) (d : PyData) (δ : List Sl) : Rs AV := match δ[i]? with
  | some (.ol xs) => if xs.length ≤ cap then .ok (.val .none) (upS i (.ol (xs ++ [.fz d])) δ) else .bad
  | _ => .bad
def appA (x : AV) (d : PyData) (δ : List Sl) : Rs AV := match x with
  | .ref i => appI i d δ
  | _ => .bad
def isLst (δ : List Sl) (x : AV) : Bool := match rdA δ x with
  | some (.list _) => true
  | _ => false
def sApp (fo fa : List Sl → Rs AV) : List Sl → Rs AV := fun δ => (sSt fo δ).bind fun x δ1 => if isLst δ1 x = true then (sTk fa δ1).val fun d δ2 => appA x d δ2
  else .bad
theorem isLst_ty {K : PySem.W.Frag} {b : Bk} {Fz : Hp} {F : Nat → List Addr} {δ : List Sl} {σ : L2.St} {H : Hp} {v : V} {x : AV} (R : Rl K b Fz F δ σ H) (A : AvS K Fz σ v x) (h : isLst δ x = true) : tyV K "list" v H := by
  unfold isLst at h
  cases q : rdA δ x with
  | none => rw [q] at h; cases h
  | some d =>
    rw [q] at h
    cases d with
    | list ds =>
      have r := rdA_ok R A q
      cases r with
      | lst h1 h2 => exact .inl ⟨rfl, _, h1.sq⟩
    | _ => cases h
section
variable {K : PySem.W.Frag} {mg : Str → Option Value} {W : WX} {pin : List Nat}
theorem rd_val {f : List Sl → Rs AV} {σ : L2.St} {H : Hp} {b : Bk} {Fz : Hp} {F : Nat → List Addr} {δ : List Sl} {k : PyData → List Sl → Rs AV} {Q : VK} {R : VK} (hp : b.pin = pin) (Rr : Rl K b Fz F δ σ H) (P : Post K mg W b Fz σ Q ((sTk f δ).val k))
    (h : ∀ v H' Fz' F' d δ', Same Fz Fz' → Rl K b Fz' F' δ' σ H' → Rp K Fz' v d → Post K mg W b Fz' σ Q (k d δ') → R v H') : rdE K mg W pin (sTk f) σ H R := by
  refine ⟨b, Fz, F, δ, hp, Rr, ?_⟩
  cases q : sTk f δ with
  | bad => rw [q] at P; exact P
  | er x δ' => rw [q] at P; exact P
  | ok a δ' =>
    rw [q] at P
    intro v H' Fz' F' s R' A
    cases a with
    | tmp t => exact False.elim P
    | ref i => exact False.elim P
    | val d => exact h v H' Fz' F' d δ' s R' A (Post.le s P)
theorem app_ok {b : Bk} {Fz : Hp} {F : Nat → List Addr} {δ : List Sl} {σ : L2.St} {H : Hp} {Q : VK} {v w : V} {x : AV} {d : PyData} (R : Rl K b Fz F δ σ H) (A : AvS K Fz σ v x) (r : Rp K Fz w d) (P : Post K mg W b Fz σ Q (appA x d δ)) : rAppend v [w] H Q := by
  cases x with
  | val e => exact P.elim
  | tmp s => exact P.elim
  | ref i =>
    have hv : σ[i]? = some (some v) := A
    have P : Post K mg W b Fz σ Q (appI i d δ) := P
    unfold appI at P
    cases q : δ[i]? with
    | none => simp only [q] at P; exact P.elim
    | some s =>
      cases s with
      | ol xs =>
        simp only [q] at P
        by_cases c : xs.length ≤ cap
        · rw [if_pos c] at P
          obtain ⟨l, vs, g, e1, e2, e3, e4, e5⟩ := R.own q hv
          subst e1
          have e6 : ElL K Fz H (g ++ ([] ++ [])) (vs ++ [w]) (xs ++ [.fz d]) := e3.app (.cons ⟨rfl, r⟩ .nil)
          rw [List.append_nil, List.append_nil] at e6
          have R' := R.mut q hv e6 e5 (fun a ha => by rw [e4]; exact List.mem_cons_of_mem _ ha)
          exact ⟨l, vs, w, rfl, rfl, e2, by rw [e3.len]; exact lt_line c, P .non _ Fz _ (Same.refl _) R' .non⟩
        · rw [if_neg c] at P
          exact P.elim
      | _ => simp only [q] at P; exact P.elim
end
section
variable {X : Cx} {W : WX} {pin : List Nat} {fo fa : List Sl → Rs AV} {o e : Expr} {apos cpos : Pos}
theorem se_app (ho : SE X W pin o fo) (ha : SE X W pin e fa) (hbase : attributeBase o "append" X.env (eval o X.env) = eval o X.env := by rfl) (hline : (apos.endLine == cpos.line) = true := by rfl)
    (hs : starEach [e] X.env = (false, eval e X.env) :: starEach [] X.env := by rfl) (hfew : ((backTo cpos (starEach [e] X.env)).all (fun x => !x.1) && (backToKw cpos (keywordEach [] X.env)).all (fun x => x.1.isSome)
      && decide ([e].length + ([] : List Keyword).length + (if ([] : List Keyword).isEmpty then 0 else 1) < 30)) = true := by rfl) :
    SE X W pin (.Call (.Attribute o "append" apos) [e] [] cpos) (sApp fo fa) :=
  pe_mono (pe_bm PySem.F.plainAttrs_list PySem.F.slot_list_append PySem.F.type_list_append mt_append (se_st ho) (pa_cons (se_tk ha) pa_nil hs) hbase hfew hline hs rfl) fun σ H Q ⟨b, Fz, F, δ, hp, R, P⟩ => by
    refine rd_bind hp R P fun v H1 Fz1 F1 x δ1 s1 R1 A1 P1 => ?_
    by_cases c : isLst δ1 x = true
    · rw [if_pos c] at P1
      refine ⟨isLst_ty R1 A1 c, ?_⟩
      refine rd_val hp R1 P1 fun w H2 Fz2 F2 d δ2 s2 R2 A2 P2 => ?_
      exact app_ok R2 (A1.le s2) A2 P2
    · rw [if_neg c] at P1
      exact P1.elim
/-- xs.pop(i) -/
def popI (i : Nat) (k : Int) (δ : List Sl) : Rs AV := match δ[i]? with
  | some (.ol xs) => (match allFz xs with
    | some ds => (match ixN ds.length k with
      | some j => (match ds[j]? with
        | some d => if ds.length ≤ cap then .ok (.val d) (upS i (.ol ((ds.eraseIdx j).map .fz)) δ) else .bad
        | none => .bad)
      | none => .bad)
    | none => .bad)
  | _ => .bad
def sPop1 (fo fa : List Sl → Rs AV) : List Sl → Rs AV := fun δ => (sSt fo δ).bind fun x δ1 => if isLst δ1 x = true then (sTk fa δ1).val fun d δ2 => match x, d with
  | .ref i, .int k => popI i k δ2
  | _, _ => .bad
  else .bad
theorem pop_ok {K : PySem.W.Frag} {mg : Str → Option Value} {b : Bk} {Fz : Hp} {F : Nat → List Addr} {δ : List Sl} {σ : L2.St} {H : Hp} {Q : VK} {v : V} {i : Nat} {k : Int} (R : Rl K b Fz F δ σ H) (hv : σ[i]? = some (some v)) (P : Post K mg W b Fz σ Q (popI i k δ)) :
    ∃ l vs j u, v = .ref l ∧ H l = some (.lst vs) ∧ ixN vs.length k = some j ∧ vs[j]? = some u ∧ vs.length ≤ cap ∧ Q u (upd H l (.lst (vs.eraseIdx j))) := by
  unfold popI at P
  cases q : δ[i]? with
  | none => simp only [q] at P; exact P.elim
  | some s =>
    cases s with
    | ol xs =>
      simp only [q] at P
      cases q2 : allFz xs with
      | none => simp only [q2] at P; exact P.elim
      | some ds =>
        simp only [q2] at P
        cases q3 : ixN ds.length k with
        | none => simp only [q3] at P; exact P.elim
        | some j =>
          simp only [q3] at P
          cases q4 : ds[j]? with
          | none => simp only [q4] at P; exact P.elim
          | some d =>
            simp only [q4] at P
            by_cases c : ds.length ≤ cap
            · rw [if_pos c] at P
              obtain ⟨l, vs, g, e1, e2, e3, e4, e5⟩ := R.own q hv
              subst e1
              have rp := e3.allFz q2
              obtain ⟨u, hu, ru⟩ := rp.get q4
              have R' := R.mut (g := []) q hv (ElL.ofFz (rp.eraseIdx j)) (by simp) (fun a ha => nomatch ha)
              exact ⟨l, vs, j, u, rfl, e2, by rw [rp.len]; exact q3, hu, by rw [rp.len]; exact c, P u _ Fz _ (Same.refl _) R' ru⟩
            · rw [if_neg c] at P
              exact P.elim
    | _ => simp only [q] at P; exact P.elim
theorem se_pop1 (ho : SE X W pin o fo) (ha : SE X W pin e fa) (hbase : attributeBase o "pop" X.env (eval o X.env) = eval o X.env := by rfl) (hline : (apos.endLine == cpos.line) = true := by rfl)
    (hs : starEach [e] X.env = (false, eval e X.env) :: starEach [] X.env := by rfl) (hfew : ((backTo cpos (starEach [e] X.env)).all (fun x => !x.1) && (backToKw cpos (keywordEach [] X.env)).all (fun x => x.1.isSome)
      && decide ([e].length + ([] : List Keyword).length + (if ([] : List Keyword).isEmpty then 0 else 1) < 30)) = true := by rfl) :
    SE X W pin (.Call (.Attribute o "pop" apos) [e] [] cpos) (sPop1 fo fa) :=
  pe_mono (pe_bm PySem.F.plainAttrs_list PySem.F.slot_list_pop PySem.F.type_list_pop mt_popAt (se_st ho) (pa_cons (se_tk ha) pa_nil hs) hbase hfew hline hs rfl) fun σ H Q ⟨b, Fz, F, δ, hp, R, P⟩ => by
    refine rd_bind hp R P fun v H1 Fz1 F1 x δ1 s1 R1 A1 P1 => ?_
    by_cases c : isLst δ1 x = true
    · rw [if_pos c] at P1
      refine ⟨isLst_ty R1 A1 c, ?_⟩
      refine rd_val hp R1 P1 fun w H2 Fz2 F2 d δ2 s2 R2 A2 P2 => ?_
      cases x with
      | val e => exact P2.elim
      | tmp s => exact P2.elim
      | ref i =>
        cases d with
        | int k =>
          cases (show Rp X.K Fz2 w (.int k) from A2)
          obtain ⟨l, vs, j, u, e1, e2, e3, e4, e5, e6⟩ := pop_ok R2 (show σ[i]? = some (some v) from A1) P2
          obtain ⟨k1, k2, k3, k4⟩ := ixN_seq e3
          have : vs.length ≤ 1000000 := e5
          exact ⟨l, vs, k, j, u, e1, rfl, e2, by omega, by omega, k1, e4, e6⟩
        | _ => exact P2.elim
    · rw [if_neg c] at P1
      exact P1.elim
end
inductive Ot where
  | nx (δ : List Sl) | rt (s : Sl) (δ : List Sl) | bk (δ : List Sl) | ct (δ : List Sl) | er (x : Exn) (δ : List Sl) | bad
section
variable (K : PySem.W.Frag) (mg : Str → Option Value) (W : WX)
def PostXS (b : Bk) (Fz : Hp) (x : Exn) (δ : List Sl) : Prop := ∀ c dd σ' H' Fz' F', Same Fz Fz' → Rl K b Fz' F' δ σ' H' → ExR K mg Fz' H' x c dd → W c dd σ' H'
def PostS (b : Bk) (Fz : Hp) (D : Ends) : Ot → Prop
  | .nx δ => ∀ σ' H' Fz' F', Same Fz Fz' → Rl K b Fz' F' δ σ' H' → D.nx σ' H'
  | .rt s δ => ∀ v σ' H' Fz' F', Same Fz Fz' → Rl K b Fz' F' δ σ' H' → AvR K b Fz' F' H' σ' v (.tmp s) → D.rt v H'
  | .bk δ => ∀ σ' H' Fz' F', Same Fz Fz' → Rl K b Fz' F' δ σ' H' → D.bk σ' H'
  | .ct δ => ∀ σ' H' Fz' F', Same Fz Fz' → Rl K b Fz' F' δ σ' H' → D.ct σ' H'
  | .er x δ => PostXS K mg W b Fz x δ
  | .bad => False
def rdS (pin : List Nat) (f : List Sl → Ot) : TS := fun D σ H => ∃ b Fz F δ, b.pin = pin ∧ Rl K b Fz F δ σ H ∧ PostS K mg W b Fz D (f δ)
end
abbrev SS (X : Cx) (W : WX) (pin : List Nat) (st : Stmt) (f : List Sl → Ot) : Prop := PS X st (rdS X.K X.mg W pin f)
abbrev SSs (X : Cx) (W : WX) (pin : List Nat) (st : List Stmt) (f : List Sl → Ot) : Prop := PSs X st (rdS X.K X.mg W pin f)
theorem ps_mono {X : Cx} {st : Stmt} {t t' : TS} (h : PS X st t) (i : ∀ D σ H, t' D σ H → t D σ H) : PS X st t' := ⟨fun pins s σ H D I q => h.run pins s σ H D I (i D σ H q)⟩
theorem pss_mono {X : Cx} {st : List Stmt} {t t' : TS} (h : PSs X st t) (i : ∀ D σ H, t' D σ H → t D σ H) : PSs X st t' := ⟨fun pins s σ H D I q => h.run pins s σ H D I (i D σ H q)⟩
def Rs.ot {α : Type} (r : Rs α) (k : α → List Sl → Ot) : Ot := match r with
  | .ok a δ => k a δ
  | .er x δ => .er x δ
  | .bad => .bad
def oNext : List Sl → Ot := fun δ => .nx δ
def oSeq (f g : List Sl → Ot) : List Sl → Ot := fun δ => match f δ with
  | .nx δ' => g δ'
  | r => r
def oIf (t : List Sl → Rs Bool) (f g : List Sl → Ot) : List Sl → Ot := fun δ => (t δ).ot fun k δ' => if k = true then f δ' else g δ'
def oDrop (f : List Sl → Rs AV) : List Sl → Ot := fun δ => (f δ).ot fun _ δ' => .nx δ'
def oRet (f : List Sl → Rs AV) : List Sl → Ot := fun δ => (sMv f δ).ot fun a δ' => match a with
  | .val d => .rt (.fz d) δ'
  | .tmp s => .rt s δ'
  | .ref _ => .bad
section
variable {K : PySem.W.Frag} {mg : Str → Option Value} {W : WX} {pin : List Nat} {b : Bk} {Fz Fz1 : Hp}
theorem PostXS.le {x : Exn} {δ : List Sl} (s : Same Fz Fz1) (p : PostXS K mg W b Fz x δ) : PostXS K mg W b Fz1 x δ := fun c dd σ' H' Fz' F' s' R e => p c dd σ' H' Fz' F' (s.trans s') R e
theorem PostXS.at_ {x : Exn} {δ : List Sl} {σ : L2.St} (p : PostXS K mg W b Fz x δ) : PostX K mg W b Fz σ x δ := fun c dd H' Fz' F' s' R e => p c dd σ H' Fz' F' s' R e
theorem PostS.le {D : Ends} {r : Ot} (s : Same Fz Fz1) (p : PostS K mg W b Fz D r) : PostS K mg W b Fz1 D r := by
  cases r with
  | nx δ => exact fun σ' H' Fz' F' s' R => p σ' H' Fz' F' (s.trans s') R
  | rt t δ => exact fun v σ' H' Fz' F' s' R A => p v σ' H' Fz' F' (s.trans s') R A
  | bk δ => exact fun σ' H' Fz' F' s' R => p σ' H' Fz' F' (s.trans s') R
  | ct δ => exact fun σ' H' Fz' F' s' R => p σ' H' Fz' F' (s.trans s') R
  | er x δ => exact PostXS.le s p
  | bad => exact p
/-- behind an expression -/
theorem rdS_bind {f : List Sl → Rs AV} {σ : L2.St} {H : Hp} {F : Nat → List Addr} {δ : List Sl} {k : AV → List Sl → Ot} {D : Ends} {R : VK} (hp : b.pin = pin) (Rr : Rl K b Fz F δ σ H) (P : PostS K mg W b Fz D ((f δ).ot k))
    (h : ∀ v H' Fz' F' a δ', Same Fz Fz' → Rl K b Fz' F' δ' σ H' → AvR K b Fz' F' H' σ v a → PostS K mg W b Fz' D (k a δ') → R v H') : rdE K mg W pin f σ H R := by
  refine ⟨b, Fz, F, δ, hp, Rr, ?_⟩
  cases q : f δ with
  | bad => rw [q] at P; exact P
  | er x δ' => rw [q] at P; exact PostXS.at_ P
  | ok a δ' =>
    rw [q] at P
    exact fun v H' Fz' F' s R' A => h v H' Fz' F' a δ' s R' A (PostS.le s P)
theorem rdS_bindT {t : List Sl → Rs Bool} {σ : L2.St} {H : Hp} {F : Nat → List Addr} {δ : List Sl} {k : Bool → List Sl → Ot} {D : Ends} {R : Bool → Hp → Prop} (hp : b.pin = pin) (Rr : Rl K b Fz F δ σ H) (P : PostS K mg W b Fz D ((t δ).ot k))
    (h : ∀ c H' Fz' F' δ', Same Fz Fz' → Rl K b Fz' F' δ' σ H' → PostS K mg W b Fz' D (k c δ') → R c H') : rdT K mg W pin t σ H R := by
  refine ⟨b, Fz, F, δ, hp, Rr, ?_⟩
  cases q : t δ with
  | bad => rw [q] at P; exact P
  | er x δ' => rw [q] at P; exact PostXS.at_ P
  | ok a δ' =>
    rw [q] at P
    exact fun H' Fz' F' s R' => h a H' Fz' F' δ' s R' (PostS.le s P)
end
section
variable {X : Cx} {W : WX} {pin : List Nat} {st : Stmt} {rest : List Stmt} {e c : Expr} {pos : Pos} {f : List Sl → Rs AV} {t : List Sl → Rs Bool} {u w : List Sl → Ot}
theorem ss_nil : SSs X W pin [] oNext := pss_mono pss_nil fun D σ H ⟨b, Fz, F, δ, hp, R, P⟩ => P σ H Fz F (Same.refl _) R
theorem seq_ok {K : PySem.W.Frag} {mg : Str → Option Value} : ∀ D σ H, rdS K mg W pin (oSeq u w) D σ H → tSeq (rdS K mg W pin u) (rdS K mg W pin w) D σ H := fun D σ H ⟨b, Fz, F, δ, hp, R, P⟩ => by
  refine ⟨b, Fz, F, δ, hp, R, ?_⟩
  unfold oSeq at P
  cases q : u δ with
  | nx δ' =>
    rw [q] at P
    exact fun σ' H' Fz' F' s R' => ⟨b, Fz', F', δ', hp, R', PostS.le s P⟩
  | rt s δ' => rw [q] at P; exact P
  | bk δ' => rw [q] at P; exact P
  | ct δ' => rw [q] at P; exact P
  | er x δ' => rw [q] at P; exact P
  | bad => rw [q] at P; exact P
theorem ss_cons (h1 : SS X W pin st u) (h2 : SSs X W pin rest w) : SSs X W pin (st :: rest) (oSeq u w) := pss_mono (pss_cons h1 h2) seq_ok
theorem ss_one (h1 : SS X W pin st u) : SSs X W pin [st] u := pss_one h1
theorem ss_never : SS X W pin st (fun _ => .bad) := ps_mono ps_never fun D σ H ⟨b, Fz, F, δ, hp, R, P⟩ => P
theorem ss_expr (h : SE X W pin e f) (hs : swapsWith e none pos.line X.env = pure false := by rfl) : SS X W pin (.Expr e pos) (oDrop f) := ps_mono (ps_expr h hs) fun D σ H ⟨b, Fz, F, δ, hp, R, P⟩ =>
  rdS_bind hp R P fun v H' Fz' F' a δ' s R' A P' => P' σ H' Fz' F' (Same.refl _) R'
theorem ss_ret (h : SE X W pin e f) : SS X W pin (.Return (some e) pos) (oRet f) := ps_mono (ps_ret (se_mv h)) fun D σ H ⟨b, Fz, F, δ, hp, R, P⟩ =>
  rdS_bind hp R P fun v H' Fz' F' a δ' s R' A P' => by
    cases a with
    | val d => exact P' v σ H' Fz' F' (Same.refl _) R' ⟨rfl, [], ⟨rfl, v, rfl, A⟩, List.nodup_nil, fun _ z => nomatch z⟩
    | tmp s => exact P' v σ H' Fz' F' (Same.refl _) R' A
    | ref i => exact P'.elim
theorem ss_if {a d : List Stmt} (hc : ST X W pin c t) (ha : SSs X W pin a u) (hb : SSs X W pin d w) : SS X W pin (.If c a d pos) (oIf t u w) := ps_mono (ps_if hc ha hb) fun D σ H ⟨b, Fz, F, δ, hp, R, P⟩ =>
  rdS_bindT hp R P fun k H' Fz' F' δ' s R' P' => by
    by_cases e : k = true
    · rw [if_pos e] at P' ⊢
      exact ⟨b, Fz', F', δ', hp, R', P'⟩
    · rw [if_neg e] at P' ⊢
      exact ⟨b, Fz', F', δ', hp, R', P'⟩
def oWh (t : List Sl → Rs Bool) (f : List Sl → Ot) : Nat → List Sl → Ot
  | 0, _ => .bad
  | n + 1, δ => (t δ).ot fun k δ1 => if k = true then (match f δ1 with
    | .nx δ2 => oWh t f n δ2
    | .ct δ2 => oWh t f n δ2
    | .bk δ2 => .nx δ2
    | r => r) else .nx δ1
theorem ss_while (n : Nat) {body : List Stmt} (hp : PassesOwn (model X.prog X.w) X.A X.env X.xe) (hc : ST X W pin c t) (hb : SSs X W pin body u) : SS X W pin (.While c body [] pos) (oWh t u n) := ps_mono (ps_while hp hc hb) fun D σ H ⟨b, Fz, F, δ, hpin, R, P⟩ => by
  refine ⟨fun m σ H => ∃ Fz F δ, Rl X.K b Fz F δ σ H ∧ PostS X.K X.mg W b Fz D (oWh t u m δ), ⟨n, Fz, F, δ, R, P⟩, ?_⟩
  rintro m σ1 H1 ⟨Fz1, F1, δ1, R1, P1⟩
  cases m with
  | zero => exact P1.elim
  | succ m =>
    refine rdS_bindT hpin R1 P1 fun k H' Fz' F' δ' s R' P' => ?_
    by_cases e : k = true
    · rw [if_pos e] at P' ⊢
      refine ⟨fun σ H => ∃ Fz F δ, Rl X.K b Fz F δ σ H ∧ PostS X.K X.mg W b Fz D (oWh t u m δ), fun σ2 H2 h => ⟨m, Nat.lt_succ_self m, h⟩, b, Fz', F', δ', hpin, R', ?_⟩
      cases q : u δ' with
      | nx δ2 => rw [q] at P'; exact fun σ3 H3 Fz3 F3 s3 R3 => ⟨Fz3, F3, δ2, R3, PostS.le s3 P'⟩
      | ct δ2 => rw [q] at P'; exact fun σ3 H3 Fz3 F3 s3 R3 => ⟨Fz3, F3, δ2, R3, PostS.le s3 P'⟩
      | bk δ2 => rw [q] at P'; exact P'
      | rt s δ2 => rw [q] at P'; exact P'
      | er x δ2 => rw [q] at P'; exact P'
      | bad => rw [q] at P'; exact P'
    · rw [if_neg e] at P' ⊢
      exact P' σ1 H' Fz' F' (Same.refl _) R'
end
end Hb
namespace Hb
open PySem PySem.Spec PyProof.Rows L2
/-- only the slots ts were stored -/
def Stored (ts : List Nat) (σ σ' : L2.St) : Prop := σ'.length = σ.length ∧ ∀ k, k ∉ ts → σ'[k]? = σ[k]?
theorem Stored.refl (ts : List Nat) (σ : L2.St) : Stored ts σ σ := ⟨rfl, fun _ _ => rfl⟩
section
variable (K : PySem.W.Frag) (mg : Str → Option Value) (W : WX)
def PostG (b : Bk) (Fz : Hp) (ts : List Nat) (σ : L2.St) (Q : L2.St → Hp → Prop) : Rs Unit → Prop
  | .ok _ δ => ∀ σ' H' Fz' F', Same Fz Fz' → Rl K b Fz' F' δ σ' H' → Stored ts σ σ' → Q σ' H'
  | .er x δ => PostXS K mg W b Fz x δ
  | .bad => False
def rdG (pin ts : List Nat) (t : AV → List Sl → Rs Unit) : TG := fun v σ H Q => ∃ b Fz F δ a, b.pin = pin ∧ Rl K b Fz F δ σ H ∧ AvR K b Fz F H σ v a ∧ PostG K mg W b Fz ts σ Q (t a δ)
def rdGs (pin ts : List Nat) (t : List PyData → List Sl → Rs Unit) : TGs := fun vs σ H Q => ∃ b Fz F δ ds, b.pin = pin ∧ Rl K b Fz F δ σ H ∧ RpL K Fz vs ds ∧ PostG K mg W b Fz ts σ Q (t ds δ)
end
abbrev SG (X : Cx) (W : WX) (pin ts : List Nat) (e : Expr) (t : AV → List Sl → Rs Unit) : Prop := PG X e (rdG X.K X.mg W pin ts t)
abbrev SGs (X : Cx) (W : WX) (pin ts : List Nat) (es : List Expr) (t : List PyData → List Sl → Rs Unit) : Prop := PGs X es (rdGs X.K X.mg W pin ts t)
theorem pg_mono {X : Cx} {e : Expr} {t t' : TG} (h : PG X e t) (i : ∀ v σ H Q, t' v σ H Q → t v σ H Q) : PG X e t' := ⟨fun pins s σ H v u Q I r q => h.run pins s σ H v u Q I r (i v σ H Q q)⟩
theorem pgs_mono {X : Cx} {e : List Expr} {t t' : TGs} (h : PGs X e t) (i : ∀ v σ H Q, t' v σ H Q → t v σ H Q) : PGs X e t' := ⟨fun pins s σ H v u Q I r q => h.run pins s σ H v u Q I r (i v σ H Q q)⟩
def tgN (i : Nat) (a : AV) (δ : List Sl) : Rs Unit := match a with
  | .val d => .ok () (upS i (.fz d) δ)
  | .tmp s => .ok () (upS i s δ)
  | .ref _ => .bad
def tgNil (ds : List PyData) (δ : List Sl) : Rs Unit := match ds with
  | [] => .ok () δ
  | _ => .bad
def tgCons (t : AV → List Sl → Rs Unit) (u : List PyData → List Sl → Rs Unit) (ds : List PyData) (δ : List Sl) : Rs Unit := match ds with
  | [] => .bad
  | d :: ds => (t (.val d) δ).bind fun _ δ' => u ds δ'
def tgT (n : Nat) (u : List PyData → List Sl → Rs Unit) (a : AV) (δ : List Sl) : Rs Unit := match a with
  | .val (.tuple ds) => if ds.length = n then u ds δ else .bad
  | _ => .bad
section
variable {K : PySem.W.Frag} {mg : Str → Option Value} {W : WX} {pin ts us : List Nat}
theorem PostG.le {b : Bk} {Fz Fz1 : Hp} {σ : L2.St} {Q : L2.St → Hp → Prop} {r : Rs Unit} (s : Same Fz Fz1) (p : PostG K mg W b Fz ts σ Q r) : PostG K mg W b Fz1 ts σ Q r := by
  cases r with
  | ok a δ => exact fun σ' H' Fz' F' s' R e => p σ' H' Fz' F' (s.trans s') R e
  | er x δ => exact PostXS.le s p
  | bad => exact p
theorem upd_slot {σ : L2.St} {i k : Nat} {v : V} (h : k ≠ i) : (σ.set i (some v))[k]? = σ[k]? := List.getElem?_set_ne (Ne.symm h)
/-- a name gets a value -/
theorem Rl.name {b : Bk} {Fz : Hp} {F : Nat → List Addr} {δ : List Sl} {σ : L2.St} {H : Hp} {i : Nat} {v : V} {s : Sl} {g : List Addr} (R : Rl K b Fz F δ σ H) (hi : i ∉ b.pin) (ht : s.tree.isSome = true) (hs : SlH K Fz H [] g (some v) s) (hn : g.Nodup)
    (hg : ∀ a ∈ g, Fz a = none ∧ b.B a = none ∧ H a ≠ none ∧ ∀ i, a ∉ F i) : Rl K b Fz (fun k => if k = i then g else F k) (upS i s δ) (σ.set i (some v)) H := by
  refine R.put (Same.refl _) R.le R.base (List.length_set) (fun k hk => upd_slot hk) (.inr hi) (fun hlt => ?_) (fun x j z => by subst z; cases ht) hn (fun a ha => (hg a ha).1) (fun a ha => (hg a ha).2.1) (fun a ha k _ => (hg a ha).2.2.2 k) (fun a ha => (hg a ha).2.2.1) (fun _ _ _ _ => rfl) (fun k _ a ha => R.offF k a ha) (fun _ _ => rfl) hs.noT
  rw [List.getElem?_set_self (by rw [R.len]; exact hlt)]
  cases s with
  | no => cases ht
  | al x j => cases ht
  | fz d => exact hs
  | ol xs => exact hs
  | od kvs => exact hs
theorem tgN_ok {b : Bk} {Fz : Hp} {F : Nat → List Addr} {δ : List Sl} {σ : L2.St} {H : Hp} {i : Nat} {v : V} {a : AV} {Q : L2.St → Hp → Prop} (hi : i ∈ ts) (hpin : i ∉ b.pin) (R : Rl K b Fz F δ σ H) (A : AvR K b Fz F H σ v a) (P : PostG K mg W b Fz ts σ Q (tgN i a δ)) : Q (σ.set i (some v)) H := by
  have fr : Stored ts σ (σ.set i (some v)) := ⟨List.length_set, fun k hk => upd_slot fun z => hk (by rw [z]; exact hi)⟩
  cases a with
  | val d => exact P _ H Fz _ (Same.refl _) (R.name hpin rfl (g := []) ⟨rfl, v, rfl, A⟩ List.nodup_nil fun _ z => nomatch z) fr
  | tmp s =>
    obtain ⟨ht, g, h1, h2, h3⟩ := A
    exact P _ H Fz _ (Same.refl _) (R.name hpin ht h1 h2 h3) fr
  | ref j => exact P.elim
end
section
variable {X : Cx} {W : WX} {pin ts us : List Nat} {pos : Pos}
theorem sg_name (i : Nat) {x : Str} (hN : X.N.Nodup) (hi : X.N[i]? = some x) (hx : Loc X.env.scope x) (hp : i ∉ pin) (hf : X.fn x = true ∨ X.env.scope.names.lookup x = some .local := by first | exact .inl rfl | exact .inr rfl | assumption) : SG X W pin [i] (.Name x pos) (tgN i) :=
  pg_mono (pg_name hN hi hx hf) fun v σ H Q ⟨b, Fz, F, δ, a, hpin, R, A, P⟩ => tgN_ok (List.mem_singleton.mpr rfl) (by rw [hpin]; exact hp) R A P
theorem sgs_nil : SGs X W pin [] [] tgNil := pgs_mono pgs_nil fun vs σ H Q ⟨b, Fz, F, δ, ds, hpin, R, A, P⟩ => by
  cases A with
  | nil => exact ⟨rfl, P σ H Fz F (Same.refl _) R (Stored.refl _ _)⟩
  | cons h t => exact P.elim
theorem sgs_cons {e : Expr} {es : List Expr} {t : AV → List Sl → Rs Unit} {u : List PyData → List Sl → Rs Unit} (h1 : SG X W pin ts e t) (h2 : SGs X W pin us es u)
    (hs : (assignEach (e :: es) X.env).map (·.2) = assign e X.env :: (assignEach es X.env).map (·.2) := by rfl) : SGs X W pin (ts ++ us) (e :: es) (tgCons t u) := pgs_mono (pgs_cons h1 h2 hs) fun vs σ H Q ⟨b, Fz, F, δ, ds, hpin, R, A, P⟩ => by
  cases A with
  | nil => exact P.elim
  | @cons v0 vs0 d ds h r =>
    refine ⟨_, _, rfl, b, Fz, F, δ, .val d, hpin, R, h, ?_⟩
    have P : PostG X.K X.mg W b Fz (ts ++ us) σ Q ((t (.val d) δ).bind fun _ δ' => u ds δ') := P
    cases q : t (.val d) δ with
    | bad => rw [q] at P; exact P
    | er x δ' => rw [q] at P; exact P
    | ok a δ' =>
      rw [q] at P
      have P : PostG X.K X.mg W b Fz (ts ++ us) σ Q (u ds δ') := P
      intro σ1 H1 Fz1 F1 s1 R1 fr1
      refine ⟨b, Fz1, F1, δ', ds, hpin, R1, r.mono s1, ?_⟩
      cases q2 : u ds δ' with
      | bad => rw [q2] at P; exact P
      | er x δ2 => rw [q2] at P; exact PostXS.le s1 P
      | ok a δ2 =>
        rw [q2] at P
        exact fun σ2 H2 Fz2 F2 s2 R2 fr2 => P σ2 H2 Fz2 F2 (s1.trans s2) R2 ⟨fr2.1.trans fr1.1, fun k hk => (fr2.2 k fun z => hk (List.mem_append_right _ z)).trans (fr1.2 k fun z => hk (List.mem_append_left _ z))⟩
theorem sg_tup {es : List Expr} {k n : Nat} {u : List PyData → List Sl → Rs Unit} (hc : X.calm = true) (h : SGs X W pin ts es u)
    (hn : (assignEach es X.env).length = n := by rfl) (hst : (assignEach es X.env).findIdx? (·.1) = none := by rfl) : SG X W pin ts (.Tuple es k pos) (tgT n u) := pg_mono (pg_tup hc h hn hst) fun v σ H Q ⟨b, Fz, F, δ, a, hpin, R, A, P⟩ => by
  cases a with
  | tmp s => exact P.elim
  | ref i => exact P.elim
  | val d =>
    cases d with
    | tuple ds =>
      have P : PostG X.K X.mg W b Fz ts σ Q (if ds.length = n then u ds δ else .bad) := P
      by_cases c : ds.length = n
      · rw [if_pos c] at P
        cases (show Rp X.K Fz v (.tuple ds) from A) with
        | tup h1 h2 => exact ⟨_, _, rfl, SqT.of (R.le _ _ h1), by rw [h2.len]; exact c, b, Fz, F, δ, ds, hpin, R, h2, P⟩
      · rw [if_neg c] at P
        exact P.elim
    | _ => exact P.elim
def Rs.otU (r : Rs Unit) : Ot := match r with
  | .ok _ δ => .nx δ
  | .er x δ => .er x δ
  | .bad => .bad
def oAsg (f : List Sl → Rs AV) (t : AV → List Sl → Rs Unit) : List Sl → Ot := fun δ => (f δ).ot fun a δ' => (t a δ').otU
theorem asg_ok {K : PySem.W.Frag} {mg : Str → Option Value} {f : List Sl → Rs AV} {t : AV → List Sl → Rs Unit} : ∀ D σ H, rdS K mg W pin (oAsg f t) D σ H → tAsg (rdE K mg W pin f) (rdG K mg W pin ts t) D σ H := fun D σ H ⟨b, Fz, F, δ, hp, R, P⟩ => by
  refine rdS_bind hp R P fun v H' Fz' F' a δ' s R' A P' => ?_
  refine ⟨b, Fz', F', δ', a, hp, R', A, ?_⟩
  cases q : t a δ' with
  | bad => rw [q] at P'; exact P'
  | er x δ2 => rw [q] at P'; exact P'
  | ok u δ2 =>
    rw [q] at P'
    exact fun σ2 H2 Fz2 F2 s2 R2 _ => P' σ2 H2 Fz2 F2 s2 R2
theorem ss_set (i : Nat) {x : Str} {e : Expr} {f : List Sl → Rs AV} {pos' : Pos} (hN : X.N.Nodup) (hi : X.N[i]? = some x) (hx : Loc X.env.scope x) (hp : i ∉ pin) (he : SE X W pin e f) (hs : swapsWith e (some (.Name x pos')) pos.line X.env = pure false := by rfl) (hf : X.fn x = true ∨ X.env.scope.names.lookup x = some .local := by first | exact .inl rfl | exact .inr rfl | assumption) :
    SS X W pin (.Assign [.Name x pos'] e pos) (oAsg f (tgN i)) := ps_mono (ps_set hN hi hx he hs hf) fun D σ H h => by
  obtain ⟨b, Fz, F, δ, hpin, R, P⟩ := h
  refine rdS_bind hpin R P fun v H' Fz' F' a δ' s R' A P' => ?_
  refine tgN_ok (K := X.K) (mg := X.mg) (W := W) (b := b) (ts := [i]) (List.mem_singleton.mpr rfl) (by rw [hpin]; exact hp) R' A ?_
  cases q : tgN i a δ' with
  | bad => rw [q] at P'; exact P'
  | er x δ2 => rw [q] at P'; exact P'
  | ok u δ2 =>
    rw [q] at P'
    exact fun σ2 H2 Fz2 F2 s2 R2 _ => P' σ2 H2 Fz2 F2 s2 R2
theorem ss_asg {tg e : Expr} {f : List Sl → Rs AV} {t : AV → List Sl → Rs Unit} (he : SE X W pin e f) (hg : SG X W pin ts tg t) (hs : swapsWithSole [tg] e pos.line X.env = pure false := by rfl) (hw : swappedStores [tg] e X.env = pure none := by rfl)
    (h1 : (assignEach [tg] X.env).map (·.2) = [assign tg X.env] := by rfl) : SS X W pin (.Assign [tg] e pos) (oAsg f t) := ps_mono (ps_asg he hg hs hw h1) asg_ok
/-- x[i] = v -/
def setA (x y : AV) (d : PyData) (δ : List Sl) : Rs Unit := match x, rdC δ y with
  | .ref k, some (.int i) => (match δ[k]? with
    | some (.ol xs) => (match ixN xs.length i with
      | some j => (match allFz xs with
        | some ds => .ok () (upS k (.ol ((ds.set j d).map .fz)) δ)
        | none => .bad)
      | none => .bad)
    | some (.al x j) => (match δ[x]? with
      | some (.ol es) => (match es[j]? with
        | some (.ow ys) => (match ixN ys.length i with
          | some m => .ok () (δ.set x (.ol (es.set j (.ow (ys.set m d)))))
          | none => .bad)
        | _ => .bad)
      | _ => .bad)
    | _ => .bad)
  | _, _ => .bad
def tgS (fo fi : List Sl → Rs AV) (a : AV) (δ : List Sl) : Rs Unit := match a with
  | .val d => (sSt fo δ).bind fun x δ1 => (sSt fi δ1).bind fun y δ2 => setA x y d δ2
  | _ => .bad
theorem ElL.set_ow {K : PySem.W.Frag} {Fz H : Hp} {a : Addr} {ws : List V} {ys : List PyData} (hr : RpL K Fz ws ys) : ∀ {f : List Addr} {vs : List V} {es : List El} {j : Nat} {xs : List PyData}, ElL K Fz H f vs es → f.Nodup → es[j]? = some (.ow xs) → vs[j]? = some (.ref a) →
    a ∈ f ∧ ElL K Fz (upd H a (.lst ws)) f vs (es.set j (.ow ys))
  | _, _, _, _, _, .nil, _, e, _ => by simp at e
  | _, _, _, 0, xs, .cons (f := f) (g := g) (v := v) h t, nd, e, e2 => by
    simp at e e2
    subst e e2
    obtain ⟨a', us, e3, e4, e5, e6⟩ := h
    cases e3
    subst e4
    rw [List.nodup_append] at nd
    refine ⟨by simp, .cons ⟨a, ws, rfl, rfl, upd_same, hr⟩ (t.keeps (Same.refl _) fun c hc => upd_ne fun z => ?_)⟩
    subst z
    exact nd.2.2 c (by simp) c hc rfl
  | _, _, _, j + 1, xs, .cons (f := f) (g := g) (v := v) (e := e0) h t, nd, e, e2 => by
    rw [List.nodup_append] at nd
    obtain ⟨h1, h2⟩ := ElL.set_ow hr t nd.2.1 (by simpa using e) (by simpa using e2)
    refine ⟨List.mem_append_right _ h1, .cons (h.keeps (Same.refl _) fun c hc => upd_ne fun z => ?_) h2⟩
    subst z
    exact nd.2.2 c hc c h1 rfl
/-- a row of a list of one's own changes -/
theorem Rl.row {K : PySem.W.Frag} {b : Bk} {Fz : Hp} {F : Nat → List Addr} {δ : List Sl} {σ : L2.St} {H : Hp} (R : Rl K b Fz F δ σ H) {x j : Nat} {es : List El} {xs ys : List PyData} {l a : Addr} {vs ws : List V}
    (hs : δ[x]? = some (.ol es)) (hv : σ[x]? = some (some (.ref l))) (hl : H l = some (.lst vs)) (hj : es[j]? = some (.ow xs)) (ha : vs[j]? = some (.ref a)) (hr : RpL K Fz ws ys) : Rl K b Fz F (δ.set x (.ol (es.set j (.ow ys)))) σ (upd H a (.lst ws)) := by
  obtain ⟨l', vs', g, e1, e2, e3, e4⟩ := R.slot x _ hs
  rw [hv] at e1
  cases e1
  rw [hl] at e3
  cases e3
  have nd := R.nd x
  rw [e2] at nd
  obtain ⟨nl, ng⟩ := List.nodup_cons.mp nd
  obtain ⟨h1, h2⟩ := ElL.set_ow hr e4 ng hj ha
  have hal : a ≠ l := fun z => nl (by rw [← z]; exact h1)
  have haF : a ∈ F x := by rw [e2]; exact List.mem_cons_of_mem _ h1
  have hlF : l ∈ F x := by rw [e2]; exact List.mem_cons_self
  have xl : x < δ.length := (List.getElem?_eq_some_iff.mp hs).1
  have ne : ∀ c, Fz c ≠ none → c ≠ a := fun c hc z => hc (by rw [z]; exact R.offF x a haF)
  have neB : ∀ c, b.B c ≠ none → c ≠ a := fun c hc z => hc (by rw [z]; exact R.offB x a haF)
  refine ⟨fun c o e => ?_, fun c o e => ?_, by rw [List.length_set]; exact R.len, fun k t e => ?_, R.nd, R.dj, R.offF, R.offB, fun k c hc => ?_, R.keep, R.f0, R.pin, fun k y m e => ?_, fun k c hc => ?_, R.tb.upd (.inr (R.noT x a haF)), R.tp⟩
  · rw [upd_ne (ne c (by rw [e]; simp))]
    exact R.le c o e
  · rw [upd_ne (neB c (by rw [e]; simp))]
    exact R.base c o e
  · by_cases hk : k = x
    · subst hk
      rw [List.getElem?_set_self xl] at e
      cases e
      rw [hv]
      exact ⟨l, vs, g, rfl, e2, by rw [upd_ne hal.symm]; exact hl, h2⟩
    · rw [List.getElem?_set_ne (Ne.symm hk)] at e
      refine (R.slot k t e).keeps (Same.refl _) (fun c hc => upd_ne fun z => hk (R.dj k x a (by rw [← z]; exact hc) haF)) fun y m ey c hc => upd_ne fun z => ?_
      subst ey
      subst z
      obtain ⟨xs', f1⟩ := R.als k y m e
      obtain ⟨l2, vs2, g2, p1, p2, p3, p4⟩ := R.slot y _ f1
      rw [hc] at p1
      cases p1
      have hyx : y = x := R.dj y x c (by rw [p2]; exact List.mem_cons_self) haF
      subst hyx
      rw [hv] at hc
      cases hc
      exact hal rfl
  · by_cases z : c = a
    · rw [z, upd_same]; simp
    · rw [upd_ne z]; exact R.on k c hc
  · by_cases hk : k = x
    · subst hk
      rw [List.getElem?_set_self xl] at e
      cases e
    · rw [List.getElem?_set_ne (Ne.symm hk)] at e
      obtain ⟨xs', f1⟩ := R.als k y m e
      by_cases hy : y = x
      · subst hy
        exact ⟨_, List.getElem?_set_self xl⟩
      · exact ⟨xs', by rw [List.getElem?_set_ne (Ne.symm hy)]; exact f1⟩
  · by_cases z : c = a
    · rw [z, upd_same]; exact .lst
    · rw [upd_ne z]; exact R.noT k c hc
theorem sg_sub {o i : Expr} {fo fi : List Sl → Rs AV} (ho : SE X W pin o fo) (hi : SE X W pin i fi)
    (ha : ∀ v, assign (.Subscript o i pos) X.env v = (do
      let ov ← holding [v] (eval o X.env)
      let iv ← holding [v, ov] (eval i X.env)
      standAt pos
      holding [v, ov, iv] (setItem ov iv v)
      release [v, ov, iv] []) := by intro _; rfl) : SG X W pin [] (.Subscript o i pos) (tgS fo fi) := pg_mono (pg_sub (se_st ho) (se_st hi) set_list ha) fun v σ H Q ⟨b, Fz, F, δ, a, hpin, R, A, P⟩ => by
  cases a with
  | tmp s => exact P.elim
  | ref i => exact P.elim
  | val d =>
    have A : Rp X.K Fz v d := A
    have P : PostG X.K X.mg W b Fz [] σ Q ((sSt fo δ).bind fun x δ1 => (sSt fi δ1).bind fun y δ2 => setA x y d δ2) := P
    -- the two operands
    have two : ∀ (f : List Sl → Rs AV) (Fz1 : Hp) (F1 : Nat → List Addr) (δ1 : List Sl) (H1 : Hp) (k : AV → List Sl → Rs Unit) (R' : VK), Rl X.K b Fz1 F1 δ1 σ H1 → PostG X.K X.mg W b Fz1 [] σ Q ((sSt f δ1).bind k) →
        (∀ v H' Fz' F' x δ', Same Fz1 Fz' → Rl X.K b Fz' F' δ' σ H' → AvS X.K Fz' σ v x → PostG X.K X.mg W b Fz' [] σ Q (k x δ') → R' v H') → rdE X.K X.mg W pin (sSt f) σ H1 R' := fun f Fz1 F1 δ1 H1 k R' Rr PP h => by
      refine ⟨b, Fz1, F1, δ1, hpin, Rr, ?_⟩
      cases q : sSt f δ1 with
      | bad => rw [q] at PP; exact PP
      | er x δ' => rw [q] at PP; exact PostXS.at_ PP
      | ok a δ' =>
        rw [q] at PP
        intro v H' Fz' F' s R2 A2
        cases a with
        | tmp t => exact absurd q (sSt_notmp _ _ _ _)
        | val d => exact h v H' Fz' F' (.val d) δ' s R2 A2 (PostG.le s PP)
        | ref i => exact h v H' Fz' F' (.ref i) δ' s R2 A2 (PostG.le s PP)
    refine two fo Fz F δ H _ _ R P fun ov H1 Fz1 F1 x δ1 s1 R1 A1 P1 => ?_
    refine two fi Fz1 F1 δ1 H1 _ _ R1 P1 fun iv H2 Fz2 F2 y δ2 s2 R2 A2 P2 => ?_
    have A0 : Rp X.K Fz2 v d := (A.mono s1).mono s2
    have A1 := A1.le s2
    unfold setA at P2
    cases x with
    | val e => cases q : rdC δ2 y <;> exact P2.elim
    | tmp e => exact A1.elim
    | ref k =>
      cases q : rdC δ2 y with
      | none => simp only [q] at P2; exact P2.elim
      | some n =>
        cases n with
        | int n =>
          simp only [q] at P2
          have ei := rpc_int (rdC_ok R2 A2 q)
          have hv : σ[k]? = some (some ov) := A1
          cases q2 : δ2[k]? with
          | none => simp only [q2] at P2; exact P2.elim
          | some t =>
            cases t with
            | ol xs =>
              simp only [q2] at P2
              cases q3 : ixN xs.length n with
              | none => simp only [q3] at P2; exact P2.elim
              | some j =>
                simp only [q3] at P2
                cases q4 : allFz xs with
                | none => simp only [q4] at P2; exact P2.elim
                | some ds =>
                  simp only [q4] at P2
                  obtain ⟨l, vs, g, e1, e2, e3, e4, e5⟩ := R2.own q2 hv
                  subst e1
                  have rp := e3.allFz q4
                  have R' := R2.mut (g := []) q2 hv (ElL.ofFz (rp.set A0 j)) (by simp) (fun a ha => nomatch ha)
                  exact ⟨l, vs, n, j, rfl, ei, e2, by rw [e3.len]; exact q3, P2 _ _ Fz2 _ (Same.refl _) R' (Stored.refl _ _)⟩
            | al x j =>
              simp only [q2] at P2
              cases q3 : δ2[x]? with
              | none => simp only [q3] at P2; exact P2.elim
              | some t =>
                cases t with
                | ol es =>
                  simp only [q3] at P2
                  cases q4 : es[j]? with
                  | none => simp only [q4] at P2; exact P2.elim
                  | some el =>
                    cases el with
                    | fz d' => simp only [q4] at P2; exact P2.elim
                    | ow ys =>
                      simp only [q4] at P2
                      cases q5 : ixN ys.length n with
                      | none => simp only [q5] at P2; exact P2.elim
                      | some m =>
                        simp only [q5] at P2
                        obtain ⟨_, l, c, vs, f1, f2, f3, f4⟩ := R2.slot k _ q2
                        rw [hv] at f4
                        cases f4
                        obtain ⟨g, ⟨c', ws, g1, g2, g3, g4⟩, _⟩ := R2.al q2 q3 q4 hv
                        cases g1
                        have R' := R2.row q3 f1 f2 q4 f3 (g4.set A0 m)
                        exact ⟨c, ws, n, m, rfl, ei, g3, by rw [g4.len]; exact q5, P2 _ _ Fz2 _ (Same.refl _) R' (Stored.refl _ _)⟩
                | _ => simp only [q3] at P2; exact P2.elim
            | _ => simp only [q2] at P2; exact P2.elim
        | _ => simp only [q] at P2; exact P2.elim
end
end Hb
namespace Hb
open PySem PySem.Spec PyProof.Rows L2
/-- J gives the trees ds, one a turn -/
def Wk (K : PySem.W.Frag) (Fz0 : Hp) (J : It) (ds : List PyData) : Prop := ∀ b Fz F δ σ H, Same Fz0 Fz → Rl K b Fz F δ σ H →
  (∀ i, i < ds.length → J.go i H ∧ ∀ x H', J.yld i H x H' → ∃ Fz' d, ds[i]? = some d ∧ Same Fz Fz' ∧ Rl K b Fz' F δ σ H' ∧ Rp K Fz' x d) ∧ J.stop ds.length H
section
variable (K : PySem.W.Frag) (mg : Str → Option Value) (W : WX)
def PostI (b : Bk) (Fz : Hp) (σ : L2.St) (R : It → Hp → Prop) : Rs (List PyData) → Prop
  | .ok ds δ => ∀ J H' Fz' F', Same Fz Fz' → Rl K b Fz' F' δ σ H' → Wk K Fz' J ds → R J H'
  | .er x δ => PostX K mg W b Fz σ x δ
  | .bad => False
def rdI (pin : List Nat) (w : List Sl → Rs (List PyData)) : TI := fun σ H R => ∃ b Fz F δ, b.pin = pin ∧ Rl K b Fz F δ σ H ∧ PostI K mg W b Fz σ R (w δ)
end
abbrev SI (X : Cx) (W : WX) (pin : List Nat) (tg iter : Expr) (w : List Sl → Rs (List PyData)) : Prop := PI X tg iter (rdI X.K X.mg W pin w)
theorem pi_mono {X : Cx} {tg iter : Expr} {t t' : TI} (h : PI X tg iter t) (i : ∀ σ H R, t' σ H R → t σ H R) : PI X tg iter t' := ⟨fun pins s σ H R I q => h.run pins s σ H R I (i σ H R q)⟩
theorem pi_or {X : Cx} {tg iter : Expr} {t t' : TI} (h : PI X tg iter t) (h' : PI X tg iter t') : PI X tg iter (fun σ H R => t σ H R ∨ t' σ H R) := ⟨fun pins s σ H R I q => q.elim (h.run pins s σ H R I) (h'.run pins s σ H R I)⟩
section
variable {K : PySem.W.Frag} {mg : Str → Option Value} {W : WX} {pin : List Nat}
theorem PostI.le {b : Bk} {Fz Fz1 : Hp} {σ : L2.St} {R : It → Hp → Prop} {r : Rs (List PyData)} (s : Same Fz Fz1) (p : PostI K mg W b Fz σ R r) : PostI K mg W b Fz1 σ R r := by
  cases r with
  | ok a δ => exact fun J H' Fz' F' s' R e => p J H' Fz' F' (s.trans s') R e
  | er x δ => exact PostX.le s p
  | bad => exact p
theorem rd_valI {f : List Sl → Rs AV} {σ : L2.St} {H : Hp} {b : Bk} {Fz : Hp} {F : Nat → List Addr} {δ : List Sl} {k : PyData → List Sl → Rs (List PyData)} {Q : It → Hp → Prop} {R : VK} (hp : b.pin = pin) (Rr : Rl K b Fz F δ σ H) (P : PostI K mg W b Fz σ Q ((sTk f δ).val k))
    (h : ∀ v H' Fz' F' d δ', Same Fz Fz' → Rl K b Fz' F' δ' σ H' → Rp K Fz' v d → PostI K mg W b Fz' σ Q (k d δ') → R v H') : rdE K mg W pin (sTk f) σ H R := by
  refine ⟨b, Fz, F, δ, hp, Rr, ?_⟩
  cases q : sTk f δ with
  | bad => rw [q] at P; exact P
  | er x δ' => rw [q] at P; exact P
  | ok a δ' =>
    rw [q] at P
    intro v H' Fz' F' s R' A
    cases a with
    | tmp t => exact False.elim P
    | ref i => exact False.elim P
    | val d => exact h v H' Fz' F' d δ' s R' A (PostI.le s P)
theorem wk_list {Fz0 : Hp} {a : Addr} {vs : List V} {ds : List PyData} (h : SqX K Fz0 a vs) (r : RpL K Fz0 vs ds) : Wk K Fz0 (Itl K a) ds := fun b Fz F δ σ H s R => by
  have hq : SqL K H a vs := (same_sqX (s.trans R.le) h).sq
  refine ⟨fun i hi => ?_, ⟨vs, hq, by rw [r.len]; exact Nat.le_refl _⟩⟩
  obtain ⟨v, e1, e2⟩ := r.get (List.getElem?_eq_getElem hi)
  refine ⟨⟨vs, v, hq, e1⟩, fun x H' y => ?_⟩
  obtain ⟨rfl, y⟩ := y
  have := y vs hq
  rw [e1] at this
  cases this
  exact ⟨Fz, _, List.getElem?_eq_getElem hi, Same.refl _, R, e2.mono s⟩
theorem wk_tup {Fz0 : Hp} {a : Addr} {vs : List V} {ds : List PyData} (h : SqT K Fz0 a vs) (r : RpL K Fz0 vs ds) : Wk K Fz0 (Itt K a) ds := fun b Fz F δ σ H s R => by
  have hq : SqT K H a vs := same_sqT (s.trans R.le) h
  refine ⟨fun i hi => ?_, ⟨vs, hq, by rw [r.len]; exact Nat.le_refl _⟩⟩
  obtain ⟨v, e1, e2⟩ := r.get (List.getElem?_eq_getElem hi)
  refine ⟨⟨vs, v, hq, e1⟩, fun x H' y => ?_⟩
  obtain ⟨rfl, y⟩ := y
  have := y vs hq
  rw [e1] at this
  cases this
  exact ⟨Fz, _, List.getElem?_eq_getElem hi, Same.refl _, R, e2.mono s⟩
def rangeD (lo : Int) (n : Nat) : List PyData := (List.range n).map fun i => .int (lo + (i : Nat))
theorem rangeD_len (lo : Int) (n : Nat) : (rangeD lo n).length = n := by simp [rangeD]
theorem rangeD_at {lo : Int} {n i : Nat} (h : i < n) : (rangeD lo n)[i]? = some (.int (lo + (i : Nat))) := by
  unfold rangeD
  rw [List.getElem?_map, List.getElem?_range h]
  rfl
theorem wk_range {Fz0 : Hp} (lo : Int) (n : Nat) : Wk K Fz0 (Itr lo n) (rangeD lo n) := fun b Fz F δ σ H s R => by
  rw [rangeD_len]
  refine ⟨fun i hi => ⟨hi, fun x H' y => ?_⟩, Nat.le_refl n⟩
  obtain ⟨rfl, rfl⟩ := y
  exact ⟨Fz, _, rangeD_at hi, Same.refl _, R, .int _⟩
def enumD (ds : List PyData) : List PyData := ds.zipIdx.map fun p => .tuple [.int (p.2 : Nat), p.1]
theorem enumD_len (ds : List PyData) : (enumD ds).length = ds.length := by simp [enumD]
theorem enumD_at {ds : List PyData} {i : Nat} {d : PyData} (h : ds[i]? = some d) : (enumD ds)[i]? = some (.tuple [.int (i : Nat), d]) := by
  unfold enumD
  rw [List.getElem?_map, List.getElem?_zipIdx, h]
  simp
theorem wk_enum {Fz0 : Hp} {a : Addr} {vs : List V} {ds : List PyData} (h : SqX K Fz0 a vs) (r : RpL K Fz0 vs ds) : Wk K Fz0 (Ite K a) (enumD ds) := fun b Fz F δ σ H s R => by
  have hq : SqL K H a vs := (same_sqX (s.trans R.le) h).sq
  rw [enumD_len]
  refine ⟨fun i hi => ?_, ⟨vs, hq, by rw [r.len]; exact Nat.le_refl _⟩⟩
  obtain ⟨v, e1, e2⟩ := r.get (List.getElem?_eq_getElem hi)
  refine ⟨⟨vs, v, hq, e1⟩, fun x H' y => ?_⟩
  obtain ⟨T, u, rfl, nT, rfl, y⟩ := y
  have := y vs hq
  rw [e1] at this
  cases this
  obtain ⟨s2, R2⟩ := R.newF nT (.tup [.int (i : Nat), v])
  exact ⟨_, _, enumD_at (List.getElem?_eq_getElem hi), s2, R2, .tup upd_same (.cons (.int _) (.cons (e2.mono (s.trans s2)) .nil))⟩
def zipD : List PyData → List PyData → List PyData
  | d :: ds, e :: es => .tuple [d, e] :: zipD ds es
  | _, _ => []
theorem zipD_len : ∀ ds es : List PyData, (zipD ds es).length = min ds.length es.length
  | [], es => by simp [zipD]
  | d :: ds, [] => by simp [zipD]
  | d :: ds, e :: es => by
    rw [zipD, List.length_cons, zipD_len ds es, List.length_cons, List.length_cons]
    omega
theorem zipD_at : ∀ {ds es : List PyData} {i : Nat} {d e : PyData}, ds[i]? = some d → es[i]? = some e → (zipD ds es)[i]? = some (.tuple [d, e])
  | [], _, _, _, _, h, _ => by simp at h
  | _ :: _, [], _, _, _, _, h => by simp at h
  | d :: ds, e :: es, 0, _, _, h, h2 => by
    simp at h h2
    subst h h2
    rfl
  | d :: ds, e :: es, i + 1, _, _, h, h2 => by
    rw [zipD, List.getElem?_cons_succ]
    exact zipD_at (by simpa using h) (by simpa using h2)
theorem wk_zip {Fz0 : Hp} {a c : Addr} {vs ws : List V} {ds es : List PyData} (h : SqX K Fz0 a vs) (r : RpL K Fz0 vs ds) (h2 : SqX K Fz0 c ws) (r2 : RpL K Fz0 ws es) : Wk K Fz0 (Itz K a c) (zipD ds es) := fun b Fz F δ σ H s R => by
  have hq : SqL K H a vs := (same_sqX (s.trans R.le) h).sq
  have hq2 : SqL K H c ws := (same_sqX (s.trans R.le) h2).sq
  have l1 := r.len
  have l2 := r2.len
  rw [zipD_len]
  refine ⟨fun i hi => ?_, ⟨vs, ws, hq, hq2, by omega⟩⟩
  obtain ⟨v, e1, e2⟩ := r.get (List.getElem?_eq_getElem (show i < ds.length by omega))
  obtain ⟨w, f1, f2⟩ := r2.get (List.getElem?_eq_getElem (show i < es.length by omega))
  refine ⟨⟨vs, ws, v, w, hq, hq2, e1, f1⟩, fun x H' y => ?_⟩
  obtain ⟨T, u, t, rfl, nT, rfl, y1, y2⟩ := y
  have z1 := y1 vs hq
  rw [e1] at z1
  cases z1
  have z2 := y2 ws hq2
  rw [f1] at z2
  cases z2
  obtain ⟨s2, R2⟩ := R.newF nT (.tup [v, w])
  exact ⟨_, _, zipD_at (List.getElem?_eq_getElem (show i < ds.length by omega)) (List.getElem?_eq_getElem (show i < es.length by omega)), s2, R2, .tup upd_same (.cons (e2.mono (s.trans s2)) (.cons (f2.mono (s.trans s2)) .nil))⟩
theorem wk_zipT {Fz0 : Hp} {a c : Addr} {vs ws : List V} {ds es : List PyData} (h : SqT K Fz0 a vs) (r : RpL K Fz0 vs ds) (h2 : SqT K Fz0 c ws) (r2 : RpL K Fz0 ws es) : Wk K Fz0 (RZ.ItzT K a c) (zipD ds es) := fun b Fz F δ σ H s R => by
  have hq : SqT K H a vs := same_sqT (s.trans R.le) h
  have hq2 : SqT K H c ws := same_sqT (s.trans R.le) h2
  have l1 := r.len
  have l2 := r2.len
  rw [zipD_len]
  refine ⟨fun i hi => ?_, ⟨vs, ws, hq, hq2, by omega⟩⟩
  obtain ⟨v, e1, e2⟩ := r.get (List.getElem?_eq_getElem (show i < ds.length by omega))
  obtain ⟨w, f1, f2⟩ := r2.get (List.getElem?_eq_getElem (show i < es.length by omega))
  refine ⟨⟨vs, ws, v, w, hq, hq2, e1, f1⟩, fun x H' y => ?_⟩
  obtain ⟨T, u, t, rfl, nT, rfl, y1, y2⟩ := y
  have z1 := y1 vs hq
  rw [e1] at z1
  cases z1
  have z2 := y2 ws hq2
  rw [f1] at z2
  cases z2
  obtain ⟨s2, R2⟩ := R.newF nT (.tup [v, w])
  exact ⟨_, _, zipD_at (List.getElem?_eq_getElem (show i < ds.length by omega)) (List.getElem?_eq_getElem (show i < es.length by omega)), s2, R2, .tup upd_same (.cons (e2.mono (s.trans s2)) (.cons (f2.mono (s.trans s2)) .nil))⟩
end
def wSeq (f : List Sl → Rs AV) : List Sl → Rs (List PyData) := fun δ => (sTk f δ).val fun d δ' => match seqD d with
  | some ds => .ok ds δ'
  | none => .bad
def wEnum (f : List Sl → Rs AV) : List Sl → Rs (List PyData) := fun δ => (sTk f δ).val fun d δ' => match d with
  | .list ds => .ok (enumD ds) δ'
  | _ => .bad
def wRng1 (f : List Sl → Rs AV) : List Sl → Rs (List PyData) := fun δ => (sTk f δ).val fun d δ' => match d with
  | .int n => if -(2 ^ 62) ≤ n ∧ n < 2 ^ 62 then .ok (rangeD 0 n.toNat) δ' else .bad
  | _ => .bad
def wZip (f g : List Sl → Rs AV) : List Sl → Rs (List PyData) := fun δ => (sTk f δ).val fun d δ1 => (sTk g δ1).val fun e δ2 => match d, e with
  | .list ds, .list es => .ok (zipD ds es) δ2
  | .tuple ds, .tuple es => .ok (zipD ds es) δ2
  | _, _ => .bad
section
variable {X : Cx} {W : WX} {pin : List Nat} {f g : List Sl → Rs AV} {e c tg : Expr} {p pos tpos : Pos} {elts : List Expr} {kk : Nat}
theorem si_seq (h : SE X W pin e f) : SI X W pin tg e (wSeq f) := pi_mono (pi_or (pi_list (se_tk h)) (pi_tup (se_tk h))) fun σ H R ⟨b, Fz, F, δ, hp, Rr, P⟩ => by
  have P0 := P
  unfold wSeq at P
  cases q : sTk f δ with
  | bad => rw [q] at P; exact P.elim
  | er x δ' =>
    rw [q] at P
    exact .inl ⟨b, Fz, F, δ, hp, Rr, by rw [q]; exact P⟩
  | ok a δ' =>
    rw [q] at P
    cases a with
    | tmp t => exact P.elim
    | ref i => exact P.elim
    | val d =>
      cases d with
      | list ds =>
        refine .inl ⟨b, Fz, F, δ, hp, Rr, ?_⟩
        rw [q]
        intro v H' Fz' F' s R' A
        cases (show Rp X.K Fz' v (.list ds) from A) with
        | lst h1 h2 => exact ⟨_, rfl, ⟨_, (same_sqX R'.le h1).sq⟩, P (Itl X.K _) H' Fz' F' s R' (wk_list h1 h2)⟩
      | tuple ds =>
        refine .inr ⟨b, Fz, F, δ, hp, Rr, ?_⟩
        rw [q]
        intro v H' Fz' F' s R' A
        cases (show Rp X.K Fz' v (.tuple ds) from A) with
        | tup h1 h2 => exact ⟨_, rfl, ⟨_, SqT.of (R'.le _ _ h1)⟩, P (Itt X.K _) H' Fz' F' s R' (wk_tup (SqT.of h1) h2)⟩
      | _ => exact P.elim
theorem si_rng1 (hg : Gl X "range") (hm : X.mg "range" = none) (h : SE X W pin e f) (hs : starEach [e] X.env = [(false, eval e X.env)] := by rfl) : SI X W pin tg (.Call (.Name "range" p) [e] [] pos) (wRng1 f) :=
  pi_mono (pi_range1 hg hm (pa_cons (se_tk h) pa_nil hs) hs) fun σ H R ⟨b, Fz, F, δ, hp, Rr, P⟩ => by
    refine rd_valI hp Rr P fun v H' Fz' F' d δ' s R' A P' => ?_
    cases d with
    | int n =>
      cases A
      have P' : PostI X.K X.mg W b Fz' σ R (if -(2 ^ 62) ≤ n ∧ n < 2 ^ 62 then .ok (rangeD 0 n.toNat) δ' else .bad) := P'
      by_cases c : -(2 ^ 62) ≤ n ∧ n < 2 ^ 62
      · rw [if_pos c] at P'
        exact ⟨n, rfl, c.1, c.2, P' _ H' Fz' F' (Same.refl _) R' (wk_range 0 n.toNat)⟩
      · rw [if_neg c] at P'
        exact P'.elim
    | _ => exact P'.elim
theorem si_enum (hg : Gl X "enumerate") (hm : X.mg "enumerate" = none) (h : SE X W pin e f) (hs : starEach [e] X.env = [(false, eval e X.env)] := by rfl) : SI X W pin (.Tuple elts kk tpos) (.Call (.Name "enumerate" p) [e] [] pos) (wEnum f) :=
  pi_mono (pi_enum hg hm (pa_cons (se_tk h) pa_nil hs) hs) fun σ H R ⟨b, Fz, F, δ, hp, Rr, P⟩ => by
    refine rd_valI hp Rr P fun v H' Fz' F' d δ' s R' A P' => ?_
    cases d with
    | list ds =>
      cases A with
      | lst h1 h2 => exact ⟨_, _, rfl, (same_sqX R'.le h1).sq, P' _ H' Fz' F' (Same.refl _) R' (wk_enum h1 h2)⟩
    | _ => exact P'.elim
theorem si_zip (hg : Gl X "zip") (hm : X.mg "zip" = none) (h : SE X W pin e f) (h2 : SE X W pin c g) (hs : starEach [e, c] X.env = (false, eval e X.env) :: starEach [c] X.env := by rfl) (hs2 : starEach [c] X.env = (false, eval c X.env) :: starEach [] X.env := by rfl) (hpl : (backTo pos (starEach [c] X.env)).any (·.1) = false := by rfl) :
    SI X W pin (.Tuple elts kk tpos) (.Call (.Name "zip" p) [e, c] [] pos) (wZip f g) :=
  pi_mono (RZ.pi_zipA hg hm (pa_cons (se_tk h) (pa_cons (se_tk h2) pa_nil hs2) hs) hs hpl) fun σ H R ⟨b, Fz, F, δ, hp, Rr, P⟩ => by
    refine rd_valI hp Rr P fun v H1 Fz1 F1 d δ1 s1 R1 A1 P1 => ?_
    refine rd_valI hp R1 P1 fun w H2 Fz2 F2 e δ2 s2 R2 A2 P2 => ?_
    cases d with
    | list ds =>
      cases e with
      | list es =>
        cases A1.mono s2 with
        | lst h1 h2 =>
          cases A2 with
          | lst h3 h4 => exact ⟨_, _, _, _, rfl, .inl ⟨(same_sqX R2.le h1).sq, (same_sqX R2.le h3).sq, P2 _ H2 Fz2 F2 (Same.refl _) R2 (wk_zip h1 h2 h3 h4)⟩⟩
      | _ => exact P2.elim
    | tuple ds =>
      cases e with
      | tuple es =>
        cases A1.mono s2 with
        | tup h1 h2 =>
          cases A2 with
          | tup h3 h4 => exact ⟨_, _, _, _, rfl, .inr ⟨SqT.of (R2.le _ _ h1), SqT.of (R2.le _ _ h3), P2 _ H2 Fz2 F2 (Same.refl _) R2 (wk_zipT (SqT.of h1) h2 (SqT.of h3) h4)⟩⟩
      | _ => exact P2.elim
    | _ => exact P2.elim
end
def forL (t : AV → List Sl → Rs Unit) (f : List Sl → Ot) : List PyData → List Sl → Ot
  | [], δ => .nx δ
  | d :: r, δ => match t (.val d) δ with
    | .ok _ δ1 => (match f δ1 with
      | .nx δ2 => forL t f r δ2
      | .ct δ2 => forL t f r δ2
      | .bk δ2 => .nx δ2
      | o => o)
    | .er x δ1 => .er x δ1
    | .bad => .bad
def oFor (w : List Sl → Rs (List PyData)) (t : AV → List Sl → Rs Unit) (f : List Sl → Ot) : List Sl → Ot := fun δ => (w δ).ot fun ds δ' => forL t f ds δ'
theorem ss_for {X : Cx} {W : WX} {pin ts : List Nat} {tg iter : Expr} {body : List Stmt} {w : List Sl → Rs (List PyData)} {t : AV → List Sl → Rs Unit} {u : List Sl → Ot} {pos : Pos} (hp : PassesOwn (model X.prog X.w) X.A X.env X.xe) (hc : X.calm = true) (hi : SI X W pin tg iter w) (hg : SG X W pin ts tg t) (hb : SSs X W pin body u)
    (hs : ∀ x, foldedSetIterable iter X.env x = pure x := by intro _; rfl) : SS X W pin (.For tg iter body [] pos) (oFor w t u) := ps_mono (ps_for hp hc hi hg hb hs) fun D σ H ⟨b, Fz, F, δ, hpin, R, P⟩ => by
  unfold oFor at P
  refine ⟨b, Fz, F, δ, hpin, R, ?_⟩
  cases q : w δ with
  | bad => rw [q] at P; exact P
  | er x δ' => rw [q] at P; exact PostXS.at_ P
  | ok ds δ' =>
    rw [q] at P
    have P : PostS X.K X.mg W b Fz D (forL t u ds δ') := P
    intro J H1 Fz1 F1 s1 R1 hw
    refine ⟨fun i m σ H => m = ds.length - i ∧ i ≤ ds.length ∧ ∃ Fz F δ, Same Fz1 Fz ∧ Rl X.K b Fz F δ σ H ∧ PostS X.K X.mg W b Fz D (forL t u (ds.drop i) δ), ⟨ds.length, by simp, Nat.zero_le _, Fz1, F1, δ', Same.refl _, R1, by rw [List.drop_zero]; exact PostS.le s1 P⟩, ?_⟩
    rintro i m σ2 H2 ⟨rfl, hi, Fz2, F2, δ2, s2, R2, P2⟩
    obtain ⟨go, stop⟩ := hw b Fz2 F2 δ2 σ2 H2 s2 R2
    by_cases hlt : i < ds.length
    · obtain ⟨g1, g2⟩ := go i hlt
      refine .inr ⟨g1, fun σ H => ∃ Fz F δ, Same Fz1 Fz ∧ Rl X.K b Fz F δ σ H ∧ PostS X.K X.mg W b Fz D (forL t u (ds.drop (i + 1)) δ), fun σ3 H3 h3 => ⟨ds.length - (i + 1), by omega, rfl, hlt, h3⟩, fun x H3 y => ?_⟩
      obtain ⟨Fz3, d, e1, s3, R3, r3⟩ := g2 x H3 y
      have ed : ds.drop i = d :: ds.drop (i + 1) := by
        rw [List.drop_eq_getElem_cons hlt]
        rw [List.getElem?_eq_getElem hlt] at e1
        rw [Option.some.inj e1]
      rw [ed] at P2
      unfold forL at P2
      refine ⟨b, Fz3, F2, δ2, .val d, hpin, R3, r3, ?_⟩
      cases q2 : t (.val d) δ2 with
      | bad => rw [q2] at P2; exact P2
      | er x δ3 => rw [q2] at P2; exact PostXS.le s3 P2
      | ok a δ3 =>
        simp only [q2] at P2
        intro σ4 H4 Fz4 F4 s4 R4 _
        refine ⟨b, Fz4, F4, δ3, hpin, R4, ?_⟩
        have s24 := s3.trans s4
        cases q3 : u δ3 with
        | nx δ4 =>
          simp only [q3] at P2
          exact fun σ5 H5 Fz5 F5 s5 R5 => ⟨Fz5, F5, δ4, (s2.trans s24).trans s5, R5, PostS.le (s24.trans s5) P2⟩
        | ct δ4 =>
          simp only [q3] at P2
          exact fun σ5 H5 Fz5 F5 s5 R5 => ⟨Fz5, F5, δ4, (s2.trans s24).trans s5, R5, PostS.le (s24.trans s5) P2⟩
        | bk δ4 => simp only [q3] at P2; exact PostS.le s24 P2
        | rt s δ4 => simp only [q3] at P2; exact PostS.le (r := .rt s δ4) s24 P2
        | er x δ4 => simp only [q3] at P2; exact PostS.le (r := .er x δ4) s24 P2
        | bad => simp only [q3] at P2; exact P2
    · have e : i = ds.length := by omega
      subst e
      rw [List.drop_length] at P2
      exact .inl ⟨stop, P2 σ2 H2 Fz2 F2 (Same.refl _) R2⟩
end Hb
namespace Hb
open PySem PySem.Spec PyProof.Rows L2
abbrev gd (b : Bk) (H : Hp) (g : List Addr) : Bk := ⟨Hb.addF b.B H g, b.F0, b.pin, b.so, b.T⟩
section
variable {K : PySem.W.Frag} {b : Bk} {Fz : Hp} {F : Nat → List Addr} {δ : List Sl} {σ : L2.St} {H : Hp}
theorem Rl.guard (R : Rl K b Fz F δ σ H) {g : List Addr} (hg : ∀ a ∈ g, Fz a = none ∧ b.B a = none ∧ ∀ k, a ∉ F k) (hp : ∀ a ∈ g, Pl (H a)) : Rl K (gd b H g) Fz F δ σ H where
  le := R.le
  base := addF_le R.base
  len := R.len
  slot := R.slot
  nd := R.nd
  dj := R.dj
  offF := R.offF
  offB := fun i a ha => by
    show Hb.addF b.B H g a = none
    rw [addF_out (fun z => (hg a z).2.2 i ha)]
    exact R.offB i a ha
  on := R.on
  keep := fun a ha => by
    have ha : Hb.addF b.B H g a ≠ none := ha
    show Fz a = b.F0 a ∨ ((∃ xs, Hb.addF b.B H g a = some (.tup xs)) ∧ Fz a = Hb.addF b.B H g a)
    by_cases q : a ∈ g
    · left
      rw [(hg a q).1]
      cases e : b.F0 a with
      | none => rfl
      | some o => exact absurd (hg a q).2.1 (R.f0 a (by rw [e]; simp))
    · rw [addF_out q] at ha ⊢
      exact R.keep a ha
  f0 := fun a ha => by
    have h := R.f0 a ha
    show Hb.addF b.B H g a ≠ none
    rw [addF_out fun z => h (hg a z).2.1]
    exact h
  pin := R.pin
  als := R.als
  noT := R.noT
  tb := fun p hq => ⟨(R.tb p hq).1, (R.tb p hq).2.1, by
    show Hb.addF b.B H g p.1 = none
    rw [addF_out fun z => R.tb.tbl hq (hp _ z)]
    exact (R.tb p hq).2.2⟩
  tp := R.tp
theorem Rl.guarded {H' Fz' : Hp} {F' : Nat → List Addr} {δ' : List Sl} {σ' : L2.St} {g : List Addr} (R : Rl K (gd b H g) Fz' F' δ' σ' H') (hB : ∀ a ∈ g, b.B a = none) (f0 : ∀ a, b.F0 a ≠ none → b.B a ≠ none) (hH : ∀ a ∈ g, H a ≠ none) (hT : ∀ a ∈ g, Pl (H a)) :
    ∀ a ∈ g, H' a = H a ∧ Fz' a = none ∧ ∀ k, a ∉ F' k := fun a ha => by
  have e : (gd b H g).B a = H a := addF_in ha
  have n : (gd b H g).B a ≠ none := by rw [e]; exact hH a ha
  refine ⟨?_, ?_, fun k hk => n (R.offB k a hk)⟩
  · cases q : H a with
    | none => exact absurd q (hH a ha)
    | some o => exact R.base a o (e.trans q)
  · rcases R.keep a n with k | ⟨⟨xs, k⟩, _⟩
    · rw [k]
      cases q : b.F0 a with
      | none => rfl
      | some o => exact absurd (hB a ha) (f0 a (by rw [q]; simp))
    · rw [e] at k
      exact ((hT a ha).tup k).elim
theorem Rl.unguard {H' : Hp} {g : List Addr} (R : Rl K (gd b H g) Fz F δ σ H') (hB : ∀ a ∈ g, b.B a = none) (f0 : ∀ a, b.F0 a ≠ none → b.B a ≠ none) : Rl K b Fz F δ σ H' where
  le := R.le
  base := fun a o e => R.base a o (by
    show Hb.addF b.B H g a = some o
    rw [addF_out fun z => by rw [hB a z] at e; cases e]
    exact e)
  len := R.len
  slot := R.slot
  nd := R.nd
  dj := R.dj
  offF := R.offF
  offB := fun i a ha => by
    have h : Hb.addF b.B H g a = none := R.offB i a ha
    by_cases q : a ∈ g
    · exact hB a q
    · rw [addF_out q] at h
      exact h
  on := R.on
  keep := fun a ha => by
    have eb : (gd b H g).B a = b.B a := addF_out fun z => ha (hB a z)
    have h := R.keep a (by rw [eb]; exact ha)
    rw [eb] at h
    exact h
  f0 := f0
  pin := R.pin
  als := R.als
  noT := R.noT
  tb := fun p hq => ⟨(R.tb p hq).1, (R.tb p hq).2.1, by
    have h : Hb.addF b.B H g p.1 = none := (R.tb p hq).2.2
    by_cases q : p.1 ∈ g
    · exact hB _ q
    · rwa [addF_out q] at h⟩
  tp := R.tp
/-- what nobody here knows of changes -/
theorem Rl.other (R : Rl K b Fz F δ σ H) {D : Addr} {o : HO} (h1 : Fz D = none) (h2 : b.B D = none) (h3 : ∀ k, D ∉ F k) (h4 : Pl (H D)) : Rl K b Fz F δ σ (upd H D o) where
  le := fun a x e => by
    rw [upd_ne fun z => by rw [z, h1] at e; cases e]
    exact R.le a x e
  base := fun a x e => by
    rw [upd_ne fun z => by rw [z, h2] at e; cases e]
    exact R.base a x e
  len := R.len
  slot := fun i s e => (R.slot i s e).keeps (Same.refl _) (fun a ha => upd_ne fun z => h3 i (by rw [← z]; exact ha)) fun x j ej a ha => upd_ne fun z => by
    subst ej
    subst z
    obtain ⟨xs, hx⟩ := R.als i x j e
    obtain ⟨l, vs, g, p1, p2, _⟩ := R.slot x _ hx
    rw [ha] at p1
    cases p1
    exact h3 x (by rw [p2]; exact List.mem_cons_self)
  nd := R.nd
  dj := R.dj
  offF := R.offF
  offB := R.offB
  on := fun i a ha => by
    rw [upd_ne fun z => h3 i (by rw [← z]; exact ha)]
    exact R.on i a ha
  keep := R.keep
  f0 := R.f0
  pin := R.pin
  als := R.als
  noT := fun i a ha => by
    rw [upd_ne fun z => h3 i (by rw [← z]; exact ha)]
    exact R.noT i a ha
  tb := R.tb.upd (.inr h4)
  tp := R.tp
def plainS : Option Sl → Bool
  | some .no => true
  | some (.fz _) => true
  | _ => false
def okW (vs : List Nat) (δ : List Sl) : Bool := vs.all fun v => plainS δ[v]?
def wipeD (vs : List Nat) (δ : List Sl) : List Sl := vs.foldr (fun v δ => δ.set v .no) δ
def unw (vs : List Nat) (δ δ' : List Sl) : List Sl := vs.foldr (fun v δ' => upS v (δ[v]?.getD .no) δ') δ'
theorem Rl.wipe1 (R : Rl K b Fz F δ σ H) {v : Nat} (hv : plainS δ[v]? = true) (hp : v ∉ b.pin) : Rl K b Fz F (δ.set v .no) (σ.set v none) H := by
  have hF : F v = [] := by
    cases q : δ[v]? with
    | none => rw [q] at hv; cases hv
    | some s =>
      have h := R.slot v s q
      rw [q] at hv
      cases s with
      | no => exact h
      | fz d => exact h.1
      | _ => cases hv
  have hx : ∀ (x : Nat) xs, δ[x]? = some (.ol xs) → x ≠ v := fun x xs e z => by
    rw [z] at e
    rw [e] at hv
    cases hv
  refine ⟨R.le, R.base, by rw [List.length_set, List.length_set]; exact R.len, fun i s e => ?_, R.nd, R.dj, R.offF, R.offB, R.on, R.keep, R.f0, fun i hi => ?_, fun i x j e => ?_, R.noT, R.tb, R.tp⟩
  · by_cases q : i = v
    · subst q
      have hl : i < δ.length := by
        have := (List.getElem?_eq_some_iff.mp e).1
        rwa [List.length_set] at this
      rw [List.getElem?_set_self hl] at e
      cases e
      exact hF
    · rw [List.getElem?_set_ne (Ne.symm q)] at e
      have h := R.slot i s e
      rw [List.getElem?_set_ne (Ne.symm q)]
      cases s with
      | al x j =>
        obtain ⟨h0, a, c, ws, h1, h2⟩ := h
        obtain ⟨xs, e2⟩ := R.als i x j e
        exact ⟨h0, a, c, ws, by rw [List.getElem?_set_ne (Ne.symm (hx x xs e2))]; exact h1, h2⟩
      | no => exact h
      | fz d => exact h
      | ol xs => exact h
      | od kvs => exact h
  · rw [List.getElem?_set_ne fun z => hp (by rw [z]; exact hi)]
    exact R.pin i hi
  · by_cases q : i = v
    · subst q
      have hl : i < δ.length := by
        have := (List.getElem?_eq_some_iff.mp e).1
        rwa [List.length_set] at this
      rw [List.getElem?_set_self hl] at e
      cases e
    · rw [List.getElem?_set_ne (Ne.symm q)] at e
      obtain ⟨xs, e2⟩ := R.als i x j e
      exact ⟨xs, by rw [List.getElem?_set_ne (Ne.symm (hx x xs e2))]; exact e2⟩
theorem plain_wipe {v : Nat} {δ : List Sl} (h : plainS δ[v]? = true) : ∀ vs : List Nat, plainS (wipeD vs δ)[v]? = true
  | [] => h
  | w :: vs => by
    show plainS ((wipeD vs δ).set w .no)[v]? = true
    have ih := plain_wipe h vs
    by_cases e : v = w
    · subst e
      by_cases hl : v < (wipeD vs δ).length
      · rw [List.getElem?_set_self hl]; rfl
      · rw [List.getElem?_eq_none (by omega)] at ih
        cases ih
    · rw [List.getElem?_set_ne (Ne.symm e)]
      exact ih
theorem Rl.wipe (R : Rl K b Fz F δ σ H) : ∀ {vs : List Nat}, okW vs δ = true → (∀ v ∈ vs, v ∉ b.pin) → Rl K b Fz F (wipeD vs δ) (L2.wipe σ vs) H
  | [], _, _ => R
  | v :: vs, h, hp => by
    have h' : plainS δ[v]? = true ∧ okW vs δ = true := by
      unfold okW at h ⊢
      rwa [List.all_cons, Bool.and_eq_true] at h
    exact (R.wipe h'.2 fun w hw => hp w (List.mem_cons_of_mem _ hw)).wipe1 (plain_wipe h'.1 vs) (hp v List.mem_cons_self)
theorem wipe_get {σ : L2.St} {k : Nat} : ∀ {vs : List Nat}, k ∉ vs → (L2.wipe σ vs)[k]? = σ[k]?
  | [], _ => rfl
  | v :: vs, h => by
    unfold L2.wipe
    rw [List.getElem?_set_ne fun z => h (by rw [z]; exact List.mem_cons_self)]
    exact wipe_get fun z => h (List.mem_cons_of_mem _ z)
theorem wipe_in {σ : L2.St} {k : Nat} : ∀ {vs : List Nat}, k ∈ vs → k < σ.length → (L2.wipe σ vs)[k]? = some none
  | v :: vs, h, hl => by
    unfold L2.wipe
    by_cases e : k = v
    · subst e
      rw [List.getElem?_set_self (by rw [L2.wipe_length]; exact hl)]
    · rw [List.getElem?_set_ne (Ne.symm e)]
      exact wipe_in ((List.mem_cons.mp h).resolve_left e) hl
theorem wipe_eq {σ σ2 : L2.St} {vs : List Nat} (hl : σ2.length = σ.length) (h : ∀ k, k ∉ vs → σ2[k]? = σ[k]?) : L2.wipe σ2 vs = L2.wipe σ vs := by
  refine List.ext_getElem? fun k => ?_
  by_cases q : k ∈ vs
  · by_cases hk : k < σ.length
    · rw [wipe_in q hk, wipe_in q (by rw [hl]; exact hk)]
    · rw [List.getElem?_eq_none (by rw [L2.wipe_length]; omega), List.getElem?_eq_none (by rw [L2.wipe_length]; omega)]
  · rw [wipe_get q, wipe_get q]
    exact h k q
def rst (vs : List Nat) (σ σ2 : L2.St) : L2.St := vs.foldr (fun v τ => τ.set v (σ[v]?.join)) σ2
theorem rst_len (vs : List Nat) (σ σ2 : L2.St) : (rst vs σ σ2).length = σ2.length := by
  induction vs with
  | nil => rfl
  | cons v vs ih =>
    show ((rst vs σ σ2).set v _).length = _
    rw [List.length_set, ih]
theorem rst_eq {vs : List Nat} {σ σ2 : L2.St} (hl : σ2.length = σ.length) (h : ∀ k, k ∉ vs → σ2[k]? = σ[k]?) : rst vs σ σ2 = σ := by
  have key : ∀ ws : List Nat, ∀ k, (k ∈ ws → (rst ws σ σ2)[k]? = σ[k]?) ∧ (k ∉ ws → (rst ws σ σ2)[k]? = σ2[k]?) := by
    intro ws
    induction ws with
    | nil => exact fun k => ⟨(fun z => nomatch z), fun _ => rfl⟩
    | cons v ws ih =>
      intro k
      have e : rst (v :: ws) σ σ2 = (rst ws σ σ2).set v (σ[v]?.join) := rfl
      rw [e]
      by_cases q : k = v
      · subst q
        refine ⟨fun _ => ?_, fun z => absurd List.mem_cons_self z⟩
        by_cases hk : k < σ.length
        · rw [List.getElem?_set_self (by rw [rst_len]; omega), List.getElem?_eq_getElem hk]
          rfl
        · rw [List.getElem?_eq_none (by rw [List.length_set, rst_len]; omega), List.getElem?_eq_none (by omega)]
      · rw [List.getElem?_set_ne (Ne.symm q)]
        exact ⟨fun z => (ih k).1 ((List.mem_cons.mp z).resolve_left q), fun z => (ih k).2 fun y => z (List.mem_cons_of_mem _ y)⟩
  refine List.ext_getElem? fun k => ?_
  by_cases q : k ∈ vs
  · exact (key vs k).1 q
  · rw [(key vs k).2 q]
    exact h k q
/-- the outer slots come back -/
theorem Rl.unwipe {δ' : List Sl} {σ2 : L2.St} (R2 : Rl K b Fz F δ' σ2 H) (hl : σ2.length = σ.length) : ∀ {vs : List Nat}, (∀ v ∈ vs, v ∉ b.pin) → (∀ v ∈ vs, ∀ s, δ[v]? = some s → SlH K Fz H [] [] (σ[v]?.join) s ∧ (∀ x j, s ≠ .al x j)) →
    ∃ F', Rl K b Fz F' (unw vs δ δ') (rst vs σ σ2) H ∧ ∀ k a, a ∈ F' k → a ∈ F k
  | [], _, _ => ⟨F, R2, fun _ _ h => h⟩
  | v :: vs, hp, hs => by
    obtain ⟨F1, R1, h1⟩ := Rl.unwipe R2 hl (vs := vs) (fun w hw => hp w (List.mem_cons_of_mem _ hw)) fun w hw => hs w (List.mem_cons_of_mem _ hw)
    have e1 : rst (v :: vs) σ σ2 = (rst vs σ σ2).set v (σ[v]?.join) := rfl
    have e2 : unw (v :: vs) δ δ' = upS v (δ[v]?.getD .no) (unw vs δ δ') := rfl
    rw [e1, e2]
    refine ⟨fun k => if k = v then [] else F1 k, R1.put (Same.refl _) R1.le R1.base List.length_set (fun k hk => List.getElem?_set_ne (Ne.symm hk)) (.inr (hp v List.mem_cons_self)) (fun hlt => ?_) (fun x j z => ?_) List.nodup_nil (fun _ z => nomatch z) (fun _ z => nomatch z) (fun _ z => nomatch z) (fun _ z => nomatch z) (fun _ _ _ _ => rfl) (fun k _ a ha => R1.offF k a ha) (fun _ _ => rfl), fun k a ha => ?_⟩
    · rw [List.getElem?_set_self (by rw [R1.len]; exact hlt)]
      cases q : δ[v]? with
      | none => exact rfl
      | some s =>
        obtain ⟨g1, g2⟩ := hs v List.mem_cons_self s q
        cases s with
        | al x j => exact absurd rfl (g2 x j)
        | no => exact g1
        | fz d => exact g1
        | ol xs => exact g1
        | od kvs => exact g1
    · cases q : δ[v]? with
      | none => rw [q] at z; cases z
      | some s =>
        rw [q] at z
        exact absurd z ((hs v List.mem_cons_self s q).2 x j)
    · have ha : a ∈ (if k = v then [] else F1 k) := ha
      by_cases q : k = v
      · rw [if_pos q] at ha; cases ha
      · rw [if_neg q] at ha
        exact h1 k a ha
end
abbrev W0 : WX := fun _ _ _ _ => False
/-- an item for the list: a tree, or (w) a list of its own -/
def elOf (w : Bool) : AV → Option El
  | .val d => some (.fz d)
  | .tmp (.ol xs) => if w = true then (allFz xs).map .ow else none
  | _ => none
def lcL (w : Bool) (vs : List Nat) (t : AV → List Sl → Rs Unit) (tt : List Sl → Rs Bool) (f : List Sl → Rs AV) : List PyData → List El → List Sl → Rs (List El)
  | [], es, δ => .ok es δ
  | d :: r, es, δ => if okW vs δ = true then (match t (.val d) (wipeD vs δ) with
    | .ok _ δ1 => (match tt δ1 with
      | .ok k δ2 => if k = true then (match f δ2 with
        | .ok a δ3 => (match elOf w a with
          | some e => if es.length ≤ cap then lcL w vs t tt f r (es ++ [e]) (unw vs δ δ3) else .bad
          | none => .bad)
        | _ => .bad) else lcL w vs t tt f r es (unw vs δ δ2)
      | _ => .bad)
    | _ => .bad) else .bad
def sLc (w : Bool) (wi : List Sl → Rs (List PyData)) (vs : List Nat) (t : AV → List Sl → Rs Unit) (tt : List Sl → Rs Bool) (f : List Sl → Rs AV) : List Sl → Rs AV := fun δ => (wi δ).bind fun ds δ1 => (lcL w vs t tt f ds [] δ1).bind fun es δ2 => .ok (.tmp (.ol es)) δ2
def tOk : List Sl → Rs Bool := fun δ => .ok true δ
theorem elOf_ok {K : PySem.W.Frag} {b : Bk} {Fz : Hp} {F : Nat → List Addr} {σ : L2.St} {H : Hp} {w : Bool} {a : AV} {e : El} {y : V} (A : AvR K b Fz F H σ y a) (h : elOf w a = some e) :
    ∃ g, ElR K Fz H g y e ∧ g.Nodup ∧ ∀ a ∈ g, Fz a = none ∧ b.B a = none ∧ H a ≠ none ∧ ∀ i, a ∉ F i := by
  cases a with
  | val d => cases h; exact ⟨[], ⟨rfl, A⟩, List.nodup_nil, fun _ z => nomatch z⟩
  | ref i => cases h
  | tmp s =>
    cases s with
    | ol xs =>
      unfold elOf at h
      by_cases c : w = true
      · simp only [if_pos c] at h
        cases q : allFz xs with
        | none => rw [q] at h; cases h
        | some ds =>
          rw [q] at h
          cases h
          obtain ⟨_, g, ⟨l, vs, g', e1, e2, e3, e4⟩, hn, hg⟩ := A
          cases e1
          have rp := e4.allFz q
          refine ⟨[l], ⟨l, vs, rfl, rfl, e3, rp⟩, by simp, fun c hc => hg c ?_⟩
          rw [List.mem_singleton] at hc
          rw [hc, e2]
          exact List.mem_cons_self
      · simp only [if_neg c] at h
        cases h
    | _ => cases h
theorem lc_ok {K : PySem.W.Frag} {mg : Str → Option Value} {W : WX} {pin ts vs : List Nat} {w : Bool} {wi : List Sl → Rs (List PyData)} {t : AV → List Sl → Rs Unit} {tt : List Sl → Rs Bool} {f : List Sl → Rs AV} {tT : TT} (hv : ∀ v ∈ vs, v ∉ pin) (hts : ∀ v ∈ ts, v ∈ vs) (hT : ∀ σ H Q, rdT K mg W0 pin tt σ H Q → tT σ H Q) :
    ∀ σ H Q, rdE K mg W pin (sLc w wi vs t tt f) σ H Q → tLc (rdI K mg W pin wi) (rdG K mg W0 pin ts t) tT (rdE K mg W0 pin f) vs σ H Q := fun σ H Q ⟨b, Fz, F, δ, hpin, R, P⟩ => by
  refine ⟨b, Fz, F, δ, hpin, R, ?_⟩
  unfold sLc at P
  cases q : wi δ with
  | bad => rw [q] at P; exact P
  | er x δ' => rw [q] at P; exact P
  | ok ds δ1 =>
    rw [q] at P
    have P : Post K mg W b Fz σ Q ((lcL w vs t tt f ds [] δ1).bind fun es δ2 => .ok (.tmp (.ol es)) δ2) := P
    intro J H1 Fz1 F1 s1 R1 hw D hD
    obtain ⟨d1, d2, d3⟩ := R1.offN hD
    refine ⟨fun i m H => m = ds.length - i ∧ i ≤ ds.length ∧ ∃ Fz F δ acc es g, Same Fz1 Fz ∧ Rl K b Fz F δ σ H ∧ H D = some (.lst acc) ∧ ElL K Fz H g acc es ∧ (D :: g).Nodup ∧ (∀ a ∈ D :: g, Fz a = none ∧ b.B a = none ∧ H a ≠ none ∧ ∀ k, a ∉ F k) ∧ Post K mg W b Fz σ Q ((lcL w vs t tt f (ds.drop i) es δ).bind fun es δ2 => .ok (.tmp (.ol es)) δ2),
      ⟨ds.length, by simp, Nat.zero_le _, Fz1, F1, δ1, [], [], [], Same.refl _, R1.new hD _, upd_same, .nil, by simp, fun a ha => ?_, by rw [List.drop_zero]; exact P.le s1⟩, ?_⟩
    · rw [List.mem_singleton] at ha
      subst ha
      exact ⟨d1, d2, by rw [upd_same]; simp, d3⟩
    rintro i m H2 ⟨rfl, hi, Fz2, F2, δ2, acc, es, g, s2, R2, hacc, hes, hnd, hg, P2⟩
    have gB : ∀ a ∈ D :: g, b.B a = none := fun a ha => (hg a ha).2.1
    have gH : ∀ a ∈ D :: g, H2 a ≠ none := fun a ha => (hg a ha).2.2.1
    have gT : ∀ a ∈ D :: g, Pl (H2 a) := fun a ha => by
      rcases List.mem_cons.mp ha with z | z
      · rw [z, hacc]; exact .lst
      · exact hes.noT a z
    have Rg := R2.guard (g := D :: g) (fun a ha => ⟨(hg a ha).1, (hg a ha).2.1, (hg a ha).2.2.2⟩) gT
    obtain ⟨go, stop⟩ := hw _ Fz2 F2 δ2 σ H2 s2 Rg
    by_cases hlt : i < ds.length
    · obtain ⟨g1, g2⟩ := go i hlt
      refine .inr ⟨g1, fun H => ∃ Fz F δ acc es g, Same Fz1 Fz ∧ Rl K b Fz F δ σ H ∧ H D = some (.lst acc) ∧ ElL K Fz H g acc es ∧ (D :: g).Nodup ∧ (∀ a ∈ D :: g, Fz a = none ∧ b.B a = none ∧ H a ≠ none ∧ ∀ k, a ∉ F k) ∧ Post K mg W b Fz σ Q ((lcL w vs t tt f (ds.drop (i + 1)) es δ).bind fun es δ2 => .ok (.tmp (.ol es)) δ2),
        fun H3 h3 => ⟨ds.length - (i + 1), by omega, rfl, hlt, h3⟩, fun x H3 y => ?_⟩
      obtain ⟨Fz3, d, e1, s3, R3, r3⟩ := g2 x H3 y
      have ed : ds.drop i = d :: ds.drop (i + 1) := by
        rw [List.drop_eq_getElem_cons hlt]
        rw [List.getElem?_eq_getElem hlt] at e1
        rw [Option.some.inj e1]
      rw [ed] at P2
      unfold lcL at P2
      by_cases cw : okW vs δ2 = true
      · rw [if_pos cw] at P2
        have hvb : ∀ v ∈ vs, v ∉ b.pin := by rw [hpin]; exact hv
        have R4 := R3.wipe cw hvb
        -- how it ends for a state behind the turn
        have back : ∀ {δ5 : List Sl} {σ5 : L2.St} {H5 Fz5 : Hp} {F5 : Nat → List Addr}, Same Fz2 Fz5 → Rl K (gd b H2 (D :: g)) Fz5 F5 δ5 σ5 H5 → σ5.length = σ.length → (∀ k, k ∉ vs → σ5[k]? = σ[k]?) → ∃ F6, Rl K b Fz5 F6 (unw vs δ2 δ5) σ H5 ∧ ∀ k a, a ∈ F6 k → a ∈ F5 k := by
          intro δ5 σ5 H5 Fz5 F5 s25 R5 hl5 fr5
          have R6 := R5.unguard gB R2.f0
          obtain ⟨F6, R7, h7⟩ := Rl.unwipe (σ := σ) (δ := δ2) R6 hl5 (vs := vs) hvb fun v hvv s hs => by
            have h0 := R2.slot v s hs
            have hpl : plainS δ2[v]? = true := by
              unfold okW at cw
              exact List.all_eq_true.mp cw v hvv
            rw [hs] at hpl
            cases s with
            | no => exact ⟨rfl, fun x j z => nomatch z⟩
            | fz d' =>
              obtain ⟨_, v', k1, k2⟩ := h0
              exact ⟨⟨rfl, v', k1, k2.mono s25⟩, fun x j z => nomatch z⟩
            | _ => cases hpl
          rw [rst_eq hl5 fr5] at R7
          exact ⟨F6, R7, h7⟩
        have fits : ∀ {δ5 : List Sl} {σ5 : L2.St} {H5 Fz5 : Hp} {F5 : Nat → List Addr}, Rl K (gd b H2 (D :: g)) Fz5 F5 δ5 σ5 H5 → ∀ a ∈ D :: g, H5 a = H2 a ∧ Fz5 a = none ∧ ∀ k, a ∉ F5 k := fun R5 => R5.guarded gB R2.f0 gH gT
        refine ⟨gd b H2 (D :: g), Fz3, F2, wipeD vs δ2, .val d, hpin, R4, r3, ?_⟩
        cases q2 : t (.val d) (wipeD vs δ2) with
        | bad => simp only [q2] at P2; exact P2
        | er x δ3 => simp only [q2] at P2; exact P2.elim
        | ok u δ3 =>
          simp only [q2] at P2
          intro σ4 H4 Fz4 F4 s4 R5 fr
          have hl4 : σ4.length = σ.length := by rw [fr.1, L2.wipe_length]
          have fr4 : ∀ k, k ∉ vs → σ4[k]? = σ[k]? := fun k hk => (fr.2 k fun z => hk (hts k z)).trans (wipe_get hk)
          refine ⟨wipe_eq hl4 fr4, ?_⟩
          have s24 : Same Fz2 Fz4 := s3.trans s4
          refine hT _ _ _ ⟨gd b H2 (D :: g), Fz4, F4, δ3, hpin, R5, ?_⟩
          cases q3 : tt δ3 with
          | bad => simp only [q3] at P2; exact P2.elim
          | er x δ4 => simp only [q3] at P2; exact P2.elim
          | ok k δ4 =>
            simp only [q3] at P2
            intro H5 Fz5 F5 s5 R6
            by_cases ck : k = true
            · rw [if_pos ck] at P2 ⊢
              refine ⟨gd b H2 (D :: g), Fz5, F5, δ4, hpin, R6, ?_⟩
              cases q4 : f δ4 with
              | bad => simp only [q4] at P2; exact P2.elim
              | er x δ5 => simp only [q4] at P2; exact P2.elim
              | ok a δ5 =>
                simp only [q4] at P2
                cases q5 : elOf w a with
                | none => simp only [q5] at P2; exact P2.elim
                | some e =>
                  simp only [q5] at P2
                  by_cases cl : es.length ≤ cap
                  · rw [if_pos cl] at P2
                    intro y H6 Fz6 F6 s6 R7 A
                    have s26 : Same Fz2 Fz6 := (s24.trans s5).trans s6
                    obtain ⟨ge, he, hne, hge⟩ := elOf_ok A q5
                    obtain ⟨F7, R8, h7⟩ := back s26 R7 hl4 fr4
                    have fit := fits R7
                    have fD := fit D List.mem_cons_self
                    have eD : H6 D = some (.lst acc) := fD.1.trans hacc
                    refine ⟨acc, eD, by rw [hes.len]; exact lt_line cl, ?_⟩
                    have gnot : ∀ a ∈ ge, a ∉ D :: g := fun a ha z => by
                      have h1 : (gd b H2 (D :: g)).B a = none := (hge a ha).2.1
                      have h2 : Hb.addF b.B H2 (D :: g) a = H2 a := addF_in z
                      have h3 : H2 a = none := h2.symm.trans h1
                      exact gH a z h3
                    have geB : ∀ a ∈ ge, b.B a = none := fun a ha => by
                      have h1 : Hb.addF b.B H2 (D :: g) a = none := (hge a ha).2.1
                      rwa [addF_out (gnot a ha)] at h1
                    have neD : ∀ a ∈ g, a ≠ D := fun a ha z => (List.nodup_cons.mp hnd).1 (by rw [← z]; exact ha)
                    have neD2 : ∀ a ∈ ge, a ≠ D := fun a ha z => gnot a ha (by rw [z]; exact List.mem_cons_self)
                    have R9 := R8.other (D := D) (o := .lst (acc ++ [y])) fD.2.1 (gB D List.mem_cons_self) (fun k hk => fD.2.2 k (h7 k D hk)) (by rw [fD.1.trans hacc]; exact .lst)
                    have E1 : ElL K Fz6 (upd H6 D (.lst (acc ++ [y]))) g acc es := hes.keeps s26 fun a ha => by
                      rw [upd_ne (neD a ha)]
                      exact (fit a (List.mem_cons_of_mem _ ha)).1
                    have E2 : ElL K Fz6 (upd H6 D (.lst (acc ++ [y]))) (ge ++ []) [y] [e] := .cons (he.keeps (Same.refl _) fun a ha => upd_ne (neD2 a ha)) .nil
                    rw [List.append_nil] at E2
                    refine ⟨Fz6, F7, _, acc ++ [y], es ++ [e], g ++ ge, s2.trans s26, R9, upd_same, E1.app E2, ?_, fun a ha => ?_, P2.le s26⟩
                    · rw [List.nodup_cons, List.nodup_append]
                      refine ⟨fun z => ?_, (List.nodup_cons.mp hnd).2, hne, fun a ha c hc z => ?_⟩
                      · rcases List.mem_append.mp z with z | z
                        · exact (List.nodup_cons.mp hnd).1 z
                        · exact gnot D z List.mem_cons_self
                      · subst z
                        exact gnot a hc (List.mem_cons_of_mem _ ha)
                    · have cases3 : a = D ∨ a ∈ g ∨ a ∈ ge := by
                        rcases List.mem_cons.mp ha with z | z
                        · exact .inl z
                        · exact .inr (List.mem_append.mp z)
                      rcases cases3 with z | z | z
                      · subst z
                        exact ⟨fD.2.1, gB a List.mem_cons_self, by rw [upd_same]; simp, fun k hk => fD.2.2 k (h7 k a hk)⟩
                      · have fa := fit a (List.mem_cons_of_mem _ z)
                        exact ⟨fa.2.1, gB a (List.mem_cons_of_mem _ z), by rw [upd_ne (neD a z), fa.1]; exact gH a (List.mem_cons_of_mem _ z), fun k hk => fa.2.2 k (h7 k a hk)⟩
                      · have fa := hge a z
                        exact ⟨fa.1, geB a z, by rw [upd_ne (neD2 a z)]; exact fa.2.2.1, fun k hk => fa.2.2.2 k (h7 k a hk)⟩
                  · rw [if_neg cl] at P2
                    exact P2.elim
            · rw [if_neg ck] at P2 ⊢
              have s25 : Same Fz2 Fz5 := s24.trans s5
              obtain ⟨F7, R8, h7⟩ := back s25 R6 hl4 fr4
              have fit := fits R6
              refine ⟨Fz5, F7, _, acc, es, g, s2.trans s25, R8, (fit D List.mem_cons_self).1.trans hacc, hes.keeps s25 fun a ha => (fit a (List.mem_cons_of_mem _ ha)).1, hnd, fun a ha => ?_, P2.le s25⟩
              have fa := fit a ha
              exact ⟨fa.2.1, gB a ha, by rw [fa.1]; exact gH a ha, fun k hk => fa.2.2 k (h7 k a hk)⟩
      · rw [if_neg cw] at P2
        exact P2.elim
    · have e : i = ds.length := by omega
      subst e
      rw [List.drop_length] at P2
      refine .inl ⟨stop, ?_⟩
      exact P2 (.ref D) H2 Fz2 F2 (Same.refl _) R2 ⟨rfl, D :: g, ⟨D, acc, g, rfl, rfl, hacc, hes⟩, hnd, fun a ha => hg a ha⟩
section
variable {X : Cx} {W : WX} {pin ts : List Nat} {elt tg iter : Expr} {ifs : List Expr} {scope : Scope} {own : List (Str × Nat)} {pos : Pos} {wi : List Sl → Rs (List PyData)} {t : AV → List Sl → Rs Unit} {tt : List Sl → Rs Bool} {f : List Sl → Rs AV}
/-- the block's context -/
abbrev BX (X : Cx) (scope : Scope) (s : Shared) (H : Hp) (C : Addr) (cl : List (Str × Addr)) (fp : List Addr) : Cx := X.blk s H scope (compEnvC scope cl C X.env) fp
abbrev STs (X : Cx) (pin : List Nat) (ifs : List Expr) (tt : List Sl → Rs Bool) : Prop := PTs X ifs (rdT X.K X.mg W0 pin tt)
theorem pts_mono {X : Cx} {es : List Expr} {t t' : TT} (h : PTs X es t) (i : ∀ σ H Q, t' σ H Q → t σ H Q) : PTs X es t' := ⟨fun pins s σ H Q I q => h.run pins s σ H Q I (i σ H Q q)⟩
theorem sts_nil {X : Cx} : STs X pin [] tOk := pts_mono pts_nil fun σ H Q ⟨b, Fz, F, δ, hp, R, P⟩ => P H Fz F (Same.refl _) R
theorem sts_one {X : Cx} {c : Expr} (h : ST X W0 pin c tt) : STs X pin [c] tt := pts_one h
theorem se_lc (w : Bool) (hc : X.calm = true) (hN : X.N.Nodup) (hi : SI X W pin tg iter wi) (ok : blkC X.N X.env.scope scope own = true) (hv : ∀ v ∈ own.map (·.2), v ∉ pin) (hts : ∀ v ∈ ts, v ∈ own.map (·.2))
    (hg : ∀ s H C cl fp, SG (BX X scope s H C cl fp) W0 pin ts tg t) (ht : ∀ s H C cl fp, STs (BX X scope s H C cl fp) pin ifs tt) (he : ∀ s H C cl fp, SE (BX X scope s H C cl fp) W0 pin elt f) (hs : ∀ x, foldedSetIterable iter X.env x = pure x := by intro _; rfl) :
    SE X W pin (.ListComp elt [⟨tg, iter, ifs, 0⟩] scope pos) (sLc w wi (own.map (·.2)) t tt f) :=
  pe_mono (pe_lc hc hN hi (blkOk_by ok) hg ht he hs) (lc_ok hv hts fun _ _ _ h => h)
theorem ss_setLc (w : Bool) {i : Nat} {y : Str} {py spos : Pos} (hc : X.calm = true) (hN : X.N.Nodup) (hy : X.N[i]? = some y) (hyl : X.env.scope.names.lookup y = some .local) (hp : i ∉ pin)
    (hsw : swapsWith (.ListComp elt [⟨tg, iter, ifs, 0⟩] scope pos) (some (.Name y py)) spos.line X.env = pure true) (hi : SI X W pin tg iter wi) (ok : blkC X.N X.env.scope scope own = true) (hv : ∀ v ∈ own.map (·.2), v ∉ pin) (hts : ∀ v ∈ ts, v ∈ own.map (·.2))
    (hg : ∀ s H C cl fp, SG (BX X scope s H C cl fp) W0 pin ts tg t) (ht : ∀ s H C cl fp, STs (BX X scope s H C cl fp) pin ifs tt) (he : ∀ s H C cl fp, SE (BX X scope s H C cl fp) W0 pin elt f) (hs : ∀ x, foldedSetIterable iter X.env x = pure x := by intro _; rfl) :
    SS X W pin (.Assign [.Name y py] (.ListComp elt [⟨tg, iter, ifs, 0⟩] scope pos) spos) (oAsg (sLc w wi (own.map (·.2)) t tt f) (tgN i)) :=
  ps_mono (L2.ps_setLc hc hN hy hyl hsw hi (blkOk_by ok) hg ht he hs) fun D σ H ⟨b, Fz, F, δ, hpin, R, P⟩ => by
    refine lc_ok (K := X.K) (mg := X.mg) (W := W) (w := w) (wi := wi) (t := t) (tt := tt) (f := f) (tT := rdT X.K X.mg W0 pin tt) hv hts (fun _ _ _ h => h) σ H _ ?_
    refine rdS_bind hpin R P fun v H' Fz' F' a δ' s R' A P' => ?_
    refine tgN_ok (K := X.K) (mg := X.mg) (W := W) (b := b) (ts := [i]) (List.mem_singleton.mpr rfl) (by rw [hpin]; exact hp) R' A ?_
    cases q : tgN i a δ' with
    | bad => rw [q] at P'; exact P'
    | er x δ2 => rw [q] at P'; exact P'
    | ok u δ2 =>
      rw [q] at P'
      exact fun σ2 H2 Fz2 F2 s2 R2 _ => P' σ2 H2 Fz2 F2 s2 R2
end
end Hb
namespace Hb
open PySem PySem.Spec PyProof.Rows L2
/-- an argument: a tree that stands still; the slot k by reference; a new thing of the callee's own -/
inductive Ar where
  | fz (d : PyData) | io (k : Nat) | own (s : Sl)
def ArH (K : PySem.W.Frag) (Fz H : Hp) (σ : L2.St) (f : List Addr) (v : V) : Ar → Prop
  | .fz d => f = [] ∧ Rp K Fz v d
  | .io k => f = [] ∧ σ[k]? = some (some v)
  | .own s => s.tree.isSome = true ∧ SlH K Fz H [] f (some v) s
theorem ArH.noT {K : PySem.W.Frag} {Fz H : Hp} {σ : L2.St} {f : List Addr} {v : V} {a : Ar} (h : ArH K Fz H σ f v a) : ∀ c ∈ f, Pl (H c) := fun c hc => by
  cases a with
  | fz d => rw [h.1] at hc; cases hc
  | io k => rw [h.1] at hc; cases hc
  | own s => exact h.2.noT c hc
structure ArOk (K : PySem.W.Frag) (b : Bk) (Fz : Hp) (F : Nat → List Addr) (H : Hp) (σ : L2.St) (vs : List V) (ars : List Ar) (G : Nat → List Addr) : Prop where
  len : vs.length = ars.length
  at_ : ∀ (j : Nat) (a : Ar), ars[j]? = some a → ∃ v, vs[j]? = some v ∧ ArH K Fz H σ (G j) v a
  nd : ∀ j, (G j).Nodup
  dj : ∀ i j a, a ∈ G i → a ∈ G j → i = j
  off : ∀ j a, a ∈ G j → Fz a = none ∧ b.B a = none ∧ H a ≠ none ∧ ∀ k, a ∉ F k
section
variable (K : PySem.W.Frag) (mg : Str → Option Value) (W : WX)
def PostAr (b : Bk) (Fz : Hp) (σ : L2.St) (Q : List V → Hp → Prop) : Rs (List Ar) → Prop
  | .ok ars δ => ∀ vs H' Fz' F' G, Same Fz Fz' → Rl K b Fz' F' δ σ H' → ArOk K b Fz' F' H' σ vs ars G → Q vs H'
  | .er x δ => PostX K mg W b Fz σ x δ
  | .bad => False
def rdAr (pin : List Nat) (f : List Sl → Rs (List Ar)) : TA := fun σ H Q => ∃ b Fz F δ, b.pin = pin ∧ Rl K b Fz F δ σ H ∧ PostAr K mg W b Fz σ Q (f δ)
end
abbrev SAr (X : Cx) (W : WX) (pin : List Nat) (es : List Expr) (f : List Sl → Rs (List Ar)) : Prop := PA X es (rdAr X.K X.mg W pin f)
def rNil : List Sl → Rs (List Ar) := fun δ => .ok [] δ
def arOf : AV → Option Ar
  | .val d => some (.fz d)
  | .tmp s => some (.own s)
  | .ref _ => none
/-- a value, or a new thing -/
def rCons (f : List Sl → Rs AV) (g : List Sl → Rs (List Ar)) : List Sl → Rs (List Ar) := fun δ => (f δ).bind fun a δ1 => match arOf a with
  | some r => (g δ1).bind fun rs δ2 => .ok (r :: rs) δ2
  | none => .bad
/-- a name by reference -/
def rIo (k : Nat) (g : List Sl → Rs (List Ar)) : List Sl → Rs (List Ar) := fun δ => (sVar k δ).bind fun _ δ1 => (g δ1).bind fun rs δ2 => .ok (.io k :: rs) δ2
section
variable {K : PySem.W.Frag} {mg : Str → Option Value} {W : WX} {pin : List Nat}
theorem PostAr.le {b : Bk} {Fz Fz1 : Hp} {σ : L2.St} {Q : List V → Hp → Prop} {r : Rs (List Ar)} (s : Same Fz Fz1) (p : PostAr K mg W b Fz σ Q r) : PostAr K mg W b Fz1 σ Q r := by
  cases r with
  | ok a δ => exact fun v H' Fz' F' G s' R e => p v H' Fz' F' G (s.trans s') R e
  | er x δ => exact PostX.le s p
  | bad => exact p
theorem arOk_nil {b : Bk} {Fz : Hp} {F : Nat → List Addr} {H : Hp} {σ : L2.St} : ArOk K b Fz F H σ [] [] (fun _ => []) := ⟨rfl, fun j a h => by simp at h, fun _ => List.nodup_nil, fun _ _ _ h => (nomatch h), fun _ _ h => (nomatch h)⟩
/-- one more argument ahead of the rest, which was reckoned while its thing belonged to the ground -/
theorem ArOk.cons {b : Bk} {Fz1 Fz2 : Hp} {F1 F2 : Nat → List Addr} {H1 H2 : Hp} {δ2 : List Sl} {σ : L2.St} {v : V} {vs : List V} {a : Ar} {ars : List Ar} {g : List Addr} {G : Nat → List Addr} (hs : Same Fz1 Fz2) (h1 : ArH K Fz1 H1 σ g v a) (hn : g.Nodup)
    (hg : ∀ c ∈ g, Fz1 c = none ∧ b.B c = none ∧ H1 c ≠ none ∧ ∀ k, c ∉ F1 k) (f0 : ∀ c, b.F0 c ≠ none → b.B c ≠ none) (R2 : Rl K (gd b H1 g) Fz2 F2 δ2 σ H2) (h2 : ArOk K (gd b H1 g) Fz2 F2 H2 σ vs ars G) :
    ArOk K b Fz2 F2 H2 σ (v :: vs) (a :: ars) (fun j => match j with
      | 0 => g
      | j + 1 => G j) := by
  have fit := R2.guarded (fun c hc => (hg c hc).2.1) f0 (fun c hc => (hg c hc).2.2.1) h1.noT
  have notg : ∀ j c, c ∈ G j → c ∉ g := fun j c hc z => by
    have e1 : Hb.addF b.B H1 g c = none := (h2.off j c hc).2.1
    rw [addF_in z] at e1
    exact (hg c z).2.2.1 e1
  refine ⟨congrArg Nat.succ h2.len, fun j r e => ?_, fun j => ?_, fun i j c hi hj => ?_, fun j c hc => ?_⟩
  · cases j with
    | zero =>
      simp at e
      subst e
      refine ⟨v, rfl, ?_⟩
      cases a with
      | fz d => exact ⟨h1.1, h1.2.mono hs⟩
      | io k => exact h1
      | own s => exact ⟨h1.1, h1.2.keeps hs (fun c hc => (fit c hc).1) fun x j ej _ hx => by
          have := h1.1
          rw [ej] at this
          cases this⟩
    | succ j =>
      obtain ⟨u, e1, e2⟩ := h2.at_ j r (by simpa using e)
      exact ⟨u, by simpa using e1, e2⟩
  · cases j with
    | zero => exact hn
    | succ j => exact h2.nd j
  · cases i with
    | zero =>
      cases j with
      | zero => rfl
      | succ j => exact absurd hi (notg j c hj)
    | succ i =>
      cases j with
      | zero => exact absurd hj (notg i c hi)
      | succ j => exact congrArg Nat.succ (h2.dj i j c hi hj)
  · cases j with
    | zero =>
      obtain ⟨e1, e2, e3⟩ := fit c hc
      exact ⟨e2, (hg c hc).2.1, by rw [e1]; exact (hg c hc).2.2.1, e3⟩
    | succ j =>
      obtain ⟨e1, e2, e3⟩ := h2.off j c hc
      have e2 : Hb.addF b.B H1 g c = none := e2
      rw [addF_out (notg j c hc)] at e2
      exact ⟨e1, e2, e3⟩
end
section
variable {X : Cx} {W : WX} {pin : List Nat} {f : List Sl → Rs AV} {g : List Sl → Rs (List Ar)} {e : Expr} {es : List Expr}
theorem sr_nil : SAr X W pin [] rNil := pa_mono pa_nil fun σ H Q ⟨b, Fz, F, δ, hp, R, P⟩ => P [] H Fz F _ (Same.refl _) R arOk_nil
/-- the rest, while things of the ground's -/
theorem rest_ok {K : PySem.W.Frag} {mg : Str → Option Value} {b : Bk} {Fz1 : Hp} {F1 : Nat → List Addr} {δ1 : List Sl} {σ : L2.St} {H1 : Hp} {Q : List V → Hp → Prop} {v : V} {a : Ar} {gs : List Addr} (hp : b.pin = pin) (R1 : Rl K b Fz1 F1 δ1 σ H1) (h1 : ArH K Fz1 H1 σ gs v a) (hn : gs.Nodup)
    (hg : ∀ c ∈ gs, Fz1 c = none ∧ b.B c = none ∧ H1 c ≠ none ∧ ∀ k, c ∉ F1 k) (P : PostAr K mg W b Fz1 σ Q ((g δ1).bind fun rs δ2 => .ok (a :: rs) δ2)) : rdAr K mg W pin g σ H1 fun vs H2 => Q (v :: vs) H2 := by
  refine ⟨gd b H1 gs, Fz1, F1, δ1, hp, R1.guard (fun c hc => ⟨(hg c hc).1, (hg c hc).2.1, (hg c hc).2.2.2⟩) h1.noT, ?_⟩
  have un : ∀ {Fz' F' δ' H'}, Rl K (gd b H1 gs) Fz' F' δ' σ H' → Rl K b Fz' F' δ' σ H' := fun R => R.unguard (fun c hc => (hg c hc).2.1) R1.f0
  cases q : g δ1 with
  | bad => rw [q] at P; exact P
  | er x δ' =>
    rw [q] at P
    exact fun c dd H' Fz' F' s R e => P c dd H' Fz' F' s (un R) e
  | ok ars δ' =>
    rw [q] at P
    exact fun vs H' Fz' F' G s R A => P (v :: vs) H' Fz' F' _ s (un R) (ArOk.cons s h1 hn hg R1.f0 R A)
theorem sr_cons (h : SE X W pin e f) (h2 : SAr X W pin es g) (hs : starEach (e :: es) X.env = (false, eval e X.env) :: starEach es X.env := by rfl) : SAr X W pin (e :: es) (rCons f g) := pa_mono (pa_cons h h2 hs) fun σ H Q ⟨b, Fz, F, δ, hp, R, P⟩ => by
  refine ⟨b, Fz, F, δ, hp, R, ?_⟩
  unfold rCons at P
  cases q : f δ with
  | bad => rw [q] at P; exact P
  | er x δ' => rw [q] at P; exact P
  | ok a δ1 =>
    rw [q] at P
    intro v H1 Fz1 F1 s1 R1 A
    have P := PostAr.le s1 P
    cases a with
    | ref i => exact P.elim
    | val d => exact rest_ok hp R1 (a := .fz d) (gs := []) ⟨rfl, A⟩ List.nodup_nil (fun _ z => nomatch z) P
    | tmp s =>
      obtain ⟨ht, gs, k1, k2, k3⟩ := A
      exact rest_ok hp R1 (a := .own s) (gs := gs) ⟨ht, k1⟩ k2 k3 P
theorem sr_io (k : Nat) {x : Str} {pos : Pos} (hN : X.N[k]? = some x) (hv : Vis X.env.scope x) (h2 : SAr X W pin es g) (hd : (x == ("__debug__" : Str)) = false := by decide) (hcd : (x == ("__classdict__" : Str)) = false := by decide)
    (hs : starEach (.Name x pos :: es) X.env = (false, eval (.Name x pos) X.env) :: starEach es X.env := by rfl) : SAr X W pin (.Name x pos :: es) (rIo k g) := pa_mono (pa_cons (pe_var hN hv hd hcd) h2 hs) fun σ H Q ⟨b, Fz, F, δ, hp, R, P⟩ => by
  unfold rIo at P
  have hvar : ∃ v, σ[k]? = some (some v) ∧ ∃ a, sVar k δ = .ok a δ := by
    cases q : sVar k δ with
    | bad => rw [q] at P; exact P.elim
    | er x δ' => unfold sVar at q; split at q <;> cases q
    | ok a δ' =>
      unfold sVar at q
      cases q2 : δ[k]? with
      | none => rw [q2] at q; cases q
      | some s =>
        have h := R.slot k s q2
        rw [q2] at q
        cases s with
        | no => cases q
        | fz d => cases q; obtain ⟨_, v, e1, _⟩ := h; exact ⟨v, join_some e1, _, rfl⟩
        | ol xs => cases q; obtain ⟨a, _, _, e1, _⟩ := h; exact ⟨_, join_some e1, _, rfl⟩
        | od kvs => cases q; obtain ⟨a, e1, _⟩ := h; exact ⟨_, join_some e1, _, rfl⟩
        | al y j => cases q; obtain ⟨_, a, c, vs, _, _, _, e1⟩ := h; exact ⟨_, join_some e1, _, rfl⟩
  obtain ⟨v, e1, a, e2⟩ := hvar
  rw [e2] at P
  exact ⟨v, e1, rest_ok hp R (a := .io k) (gs := []) ⟨rfl, e1⟩ List.nodup_nil (fun _ z => nomatch z) P⟩
end
inductive FR where
  | ok (r : Sl) (δ : List Sl) | er (x : Exn) (δ : List Sl) | bad
section
variable (K : PySem.W.Frag) (mg : Str → Option Value)
def PostF (b : Bk) (Fz : Hp) (vs : List V) (Q : VK) (E : XK) : FR → Prop
  | .ok r δ => ∀ v H' Fz' F', Same Fz Fz' → Rl K b Fz' F' δ (vs.map some) H' → AvR K b Fz' F' H' (vs.map some) v (.tmp r) → Q v H'
  | .er x δ => ∀ c dd H' Fz' F', Same Fz Fz' → Rl K b Fz' F' δ (vs.map some) H' → ExR K mg Fz' H' x c dd → E c dd H'
  | .bad => False
/-- the promise: n parameters -/
def spF (n : Nat) (f : List Sl → FR) : Sp := fun vs H Q E => vs.length = n ∧ ∃ b Fz F δ, Rl K b Fz F δ (vs.map some) H ∧ PostF K mg b Fz vs Q E (f δ)
end
def argS (δ : List Sl) : Ar → Option Sl
  | .fz d => some (.fz d)
  | .own s => some s
  | .io k => match δ[k]? with
    | some (.fz d) => some (.fz d)
    | some (.ol xs) => some (.ol xs)
    | some (.od kvs) => some (.od kvs)
    | _ => none
def argsS (δ : List Sl) : List Ar → Option (List Sl)
  | [] => some []
  | a :: r => match argS δ a, argsS δ r with
    | some s, some l => some (s :: l)
    | _, _ => none
/-- the slots that were handed over -/
def iosOf (δ : List Sl) : List Ar → List Nat
  | [] => []
  | .io k :: r => (match δ[k]? with
    | some (.ol _) => k :: iosOf δ r
    | some (.od _) => k :: iosOf δ r
    | _ => iosOf δ r)
  | _ :: r => iosOf δ r
/-- .. and come back -/
def clr (ks : List Nat) (δ : List Sl) : List Sl := ks.foldr (fun k δ => upS k .no δ) δ
def noAl : Sl → Sl
  | .al _ _ => .no
  | s => s
def putB (ks : List Nat) : List Ar → List Sl → List Sl → List Sl
  | .io k :: r, s :: l, δ => putB ks r l (if k ∈ ks then upS k (noAl s) δ else δ)
  | .fz _ :: r, _ :: l, δ => putB ks r l δ
  | .own _ :: r, _ :: l, δ => putB ks r l δ
  | _, _, δ => δ
def AV.ofSl : Sl → AV
  | .fz d => .val d
  | s => .tmp s
def backS (ars : List Ar) (δ' δ : List Sl) : List Sl := putB (iosOf δ ars) ars δ' (clr (iosOf δ ars) δ)
def callF (f : List Sl → FR) (ars : List Ar) (δ : List Sl) : Rs AV := if (iosOf δ ars).Nodup then (match argsS δ ars with
  | some δa => (match f δa with
    | .ok r δ' => .ok (AV.ofSl r) (backS ars δ' δ)
    | .er x δ' => .er x (backS ars δ' δ)
    | .bad => .bad)
  | none => .bad) else .bad
def sCall (f : List Sl → FR) (dd : List PyData) (g : List Sl → Rs (List Ar)) : List Sl → Rs AV := fun δ => (g δ).bind fun ars δ1 => callF f (ars ++ dd.map .fz) δ1
section
variable {δ : List Sl}
def ownS : Option Sl → Bool
  | some (.ol _) => true
  | some (.od _) => true
  | _ => false
theorem ios_cons_io {k : Nat} {r : List Ar} : iosOf δ (.io k :: r) = if ownS δ[k]? = true then k :: iosOf δ r else iosOf δ r := by
  cases q : δ[k]? with
  | none => simp [iosOf, q, ownS]
  | some s => cases s <;> simp [iosOf, q, ownS]
theorem ios_mem {k : Nat} (c : ownS δ[k]? = true) : ∀ {ars : List Ar} {j : Nat}, ars[j]? = some (.io k) → k ∈ iosOf δ ars
  | [], _, h => by simp at h
  | a :: r, 0, h => by
    simp at h
    subst h
    rw [ios_cons_io, if_pos c]
    exact List.mem_cons_self
  | a :: r, j + 1, h => by
    have ih := ios_mem c (ars := r) (j := j) (by simpa using h)
    cases a with
    | fz d => exact ih
    | own s => exact ih
    | io m =>
      rw [ios_cons_io]
      by_cases e : ownS δ[m]? = true
      · rw [if_pos e]; exact List.mem_cons_of_mem _ ih
      · rw [if_neg e]; exact ih
theorem ios_uniq {k : Nat} (c : ownS δ[k]? = true) : ∀ {ars : List Ar} {i j : Nat}, (iosOf δ ars).Nodup → ars[i]? = some (.io k) → ars[j]? = some (.io k) → i = j
  | [], _, _, _, h, _ => by simp at h
  | a :: r, 0, 0, _, _, _ => rfl
  | a :: r, 0, j + 1, nd, h, h2 => by
    simp at h
    subst h
    rw [ios_cons_io, if_pos c] at nd
    exact absurd (ios_mem c (ars := r) (j := j) (by simpa using h2)) (List.nodup_cons.mp nd).1
  | a :: r, i + 1, 0, nd, h, h2 => by
    simp at h2
    subst h2
    rw [ios_cons_io, if_pos c] at nd
    exact absurd (ios_mem c (ars := r) (j := i) (by simpa using h)) (List.nodup_cons.mp nd).1
  | a :: r, i + 1, j + 1, nd, h, h2 => by
    have nd' : (iosOf δ r).Nodup := by
      cases a with
      | fz d => exact nd
      | own s => exact nd
      | io m =>
        rw [ios_cons_io] at nd
        by_cases e : ownS δ[m]? = true
        · rw [if_pos e] at nd; exact (List.nodup_cons.mp nd).2
        · rw [if_neg e] at nd; exact nd
    exact congrArg Nat.succ (ios_uniq c nd' (by simpa using h) (by simpa using h2))
theorem argsS_get : ∀ {ars : List Ar} {l : List Sl}, argsS δ ars = some l → l.length = ars.length ∧ ∀ (j : Nat) (a : Ar), ars[j]? = some a → ∃ s, l[j]? = some s ∧ argS δ a = some s
  | [], _, h => by
    cases h
    exact ⟨rfl, fun j a h => by simp at h⟩
  | a :: r, l, h => by
    unfold argsS at h
    cases q1 : argS δ a with
    | none => rw [q1] at h; cases h
    | some s =>
      cases q2 : argsS δ r with
      | none => rw [q1, q2] at h; cases h
      | some l' =>
        rw [q1, q2] at h
        cases h
        obtain ⟨e1, e2⟩ := argsS_get q2
        refine ⟨by simp [e1], fun j b hb => ?_⟩
        cases j with
        | zero =>
          simp at hb
          subst hb
          exact ⟨s, rfl, q1⟩
        | succ j =>
          obtain ⟨t, e3, e4⟩ := e2 j b (by simpa using hb)
          exact ⟨t, by simpa using e3, e4⟩
end
section
variable {K : PySem.W.Frag} {mg : Str → Option Value} {b : Bk} {Fz : Hp} {F : Nat → List Addr} {δ : List Sl} {σ : L2.St} {H : Hp}
theorem Rl.clear (R : Rl K b Fz F δ σ H) : ∀ ks : List Nat, Rl K b Fz (fun k => if k ∈ ks then [] else F k) (clr ks δ) σ H
  | [] => by
    have e : (fun k => if k ∈ ([] : List Nat) then [] else F k) = F := by funext k; simp
    rw [e]
    exact R
  | m :: ks => by
    have R1 := R.clear ks
    have R2 := R1.put (i := m) (s := .no) (g := []) (Same.refl _) R1.le R1.base rfl (fun _ _ => rfl) (.inl rfl) (fun _ => rfl) (fun x j z => nomatch z) List.nodup_nil (fun _ z => nomatch z) (fun _ z => nomatch z) (fun _ z => nomatch z) (fun _ z => nomatch z) (fun _ _ _ _ => rfl) (fun k _ a ha => R1.offF k a ha) (fun _ _ => rfl)
    have e : (fun k => if k = m then [] else if k ∈ ks then [] else F k) = fun k => if k ∈ m :: ks then [] else F k := by
      funext k
      by_cases q : k = m
      · simp [q]
      · simp [q]
    rw [e] at R2
    exact R2
theorem Rl.move (R : Rl K b Fz F δ σ H) {Fz' H' : Hp} (s : Same Fz Fz') (le : Same Fz' H') (base : Same b.B H') (hF : ∀ k a, a ∈ F k → H' a = H a ∧ Fz' a = none) (hB : ∀ a, b.B a ≠ none → Fz' a = Fz a ∨ ((∃ xs, b.B a = some (.tup xs)) ∧ Fz' a = b.B a)) (tb : Tb b Fz' H') : Rl K b Fz' F δ σ H' where
  le := le
  base := base
  len := R.len
  slot := fun i t e => (R.slot i t e).keeps s (fun a ha => (hF i a ha).1) fun x j ej a ha => by
    subst ej
    obtain ⟨xs, hx⟩ := R.als i x j e
    obtain ⟨l, vs, g, p1, p2, _⟩ := R.slot x _ hx
    rw [ha] at p1
    cases p1
    exact (hF x a (by rw [p2]; exact List.mem_cons_self)).1
  nd := R.nd
  dj := R.dj
  offF := fun i a ha => (hF i a ha).2
  offB := R.offB
  on := fun i a ha => by
    rw [(hF i a ha).1]
    exact R.on i a ha
  keep := fun a ha => by
    rcases hB a ha with z | z
    · rw [z]
      exact R.keep a ha
    · exact .inr z
  f0 := R.f0
  pin := R.pin
  als := R.als
  noT := fun i a ha => by
    rw [(hF i a ha).1]
    exact R.noT i a ha
  tb := tb
  tp := R.tp
theorem noAl_ok {Fz H : Hp} {σ1 σ2 : L2.St} {f : List Addr} {o : Option V} {s : Sl} (h : SlH K Fz H σ1 f o s) : SlH K Fz H σ2 f o (noAl s) := by
  cases s with
  | al x j => exact h.1
  | no => exact h
  | fz d => exact h
  | ol xs => exact h
  | od kvs => exact h
/-- the slots that were handed over come back, one by one -/
theorem Rl.putBack {ks : List Nat} {Fz' H' : Hp} {F' : Nat → List Addr} {δ' : List Sl} {vs : List V} {b' : Bk} (R' : Rl K b' Fz' F' δ' (vs.map some) H') (hb : ∀ a, b.B a ≠ none → b'.B a ≠ none) :
    ∀ (ars : List Ar) (l : List Sl) (j : Nat) (Fc : Nat → List Addr) (δc : List Sl), Rl K b Fz' Fc δc σ H' → l.length = ars.length → (∀ i s, l[i]? = some s → δ'[j + i]? = some s) → (∀ i k, ars[i]? = some (.io k) → ∃ v, vs[j + i]? = some v ∧ σ[k]? = some (some v)) →
      (∀ m a, a ∈ Fc m → b'.B a ≠ none ∨ ∃ i, i < j ∧ a ∈ F' i) → ∃ Fn, Rl K b Fz' Fn (putB ks ars l δc) σ H' ∧ ∀ m a, a ∈ Fn m → b'.B a ≠ none ∨ ∃ i, a ∈ F' i
  | [], l, j, Fc, δc, R, _, _, _, h => ⟨Fc, by cases l <;> exact R, fun m a ha => (h m a ha).imp id fun ⟨i, _, e⟩ => ⟨i, e⟩⟩
  | a :: r, [], _, _, _, _, hl, _, _, _ => by cases hl
  | .fz d :: r, s :: l, j, Fc, δc, R, hl, h1, h2, h3 => by
    refine Rl.putBack R' hb r l (j + 1) Fc δc R (by simpa using hl) (fun i t e => ?_) (fun i k e => ?_) fun m c hc => (h3 m c hc).imp id fun ⟨i, e1, e2⟩ => ⟨i, by omega, e2⟩
    · have := h1 (i + 1) t (by simpa using e)
      rwa [show j + (i + 1) = j + 1 + i by omega] at this
    · have := h2 (i + 1) k (by simpa using e)
      rwa [show j + (i + 1) = j + 1 + i by omega] at this
  | .own d :: r, s :: l, j, Fc, δc, R, hl, h1, h2, h3 => by
    refine Rl.putBack R' hb r l (j + 1) Fc δc R (by simpa using hl) (fun i t e => ?_) (fun i k e => ?_) fun m c hc => (h3 m c hc).imp id fun ⟨i, e1, e2⟩ => ⟨i, by omega, e2⟩
    · have := h1 (i + 1) t (by simpa using e)
      rwa [show j + (i + 1) = j + 1 + i by omega] at this
    · have := h2 (i + 1) k (by simpa using e)
      rwa [show j + (i + 1) = j + 1 + i by omega] at this
  | .io k :: r, s :: l, j, Fc, δc, R, hl, h1, h2, h3 => by
    have n1 : ∀ i t, l[i]? = some t → δ'[j + 1 + i]? = some t := fun i t e => by
      have := h1 (i + 1) t (by simpa using e)
      rwa [show j + (i + 1) = j + 1 + i by omega] at this
    have n2 : ∀ i k', r[i]? = some (.io k') → ∃ v, vs[j + 1 + i]? = some v ∧ σ[k']? = some (some v) := fun i k' e => by
      have := h2 (i + 1) k' (by simpa using e)
      rwa [show j + (i + 1) = j + 1 + i by omega] at this
    by_cases c : k ∈ ks
    · have e0 : putB ks (.io k :: r) (s :: l) δc = putB ks r l (upS k (noAl s) δc) := by
        show putB ks r l (if k ∈ ks then upS k (noAl s) δc else δc) = _
        rw [if_pos c]
      rw [e0]
      obtain ⟨v, v1, v2⟩ := h2 0 k rfl
      have hs := R'.slot j s (by simpa using h1 0 s rfl)
      have hvj : (vs.map some)[j]? = some (some v) := by
        rw [List.getElem?_map, show vs[j]? = some v by simpa using v1]
        rfl
      rw [hvj] at hs
      refine Rl.putBack R' hb r l (j + 1) _ _ (R.put (i := k) (s := noAl s) (g := F' j) (Same.refl _) R.le R.base rfl (fun _ _ => rfl) (.inl rfl) (fun _ => ?_) (fun x i z => ?_) (R'.nd j) (fun a ha => R'.offF j a ha) (fun a ha => ?_) (fun a ha m hm hin => ?_) (fun a ha => R'.on j a ha) (fun _ _ _ _ => rfl) (fun m _ a ha => R.offF m a ha) (fun _ _ => rfl) (fun a ha => R'.noT j a ha)) (by simpa using hl) n1 n2 (fun m a ha => ?_)
      · rw [v2]
        exact noAl_ok hs
      · cases s <;> cases z
      · cases q : b.B a with
        | none => rfl
        | some o => exact absurd (R'.offB j a ha) (hb a (by rw [q]; simp))
      · rcases h3 m a hin with z | ⟨i, z1, z2⟩
        · exact z (R'.offB j a ha)
        · have := R'.dj i j a z2 ha
          omega
      · have ha : a ∈ (if m = k then F' j else Fc m) := ha
        by_cases q : m = k
        · rw [if_pos q] at ha
          exact .inr ⟨j, Nat.lt_succ_self j, ha⟩
        · rw [if_neg q] at ha
          exact (h3 m a ha).imp id fun ⟨i, e1, e2⟩ => ⟨i, by omega, e2⟩
    · have e0 : putB ks (.io k :: r) (s :: l) δc = putB ks r l δc := by
        show putB ks r l (if k ∈ ks then upS k (noAl s) δc else δc) = _
        rw [if_neg c]
      rw [e0]
      exact Rl.putBack R' hb r l (j + 1) Fc δc R (by simpa using hl) n1 n2 fun m a ha => (h3 m a ha).imp id fun ⟨i, e1, e2⟩ => ⟨i, by omega, e2⟩
end
end Hb
namespace Hb
open PySem PySem.Spec PyProof.Rows L2
section
variable {K : PySem.W.Frag} {mg : Str → Option Value} {W : WX} {b : Bk} {Fz : Hp} {F : Nat → List Addr} {δ : List Sl} {σ : L2.St} {H : Hp}
/-- what is handed over -/
def passL (δ : List Sl) (F G : Nat → List Addr) (ars : List Ar) : List Addr := (iosOf δ ars).flatMap F ++ (List.range ars.length).flatMap G
/-- the callee's ground: all else -/
def calB (H : Hp) (p : List Addr) : Hp := fun a => if a ∈ p then none else H a
def calF0 (H Fz : Hp) (p : List Addr) : Hp := fun a => if a ∈ p then none else if H a = none then none else Fz a
def calF (δ : List Sl) (F G : Nat → List Addr) (ars : List Ar) (j : Nat) : List Addr := match ars[j]? with
  | some (.io k) => if ownS δ[k]? = true then F k else []
  | some (.own _) => G j
  | _ => []
theorem call_ok {Q : VK} {vs : List V} {ars : List Ar} {G : Nat → List Addr} {f : List Sl → FR} (R : Rl K b Fz F δ σ H) (A : ArOk K b Fz F H σ vs ars G) (P : Post K mg W b Fz σ Q (callF f ars δ)) :
    spF K mg ars.length f vs H Q (fun c dd H' => W c dd σ H') := by
  refine ⟨A.len, ?_⟩
  unfold callF at P
  by_cases nd : (iosOf δ ars).Nodup
  · rw [if_pos nd] at P
    cases q1 : argsS δ ars with
    | none => simp only [q1] at P; exact P.elim
    | some δa =>
      simp only [q1] at P
      obtain ⟨la, ga⟩ := argsS_get q1
      obtain ⟨p, hp⟩ : ∃ p, p = passL δ F G ars := ⟨_, rfl⟩
      have pio : ∀ k, k ∈ iosOf δ ars → ∀ a ∈ F k, a ∈ p := fun k hk a ha => by
        rw [hp]
        exact List.mem_append_left _ (List.mem_flatMap.mpr ⟨k, hk, ha⟩)
      have pown : ∀ j, j < ars.length → ∀ a ∈ G j, a ∈ p := fun j hj a ha => by
        rw [hp]
        exact List.mem_append_right _ (List.mem_flatMap.mpr ⟨j, List.mem_range.mpr hj, ha⟩)
      have pin : ∀ a ∈ p, (∃ k, k ∈ iosOf δ ars ∧ a ∈ F k) ∨ ∃ j, a ∈ G j := fun a ha => by
        rw [hp] at ha
        rcases List.mem_append.mp ha with z | z
        · obtain ⟨k, e1, e2⟩ := List.mem_flatMap.mp z
          exact .inl ⟨k, e1, e2⟩
        · obtain ⟨j, _, e2⟩ := List.mem_flatMap.mp z
          exact .inr ⟨j, e2⟩
      have pFz : ∀ a ∈ p, Fz a = none := fun a ha => (pin a ha).elim (fun ⟨k, _, e⟩ => R.offF k a e) fun ⟨j, e⟩ => (A.off j a e).1
      have pB : ∀ a ∈ p, b.B a = none := fun a ha => (pin a ha).elim (fun ⟨k, _, e⟩ => R.offB k a e) fun ⟨j, e⟩ => (A.off j a e).2.1
      have pPl : ∀ a ∈ p, Pl (H a) := fun a ha => by
        rw [hp] at ha
        rcases List.mem_append.mp ha with z | z
        · obtain ⟨k, _, e⟩ := List.mem_flatMap.mp z
          exact R.noT k a e
        · obtain ⟨j, hj, e⟩ := List.mem_flatMap.mp z
          have hj := List.mem_range.mp hj
          obtain ⟨v, _, e4⟩ := A.at_ j _ (List.getElem?_eq_getElem hj)
          exact e4.noT a e
      have getV : ∀ j a, ars[j]? = some a → ∃ s v, δa[j]? = some s ∧ argS δ a = some s ∧ vs[j]? = some v ∧ ArH K Fz H σ (G j) v a := fun j a e => by
        obtain ⟨s, e1, e2⟩ := ga j a e
        obtain ⟨v, e3, e4⟩ := A.at_ j a e
        exact ⟨s, v, e1, e2, e3, e4⟩
      have cF : ∀ j a, a ∈ calF δ F G ars j → (∃ k, ars[j]? = some (.io k) ∧ ownS δ[k]? = true ∧ a ∈ F k) ∨ ∃ s, ars[j]? = some (.own s) ∧ a ∈ G j := fun j a ha => by
        unfold calF at ha
        cases q : ars[j]? with
        | none => rw [q] at ha; cases ha
        | some r =>
          rw [q] at ha
          cases r with
          | fz d => cases ha
          | own s => exact .inr ⟨s, rfl, ha⟩
          | io k =>
            have ha : a ∈ (if ownS δ[k]? = true then F k else []) := ha
            by_cases c : ownS δ[k]? = true
            · rw [if_pos c] at ha
              exact .inl ⟨k, rfl, c, ha⟩
            · rw [if_neg c] at ha
              cases ha
      have cp : ∀ j a, a ∈ calF δ F G ars j → a ∈ p := fun j a ha => (cF j a ha).elim (fun ⟨k, e1, e2, e3⟩ => pio k (ios_mem e2 e1) a e3) fun ⟨s, e1, e2⟩ => pown j (List.getElem?_eq_some_iff.mp e1).1 a e2
      have Rc : Rl K ⟨calB H p, calF0 H Fz p, [], [], []⟩ Fz (calF δ F G ars) δa (vs.map some) H := by
        refine ⟨R.le, fun a o e => ?_, by rw [List.length_map, A.len, la], fun j s e => ?_, fun j => ?_, fun i j a h1 h2 => ?_, fun j a h => pFz a (cp j a h), fun j a h => if_pos (cp j a h), fun j a h => ?_, fun a h => .inl ?_, fun a h => ?_, fun _ z => (nomatch z), fun j x m e => ?_, fun j a h => ?_, .nil rfl, fun z => (nomatch z)⟩
        · have e : (if a ∈ p then none else H a) = some o := e
          by_cases c : a ∈ p
          · rw [if_pos c] at e; cases e
          · rw [if_neg c] at e; exact e
        · have hj : j < ars.length := by rw [← la]; exact (List.getElem?_eq_some_iff.mp e).1
          obtain ⟨s', v, e1, e2, e3, e4⟩ := getV j _ (List.getElem?_eq_getElem hj)
          rw [e] at e1
          cases e1
          have hv : (vs.map some)[j]?.join = some v := by rw [List.getElem?_map, e3]; rfl
          rw [hv]
          unfold calF
          rw [List.getElem?_eq_getElem hj]
          generalize ars[j] = r at e2 e4
          cases r with
          | fz d =>
            cases e2
            exact ⟨rfl, v, rfl, e4.2⟩
          | own t =>
            cases e2
            have h2 := e4.2
            cases s with
            | al x m => have := e4.1; cases this
            | no => exact h2
            | fz d => exact h2
            | ol xs => exact h2
            | od kvs => exact h2
          | io k =>
            have hk : σ[k]? = some (some v) := e4.2
            unfold argS at e2
            cases q2 : δ[k]? with
            | none => simp only [q2] at e2; cases e2
            | some t =>
              have hs := R.slot k t q2
              rw [hk] at hs
              cases t with
              | fz d => simp only [q2] at e2; cases e2; exact ⟨by simp [ownS, q2], hs.2⟩
              | ol xs => simp only [q2] at e2; cases e2; simp only [ownS, q2, if_true]; exact hs
              | od kvs => simp only [q2] at e2; cases e2; simp only [ownS, q2, if_true]; exact hs
              | no => simp only [q2] at e2; cases e2
              | al x m => simp only [q2] at e2; cases e2
        · unfold calF
          cases q : ars[j]? with
          | none => exact List.nodup_nil
          | some r =>
            cases r with
            | fz d => exact List.nodup_nil
            | own s => exact A.nd j
            | io k =>
              show (if ownS δ[k]? = true then F k else []).Nodup
              by_cases c : ownS δ[k]? = true
              · rw [if_pos c]; exact R.nd k
              · rw [if_neg c]; exact List.nodup_nil
        · rcases cF i a h1 with ⟨k, e1, e2, e3⟩ | ⟨s, e1, e2⟩
          · rcases cF j a h2 with ⟨m, f1, f2, f3⟩ | ⟨t, f1, f2⟩
            · have := R.dj k m a e3 f3
              subst this
              exact ios_uniq e2 nd e1 f1
            · exact absurd e3 ((A.off j a f2).2.2.2 k)
          · rcases cF j a h2 with ⟨m, f1, f2, f3⟩ | ⟨t, f1, f2⟩
            · exact absurd f3 ((A.off i a e2).2.2.2 m)
            · exact A.dj i j a e2 f2
        · rcases cF j a h with ⟨k, e1, e2, e3⟩ | ⟨s, e1, e2⟩
          · exact R.on k a e3
          · exact (A.off j a e2).2.2.1
        · have h : (if a ∈ p then none else H a) ≠ none := h
          show Fz a = if a ∈ p then none else if H a = none then none else Fz a
          by_cases c : a ∈ p
          · rw [if_pos c] at h; exact absurd rfl h
          · rw [if_neg c] at h ⊢
            rw [if_neg h]
        · have h : (if a ∈ p then none else if H a = none then none else Fz a) ≠ none := h
          show (if a ∈ p then none else H a) ≠ none
          by_cases c : a ∈ p
          · rw [if_pos c] at h; exact absurd rfl h
          · rw [if_neg c] at h ⊢
            by_cases c2 : H a = none
            · rw [if_pos c2] at h; exact absurd rfl h
            · exact c2
        · have hj : j < ars.length := by rw [← la]; exact (List.getElem?_eq_some_iff.mp e).1
          obtain ⟨s', v, e1, e2, e3, e4⟩ := getV j _ (List.getElem?_eq_getElem hj)
          rw [e] at e1
          cases e1
          generalize ars[j] = r at e2 e4
          cases r with
          | fz d => cases e2
          | own t =>
            cases e2
            have := e4.1
            cases this
          | io k =>
            unfold argS at e2
            cases q2 : δ[k]? with
            | none => simp only [q2] at e2; cases e2
            | some t => cases t <;> (simp only [q2] at e2; cases e2)
        · rcases cF j a h with ⟨k, e1, e2, e3⟩ | ⟨s, e1, e2⟩
          · exact R.noT k a e3
          · obtain ⟨v, _, e4⟩ := A.at_ j _ e1
            exact e4.noT a e2
      refine ⟨_, Fz, _, δa, Rc, ?_⟩
      have calN : ∀ a, H a ≠ none → a ∉ p → calB H p a ≠ none := fun a h1 h2 => by
        show (if a ∈ p then none else H a) ≠ none
        rw [if_neg h2]
        exact h1
      -- what comes back
      have fin : ∀ {δ' : List Sl} {H' Fz' : Hp} {F' : Nat → List Addr}, Same Fz Fz' → Rl K ⟨calB H p, calF0 H Fz p, [], [], []⟩ Fz' F' δ' (vs.map some) H' → ∃ Fn, Rl K b Fz' Fn (backS ars δ' δ) σ H' ∧ ∀ m a, a ∈ Fn m → calB H p a ≠ none ∨ ∃ i, a ∈ F' i := by
        intro δ' H' Fz' F' s R'
        have outF : ∀ k, k ∉ iosOf δ ars → ∀ a ∈ F k, a ∉ p := fun k hk a ha z => by
          rcases pin a z with ⟨m, e1, e2⟩ | ⟨j, e⟩
          · exact hk (by rw [R.dj k m a ha e2]; exact e1)
          · exact (A.off j a e).2.2.2 k ha
        have tb' : Tb b Fz' H' := fun q hq => by
          obtain ⟨t0, t1, t2⟩ := R.tb q hq
          have nt : q.1 ∉ p := fun z => R.tb.tbl hq (pPl _ z)
          have hx : ∀ a o, H a = some o → ¬Pl (some o) → H' a = some o := fun a o e n => R'.base a o (by
            show (if a ∈ p then none else H a) = some o
            rw [if_neg fun z => n (by rw [← e]; exact pPl a z)]
            exact e)
          refine ⟨tabS_keep t0 hx, ?_, t2⟩
          obtain ⟨ps, e0, _⟩ := t0
          rcases R'.keep q.1 (calN _ (by rw [e0]; simp) nt) with z | ⟨⟨xs, z⟩, _⟩
          · rw [z]
            show (if q.1 ∈ p then none else if H q.1 = none then none else Fz q.1) = none
            rw [if_neg nt, if_neg (by rw [e0]; simp)]
            exact t1
          · have z : (if q.1 ∈ p then none else H q.1) = some (.tup xs) := z
            rw [if_neg nt, e0] at z
            cases z
        have R1 := (R.clear (iosOf δ ars)).move (Fz' := Fz') (H' := H') s R'.le (fun a o e => ?_) (fun k a ha => ?_) (fun a ha => ?_) tb'
        · refine Rl.putBack (b := b) R' (fun a ha => ?_) ars δ' 0 _ _ R1 (by have := R'.len; rw [List.length_map, A.len] at this; exact this.symm) (fun i t e => by rwa [Nat.zero_add]) (fun i k e => ?_) (fun m a ha => ?_)
          · cases q : b.B a with
            | none => exact absurd q ha
            | some o => exact calN a (by rw [R.base a o q]; simp) fun z => by rw [pB a z] at q; cases q
          · obtain ⟨v, e1, e2⟩ := A.at_ i _ e
            exact ⟨v, by rwa [Nat.zero_add], e2.2⟩
          · have ha : a ∈ (if m ∈ iosOf δ ars then [] else F m) := ha
            by_cases c : m ∈ iosOf δ ars
            · rw [if_pos c] at ha; cases ha
            · rw [if_neg c] at ha
              exact .inl (calN a (R.on m a ha) (outF m c a ha))
        · have hn : a ∉ p := fun z => by rw [pB a z] at e; cases e
          exact R'.base a o (by
            show (if a ∈ p then none else H a) = some o
            rw [if_neg hn]
            exact R.base a o e)
        · have ha : a ∈ (if k ∈ iosOf δ ars then [] else F k) := ha
          by_cases c : k ∈ iosOf δ ars
          · rw [if_pos c] at ha; cases ha
          · rw [if_neg c] at ha
            have hn := outF k c a ha
            have nn := calN a (R.on k a ha) hn
            refine ⟨?_, ?_⟩
            · cases q : H a with
              | none => exact absurd q (R.on k a ha)
              | some o => exact R'.base a o (by
                  show (if a ∈ p then none else H a) = some o
                  rw [if_neg hn]
                  exact q)
            · rcases R'.keep a nn with z | ⟨⟨xs, z⟩, _⟩
              · rw [z]
                show (if a ∈ p then none else if H a = none then none else Fz a) = none
                rw [if_neg hn, if_neg (R.on k a ha)]
                exact R.offF k a ha
              · have z : (if a ∈ p then none else H a) = some (.tup xs) := z
                rw [if_neg hn] at z
                exact ((R.noT k a ha).tup z).elim
        · have hn : a ∉ p := fun z => ha (pB a z)
          have hH : H a ≠ none := by
            cases q : b.B a with
            | none => exact absurd q ha
            | some o => rw [R.base a o q]; simp
          have z := R'.keep a (calN a hH hn)
          have z : Fz' a = (if a ∈ p then none else if H a = none then none else Fz a) ∨ ((∃ xs, (if a ∈ p then none else H a) = some (.tup xs)) ∧ Fz' a = (if a ∈ p then none else H a)) := z
          rw [if_neg hn, if_neg hH, if_neg hn] at z
          rcases z with z | ⟨⟨xs, z1⟩, z2⟩
          · exact .inl z
          · cases qb : b.B a with
            | none => exact absurd qb ha
            | some o =>
              have h2 := R.base a o qb
              rw [z1] at h2
              cases h2
              exact .inr ⟨⟨xs, rfl⟩, z2.trans z1⟩
      cases q2 : f δa with
      | bad => simp only [q2] at P; exact P
      | er x δ' =>
        simp only [q2] at P
        intro c dd H' Fz' F' s R' e
        obtain ⟨Fn, Rn, _⟩ := fin s R'
        exact P c dd H' Fz' Fn s Rn e
      | ok r δ' =>
        simp only [q2] at P
        intro v H' Fz' F' s R' Ar
        obtain ⟨Fn, Rn, hn⟩ := fin s R'
        refine P v H' Fz' Fn s Rn ?_
        obtain ⟨ht, g, h1, h2, h3⟩ := Ar
        have gn : ∀ a ∈ g, calB H p a = none := fun a ha => (h3 a ha).2.1
        have gen : AvR K b Fz' Fn H' σ v (.tmp r) := ⟨ht, g, h1, h2, fun a ha => ⟨(h3 a ha).1, ?_, (h3 a ha).2.2.1, fun m hm => ?_⟩⟩
        · cases r with
          | fz d =>
            obtain ⟨e, v', e1, e2⟩ := h1
            cases e1
            exact e2
          | no => cases ht
          | al x j => cases ht
          | ol xs => exact gen
          | od kvs => exact gen
        · cases q : b.B a with
          | none => rfl
          | some o => exact absurd (gn a ha) (calN a (by rw [R.base a o q]; simp) fun z => by rw [pB a z] at q; cases q)
        · rcases hn m a hm with z | ⟨i, z⟩
          · exact z (gn a ha)
          · exact (h3 a ha).2.2.2 i z
  · rw [if_neg nd] at P
    exact P.elim
end
structure FnG (P : Program) (w : World) (K : PySem.W.Frag) (mg : Str → Option Value) (base : Heap) (k : Nat) (f : Addr) (fd : FuncData) (ps : List Str) (sp : Sp) : Prop where
  len : ∀ vs H Q E, sp vs H Q E → vs.length = ps.length
  run : ∀ (A : Around) (outer : List Env) (s : Shared) (H : Hp) (args : Args) (us : List Value) (vs : List V) (Q : VK) (E : XK), A.guards = some [] → Room k A → Env0 P w K mg base A outer s H → BindsTo s fd args (ps.zip us) → Vals vs us → sp vs H Q E →
    codeAny (model P w) A (.call (.ref f) args) (CR (L2.CX P w) outer P w H s Q E) s
theorem FnG.mono {P : Program} {w : World} {K : PySem.W.Frag} {mg : Str → Option Value} {base : Heap} {j k : Nat} {f : Addr} {fd : FuncData} {ps : List Str} {sp : Sp} (F : FnG P w K mg base j f fd ps sp) (h : j ≤ k) : FnG P w K mg base k f fd ps sp :=
  ⟨F.len, fun A outer s H args us vs Q E hg hr => F.run A outer s H args us vs Q E hg (hr.mono h)⟩
section
variable {X : Cx} {k : Nat} {f : Addr} {fd : FuncData} {ps : List Str} {W : WX} {pin : List Nat} {x : Str} {p pos : Pos} {e : Expr} {es : List Expr} {n : Nat} {F : List Sl → FR} {g : List Sl → Rs (List Ar)} {ds : List Value} {dd : List PyData}
/-- a call of it, by values -/
theorem run_G (G : FnG X.prog X.w X.K X.mg X.base k f fd ps (spF X.K X.mg n F)) (hr : Room k X.A) (hgd : X.A.guards = some []) {pins : List (Addr × Obj)} {σ : L2.St} {H : Hp} {s : Shared} {Q : VK} {us : List Value} {vs dvs : List V} (hx : PassesAt (L2.CX X.prog X.w) X σ (WE W σ))
    (hb : Binds X.K fd ps ds) (hd : Vals dvs ds) (I : Inv X pins σ H s) (r : Vals vs us) (h : spF X.K X.mg n F (vs ++ dvs) H Q (WE W σ)) : wpAny (model X.prog X.w) X.A (call (.ref f) us) (EP X pins σ Q) X.xe s := by
  have r2 := r.append hd
  have hl : (us ++ ds).length = ps.length := r2.length.symm.trans (G.len _ _ _ _ h)
  have go := G.run X.A X.stack s H ⟨us, []⟩ (us ++ ds) (vs ++ dvs) Q (WE W σ) hgd hr I.env0 (hb s us I.kIn hl) r2 h
  refine wpAny_call (codeAny_mono go fun res s' hq => ?_)
  match res, hq with
  | .error err, hq => exact hx pins H s err s' I hq
  | .ok (.ret u), hq => exact I.after hq
theorem arOk_dfl {K : PySem.W.Frag} {b : Bk} {Fz : Hp} {F : Nat → List Addr} {H : Hp} {σ : L2.St} {vs : List V} {ars : List Ar} {G : Nat → List Addr} (A : ArOk K b Fz F H σ vs ars G) {dvs : List V} (h : RpL K Fz dvs dd) :
    ArOk K b Fz F H σ (vs ++ dvs) (ars ++ dd.map .fz) (fun j => if j < ars.length then G j else []) := by
  refine ⟨by simp [A.len, h.len], fun j a e => ?_, fun j => ?_, fun i j a h1 h2 => ?_, fun j a h1 => ?_⟩
  · by_cases c : j < ars.length
    · rw [List.getElem?_append_left c] at e
      obtain ⟨v, e1, e2⟩ := A.at_ j a e
      exact ⟨v, by rw [List.getElem?_append_left (by rw [A.len]; exact c)]; exact e1, by rw [if_pos c]; exact e2⟩
    · rw [List.getElem?_append_right (by omega), List.getElem?_map] at e
      cases q : dd[j - ars.length]? with
      | none => rw [q] at e; cases e
      | some d =>
        rw [q] at e
        cases e
        obtain ⟨v, e1, e2⟩ := h.get q
        exact ⟨v, by rw [List.getElem?_append_right (by rw [A.len]; omega), A.len]; exact e1, by rw [if_neg c], e2⟩
  · by_cases c : j < ars.length
    · rw [if_pos c]; exact A.nd j
    · rw [if_neg c]; exact List.nodup_nil
  · have h1 : a ∈ (if i < ars.length then G i else []) := h1
    have h2 : a ∈ (if j < ars.length then G j else []) := h2
    by_cases c : i < ars.length
    · by_cases c2 : j < ars.length
      · rw [if_pos c] at h1
        rw [if_pos c2] at h2
        exact A.dj i j a h1 h2
      · rw [if_neg c2] at h2; cases h2
    · rw [if_neg c] at h1; cases h1
  · have h1 : a ∈ (if j < ars.length then G j else []) := h1
    by_cases c : j < ars.length
    · rw [if_pos c] at h1; exact A.off j a h1
    · rw [if_neg c] at h1; cases h1
theorem rpl_flat {K : PySem.W.Frag} {H : Hp} : ∀ {dd : List PyData}, dd.all flatD = true → RpL K H (dd.map dV) dd
  | [], _ => .nil
  | d :: dd, h => by
    rw [List.all_cons, Bool.and_eq_true] at h
    exact .cons (rp_flat h.1) (rpl_flat h.2)
theorem call_rd {K : PySem.W.Frag} {mg : Str → Option Value} {W : WX} (hflat : dd.all flatD = true) (hlen : ∀ δ ars δ', g δ = .ok ars δ' → ars.length + dd.length = n) : ∀ σ H Q, rdE K mg W pin (sCall F dd g) σ H Q → rdAr K mg W pin g σ H fun vs H1 => spF K mg n F (vs ++ dd.map dV) H1 Q (WE W σ) := fun σ H Q ⟨b, Fz, Ff, δ, hp, R, P⟩ => by
  refine ⟨b, Fz, Ff, δ, hp, R, ?_⟩
  unfold sCall at P
  cases q : g δ with
  | bad => rw [q] at P; exact P
  | er x δ' => rw [q] at P; exact P
  | ok ars δ' =>
    rw [q] at P
    intro vs H' Fz' F' G s R' A
    have A' := arOk_dfl (dd := dd) A (rpl_flat hflat)
    have h := call_ok (mg := mg) (W := W) (f := F) R' A' (Post.le s P)
    have e : (ars ++ dd.map Ar.fz).length = n := by
      rw [List.length_append, List.length_map]
      exact hlen _ _ _ q
    rw [e] at h
    exact h
theorem se_call (G : FnG X.prog X.w X.K X.mg X.base k f fd ps (spF X.K X.mg n F)) (hr : Room k X.A) (hgd : X.A.guards = some []) (hx : ∀ σ, PassesAt (L2.CX X.prog X.w) X σ (WE W σ)) (hg : Gl X x) (hm : X.mg x = some (.ref f)) (hk : PySem.W.keepIn X.K (.ref f) = true)
    (hb : Binds X.K fd ps ds) (hd : Vals (dd.map dV) ds) (hflat : dd.all flatD = true) (ha : SAr X W pin (e :: es) g) (hlen : ∀ δ ars δ', g δ = .ok ars δ' → ars.length + dd.length = n)
    (hdb : (x == ("__debug__" : Str)) = false := by decide) (he : starEach (e :: es) X.env = (false, eval e X.env) :: starEach es X.env := by rfl) (hpl : (backTo pos (starEach es X.env)).any (·.1) = false := by rfl) :
    SE X W pin (.Call (.Name x p) (e :: es) [] pos) (sCall F dd g) := by
  refine ⟨fun pins s σ H Q I h => wpAny_Call_Name_kw (ld_glob I hg hm ?_ hdb)⟩
  have h2 := call_rd (n := n) hflat hlen σ H Q h
  refine PySem.W.callWith_K (h₀ := X.base) I.ok.mod.kin hk (thn (ha.run pos pins s σ H _ I h2) fun us s1 q => ?_) he hpl
  obtain ⟨vs, H1, I1, r, q⟩ := q
  exact ⟨I1.kIn, run_G G hr hgd (hx σ) hb hd I1 r q⟩
theorem len_rNil : ∀ δ ars δ', rNil δ = .ok ars δ' → ars.length = 0 := fun _ _ _ e => by cases e; rfl
theorem len_rCons {f : List Sl → Rs AV} {m : Nat} (h : ∀ δ ars δ', g δ = .ok ars δ' → ars.length = m) : ∀ δ ars δ', rCons f g δ = .ok ars δ' → ars.length = m + 1 := fun δ ars δ' e => by
  unfold rCons at e
  cases q : f δ with
  | bad => rw [q] at e; cases e
  | er x d => rw [q] at e; cases e
  | ok a δ1 =>
    rw [q] at e
    have e : (match arOf a with
      | some r => (g δ1).bind fun rs δ2 => .ok (r :: rs) δ2
      | none => .bad) = Rs.ok ars δ' := e
    cases q2 : arOf a with
    | none => simp only [q2] at e; cases e
    | some r =>
      simp only [q2] at e
      cases q3 : g δ1 with
      | bad => rw [q3] at e; cases e
      | er x d => rw [q3] at e; cases e
      | ok rs δ2 =>
        rw [q3] at e
        cases e
        simp [h _ _ _ q3]
theorem len_rIo {j m : Nat} (h : ∀ δ ars δ', g δ = .ok ars δ' → ars.length = m) : ∀ δ ars δ', rIo j g δ = .ok ars δ' → ars.length = m + 1 := fun δ ars δ' e => by
  unfold rIo at e
  cases q : sVar j δ with
  | bad => rw [q] at e; cases e
  | er x d => rw [q] at e; cases e
  | ok a δ1 =>
    rw [q] at e
    have e : ((g δ1).bind fun rs δ2 => Rs.ok (Ar.io j :: rs) δ2) = Rs.ok ars δ' := e
    cases q3 : g δ1 with
    | bad => rw [q3] at e; cases e
    | er x d => rw [q3] at e; cases e
    | ok rs δ2 =>
      rw [q3] at e
      cases e
      simp [h _ _ _ q3]
end
end Hb
namespace Hb
open PySem PySem.Spec PyProof.Rows L2
def outs (n : Nat) (pin : List Nat) (δ : List Sl) : List Sl := (List.range n).map fun i => if i ∈ pin then noAl ((δ[i]?).getD .no) else .no
def fnRun (n m : Nat) (pin : List Nat) (body : List Sl → Ot) : List Sl → FR := fun δ => match body (δ ++ List.replicate (m - n) .no) with
  | .nx δ' => .ok (.fz .none) (outs n pin δ')
  | .rt s δ' => .ok s (outs n pin δ')
  | .er x δ' => .er x (outs n pin δ')
  | _ => .bad
def oF (pin : List Nat) (n : Nat) (F : Nat → List Addr) : Nat → List Addr := fun i => if i < n ∧ i ∈ pin then F i else []
theorem no_al {s : Sl} {x j : Nat} : noAl s ≠ .al x j := by cases s <;> simp [noAl]
theorem start_get {N : List Str} {vs : List V} {i : Nat} (h : i < vs.length) : (L2.start N vs)[i]? = (vs.map some)[i]? := by
  unfold L2.start
  rw [List.getElem?_append_left (by simpa using h)]
section
variable {K : PySem.W.Frag} {mg : Str → Option Value} {b : Bk} {Fz : Hp} {F : Nat → List Addr} {δ : List Sl} {H : Hp} {vs : List V} {N : List Str} {pin : List Nat}
theorem rl_in (R : Rl K b Fz F δ (vs.map some) H) (hN : vs.length ≤ N.length) (hm : mkT ∈ pin → b.T = TK K) : Rl K ⟨b.B, b.F0, pin, L2.start N vs, b.T⟩ Fz (fun i => if i < vs.length then F i else []) (δ ++ List.replicate (N.length - vs.length) .no) (L2.start N vs) H := by
  have hl : δ.length = vs.length := by have := R.len; simpa using this.symm
  refine ⟨R.le, R.base, ?_, fun i s e => ?_, fun i => ?_, fun i j a h1 h2 => ?_, fun i a h => ?_, fun i a h => ?_, fun i a h => ?_, R.keep, R.f0, fun _ _ => rfl, fun i x j e => ?_, fun i a h => ?_, R.tb, hm⟩
  · unfold L2.start
    simp [hl]
  · by_cases c : i < vs.length
    · rw [List.getElem?_append_left (by omega)] at e
      rw [start_get c, if_pos c]
      have h := R.slot i s e
      cases s with
      | al x j =>
        obtain ⟨h1, a, b', ws, h2, h3⟩ := h
        refine ⟨h1, a, b', ws, ?_, h3⟩
        have hx : x < vs.length := by
          by_cases q : x < vs.length
          · exact q
          · rw [List.getElem?_eq_none (by simpa using q)] at h2
            cases h2
        rw [start_get hx]
        exact h2
      | no => exact h
      | fz d => exact h
      | ol xs => exact h
      | od kvs => exact h
    · rw [List.getElem?_append_right (by omega), List.getElem?_replicate] at e
      split at e
      · cases e
        exact if_neg c
      · cases e
  · by_cases c : i < vs.length
    · rw [if_pos c]; exact R.nd i
    · rw [if_neg c]; exact List.nodup_nil
  · have h1 : a ∈ (if i < vs.length then F i else []) := h1
    have h2 : a ∈ (if j < vs.length then F j else []) := h2
    by_cases c : i < vs.length
    · by_cases c2 : j < vs.length
      · rw [if_pos c] at h1
        rw [if_pos c2] at h2
        exact R.dj i j a h1 h2
      · rw [if_neg c2] at h2; cases h2
    · rw [if_neg c] at h1; cases h1
  · have h : a ∈ (if i < vs.length then F i else []) := h
    by_cases c : i < vs.length
    · rw [if_pos c] at h; exact R.offF i a h
    · rw [if_neg c] at h; cases h
  · have h : a ∈ (if i < vs.length then F i else []) := h
    by_cases c : i < vs.length
    · rw [if_pos c] at h; exact R.offB i a h
    · rw [if_neg c] at h; cases h
  · have h : a ∈ (if i < vs.length then F i else []) := h
    by_cases c : i < vs.length
    · rw [if_pos c] at h; exact R.on i a h
    · rw [if_neg c] at h; cases h
  · by_cases c : i < δ.length
    · rw [List.getElem?_append_left c] at e
      obtain ⟨xs, hx⟩ := R.als i x j e
      exact ⟨xs, by rw [List.getElem?_append_left (List.getElem?_eq_some_iff.mp hx).1]; exact hx⟩
    · rw [List.getElem?_append_right (by omega), List.getElem?_replicate] at e
      split at e <;> cases e
  · have h : a ∈ (if i < vs.length then F i else []) := h
    by_cases c : i < vs.length
    · rw [if_pos c] at h; exact R.noT i a h
    · rw [if_neg c] at h; cases h
theorem rl_out {Fz0 : Hp} {F0 : Nat → List Addr} {δ0 : List Sl} {H0 : Hp} (R0 : Rl K b Fz0 F0 δ0 (vs.map some) H0) {σ : L2.St} (R : Rl K ⟨b.B, b.F0, pin, L2.start N vs, b.T⟩ Fz F δ σ H) : Rl K b Fz (oF pin vs.length F) (outs vs.length pin δ) (vs.map some) H := by
  have inF : ∀ i a, a ∈ oF pin vs.length F i → i < vs.length ∧ i ∈ pin ∧ a ∈ F i := fun i a h => by
    unfold oF at h
    by_cases c : i < vs.length ∧ i ∈ pin
    · rw [if_pos c] at h
      exact ⟨c.1, c.2, h⟩
    · rw [if_neg c] at h
      cases h
  have gt : ∀ i, i < vs.length → (outs vs.length pin δ)[i]? = some (if i ∈ pin then noAl ((δ[i]?).getD .no) else .no) := fun i h => by
    unfold outs
    rw [List.getElem?_map, List.getElem?_range h]
    rfl
  refine ⟨R.le, R.base, by simp [outs], fun i s e => ?_, fun i => ?_, fun i j a h1 h2 => R.dj i j a (inF i a h1).2.2 (inF j a h2).2.2, fun i a h => R.offF i a (inF i a h).2.2, fun i a h => R.offB i a (inF i a h).2.2, fun i a h => R.on i a (inF i a h).2.2, R.keep, R.f0, R0.pin, fun i x j e => ?_, fun i a h => R.noT i a (inF i a h).2.2, R.tb, R0.tp⟩
  · have hi : i < vs.length := by
      have := (List.getElem?_eq_some_iff.mp e).1
      simpa [outs] using this
    rw [gt i hi] at e
    cases e
    unfold oF
    by_cases c : i ∈ pin
    · rw [if_pos c, if_pos ⟨hi, c⟩]
      have hp : σ[i]? = (L2.start N vs)[i]? := R.pin i c
      rw [start_get hi] at hp
      rw [← hp]
      cases q : δ[i]? with
      | none =>
        exfalso
        have h1 : i < σ.length := by
          have : σ[i]? = some (some vs[i]) := by rw [hp, List.getElem?_map, List.getElem?_eq_getElem hi]; rfl
          exact (List.getElem?_eq_some_iff.mp this).1
        rw [R.len] at h1
        rw [List.getElem?_eq_getElem h1] at q
        cases q
      | some t => exact noAl_ok (R.slot i t q)
    · rw [if_neg c, if_neg (fun z => c z.2)]
      rfl
  · unfold oF
    by_cases c : i < vs.length ∧ i ∈ pin
    · rw [if_pos c]; exact R.nd i
    · rw [if_neg c]; exact List.nodup_nil
  · have hi : i < vs.length := by
      have := (List.getElem?_eq_some_iff.mp e).1
      simpa [outs] using this
    rw [gt i hi] at e
    by_cases c : i ∈ pin
    · rw [if_pos c] at e
      exact absurd (Option.some.inj e) no_al
    · rw [if_neg c] at e
      cases e
theorem av_out {σ : L2.St} {v : V} {s : Sl} {n : Nat} (A : AvR K b Fz F H σ v (.tmp s)) : AvR K b Fz (oF pin n F) H (vs.map some) v (.tmp s) := by
  obtain ⟨h1, g, h2, h3, h4⟩ := A
  refine ⟨h1, g, h2, h3, fun a ha => ⟨(h4 a ha).1, (h4 a ha).2.1, (h4 a ha).2.2.1, fun i hi => ?_⟩⟩
  unfold oF at hi
  by_cases c : i < n ∧ i ∈ pin
  · rw [if_pos c] at hi
    exact (h4 a ha).2.2.2 i hi
  · rw [if_neg c] at hi
    cases hi
end
theorem body_okM {K : PySem.W.Frag} {mg : Str → Option Value} {N : List Str} {vs : List V} {H : Hp} {Q : VK} {E : XK} {n : Nat} {pin : List Nat} {body : List Sl → Ot} (hN : n ≤ N.length) (h : vs.length = n ∧ ∃ b Fz F δ, (mkT ∈ pin → b.T = TK K) ∧ Rl K b Fz F δ (vs.map some) H ∧ PostF K mg b Fz vs Q E (fnRun n N.length pin body δ)) :
    rdS K mg (fun cls d _ H => E cls d H) pin body { nx := fun _ H' => Q .non H', rt := Q } (L2.start N vs) H := by
  obtain ⟨hl, b, Fz, F, δ, hm, R, P⟩ := h
  subst hl
  refine ⟨_, Fz, _, _, rfl, rl_in (pin := pin) R hN hm, ?_⟩
  unfold fnRun at P
  cases q : body (δ ++ List.replicate (N.length - vs.length) .no) with
  | bad => rw [q] at P; exact P
  | bk δ' => rw [q] at P; exact P.elim
  | ct δ' => rw [q] at P; exact P.elim
  | nx δ' =>
    rw [q] at P
    exact fun σ' H' Fz' F' s R' => P .non H' Fz' _ s (rl_out R R') ⟨rfl, [], ⟨rfl, _, rfl, .non⟩, List.nodup_nil, fun _ z => nomatch z⟩
  | rt t δ' =>
    rw [q] at P
    exact fun v σ' H' Fz' F' s R' A => P v H' Fz' _ s (rl_out R R') (av_out (b := b) (σ := σ') A)
  | er x δ' =>
    rw [q] at P
    exact fun c dd σ' H' Fz' F' s R' e => P c dd H' Fz' _ s (rl_out R R') e
theorem body_ok {K : PySem.W.Frag} {mg : Str → Option Value} {N : List Str} {vs : List V} {H : Hp} {Q : VK} {E : XK} {n : Nat} {pin : List Nat} {body : List Sl → Ot} (hN : n ≤ N.length) (hm : mkT ∉ pin) (h : spF K mg n (fnRun n N.length pin body) vs H Q E) :
    rdS K mg (fun cls d _ H => E cls d H) pin body { nx := fun _ H' => Q .non H', rt := Q } (L2.start N vs) H := by
  obtain ⟨hl, b, Fz, F, δ, R, P⟩ := h
  exact body_okM hN ⟨hl, b, Fz, F, δ, fun z => absurd z hm, R, P⟩
/-- a def in which the table is followed -/
def spT (K : PySem.W.Frag) (mg : Str → Option Value) (n : Nat) (f : List Sl → FR) : Sp := fun vs H Q E => vs.length = n ∧ ∃ b Fz F δ, b.T = TK K ∧ Rl K b Fz F δ (vs.map some) H ∧ PostF K mg b Fz vs Q E (f δ)
/-- the context of a def's body -/
abbrev GX (P : Program) (w : World) (K : PySem.W.Frag) (mg : Str → Option Value) (base : Heap) (N : List Str) (qual : Str) (scope : Scope) (f : Addr) (cd : Value) (A : Around) (outer : List Env) (s : Shared) (H : Hp) (E : XK) : Cx := cxOf (L2.CX P w) P w K mg base N qual scope f cd A outer s H E
abbrev GW (E : XK) : WX := fun cls d _ H => E cls d H
theorem fnG_ofM {P : Program} {w : World} {K : PySem.W.Frag} {mg : Str → Option Value} {base : Heap} {k : Nat} {f : Addr} {name qual : Str} {params : Arguments} {body : List Stmt} {scope : Scope} {dV kV doc pm cdv ct oc : Value} {an od : Option Addr}
    {osl : Array (Option Value)} {N ps : List Str} {n : Nat} {pin : List Nat} {fb : List Sl → Ot} (lk : K.lookup f = some ⟨oc, od, .func (PySem.W.fnOf name qual params body scope dV kV doc pm an cdv ct), osl⟩) (hcd : PySem.W.codeIn K cdv qual = true) (S : FnScope N ps scope)
    (hn : ps.length = n) (sp : Sp) (hs1 : ∀ vs H Q E, sp vs H Q E → vs.length = n) (hs2 : n ≤ N.length → ∀ vs H Q E, sp vs H Q E → rdS K mg (fun cls d _ H => E cls d H) pin fb { nx := fun _ H' => Q .non H', rt := Q } (L2.start N vs) H)
    (hbody : ∀ (A : Around) (outer : List Env) (s : Shared) (H : Hp) (E : XK), Room k (A.deeper (envOfC qual scope s.heap.objs.size f cdv)) → A.guards = some [] →
      SSs (GX P w K mg base N qual scope f cdv A outer s H E) (GW E) pin body fb) :
    FnG P w K mg base (k + 1) f (PySem.W.fnOf name qual params body scope dV kV doc pm an cdv ct) ps sp := by
  have hpl : n ≤ N.length := by have := congrArg List.length S.pre; rw [List.length_take] at this; omega
  refine ⟨fun vs H Q E h => (hs1 vs H Q E h).trans hn.symm, fun A outer s H args us vs Q E hgd hr e0 hb r hsp => ?_⟩
  have hl : vs.length = ps.length := (hs1 _ _ _ _ hsp).trans hn.symm
  have KX : K.In s.heap := e0.mod.kin.keeps fun b o e => (e0.bs b o e).1
  have lim : s.heap.NoLimit := e0.mod.nolimit.keeps fun b o e => (e0.bs b o e).1
  have hkind : ∀ y ∈ ps.zip us, scope.names.lookup y.1 = some .local ∨ (scope.names.lookup y.1 = some .cell ∧ ((cellsFrom (s.heap.objs.size + 1) scope.names []).lookup y.1).isSome = true) := fun ⟨n, v⟩ hy => by
    rcases S.par n (List.of_mem_zip hy).1 with q | q
    · exact .inl q
    · exact .inr ⟨q, PySem.W.cellsFrom_some _ _ _ (.inl q)⟩
  refine codeAny_call_function hr.depth (KX _ _ lk) rfl S.co S.gen rfl (PySem.W.codeRec_of KX hcd) (hb _ _ _ _ ?_)
  refine wpAny_newFunctionEnv_cells S.kind hkind fun env he s1 x => ?_
  subst he
  refine ⟨lim.keeps x.toInCall.keep, codeAny_func ?_⟩
  have ht := hbody A outer s H E (hr.deeper _) hgd
  have hq := hs2 hpl _ _ _ _ hsp
  have I : Inv (GX P w K mg base N qual scope f cdv A outer s H E) [] (L2.start N vs) H s1 := inv_start S hr.hd e0 hl r x
  refine wpAny_mono (ht.run [] s1 (L2.start N vs) H _ I hq) (fun fl s' hs => ?_) fun e s' hs => hs
  have fin : ∀ {σ' : L2.St} {H' : Hp} {v : V} {u : Value}, Inv (GX P w K mg base N qual scope f cdv A outer s H E) [] σ' H' s' → RelV v u → Q v H' → CE outer P w H s Q u s' :=
    fun {σ' H' v u} J rv q => ⟨v, H', J.os, J.bare, J.base, J.hok, rv, q⟩
  cases fl with
  | ret u =>
    obtain ⟨v, σ', H', J, rv, q⟩ := hs
    exact fin J rv q
  | next =>
    obtain ⟨σ', H', J, q⟩ := hs
    exact fin (v := V.non) (u := Value.none) J rfl q
  | brk =>
    obtain ⟨_, _, _, q⟩ := hs
    exact False.elim q
  | cont =>
    obtain ⟨_, _, _, q⟩ := hs
    exact False.elim q
theorem fnG_of {P : Program} {w : World} {K : PySem.W.Frag} {mg : Str → Option Value} {base : Heap} {k : Nat} {f : Addr} {name qual : Str} {params : Arguments} {body : List Stmt} {scope : Scope} {dV kV doc pm cdv ct oc : Value} {an od : Option Addr}
    {osl : Array (Option Value)} {N ps : List Str} {n : Nat} {pin : List Nat} {fb : List Sl → Ot} (lk : K.lookup f = some ⟨oc, od, .func (PySem.W.fnOf name qual params body scope dV kV doc pm an cdv ct), osl⟩) (hcd : PySem.W.codeIn K cdv qual = true) (S : FnScope N ps scope)
    (hn : ps.length = n)
    (hbody : ∀ (A : Around) (outer : List Env) (s : Shared) (H : Hp) (E : XK), Room k (A.deeper (envOfC qual scope s.heap.objs.size f cdv)) → A.guards = some [] →
      SSs (GX P w K mg base N qual scope f cdv A outer s H E) (GW E) pin body fb) (hm : mkT ∉ pin := by decide) :
    FnG P w K mg base (k + 1) f (PySem.W.fnOf name qual params body scope dV kV doc pm an cdv ct) ps (spF K mg n (fnRun n N.length pin fb)) :=
  fnG_ofM lk hcd S hn (spF K mg n (fnRun n N.length pin fb)) (fun _ _ _ _ h => h.1) (fun h _ _ _ _ z => body_ok h hm z) hbody
theorem gx_pass {P : Program} {w : World} {K : PySem.W.Frag} {mg : Str → Option Value} {base : Heap} {N : List Str} {qual : Str} {scope : Scope} {f : Addr} {cd : Value} {A : Around} {outer : List Env} {s : Shared} {H : Hp} {E : XK} :
    ∀ σ, PassesAt (L2.CX P w) (GX P w K mg base N qual scope f cd A outer s H E) σ (WE (GW E) σ) := passAt (X := GX P w K mg base N qual scope f cd A outer s H E) (W := GW E) (takes_of rfl rfl rfl rfl)
theorem w0_pass {X : Cx} {P : Program} {w : World} : ∀ σ, PassesAt (L2.CX P w) X σ (WE W0 σ) := fun σ pins H s e s' I h => by
  obtain ⟨_, _, _, _, _, _, _, _, _, _, _, _, z⟩ := h
  exact z.elim
theorem sp_law {K : PySem.W.Frag} {mg : Str → Option Value} {F : List Sl → FR} {H : Hp} {a : Addr} {ns : List Int} {δ : List Sl} (hX : SqX K H a (ns.map V.int)) (h : F [.fz (.list (ns.map PyData.int))] = .ok (.fz (.bool true)) δ) :
    spF K mg 1 F [.ref a] H (fun v _ => v = .bl true) fun _ _ _ => False := by
  have rL : ∀ ns : List Int, RpL K H (ns.map V.int) (ns.map PyData.int) := fun ns => by
    induction ns with
    | nil => exact .nil
    | cons n r ih => exact .cons (.int n) ih
  refine ⟨rfl, ⟨H, H, [], [], []⟩, H, fun _ => [], [.fz (.list (ns.map PyData.int))], ⟨Same.refl _, Same.refl _, rfl, fun i s e => ?_, fun _ => List.nodup_nil, fun _ _ _ z => (nomatch z), fun _ _ z => (nomatch z), fun _ _ z => (nomatch z), fun _ _ z => (nomatch z), fun _ _ => .inl rfl, fun _ h => h, fun _ z => (nomatch z), fun i x j e => ?_, fun _ _ z => (nomatch z), .nil rfl, fun z => (nomatch z)⟩, ?_⟩
  · cases i with
    | zero =>
      cases e
      exact ⟨rfl, _, rfl, .lst hX (rL ns)⟩
    | succ i => cases e
  · cases i with
    | zero => cases e
    | succ i => cases e
  · rw [h]
    intro v H' Fz' F' s R A
    obtain ⟨_, g, ⟨_, v', e, r⟩, _⟩ := A
    cases e
    cases r
    rfl
/-- the head's end: the law is called over a ground that shows nothing but the script -/
theorem lawG {P : Program} {w : World} {K : PySem.W.Frag} {mg mb : Str → Option Value} {k : Nat} {fa a : Addr} {fd : FuncData} {x : Str} {sp : Sp} {s₁ : Shared} {vs : List Value} {ns : List Int}
    (KX : K.In s₁.heap) (hns : s₁.heap.Ns mainGlobals mg) (hb : s₁.heap.Ns builtinsNs mb) (hbb : ∀ x : Str, x ≠ "__name__" → mb x = bootBuiltins x) (hlim : s₁.heap.NoLimit) (hg : s₁.gens = #[])
    (ha : s₁.heap.get? a = some { cls := .type "list", data := .seq vs.toArray }) (hi : IntsAre vs ns) (hl : ns.length ≤ sizeLine) (hr : Room k callerA)
    (FF : ∀ bs : Heap, K.In bs → bs.Ns mainGlobals mg → FnG P w K mg bs k fa fd [x] sp) (hbind : ∀ (s : Shared) (u : Value), BindsTo s fd ⟨[u], []⟩ [(x, u)])
    (hsp : ∀ H : Hp, SqX K H a (ns.map V.int) → sp [.ref a] H (fun v _ => v = .bl true) fun _ _ _ => False) :
    codeAny (model P w) callerA (.call (.ref fa) ⟨[.ref a], []⟩) (fun r s' => r = .ok (.ret (.bool true)) ∧ OldK s₁.heap s'.heap ∧ s'.os = s₁.os ∧ AllBare s'.gens) s₁ := by
  have rv := vals_ints hi
  have nv := hi.length
  have main : ∀ G : Hp, Only G → SqX K G a (ns.map V.int) → HOk P w G s₁.heap → (∀ c, G c ≠ none → c = a) → (G a ≠ none → K.lookup a = none) →
      codeAny (model P w) callerA (.call (.ref fa) ⟨[.ref a], []⟩) (fun r s' => r = .ok (.ret (.bool true)) ∧ OldK s₁.heap s'.heap ∧ s'.os = s₁.os ∧ AllBare s'.gens) s₁ := by
    intro G gO gS gok gA gK
    have at_a : ∀ {c : Addr} {u : HO}, G c = some u → c = a := fun {c u} e => gA c (by rw [e]; simp)
    have free : ∀ {c : Addr} {o : Obj} {es : Array DictEntry} {ep : Nat}, s₁.heap.get? c = some o → o.data = .dict es ep → G c = none := fun {c o es ep} e d => by
      cases q : G c with
      | none => rfl
      | some u =>
        have e2 := at_a q
        subst e2
        rw [ha] at e
        cases e
        exact absurd d (by intro z; cases z)
    have names : ∀ {c : Addr} {m : Str → Option Value}, s₁.heap.Ns c m → (hidT s₁.heap G).Ns c m := fun {c m} ⟨o, es, ep, e, d, r⟩ => ⟨o, es, ep, hidT_get e (free e d), d, r⟩
    have kin : K.In (hidT s₁.heap G) := fun c o e => hidT_get (KX c o e) (by
      cases q : G c with
      | none => rfl
      | some u =>
        have e2 := at_a q
        subst e2
        rw [gK (by rw [q]; simp)] at e
        cases e)
    have md : Mod K mg (hidT s₁.heap G) := ⟨kin, names hns, ⟨mb, names hb, hbb⟩, let ⟨mc, h1, h2⟩ := hlim; ⟨mc, names h1, h2⟩⟩
    have e0 : Env0 P w K mg (hidT s₁.heap G) callerA [] s₁ G := ⟨rfl, md, fun c o e => of_hidT e, Nat.le_of_eq (hidT_size _ _), trivial, fun c z => absurd (show c ∈ ([] : List Addr) from z) (by simp), gok, .of_eq hg⟩
    refine codeAny_mono ((FF _ kin (names hns)).run callerA [] s₁ G ⟨[.ref a], []⟩ [.ref a] [.ref a] _ _ rfl hr e0 (hbind s₁ (.ref a)) (.cons rfl .nil) (hsp G gS)) fun r s' h => ?_
    cases r with
    | error e =>
      obtain ⟨_, _, _, _, _, _, _, _, _, _, _, _, z⟩ := h
      exact z.elim
    | ok fl =>
      cases fl with
      | next => exact False.elim h
      | brk => exact False.elim h
      | cont => exact False.elim h
      | ret u =>
        obtain ⟨v, G2, os, bare, un, ok2, r2, q⟩ := h
        have q : v = .bl true := q
        subst q
        obtain rfl : u = Value.bool true := r2
        refine ⟨rfl, OldK.of_keep fun c o e => ?_, os, bare⟩
        cases q2 : G c with
        | none => exact un.keep c o e q2 (fun z => absurd (show c ∈ ([] : List Addr) from z) (by simp)) (by simp)
        | some u =>
          rcases gO c with z | ⟨oc, xs, z⟩
          · rw [q2] at z; cases z
          · obtain ⟨e1, _⟩ := gok c _ z
            obtain ⟨e2, _⟩ := ok2 c _ (un.frzs c oc _ z)
            rw [e] at e1
            cases e1
            exact e2
  cases hk : K.lookup a with
  | some o =>
    have e := KX a o hk
    rw [ha] at e
    cases e
    exact main (fun _ => none) (fun _ => .inl rfl) (.inr ⟨vs, 0, hk, by rw [nv]; exact hl, rv⟩) (fun c u z => nomatch z) (fun c z => absurd rfl z) fun z => absurd rfl z
  | none =>
    refine main (fun c => if c = a then some (.frz { cls := .type "list", data := .seq vs.toArray } (.lst (ns.map V.int))) else none) (fun c => ?_) (.inl (.inr ⟨_, if_pos rfl⟩)) (fun c u z => ?_) (fun c z => ?_) fun _ => hk
    · by_cases hc : c = a
      · exact .inr ⟨_, _, if_pos hc⟩
      · exact .inl (if_neg hc)
    · by_cases hc : c = a
      · have z2 := (if_pos hc).symm.trans z
        cases z2
        subst hc
        exact ⟨ha, by rw [List.length_map]; exact hl, vs, _, rv, ha⟩
      · have z2 := (if_neg hc).symm.trans z
        cases z2
    · by_cases hc : c = a
      · exact hc
      · exact absurd (if_neg hc) z
theorem walkG {l : PySem.W.OpenLaw} {n k : Nat} {q : Program} {loose : List Str} {XP : (Str → Option Value) → Heap → Prop} {YP : World → Heap → Prop} {d : DefRec} {x : Str}
    (hn : l.most = some n) (hn2 : n ≤ sizeLine) (hdf : d.params.defaults = []) (hr : Room k callerA)
    (FF : ∀ (w : World) (mg : Str → Option Value) (fa : Addr) (h : Heap), YP w h → h.Ns mainGlobals mg → mg d.name = some (.ref fa) →
      ∃ (K : PySem.W.Frag) (fd : FuncData) (sp : Sp), K.In h ∧ (∀ (s : Shared) (u : Value), BindsTo s fd ⟨[u], []⟩ [(x, u)]) ∧
        (∀ (H : Hp) (a : Addr) (ns : List Int), ns.length ≤ n → SqX K H a (ns.map V.int) → sp [.ref a] H (fun v _ => v = .bl true) fun _ _ _ => False) ∧
        ∀ bs : Heap, K.In bs → bs.Ns mainGlobals mg → FnG l.prog w K mg bs k fa fd [x] sp) :
    PySem.W.WalkO q loose XP YP l.row.toRowW d [] (fun f vs => PySem.call f vs) := by
  refine Att.attach_call hn hdf fun w s₀ s₁ mg mb fa o pm cd doc a vs ns G Y ho hd hcd hmg hobj hints hlen hg => ?_
  obtain ⟨K, fd, sp, KX, hb, hsp, hF⟩ := FF w mg fa _ Y G.T.g hmg
  exact lawG KX G.T.g G.T.b G.T.builtins G.T.nolimit hg hobj hints (Nat.le_trans hlen hn2) hr hF hb fun H hS => hsp H a ns hlen hS
end Hb
namespace Hb
open PySem PySem.Spec PyProof.Rows L2
mutual
def shw : PyData → Bool
  | .none => true
  | .bool _ => true
  | .str _ => true
  | .int i => decide (i.natAbs.log2 < 1920)
  | .list xs => shwAll xs
  | .tuple xs => shwAll xs
  | .dict kvs => kvs.isEmpty
def shwAll : List PyData → Bool
  | [] => true
  | x :: xs => shw x && shwAll xs
end
section
variable {X : Cx} {pins : List (Addr × Obj)} {σ : L2.St} {H : Hp} {s : Shared}
def RR (X : Cx) (h : Heap) (u : Value) (d : PyData) : Prop := ∃ bs as, Reads h u d as ∧ ReadAtMost h d.depth bs ∧ ReprK X.prog X.w bs h d.depth u d.shown
def RRs (X : Cx) (h : Heap) (us : List Value) (ds : List PyData) : Prop := ∃ bs as, ReadsAll h us ds as ∧ ReadAtMost h (PyData.depthAll ds) bs ∧ ReprAllK X.prog X.w bs h (PyData.depthAll ds) us (PyData.shownAll ds)
theorem rr_cons {h : Heap} {u : Value} {us : List Value} {d : PyData} {ds : List PyData} : RR X h u d → RRs X h us ds → RRs X h (u :: us) (d :: ds) := fun ⟨b1, a1, r1, m1, k1⟩ ⟨b2, a2, r2, m2, k2⟩ => by
  refine ⟨b1 ++ b2, _, .cons r1 r2, ?_, ?_⟩
  · simp only [PyData.depthAll]
    exact (m1.mono (Nat.le_max_left _ _)).append (m2.mono (Nat.le_max_right _ _))
  · simp only [PyData.depthAll, PyData.shownAll]
    exact .cons ((k1.more fun b hb => List.mem_append_left _ hb).level_le (Nat.le_max_left _ _)) (k2.more_le (fun b hb => List.mem_append_right _ hb) (Nat.le_max_right _ _))
theorem rr_leaf {h : Heap} {u : Value} {d : PyData} (r : Reads h u d []) (k : ReprIs X.prog X.w u d.shown) : RR X h u d := ⟨[], _, r, fun _ z => (nomatch z), .of_is k _ _ _⟩
theorem rr_list {h : Heap} {a : Addr} {its : List Value} {n : Nat} {ds : List PyData} (e : h.get? a = some { cls := .type "list", data := .seq its.toArray n }) : RRs X h its ds → RR X h (.ref a) (.list ds) := fun ⟨bs, as, r, m, k⟩ => by
  have rr : Reads h (.ref a) (.list ds) _ := .list e rfl rfl (by simpa using r)
  have na : a ∉ bs := not_mem_of_deeper rr (by simp only [PyData.depth]; omega) m
  refine ⟨a :: bs, _, rr, ReadAtMost.cons rr (by simp only [PyData.depth]; omega) m, ?_⟩
  simp only [PyData.depth, PyData.shown]
  cases its with
  | nil =>
    cases r
    simp only [PyData.shownAll, listText_nil]
    exact ReprK.listEmpty e rfl rfl
  | cons x l => exact ReprK.list e rfl rfl na (by simpa using k.length_eq) fun i y q => k.item i y (by simpa using q)
theorem rr_tup {h : Heap} {a : Addr} {o : Obj} {its : List Value} {n : Nat} {ds : List PyData} (e : h.get? a = some o) (hc : o.cls = .type "tuple") (hd : o.data = .seq its.toArray n) : RRs X h its ds → RR X h (.ref a) (.tuple ds) := fun ⟨bs, as, r, m, k⟩ => by
  have rr : Reads h (.ref a) (.tuple ds) _ := .tuple e hc hd (by simpa using r)
  have na : a ∉ bs := not_mem_of_deeper rr (by simp only [PyData.depth]; omega) m
  refine ⟨a :: bs, _, rr, ReadAtMost.cons rr (by simp only [PyData.depth]; omega) m, ?_⟩
  simp only [PyData.depth, PyData.shown]
  exact ReprK.tuple e hc hd na (by simpa using k)
theorem rr_dic {h : Heap} {a : Addr} {o : Obj} {n : Nat} (e : h.get? a = some o) (hc : o.cls = .type "dict") (hd : o.data = .dict #[] n) (hs : (a == sysModules) = false) : RR X h (.ref a) (.dict []) := by
  have rr : Reads h (.ref a) (.dict []) _ := .dict e hc hd (by simpa using ReadsAll.nil) (by simpa using ReadsAll.nil)
  have m : ReadAtMost h (PyData.depthKv []) [] := fun _ z => (nomatch z)
  refine ⟨a :: [], _, rr, ReadAtMost.cons rr (by simp only [PyData.depth]; omega) m, ?_⟩
  simp only [PyData.depth, PyData.shown]
  exact ReprK.dict e hc hd hs (by simp) (by simpa [PyData.shownKv] using ReprEntriesK.nil)
mutual
theorem rr_of (I : Inv X pins σ H s) : ∀ {v : V} {d : PyData} {u : Value}, Rp X.K H v d → RelV v u → shw d = true → d.shown.length ≤ sizeLine → RR X s.heap u d
  | _, _, _, .non, e, _, _ => by
    obtain rfl : _ = Value.none := e
    exact rr_leaf .none (by simp only [PyData.shown]; exact ReprIs.none)
  | _, _, _, .bl b, e, _, _ => by
    obtain rfl : _ = Value.bool b := e
    exact rr_leaf (.bool b) (by simp only [PyData.shown]; exact ReprIs.bool b)
  | _, _, _, .int i, e, hs, _ => by
    obtain ⟨t, rfl⟩ := e
    exact rr_leaf (.int i t) (by simp only [PyData.shown]; exact ReprIs.int t (by simpa [shw] using hs))
  | _, _, _, .str x, e, _, hz => by
    obtain ⟨t, rfl⟩ := e
    exact rr_leaf (.str x t) (by simp only [PyData.shown] at hz ⊢; exact ReprIs.str x t hz)
  | _, _, _, .lst (ds := ds) h1 h2, e, hs, hz => by
    obtain rfl : _ = Value.ref _ := e
    obtain ⟨its, n, r, e, _⟩ := inv_lstX I h1
    have hz' : (listText (PyData.shownAll ds)).length ≤ sizeLine := by simpa only [PyData.shown] using hz
    exact rr_list e (rrs_of I h2 r (by simpa [shw] using hs) fun t ht => Nat.le_trans (listText_mem_le ht) hz')
  | _, _, _, .tup (ds := ds) h1 h2, e, hs, hz => by
    obtain rfl : _ = Value.ref _ := e
    obtain ⟨its, r, ⟨o, e, hc, n, hd⟩, _⟩ := I.tuple (SqT.of h1)
    have hz' : (tupleText (PyData.shownAll ds)).length ≤ sizeLine := by simpa only [PyData.shown] using hz
    exact rr_tup e hc hd (rrs_of I h2 r (by simpa [shw] using hs) fun t ht => Nat.le_trans (tupleText_mem_le ht) hz')
  | _, _, _, .dK h1 h2, e, hs, _ => by
    obtain rfl : _ = Value.ref _ := e
    cases h2 with
    | cons _ _ => simp [shw] at hs
    | nil =>
      obtain ⟨_, hy, vs, kv, o, es, ep, e, hx, hd, _, pr, _⟩ := I.hok _ _ h1
      cases kv
      have : es.toList = [] := by
        generalize es.toList = l at pr
        cases pr
        rfl
      have e2 : es = #[] := by simpa using this
      subst e2
      exact rr_dic e hx.1 hd hy
  | _, _, _, .dT h1 h2, e, hs, _ => by
    obtain rfl : _ = Value.ref _ := e
    cases h2 with
    | cons _ _ => simp [shw] at hs
    | nil =>
      obtain ⟨_, hy, xs, kv, o, es, ep, e, hx, hd, pr, _⟩ := I.hok _ _ h1
      cases kv
      have e2 : es = #[] := by simpa using pr
      subst e2
      exact rr_dic e hx.1 hd hy
theorem rrs_of (I : Inv X pins σ H s) : ∀ {vs : List V} {ds : List PyData} {us : List Value}, RpL X.K H vs ds → Vals vs us → shwAll ds = true → (∀ t ∈ PyData.shownAll ds, t.length ≤ sizeLine) → RRs X s.heap us ds
  | _, _, _, .nil, r, _, _ => by
    cases r
    exact ⟨[], _, .nil, fun _ z => (nomatch z), by simp only [PyData.shownAll]; exact .nil⟩
  | _, _, _, .cons (d := d) (ds := ds) h t, r, hs, hz => by
    cases r with
    | cons r1 r2 =>
      have hs2 : shw d = true ∧ shwAll ds = true := by simpa [shwAll] using hs
      exact rr_cons (rr_of I h r1 hs2.1 (hz _ (by simp only [PyData.shownAll]; exact List.mem_cons_self))) (rrs_of I t r2 hs2.2 fun t ht => hz _ (by simp only [PyData.shownAll]; exact List.mem_cons_of_mem _ ht))
end
/-- repr(v): no repr is running -/
def rRepr (K : PySem.W.Frag) : List V → Hp → VK → Prop := fun xs H Q => ∃ v d, xs = [v] ∧ Rp K H v d ∧ (shw d = true ∧ d.depth ≤ 60) ∧ d.shown.length ≤ sizeLine ∧ Q (.str d.shown) H
theorem call_reprT (hu : X.A.units + 64 < cLine) (hg : X.A.guards = some []) : CallR X (.builtin "repr") (rRepr X.K) := by
  intro pins s σ H xs us Q I r h
  obtain ⟨v, d, rfl, hr, ⟨hs, hd⟩, hz, q⟩ := h
  obtain ⟨u, rfl, rv⟩ := vals1 r
  have fin : ∀ h' tk tk2, (∀ b o, s.heap.get? b = some o → h'.get? b = some o) → EP X pins σ Q (.str d.shown tk) { s with heap := h', toks := tk2 } := fun h' tk tk2 k => ⟨.str d.shown, H, I.kept k, ⟨_, rfl⟩, q⟩
  cases hr with
  | non =>
    obtain rfl : _ = Value.none := rv
    exact PySem.P.repr_of_none (by simpa [PyData.shown] using fin s.heap _ _ fun _ _ e => e)
  | bl b =>
    obtain rfl : _ = Value.bool b := rv
    exact PySem.P.repr_of_bool (by simpa [PyData.shown] using fin s.heap _ _ fun _ _ e => e)
  | int i =>
    obtain ⟨t, rfl⟩ := rv
    exact PySem.P.repr_of_int (by simpa [shw] using hs) (by simpa [PyData.shown] using fin s.heap _ _ fun _ _ e => e)
  | str x =>
    obtain ⟨t, rfl⟩ := rv
    exact PySem.P.repr_of_str (by simpa [PyData.shown] using fin s.heap _ _ fun _ _ e => e) (by simpa [PyData.shown] using hz)
  | lst h1 h2 =>
    rename_i a xs ds
    obtain rfl : _ = Value.ref a := rv
    obtain ⟨its, n, r, e, _⟩ := inv_lstX I h1
    have hz' : (listText (PyData.shownAll ds)).length ≤ sizeLine := by simpa only [PyData.shown] using hz
    obtain ⟨bs, as, rs, m, k⟩ := rrs_of I h2 r (by simpa [shw] using hs) fun t ht => Nat.le_trans (listText_mem_le ht) hz'
    have rr : Reads s.heap (.ref a) (.list ds) _ := .list e rfl rfl (by simpa using rs)
    have na : a ∉ bs := not_mem_of_deeper rr (by simp only [PyData.depth]; omega) m
    simp only [PyData.depth] at hd
    simp only [PyData.shown] at fin
    refine call_repr_slot (T := "list") (by omega) ⟨_, e, rfl⟩ F.slot_list_repr.toG ?_
    cases its with
    | nil =>
      cases rs
      simp only [PyData.shownAll, listText_nil] at fin
      exact call_list_repr_empty ⟨_, e, rfl⟩ e rfl ⟨_, _, rfl, fin s.heap _ _ fun _ _ e => e⟩
    | cons x l =>
      exact call_list_reprK e rfl rfl na (by simpa using k.length_eq) (fun i y q => k.item i y (by simpa using q)) hg (fun b _ => Clear.nil b) (by show X.A.units + 1 + _ < cLine; omega) (fun _ _ e => e) (fun h' u tk kk => ⟨_, _, rfl, fin h' _ _ kk⟩) hz'
  | tup h1 h2 =>
    rename_i a xs ds
    obtain rfl : _ = Value.ref a := rv
    obtain ⟨its, r, ⟨o, e, hc, n, hdd⟩, _⟩ := I.tuple (SqT.of h1)
    have hz' : (tupleText (PyData.shownAll ds)).length ≤ sizeLine := by simpa only [PyData.shown] using hz
    obtain ⟨bs, as, rs, m, k⟩ := rrs_of I h2 r (by simpa [shw] using hs) fun t ht => Nat.le_trans (tupleText_mem_le ht) hz'
    have rr : Reads s.heap (.ref a) (.tuple ds) _ := .tuple e hc hdd (by simpa using rs)
    have na : a ∉ bs := not_mem_of_deeper rr (by simp only [PyData.depth]; omega) m
    simp only [PyData.depth] at hd
    simp only [PyData.shown] at fin
    refine call_repr_slot (T := "tuple") (by omega) ⟨_, e, hc⟩ F.slot_tuple_repr ?_
    exact call_tuple_reprK e hc hdd na (by simpa using k) hg (fun b _ => Clear.nil b) (by show X.A.units + 1 + _ < cLine; omega) (fun _ _ e => e) (fun h' u tk kk => ⟨_, _, rfl, fin h' _ _ kk⟩) hz'
  | dK h1 h2 =>
    cases h2 with
    | cons _ _ => simp [shw] at hs
    | nil =>
      rename_i a
      obtain rfl : _ = Value.ref a := rv
      obtain ⟨_, hy, vs, kv, o, es, ep, e, hx, hdd, _, pr, _⟩ := I.hok _ _ h1
      cases kv
      have e1 : es.toList = [] := by
        generalize es.toList = l at pr
        cases pr
        rfl
      have e2 : es = #[] := by simpa using e1
      subst e2
      simp only [PyData.shown] at fin hz
      refine call_repr_slot (T := "dict") (by omega) ⟨_, e, hx.1⟩ F.slot_dict_repr ?_
      exact call_dict_reprK (as := []) (d := 0) e hx.1 hdd hy (by simp) .nil hg (fun b _ => Clear.nil b) (by show X.A.units + 1 + _ < cLine; omega) (fun _ _ e => e) (fun h' u tk kk => ⟨_, _, rfl, by simpa [PyData.shownKv] using fin h' _ _ kk⟩) (by simpa [PyData.shownKv] using hz)
  | dT h1 h2 =>
    cases h2 with
    | cons _ _ => simp [shw] at hs
    | nil =>
      rename_i a
      obtain rfl : _ = Value.ref a := rv
      obtain ⟨_, hy, xs, kv, o, es, ep, e, hx, hdd, pr, _⟩ := I.hok _ _ h1
      cases kv
      have e2 : es = #[] := by simpa using pr
      subst e2
      simp only [PyData.shown] at fin hz
      refine call_repr_slot (T := "dict") (by omega) ⟨_, e, hx.1⟩ F.slot_dict_repr ?_
      exact call_dict_reprK (as := []) (d := 0) e hx.1 hdd hy (by simp) .nil hg (fun b _ => Clear.nil b) (by show X.A.units + 1 + _ < cLine; omega) (fun _ _ e => e) (fun h' u tk kk => ⟨_, _, rfl, by simpa [PyData.shownKv] using fin h' _ _ kk⟩) (by simpa [PyData.shownKv] using hz)
def reprD (d : PyData) : Option PyData := if (shw d = true ∧ d.depth ≤ 60) ∧ d.shown.length ≤ sizeLine then some (.str d.shown) else none
theorem c1_repr {K : PySem.W.Frag} {mg : Str → Option Value} {W : WX} {pin : List Nat} : C1 K mg W pin (rRepr K) (gRd reprD) := c1_rd fun v d e H Q r k f q => by
  unfold reprD at k
  split at k
  · rename_i h
    cases k
    exact ⟨v, d, rfl, r, h.1, h.2, q⟩
  · cases k
end
end Hb
namespace Hb
open PySem PySem.Spec PyProof.Rows L2
def rRepX (K : PySem.W.Frag) : R2 := fun x y H Q => ∃ l k xs, x = .ref l ∧ y = .int k ∧ SqX K H l xs ∧ -(2 ^ 63) ≤ k ∧ k < 2 ^ 63 ∧ xs.length * k.toNat ≤ sizeLine ∧
  ∀ p, H p = none → Q (.ref p) (upd H p (.lst (List.replicate k.toNat xs).flatten))
theorem op_repX {X : Cx} : OpR X (binaryOp .Mult) (rRepX X.K) := by
  intro pins s σ H x y v u Q I rx ry h
  obtain ⟨l, k, xs, rfl, rfl, hX, k1, k2, hz, q⟩ := h
  cases rx
  obtain ⟨t, rfl⟩ := ry
  obtain ⟨its, n, r, e, z⟩ := inv_lstX I hX
  have hl := r.length
  have hlen : its.toArray.size * k.toNat ≤ sizeLine := by rw [List.size_toArray, ← hl]; exact hz
  have line8 : (sizeLine : Nat) ≤ (2 ^ 63 - 1) / 8 := by decide
  have notcap : ¬ its.toArray.size * k.toNat > (2 ^ 63 - 1) / 8 := by omega
  have fit : ¬ (!Builtin.List.listFitsIndex k) = true := by
    rw [fitsIndex_both k1 k2]
    exact Bool.false_ne_true
  have notlong : ¬ Builtin.List.listTooLong (its.toArray.size * k.toNat) = true := by
    rw [notLongL hlen]
    exact Bool.false_ne_true
  have made : List.foldl (fun x1 x2 => x1 ++ x2) #[] (List.replicate (if its.toArray.isEmpty = true then 0 else k.toNat) its.toArray) = (List.replicate k.toNat its).flatten.toArray := by
    have f0 : ∀ m : Nat, List.foldl (fun x1 x2 => x1 ++ x2) #[] (List.replicate m its.toArray) = (List.replicate m its).flatten.toArray := fun m => by
      have g := foldl_rep its m []
      rwa [List.nil_append] at g
    rw [f0]
    cases its with
    | nil => simp
    | cons a r' => rw [if_neg (by simp)]
  refine wpAny_binaryOp_repeat_ref (T := "list") (U := "int") (by decide) ⟨_, e, rfl⟩ (fun s' => typeIs_int s' k t) noFill_list_mul F.fills_int_mul F.slot_int_rmul repeat_list F.slot_int_index.lookup
    (call_meets F.slot_int_rmul (typeIs_int s k t) F.entry_int_rmul (F.args_int_rmul_2 _ _) (int___rmul___int_list k t l its.toArray n)
      ⟨e, rfl, ⟨_, e, rfl⟩, call_meets F.slot_list_mul ⟨_, e, rfl⟩ F.entry_list_mul (F.args_list_mul_2 _ _) (AutoListH.list___mul___list_int_3 l its.toArray n k t fit notcap notlong) ⟨e, ?_⟩⟩)
  rw [made]
  exact ⟨.ref _, _, I.lnew (t' := s.toks) (r.rep k.toNat) (by rw [PyProof.Rows.lm_len_rep_flat, Nat.mul_comm]; exact hz), rfl, q _ I.fresh⟩
def rMulX (K : PySem.W.Frag) : R2 := fun x y H Q => (rI CMul (fun i j => .int (i * j)) x y H Q ∨ rI CMulW (fun i j => .int (i * j)) x y H Q) ∨ rRepX K x y H Q
theorem op_mulX2 {X : Cx} : OpR X (binaryOp .Mult) (rMulX X.K) := OpR.or (OpR.or op_mul op_mulW) op_repX
theorem RpL.rep {K : PySem.W.Frag} {H : Hp} {vs : List V} {ds : List PyData} (h : RpL K H vs ds) : ∀ k : Nat, RpL K H (List.replicate k vs).flatten (List.replicate k ds).flatten
  | 0 => .nil
  | k + 1 => by
    rw [List.replicate_succ, List.replicate_succ, List.flatten_cons, List.flatten_cons]
    exact h.append (RpL.rep h k)
def gMulX (x y : AV) (δ : List Sl) : Rs AV := match rdC δ x, rdC δ y with
  | some (.int i), some (.int j) => if i.natAbs < 2 ^ 64 ∨ j.natAbs < 2 ^ 64 then .ok (.val (.int (i * j))) δ else .bad
  | some (.list ds), some (.int k) => if ds.length ≤ 1000 ∧ 0 ≤ k ∧ k ≤ 1000 then .ok (.tmp (.ol ((List.replicate k.toNat ds).flatten.map .fz))) δ else .bad
  | _, _ => .bad
section
variable {K : PySem.W.Frag} {mg : Str → Option Value} {W : WX} {pin : List Nat}
theorem v2_mul : V2 K mg W pin (rMulX K) gMulX := by
  intro b Fz F δ σ H v w x y Q hp R A B P
  unfold gMulX at P
  cases q1 : rdC δ x with
  | none => simp only [q1] at P; exact P.elim
  | some d =>
    cases q2 : rdC δ y with
    | none => cases d <;> (simp only [q1, q2] at P; exact P.elim)
    | some e =>
      have h1 := rdC_ok R A q1
      have h2 := rdC_ok R B q2
      cases d with
      | int i =>
        cases e with
        | int j =>
          simp only [q1, q2] at P
          by_cases c : i.natAbs < 2 ^ 64 ∨ j.natAbs < 2 ^ 64
          · rw [if_pos c] at P
            exact .inl (.inl ⟨i, j, rpc_int h1, rpc_int h2, by unfold CMul; omega, P _ H Fz F (Same.refl _) R (.int _)⟩)
          · rw [if_neg c] at P; exact P.elim
        | _ => simp only [q1, q2] at P; exact P.elim
      | list ds =>
        cases e with
        | int k =>
          simp only [q1, q2] at P
          by_cases c : ds.length ≤ 1000 ∧ 0 ≤ k ∧ k ≤ 1000
          · rw [if_pos c] at P
            obtain ⟨a1, v1, e1, s1, r1⟩ := h1.list R.le
            have l1 := r1.len
            have hk : k.toNat ≤ 1000 := by omega
            refine .inr ⟨a1, k, v1, e1, rpc_int h2, s1, by omega, by omega, ?_, post_newL R (r1.rep k.toNat) P⟩
            have := Nat.mul_le_mul (Nat.le_of_eq l1) hk
            have h3 := Nat.mul_le_mul_right 1000 c.1
            rw [sizeLine_eq]
            omega
          · rw [if_neg c] at P; exact P.elim
        | _ => simp only [q1, q2] at P; exact P.elim
      | _ => cases e <;> (simp only [q1, q2] at P; exact P.elim)
end
section
variable {X : Cx} {W : WX} {pin : List Nat} {fa fb : List Sl → Rs AV} {a c : Expr} {pos : Pos}
theorem se_mul (ha : SE X W pin a fa) (hb : SE X W pin c fb) : SE X W pin (.BinOp a .Mult c pos) (s2 gMulX fa fb) := se_bin op_mulX2 v2_mul ha hb
def rgD (a b : Int) : List PyData := (List.range (b - a).toNat).map fun i => PyData.int (a + (i : Nat))
theorem rgD_rp {K : PySem.W.Frag} {H : Hp} (a b : Int) : RpL K H (rgV a b) (rgD a b) := by
  unfold rgV rgD
  generalize List.range _ = l
  induction l with
  | nil => exact .nil
  | cons i r ih => exact .cons (.int _) ih
def mkRg (a b : Int) (δ : List Sl) : Rs AV := if (-1000000 ≤ a ∧ a ≤ 1000000) ∧ -1000000 ≤ b ∧ b ≤ 1000000 then .ok (.tmp (.ol ((rgD a b).map .fz))) δ else .bad
def gRg1 (x : AV) (δ : List Sl) : Rs AV := match rdC δ x with
  | some (.int n) => mkRg 0 n δ
  | _ => .bad
theorem mkRg_ok {K : PySem.W.Frag} {mg : Str → Option Value} {b : Bk} {Fz : Hp} {F : Nat → List Addr} {δ : List Sl} {σ : L2.St} {H : Hp} {Q : VK} {m n : Int} (R : Rl K b Fz F δ σ H) (P : Post K mg W b Fz σ Q (mkRg m n δ)) :
    RgOk m n ∧ ∀ q, H q = none → Q (.ref q) (upd H q (.lst (rgV m n))) := by
  unfold mkRg at P
  by_cases c : (-1000000 ≤ m ∧ m ≤ 1000000) ∧ -1000000 ≤ n ∧ n ≤ 1000000
  · rw [if_pos c] at P
    exact ⟨by unfold RgOk; omega, post_newL R (rgD_rp m n) P⟩
  · rw [if_neg c] at P
    exact P.elim
theorem se_lrg1 {p p2 pos2 : Pos} (hc : X.calm = true) (hg : Gl X "list") (hm : X.mg "list" = none) (hg2 : Gl X "range") (hm2 : X.mg "range" = none) (ha : SE X W pin a fa) (na : starEach [a] X.env = (false, eval a X.env) :: starEach [] X.env := by rfl)
    (nb : starEach [.Call (.Name "range" p2) [a] [] pos2] X.env = (false, eval (.Call (.Name "range" p2) [a] [] pos2) X.env) :: starEach [] X.env := by rfl) :
    SE X W pin (.Call (.Name "list" p) [.Call (.Name "range" p2) [a] [] pos2] [] pos) (s1 gRg1 fa) := pe_mono (pe_listRg hc hg hm (prg_1 hg2 hm2 (se_st ha) na) nb) fun σ H Q ⟨b, Fz, F, δ, hp, R, P⟩ => by
  refine rd_bind hp R P fun v H1 Fz1 F1 x δ1 s1 R1 A1 P1 => ?_
  unfold gRg1 at P1
  cases q : rdC δ1 x with
  | none => simp only [q] at P1; exact P1.elim
  | some d =>
    cases d with
    | int n =>
      simp only [q] at P1
      exact ⟨n, rpc_int (rdC_ok R1 A1 q), mkRg_ok R1 P1⟩
    | _ => simp only [q] at P1; exact P1.elim
end
def strD : PyData → Option PyData
  | .int i => if i.natAbs.log2 < 1920 then some (.str (toString i)) else none
  | .str x => some (.str x)
  | _ => none
theorem call_strU {X : Cx} : CallR X (.type "str") (fun xs H Q => (∃ i, xs = [V.int i] ∧ i.natAbs.log2 < 1920 ∧ Q (.str (toString i)) H) ∨ ∃ a, xs = [V.str a] ∧ Q (.str a) H) := by
  intro pins s σ H xs us Q I r h
  rcases h with h | ⟨a, rfl, q⟩
  · exact call_str_int pins s σ H xs us Q I r h
  · obtain ⟨u, rfl, t, rfl⟩ := vals1 r
    exact PySem.P.str_of_str ⟨.str a, H, I, ⟨t, rfl⟩, q⟩
theorem c1_str {K : PySem.W.Frag} {mg : Str → Option Value} {W : WX} {pin : List Nat} : C1 K mg W pin (fun xs H Q => (∃ i, xs = [V.int i] ∧ i.natAbs.log2 < 1920 ∧ Q (.str (toString i)) H) ∨ ∃ a, xs = [V.str a] ∧ Q (.str a) H) (gRd strD) := c1_rd fun v d e H Q r k f q => by
  cases r with
  | int i =>
    have k : (if i.natAbs.log2 < 1920 then some (PyData.str (toString i)) else none) = some e := k
    by_cases c : i.natAbs.log2 < 1920
    · rw [if_pos c] at k
      cases k
      exact .inl ⟨i, rfl, c, q⟩
    · rw [if_neg c] at k
      cases k
  | str x =>
    cases k
    exact .inr ⟨x, rfl, q⟩
  | _ => cases k
def noIo : List Ar → Bool
  | [] => true
  | .io _ :: _ => false
  | .fz _ :: r => noIo r
  | .own _ :: r => noIo r
def asgA : List Nat → List Ar → List Sl → Ot
  | [], [], δ => .nx δ
  | k :: ks, .fz d :: r, δ => asgA ks r (upS k (.fz d) δ)
  | k :: ks, .own s :: r, δ => asgA ks r (upS k s δ)
  | _, _, _ => .bad
def oPar (ks : List Nat) (g : List Sl → Rs (List Ar)) : List Sl → Ot := fun δ => match g δ with
  | .ok ars δ' => if noIo ars = true then asgA ks ars δ' else .bad
  | .er x δ' => .er x δ'
  | .bad => .bad
def setL (σ : L2.St) : List Nat → List V → L2.St
  | k :: ks, v :: vs => setL (σ.set k (some v)) ks vs
  | _, _ => σ
def ParH (K : PySem.W.Frag) (Fz H : Hp) (g : List Addr) (v : V) : Ar → Prop
  | .fz d => g = [] ∧ Rp K Fz v d
  | .own s => s.tree.isSome = true ∧ SlH K Fz H [] g (some v) s
  | .io _ => False
def ParOk (K : PySem.W.Frag) (b : Bk) (Fz H : Hp) : (Addr → Prop) → List V → List Ar → Prop
  | _, [], [] => True
  | U, v :: vs, a :: r => ∃ g : List Addr, ParH K Fz H g v a ∧ g.Nodup ∧ (∀ c ∈ g, Fz c = none ∧ b.B c = none ∧ H c ≠ none ∧ ¬U c) ∧ ParOk K b Fz H (fun c => U c ∨ c ∈ g) vs r
  | _, _, _ => False
theorem parOk_of {K : PySem.W.Frag} {b : Bk} {Fz H : Hp} {σ : L2.St} : ∀ {ars : List Ar} {vs : List V} {G : Nat → List Addr} {U : Addr → Prop}, vs.length = ars.length → (∀ (j : Nat) (a : Ar), ars[j]? = some a → ∃ v, vs[j]? = some v ∧ ArH K Fz H σ (G j) v a) → (∀ j, (G j).Nodup) →
    (∀ i j a, a ∈ G i → a ∈ G j → i = j) → (∀ j c, c ∈ G j → Fz c = none ∧ b.B c = none ∧ H c ≠ none ∧ ¬U c) → noIo ars = true → ParOk K b Fz H U vs ars
  | [], [], _, _, _, _, _, _, _, _ => trivial
  | [], v :: vs, _, _, h, _, _, _, _, _ => by cases h
  | a :: r, [], _, _, h, _, _, _, _, _ => by cases h
  | a :: r, v :: vs, G, U, h, hA, nd, dj, off, io => by
    obtain ⟨w, e1, e2⟩ := hA 0 a rfl
    cases e1
    refine ⟨G 0, ?_, nd 0, off 0, parOk_of (σ := σ) (G := fun j => G (j + 1)) (by simpa using h) (fun j c e => ?_) (fun j => nd _) (fun i j c h1 h2 => by have := dj _ _ c h1 h2; omega) (fun j c hc => ?_) ?_⟩
    · cases a with
      | fz d => exact e2
      | own s => exact e2
      | io k => cases io
    · obtain ⟨w, e3, e4⟩ := hA (j + 1) c (by simpa using e)
      exact ⟨w, by simpa using e3, e4⟩
    · obtain ⟨h1, h2, h3, h4⟩ := off (j + 1) c hc
      exact ⟨h1, h2, h3, fun z => z.elim h4 fun z => by have := dj _ _ c hc z; omega⟩
    · cases a with
      | fz d => exact io
      | own s => exact io
      | io k => cases io
theorem asgA_ok {K : PySem.W.Frag} {mg : Str → Option Value} {W : WX} {b : Bk} {Fz H : Hp} {D : Ends} : ∀ {ks : List Nat} {ars : List Ar} {vs : List V} {F : Nat → List Addr} {δ : List Sl} {σ : L2.St} {U : Addr → Prop}, (∀ k ∈ ks, k ∉ b.pin) → (∀ k c, c ∈ F k → U c) → Rl K b Fz F δ σ H → ParOk K b Fz H U vs ars →
    PostS K mg W b Fz D (asgA ks ars δ) → vs.length = ks.length ∧ D.nx (setL σ ks vs) H
  | [], [], [], F, δ, σ, U, _, _, R, A, P => ⟨rfl, P σ H Fz F (Same.refl _) R⟩
  | _, [], v :: vs, _, _, _, _, _, _, _, A, _ => A.elim
  | _, a :: r, [], _, _, _, _, _, _, _, A, _ => A.elim
  | [], .fz d :: r, _, _, _, _, _, _, _, _, _, P => P.elim
  | [], .own d :: r, _, _, _, _, _, _, _, _, _, P => P.elim
  | k :: ks, [], _, _, _, _, _, _, _, _, _, P => P.elim
  | _, .io m :: r, v :: vs, _, _, _, _, _, _, _, A, _ => by
    obtain ⟨_, z, _⟩ := A
    exact z.elim
  | k :: ks, .fz d :: r, v :: vs, F, δ, σ, U, hp, hU, R, A, P => by
    obtain ⟨g, ⟨h0, h1⟩, h2, h3, h4⟩ := A
    subst h0
    have R1 := R.name (s := .fz d) (v := v) (hp k List.mem_cons_self) rfl (g := []) ⟨rfl, v, rfl, h1⟩ List.nodup_nil fun _ z => nomatch z
    have hU2 : ∀ m c, c ∈ (fun m => if m = k then [] else F m) m → U c ∨ c ∈ ([] : List Addr) := fun m c hc => by
      have hc : c ∈ (if m = k then [] else F m) := hc
      by_cases e : m = k
      · rw [if_pos e] at hc; cases hc
      · rw [if_neg e] at hc; exact .inl (hU m c hc)
    obtain ⟨q1, q2⟩ := asgA_ok (fun m hm => hp m (List.mem_cons_of_mem _ hm)) hU2 R1 h4 P
    exact ⟨by simp [q1], q2⟩
  | k :: ks, .own s :: r, v :: vs, F, δ, σ, U, hp, hU, R, A, P => by
    obtain ⟨g, ⟨h0, h1⟩, h2, h3, h4⟩ := A
    have R1 := R.name (s := s) (v := v) (hp k List.mem_cons_self) h0 (g := g) h1 h2 fun c hc => ⟨(h3 c hc).1, (h3 c hc).2.1, (h3 c hc).2.2.1, fun m z => (h3 c hc).2.2.2 (hU m c z)⟩
    have hU2 : ∀ m c, c ∈ (fun m => if m = k then g else F m) m → U c ∨ c ∈ g := fun m c hc => by
      have hc : c ∈ (if m = k then g else F m) := hc
      by_cases e : m = k
      · rw [if_pos e] at hc; exact .inr hc
      · rw [if_neg e] at hc; exact .inl (hU m c hc)
    obtain ⟨q1, q2⟩ := asgA_ok (fun m hm => hp m (List.mem_cons_of_mem _ hm)) hU2 R1 h4 P
    exact ⟨by simp [q1], q2⟩
theorem par_ok {K : PySem.W.Frag} {mg : Str → Option Value} {W : WX} {pin ks : List Nat} {g : List Sl → Rs (List Ar)} {D : Ends} {σ : L2.St} {H : Hp} (hp : ∀ k ∈ ks, k ∉ pin) : rdS K mg W pin (oPar ks g) D σ H → rdAr K mg W pin g σ H fun vs H' => vs.length = ks.length ∧ D.nx (setL σ ks vs) H' :=
  fun ⟨b, Fz, F, δ, hb, R, P⟩ => by
    refine ⟨b, Fz, F, δ, hb, R, ?_⟩
    unfold oPar at P
    cases q : g δ with
    | bad => rw [q] at P; exact P
    | er x δ' => rw [q] at P; exact PostXS.at_ P
    | ok ars δ' =>
      rw [q] at P
      simp only at P
      by_cases c : noIo ars = true
      · rw [if_pos c] at P
        intro vs H' Fz' F' G s R' A
        exact asgA_ok (U := fun c => ∃ k, c ∈ F' k) (by rw [hb]; exact hp) (fun k c hc => ⟨k, hc⟩) R' (parOk_of A.len A.at_ A.nd A.dj (fun j c hc => ⟨(A.off j c hc).1, (A.off j c hc).2.1, (A.off j c hc).2.2.1, fun ⟨k, z⟩ => (A.off j c hc).2.2.2 k z⟩) c) (PostS.le s P)
      · rw [if_neg c] at P
        exact P.elim
section
variable {X : Cx} {W : WX} {pin : List Nat} {a c e : Expr} {g : List Sl → Rs (List Ar)} {pos : Pos}
theorem ss_par2 {i j : Nat} {x y : Str} {px py pt : Pos} {kt k2 pt2} (hc : X.calm = true) (hN : X.N.Nodup) (hi : X.N[i]? = some x) (hj : X.N[j]? = some y) (hij : i ≠ j) (hp : ∀ k ∈ [i, j], k ∉ pin)
    (hx : X.env.scope.names.lookup x = some .local) (hy : X.env.scope.names.lookup y = some .local) (ha : SAr X W pin [a, c] g)
    (hw : swappedStores [.Tuple [.Name x px, .Name y py] kt pt] (.Tuple [a, c] k2 pt2) X.env = pure (some [x, y]) := by rfl)
    (hs : swapsWithSole [.Tuple [.Name x px, .Name y py] kt pt] (.Tuple [a, c] k2 pt2) pos.line X.env = pure false := by rfl) :
    SS X W pin (.Assign [.Tuple [.Name x px, .Name y py] kt pt] (.Tuple [a, c] k2 pt2) pos) (oPar [i, j] g) := ps_mono (ps_par hc hN hi hj hij hx hy ha hw hs) fun D σ H h => by
  obtain ⟨b, Fz, F, δ, hb, R, P⟩ := par_ok hp h
  refine ⟨b, Fz, F, δ, hb, R, ?_⟩
  cases q : g δ with
  | bad => rw [q] at P; exact P
  | er x δ' => rw [q] at P; exact P
  | ok ars δ' =>
    rw [q] at P
    intro vs H' Fz' F' G s R' A
    obtain ⟨hl, q⟩ := P vs H' Fz' F' G s R' A
    match vs, hl with
    | [v, w], _ => exact ⟨v, w, rfl, q⟩
end
end Hb
namespace Hb
open PySem PySem.Spec PyProof.Rows L2
structure Dfn (P : Program) (w : World) (K : PySem.W.Frag) (mg : Str → Option Value) (base : Heap) (k : Nat) (x : Str) (n : Nat) (F : List Sl → FR) (m : Nat) (dd : List PyData) : Prop where
  ex : ∃ (f : Addr) (fd : FuncData) (ps : List Str) (ds : List Value), mg x = some (.ref f) ∧ PySem.W.keepIn K (.ref f) = true ∧ FnG P w K mg base k f fd ps (spF K mg n F) ∧ Binds K fd ps ds ∧ Vals (dd.map dV) ds ∧ m + dd.length = n ∧ dd.all flatD = true
theorem Dfn.mono {P : Program} {w : World} {K : PySem.W.Frag} {mg : Str → Option Value} {base : Heap} {k j : Nat} {x : Str} {n : Nat} {F : List Sl → FR} {m : Nat} {dd : List PyData} (D : Dfn P w K mg base k x n F m dd) (h : k ≤ j) : Dfn P w K mg base j x n F m dd := by
  obtain ⟨f, fd, ps, ds, h1, h2, h3, h4⟩ := D.ex
  exact ⟨f, fd, ps, ds, h1, h2, h3.mono h, h4⟩
section
variable {X : Cx} {k : Nat} {W : WX} {pin : List Nat} {x : Str} {p pos : Pos} {e : Expr} {es : List Expr} {n m : Nat} {F : List Sl → FR} {g : List Sl → Rs (List Ar)} {dd : List PyData}
theorem se_callD (D : Dfn X.prog X.w X.K X.mg X.base k x n F m dd) (hr : Room k X.A) (hgd : X.A.guards = some []) (hx : ∀ σ, PassesAt (L2.CX X.prog X.w) X σ (WE W σ)) (hg : Gl X x)
    (ha : SAr X W pin (e :: es) g) (hlen : ∀ δ ars δ', g δ = .ok ars δ' → ars.length = m)
    (hdb : (x == ("__debug__" : Str)) = false := by decide) (he : starEach (e :: es) X.env = (false, eval e X.env) :: starEach es X.env := by rfl) (hpl : (backTo pos (starEach es X.env)).any (·.1) = false := by rfl) :
    SE X W pin (.Call (.Name x p) (e :: es) [] pos) (sCall F dd g) := by
  obtain ⟨f, fd, ps, ds, hm, hk, G, hb, hd, hn, hf⟩ := D.ex
  exact se_call G hr hgd hx hg hm hk hb hd hf ha (fun δ ars δ' q => by rw [hlen δ ars δ' q]; exact hn) hdb he hpl
end
section
variable {P : Program} {w : World} {K : PySem.W.Frag} {mg : Str → Option Value} {base : Heap} {name qual : Str} {params : Arguments} {body : List Stmt} {scope : Scope} {dvs : List V} {kws : List (Str × V)} {f : Addr} {fd : FuncData} {N ps : List Str} {n k : Nat} {pin : List Nat} {fb : List Sl → Ot}
theorem fnG_D (FD : FunD K name qual params body scope dvs kws f fd) (S : FnScope N ps scope) (hn : ps.length = n)
    (hbody : ∀ (cdv : Value) (A : Around) (outer : List Env) (s : Shared) (H : Hp) (E : XK), Room k (A.deeper (envOfC qual scope s.heap.objs.size f cdv)) → A.guards = some [] →
      SSs (GX P w K mg base N qual scope f cdv A outer s H E) (GW E) pin body fb) (hm : mkT ∉ pin := by decide) : FnG P w K mg base (k + 1) f fd ps (spF K mg n (fnRun n N.length pin fb)) := by
  obtain ⟨oc, od, dV, kV, doc, pm, an, cdv, ct, osl, rfl, lk, hcd, _, _⟩ := FD.ex
  exact fnG_of lk hcd S hn (hbody cdv) hm
end
end Hb
namespace Hb
open PySem PySem.Spec PyProof.Rows L2
def rEqE (K : PySem.W.Frag) (n : Bool) : R2 := fun x y H Q => ∃ a b xs, x = V.ref a ∧ y = V.ref b ∧ SqX K H a xs ∧ SqX K H b [] ∧ Q (.bl (n != xs.isEmpty)) H
section
variable {X : Cx}
theorem isList_of {h : Heap} {a : Addr} {its : List Value} {n : Nat} (e : h.get? a = some { cls := .type "list", data := .seq its.toArray n }) : h.IsList a its.toArray := ⟨_, e, rfl, n, rfl⟩
theorem op_neE (hu : X.A.units + 64 < cLine) : OpR X (compareOp .NotEq) (rEqE X.K true) := by
  intro pins s σ H x y v u Q I rx ry h
  obtain ⟨a, b, xs, rfl, rfl, h1, h2, q⟩ := h
  cases rx
  cases ry
  obtain ⟨i1, n1, r1, g1, _⟩ := inv_lstX I h1
  obtain ⟨i2, n2, r2, g2, _⟩ := inv_lstX I h2
  cases r2
  have hu0 : X.A.units < cLine := by omega
  cases r1 with
  | nil => exact SeqAt.RcNeAt.lists (e := fun _ => true) (isList_of g1) (isList_of g2) rfl hu0 (fun j h => nomatch h) X.prog X.w _ _ ⟨.bl _, H, I, rfl, q⟩
  | cons r0 rt => exact SeqAt.RcNeAt.lists_lengths (isList_of g1) (isList_of g2) (by simp) hu0 X.prog X.w _ _ ⟨.bl _, H, I, rfl, q⟩
end
def gEqE (n : Bool) (x y : AV) (δ : List Sl) : Rs AV := match rdA δ x, rdA δ y with
  | some (.list ds), some (.list []) => .ok (.val (.bool (n != ds.isEmpty))) δ
  | _, _ => .bad
section
variable {K : PySem.W.Frag} {mg : Str → Option Value} {W : WX} {pin : List Nat}
theorem v2_eqE {n : Bool} : V2 K mg W pin (rEqE K n) (gEqE n) := by
  intro b Fz F δ σ H v w x y Q hp R A B P
  unfold gEqE at P
  cases q1 : rdA δ x with
  | none => simp only [q1] at P; exact P.elim
  | some d =>
    cases q2 : rdA δ y with
    | none => cases d <;> (simp only [q1, q2] at P; exact P.elim)
    | some e =>
      cases d with
      | list ds =>
        cases e with
        | list es =>
          cases es with
          | cons e0 er => simp only [q1, q2] at P; exact P.elim
          | nil =>
            simp only [q1, q2] at P
            have r1 := rdA_ok R A q1
            have r2 := rdA_ok R B q2
            cases r1 with
            | lst s1 l1 =>
              cases r2 with
              | lst s2 l2 =>
                cases l2
                refine ⟨_, _, _, rfl, rfl, s1, s2, ?_⟩
                have := P _ H Fz F (Same.refl _) R (.bl _)
                cases l1 with
                | nil => exact this
                | cons _ _ => exact this
        | _ => simp only [q1, q2] at P; exact P.elim
      | _ => cases e <;> (simp only [q1, q2] at P; exact P.elim)
end
section
variable {X : Cx} {W : WX} {pin : List Nat} {fa fb : List Sl → Rs AV} {a c : Expr} {pos : Pos}
theorem st_neE (hu : X.A.units + 64 < cLine) (ha : SE X W pin a fa) (hb : SE X W pin c fb) : ST X W pin (.Compare a [.NotEq] [c] pos) (sTst (s2 (gEqE true) fa fb)) := st_cmp (op_neE hu) v2_eqE ha hb (nomark _)
end
def rEqS (n : Bool) : R2 := fun x y H Q => ∃ i j : Str, x = V.str i ∧ y = V.str j ∧ Q (.bl (n != (i.cps.toList == j.cps.toList))) H
section
variable {X : Cx}
theorem op_eqS : OpR X (compareOp .Eq) (rEqS false) := by
  intro pins s σ H x y v u Q I rx ry h
  obtain ⟨i, j, rfl, rfl, q⟩ := h
  obtain ⟨t, rfl⟩ := rx
  obtain ⟨t', rfl⟩ := ry
  exact PySem.P.eq_str ⟨.bl _, H, I, rfl, by simpa using q⟩
theorem op_neS : OpR X (compareOp .NotEq) (rEqS true) := by
  intro pins s σ H x y v u Q I rx ry h
  obtain ⟨i, j, rfl, rfl, q⟩ := h
  obtain ⟨t, rfl⟩ := rx
  obtain ⟨t', rfl⟩ := ry
  exact PySem.P.ne_str ⟨.bl _, H, I, rfl, by simpa [bne] using q⟩
end
def gEqS (n : Bool) (x y : AV) (δ : List Sl) : Rs AV := match rdC δ x, rdC δ y with
  | some (.str i), some (.str j) => .ok (.val (.bool (n != (i.cps.toList == j.cps.toList)))) δ
  | _, _ => .bad
section
variable {K : PySem.W.Frag} {mg : Str → Option Value} {W : WX} {pin : List Nat}
theorem v2_eqS {n : Bool} : V2 K mg W pin (rEqS n) (gEqS n) := by
  intro b Fz F δ σ H v w x y Q hp R A B P
  unfold gEqS at P
  cases q1 : rdC δ x with
  | none => simp only [q1] at P; exact P.elim
  | some d =>
    cases q2 : rdC δ y with
    | none => cases d <;> (simp only [q1, q2] at P; exact P.elim)
    | some e =>
      cases d with
      | str i =>
        cases e with
        | str j =>
          simp only [q1, q2] at P
          exact ⟨i, j, rpc_str (rdC_ok R A q1), rpc_str (rdC_ok R B q2), P _ H Fz F (Same.refl _) R (.bl _)⟩
        | _ => simp only [q1, q2] at P; exact P.elim
      | _ => cases e <;> (simp only [q1, q2] at P; exact P.elim)
end
section
variable {X : Cx} {W : WX} {pin : List Nat} {fa fb : List Sl → Rs AV} {a c : Expr} {pos : Pos}
theorem se_eqS (ha : SE X W pin a fa) (hb : SE X W pin c fb) : SE X W pin (.Compare a [.Eq] [c] pos) (s2 (gEqS false) fa fb) := se_cmp op_eqS v2_eqS ha hb (nomark _)
theorem st_eqS (ha : SE X W pin a fa) (hb : SE X W pin c fb) : ST X W pin (.Compare a [.Eq] [c] pos) (sTst (s2 (gEqS false) fa fb)) := st_cmp op_eqS v2_eqS ha hb (nomark _)
theorem st_neS (ha : SE X W pin a fa) (hb : SE X W pin c fb) : ST X W pin (.Compare a [.NotEq] [c] pos) (sTst (s2 (gEqS true) fa fb)) := st_cmp op_neS v2_eqS ha hb (nomark _)
end
end Hb
namespace Hb
open PySem L2
abbrev fi (i : Int) : El := .fz (.int i)
section
variable {f fa fb fo : List Sl → Rs AV} {δ δ1 δ2 : List Sl} {a x y : AV} {d e : PyData} {u w : List Sl → Ot} {t : List Sl → Rs Bool}
@[simp] theorem e_sC : sC d δ = .ok (.val d) δ := rfl
@[simp] theorem e_val : sSt (fun δ => .ok (.val d) δ) δ = .ok (.val d) δ := rfl
@[simp] theorem e_bind {α β : Type} {v : α} {k : α → List Sl → Rs β} : (Rs.ok v δ).bind k = k v δ := rfl
@[simp] theorem e_bindb {α β : Type} {k : α → List Sl → Rs β} : (Rs.bad : Rs α).bind k = .bad := rfl
@[simp] theorem e_ot {α : Type} {v : α} {k : α → List Sl → Ot} : (Rs.ok v δ).ot k = k v δ := rfl
@[simp] theorem e_otU {v : Unit} : (Rs.ok v δ).otU = .nx δ := rfl
@[simp] theorem e_oNext : oNext δ = .nx δ := rfl
@[simp] theorem e_rdAv : rdA δ (.val d) = some d := rfl
@[simp] theorem e_rdCv : rdC δ (.val d) = some d := rfl
@[simp] theorem e_allFz (ds : List PyData) : allFz (ds.map El.fz) = some ds := by
  induction ds with
  | nil => rfl
  | cons d r ih => simp [allFz, ih]
end
end Hb
namespace Nv
open PySem Hb L2
/-- a value of Lean's, as a tree -/
class Enc (α : Type) where
  enc : α → PyData
open Enc (enc)
instance : Enc Int := ⟨.int⟩
instance : Enc Bool := ⟨.bool⟩
instance : Enc Str := ⟨.str⟩
instance : Enc Unit := ⟨fun _ => .none⟩
instance : Enc PyData := ⟨fun d => d⟩
instance {α : Type} [Enc α] : Enc (List α) := ⟨fun xs => .list (xs.map enc)⟩
instance {α : Type} [Enc α] : Enc (Option α) := ⟨fun x => match x with
  | none => .none
  | some x => enc x⟩
instance {α β : Type} [Enc α] [Enc β] : Enc (α × β) := ⟨fun x => .tuple [enc x.1, enc x.2]⟩
structure T3 (α β γ : Type) where
  a : α
  b : β
  c : γ
deriving DecidableEq
structure T4 (α β γ δ : Type) where
  a : α
  b : β
  c : γ
  d : δ
deriving DecidableEq
/-- a tuple of any length -/
structure Tp (α : Type) where
  l : List α
deriving DecidableEq
/-- a dict -/
structure Dc (κ α : Type) where
  l : List (κ × α)
deriving DecidableEq
instance {α β γ : Type} [Enc α] [Enc β] [Enc γ] : Enc (T3 α β γ) := ⟨fun x => .tuple [enc x.a, enc x.b, enc x.c]⟩
instance {α β γ δ : Type} [Enc α] [Enc β] [Enc γ] [Enc δ] : Enc (T4 α β γ δ) := ⟨fun x => .tuple [enc x.a, enc x.b, enc x.c, enc x.d]⟩
instance {α : Type} [Enc α] : Enc (Tp α) := ⟨fun x => .tuple (x.l.map enc)⟩
instance {κ α : Type} [Enc κ] [Enc α] : Enc (Dc κ α) := ⟨fun x => .dict (x.l.map fun p => (enc p.1, enc p.2))⟩
/-- a list of one's own whose items stand still; .. whose items are rows of one's own; a dict of one's own -/
def ow {α : Type} [Enc α] (xs : List α) : Sl := .ol ((xs.map enc).map .fz)
def oww {α : Type} [Enc α] (xs : List (List α)) : Sl := .ol (xs.map fun r => .ow (r.map enc))
def od {κ α : Type} [Enc κ] [Enc α] (x : Dc κ α) : Sl := .od (x.l.map fun p => (enc p.1, enc p.2))
section
variable {α : Type} [Enc α]
theorem map_fzd (ds : List PyData) : (ds.map El.fz).map El.d = ds := by
  rw [List.map_map]
  exact List.map_id' ds
theorem ow_tree (xs : List α) : (ow xs).tree = some (enc xs) := by
  show some (PyData.list _) = some (PyData.list _)
  rw [map_fzd]
theorem allFz_map : ∀ ds : List PyData, allFz (ds.map .fz) = some ds
  | [] => rfl
  | d :: r => by
    show (allFz (r.map .fz)).map (d :: ·) = _
    rw [allFz_map r]
    rfl
theorem oww_tree (xs : List (List α)) : (oww xs).tree = some (enc xs) := by
  show some (PyData.list _) = some (PyData.list _)
  rw [List.map_map]
  rfl
end
inductive Pt where
  | aa | any | pl | eq (s : Sl) | tr (d : PyData) | ts (d : PyData)
def isAl : Sl → Bool
  | .al _ _ => true
  | _ => false
def isLs : PyData → Bool
  | .list _ => true
  | _ => false
def Pt.Ok : Pt → Sl → Prop
  | .aa, _ => True
  | .any, s => isAl s = false
  | .pl, s => plainS (some s) = true
  | .eq t, s => s = t
  | .tr d, s => s.tree = some d ∧ (∃ ds : List PyData, s = .ol (ds.map .fz)) ∨ s = .fz d
  | .ts d, s => s.tree = some d ∧ (∃ ds : List PyData, s = .ol (ds.map .fz)) ∨ (s = .fz d ∧ isLs d = false)
abbrev Ga := List Pt
inductive Sat : Ga → List Sl → Prop
  | nil : Sat [] []
  | cons {p : Pt} {s : Sl} {Γ : Ga} {δ : List Sl} : p.Ok s → Sat Γ δ → Sat (p :: Γ) (s :: δ)
theorem Sat.len {Γ : Ga} {δ : List Sl} (h : Sat Γ δ) : Γ.length = δ.length := by
  induction h with
  | nil => rfl
  | cons _ _ ih => simp [ih]
theorem Sat.get {Γ : Ga} {δ : List Sl} (h : Sat Γ δ) : ∀ {k : Nat} {p : Pt}, Γ[k]? = some p → ∃ s, δ[k]? = some s ∧ p.Ok s := by
  induction h with
  | nil => intro k p e; simp at e
  | cons h1 _ ih =>
    intro k p e
    cases k with
    | zero => simp at e; subst e; exact ⟨_, rfl, h1⟩
    | succ k => exact ih (by simpa using e)
theorem Sat.at_ {Γ : Ga} {δ : List Sl} (h : Sat Γ δ) {k : Nat} {s : Sl} (e : Γ[k]? = some (.eq s)) : δ[k]? = some s := by
  obtain ⟨t, e1, e2⟩ := h.get e
  rw [e1, show t = s from e2]
theorem Sat.set {Γ : Ga} {δ : List Sl} (h : Sat Γ δ) {p : Pt} {s : Sl} (hp : p.Ok s) : ∀ (k : Nat), Sat (Γ.set k p) (δ.set k s) := by
  induction h with
  | nil => intro k; cases k <;> exact .nil
  | cons h1 h2 ih =>
    intro k
    cases k with
    | zero => exact .cons hp h2
    | succ k => exact .cons h1 (ih k)
def dropP (i : Nat) : Pt → Pt
  | .eq (.al x j) => if x = i then .eq .no else .eq (.al x j)
  | p => p
def upP (i : Nat) (p : Pt) (Γ : Ga) : Ga := (Γ.map (dropP i)).set i p
def dropS (i : Nat) : Sl → Sl
  | .al x j => if x = i then .no else .al x j
  | s => s
theorem dropAl_eq (i : Nat) (δ : List Sl) : dropAl i δ = δ.map (dropS i) := by
  unfold dropAl
  congr 1
theorem dropP_ok {i : Nat} {p : Pt} {s : Sl} (h : p.Ok s) : (dropP i p).Ok (dropS i s) := by
  cases p with
  | aa => trivial
  | any =>
    cases s with
    | al x j => cases h
    | _ => exact h
  | pl =>
    cases s with
    | al x j => cases h
    | _ => exact h
  | eq t =>
    have h : s = t := h
    subst h
    cases s with
    | al x j =>
      show (if x = i then Pt.eq .no else .eq (.al x j)).Ok (if x = i then .no else .al x j)
      by_cases c : x = i
      · rw [if_pos c, if_pos c]; rfl
      · rw [if_neg c, if_neg c]; rfl
    | _ => rfl
  | tr d =>
    cases s with
    | al x j =>
      rcases h with ⟨h, _⟩ | h <;> cases h
    | _ => exact h
  | ts d =>
    cases s with
    | al x j =>
      rcases h with ⟨h, _⟩ | ⟨h, _⟩ <;> cases h
    | _ => exact h
theorem Sat.drop {Γ : Ga} {δ : List Sl} (h : Sat Γ δ) (i : Nat) : Sat (Γ.map (dropP i)) (dropAl i δ) := by
  rw [dropAl_eq]
  induction h with
  | nil => exact .nil
  | cons h1 _ ih => exact .cons (dropP_ok h1) ih
theorem Sat.up {Γ : Ga} {δ : List Sl} (h : Sat Γ δ) {i : Nat} {p : Pt} {s : Sl} (hp : p.Ok s) : Sat (upP i p Γ) (upS i s δ) := (h.drop i).set hp i
def calmP : Pt → Bool
  | .aa => false
  | .eq s => !isAl s
  | _ => true
/-- weaker -/
inductive PtLe : Pt → Pt → Prop
  | rfl {p : Pt} : PtLe p p
  | aa {p : Pt} : PtLe p .aa
  | any {p : Pt} (h : calmP p = true := by rfl) : PtLe p .any
  | no : PtLe (.eq .no) .pl
  | fz {d : PyData} : PtLe (.eq (.fz d)) .pl
  | trf {d : PyData} : PtLe (.eq (.fz d)) (.tr d)
  | tro {α : Type} [Enc α] {xs : List α} {d : PyData} : enc xs = d → PtLe (.eq (ow xs)) (.tr d)
  | tsf {d : PyData} (h : isLs d = false := by rfl) : PtLe (.eq (.fz d)) (.ts d)
  | tso {α : Type} [Enc α] {xs : List α} {d : PyData} : enc xs = d → PtLe (.eq (ow xs)) (.ts d)
  | tst {d : PyData} : PtLe (.ts d) (.tr d)
theorem PtLe.ok {p q : Pt} (h : PtLe p q) {s : Sl} (hs : p.Ok s) : q.Ok s := by
  cases h with
  | rfl => exact hs
  | aa => trivial
  | any h =>
    cases p with
    | aa => cases h
    | any => exact hs
    | pl => cases s <;> first | rfl | cases hs
    | eq t =>
      cases (show s = t from hs)
      show isAl s = false
      simpa [calmP] using h
    | tr d =>
      rcases hs with ⟨_, ds, rfl⟩ | rfl <;> rfl
    | ts d =>
      rcases hs with ⟨_, ds, rfl⟩ | ⟨rfl, _⟩ <;> rfl
  | no => cases (show s = .no from hs); rfl
  | fz => cases (show s = .fz _ from hs); rfl
  | trf => exact .inr hs
  | @tro α _ xs d e =>
    cases (show s = ow xs from hs)
    exact .inl ⟨by rw [← e]; exact ow_tree xs, xs.map enc, Eq.refl _⟩
  | tsf h => exact .inr ⟨hs, h⟩
  | @tso α _ xs d e =>
    cases (show s = ow xs from hs)
    exact .inl ⟨by rw [← e]; exact ow_tree xs, xs.map enc, Eq.refl _⟩
  | tst => exact hs.imp id And.left
inductive GaLe : Ga → Ga → Prop
  | nil : GaLe [] []
  | cons {p q : Pt} {Γ Δ : Ga} : PtLe p q → GaLe Γ Δ → GaLe (p :: Γ) (q :: Δ)
theorem Sat.wk {Γ Δ : Ga} {δ : List Sl} (h : Sat Γ δ) (l : GaLe Γ Δ) : Sat Δ δ := by
  induction l generalizing δ with
  | nil => exact h
  | cons h1 _ ih =>
    cases h with
    | cons a b => exact .cons (h1.ok a) (ih b)
section
variable {β : Type}
/-- what it gives, and what stands behind -/
def Ev (f : List Sl → Rs AV) (Γ : Ga) (p : Option β) (a : β → AV) (Γ' : β → Ga) : Prop := ∀ v, p = some v → ∀ δ, Sat Γ δ → ∃ δ', f δ = .ok (a v) δ' ∧ Sat (Γ' v) δ'
/-- nothing changes -/
def Pu (f : List Sl → Rs AV) (Γ : Ga) (p : Option β) (a : β → AV) : Prop := ∀ v, p = some v → ∀ δ, Sat Γ δ → f δ = .ok (a v) δ
/-- nothing changes, and its tree may be read -/
def Ra (f : List Sl → Rs AV) (Γ : Ga) (p : Option β) (d : β → PyData) : Prop := ∀ v, p = some v → ∀ δ, Sat Γ δ → ∃ a, sSt f δ = .ok a δ ∧ rdA δ a = some (d v)
def Rd (f : List Sl → Rs AV) (Γ : Ga) (p : Option β) (d : β → PyData) : Prop := ∀ v, p = some v → ∀ δ, Sat Γ δ → ∃ a, sSt f δ = .ok a δ ∧ rdC δ a = some (d v) ∧ rdA δ a = some (d v)
/-- a value -/
def Er (f : List Sl → Rs AV) (Γ : Ga) (p : Option β) (d : β → PyData) (Γ' : β → Ga) : Prop := ∀ v, p = some v → ∀ δ, Sat Γ δ → ∃ δ', sSt f δ = .ok (.val (d v)) δ' ∧ Sat (Γ' v) δ'
/-- its tree may be read -/
def Es (f : List Sl → Rs AV) (Γ : Ga) (p : Option β) (d : β → PyData) (Γ' : β → Ga) : Prop := ∀ v, p = some v → ∀ δ, Sat Γ δ → ∃ a δ', sSt f δ = .ok a δ' ∧ rdC δ' a = some (d v) ∧ rdA δ' a = some (d v) ∧ Sat (Γ' v) δ'
/-- tests -/
def Ts (t : List Sl → Rs Bool) (Γ : Ga) (p : Option Bool) : Prop := ∀ v, p = some v → ∀ δ, Sat Γ δ → t δ = .ok v δ
def Te (t : List Sl → Rs Bool) (Γ : Ga) (p : Option β) (k : β → Bool) (Γ' : β → Ga) : Prop := ∀ v, p = some v → ∀ δ, Sat Γ δ → ∃ δ', t δ = .ok (k v) δ' ∧ Sat (Γ' v) δ'
/-- statements -/
def Bl (f : List Sl → Ot) (Γ : Ga) (p : Option β) (R : β → Ot → Prop) : Prop := ∀ v, p = some v → ∀ δ, Sat Γ δ → R v (f δ)
end
section
variable {α β γ ε : Type} {f fa fb g : List Sl → Rs AV} {Γ : Ga} {Γ' : β → Ga} {p : Option β} {a : β → AV} {d : β → PyData}
theorem some_of {α : Type} {x v : α} (h : some x = some v) : v = x := (Option.some.inj h).symm
theorem bind_of {α β : Type} {p : Option α} {k : α → Option β} {v : β} (h : p.bind k = some v) : ∃ x, p = some x ∧ k x = some v := by
  cases p with
  | none => cases h
  | some x => exact ⟨x, rfl, h⟩
theorem sSt_val {δ δ' : List Sl} {x : PyData} (h : f δ = .ok (.val x) δ') : sSt f δ = .ok (.val x) δ' := by
  unfold sSt; rw [h]
theorem sSt_ref {δ δ' : List Sl} {x : Nat} (h : f δ = .ok (.ref x) δ') : sSt f δ = .ok (.ref x) δ' := by
  unfold sSt; rw [h]
theorem sSt_tmp {δ δ' : List Sl} {s : Sl} {x : PyData} (h : f δ = .ok (.tmp s) δ') (e : s.tree = some x) : sSt f δ = .ok (.val x) δ' := by
  unfold sSt; rw [h]; simp only [e]
theorem Pu.ev (h : Pu f Γ p a) : Ev f Γ p a fun _ => Γ := fun v e δ s => ⟨δ, h v e δ s, s⟩
theorem Pu.rd (h : Pu f Γ p fun v => .val (d v)) : Rd f Γ p d := fun v e δ s => ⟨_, sSt_val (h v e δ s), rfl, rfl⟩
theorem Pu.rdT {s : β → Sl} (h : Pu f Γ p fun v => .tmp (s v)) (ht : ∀ v, (s v).tree = some (d v)) : Rd f Γ p d := fun v e δ z => ⟨_, sSt_tmp (h v e δ z) (ht v), rfl, rfl⟩
theorem Rd.ra (h : Rd f Γ p d) : Ra f Γ p d := fun v e δ s => let ⟨x, h1, _, h3⟩ := h v e δ s; ⟨x, h1, h3⟩
theorem Ev.er (h : Ev f Γ p (fun v => .val (d v)) Γ') : Er f Γ p d Γ' := fun v e δ s => let ⟨δ', h1, h2⟩ := h v e δ s; ⟨δ', sSt_val h1, h2⟩
theorem Ev.erT {s : β → Sl} (h : Ev f Γ p (fun v => .tmp (s v)) Γ') (ht : ∀ v, (s v).tree = some (d v)) : Er f Γ p d Γ' := fun v e δ z => let ⟨δ', h1, h2⟩ := h v e δ z; ⟨δ', sSt_tmp h1 (ht v), h2⟩
theorem Er.es (h : Er f Γ p d Γ') : Es f Γ p d Γ' := fun v e δ s => let ⟨δ', h1, h2⟩ := h v e δ s; ⟨_, δ', h1, rfl, rfl, h2⟩
theorem Rd.es (h : Rd f Γ p d) : Es f Γ p d fun _ => Γ := fun v e δ s => let ⟨x, h1, h2, h3⟩ := h v e δ s; ⟨x, δ, h1, h2, h3, s⟩
theorem pu_c [Enc α] {x : α} {y : PyData} (h : enc x = y := by rfl) : Pu (sC y) Γ (some x) fun v => .val (enc v) := fun v e δ _ => by
  cases some_of e
  show _ = Rs.ok (AV.val (enc x)) δ
  rw [h]
  rfl
theorem pu_var [Enc α] {x : α} (k : Nat) (h : Γ[k]? = some (.eq (.fz (enc x)))) : Pu (sVar k) Γ (some x) fun v => .val (enc v) := fun v e δ s => by
  cases some_of e
  unfold sVar
  rw [s.at_ h]
theorem pu_own [Enc α] {x : List α} (k : Nat) (h : Γ[k]? = some (.eq (ow x))) : Pu (sVar k) Γ (some x) fun _ => .ref k := fun v e δ s => by
  cases some_of e
  unfold sVar
  rw [s.at_ h]
  rfl
theorem rd_own [Enc α] {x : List α} (k : Nat) (h : Γ[k]? = some (.eq (ow x))) : Rd (sVar k) Γ (some x) enc := fun v e δ s => by
  cases some_of e
  refine ⟨.ref k, sSt_ref (pu_own k h x rfl δ s), ?_, ?_⟩
  · simp only [rdC, s.at_ h, ow]
    show (allFz _).map _ = _
    rw [allFz_map]
    rfl
  · simp only [rdA, s.at_ h, ow]
    exact ow_tree x
theorem Pu.tk (h : Pu f Γ p fun v => .val (d v)) : Ev (sTk f) Γ p (fun v => .val (d v)) fun _ => Γ := fun v e δ s => ⟨δ, by unfold sTk; rw [sSt_val (h v e δ s)], s⟩
theorem Pu.tkP (h : Pu f Γ p fun v => .val (d v)) : Pu (sTk f) Γ p (fun v => .val (d v)) := fun v e δ s => by unfold sTk; rw [sSt_val (h v e δ s)]
theorem Pu.tkTP {s : β → Sl} (h : Pu f Γ p fun v => .tmp (s v)) (ht : ∀ v, (s v).tree = some (d v)) : Pu (sTk f) Γ p (fun v => .val (d v)) := fun v e δ z => by unfold sTk; rw [sSt_tmp (h v e δ z) (ht v)]
theorem Ev.tk (h : Ev f Γ p (fun v => .val (d v)) Γ') : Ev (sTk f) Γ p (fun v => .val (d v)) Γ' := fun v e δ s => let ⟨δ', h1, h2⟩ := h v e δ s; ⟨δ', by unfold sTk; rw [sSt_val h1], h2⟩
theorem Ev.tkT {s : β → Sl} (h : Ev f Γ p (fun v => .tmp (s v)) Γ') (ht : ∀ v, (s v).tree = some (d v)) : Ev (sTk f) Γ p (fun v => .val (d v)) Γ' := fun v e δ z => let ⟨δ', h1, h2⟩ := h v e δ z; ⟨δ', by unfold sTk; rw [sSt_tmp h1 (ht v)], h2⟩
theorem tk_own [Enc α] {x : List α} (k : Nat) (h : Γ[k]? = some (.eq (ow x))) : Ev (sTk (sVar k)) Γ (some x) (fun v => .val (enc v)) fun v => upP k (.eq (.fz (enc v))) Γ := fun v e δ s => by
  cases some_of e
  refine ⟨upS k (.fz (enc x)) δ, ?_, s.up rfl⟩
  unfold sTk
  rw [sSt_ref (pu_own k h x rfl δ s)]
  show takeI k δ = _
  unfold takeI
  rw [s.at_ h]
  simp only [ow, map_fzd]
  rfl
theorem tk_oww [Enc α] {x : List (List α)} (k : Nat) (h : Γ[k]? = some (.eq (oww x))) : Ev (sTk (sVar k)) Γ (some x) (fun v => .val (enc v)) fun v => upP k (.eq (.fz (enc v))) Γ := fun v e δ s => by
  cases some_of e
  refine ⟨upS k (.fz (enc x)) δ, ?_, s.up rfl⟩
  unfold sTk
  rw [sSt_ref (by unfold sVar; rw [s.at_ h]; rfl)]
  show takeI k δ = _
  unfold takeI
  rw [s.at_ h]
  simp only [oww, List.map_map]
  rfl
end
end Nv
namespace Nv
open PySem Hb L2
open Enc (enc)
section
variable {α β γ : Type} [Enc α] [Enc β]
def Op2 (g : AV → AV → List Sl → Rs AV) (op : α → β → Option γ) (a : γ → AV) : Prop := ∀ v w r δ x y, rdC δ x = some (enc v) → rdA δ x = some (enc v) → rdC δ y = some (enc w) → rdA δ y = some (enc w) → op v w = some r → g x y δ = .ok (a r) δ
def Op2A (g : AV → AV → List Sl → Rs AV) (op : α → β → Option γ) (a : γ → AV) : Prop := ∀ v w r δ x y, rdA δ x = some (enc v) → rdA δ y = some (enc w) → op v w = some r → g x y δ = .ok (a r) δ
def Op1 (g : AV → List Sl → Rs AV) (op : α → Option γ) (a : γ → AV) : Prop := ∀ v r δ x, rdC δ x = some (enc v) → rdA δ x = some (enc v) → op v = some r → g x δ = .ok (a r) δ
def Op1A (g : AV → List Sl → Rs AV) (op : α → Option γ) (a : γ → AV) : Prop := ∀ v r δ x, rdA δ x = some (enc v) → op v = some r → g x δ = .ok (a r) δ
end
section
variable {α β γ ε ζ : Type} [Enc α] [Enc β] {Γ : Ga} {fa fb : List Sl → Rs AV} {g : AV → AV → List Sl → Rs AV} {h : AV → List Sl → Rs AV} {op : α → β → Option γ} {op1 : α → Option γ} {a : γ → AV}
theorem pu2 (o : Op2 g op a) {pa : Option α} {pb : Option β} (ha : Rd fa Γ pa enc) (hb : Rd fb Γ pb enc) : Pu (s2 g fa fb) Γ (pa.bind fun v => pb.bind fun w => op v w) a := fun r e δ s => by
  obtain ⟨v, e1, e⟩ := bind_of e
  obtain ⟨w, e2, e⟩ := bind_of e
  obtain ⟨x, h1, h2, h3⟩ := ha v e1 δ s
  obtain ⟨y, k1, k2, k3⟩ := hb w e2 δ s
  unfold s2
  rw [h1]
  show (sSt fb δ).bind _ = _
  rw [k1]
  exact o v w r δ x y h2 h3 k2 k3 e
theorem pu2A (o : Op2A g op a) {pa : Option α} {pb : Option β} (ha : Ra fa Γ pa enc) (hb : Ra fb Γ pb enc) : Pu (s2 g fa fb) Γ (pa.bind fun v => pb.bind fun w => op v w) a := fun r e δ s => by
  obtain ⟨v, e1, e⟩ := bind_of e
  obtain ⟨w, e2, e⟩ := bind_of e
  obtain ⟨x, h1, h3⟩ := ha v e1 δ s
  obtain ⟨y, k1, k3⟩ := hb w e2 δ s
  unfold s2
  rw [h1]
  show (sSt fb δ).bind _ = _
  rw [k1]
  exact o v w r δ x y h3 k3 e
theorem pu1 (o : Op1 h op1 a) {pa : Option α} (ha : Rd fa Γ pa enc) : Pu (s1 h fa) Γ (pa.bind op1) a := fun r e δ s => by
  obtain ⟨v, e1, e⟩ := bind_of e
  obtain ⟨x, h1, h2, h3⟩ := ha v e1 δ s
  unfold s1
  rw [h1]
  exact o v r δ x h2 h3 e
theorem pu1A (o : Op1A h op1 a) {pa : Option α} (ha : Ra fa Γ pa enc) : Pu (s1 h fa) Γ (pa.bind op1) a := fun r e δ s => by
  obtain ⟨v, e1, e⟩ := bind_of e
  obtain ⟨x, h1, h3⟩ := ha v e1 δ s
  unfold s1
  rw [h1]
  exact o v r δ x h3 e
/-- another shape of what it gives -/
theorem Ev.map {f : List Sl → Rs AV} {p : Option ε} {aa : ε → AV} {Γ1 : ε → Ga} {bb : ζ → AV} {Γ2 : ζ → Ga} (hh : Ev f Γ p aa Γ1) (k : ε → ζ) (h1 : ∀ x, bb (k x) = aa x := by intro _; rfl) (h2 : ∀ x, Γ2 (k x) = Γ1 x := by intro _; rfl) : Ev f Γ (p.bind fun x => some (k x)) bb Γ2 := fun r e δ s => by
  obtain ⟨v, e1, e⟩ := bind_of e
  cases some_of e
  obtain ⟨δ', q1, q2⟩ := hh v e1 δ s
  exact ⟨δ', by rw [h1]; exact q1, by rw [h2]; exact q2⟩
theorem Rd.un {f : List Sl → Rs AV} {p : Option (Option α)} (hh : Rd f Γ p enc) : Rd f Γ (p.bind fun d => d) (enc : α → PyData) := fun r e δ s => by
  obtain ⟨v, e1, e⟩ := bind_of e
  subst e
  exact hh _ e1 δ s
theorem Rd.any {f : List Sl → Rs AV} {p : Option α} (hh : Rd f Γ p enc) : Rd f Γ (p.bind fun d => some (enc d)) (enc : PyData → PyData) := fun r e δ s => by
  obtain ⟨v, e1, e⟩ := bind_of e
  cases some_of e
  exact hh _ e1 δ s
end
def addI (i j : Int) : Option Int := some (i + j)
def subI (i j : Int) : Option Int := some (i - j)
def mulI (i j : Int) : Option Int := if i.natAbs < 2 ^ 64 ∨ j.natAbs < 2 ^ 64 then some (i * j) else none
def modI (i j : Int) : Option Int := if 0 < j then some (i % j) else none
def ltI (i j : Int) : Option Bool := some (decide (i < j))
def leI (i j : Int) : Option Bool := some (decide (i ≤ j))
def gtI (i j : Int) : Option Bool := some (decide (j < i))
def maxI2 (i j : Int) : Option Int := some (if j > i then j else i)
def minI2 (i j : Int) : Option Int := some (if j < i then j else i)
def negI (i : Int) : Option Int := some (-i)
section
variable {g : Int → Int → Int} {C : Int → Int → Bool}
theorem op_gI {op : Int → Int → Option Int} (h : ∀ i j r, op i j = some r → C i j = true ∧ r = g i j) : Op2 (gI C g) op fun r => .val (enc r) := fun v w r δ x y h1 _ h2 _ e => by
  obtain ⟨c, rfl⟩ := h v w r e
  have h1 : rdC δ x = some (.int v) := h1
  have h2 : rdC δ y = some (.int w) := h2
  simp only [gI, h1, h2, c]
  rfl
theorem op_gI0 : Op2 (gI yes2 g) (fun i j => some (g i j)) fun r => .val (enc r) := op_gI fun i j r e => ⟨rfl, some_of e⟩
theorem op_gIc {C : Int → Int → Prop} [∀ i j, Decidable (C i j)] : Op2 (gI (fun i j => decide (C i j)) g) (fun i j => if C i j then some (g i j) else none) fun r => .val (enc r) := op_gI fun i j r e => by
  have e : (if C i j then some (g i j) else none) = some r := e
  by_cases c : C i j
  · rw [if_pos c] at e
    exact ⟨decide_eq_true c, some_of e⟩
  · rw [if_neg c] at e
    cases e
theorem op_gB {g : Int → Int → Bool} : Op2 (gB g) (fun i j => some (g i j)) fun r => .val (enc r) := fun v w r δ x y h1 _ h2 _ e => by
  have h1 : rdC δ x = some (.int v) := h1
  have h2 : rdC δ y = some (.int w) := h2
  cases some_of e
  simp only [gB, h1, h2]
  rfl
theorem op_sub : Op2 gSub subI fun r => .val (enc r) := op_gI0
theorem op_max2 : Op2 gMax2 maxI2 fun r => .val (enc r) := op_gI0
theorem op_min2 : Op2 gMin2 minI2 fun r => .val (enc r) := op_gI0
theorem op_mod : Op2 gMod modI fun r => .val (enc r) := op_gIc (C := fun _ j => 0 < j)
theorem op_lt : Op2 gLt ltI fun r => .val (enc r) := op_gB
theorem op_le : Op2 gLe leI fun r => .val (enc r) := op_gB
theorem op_gt : Op2 gGt gtI fun r => .val (enc r) := op_gB
theorem op_neg : Op1 gNeg negI fun r => .val (enc r) := fun v r δ x h1 _ e => by
  have h1 : rdC δ x = some (.int v) := h1
  cases some_of e
  simp only [gNeg, h1]
  rfl
theorem op_add : Op2 gAdd addI fun r => .val (enc r) := fun v w r δ x y h1 _ h2 _ e => by
  have h1 : rdC δ x = some (.int v) := h1
  have h2 : rdC δ y = some (.int w) := h2
  cases some_of e
  simp only [gAdd, h1, h2]
  rfl
theorem op_mul : Op2 gMulX mulI fun r => .val (enc r) := fun v w r δ x y h1 _ h2 _ e => by
  have h1 : rdC δ x = some (.int v) := h1
  have h2 : rdC δ y = some (.int w) := h2
  unfold mulI at e
  by_cases c : v.natAbs < 2 ^ 64 ∨ w.natAbs < 2 ^ 64
  · rw [if_pos c] at e
    cases some_of e
    simp only [gMulX, h1, h2, if_pos c]
    rfl
  · rw [if_neg c] at e
    cases e
end
def repL {α : Type} (xs : List α) (k : Int) : Option (List α) := if xs.length ≤ 1000 ∧ 0 ≤ k ∧ k ≤ 1000 then some (List.replicate k.toNat xs).flatten else none
def catS (x y : Str) : Option Str := if x.length ≤ cap ∧ y.length ≤ cap then some (x ++ y) else none
def lenL {α : Type} (xs : List α) : Option Int := some xs.length
def lenS (x : Str) : Option Int := if x.length ≤ cap then some x.length else none
def lenA (d : PyData) : Option Int := (lenD d).bind fun d => match d with
  | .int i => some i
  | _ => none
def atL {α : Type} (xs : List α) (i : Int) : Option α := atI xs i
def cutL {α : Type} (xs : List α) (lo hi : Option Int) : List α := (xs.drop (HT.sIx xs.length 0 lo)).take (HT.sIx xs.length xs.length hi - HT.sIx xs.length 0 lo)
def rgL (a b : Int) : List Int := (List.range (b - a).toNat).map fun i => a + (i : Nat)
def rg1 (n : Int) : Option (List Int) := if (-1000000 ≤ (0 : Int) ∧ (0 : Int) ≤ 1000000) ∧ -1000000 ≤ n ∧ n ≤ 1000000 then some (rgL 0 n) else none
def absI (i : Int) : Option Int := some (if i < 0 then -i else i)
def intI (i : Int) : Option Int := some i
def allB (ns : List Bool) : Option Bool := some (ns.all id)
def isiN (T : String) (d : PyData) : Option Bool := some (isiB (tyD d) T)
def reprN (d : PyData) : Option Str := if (shw d = true ∧ d.depth ≤ 60) ∧ d.shown.length ≤ sizeLine then some d.shown else none
def strI (i : Int) : Option Str := if i.natAbs.log2 < 1920 then some (toString i : String) else none
theorem allFz_inv : ∀ {xs : List El} {ds : List PyData}, allFz xs = some ds → xs = ds.map .fz
  | [], _, h => by cases h; rfl
  | .fz d :: r, ds, h => by
    have h : (allFz r).map (d :: ·) = some ds := h
    cases q : allFz r with
    | none => rw [q] at h; cases h
    | some es =>
      rw [q] at h
      cases h
      rw [allFz_inv q]
      rfl
  | .ow _ :: _, _, h => by cases h
section
variable {α β : Type} [Enc α] [Enc β]
theorem op_catS : Op2 gAdd catS fun r => .val (enc r) := fun v w r δ x y h1 _ h2 _ e => by
  have h1 : rdC δ x = some (.str v) := h1
  have h2 : rdC δ y = some (.str w) := h2
  unfold catS at e
  by_cases c : v.length ≤ cap ∧ w.length ≤ cap
  · rw [if_pos c] at e
    cases some_of e
    simp only [gAdd, h1, h2, if_pos c]
    rfl
  · rw [if_neg c] at e
    cases e
theorem op_rep : Op2 gMulX (repL (α := α)) fun r => .tmp (ow r) := fun v w r δ x y h1 _ h2 _ e => by
  have h1 : rdC δ x = some (.list (v.map enc)) := h1
  have h2 : rdC δ y = some (.int w) := h2
  unfold repL at e
  by_cases c : v.length ≤ 1000 ∧ 0 ≤ w ∧ w ≤ 1000
  · rw [if_pos c] at e
    cases some_of e
    simp only [gMulX, h1, h2, List.length_map, if_pos c, ow]
    simp only [List.map_flatten, List.map_replicate]
  · rw [if_neg c] at e
    cases e
theorem item_list {δ : List Sl} {x : AV} {ds : List PyData} (h : rdC δ x = some (.list ds)) (i : Int) : itemA δ x (.int i) = atI ds i := by
  cases x with
  | val d => cases h; rfl
  | tmp s => cases h
  | ref k =>
    unfold rdC at h
    unfold itemA
    cases q : δ[k]? with
    | none => simp only [q] at h; cases h
    | some s =>
      cases s with
      | no => simp only [q] at h; cases h
      | od kvs => simp only [q] at h; cases h
      | fz d => simp only [q] at h ⊢; cases h; rfl
      | ol xs =>
        simp only [q] at h ⊢
        cases q2 : allFz xs with
        | none => rw [q2] at h; cases h
        | some es =>
          rw [q2] at h
          cases h
          rw [allFz_inv q2, atI_map]
          cases atI ds i <;> rfl
      | al y j =>
        simp only [q] at h ⊢
        cases q2 : δ[y]? with
        | none => simp only [q2] at h; cases h
        | some t =>
          cases t with
          | ol xs =>
            simp only [q2] at h ⊢
            cases q3 : xs[j]? with
            | none => rw [q3] at h; cases h
            | some el =>
              rw [q3] at h
              cases el with
              | fz d => cases h; rfl
              | ow ys => cases h; rfl
          | _ => simp only [q2] at h; cases h
theorem item_tup {δ : List Sl} {x : AV} {ds : List PyData} (h : rdC δ x = some (.tuple ds)) (i : Int) : itemA δ x (.int i) = atI ds i := by
  cases x with
  | val d => cases h; rfl
  | tmp s => cases h
  | ref k =>
    unfold rdC at h
    unfold itemA
    cases q : δ[k]? with
    | none => simp only [q] at h; cases h
    | some s =>
      cases s with
      | no => simp only [q] at h; cases h
      | od kvs => simp only [q] at h; cases h
      | fz d => simp only [q] at h ⊢; cases h; rfl
      | ol xs =>
        simp only [q] at h
        cases q2 : allFz xs with
        | none => rw [q2] at h; cases h
        | some es => rw [q2] at h; cases h
      | al y j =>
        simp only [q] at h ⊢
        cases q2 : δ[y]? with
        | none => simp only [q2] at h; cases h
        | some t =>
          cases t with
          | ol xs =>
            simp only [q2] at h ⊢
            cases q3 : xs[j]? with
            | none => rw [q3] at h; cases h
            | some el =>
              rw [q3] at h
              cases el with
              | fz d => cases h; rfl
              | ow ys => cases h
          | _ => simp only [q2] at h; cases h
theorem op_ix : Op2 gIx (atL (α := α)) fun r => .val (enc r) := fun v w r δ x y h1 _ h2 _ e => by
  have h2 : rdC δ y = some (.int w) := h2
  simp only [gIx, h2, item_list (show rdC δ x = some (.list (v.map enc)) from h1), atI_map]
  have e : atI v w = some r := e
  rw [e]
  rfl
theorem op_len : Op1A (gRd lenD) (lenL (α := α)) fun r => .val (enc r) := fun v r δ x h e => by
  have h : rdA δ x = some (.list (v.map enc)) := h
  cases some_of e
  simp only [gRd, h, Option.bind_some, lenD, List.length_map, flatD, if_true]
  rfl
theorem op_lenS : Op1A (gRd lenD) lenS fun r => .val (enc r) := fun v r δ x h e => by
  have h : rdA δ x = some (.str v) := h
  unfold lenS at e
  by_cases c : v.length ≤ cap
  · rw [if_pos c] at e
    cases some_of e
    simp only [gRd, h, Option.bind_some, lenD, if_pos c, flatD, if_true]
    rfl
  · rw [if_neg c] at e
    cases e
theorem op_lenA : Op1A (gRd lenD) lenA fun r => .val (enc r) := fun v r δ x h e => by
  have h : rdA δ x = some v := h
  unfold lenA at e
  obtain ⟨d, e1, e2⟩ := bind_of e
  cases d with
  | int i =>
    cases some_of e2
    simp only [gRd, h, Option.bind_some, e1, flatD, if_true]
    rfl
  | _ => cases e2
theorem op_rd {k : PyData → Option PyData} {op : α → Option β} (hf : ∀ v r, op v = some r → k (enc v) = some (enc r) ∧ flatD (enc r) = true) : Op1A (gRd k) op fun r => .val (enc r) := fun v r δ x h e => by
  obtain ⟨h1, h2⟩ := hf v r e
  simp only [gRd, h, Option.bind_some, h1, h2, if_true]
theorem op_abs : Op1A (gRd absD) absI fun r => .val (enc r) := op_rd fun v r e => by cases some_of e; exact ⟨rfl, rfl⟩
theorem op_int : Op1A (gRd intD) intI fun r => .val (enc r) := op_rd fun v r e => by cases some_of e; exact ⟨rfl, rfl⟩
theorem op_all : Op1A (gRd (overB fun ns => some (.bool (ns.all id)))) allB fun r => .val (enc r) := op_rd fun v r e => by
  cases some_of e
  refine ⟨?_, rfl⟩
  show (boolsOf (v.map .bool)).bind _ = _
  rw [boolsOf_map]
  rfl
theorem op_isi {T : String} : Op1A (gIsi T) (isiN T) fun r => .val (enc r) := op_rd fun v r e => by
  cases some_of e
  exact ⟨rfl, rfl⟩
theorem op_repr : Op1A (gRd reprD) reprN fun r => .val (enc r) := op_rd fun v r e => by
  unfold reprN at e
  split at e
  · rename_i c
    cases some_of e
    exact ⟨if_pos c, rfl⟩
  · cases e
theorem op_strI : Op1A (gRd strD) strI fun r => .val (enc r) := op_rd fun v r e => by
  unfold strI at e
  split at e
  · rename_i c
    cases some_of e
    exact ⟨if_pos c, rfl⟩
  · cases e
theorem rgD_L (m n : Int) : rgD m n = (rgL m n).map enc := by
  unfold rgD rgL
  rw [List.map_map]
  rfl
theorem op_rg1 : Op1 gRg1 rg1 fun r => .tmp (ow r) := fun v r δ x h _ e => by
  have h : rdC δ x = some (.int v) := h
  unfold rg1 at e
  split at e
  · rename_i c
    cases some_of e
    simp only [gRg1, h, mkRg, if_pos c, rgD_L]
    rfl
  · cases e
end
end Nv
namespace Nv
open PySem Hb L2
open Enc (enc)
class EncEq (α : Type) [Enc α] [DecidableEq α] where
  n : Nat
  eqv : ∀ x y : α, PyData.eqv (enc x) (enc y) = decide (x = y)
  lay : ∀ x : α, (enc x).canLay0 = true
  dep : ∀ x : α, (enc x).depth ≤ n
class NotNone (α : Type) [Enc α] : Prop where
  a : ∀ x : α, PyData.eqv (enc x) .none = false
  b : ∀ x : α, PyData.eqv .none (enc x) = false
  c : ∀ x : α, enc x ≠ .none
instance : NotNone Int := ⟨fun _ => by simp [enc, PyData.eqv], fun _ => by simp [enc, PyData.eqv], fun _ h => nomatch h⟩
instance : NotNone Bool := ⟨fun _ => by simp [enc, PyData.eqv], fun _ => by simp [enc, PyData.eqv], fun _ h => nomatch h⟩
instance : NotNone Str := ⟨fun _ => by simp [enc, PyData.eqv], fun _ => by simp [enc, PyData.eqv], fun _ h => nomatch h⟩
instance {α : Type} [Enc α] : NotNone (List α) := ⟨fun _ => by simp [enc, PyData.eqv], fun _ => by simp [enc, PyData.eqv], fun _ h => nomatch h⟩
instance {α : Type} [Enc α] : NotNone (Tp α) := ⟨fun _ => by simp [enc, PyData.eqv], fun _ => by simp [enc, PyData.eqv], fun _ h => nomatch h⟩
instance {α β : Type} [Enc α] [Enc β] : NotNone (α × β) := ⟨fun _ => by simp [enc, PyData.eqv], fun _ => by simp [enc, PyData.eqv], fun _ h => nomatch h⟩
instance {α β γ : Type} [Enc α] [Enc β] [Enc γ] : NotNone (T3 α β γ) := ⟨fun _ => by simp [enc, PyData.eqv], fun _ => by simp [enc, PyData.eqv], fun _ h => nomatch h⟩
instance : EncEq Int := ⟨0, fun x y => by simp [enc, PyData.eqv]; by_cases h : x = y <;> simp [h], fun _ => by simp [enc, PyData.canLay0], fun _ => by simp [enc, PyData.depth]⟩
instance : EncEq Bool := ⟨0, fun x y => by cases x <;> cases y <;> simp [enc, PyData.eqv], fun _ => by simp [enc, PyData.canLay0], fun _ => by simp [enc, PyData.depth]⟩
instance : EncEq Unit := ⟨0, fun x y => by simp [enc, PyData.eqv], fun _ => by simp [enc, PyData.canLay0], fun _ => by simp [enc, PyData.depth]⟩
section
variable {α : Type} [Enc α] [DecidableEq α] [EncEq α]
theorem eqvAll_enc : ∀ xs ys : List α, PyData.eqvAll (xs.map enc) (ys.map enc) = decide (xs = ys)
  | [], [] => by simp [PyData.eqvAll]
  | [], y :: ys => by simp [PyData.eqvAll]
  | x :: xs, [] => by simp [PyData.eqvAll]
  | x :: xs, y :: ys => by
    simp only [List.map_cons, PyData.eqvAll, eqvAll_enc xs ys, EncEq.eqv]
    by_cases h : x = y <;> by_cases h2 : xs = ys <;> simp [h, h2]
theorem layAll_enc : ∀ xs : List α, PyData.canLayAll0 (xs.map enc) = true
  | [] => by simp [PyData.canLayAll0]
  | x :: xs => by simp [PyData.canLayAll0, EncEq.lay, layAll_enc xs]
theorem depAll_enc : ∀ xs : List α, PyData.depthAll (xs.map enc) ≤ EncEq.n α
  | [] => by simp [PyData.depthAll]
  | x :: xs => by
    have h1 := EncEq.dep x
    have h2 := depAll_enc xs
    simp only [List.map_cons, PyData.depthAll]
    omega
end
instance {α : Type} [Enc α] [DecidableEq α] [EncEq α] : EncEq (List α) := ⟨EncEq.n α + 1, fun x y => by
    show PyData.eqv (.list _) (.list _) = _
    simp only [PyData.eqv]
    exact eqvAll_enc x y, fun x => by
    show PyData.canLay0 (.list _) = true
    simp only [PyData.canLay0]
    exact layAll_enc x, fun x => by
    show PyData.depth (.list _) ≤ _
    simp only [PyData.depth]
    have := depAll_enc x
    omega⟩
instance {α : Type} [Enc α] [DecidableEq α] [EncEq α] : EncEq (Tp α) := ⟨EncEq.n α + 1, fun x y => by
    show PyData.eqv (.tuple _) (.tuple _) = _
    simp only [PyData.eqv]
    rw [eqvAll_enc]
    cases x; cases y
    simp, fun x => by
    show PyData.canLay0 (.tuple _) = true
    simp only [PyData.canLay0]
    exact layAll_enc x.l, fun x => by
    show PyData.depth (.tuple _) ≤ _
    simp only [PyData.depth]
    have := depAll_enc x.l
    omega⟩
instance {α β : Type} [Enc α] [DecidableEq α] [EncEq α] [Enc β] [DecidableEq β] [EncEq β] : EncEq (α × β) := ⟨max (EncEq.n α) (EncEq.n β) + 1, fun x y => by
    show PyData.eqv (.tuple _) (.tuple _) = _
    simp only [PyData.eqv, PyData.eqvAll, EncEq.eqv, Bool.and_true]
    cases x; cases y
    rw [← Bool.decide_and]
    simp, fun x => by
    show PyData.canLay0 (.tuple _) = true
    simp only [PyData.canLay0, PyData.canLayAll0, EncEq.lay, Bool.and_true], fun x => by
    show PyData.depth (.tuple _) ≤ _
    simp only [PyData.depth, PyData.depthAll]
    have h1 := EncEq.dep x.1
    have h2 := EncEq.dep x.2
    omega⟩
instance {α β γ : Type} [Enc α] [DecidableEq α] [EncEq α] [Enc β] [DecidableEq β] [EncEq β] [Enc γ] [DecidableEq γ] [EncEq γ] : EncEq (T3 α β γ) := ⟨max (EncEq.n α) (max (EncEq.n β) (EncEq.n γ)) + 1, fun x y => by
    show PyData.eqv (.tuple _) (.tuple _) = _
    simp only [PyData.eqv, PyData.eqvAll, EncEq.eqv, Bool.and_true]
    cases x; cases y
    rw [← Bool.decide_and, ← Bool.decide_and]
    simp, fun x => by
    show PyData.canLay0 (.tuple _) = true
    simp only [PyData.canLay0, PyData.canLayAll0, EncEq.lay, Bool.and_true], fun x => by
    show PyData.depth (.tuple _) ≤ _
    simp only [PyData.depth, PyData.depthAll]
    have h1 := EncEq.dep x.a
    have h2 := EncEq.dep x.b
    have h3 := EncEq.dep x.c
    omega⟩
instance {α : Type} [Enc α] [DecidableEq α] [EncEq α] [NotNone α] : EncEq (Option α) := ⟨EncEq.n α, fun x y => by
    cases x with
    | none =>
      cases y with
      | none => simp [enc, PyData.eqv]
      | some y => exact (NotNone.b y).trans (by simp)
    | some x =>
      cases y with
      | none => exact (NotNone.a x).trans (by simp)
      | some y =>
        show PyData.eqv (enc x) (enc y) = _
        rw [EncEq.eqv]
        simp, fun x => by
    cases x with
    | none => simp [enc, PyData.canLay0]
    | some x => exact EncEq.lay x, fun x => by
    cases x with
    | none => simp [enc, PyData.depth]
    | some x => exact EncEq.dep x⟩
def eqN {α : Type} [DecidableEq α] (x y : α) : Option Bool := some (decide (x = y))
def neN {α : Type} [DecidableEq α] (x y : α) : Option Bool := some (!decide (x = y))
def eqA (x y : PyData) : Option Bool := eqD x y
def eqS (x y : Str) : Option Bool := some (x.cps.toList == y.cps.toList)
def neS (x y : Str) : Option Bool := some !(x.cps.toList == y.cps.toList)
section
variable {α β : Type} [Enc α] [DecidableEq α] [EncEq α]
theorem shaped_enc (h : EncEq.n α ≤ 64) (x : α) : SeqAt.shaped (enc x) = true := by
  unfold SeqAt.shaped
  have := EncEq.dep x
  rw [EncEq.lay, Bool.true_and, decide_eq_true_eq]
  omega
theorem eqD_enc (h : EncEq.n α ≤ 64) (x y : α) : eqD (enc x) (enc y) = some (decide (x = y)) := by
  unfold eqD
  rw [if_pos ⟨shaped_enc h x, shaped_enc h y⟩, EncEq.eqv]
theorem op_eq (h : EncEq.n α ≤ 64 := by decide) : Op2A gEq (eqN (α := α)) fun r => .val (enc r) := fun v w r δ x y h1 h2 e => by
  cases some_of e
  simp only [gEq, h1, h2, eqD_enc h]
  rfl
theorem op_ne (h : EncEq.n α ≤ 64 := by decide) : Op2A gNe (neN (α := α)) fun r => .val (enc r) := fun v w r δ x y h1 h2 e => by
  cases some_of e
  simp only [gNe, h1, h2, eqD_enc h]
  rfl
theorem op_eqA : Op2A gEq eqA fun r => .val (enc r) := fun v w r δ x y h1 h2 e => by
  have e : eqD v w = some r := e
  have h1 : rdA δ x = some v := h1
  have h2 : rdA δ y = some w := h2
  simp only [gEq, h1, h2, e]
  rfl
end
section
variable {α β : Type} [Enc α] {Γ : Ga} {fa fb : List Sl → Rs AV}
theorem rdA_val (d : PyData) (δ : List Sl) : rdA δ (.val d) = some d := rfl
theorem pu_eqE {n : Bool} {pa : Option (List α)} (ha : Ra fa Γ pa enc) : Pu (s2 (gEqE n) fa (sLst lNil)) Γ (pa.bind fun x => some (n != x.isEmpty)) fun r => .val (enc r) := fun r e δ s => by
  obtain ⟨v, e1, e⟩ := bind_of e
  cases some_of e
  obtain ⟨x, h1, h3⟩ := ha v e1 δ s
  unfold s2
  rw [h1]
  have h3 : rdA δ x = some (.list (v.map enc)) := h3
  show gEqE n x (.val (.list [])) δ = _
  simp only [gEqE, h3, rdA_val, List.isEmpty_map]
  rfl
def noneD : PyData → Bool
  | .none => true
  | _ => false
theorem isD_none {d : PyData} : isD d .none = some (noneD d) := by cases d <;> rfl
theorem pu_isX {n : Bool} {pa : Option PyData} (ha : Ra fa Γ pa enc) : Pu (s2 (gIs n) fa (sC .none)) Γ (pa.bind fun d => some (if n = true then !(noneD d) else noneD d)) fun r => .val (enc r) := fun r e δ s => by
  obtain ⟨v, e1, e⟩ := bind_of e
  cases some_of e
  obtain ⟨x, h1, h3⟩ := ha v e1 δ s
  unfold s2
  rw [h1]
  have h3 : rdA δ x = some v := h3
  show gIs n x (.val .none) δ = _
  simp only [gIs, h3, rdA_val, isD_none]
  rfl
theorem isNone_m [NotNone α] (x : Option α) : noneD (enc x : PyData) = x.isNone := by
  cases x with
  | none => rfl
  | some x =>
    show noneD (enc x : PyData) = false
    have := NotNone.c x
    cases q : (enc x : PyData) <;> first | rfl | exact absurd q this
theorem pu_isN [NotNone α] {n : Bool} {pa : Option (Option α)} (ha : Ra fa Γ pa enc) : Pu (s2 (gIs n) fa (sC .none)) Γ (pa.bind fun x => some (if n = true then x.isSome else x.isNone)) fun r => .val (enc r) := fun r e δ s => by
  obtain ⟨v, e1, e⟩ := bind_of e
  have h : Ra fa Γ (some (enc v : PyData)) (enc : PyData → PyData) := fun u eu δ s => by
    cases some_of eu
    exact ha v e1 δ s
  have k := pu_isX (n := n) h r (by
    rw [← e]
    show some _ = some _
    rw [isNone_m]
    cases n with
    | false => rfl
    | true =>
      cases v <;> rfl) δ s
  exact k
theorem op_eqS : Op2 (gEqS false) eqS fun r => .val (enc r) := fun v w r δ x y h1 _ h2 _ e => by
  have h1 : rdC δ x = some (.str v) := h1
  have h2 : rdC δ y = some (.str w) := h2
  cases some_of e
  simp only [gEqS, h1, h2]
  show Rs.ok (AV.val (.bool _)) δ = Rs.ok (AV.val (.bool _)) δ
  cases (v.cps.toList == w.cps.toList) <;> rfl
theorem op_neS : Op2 (gEqS true) neS fun r => .val (enc r) := fun v w r δ x y h1 _ h2 _ e => by
  have h1 : rdC δ x = some (.str v) := h1
  have h2 : rdC δ y = some (.str w) := h2
  cases some_of e
  simp only [gEqS, h1, h2]
  show Rs.ok (AV.val (.bool _)) δ = Rs.ok (AV.val (.bool _)) δ
  cases (v.cps.toList == w.cps.toList) <;> rfl
end
section
variable {α β ε ζ : Type} {Γ : Ga} {f : List Sl → Rs AV} {t u : List Sl → Rs Bool}
theorem ts_tst {p : Option Bool} (h : Pu f Γ p fun b => .val (enc b)) : Ts (sTst f) Γ p := fun v e δ s => by
  unfold sTst
  rw [h v e δ s]
  rfl
theorem ts_truB {p : Option Bool} (h : Ra f Γ p enc) : Ts (sTru f) Γ p := fun v e δ s => by
  obtain ⟨x, h1, h2⟩ := h v e δ s
  unfold sTru
  rw [h1]
  show (match (rdA δ x).bind truD with
    | some k => Rs.ok k δ
    | none => .bad) = _
  rw [h2]
  rfl
theorem ts_not {p : Option Bool} (h : Ts t Γ p) : Ts (sNot t) Γ (p.bind fun b => some !b) := fun r e δ s => by
  obtain ⟨v, e1, e⟩ := bind_of e
  cases some_of e
  unfold sNot
  rw [h v e1 δ s]
  rfl
theorem ts_and {p q : Option Bool} (h : Ts t Γ p) (k : Ts u Γ q) : Ts (sAnd t u) Γ (p.bind fun b => if b = true then q else some false) := fun r e δ s => by
  obtain ⟨v, e1, e⟩ := bind_of e
  unfold sAnd
  rw [h v e1 δ s]
  cases v with
  | true => exact k r e δ s
  | false => cases some_of e; rfl
theorem ts_or {p q : Option Bool} (h : Ts t Γ p) (k : Ts u Γ q) : Ts (sOr t u) Γ (p.bind fun b => if b = true then some true else q) := fun r e δ s => by
  obtain ⟨v, e1, e⟩ := bind_of e
  unfold sOr
  rw [h v e1 δ s]
  cases v with
  | true => cases some_of e; rfl
  | false => exact k r e δ s
theorem ts_ok : Ts tOk Γ (some true) := fun r e δ s => by cases some_of e; rfl
theorem te_truB {p : Option ε} {k : ε → Bool} {Γ' : ε → Ga} (h : Es f Γ p (fun v => enc (k v)) Γ') : Te (sTru f) Γ p k Γ' := fun v e δ s => by
  obtain ⟨x, δ', h1, h2, h3, s1⟩ := h v e δ s
  refine ⟨δ', ?_, s1⟩
  unfold sTru
  rw [h1]
  show (match (rdA δ' x).bind truD with
    | some k => Rs.ok k δ'
    | none => .bad) = _
  rw [h3]
  rfl
theorem te_not {p : Option ε} {k : ε → Bool} {Γ' : ε → Ga} (h : Te t Γ p k Γ') : Te (sNot t) Γ p (fun v => !k v) Γ' := fun v e δ s => by
  obtain ⟨δ', h1, s1⟩ := h v e δ s
  refine ⟨δ', ?_, s1⟩
  unfold sNot
  rw [h1]
  rfl
theorem pu_if {fa fb : List Sl → Rs AV} {pt : Option Bool} {pa pb : Option β} {a : β → AV} (h : Ts t Γ pt) (ha : Pu fa Γ pa a) (hb : Pu fb Γ pb a) : Pu (sIf t fa fb) Γ (pt.bind fun c => if c = true then pa else pb) a := fun r e δ s => by
  obtain ⟨v, e1, e⟩ := bind_of e
  unfold sIf
  rw [h v e1 δ s]
  cases v with
  | true => exact ha r e δ s
  | false => exact hb r e δ s
theorem pu_andV {fa fb : List Sl → Rs AV} {pa pb : Option Bool} (ha : Pu fa Γ pa fun b => .val (enc b)) (hb : Pu fb Γ pb fun b => .val (enc b)) : Pu (sAndV fa fb) Γ (pa.bind fun b => if b = true then pb else some false) fun b => .val (enc b) := fun r e δ s => by
  obtain ⟨v, e1, e⟩ := bind_of e
  unfold sAndV
  rw [sSt_val (ha v e1 δ s)]
  cases v with
  | true => exact hb r e δ s
  | false => cases some_of e; rfl
theorem pu_orV {fa fb : List Sl → Rs AV} {pa pb : Option Bool} (ha : Pu fa Γ pa fun b => .val (enc b)) (hb : Pu fb Γ pb fun b => .val (enc b)) : Pu (sOrV fa fb) Γ (pa.bind fun b => if b = true then some true else pb) fun b => .val (enc b) := fun r e δ s => by
  obtain ⟨v, e1, e⟩ := bind_of e
  unfold sOrV
  rw [sSt_val (ha v e1 δ s)]
  cases v with
  | true => cases some_of e; rfl
  | false => exact hb r e δ s
end
end Nv
namespace Nv
open PySem Hb L2
open Enc (enc)
section
variable {α β γ ε ζ : Type} {Γ : Ga} {f : List Sl → Rs AV}
def Dl (g : List Sl → Rs (List PyData)) (Γ : Ga) (p : Option β) (ds : β → List PyData) (Γ' : β → Ga) : Prop := ∀ v, p = some v → ∀ δ, Sat Γ δ → ∃ δ', g δ = .ok (ds v) δ' ∧ Sat (Γ' v) δ'
def DlP (g : List Sl → Rs (List PyData)) (Γ : Ga) (p : Option β) (ds : β → List PyData) : Prop := ∀ v, p = some v → ∀ δ, Sat Γ δ → g δ = .ok (ds v) δ
variable {g : List Sl → Rs (List PyData)}
theorem dp_nil : DlP lNil Γ (some ()) fun _ => [] := fun v _ δ _ => rfl
theorem dp_cons {p : Option ε} {d : ε → PyData} {q : Option ζ} {ds : ζ → List PyData} (h : Pu (sTk f) Γ p fun v => .val (d v)) (h2 : DlP g Γ q ds) : DlP (lCons f g) Γ (p.bind fun x => q.bind fun y => some (x, y)) fun v => d v.1 :: ds v.2 := fun r e δ s => by
  obtain ⟨v, e1, e⟩ := bind_of e
  obtain ⟨w, e2, e⟩ := bind_of e
  cases some_of e
  unfold lCons Rs.val
  rw [h v e1 δ s]
  show (g δ).bind _ = _
  rw [h2 w e2 δ s]
  rfl
theorem dl_nil : Dl lNil Γ (some ()) (fun _ => []) fun _ => Γ := fun v _ δ s => ⟨δ, rfl, s⟩
theorem dl_cons {p : Option ε} {d : ε → PyData} {Γ1 : ε → Ga} {q : ε → Option ζ} {ds : ζ → List PyData} {Γ2 : ε → ζ → Ga} (h : Ev (sTk f) Γ p (fun v => .val (d v)) Γ1) (h2 : ∀ x, Dl g (Γ1 x) (q x) ds (Γ2 x)) : Dl (lCons f g) Γ (p.bind fun x => (q x).bind fun y => some (x, y)) (fun v => d v.1 :: ds v.2) fun v => Γ2 v.1 v.2 := fun r e δ s => by
  obtain ⟨v, e1, e⟩ := bind_of e
  obtain ⟨w, e2, e⟩ := bind_of e
  cases some_of e
  obtain ⟨δ1, h1, s1⟩ := h v e1 δ s
  obtain ⟨δ2, h3, s2⟩ := h2 v w e2 δ1 s1
  refine ⟨δ2, ?_, s2⟩
  unfold lCons Rs.val
  rw [h1]
  show (g δ1).bind _ = _
  rw [h3]
  rfl
theorem pu_lst [Enc α] {p : Option β} {ds : β → List PyData} (h : DlP g Γ p ds) (xs : β → List α) (hx : ∀ v, ds v = (xs v).map enc := by intro _; rfl) (hl : ∀ v, (xs v).length ≤ cap := by intro _; exact Nat.le_of_ble_eq_true rfl) : Pu (sLst g) Γ (p.bind fun v => some (xs v)) fun r => .tmp (ow r) := fun r e δ s => by
  obtain ⟨v, e1, e⟩ := bind_of e
  cases some_of e
  unfold sLst
  rw [h v e1 δ s]
  show (if (ds v).length ≤ cap then _ else _) = _
  rw [hx v, List.length_map, if_pos (hl v)]
  rfl
theorem pu_tup [Enc α] {p : Option β} {ds : β → List PyData} (h : DlP g Γ p ds) (t : β → α) (hx : ∀ v, enc (t v) = .tuple (ds v) := by intro _; rfl) (hl : ∀ v, (ds v).length ≤ cap := by intro _; exact Nat.le_of_ble_eq_true rfl) : Pu (sTup g) Γ (p.bind fun v => some (t v)) fun r => .val (enc r) := fun r e δ s => by
  obtain ⟨v, e1, e⟩ := bind_of e
  cases some_of e
  unfold sTup
  rw [h v e1 δ s]
  show (if (ds v).length ≤ cap then _ else _) = _
  rw [if_pos (hl v)]
  show Rs.ok (AV.val (.tuple (ds v))) δ = Rs.ok (AV.val (enc (t v))) δ
  rw [hx]
theorem ev_lst [Enc α] {p : Option β} {ds : β → List PyData} {Γ' : β → Ga} (h : Dl g Γ p ds Γ') (xs : β → List α) (hx : ∀ v, ds v = (xs v).map enc := by intro _; rfl) (hl : ∀ v, (xs v).length ≤ cap := by intro _; exact Nat.le_of_ble_eq_true rfl) : Ev (sLst g) Γ (p.bind fun v => some (xs v, v)) (fun r => .tmp (ow r.1)) fun r => Γ' r.2 := fun r e δ s => by
  obtain ⟨v, e1, e⟩ := bind_of e
  cases some_of e
  obtain ⟨δ1, h1, s1⟩ := h v e1 δ s
  refine ⟨δ1, ?_, s1⟩
  unfold sLst
  rw [h1]
  show (if (ds v).length ≤ cap then _ else _) = _
  rw [hx v, List.length_map, if_pos (hl v)]
  rfl
theorem ev_tup [Enc α] {p : Option β} {ds : β → List PyData} {Γ' : β → Ga} (h : Dl g Γ p ds Γ') (t : β → α) (hx : ∀ v, enc (t v) = .tuple (ds v) := by intro _; rfl) (hl : ∀ v, (ds v).length ≤ cap := by intro _; exact Nat.le_of_ble_eq_true rfl) : Ev (sTup g) Γ (p.bind fun v => some (t v, v)) (fun r => .val (enc r.1)) fun r => Γ' r.2 := fun r e δ s => by
  obtain ⟨v, e1, e⟩ := bind_of e
  cases some_of e
  obtain ⟨δ1, h1, s1⟩ := h v e1 δ s
  refine ⟨δ1, ?_, s1⟩
  unfold sTup
  rw [h1]
  show (if (ds v).length ≤ cap then _ else _) = _
  rw [if_pos (hl v)]
  show Rs.ok (AV.val (.tuple (ds v))) δ1 = Rs.ok (AV.val (enc (t v))) δ1
  rw [hx]
end
section
variable {α β γ ε ζ : Type} {Γ : Ga} {f fl fh : List Sl → Rs AV}
/-- a bound -/
inductive Sb (Γ : Ga) : Option (List Sl → Rs AV) → Option (Option Int) → Prop
  | no : Sb Γ none (some none)
  | yes {f : List Sl → Rs AV} {p : Option Int} : Rd f Γ p enc → Sb Γ (some f) (p.bind fun i => some (some i))
theorem Sb.run {o : Option (List Sl → Rs AV)} {p : Option (Option Int)} (h : Sb Γ o p) {v : Option Int} (e : p = some v) {δ : List Sl} (s : Sat Γ δ) : sPartO o δ = .ok v δ := by
  cases h with
  | no => cases some_of e; rfl
  | yes h =>
    obtain ⟨i, e1, e⟩ := bind_of e
    cases some_of e
    obtain ⟨x, h1, h2, _⟩ := h i e1 δ s
    show (sSt _ δ).bind _ = _
    rw [h1]
    show (match rdC δ x with
      | some (.int i) => Rs.ok (some i) δ
      | _ => .bad) = _
    rw [h2]
    rfl
theorem cutD_map [Enc α] (xs : List α) (lo hi : Option Int) : cutD (xs.map enc) lo hi = (cutL xs lo hi).map enc := by
  unfold cutD cutL
  rw [List.length_map, List.map_take, List.map_drop]
theorem pu_sl [Enc α] {p : Option (List α)} {ol oh : Option (List Sl → Rs AV)} {pl ph : Option (Option Int)} (h : Rd f Γ p enc) (hl : Sb Γ ol pl) (hh : Sb Γ oh ph) : Pu (sSl f ol oh) Γ (p.bind fun x => pl.bind fun l => ph.bind fun u => some (cutL x l u)) fun r => .tmp (ow r) := fun r e δ s => by
  obtain ⟨v, e1, e⟩ := bind_of e
  obtain ⟨l, e2, e⟩ := bind_of e
  obtain ⟨u, e3, e⟩ := bind_of e
  cases some_of e
  obtain ⟨x, h1, h2, _⟩ := h v e1 δ s
  have h2 : rdC δ x = some (.list (v.map enc)) := h2
  unfold sSl
  rw [h1]
  show (sPartO ol δ).bind _ = _
  rw [hl.run e2 s]
  show (sPartO oh δ).bind _ = _
  rw [hh.run e3 s]
  show gSl x l u δ = _
  simp only [gSl, h2, cutD_map]
  rfl
end
section
variable {α β γ ε ζ : Type} {Γ : Ga} {fo fa : List Sl → Rs AV}
theorem sVar_own {k : Nat} {δ : List Sl} {xs : List El} (h : δ[k]? = some (.ol xs)) : sVar k δ = .ok (.ref k) δ := by
  unfold sVar; rw [h]
theorem isLst_ref {k : Nat} {δ : List Sl} {xs : List El} (h : δ[k]? = some (.ol xs)) : isLst δ (.ref k) = true := by
  simp only [isLst, rdA, h, Sl.tree]
def apL {α : Type} (xs : List α) (x : α) : Option (List α) := if xs.length ≤ cap then some (xs ++ [x]) else none
/-- the item's value in the words of what it gives -/
theorem ev_app [Enc α] {k : Nat} {p : Option ε} {va : ε → α} {xs : ε → List α} {Γ1 : ε → Ga} {s0 : Sl} {es : List El} (h0 : Γ[k]? = some (.eq s0)) (hs0 : s0 = .ol es) (ha : Ev (sTk fa) Γ p (fun x => .val (enc (va x))) Γ1) (h1 : ∀ x, (Γ1 x)[k]? = some (.eq (ow (xs x)))) :
    Ev (sApp (sVar k) fa) Γ (p.bind fun x => (apL (xs x) (va x)).bind fun ys => some (ys, x)) (fun _ => .val .none) fun r => upP k (.eq (ow r.1)) (Γ1 r.2) := fun r e δ s => by
  obtain ⟨v, e1, e⟩ := bind_of e
  obtain ⟨ys, e2, e⟩ := bind_of e
  cases some_of e
  obtain ⟨δ1, q1, s1⟩ := ha v e1 δ s
  subst hs0
  have hk := s.at_ h0
  have hk1 := s1.at_ (h1 v)
  unfold apL at e2
  by_cases c : (xs v).length ≤ cap
  · rw [if_pos c] at e2
    cases some_of e2
    refine ⟨_, ?_, s1.up (p := .eq (ow (xs v ++ [va v]))) rfl⟩
    unfold sApp
    rw [sSt_ref (sVar_own hk)]
    show (if isLst δ (.ref k) = true then _ else _) = _
    rw [if_pos (isLst_ref hk)]
    unfold Rs.val
    rw [q1]
    show appI k (enc (va v)) δ1 = _
    unfold appI
    rw [hk1]
    simp only [ow, List.length_map, if_pos c, List.map_append]
    rfl
  · rw [if_neg c] at e2
    cases e2
def popL {α : Type} (xs : List α) (i : Int) : Option (α × List α) := (ixN xs.length i).bind fun j => (xs[j]?).bind fun x => if xs.length ≤ cap then some (x, xs.eraseIdx j) else none
theorem erase_map {α β : Type} (f : α → β) : ∀ (xs : List α) (j : Nat), (xs.map f).eraseIdx j = (xs.eraseIdx j).map f
  | [], _ => rfl
  | x :: r, 0 => rfl
  | x :: r, j + 1 => by
    show f x :: (r.map f).eraseIdx j = f x :: (r.eraseIdx j).map f
    rw [erase_map f r j]
theorem popI_ok [Enc α] {k : Nat} {xs : List α} {i : Int} {r : α × List α} {δ : List Sl} (h : δ[k]? = some (ow xs)) (e : popL xs i = some r) : popI k i δ = .ok (.val (enc r.1)) (upS k (ow r.2) δ) := by
  obtain ⟨j, e1, e⟩ := bind_of e
  obtain ⟨x, e2, e⟩ := bind_of e
  by_cases c : xs.length ≤ cap
  · rw [if_pos c] at e
    cases some_of e
    unfold popI
    rw [h]
    simp only [ow, allFz_map, List.length_map, e1, List.getElem?_map, e2, Option.map_some, if_pos c, erase_map]
  · rw [if_neg c] at e
    cases e
theorem ev_pop1 [Enc α] {k : Nat} {p : Option ε} {va : ε → Int} {xs : ε → List α} {Γ1 : ε → Ga} {s0 : Sl} {es : List El} (h0 : Γ[k]? = some (.eq s0)) (hs0 : s0 = .ol es) (ha : Ev (sTk fa) Γ p (fun x => .val (enc (va x))) Γ1) (h1 : ∀ x, (Γ1 x)[k]? = some (.eq (ow (xs x)))) :
    Ev (sPop1 (sVar k) fa) Γ (p.bind fun x => (popL (xs x) (va x)).bind fun y => some (y, x)) (fun r => .val (enc r.1.1)) fun r => upP k (.eq (ow r.1.2)) (Γ1 r.2) := fun r e δ s => by
  obtain ⟨v, e1, e⟩ := bind_of e
  obtain ⟨y, e2, e⟩ := bind_of e
  cases some_of e
  obtain ⟨δ1, q1, s1⟩ := ha v e1 δ s
  subst hs0
  have hk := s.at_ h0
  have hk1 := s1.at_ (h1 v)
  refine ⟨_, ?_, s1.up (p := .eq (ow y.2)) rfl⟩
  unfold sPop1
  rw [sSt_ref (sVar_own hk)]
  show (if isLst δ (.ref k) = true then _ else _) = _
  rw [if_pos (isLst_ref hk)]
  unfold Rs.val
  rw [q1]
  exact popI_ok hk1 e2
end
section
variable {α β γ ε ζ ρ : Type} {Γ : Ga} {f : List Sl → Rs AV} {g : List Sl → Rs (List Ar)}
def Ag (g : List Sl → Rs (List Ar)) (Γ : Ga) (p : Option β) (as : β → List Ar) (Γ' : β → Ga) : Prop := ∀ v, p = some v → ∀ δ, Sat Γ δ → ∃ δ', g δ = .ok (as v) δ' ∧ Sat (Γ' v) δ'
def AgP (g : List Sl → Rs (List Ar)) (Γ : Ga) (p : Option β) (as : β → List Ar) : Prop := ∀ v, p = some v → ∀ δ, Sat Γ δ → g δ = .ok (as v) δ
def arV : AV → Ar
  | .val d => .fz d
  | .tmp s => .own s
  | .ref k => .io k
def noRef : AV → Bool
  | .ref _ => false
  | _ => true
theorem arOf_V {a : AV} (h : noRef a = true) : arOf a = some (arV a) := by cases a <;> first | rfl | cases h
theorem nodup1 (k : Nat) : [k].Nodup := by simp
theorem ap_nil : AgP rNil Γ (some ()) fun _ => [] := fun v _ δ _ => rfl
theorem ap_cons {p : Option ε} {a : ε → AV} {q : Option ζ} {as : ζ → List Ar} (h : Pu f Γ p a) (h2 : AgP g Γ q as) (hr : ∀ v, noRef (a v) = true := by intro _; rfl) : AgP (rCons f g) Γ (p.bind fun x => q.bind fun y => some (x, y)) fun v => arV (a v.1) :: as v.2 := fun z e δ s => by
  obtain ⟨v, e1, e⟩ := bind_of e
  obtain ⟨w, e2, e⟩ := bind_of e
  cases some_of e
  unfold rCons
  rw [h v e1 δ s]
  show (match arOf (a v) with
    | some r => (g δ).bind fun rs δ2 => Rs.ok (r :: rs) δ2
    | none => .bad) = _
  rw [arOf_V (hr v)]
  show (g δ).bind _ = _
  rw [h2 w e2 δ s]
  rfl
theorem ag_nil : Ag rNil Γ (some ()) (fun _ => []) fun _ => Γ := fun v _ δ s => ⟨δ, rfl, s⟩
theorem ag_cons {p : Option ε} {a : ε → AV} {Γ1 : ε → Ga} {q : ε → Option ζ} {as : ζ → List Ar} {Γ2 : ε → ζ → Ga} (h : Ev f Γ p a Γ1) (h2 : ∀ x, Ag g (Γ1 x) (q x) as (Γ2 x)) (hr : ∀ v, noRef (a v) = true := by intro _; rfl) : Ag (rCons f g) Γ (p.bind fun x => (q x).bind fun y => some (x, y)) (fun v => arV (a v.1) :: as v.2) fun v => Γ2 v.1 v.2 := fun z e δ s => by
  obtain ⟨v, e1, e⟩ := bind_of e
  obtain ⟨w, e2, e⟩ := bind_of e
  cases some_of e
  obtain ⟨δ1, h1, s1⟩ := h v e1 δ s
  obtain ⟨δ2, h3, s2⟩ := h2 v w e2 δ1 s1
  refine ⟨δ2, ?_, s2⟩
  unfold rCons
  rw [h1]
  show (match arOf (a v) with
    | some r => (g δ1).bind fun rs δ2 => Rs.ok (r :: rs) δ2
    | none => .bad) = _
  rw [arOf_V (hr v)]
  show (g δ1).bind _ = _
  rw [h3]
  rfl
def insOf : List Ar → Option (List Sl)
  | [] => some []
  | .fz d :: r => (insOf r).map (.fz d :: ·)
  | .own s :: r => (insOf r).map (s :: ·)
  | .io _ :: _ => none
theorem ins_args {δ : List Sl} : ∀ {as : List Ar} {l : List Sl}, insOf as = some l → argsS δ as = some l ∧ iosOf δ as = []
  | [], l, h => by cases h; exact ⟨rfl, rfl⟩
  | .fz d :: r, l, h => by
    have h : (insOf r).map (.fz d :: ·) = some l := h
    cases q : insOf r with
    | none => rw [q] at h; cases h
    | some m =>
      rw [q] at h
      cases h
      obtain ⟨h1, h2⟩ := ins_args (δ := δ) q
      exact ⟨by simp only [argsS, argS, h1], h2⟩
  | .own s :: r, l, h => by
    have h : (insOf r).map (s :: ·) = some l := h
    cases q : insOf r with
    | none => rw [q] at h; cases h
    | some m =>
      rw [q] at h
      cases h
      obtain ⟨h1, h2⟩ := ins_args (δ := δ) q
      exact ⟨by simp only [argsS, argS, h1], h2⟩
  | .io k :: r, l, h => by cases h
theorem putB_nil {δ : List Sl} : ∀ {as : List Ar} {l m : List Sl}, insOf as = some m → putB [] as l δ = δ
  | [], l, _, _ => by cases l <;> rfl
  | .fz d :: r, [], _, _ => rfl
  | .own s :: r, [], _, _ => rfl
  | .fz d :: r, s :: l, m, h => by
    have h : (insOf r).map (.fz d :: ·) = some m := h
    cases q : insOf r with
    | none => rw [q] at h; cases h
    | some m => exact putB_nil (as := r) q
  | .own t :: r, s :: l, m, h => by
    have h : (insOf r).map (t :: ·) = some m := h
    cases q : insOf r with
    | none => rw [q] at h; cases h
    | some m => exact putB_nil (as := r) q
  | .io k :: r, l, m, h => by cases h
theorem callF_pure {F : List Sl → FR} {as : List Ar} {l : List Sl} {δ o : List Sl} {r : Sl} (h : insOf as = some l) (hF : F l = .ok r o) : callF F as δ = .ok (AV.ofSl r) δ := by
  obtain ⟨h1, h2⟩ := ins_args (δ := δ) h
  unfold callF backS
  rw [h2]
  rw [if_pos List.nodup_nil, h1]
  simp only [hF]
  rw [putB_nil h]
  rfl
/-- F on what stands for v gives what stands for n v -/
def Fun (F : List Sl → FR) (n : Option ρ) (ins : List Sl) (ret : ρ → Sl) (out : ρ → List Sl) : Prop := ∀ r, n = some r → F ins = .ok (ret r) (out r)
theorem pu_call {F : List Sl → FR} {dd : List PyData} {q : Option β} {as : β → List Ar} {n : β → Option ρ} {ins : β → List Sl} {ret : ρ → Sl} {out : ρ → List Sl} (hg : AgP g Γ q as) (hF : ∀ v, Fun F (n v) (ins v) ret out) (hi : ∀ v, insOf (as v ++ dd.map .fz) = some (ins v) := by intro _; rfl) : Pu (sCall F dd g) Γ (q.bind n) fun r => AV.ofSl (ret r) := fun r e δ s => by
  obtain ⟨v, e1, e⟩ := bind_of e
  unfold sCall
  rw [hg v e1 δ s]
  exact callF_pure (hi v) (hF v r e)
/-- a slot handed over -/
theorem ag_io {k : Nat} {q : Option β} {as : β → List Ar} {Γ1 : β → Ga} {s0 : Sl} (h0 : Γ[k]? = some (.eq s0)) (ho : ownS (some s0) = true) (h : Ag g Γ q as Γ1) : Ag (rIo k g) Γ q (fun v => .io k :: as v) Γ1 := fun v e δ s => by
  obtain ⟨δ1, h1, s1⟩ := h v e δ s
  refine ⟨δ1, ?_, s1⟩
  have hk := s.at_ h0
  unfold rIo
  have hv : sVar k δ = .ok (.ref k) δ := by
    unfold sVar
    rw [hk]
    cases s0 <;> first | rfl | cases ho
  rw [hv]
  show (g δ).bind _ = _
  rw [h1]
  rfl
def insG (Γ : Ga) : List Ar → Option (List Sl)
  | [] => some []
  | .fz d :: r => (insG Γ r).map (.fz d :: ·)
  | .own s :: r => (insG Γ r).map (s :: ·)
  | .io k :: r => match Γ[k]? with
    | some (.eq s) => if ownS (some s) = true then (insG Γ r).map (s :: ·) else none
    | _ => none
def iosG : List Ar → List Nat
  | [] => []
  | .io k :: r => k :: iosG r
  | _ :: r => iosG r
def clrP (ks : List Nat) (Γ : Ga) : Ga := ks.foldr (fun k Γ => upP k (.eq .no) Γ) Γ
def putP : List Ar → List Sl → Ga → Ga
  | .io k :: r, s :: l, Γ => putP r l (upP k (.eq (noAl s)) Γ)
  | .fz _ :: r, _ :: l, Γ => putP r l Γ
  | .own _ :: r, _ :: l, Γ => putP r l Γ
  | _, _, Γ => Γ
def backP (Γ : Ga) (as : List Ar) (o : List Sl) : Ga := putP as o (clrP (iosG as) Γ)
theorem insG_ok {δ : List Sl} (s : Sat Γ δ) : ∀ {as : List Ar} {l : List Sl}, insG Γ as = some l → argsS δ as = some l ∧ iosOf δ as = iosG as
  | [], l, h => by cases h; exact ⟨rfl, rfl⟩
  | .fz d :: r, l, h => by
    have h : (insG Γ r).map (.fz d :: ·) = some l := h
    cases q : insG Γ r with
    | none => rw [q] at h; cases h
    | some m =>
      rw [q] at h
      cases h
      obtain ⟨h1, h2⟩ := insG_ok s q
      exact ⟨by simp only [argsS, argS, h1], h2⟩
  | .own t :: r, l, h => by
    have h : (insG Γ r).map (t :: ·) = some l := h
    cases q : insG Γ r with
    | none => rw [q] at h; cases h
    | some m =>
      rw [q] at h
      cases h
      obtain ⟨h1, h2⟩ := insG_ok s q
      exact ⟨by simp only [argsS, argS, h1], h2⟩
  | .io k :: r, l, h => by
    unfold insG at h
    cases q0 : Γ[k]? with
    | none => simp only [q0] at h; cases h
    | some p =>
      cases p with
      | eq t =>
        simp only [q0] at h
        by_cases c : ownS (some t) = true
        · rw [if_pos c] at h
          cases q : insG Γ r with
          | none => rw [q] at h; cases h
          | some m =>
            rw [q] at h
            cases h
            obtain ⟨h1, h2⟩ := insG_ok s q
            have hk := s.at_ q0
            refine ⟨?_, ?_⟩
            · simp only [argsS, h1, argS, hk]
              cases t <;> first | rfl | cases c
            · rw [ios_cons_io, if_pos (by rw [hk]; exact c), h2]
              rfl
        · rw [if_neg c] at h
          cases h
      | _ => simp only [q0] at h; cases h
theorem clrP_ok {δ : List Sl} (s : Sat Γ δ) : ∀ ks : List Nat, Sat (clrP ks Γ) (clr ks δ)
  | [] => s
  | k :: r => (clrP_ok s r).up (p := .eq .no) rfl
theorem putP_ok (ks : List Nat) : ∀ {as : List Ar} {o : List Sl} {Γ : Ga} {δ : List Sl}, Sat Γ δ → (∀ k ∈ iosG as, k ∈ ks) → Sat (putP as o Γ) (putB ks as o δ)
  | [], o, _, _, s, _ => by cases o <;> exact s
  | .fz d :: r, [], _, _, s, _ => s
  | .own t :: r, [], _, _, s, _ => s
  | .io k :: r, [], _, _, s, _ => s
  | .fz d :: r, t :: o, _, _, s, h => putP_ok ks (as := r) s h
  | .own u :: r, t :: o, _, _, s, h => putP_ok ks (as := r) s h
  | .io k :: r, t :: o, Γ, δ, s, h => by
    show Sat (putP r o (upP k (.eq (noAl t)) Γ)) (putB ks r o (if k ∈ ks then upS k (noAl t) δ else δ))
    rw [if_pos (h k List.mem_cons_self)]
    exact putP_ok ks (as := r) (s.up (p := .eq (noAl t)) rfl) fun j hj => h j (List.mem_cons_of_mem _ hj)
theorem ev_callG {F : List Sl → FR} {dd : List PyData} {q : Option β} {as : β → List Ar} {Γ1 : β → Ga} {n : β → Option ρ} {ins : β → List Sl} {ret : ρ → Sl} {out : ρ → List Sl} (hg : Ag g Γ q as Γ1) (hF : ∀ v, Fun F (n v) (ins v) ret out)
    (hi : ∀ v, insG (Γ1 v) (as v ++ dd.map .fz) = some (ins v) := by intro _; rfl) (hn : ∀ v, (iosG (as v ++ dd.map .fz)).Nodup := by intro _; first | exact nodup1 _ | exact List.nodup_nil | decide) :
    Ev (sCall F dd g) Γ (q.bind fun v => (n v).bind fun r => some (r, v)) (fun r => AV.ofSl (ret r.1)) (fun r => backP (Γ1 r.2) (as r.2 ++ dd.map .fz) (out r.1)) := fun r e δ s => by
  obtain ⟨v, e1, e⟩ := bind_of e
  obtain ⟨w, e2, e⟩ := bind_of e
  cases some_of e
  obtain ⟨δ1, h1, sa⟩ := hg v e1 δ s
  obtain ⟨k1, k2⟩ := insG_ok sa (hi v)
  refine ⟨backS (as v ++ dd.map .fz) (out w) δ1, ?_, ?_⟩
  · unfold sCall
    rw [h1]
    show callF F (as v ++ dd.map .fz) δ1 = _
    unfold callF
    rw [k2, if_pos (hn v), k1]
    simp only [hF v w e2]
  · unfold backS backP
    rw [k2]
    exact putP_ok _ (clrP_ok sa _) fun k hk => hk
/-- a value, or a list of nobody's -/
def Em (f : List Sl → Rs AV) (Γ : Ga) (p : Option β) (d : β → PyData) (Γ' : β → Ga) : Prop := ∀ v, p = some v → ∀ δ, Sat Γ δ → ∃ s δ', f δ = .ok (AV.ofSl s) δ' ∧ (Pt.tr (d v)).Ok s ∧ Sat (Γ' v) δ'
theorem tr_tree {d : PyData} {s : Sl} (h : (Pt.tr d).Ok s) : s.tree = some d := by
  rcases h with ⟨h, _⟩ | h
  · exact h
  · rw [h]; rfl
theorem Em.er {p : Option β} {d : β → PyData} {Γ' : β → Ga} (h : Em f Γ p d Γ') : Er f Γ p d Γ' := fun v e δ s => by
  obtain ⟨t, δ', h1, h2, h3⟩ := h v e δ s
  refine ⟨δ', ?_, h3⟩
  have h4 := tr_tree h2
  cases t with
  | fz d' => cases h4; exact sSt_val h1
  | ol xs => exact sSt_tmp h1 h4
  | od x => exact sSt_tmp h1 h4
  | no => cases h4
  | al x j => cases h4
theorem Em.tk {p : Option β} {d : β → PyData} {Γ' : β → Ga} (h : Em f Γ p d Γ') : Ev (sTk f) Γ p (fun v => .val (d v)) Γ' := fun v e δ s => by
  obtain ⟨δ', h1, h2⟩ := h.er v e δ s
  exact ⟨δ', by unfold sTk; rw [h1], h2⟩
theorem Er.rd {p : Option β} {d : β → PyData} (h : ∀ v, p = some v → ∀ δ, Sat Γ δ → sSt f δ = .ok (.val (d v)) δ) : Rd f Γ p d := fun v e δ s => ⟨_, h v e δ s, rfl, rfl⟩
end
end Nv
namespace Nv
open PySem Hb L2
open Enc (enc)
/-- a return -/
def RF {ρ : Type} (ret : ρ → Pt) (ΓR : ρ → Ga) (r : ρ) (o : Ot) : Prop := ∃ s δ', (o = .rt s δ' ∨ (o = .nx δ' ∧ s = .fz .none)) ∧ (ret r).Ok s ∧ Sat (ΓR r) δ'
/-- on to the next turn -/
def RS {σ : Type} (ΓS : σ → Ga) (s : σ) (o : Ot) : Prop := ∃ δ', (o = .nx δ' ∨ o = .ct δ') ∧ Sat (ΓS s) δ'
/-- a turn that may leave its loop -/
inductive Fl (ρ σ : Type) where
  | nx (s : σ) | bk (s : σ) | rt (r : ρ)
def Fl.el {ρ σ ζ : Type} (o : Fl ρ σ) (f : σ → Option ζ) (k : ρ → Option ζ) : Option ζ := match o with
  | .nx s => f s
  | .bk s => f s
  | .rt r => k r
def RL {ρ σ : Type} (R : ρ → Ot → Prop) (ΓS ΓB : σ → Ga) : Fl ρ σ → Ot → Prop
  | .nx s, o => ∃ δ', (o = .nx δ' ∨ o = .ct δ') ∧ Sat (ΓS s) δ'
  | .bk s, o => ∃ δ', o = .bk δ' ∧ Sat (ΓB s) δ'
  | .rt r, o => R r o ∧ ∃ s δ', o = .rt s δ'
section
variable {α β γ ε ζ ρ σ : Type} {Γ : Ga} {f : List Sl → Rs AV} {g h A B : List Sl → Ot} {R : ζ → Ot → Prop}
theorem seq_next (f : List Sl → Ot) : oSeq f oNext = f := by
  funext δ
  unfold oSeq
  cases f δ <;> rfl
theorem bl_last {p : Option ζ} (k : Bl (oSeq g oNext) Γ p R) : Bl g Γ p R := by rwa [seq_next] at k
theorem bl_next {p : Option ζ} (k : Bl g Γ p R) : Bl (oSeq oNext g) Γ p R := k
theorem bl_assoc {p : Option ζ} (k : Bl (oSeq A (oSeq B g)) Γ p R) : Bl (oSeq (oSeq A B) g) Γ p R := fun v e δ s => by
  have := k v e δ s
  unfold oSeq at this ⊢
  cases q : A δ <;> simp only [q] at this ⊢ <;> exact this
theorem nx_of {δ δ' : List Sl} (q : A δ = .nx δ') : oSeq A g δ = g δ' := by unfold oSeq; rw [q]
theorem bl_asgV {k : Nat} {p : Option ε} {d : ε → PyData} {Γ1 : ε → Ga} {kont : ε → Option ζ} (h : Ev f Γ p (fun v => .val (d v)) Γ1) (k2 : ∀ v, Bl g (upP k (.eq (.fz (d v))) (Γ1 v)) (kont v) R) : Bl (oSeq (oAsg f (tgN k)) g) Γ (p.bind kont) R := fun r e δ s => by
  obtain ⟨v, e1, e⟩ := bind_of e
  obtain ⟨δ1, h1, s1⟩ := h v e1 δ s
  rw [nx_of (show oAsg f (tgN k) δ = .nx (upS k (.fz (d v)) δ1) by unfold oAsg; rw [h1]; rfl)]
  exact k2 v r e _ (s1.up rfl)
theorem bl_asgT {k : Nat} {p : Option ε} {t : ε → Sl} {Γ1 : ε → Ga} {kont : ε → Option ζ} (h : Ev f Γ p (fun v => .tmp (t v)) Γ1) (k2 : ∀ v, Bl g (upP k (.eq (t v)) (Γ1 v)) (kont v) R) : Bl (oSeq (oAsg f (tgN k)) g) Γ (p.bind kont) R := fun r e δ s => by
  obtain ⟨v, e1, e⟩ := bind_of e
  obtain ⟨δ1, h1, s1⟩ := h v e1 δ s
  rw [nx_of (show oAsg f (tgN k) δ = .nx (upS k (t v) δ1) by unfold oAsg; rw [h1]; rfl)]
  exact k2 v r e _ (s1.up rfl)
theorem bl_expr {p : Option ε} {a : ε → AV} {Γ1 : ε → Ga} {kont : ε → Option ζ} (h : Ev f Γ p a Γ1) (k2 : ∀ v, Bl g (Γ1 v) (kont v) R) : Bl (oSeq (oDrop f) g) Γ (p.bind kont) R := fun r e δ s => by
  obtain ⟨v, e1, e⟩ := bind_of e
  obtain ⟨δ1, h1, s1⟩ := h v e1 δ s
  rw [nx_of (show oDrop f δ = .nx δ1 by unfold oDrop; rw [h1]; rfl)]
  exact k2 v r e _ s1
def stI {α : Type} (xs : List α) (i : Int) (v : α) : Option (List α) := (ixN xs.length i).map fun j => xs.set j v
theorem setA_own [Enc α] {k : Nat} {xs ys : List α} {i : Int} {v : α} {δ : List Sl} {y : AV} (h : δ[k]? = some (ow xs)) (hy : rdC δ y = some (.int i)) (e : stI xs i v = some ys) : setA (.ref k) y (enc v) δ = .ok () (upS k (ow ys) δ) := by
  unfold stI at e
  cases q : ixN xs.length i with
  | none => rw [q] at e; cases e
  | some j =>
    rw [q] at e
    cases some_of e
    unfold setA
    simp only [hy, h, ow, List.length_map, q, allFz_map, List.map_set]
theorem bl_set [Enc α] {k : Nat} {fi : List Sl → Rs AV} {p : Option ε} {va : ε → α} {Γ1 : ε → Ga} {xs : ε → List α} {pi : ε → Option Int} {kont : ε → List α → Option ζ} (h : Ev f Γ p (fun v => .val (enc (va v))) Γ1) (h0 : ∀ v, (Γ1 v)[k]? = some (.eq (ow (xs v)))) (hi : ∀ v, Rd fi (Γ1 v) (pi v) enc)
    (k2 : ∀ v ys, Bl g (upP k (.eq (ow ys)) (Γ1 v)) (kont v ys) R) : Bl (oSeq (oAsg f (tgS (sVar k) fi)) g) Γ (p.bind fun v => (pi v).bind fun i => (stI (xs v) i (va v)).bind (kont v)) R := fun r e δ s => by
  obtain ⟨v, e1, e⟩ := bind_of e
  obtain ⟨i, e2, e⟩ := bind_of e
  obtain ⟨ys, e3, e⟩ := bind_of e
  obtain ⟨δ1, h1, s1⟩ := h v e1 δ s
  obtain ⟨x, q1, q2, _⟩ := hi v i e2 δ1 s1
  have hk := s1.at_ (h0 v)
  rw [nx_of (show oAsg f (tgS (sVar k) fi) δ = .nx (upS k (ow ys) δ1) by
    unfold oAsg
    rw [h1]
    show (tgS (sVar k) fi (.val (enc (va v))) δ1).otU = _
    unfold tgS
    show ((sSt (sVar k) δ1).bind _).otU = _
    rw [sSt_ref (sVar_own hk)]
    show ((sSt fi δ1).bind _).otU = _
    rw [q1]
    show (setA (.ref k) x (enc (va v)) δ1).otU = _
    rw [setA_own hk q2 e3]
    rfl)]
  exact k2 v ys r e _ (s1.up rfl)
def asgP : List Nat → List Ar → Ga → Ga
  | k :: ks, .fz d :: r, Γ => asgP ks r (upP k (.eq (.fz d)) Γ)
  | k :: ks, .own s :: r, Γ => asgP ks r (upP k (.eq s) Γ)
  | _, _, Γ => Γ
def parOk : List Nat → List Ar → Bool
  | [], [] => true
  | _ :: ks, .fz _ :: r => parOk ks r
  | _ :: ks, .own _ :: r => parOk ks r
  | _, _ => false
theorem asgP_ok : ∀ {ks : List Nat} {as : List Ar} {Γ : Ga} {δ : List Sl}, Sat Γ δ → parOk ks as = true → noIo as = true ∧ ∃ δ', asgA ks as δ = .nx δ' ∧ Sat (asgP ks as Γ) δ'
  | [], [], Γ, δ, s, _ => ⟨rfl, δ, rfl, s⟩
  | [], _ :: _, _, _, _, h => by cases h
  | _ :: _, [], _, _, _, h => by cases h
  | k :: ks, .io j :: r, _, _, _, h => by cases h
  | k :: ks, .fz d :: r, Γ, δ, s, h => asgP_ok (ks := ks) (as := r) (s.up (i := k) (p := .eq (.fz d)) rfl) h
  | k :: ks, .own t :: r, Γ, δ, s, h => asgP_ok (ks := ks) (as := r) (s.up (i := k) (p := .eq t) rfl) h
theorem bl_par {ks : List Nat} {ga : List Sl → Rs (List Ar)} {p : Option ε} {as : ε → List Ar} {Γ1 : ε → Ga} {kont : ε → Option ζ} (h : Ag ga Γ p as Γ1) (k2 : ∀ v, Bl g (asgP ks (as v) (Γ1 v)) (kont v) R) (hp : ∀ v, parOk ks (as v) = true := by intro _; rfl) : Bl (oSeq (oPar ks ga) g) Γ (p.bind kont) R := fun r e δ s => by
  obtain ⟨v, e1, e⟩ := bind_of e
  obtain ⟨δ1, h1, s1⟩ := h v e1 δ s
  obtain ⟨n, δ2, h2, s2⟩ := asgP_ok s1 (hp v)
  rw [nx_of (show oPar ks ga δ = .nx δ2 by
    unfold oPar
    rw [h1]
    simp only [n, if_true, h2])]
  exact k2 v r e _ s2
theorem sMv_val {δ δ' : List Sl} {d : PyData} (h : f δ = .ok (.val d) δ') : sMv f δ = .ok (.val d) δ' := by unfold sMv; rw [h]
theorem sMv_tmp {δ δ' : List Sl} {t : Sl} (h : f δ = .ok (.tmp t) δ') : sMv f δ = .ok (.tmp t) δ' := by unfold sMv; rw [h]
theorem bl_retV {p : Option ε} {d : ε → PyData} {Γ1 : ε → Ga} {κ : ε → ζ} (h : Ev f Γ p (fun v => .val (d v)) Γ1) (k : ∀ v δ', Sat (Γ1 v) δ' → R (κ v) (.rt (.fz (d v)) δ')) : Bl (oRet f) Γ (p.bind fun v => some (κ v)) R := fun r e δ s => by
  obtain ⟨v, e1, e⟩ := bind_of e
  cases some_of e
  obtain ⟨δ1, h1, s1⟩ := h v e1 δ s
  have : oRet f δ = .rt (.fz (d v)) δ1 := by unfold oRet; rw [sMv_val h1]; rfl
  rw [this]
  exact k v δ1 s1
theorem bl_retT {p : Option ε} {t : ε → Sl} {Γ1 : ε → Ga} {κ : ε → ζ} (h : Ev f Γ p (fun v => .tmp (t v)) Γ1) (k : ∀ v δ', Sat (Γ1 v) δ' → R (κ v) (.rt (t v) δ')) : Bl (oRet f) Γ (p.bind fun v => some (κ v)) R := fun r e δ s => by
  obtain ⟨v, e1, e⟩ := bind_of e
  cases some_of e
  obtain ⟨δ1, h1, s1⟩ := h v e1 δ s
  have : oRet f δ = .rt (t v) δ1 := by unfold oRet; rw [sMv_tmp h1]; rfl
  rw [this]
  exact k v δ1 s1
/-- a name whose list is one's own -/
theorem bl_retO {k : Nat} {s0 : Sl} {κ : ζ} (h0 : Γ[k]? = some (.eq s0)) (ho : ownS (some s0) = true) (k2 : ∀ δ', Sat (upP k (.eq .no) Γ) δ' → R κ (.rt s0 δ')) : Bl (oRet (sVar k)) Γ (some κ) R := fun r e δ s => by
  cases some_of e
  have hk := s.at_ h0
  have h1 : sVar k δ = .ok (.ref k) δ := by
    unfold sVar
    rw [hk]
    cases s0 <;> first | rfl | cases ho
  have h2 : sMv (sVar k) δ = .ok (.tmp s0) (upS k .no δ) := by
    unfold sMv
    rw [h1]
    show moveI k δ = _
    unfold moveI
    rw [hk]
    cases s0 <;> first | rfl | cases ho
  have : oRet (sVar k) δ = .rt s0 (upS k .no δ) := by unfold oRet; rw [h2]; rfl
  rw [this]
  exact k2 _ (s.up (p := .eq .no) rfl)
theorem bl_retS {p : Option ζ} (k : Bl (oRet f) Γ p R) : Bl (oSeq (oRet f) g) Γ p R := fun v e δ s => by
  have := k v e δ s
  have h2 : oSeq (oRet f) g δ = oRet f δ := by
    unfold oSeq
    have : ∀ δ', oRet f δ ≠ .nx δ' := fun δ' q => by
      unfold oRet at q
      cases q2 : sMv f δ with
      | ok a δ2 => rw [q2] at q; cases a <;> cases q
      | er x δ2 => rw [q2] at q; cases q
      | bad => rw [q2] at q; cases q
    cases q : oRet f δ with
    | nx δ' => exact absurd q (this δ')
    | _ => rfl
  rwa [h2]
/-- a raise: not walked -/
theorem bl_bad {A : List Sl → Ot} : Bl A Γ (none : Option ζ) R := fun r e => nomatch e
theorem bl_end {κ : ζ} (k : ∀ δ', Sat Γ δ' → R κ (.nx δ')) : Bl oNext Γ (some κ) R := fun r e δ s => by
  cases some_of e
  exact k δ s
theorem bl_if {t : List Sl → Rs Bool} {p : Option ε} {k : ε → Bool} {Γ1 : ε → Ga} {pa pb : ε → Option ζ} (h : Te t Γ p k Γ1) (ha : ∀ v, Bl (oSeq A g) (Γ1 v) (pa v) R) (hb : ∀ v, Bl (oSeq B g) (Γ1 v) (pb v) R) : Bl (oSeq (oIf t A B) g) Γ (p.bind fun v => if k v = true then pa v else pb v) R := fun r e δ s => by
  obtain ⟨v, e1, e⟩ := bind_of e
  obtain ⟨δ1, h1, s1⟩ := h v e1 δ s
  have : oSeq (oIf t A B) g δ = if k v = true then oSeq A g δ1 else oSeq B g δ1 := by
    unfold oSeq oIf
    rw [h1]
    show (match (if k v = true then A δ1 else B δ1) with
      | .nx δ' => g δ'
      | r => r) = _
    by_cases c : k v = true
    · simp only [if_pos c] <;> rfl
    · simp only [if_neg c] <;> rfl
  rw [this]
  by_cases c : k v = true
  · rw [if_pos c] at e ⊢
    exact ha v r e δ1 s1
  · rw [if_neg c] at e ⊢
    exact hb v r e δ1 s1
end
section
variable {α β γ ε ζ ρ σ : Type} {Γ : Ga} {f g : List Sl → Rs AV}
def It (w : List Sl → Rs (List PyData)) (Γ : Ga) (p : Option β) (its : β → List PyData) (Γ' : β → Ga) : Prop := ∀ v, p = some v → ∀ δ, Sat Γ δ → ∃ δ', w δ = .ok (its v) δ' ∧ Sat (Γ' v) δ'
def ItP (w : List Sl → Rs (List PyData)) (Γ : Ga) (p : Option β) (its : β → List PyData) : Prop := ∀ v, p = some v → ∀ δ, Sat Γ δ → w δ = .ok (its v) δ
theorem ItP.it {w : List Sl → Rs (List PyData)} {p : Option β} {its : β → List PyData} (h : ItP w Γ p its) : It w Γ p its fun _ => Γ := fun v e δ s => ⟨δ, h v e δ s, s⟩
def seqA (d : PyData) : Option (List PyData) := seqD d
def enumL {α : Type} (xs : List α) : List (Int × α) := xs.zipIdx.map fun p => ((p.2 : Int), p.1)
def rgI (lo : Int) (n : Nat) : List Int := (List.range n).map fun i => lo + (i : Nat)
def ri1 (n : Int) : Option (List Int) := if -(2 ^ 62) ≤ n ∧ n < 2 ^ 62 then some (rgI 0 n.toNat) else none
theorem enum_enc [Enc α] (xs : List α) : enumD (xs.map enc) = (enumL xs).map enc := by
  unfold enumD enumL
  rw [List.zipIdx_map, List.map_map, List.map_map]
  rfl
theorem rangeD_enc (lo : Int) (n : Nat) : rangeD lo n = (rgI lo n).map enc := by
  unfold rangeD rgI
  rw [List.map_map]
  rfl
theorem zip_enc [Enc α] [Enc γ] : ∀ (xs : List α) (ys : List γ), zipD (xs.map enc) (ys.map enc) = (xs.zip ys).map enc
  | [], _ => by simp [zipD]
  | _ :: _, [] => by simp [zipD]
  | x :: xs, y :: ys => by
    rw [List.map_cons, List.map_cons, zipD, zip_enc xs ys]
    rfl
theorem val_of {f : List Sl → Rs AV} {δ δ' : List Sl} {d : PyData} {k : PyData → List Sl → Rs γ} (h : f δ = .ok (.val d) δ') : (f δ).val k = k d δ' := by
  unfold Rs.val
  rw [h]
  rfl
theorem ip_seq [Enc α] {p : Option β} {xs : β → List α} (h : Pu (sTk f) Γ p fun v => .val (enc (xs v))) : ItP (wSeq f) Γ p fun v => (xs v).map enc := fun v e δ s => by
  unfold wSeq
  rw [val_of (h v e δ s)]
  rfl
theorem ip_seqA {p : Option PyData} (h : Pu (sTk f) Γ p fun v => .val (enc v)) : ItP (wSeq f) Γ (p.bind seqA) fun v => v.map enc := fun v e δ s => by
  obtain ⟨d, e1, e⟩ := bind_of e
  have e : seqD d = some v := e
  unfold wSeq
  rw [val_of (h d e1 δ s)]
  show (match seqD d with
    | some ds => Rs.ok ds δ
    | none => .bad) = _
  rw [e]
  show Rs.ok v δ = Rs.ok (v.map fun d => d) δ
  rw [List.map_id']
theorem ip_enum [Enc α] {p : Option β} {xs : β → List α} (h : Pu (sTk f) Γ p fun v => .val (enc (xs v))) : ItP (wEnum f) Γ p fun v => (enumL (xs v)).map enc := fun v e δ s => by
  unfold wEnum
  rw [val_of (h v e δ s)]
  exact congrArg (Rs.ok · δ) (enum_enc (xs v))
theorem ip_rng1 {p : Option Int} (h : Pu (sTk f) Γ p fun v => .val (enc v)) : ItP (wRng1 f) Γ (p.bind ri1) fun v => v.map enc := fun v e δ s => by
  obtain ⟨n, e1, e⟩ := bind_of e
  unfold ri1 at e
  split at e
  · rename_i c
    cases some_of e
    unfold wRng1
    rw [val_of (h n e1 δ s)]
    exact (if_pos c).trans (congrArg (Rs.ok · δ) (rangeD_enc _ _))
  · cases e
theorem it_rng1 {p : Option ε} {n : ε → Int} {Γ' : ε → Ga} (h : Ev (sTk f) Γ p (fun v => .val (enc (n v))) Γ') : It (wRng1 f) Γ (p.bind fun v => (ri1 (n v)).bind fun r => some (r, v)) (fun v => v.1.map enc) fun v => Γ' v.2 := fun v e δ s => by
  obtain ⟨w, e1, e⟩ := bind_of e
  obtain ⟨r, e2, e⟩ := bind_of e
  cases some_of e
  obtain ⟨δ1, h1, s1⟩ := h w e1 δ s
  refine ⟨δ1, ?_, s1⟩
  unfold ri1 at e2
  split at e2
  · rename_i c
    cases some_of e2
    unfold wRng1
    rw [val_of h1]
    exact (if_pos c).trans (congrArg (Rs.ok · δ1) (rangeD_enc _ _))
  · cases e2
theorem ip_zip [Enc α] [Enc γ] {p : Option β} {q : Option ε} {xs : β → List α} {ys : ε → List γ} (h : Pu (sTk f) Γ p fun v => .val (enc (xs v))) (h2 : Pu (sTk g) Γ q fun v => .val (enc (ys v))) : ItP (wZip f g) Γ (p.bind fun m => q.bind fun n => some ((xs m).zip (ys n))) fun v => v.map enc := fun v e δ s => by
  obtain ⟨m, e1, e⟩ := bind_of e
  obtain ⟨n, e2, e⟩ := bind_of e
  cases some_of e
  unfold wZip
  rw [val_of (h m e1 δ s), val_of (h2 n e2 δ s)]
  exact congrArg (Rs.ok · δ) (zip_enc _ _)
/-- only the slots vs change -/
def Tg (vs : List Nat) (t : AV → List Sl → Rs Unit) (Γ : Ga) (d : PyData) (Γ' : Ga) : Prop := ∀ δ, Sat Γ δ → ∃ δ', t (.val d) δ = .ok () δ' ∧ Sat Γ' δ' ∧ ((∀ (i x j : Nat), δ[i]? = some (.al x j) → x ∉ vs) → δ'.length = δ.length ∧ (∀ k, k ∉ vs → δ'[k]? = δ[k]?) ∧ ∀ (i x j : Nat), δ'[i]? = some (.al x j) → x ∉ vs)
def Tgs (vs : List Nat) (t : List PyData → List Sl → Rs Unit) (Γ : Ga) (ds : List PyData) (Γ' : Ga) : Prop := ∀ δ, Sat Γ δ → ∃ δ', t ds δ = .ok () δ' ∧ Sat Γ' δ' ∧ ((∀ (i x j : Nat), δ[i]? = some (.al x j) → x ∉ vs) → δ'.length = δ.length ∧ (∀ k, k ∉ vs → δ'[k]? = δ[k]?) ∧ ∀ (i x j : Nat), δ'[i]? = some (.al x j) → x ∉ vs)
theorem upS_keep {k : Nat} {s : Sl} {δ : List Sl} (h : ∀ (i x j : Nat), δ[i]? = some (.al x j) → x ≠ k) : upS k s δ = δ.set k s := by
  have : dropAl k δ = δ := by
    rw [dropAl_eq]
    apply List.ext_getElem?
    intro i
    rw [List.getElem?_map]
    cases q : δ[i]? with
    | none => rfl
    | some t =>
      cases t with
      | al x j =>
        show some (if x = k then Sl.no else .al x j) = _
        rw [if_neg (h i x j q)]
      | _ => rfl
  unfold upS
  rw [this]
theorem tg_n {vs : List Nat} {k : Nat} {d : PyData} (hk : k ∈ vs := by decide) : Tg vs (tgN k) Γ d (upP k (.eq (.fz d)) Γ) := fun δ s => by
  refine ⟨upS k (.fz d) δ, rfl, s.up rfl, fun h => ?_⟩
  rw [upS_keep fun i x j e z => h i x j e (by rw [z]; exact hk)]
  refine ⟨by simp, fun j hj => List.getElem?_set_ne fun z => hj (by rw [← z]; exact hk), fun i x j e => ?_⟩
  rw [List.getElem?_set] at e
  by_cases c : k = i
  · rw [if_pos c] at e
    split at e <;> cases e
  · rw [if_neg c] at e
    exact h i x j e
theorem tgs_nil {vs : List Nat} : Tgs vs tgNil Γ [] Γ := fun δ s => ⟨δ, rfl, s, fun h => ⟨rfl, fun _ _ => rfl, h⟩⟩
theorem tgs_cons {vs : List Nat} {t : AV → List Sl → Rs Unit} {u : List PyData → List Sl → Rs Unit} {d : PyData} {ds : List PyData} {Γ1 Γ2 : Ga} (h : Tg vs t Γ d Γ1) (h2 : Tgs vs u Γ1 ds Γ2) : Tgs vs (tgCons t u) Γ (d :: ds) Γ2 := fun δ s => by
  obtain ⟨δ1, e1, s1, k1⟩ := h δ s
  obtain ⟨δ2, e2, s2, k2⟩ := h2 δ1 s1
  refine ⟨δ2, ?_, s2, fun hk => ?_⟩
  · unfold tgCons
    show (t (.val d) δ).bind _ = _
    rw [e1]
    exact e2
  · obtain ⟨a1, b1, c1⟩ := k1 hk
    obtain ⟨a2, b2, c2⟩ := k2 c1
    exact ⟨a2.trans a1, fun k z => (b2 k z).trans (b1 k z), c2⟩
theorem tg_t {vs : List Nat} {n : Nat} {u : List PyData → List Sl → Rs Unit} {ds : List PyData} {Γ1 : Ga} (h : Tgs vs u Γ ds Γ1) (hn : ds.length = n := by rfl) : Tg vs (tgT n u) Γ (.tuple ds) Γ1 := fun δ s => by
  obtain ⟨δ1, e1, s1, k1⟩ := h δ s
  refine ⟨δ1, ?_, s1, k1⟩
  unfold tgT
  show (if ds.length = n then u ds δ else .bad) = _
  rw [if_pos hn]
  exact e1
def forS : List α → σ → (σ → α → Option σ) → Option σ
  | [], s, _ => some s
  | x :: r, s, b => (b s x).bind fun s' => forS r s' b
def forF : List α → σ → (σ → α → Option (Fl ρ σ)) → Option (Fl ρ σ)
  | [], s, _ => some (.nx s)
  | x :: r, s, b => (b s x).bind fun o => match o with
    | .nx s' => forF r s' b
    | .bk s' => some (.bk s')
    | .rt v => some (.rt v)
variable {A g' B : List Sl → Ot} {R : ζ → Ot → Prop} {t : AV → List Sl → Rs Unit} {w : List Sl → Rs (List PyData)}
theorem forS_ok [Enc α] {vs : List Nat} {ΓL : σ → Ga} {ΓT : σ → α → Ga} {b : σ → α → Option σ} (ht : ∀ s x, Tg vs t (ΓL s) (enc x) (ΓT s x)) (hb : ∀ s x, Bl B (ΓT s x) (b s x) (RS ΓL)) : ∀ (xs : List α) (s r : σ), forS xs s b = some r → ∀ δ, Sat (ΓL s) δ → ∃ δ', forL t B (xs.map enc) δ = .nx δ' ∧ Sat (ΓL r) δ'
  | [], s, r, e, δ, sa => by
    cases some_of e
    exact ⟨δ, rfl, sa⟩
  | x :: xs, s, r, e, δ, sa => by
    obtain ⟨s', e1, e⟩ := bind_of e
    obtain ⟨δ1, h1, s1, _⟩ := ht s x δ sa
    obtain ⟨δ2, h2, s2⟩ := hb s x s' e1 δ1 s1
    obtain ⟨δ3, h3, s3⟩ := forS_ok ht hb xs s' r e δ2 s2
    refine ⟨δ3, ?_, s3⟩
    rw [List.map_cons]
    unfold forL
    rw [h1]
    rcases h2 with h2 | h2 <;> (simp only [h2]; exact h3)
theorem bl_for [Enc α] {vs : List Nat} {p : Option ε} {xs : ε → List α} {Γ1 : ε → Ga} {s0 : ε → σ} {ΓL : ε → σ → Ga} {ΓT : ε → σ → α → Ga} {b : ε → σ → α → Option σ} {kont : ε → σ → Option ζ} (hw : It w Γ p (fun v => (xs v).map enc) Γ1) (h0 : ∀ v, GaLe (Γ1 v) (ΓL v (s0 v)))
    (ht : ∀ v s x, Tg vs t (ΓL v s) (enc x) (ΓT v s x)) (hb : ∀ v s x, Bl B (ΓT v s x) (b v s x) (RS (ΓL v))) (hg : ∀ v s, Bl g' (ΓL v s) (kont v s) R) :
    Bl (oSeq (oFor w t B) g') Γ (p.bind fun v => (forS (xs v) (s0 v) (b v)).bind (kont v)) R := fun r e δ s => by
  obtain ⟨v, e1, e⟩ := bind_of e
  obtain ⟨q, e2, e⟩ := bind_of e
  obtain ⟨δ1, h1, s1⟩ := hw v e1 δ s
  obtain ⟨δ2, h2, s2⟩ := forS_ok (ht v) (hb v) (xs v) (s0 v) q e2 δ1 (s1.wk (h0 v))
  rw [nx_of (show oFor w t B δ = .nx δ2 by unfold oFor; rw [h1]; exact h2)]
  exact hg v q r e δ2 s2
theorem forF_ok [Enc α] {vs : List Nat} {ΓL : σ → Ga} {ΓT : σ → α → Ga} {b : σ → α → Option (Fl ρ σ)} {Q : ρ → Ot → Prop} (ht : ∀ s x, Tg vs t (ΓL s) (enc x) (ΓT s x)) (hb : ∀ s x, Bl B (ΓT s x) (b s x) (RL Q ΓL ΓL)) : ∀ (xs : List α) (s : σ) (r : Fl ρ σ), forF xs s b = some r → ∀ δ, Sat (ΓL s) δ → match r with
    | .nx r => ∃ δ', forL t B (xs.map enc) δ = .nx δ' ∧ Sat (ΓL r) δ'
    | .bk r => ∃ δ', forL t B (xs.map enc) δ = .nx δ' ∧ Sat (ΓL r) δ'
    | .rt v => Q v (forL t B (xs.map enc) δ) ∧ ∃ u δ', forL t B (xs.map enc) δ = .rt u δ'
  | [], s, r, e, δ, sa => by
    cases some_of e
    exact ⟨δ, rfl, sa⟩
  | x :: xs, s, r, e, δ, sa => by
    obtain ⟨o, e1, e⟩ := bind_of e
    obtain ⟨δ1, h1, s1, _⟩ := ht s x δ sa
    have h2 := hb s x o e1 δ1 s1
    have un : forL t B ((x :: xs).map enc) δ = match B δ1 with
      | .nx δ2 => forL t B (xs.map enc) δ2
      | .ct δ2 => forL t B (xs.map enc) δ2
      | .bk δ2 => .nx δ2
      | o => o := by
      rw [List.map_cons]
      rw [forL]
      rw [h1] <;> (dsimp only <;> (cases B δ1 <;> rfl))
    rw [un]
    cases o with
    | nx s' =>
      obtain ⟨δ2, h2, s2⟩ := h2
      have := forF_ok ht hb xs s' r e δ2 s2
      rcases h2 with h2 | h2 <;> (simp only [h2]; exact this)
    | bk s' =>
      cases some_of e
      obtain ⟨δ2, h2, s2⟩ := h2
      simp only [h2]
      exact ⟨δ2, rfl, s2⟩
    | rt v =>
      cases some_of e
      obtain ⟨h3, u, δ2, h4⟩ := h2
      rw [h4] at h3
      simp only [h4]
      refine ⟨h3, u, δ2, ?_⟩
      trivial
/-- a loop that may be left -/
theorem bl_forF [Enc α] {vs : List Nat} {Q : ρ → Ot → Prop} {p : Option ε} {xs : ε → List α} {Γ1 : ε → Ga} {s0 : ε → σ} {ΓL : ε → σ → Ga} {ΓT : ε → σ → α → Ga} {b : ε → σ → α → Option (Fl ρ σ)} {kr : ρ → Option ζ} {kont : ε → σ → Option ζ} (hw : It w Γ p (fun v => (xs v).map enc) Γ1) (h0 : ∀ v, GaLe (Γ1 v) (ΓL v (s0 v)))
    (ht : ∀ v s x, Tg vs t (ΓL v s) (enc x) (ΓT v s x)) (hb : ∀ v s x, Bl B (ΓT v s x) (b v s x) (RL Q (ΓL v) (ΓL v))) (hr : ∀ v z u δ', kr v = some z → Q v (.rt u δ') → R z (.rt u δ')) (hg : ∀ v s, Bl g' (ΓL v s) (kont v s) R) :
    Bl (oSeq (oFor w t B) g') Γ (p.bind fun v => (forF (xs v) (s0 v) (b v)).bind fun o => o.el (kont v) kr) R := fun r e δ s => by
  obtain ⟨v, e1, e⟩ := bind_of e
  obtain ⟨q, e2, e⟩ := bind_of e
  obtain ⟨δ1, h1, s1⟩ := hw v e1 δ s
  have h2 := forF_ok (Q := Q) (ht v) (hb v) (xs v) (s0 v) q e2 δ1 (s1.wk (h0 v))
  have un : oFor w t B δ = forL t B ((xs v).map enc) δ1 := by unfold oFor; rw [h1]; rfl
  cases q with
  | nx s' =>
    obtain ⟨δ2, h2, s2⟩ := h2
    rw [nx_of (un.trans h2)]
    exact hg v s' r e δ2 s2
  | bk s' =>
    obtain ⟨δ2, h2, s2⟩ := h2
    rw [nx_of (un.trans h2)]
    exact hg v s' r e δ2 s2
  | rt v' =>
    obtain ⟨h3, u, δ2, h4⟩ := h2
    have : oSeq (oFor w t B) g' δ = .rt u δ2 := by
      unfold oSeq
      rw [un, h4]
    rw [this]
    exact hr v' r u δ2 e (by rw [h4] at h3; exact h3)
def whS : Nat → σ → (σ → Option Bool) → (σ → Option σ) → Option σ
  | 0, _, _, _ => none
  | n + 1, s, c, b => (c s).bind fun k => if k = true then (b s).bind fun s' => whS n s' c b else some s
theorem whS_ok {tt : List Sl → Rs Bool} {ΓL : σ → Ga} {c : σ → Option Bool} {b : σ → Option σ} (hc : ∀ s, Ts tt (ΓL s) (c s)) (hb : ∀ s, Bl B (ΓL s) (b s) (RS ΓL)) : ∀ (n : Nat) (s r : σ), whS n s c b = some r → ∀ δ, Sat (ΓL s) δ → ∃ δ', oWh tt B n δ = .nx δ' ∧ Sat (ΓL r) δ'
  | 0, _, _, e, _, _ => by cases e
  | n + 1, s, r, e, δ, sa => by
    obtain ⟨k, e1, e⟩ := bind_of e
    have h1 := hc s k e1 δ sa
    unfold oWh
    rw [h1]
    show ∃ δ', (if k = true then _ else _) = _ ∧ _
    by_cases q : k = true
    · rw [if_pos q] at e
      simp only [if_pos q]
      obtain ⟨s', e2, e⟩ := bind_of e
      obtain ⟨δ2, h2, s2⟩ := hb s s' e2 δ sa
      obtain ⟨δ3, h3, s3⟩ := whS_ok hc hb n s' r e δ2 s2
      refine ⟨δ3, ?_, s3⟩
      rcases h2 with h2 | h2 <;> (simp only [h2]; exact h3)
    · rw [if_neg q] at e
      simp only [if_neg q]
      cases some_of e
      exact ⟨δ, rfl, sa⟩
theorem bl_wh {tt : List Sl → Rs Bool} {n : Nat} {s0 : σ} {ΓL : σ → Ga} {c : σ → Option Bool} {b : σ → Option σ} {kont : σ → Option ζ} (h0 : GaLe Γ (ΓL s0)) (hc : ∀ s, Ts tt (ΓL s) (c s)) (hb : ∀ s, Bl B (ΓL s) (b s) (RS ΓL)) (hg : ∀ s, Bl g' (ΓL s) (kont s) R) : Bl (oSeq (oWh tt B n) g') Γ ((whS n s0 c b).bind kont) R := fun r e δ s => by
  obtain ⟨q, e2, e⟩ := bind_of e
  obtain ⟨δ2, h2, s2⟩ := whS_ok hc hb n s0 q e2 δ (s.wk h0)
  rw [nx_of h2]
  exact hg q r e δ2 s2
end
end Nv
namespace Nv
open PySem Hb L2
open Enc (enc)
def calmE (vs : List Nat) : Pt → Bool
  | .aa => false
  | .eq (.al x _) => !vs.contains x
  | _ => true
def calm (vs : List Nat) (Γ : Ga) : Bool := Γ.all (calmE vs)
theorem calm_ok {vs : List Nat} {Γ : Ga} {δ : List Sl} (h : calm vs Γ = true) (s : Sat Γ δ) : ∀ (i x j : Nat), δ[i]? = some (.al x j) → x ∉ vs := by
  induction s with
  | nil => intro i x j e; simp at e
  | @cons p t Γ δ h1 _ ih =>
    have h : (calmE vs p && calm vs Γ) = true := h
    rw [Bool.and_eq_true] at h
    intro i x j e
    cases i with
    | zero =>
      simp at e
      subst e
      cases p with
      | aa => cases h.1
      | any => cases h1
      | pl => cases h1
      | tr d => rcases h1 with ⟨_, ds, z⟩ | z <;> cases z
      | ts d => rcases h1 with ⟨_, ds, z⟩ | ⟨z, _⟩ <;> cases z
      | eq u =>
        cases (show Sl.al x j = u from h1)
        have : (!vs.contains x) = true := h.1
        simpa using this
    | succ i => exact ih h.2 i x j (by simpa using e)
def plP : Pt → Bool
  | .pl => true
  | .eq .no => true
  | .eq (.fz _) => true
  | _ => false
theorem plP_ok {p : Pt} {s : Sl} (h : plP p = true) (hs : p.Ok s) : plainS (some s) = true := by
  cases p with
  | pl => exact hs
  | eq t =>
    cases (show s = t from hs)
    cases s <;> first | rfl | cases h
  | _ => cases h
def okP (vs : List Nat) (Γ : Ga) : Bool := vs.all fun v => match Γ[v]? with
  | some p => plP p
  | none => false
theorem okP_ok {vs : List Nat} {Γ : Ga} {δ : List Sl} (h : okP vs Γ = true) (s : Sat Γ δ) : okW vs δ = true := by
  unfold okW
  unfold okP at h
  rw [List.all_eq_true] at h ⊢
  intro v hv
  have := h v hv
  cases q : Γ[v]? with
  | none => rw [q] at this; cases this
  | some p =>
    rw [q] at this
    obtain ⟨t, e1, e2⟩ := s.get q
    rw [e1]
    exact plP_ok this e2
def wipeP (vs : List Nat) (Γ : Ga) : Ga := vs.foldr (fun v Γ => Γ.set v (.eq .no)) Γ
theorem wipeP_ok {Γ : Ga} {δ : List Sl} (s : Sat Γ δ) : ∀ vs : List Nat, Sat (wipeP vs Γ) (wipeD vs δ)
  | [] => s
  | v :: vs => (wipeP_ok s vs).set (p := .eq .no) rfl v
theorem wipe_len (δ : List Sl) : ∀ vs : List Nat, (wipeD vs δ).length = δ.length
  | [] => rfl
  | v :: vs => by
    show ((wipeD vs δ).set v .no).length = _
    rw [List.length_set, wipe_len δ vs]
theorem wipe_get (δ : List Sl) : ∀ (vs : List Nat) {k : Nat}, k ∉ vs → (wipeD vs δ)[k]? = δ[k]?
  | [], _, _ => rfl
  | v :: vs, k, h => by
    show ((wipeD vs δ).set v .no)[k]? = _
    rw [List.getElem?_set_ne (fun z => h (by rw [z]; exact List.mem_cons_self)), wipe_get δ vs fun z => h (List.mem_cons_of_mem _ z)]
theorem wipe_al {δ : List Sl} {P : Nat → Prop} (h : ∀ (i x j : Nat), δ[i]? = some (.al x j) → P x) : ∀ (vs : List Nat) (i x j : Nat), (wipeD vs δ)[i]? = some (.al x j) → P x
  | [], i, x, j, e => h i x j e
  | v :: vs, i, x, j, e => by
    have e : ((wipeD vs δ).set v .no)[i]? = some (.al x j) := e
    rw [List.getElem?_set] at e
    by_cases c : v = i
    · rw [if_pos c] at e
      split at e <;> cases e
    · rw [if_neg c] at e
      exact wipe_al h vs i x j e
/-- nothing but the block's own slots changed -/
theorem unw_id {vs : List Nat} {δ δ1 : List Sl} (hl : δ1.length = δ.length) (hk : ∀ k, k ∉ vs → δ1[k]? = δ[k]?) (ha : ∀ (i x j : Nat), δ1[i]? = some (.al x j) → x ∉ vs) (hw : okW vs δ = true) : unw vs δ δ1 = δ := by
  have key : ∀ us : List Nat, (∀ u ∈ us, u ∈ vs) → (unw us δ δ1).length = δ.length ∧ (∀ k, (k ∉ vs ∨ k ∈ us) → (unw us δ δ1)[k]? = δ[k]?) ∧ ∀ (i x j : Nat), (unw us δ δ1)[i]? = some (.al x j) → x ∉ vs := by
    intro us
    induction us with
    | nil => exact fun _ => ⟨hl, fun k h => h.elim (hk k) (fun z => nomatch z), ha⟩
    | cons u us ih =>
      intro hu
      obtain ⟨a, b, c⟩ := ih fun w hw => hu w (List.mem_cons_of_mem _ hw)
      have huv := hu u List.mem_cons_self
      have e : unw (u :: us) δ δ1 = (unw us δ δ1).set u (δ[u]?.getD .no) := upS_keep fun i x j e z => c i x j e (by rw [z]; exact huv)
      rw [e]
      have hp : plainS δ[u]? = true := List.all_eq_true.mp hw u huv
      refine ⟨by rw [List.length_set, a], fun k h => ?_, fun i x j q => ?_⟩
      · by_cases z : u = k
        · subst z
          rw [List.getElem?_set]
          rw [if_pos rfl]
          cases q : δ[u]? with
          | none => rw [q] at hp; cases hp
          | some t =>
            have : u < δ.length := (List.getElem?_eq_some_iff.mp q).1
            rw [if_pos (by rw [a]; exact this)]
            rfl
        · rw [List.getElem?_set_ne z]
          exact b k (h.imp id fun m => (List.mem_cons.mp m).elim (fun m => absurd m.symm z) id)
      · rw [List.getElem?_set] at q
        by_cases z : u = i
        · rw [if_pos z] at q
          split at q
          · cases q2 : δ[u]? with
            | none => rw [q2] at hp; cases hp
            | some t =>
              rw [q2] at q hp
              have : t = .al x j := Option.some.inj q
              subst this
              cases hp
          · cases q
        · rw [if_neg z] at q
          exact c i x j q
  obtain ⟨_, b, _⟩ := key vs fun _ h => h
  apply List.ext_getElem?
  intro k
  exact b k (if h : k ∈ vs then .inr h else .inl h)
section
variable {α β γ ε ζ ρ σ : Type} {Γ : Ga} {f : List Sl → Rs AV} {t : AV → List Sl → Rs Unit} {tt : List Sl → Rs Bool} {w : List Sl → Rs (List PyData)} {vs : List Nat}
def mapF : List α → (α → Option Bool) → (α → Option γ) → Option (List γ)
  | [], _, _ => some []
  | x :: r, c, g => (c x).bind fun b => if b = true then (g x).bind fun y => (mapF r c g).bind fun ys => some (y :: ys) else mapF r c g
/-- each item once, no test -/
def mapP : List α → (α → Option γ) → Option (List γ)
  | [], _ => some []
  | x :: r, g => (g x).bind fun y => (mapP r g).bind fun ys => some (y :: ys)
theorem lcF [Enc α] {W : Bool} {a : γ → AV} {el : γ → El} (hel : ∀ y, elOf W (a y) = some (el y)) {ΓT : α → Ga} {pt : α → Option Bool} {pe : α → Option γ} (hok : okP vs Γ = true) (hc : calm vs Γ = true) (ht : ∀ x, Tg vs t (wipeP vs Γ) (enc x) (ΓT x)) (htt : ∀ x, Ts tt (ΓT x) (pt x)) (hf : ∀ x, Pu f (ΓT x) (pe x) a) :
    ∀ (xs : List α) (es : List El) (ys : List γ), mapF xs pt pe = some ys → es.length + xs.length ≤ cap → ∀ δ, Sat Γ δ → lcL W vs t tt f (xs.map enc) es δ = .ok (es ++ ys.map el) δ
  | [], es, ys, e, _, δ, _ => by
    cases some_of e
    simp [lcL]
  | x :: xs, es, ys, e, hl, δ, s => by
    obtain ⟨b, e1, e⟩ := bind_of e
    have hw := okP_ok hok s
    have hal := calm_ok hc s
    obtain ⟨δ1, h1, s1, k1⟩ := ht x (wipeD vs δ) (wipeP_ok s vs)
    obtain ⟨a1, b1, c1⟩ := k1 (wipe_al hal vs)
    have un : unw vs δ δ1 = δ := unw_id (by rw [a1, wipe_len]) (fun k hk => by rw [b1 k hk, wipe_get δ vs hk]) c1 hw
    have h2 := htt x b e1 δ1 s1
    rw [List.map_cons]
    simp only [List.length_cons] at hl
    unfold lcL
    rw [if_pos hw, h1]
    simp only [h2]
    cases b with
    | false =>
      rw [if_neg Bool.false_ne_true, un]
      exact lcF hel hok hc ht htt hf xs es ys (by simpa using e) (by omega) δ s
    | true =>
      rw [if_pos rfl] at e
      obtain ⟨y, e2, e⟩ := bind_of e
      obtain ⟨zs, e3, e⟩ := bind_of e
      cases some_of e
      have h3 := hf x y e2 δ1 s1
      simp only [if_true, h3, hel]
      rw [if_pos (by omega), un, lcF hel hok hc ht htt hf xs (es ++ [el y]) zs e3 (by simp; omega) δ s]
      simp
theorem el_val [Enc γ] {W : Bool} : ∀ y : γ, elOf W (.val (enc y)) = some (.fz (enc y)) := fun _ => rfl
theorem ow_els [Enc γ] (ys : List γ) : Sl.ol ([] ++ ys.map fun y => El.fz (enc y)) = ow ys := by
  unfold ow
  rw [List.nil_append, List.map_map]
  rfl
theorem pu_lc [Enc α] [Enc γ] {p : Option β} {xs : β → List α} {ΓT : β → α → Ga} {pt : β → α → Option Bool} {pe : β → α → Option γ} (hw : ItP w Γ p fun v => (xs v).map enc) (hok : okP vs Γ = true) (hc : calm vs Γ = true) (ht : ∀ v x, Tg vs t (wipeP vs Γ) (enc x) (ΓT v x)) (htt : ∀ v x, Ts tt (ΓT v x) (pt v x)) (hf : ∀ v x, Pu f (ΓT v x) (pe v x) fun y => .val (enc y)) :
    Pu (sLc false w vs t tt f) Γ (p.bind fun v => if (xs v).length ≤ cap then mapF (xs v) (pt v) (pe v) else none) fun r => .tmp (ow r) := fun r e δ s => by
  obtain ⟨v, e1, e⟩ := bind_of e
  by_cases c : (xs v).length ≤ cap
  · rw [if_pos c] at e
    unfold sLc
    rw [hw v e1 δ s]
    show (lcL false vs t tt f ((xs v).map enc) [] δ).bind _ = _
    rw [lcF el_val hok hc (ht v) (htt v) (hf v) (xs v) [] r e (by simpa using c) δ s]
    exact congrArg (fun z => Rs.ok (AV.tmp z) δ) (ow_els r)
  · rw [if_neg c] at e
    cases e
def mapE : List α → σ → (σ → α → Option (γ × σ)) → Option (List γ × σ)
  | [], s, _ => some ([], s)
  | x :: r, s, g => (g s x).bind fun y => (mapE r y.2 g).bind fun z => some (y.1 :: z.1, z.2)
def unwP (vs : List Nat) (Γ Γ' : Ga) : Ga := vs.foldr (fun v Γ' => upP v ((Γ[v]?).getD .aa) Γ') Γ'
theorem unwP_ok {Γ Γ' : Ga} {δ δ' : List Sl} (s : Sat Γ δ) (s' : Sat Γ' δ') : ∀ vs : List Nat, Sat (unwP vs Γ Γ') (unw vs δ δ')
  | [] => s'
  | v :: vs => by
    refine (unwP_ok s s' vs).up ?_
    cases q : Γ[v]? with
    | none => trivial
    | some p =>
      obtain ⟨t, e1, e2⟩ := s.get q
      rw [e1]
      exact e2
theorem lcE [Enc α] {W : Bool} {a : γ → AV} {el : γ → El} (hel : ∀ y, elOf W (a y) = some (el y)) {ΓL : σ → Ga} {ΓT : σ → α → Ga} {Γ2 : σ → α → γ × σ → Ga} {pe : σ → α → Option (γ × σ)} (hok : ∀ s, okP vs (ΓL s) = true) (ht : ∀ s x, Tg vs t (wipeP vs (ΓL s)) (enc x) (ΓT s x)) (htt : ∀ s x, Ts tt (ΓT s x) (some true)) (hf : ∀ s x, Ev f (ΓT s x) (pe s x) (fun y => a y.1) (Γ2 s x)) (hz : ∀ s x y, GaLe (unwP vs (ΓL s) (Γ2 s x y)) (ΓL y.2)) :
    ∀ (xs : List α) (es : List El) (s : σ) (r : List γ × σ), mapE xs s pe = some r → es.length + xs.length ≤ cap → ∀ δ, Sat (ΓL s) δ → ∃ δ', lcL W vs t tt f (xs.map enc) es δ = .ok (es ++ r.1.map el) δ' ∧ Sat (ΓL r.2) δ'
  | [], es, s, r, e, _, δ, sa => by
    cases some_of e
    exact ⟨δ, by simp [lcL], sa⟩
  | x :: xs, es, s, r, e, hl, δ, sa => by
    obtain ⟨y, e1, e⟩ := bind_of e
    obtain ⟨z, e2, e⟩ := bind_of e
    cases some_of e
    have hw := okP_ok (hok s) sa
    obtain ⟨δ1, h1, s1, _⟩ := ht s x (wipeD vs δ) (wipeP_ok sa vs)
    have h2 := htt s x true rfl δ1 s1
    obtain ⟨δ2, h3, s2⟩ := hf s x y e1 δ1 s1
    simp only [List.length_cons] at hl
    obtain ⟨δ3, h4, s3⟩ := lcE hel hok ht htt hf hz xs (es ++ [el y.1]) y.2 z e2 (by simp; omega) (unw vs δ δ2) ((unwP_ok sa s2 vs).wk (hz s x y))
    refine ⟨δ3, ?_, s3⟩
    rw [List.map_cons]
    unfold lcL
    rw [if_pos hw, h1]
    simp only [h2, if_true, h3, hel]
    rw [if_pos (by omega), h4]
    simp
theorem ev_lc [Enc α] [Enc γ] {p : Option β} {xs : β → List α} {Γ1 : β → Ga} {s0 : β → σ} {ΓL : β → σ → Ga} {ΓT : β → σ → α → Ga} {Γ2 : β → σ → α → γ × σ → Ga} {pe : β → σ → α → Option (γ × σ)} (hw : It w Γ p (fun v => (xs v).map enc) Γ1) (h0 : ∀ v, GaLe (Γ1 v) (ΓL v (s0 v))) (hok : ∀ v s, okP vs (ΓL v s) = true) (ht : ∀ v s x, Tg vs t (wipeP vs (ΓL v s)) (enc x) (ΓT v s x)) (htt : ∀ v s x, Ts tt (ΓT v s x) (some true)) (hf : ∀ v s x, Ev f (ΓT v s x) (pe v s x) (fun y => .val (enc y.1)) (Γ2 v s x)) (hz : ∀ v s x y, GaLe (unwP vs (ΓL v s) (Γ2 v s x y)) (ΓL v y.2)) :
    Ev (sLc false w vs t tt f) Γ (p.bind fun v => if (xs v).length ≤ cap then (mapE (xs v) (s0 v) (pe v)).bind fun r => some (r, v) else none) (fun r => .tmp (ow r.1.1)) (fun r => ΓL r.2 r.1.2) := fun r e δ s => by
  obtain ⟨v, e1, e⟩ := bind_of e
  by_cases c : (xs v).length ≤ cap
  · rw [if_pos c] at e
    obtain ⟨q, e2, e⟩ := bind_of e
    cases some_of e
    obtain ⟨δ1, h1, s1⟩ := hw v e1 δ s
    obtain ⟨δ2, h2, s2⟩ := lcE el_val (hok v) (ht v) (htt v) (hf v) (hz v) (xs v) [] (s0 v) q e2 (by simpa using c) δ1 (s1.wk (h0 v))
    refine ⟨δ2, ?_, s2⟩
    unfold sLc
    rw [h1]
    show (lcL false vs t tt f ((xs v).map enc) [] δ1).bind _ = _
    rw [h2]
    exact congrArg (fun z => Rs.ok (AV.tmp z) δ2) (ow_els q.1)
  · rw [if_neg c] at e
    cases e
end
section
variable {ρ : Type} {B : List Sl → Ot}
theorem sat_eqs : ∀ ss : List Sl, Sat (ss.map .eq) ss
  | [] => .nil
  | s :: r => .cons rfl (sat_eqs r)
/-- what pinned slots hold behind -/
def outsP (n : Nat) (pin : List Nat) (Γ : Ga) : Option (List Sl) := (List.range n).mapM fun i => if i ∈ pin then (match Γ[i]? with
  | some (.eq s) => some (noAl s)
  | _ => none) else some .no
theorem outsP_ok {n : Nat} {pin : List Nat} {Γ : Ga} {δ o : List Sl} (h : outsP n pin Γ = some o) (s : Sat Γ δ) : outs n pin δ = o := by
  unfold outsP at h
  unfold outs
  generalize List.range n = l at h
  induction l generalizing o with
  | nil => cases h; rfl
  | cons i r ih =>
    rw [List.mapM_cons] at h
    obtain ⟨x, e1, h⟩ := bind_of h
    obtain ⟨y, e2, h⟩ := bind_of h
    cases some_of h
    rw [List.map_cons, ih e2]
    congr 1
    by_cases c : i ∈ pin
    · rw [if_pos c] at e1 ⊢
      cases q : Γ[i]? with
      | none => rw [q] at e1; cases e1
      | some p =>
        rw [q] at e1
        cases p with
        | eq t =>
          cases some_of e1
          rw [s.at_ q]
          rfl
        | _ => cases e1
    · rw [if_neg c] at e1 ⊢
      exact (some_of e1).symm
theorem fun_of {n m : Nat} {pin : List Nat} {p : Option ρ} {ins : List Sl} {ret : ρ → Sl} {ΓR : ρ → Ga} {out : ρ → List Sl} (h : Bl B ((ins ++ List.replicate (m - n) Sl.no).map Pt.eq) p (RF (fun r => .eq (ret r)) ΓR)) (ho : ∀ r, outsP n pin (ΓR r) = some (out r) := by intro _; rfl) : Fun (fnRun n m pin B) p ins ret out := fun r e => by
  obtain ⟨s, δ', h1, h2, h3⟩ := h r e _ (sat_eqs _)
  cases (show s = ret r from h2)
  have ho := outsP_ok (ho r) h3
  unfold fnRun
  rcases h1 with h1 | ⟨h1, h4⟩
  · simp only [h1, ho]
  · simp only [h1, ho, h4]
end
theorem rf_eq {ρ : Type} {ret : ρ → Pt} {ΓR : ρ → Ga} {r : ρ} {s : Sl} {Γ : Ga} (h : (ret r).Ok s) (l : GaLe Γ (ΓR r)) : ∀ δ', Sat Γ δ' → RF ret ΓR r (.rt s δ') := fun δ' sa => ⟨s, δ', .inl rfl, h, sa.wk l⟩
theorem rf_nx {ρ : Type} {ret : ρ → Pt} {ΓR : ρ → Ga} {r : ρ} {Γ : Ga} (h : (ret r).Ok (.fz .none)) (l : GaLe Γ (ΓR r)) : ∀ δ', Sat Γ δ' → RF ret ΓR r (.nx δ') := fun δ' sa => ⟨.fz .none, δ', .inr ⟨rfl, rfl⟩, h, sa.wk l⟩
theorem rs_nx {σ : Type} {ΓS : σ → Ga} {r : σ} {Γ : Ga} (l : GaLe Γ (ΓS r)) : ∀ δ', Sat Γ δ' → RS ΓS r (.nx δ') := fun δ' sa => ⟨δ', .inl rfl, sa.wk l⟩
theorem rl_nx {ρ σ : Type} {Q : ρ → Ot → Prop} {ΓS ΓB : σ → Ga} {r : σ} {Γ : Ga} (l : GaLe Γ (ΓS r)) : ∀ δ', Sat Γ δ' → RL Q ΓS ΓB (.nx r) (.nx δ') := fun δ' sa => ⟨δ', .inl rfl, sa.wk l⟩
theorem rl_rt {ρ σ : Type} {Q : ρ → Ot → Prop} {ΓS ΓB : σ → Ga} {r : ρ} {Γ : Ga} {s : Sl} (h : ∀ δ', Sat Γ δ' → Q r (.rt s δ')) : ∀ δ', Sat Γ δ' → RL Q ΓS ΓB (.rt r) (.rt s δ') := fun δ' sa => ⟨h δ' sa, s, δ', rfl⟩
end Nv
namespace Nv
open PySem Hb L2
open Enc (enc)
section
variable {α β γ ε ζ : Type} [Enc α] [Enc β] {Γ : Ga} {fa fb : List Sl → Rs AV} {g : AV → AV → List Sl → Rs AV} {h : AV → List Sl → Rs AV} {op : α → β → Option γ} {op1 : α → Option γ} {a : γ → AV}
/-- with effects -/
theorem ev2g (o : Op2 g op a) {pa : Option ε} {va : ε → α} {Γ1 : ε → Ga} {pb : ε → Option ζ} {vb : ε → ζ → β} {Γ2 : ε → ζ → Ga} (ha : Er fa Γ pa (fun x => enc (va x)) Γ1) (hb : ∀ x, Es fb (Γ1 x) (pb x) (fun y => enc (vb x y)) (Γ2 x)) :
    Ev (s2 g fa fb) Γ (pa.bind fun x => (pb x).bind fun y => (op (va x) (vb x y)).bind fun r => some (r, x, y)) (fun r => a r.1) (fun r => Γ2 r.2.1 r.2.2) := fun r e δ s => by
  obtain ⟨v, e1, e⟩ := bind_of e
  obtain ⟨w, e2, e⟩ := bind_of e
  obtain ⟨z, q, e⟩ := bind_of e
  cases some_of e
  obtain ⟨δ1, h1, s1⟩ := ha v e1 δ s
  obtain ⟨y, δ2, k1, k2, k3, s2⟩ := hb v w e2 δ1 s1
  refine ⟨δ2, ?_, s2⟩
  unfold Hb.s2
  rw [h1]
  show (sSt fb δ1).bind _ = _
  rw [k1]
  exact o (va v) (vb v w) z δ2 (.val (enc (va v))) y rfl rfl k2 k3 q
/-- nothing given: a statement whose value is None -/
theorem Ts.te' {t : List Sl → Rs Bool} {p : Option Bool} (h : Ts t Γ p) : Te t Γ p (fun v => v) fun _ => Γ := fun v e δ s => ⟨δ, h v e δ s, s⟩
/-- one whose value is read off (a test's value) -/
theorem pu_none : Pu (sC .none) Γ (some ()) fun v => .val (enc v) := fun v e δ _ => rfl
end
/-- a pure list display without items -/
theorem pu_nil {α : Type} [Enc α] {Γ : Ga} : Pu (sLst lNil) Γ (some ([] : List α)) fun r => .tmp (ow r) := fun v e δ _ => by
  cases some_of e
  rfl
theorem pu_nilw {Γ : Ga} {α : Type} [Enc α] : Pu (sLst lNil) Γ (some ([] : List (List α))) fun r => .tmp (oww r) := fun v e δ _ => by
  cases some_of e
  rfl
section
variable {α β γ ε ζ ρ σ : Type} {Γ : Ga} {f fa fb : List Sl → Rs AV} {t : List Sl → Rs Bool}
/-- the same tree in another type -/
theorem pu_co [Enc α] [Enc β] (u : α → β) {p : Option α} (h : Pu f Γ p fun v => .val (enc v)) (hu : ∀ x, enc (u x) = enc x := by intro _; rfl) : Pu f Γ (p.bind fun x => some (u x)) fun v => .val (enc v) := fun r e δ s => by
  obtain ⟨v, e1, e⟩ := bind_of e
  cases some_of e
  show _ = Rs.ok (AV.val (enc (u v))) δ
  rw [hu]
  exact h v e1 δ s
def asIntA : PyData → Option Int
  | .int i => some i
  | _ => none
theorem _root_.Nv.Pu.asI {p : Option PyData} (hh : Pu f Γ p fun v => .val (enc v)) : Pu f Γ (p.bind fun d => asIntA d) fun v => .val (enc v) := fun r e δ s => by
  obtain ⟨v, e1, e⟩ := bind_of e
  cases v with
  | int i => cases some_of e; exact hh _ e1 δ s
  | _ => cases e
theorem _root_.Nv.Pu.un [Enc α] {p : Option (Option α)} (hh : Pu f Γ p fun v => .val (enc v)) : Pu f Γ (p.bind fun d => d) fun v : α => .val (enc v) := fun r e δ s => by
  obtain ⟨v, e1, e⟩ := bind_of e
  subst e
  exact hh _ e1 δ s
theorem _root_.Nv.Pu.any [Enc α] {p : Option α} (hh : Pu f Γ p fun v => .val (enc v)) : Pu f Γ (p.bind fun d => some (enc d)) fun v : PyData => .val (enc v) := fun r e δ s => by
  obtain ⟨v, e1, e⟩ := bind_of e
  cases some_of e
  exact hh _ e1 δ s
theorem bl_asgG {vs : List Nat} {tg : AV → List Sl → Rs Unit} {g : List Sl → Ot} {R : ζ → Ot → Prop} {p : Option ε} {d : ε → PyData} {Γ1 Γ2 : ε → Ga} {kont : ε → Option ζ} (h : Ev f Γ p (fun v => .val (d v)) Γ1) (ht : ∀ v, Tg vs tg (Γ1 v) (d v) (Γ2 v)) (k2 : ∀ v, Bl g (Γ2 v) (kont v) R) : Bl (oSeq (oAsg f tg) g) Γ (p.bind kont) R := fun r e δ s => by
  obtain ⟨v, e1, e⟩ := bind_of e
  obtain ⟨δ1, h1, s1⟩ := h v e1 δ s
  obtain ⟨δ2, h2, s2, _⟩ := ht v δ1 s1
  rw [nx_of (show oAsg f tg δ = .nx δ2 by
    unfold oAsg
    rw [h1]
    show (tg (.val (d v)) δ1).otU = _
    rw [h2]
    rfl)]
  exact k2 v r e _ s2
end
theorem Ev.mapW {ε ζ : Type} {f : List Sl → Rs AV} {Γ : Ga} {p : Option ε} {aa : ε → AV} {Γ1 : ε → Ga} {bb : ζ → AV} {Γ2 : ζ → Ga} (k : ε → ζ) (hh : Ev f Γ p aa Γ1) (h2 : ∀ x, GaLe (Γ1 x) (Γ2 (k x))) (h1 : ∀ x, bb (k x) = aa x := by intro _; rfl) : Ev f Γ (p.bind fun x => some (k x)) bb Γ2 := fun r e δ s => by
  obtain ⟨v, e1, e⟩ := bind_of e
  cases some_of e
  obtain ⟨δ', q1, q2⟩ := hh v e1 δ s
  exact ⟨δ', by rw [h1]; exact q1, q2.wk (h2 v)⟩
end Nv
namespace Nv
open PySem Hb L2
open Enc (enc)
section
variable {β ζ : Type} {Γ : Ga}
theorem bl_ga {f : List Sl → Ot} {p : Option ζ} {R : ζ → Ot → Prop} (Δ : Ga) (h : Γ = Δ) (k : Bl f Δ p R) : Bl f Γ p R := by subst h; exact k
theorem pu_ga {f : List Sl → Rs AV} {p : Option β} {a : β → AV} (Δ : Ga) (h : Γ = Δ) (k : Pu f Δ p a) : Pu f Γ p a := by subst h; exact k
theorem ts_ga {f : List Sl → Rs Bool} {p : Option Bool} (Δ : Ga) (h : Γ = Δ) (k : Ts f Δ p) : Ts f Γ p := by subst h; exact k
theorem ev_ga {f : List Sl → Rs AV} {p : Option β} {a : β → AV} {Γ' : β → Ga} (Δ : Ga) (h : Γ = Δ) (q : Ev f Δ p a Γ') : Ev f Γ p a Γ' := by subst h; exact q
theorem es_ga {f : List Sl → Rs AV} {p : Option β} {d : β → PyData} {Γ' : β → Ga} (Δ : Ga) (h : Γ = Δ) (q : Es f Δ p d Γ') : Es f Γ p d Γ' := by subst h; exact q
theorem ag_ga {g : List Sl → Rs (List Ar)} {p : Option β} {as : β → List Ar} {Γ' : β → Ga} (Δ : Ga) (h : Γ = Δ) (q : Ag g Δ p as Γ') : Ag g Γ p as Γ' := by subst h; exact q
theorem dl_ga {g : List Sl → Rs (List PyData)} {p : Option β} {ds : β → List PyData} {Γ' : β → Ga} (Δ : Ga) (h : Γ = Δ) (q : Dl g Δ p ds Γ') : Dl g Γ p ds Γ' := by subst h; exact q
theorem sat_ga {Q : List Sl → Prop} (Δ : Ga) (h : Γ = Δ) (k : ∀ δ', Sat Δ δ' → Q δ') : ∀ δ', Sat Γ δ' → Q δ' := by subst h; exact k
theorem gale_ga {Γ0 : Ga} (Δ : Ga) (h : Γ = Δ) (k : GaLe Δ Γ0) : GaLe Γ Γ0 := by subst h; exact k
end
end Nv
namespace Nv
open PySem Hb L2
open Enc (enc)
end Nv
namespace Hb
open PySem PySem.Spec PyProof.Rows L2
section
variable {X : Cx} {pins : List (Addr × Obj)} {σ : L2.St} {H : Hp} {s : Shared}
mutual
def noDic : PyData → Bool
  | .list xs => noDics xs
  | .tuple xs => noDics xs
  | .dict _ => false
  | _ => true
def noDics : List PyData → Bool
  | [] => true
  | x :: r => noDic x && noDics r
end
mutual
theorem reads_of (I : Inv X pins σ H s) : ∀ {v : V} {d : PyData} {u : Value}, Rp X.K H v d → RelV v u → noDic d = true → ∃ as, Reads s.heap u d as
  | _, _, _, .non, e, _ => by
    obtain rfl : _ = Value.none := e
    exact ⟨_, .none⟩
  | _, _, _, .bl b, e, _ => by
    obtain rfl : _ = Value.bool b := e
    exact ⟨_, .bool b⟩
  | _, _, _, .int i, e, _ => by
    obtain ⟨t, rfl⟩ := e
    exact ⟨_, .int i t⟩
  | _, _, _, .str x, e, _ => by
    obtain ⟨t, rfl⟩ := e
    exact ⟨_, .str x t⟩
  | _, _, _, .lst (ds := ds) h1 h2, e, hs => by
    obtain rfl : _ = Value.ref _ := e
    obtain ⟨its, n, r, e, _⟩ := inv_lstX I h1
    obtain ⟨as, q⟩ := readsAll_of I h2 r (by simpa [noDic] using hs)
    exact ⟨_, .list e rfl rfl (by simpa using q)⟩
  | _, _, _, .tup (ds := ds) h1 h2, e, hs => by
    obtain rfl : _ = Value.ref _ := e
    obtain ⟨its, r, ⟨o, e, hc, n, hd⟩, _⟩ := I.tuple (SqT.of h1)
    obtain ⟨as, q⟩ := readsAll_of I h2 r (by simpa [noDic] using hs)
    exact ⟨_, .tuple e hc hd (by simpa using q)⟩
  | _, _, _, .dK h1 h2, _, hs => by simp [noDic] at hs
  | _, _, _, .dT h1 h2, _, hs => by simp [noDic] at hs
theorem readsAll_of (I : Inv X pins σ H s) : ∀ {vs : List V} {ds : List PyData} {us : List Value}, RpL X.K H vs ds → Vals vs us → noDics ds = true → ∃ as, ReadsAll s.heap us ds as
  | _, _, _, .nil, r, _ => by
    cases r
    exact ⟨_, .nil⟩
  | _, _, _, .cons (d := d) (ds := ds) h t, r, hs => by
    cases r with
    | cons r1 r2 =>
      have hs2 : noDic d = true ∧ noDics ds = true := by simpa [noDics] using hs
      obtain ⟨a1, q1⟩ := reads_of I h r1 hs2.1
      obtain ⟨a2, q2⟩ := readsAll_of I t r2 hs2.2
      exact ⟨_, .cons q1 q2⟩
end
end
def isT1 : PyData → Bool
  | .tuple (_ :: _) => true
  | _ => false
def isNT : PyData → Bool
  | .none => false
  | .tuple _ => false
  | _ => true
def sortOk (ds : List PyData) : Bool := (ds.all fun d => ds.all fun e => PySem.W.alike d e) && (ds.all isT1 || ds.all isNT) && ds.all (fun d => decide (d.depth ≤ 60)) && noDics ds && decide (ds.length ≤ cap)
theorem sortOk_ok {ds : List PyData} (h : sortOk ds = true) : PySem.W.AllAlike ds ∧ PySem.W.Sortable ds ∧ (∀ d ∈ ds, d.depth ≤ 60) ∧ noDics ds = true ∧ ds.length ≤ cap := by
  unfold sortOk at h
  simp only [Bool.and_eq_true, Bool.or_eq_true, List.all_eq_true, decide_eq_true_eq] at h
  obtain ⟨⟨⟨⟨h1, h2⟩, h3⟩, h4⟩, h5⟩ := h
  refine ⟨fun d hd e he => h1 d hd e he, ?_, h3, h4, h5⟩
  rcases h2 with h2 | h2
  · refine .inl fun d hd => ?_
    have := h2 d hd
    cases d with
    | tuple xs =>
      cases xs with
      | nil => cases this
      | cons x r => exact ⟨x, r, rfl⟩
    | _ => cases this
  · refine .inr fun d hd => ?_
    have := h2 d hd
    exact ⟨fun z => (by rw [z] at this; cases this), fun xs z => (by rw [z] at this; cases this)⟩
def rSortedD (K : PySem.W.Frag) : List V → Hp → VK → Prop := fun vs H Q => ∃ (a : Addr) (bs : List (V × PyData)), vs = [V.ref a] ∧ SqX K H a (bs.map Prod.fst) ∧ (∀ p ∈ bs, Rp K H p.1 p.2) ∧ sortOk (bs.map Prod.snd) = true ∧
  ∀ p, H p = none → Q (.ref p) (upd H p (.lst ((bs.mergeSort (PySem.W.dataLe false Prod.snd)).map Prod.fst)))
theorem vals_each : ∀ {bs : List (V × PyData)} {us : List Value}, Vals (bs.map Prod.fst) us → PySem.W.EachIs (fun (u : Value) (p : V × PyData) => RelV p.1 u) us bs
  | [], _, .nil => .nil
  | p :: bs, _, .cons h t => .cons h (vals_each t)
theorem each_vals : ∀ {bs : List (V × PyData)} {us : List Value}, PySem.W.EachIs (fun (u : Value) (p : V × PyData) => RelV p.1 u) us bs → Vals (bs.map Prod.fst) us
  | _, _, .nil => .nil
  | _, _, .cons h t => .cons h (each_vals t)
theorem each_mem {R : Value → V × PyData → Prop} : ∀ {us : List Value} {bs : List (V × PyData)}, PySem.W.EachIs R us bs → PySem.W.EachIs (fun u p => R u p ∧ p ∈ bs) us bs
  | _, _, .nil => .nil
  | _, _, .cons h t => .cons ⟨h, List.mem_cons_self⟩ ((each_mem t).mono fun _ _ ⟨a, b⟩ => ⟨a, List.mem_cons_of_mem _ b⟩)
theorem noDics_mem : ∀ {ds : List PyData}, noDics ds = true → ∀ d ∈ ds, noDic d = true
  | [], _, _, h => by cases h
  | x :: r, h, d, hd => by
    have h : (noDic x && noDics r) = true := h
    rw [Bool.and_eq_true] at h
    rcases List.mem_cons.mp hd with e | e
    · rw [e]; exact h.1
    · exact noDics_mem h.2 d e
theorem cr_sortedD {X : Cx} (hu : X.A.units + 64 < cLine) : CallR X (.builtin "sorted") (rSortedD X.K) := by
  intro pins s σ H vs us Q I r h
  obtain ⟨a, bs, rfl, hX, hr, ok, q⟩ := h
  obtain ⟨h1, h2, h3, h4, h5⟩ := sortOk_ok ok
  obtain ⟨its, n, rv, e, hz⟩ := inv_lstX I hX
  rw [Vals.ref1 r]
  have ev := vals_each rv
  have er : PySem.W.EachIs (fun v (b : V × PyData) => ∃ as, Reads s.heap v b.2 as) its bs := (each_mem ev).mono fun u p ⟨z, hp⟩ => reads_of I (hr p hp) z (noDics_mem h4 _ (List.mem_map.mpr ⟨p, hp, rfl⟩))
  have hl : s.heap.IsList a its.toArray := ⟨_, e, rfl, n, rfl⟩
  refine PySem.W.sorted_data (enc := Prod.snd) hl ev er h1 h2 (by rw [List.length_map] at h5; exact le_line h5) (fun b hb => ?_) fun out ho eo => ?_
  · have := h3 b.2 (List.mem_map.mpr ⟨b, hb, rfl⟩)
    show X.A.units + 2 + _ < cLine
    omega
  · obtain ⟨ep, he'⟩ := PyProof.Rows.sortedAll_at s.heap its out.toArray
    have vo := each_vals eo
    refine ⟨.ref _, upd H (s.heap.objs.size + 1) (.lst ((bs.mergeSort (PySem.W.dataLe false Prod.snd)).map Prod.fst)), I.laid (t' := s.toks) (fun _ _ => PyProof.Rows.sortedAll_old) (Nat.le_succ _) ⟨?_, out, ep, vo, he'⟩, rfl, q _ (I.hok.fresh (Nat.le_succ _))⟩
    rw [List.length_map, List.length_mergeSort]
    rw [List.length_map] at h5
    exact le_line h5
def gSortD (x : AV) (δ : List Sl) : Rs AV := match rdC δ x with
  | some (.list ds) => if sortOk ds = true then .ok (.tmp (.ol ((ds.mergeSort (PySem.W.dataLe false fun d => d)).map .fz))) δ else .bad
  | _ => .bad
theorem rpl_zip {K : PySem.W.Frag} {H : Hp} : ∀ {vs : List V} {ds : List PyData}, RpL K H vs ds → ∃ bs : List (V × PyData), bs.map Prod.fst = vs ∧ bs.map Prod.snd = ds ∧ ∀ p ∈ bs, Rp K H p.1 p.2
  | _, _, .nil => ⟨[], rfl, rfl, fun _ z => nomatch z⟩
  | _, _, .cons (v := v) (d := d) h t => by
    obtain ⟨bs, e1, e2, e3⟩ := rpl_zip t
    refine ⟨(v, d) :: bs, by simp [e1], by simp [e2], fun p hp => ?_⟩
    rcases List.mem_cons.mp hp with e | e
    · rw [e]; exact h
    · exact e3 p e
theorem rpl_of_zip {K : PySem.W.Frag} {H : Hp} : ∀ {bs : List (V × PyData)}, (∀ p ∈ bs, Rp K H p.1 p.2) → RpL K H (bs.map Prod.fst) (bs.map Prod.snd)
  | [], _ => .nil
  | p :: r, h => .cons (h p List.mem_cons_self) (rpl_of_zip fun q hq => h q (List.mem_cons_of_mem _ hq))
theorem c1_sortD {K : PySem.W.Frag} {mg : Str → Option Value} {W : WX} {pin : List Nat} : C1 K mg W pin (rSortedD K) gSortD := by
  intro b Fz F δ σ H v x Q hp R A P
  unfold gSortD at P
  cases q : rdC δ x with
  | none => simp only [q] at P; exact P.elim
  | some d =>
    have h := rdC_ok R A q
    cases d with
    | list ds =>
      simp only [q] at P
      by_cases c : sortOk ds = true
      · rw [if_pos c] at P
        obtain ⟨a, vs, e1, s1, r1⟩ := h.list R.le
        obtain ⟨bs, e2, e3, e4⟩ := rpl_zip r1
        subst e2 e3
        refine ⟨a, bs, by rw [e1], s1, fun p hp => (e4 p hp).mono R.le, c, fun p np => ?_⟩
        have em : (bs.mergeSort (PySem.W.dataLe false Prod.snd)).map Prod.snd = (bs.map Prod.snd).mergeSort (PySem.W.dataLe false fun d => d) := PySem.W.sort_maps Prod.snd fun _ _ _ _ => rfl
        have rp : RpL K Fz ((bs.mergeSort (PySem.W.dataLe false Prod.snd)).map Prod.fst) ((bs.map Prod.snd).mergeSort (PySem.W.dataLe false fun d => d)) := by
          rw [← em]
          exact rpl_of_zip fun p hp => e4 p (List.mem_mergeSort.mp hp)
        exact post_newL R rp P p np
      · rw [if_neg c] at P
        exact P.elim
    | _ => simp only [q] at P; exact P.elim
abbrev gFdivW := gI (fun _ j => decide (0 < j ∧ j < 2 ^ 1000)) (· / ·)
abbrev gPowW := gI (fun i j => decide (0 ≤ j ∧ j ≤ 64 ∧ i.natAbs < 2 ^ 1024)) (fun i j => i ^ j.toNat)
theorem log2_of {n k : Nat} (h : n < 2 ^ k) (hk : 0 < k) : n.log2 < k := by
  by_cases z : n = 0
  · subst z; simpa using hk
  · exact (Nat.log2_lt z).mpr h
def CPowW (i j : Int) : Prop := 0 ≤ j ∧ (Builtin.Int.intBits i : Int) * j ≤ 2 ^ 27
theorem op_powW {X : Cx} : OpR X (binaryOp .Pow) (rI CPowW fun i j => .int (i ^ j.toNat)) := opI fun _ _ _ _ _ _ _ hc q => PyProof.Rows.pow_int hc.1 hc.2 q
section
variable {X : Cx} {W : WX} {pin : List Nat} {fa fb : List Sl → Rs AV} {a c : Expr} {pos : Pos}
theorem se_fdivW (ha : SE X W pin a fa) (hb : SE X W pin c fb) : SE X W pin (.BinOp a .FloorDiv c pos) (s2 gFdivW fa fb) := se_bin op_fdivW (v2_i fun i j h => by
  obtain ⟨h1, h2⟩ := (of_decide_eq_true h : 0 < j ∧ j < 2 ^ 1000)
  refine ⟨h1, Nat.lt_of_lt_of_le (log2_of (k := 1000) ?_ (by decide)) (by decide)⟩
  omega) ha hb
theorem se_powW (ha : SE X W pin a fa) (hb : SE X W pin c fb) : SE X W pin (.BinOp a .Pow c pos) (s2 gPowW fa fb) := se_bin op_powW (v2_i fun i j h => by
  obtain ⟨h1, h2, h3⟩ := (of_decide_eq_true h : 0 ≤ j ∧ j ≤ 64 ∧ i.natAbs < 2 ^ 1024)
  refine ⟨h1, ?_⟩
  have hb : Builtin.Int.intBits i ≤ 1024 := by
    unfold Builtin.Int.intBits
    split
    · omega
    · have := log2_of h3 (by decide)
      omega
  have h4 : (Builtin.Int.intBits i : Int) * j ≤ 1024 * j := Int.mul_le_mul_of_nonneg_right (by omega) h1
  omega) ha hb
end
end Hb
namespace Hb
open PySem PySem.Spec PyProof.Rows L2
section
variable {X : Cx} {W : WX} {pin : List Nat} {fo fa fb fc : List Sl → Rs AV} {o e a b c : Expr} {apos cpos pos : Pos}
def sCh (g g' : AV → AV → List Sl → Rs AV) (fa fb fc : List Sl → Rs AV) : List Sl → Rs AV := fun δ => (sSt fa δ).bind fun x δ1 => (sSt fb δ1).bind fun y δ2 => (g x y δ2).bind fun k δ3 => match k with
  | .val (.bool true) => (sSt fc δ3).bind fun z δ4 => g' y z δ4
  | .val (.bool false) => .ok (.val (.bool false)) δ3
  | _ => .bad
theorem chain_ok {g g' : AV → AV → List Sl → Rs AV} {r r' : R2} (hv : V2 X.K X.mg W pin r g) (hv' : V2 X.K X.mg W pin r' g') : ∀ σ H Q, rdE X.K X.mg W pin (sCh g g' fa fb fc) σ H Q → tChain r r' (rdE X.K X.mg W pin (sSt fa)) (rdE X.K X.mg W pin (sSt fb)) (rdE X.K X.mg W pin (sSt fc)) σ H Q := fun σ H Q ⟨b0, Fz, F, δ, hp, R, P⟩ => by
  refine rd_bind hp R P fun v H1 Fz1 F1 x δ1 s1 R1 A1 P1 => ?_
  refine rd_bind hp R1 P1 fun w H2 Fz2 F2 y δ2 s2 R2 A2 P2 => ?_
  refine hv b0 Fz2 F2 δ2 σ H2 v w x y _ hp R2 (A1.le s2) A2 ?_
  cases q : g x y δ2 with
  | bad => rw [q] at P2; exact P2
  | er e δ3 => rw [q] at P2; exact P2
  | ok k δ3 =>
    rw [q] at P2
    cases k with
    | ref i => exact P2.elim
    | tmp t => exact P2.elim
    | val d =>
      cases d with
      | bool k =>
        intro z H3 Fz3 F3 s3 R3 A3
        cases (show Rp X.K Fz3 z (.bool k) from A3)
        refine ⟨k, rfl, ?_⟩
        cases k with
        | false => exact P2 (.bl false) H3 Fz3 F3 s3 R3 (.bl false)
        | true =>
          rw [if_pos rfl]
          have P3 : Post X.K X.mg W b0 Fz3 σ Q ((sSt fc δ3).bind fun z δ4 => g' y z δ4) := Post.le s3 P2
          refine rd_bind hp R3 P3 fun u H4 Fz4 F4 zz δ4 s4 R4 A4 P4 => ?_
          exact hv' b0 Fz4 F4 δ4 σ H4 w u y zz Q hp R4 (A2.le (s3.trans s4)) A4 P4
      | _ => exact P2.elim
theorem st_chain {op op' : CmpOp} {g g' : AV → AV → List Sl → Rs AV} {r r' : R2} (ho : OpR X (compareOp op) r) (hv : V2 X.K X.mg W pin r g) (ho' : OpR X (compareOp op') r') (hv' : V2 X.K X.mg W pin r' g') (ha : SE X W pin a fa) (hb : SE X W pin b fb) (hc : SE X W pin c fc)
    (hm : lastMarks [op, op'] [b, c] = false := by with_unfolding_all rfl) : ST X W pin (.Compare a [op, op'] [b, c] pos) (sTst (sCh g g' fa fb fc)) := pt_mono (pt_chain ho ho' (se_st ha) (se_st hb) (se_st hc) hm) fun σ H Q h => chain_ok hv hv' σ H _ (tst_ok σ H Q h)
end
end Hb
namespace Nv
open PySem Hb L2
open Enc (enc)
section
variable {α β γ ε ζ : Type} {Γ : Ga} {fa fb fc : List Sl → Rs AV}
theorem pu_ch [Enc α] [Enc β] [Enc γ] {g g' : AV → AV → List Sl → Rs AV} {op : α → β → Option Bool} {op' : β → γ → Option Bool} (o : Op2 g op fun r => .val (enc r)) (o' : Op2 g' op' fun r => .val (enc r)) {pa : Option α} {pb : Option β} {pc : Option γ} (ha : Rd fa Γ pa enc) (hb : Rd fb Γ pb enc) (hc : Rd fc Γ pc enc) :
    Pu (sCh g g' fa fb fc) Γ (pa.bind fun x => pb.bind fun y => (op x y).bind fun k => if k = true then pc.bind fun z => op' y z else some false) fun r => .val (enc r) := fun r e δ s => by
  obtain ⟨x, e1, e⟩ := bind_of e
  obtain ⟨y, e2, e⟩ := bind_of e
  obtain ⟨k, e3, e⟩ := bind_of e
  obtain ⟨a, h1, h2, h3⟩ := ha x e1 δ s
  obtain ⟨b, k1, k2, k3⟩ := hb y e2 δ s
  unfold sCh
  rw [h1]
  show (sSt fb δ).bind _ = _
  rw [k1]
  show (g a b δ).bind _ = _
  rw [o x y k δ a b h2 h3 k2 k3 e3]
  cases k with
  | false => cases some_of e; rfl
  | true =>
    rw [if_pos rfl] at e
    obtain ⟨z, e4, e⟩ := bind_of e
    obtain ⟨c, q1, q2, q3⟩ := hc z e4 δ s
    show (sSt fc δ).bind _ = _
    rw [q1]
    exact o' y z r δ b c k2 k3 q2 q3 e
def fdivW (i j : Int) : Option Int := if 0 < j ∧ j < 2 ^ 1000 then some (i / j) else none
def powW (i j : Int) : Option Int := if 0 ≤ j ∧ j ≤ 64 ∧ i.natAbs < 2 ^ 1024 then some (i ^ j.toNat) else none
theorem op_fdivW : Op2 gFdivW fdivW fun r => .val (enc r) := op_gIc (C := fun _ j => 0 < j ∧ j < 2 ^ 1000)
theorem op_powW : Op2 gPowW powW fun r => .val (enc r) := op_gIc (C := fun i j => 0 ≤ j ∧ j ≤ 64 ∧ i.natAbs < 2 ^ 1024)
theorem noDics_ints : ∀ ns : List Int, noDics (ns.map .int) = true
  | [] => by simp [noDics]
  | n :: r => by simp [noDics, noDic, noDics_ints r]
theorem sortOk_ints {ns : List Int} (h : ns.length ≤ cap) : sortOk (ns.map .int) = true := by
  unfold sortOk
  simp only [Bool.and_eq_true, Bool.or_eq_true, List.all_eq_true, decide_eq_true_eq, List.mem_map, List.length_map]
  refine ⟨⟨⟨⟨?_, .inr ?_⟩, ?_⟩, noDics_ints ns⟩, h⟩
  · rintro _ ⟨i, _, rfl⟩ _ ⟨j, _, rfl⟩
    simp [PySem.W.alike]
  · rintro _ ⟨i, _, rfl⟩
    rfl
  · rintro _ ⟨i, _, rfl⟩
    simp [PyData.depth]
def srtAC : PyData → Option (List Int)
  | .list ds => (intsOf ds).bind fun ns => if ns.length ≤ cap then some (sortI ns) else none
  | _ => none
theorem sort_int (ns : List Int) : (ns.map PyData.int).mergeSort (PySem.W.dataLe false fun d => d) = (sortI ns).map .int := by
  unfold sortI
  refine (PySem.W.sort_maps PyData.int fun a _ b _ => ?_).symm
  have := congrFun (congrFun (PySem.W.dataLe_int (fun i : Int => i)) a) b
  exact this.symm
theorem op_srtAC : Op1 gSortD srtAC fun r => .tmp (ow r) := fun v r δ x h h' e => by
  have h : rdC δ x = some v := h
  cases v with
  | list ds =>
    have e : (intsOf ds).bind (fun ns => if ns.length ≤ cap then some (sortI ns) else none) = some r := e
    obtain ⟨ns, e1, e2⟩ := bind_of e
    have e3 := intsOf_eq e1
    subst e3
    by_cases c : ns.length ≤ cap
    · rw [if_pos c] at e2
      cases some_of e2
      simp only [gSortD, h, if_pos (sortOk_ints c), sort_int]
      rfl
    · rw [if_neg c] at e2
      cases e2
  | _ => cases e
theorem Es.any [Enc α] {f : List Sl → Rs AV} {p : Option ε} {va : ε → α} {Γ' : ε → Ga} (h : Es f Γ p (fun v => enc (va v)) Γ') : Es f Γ (p.bind fun v => some (enc (va v), v)) (fun r => enc (r.1 : PyData)) fun r => Γ' r.2 := fun r e δ s => by
  obtain ⟨v, e1, e⟩ := bind_of e
  cases some_of e
  exact h v e1 δ s
end
end Nv
namespace Hb
open PySem PySem.Spec PyProof.Rows L2
def keyOf : PyData → Option Key
  | .int i => some (.inl i)
  | .str x => some (.inr x)
  | _ => none
theorem keyOf_D (k : Key) : keyOf (kD k) = some k := by cases k <;> rfl
theorem keyOf_eq {d : PyData} {k : Key} (h : keyOf d = some k) : d = kD k := by
  cases d <;> first | (cases h; rfl) | cases h
def lookK (kvs : List (PyData × PyData)) (k : Key) : Option PyData := (kvs.find? fun p => decide (keyOf p.1 = some k)).map (·.2)
def putD (kvs : List (PyData × PyData)) (k : Key) (d : PyData) : List (PyData × PyData) :=
  if (kvs.any fun p => decide (keyOf p.1 = some k)) = true then kvs.map (fun p => if keyOf p.1 = some k then (p.1, d) else p) else kvs ++ [(kD k, d)]
section
variable {K : PySem.W.Frag} {H : Hp}
theorem RpK.look : ∀ {ws : List (Key × V)} {kvs : List (PyData × PyData)} {k : Key} {d : PyData}, RpK K H ws kvs → lookK kvs k = some d → ∃ v, valV ws k = some v ∧ Rp K H v d
  | _, _, k, d, .nil, h => by cases h
  | _, _, k, d, .cons (k := k0) (v := v0) (vs := ws) (d := d0) (ds := kvs) r t, h => by
    unfold lookK at h
    rw [List.find?_cons] at h
    rw [keyOf_D] at h
    by_cases c : k0 = k
    · rw [decide_eq_true (by rw [c])] at h
      cases h
      exact ⟨v0, valV_pos (p := (k0, v0)) c, r⟩
    · have hn : ¬ some k0 = some k := fun z => c (Option.some.inj z)
      rw [decide_eq_false hn] at h
      obtain ⟨v, e1, e2⟩ := RpK.look t h
      exact ⟨v, by rw [valV_neg (p := (k0, v0)) c]; exact e1, e2⟩
theorem RpK.none : ∀ {ws : List (Key × V)} {kvs : List (PyData × PyData)} {k : Key}, RpK K H ws kvs → lookK kvs k = .none → valV ws k = .none
  | _, _, k, .nil, h => rfl
  | _, _, k, .cons (k := k0) (v := v0) (vs := ws) (d := d0) (ds := kvs) r t, h => by
    unfold lookK at h
    rw [List.find?_cons] at h
    rw [keyOf_D] at h
    by_cases c : k0 = k
    · rw [decide_eq_true (by rw [c])] at h
      cases h
    · have hn : ¬ some k0 = some k := fun z => c (Option.some.inj z)
      rw [decide_eq_false hn] at h
      rw [valV_neg (p := (k0, v0)) c]
      exact RpK.none t h
theorem RpK.any : ∀ {ws : List (Key × V)} {kvs : List (PyData × PyData)} (k : Key), RpK K H ws kvs → (ws.any fun kv => decide (kv.1 = k)) = kvs.any fun p => decide (keyOf p.1 = some k)
  | _, _, k, .nil => rfl
  | _, _, k, .cons (k := k0) r t => by
    rw [List.any_cons, List.any_cons, RpK.any k t, keyOf_D]
    congr 1
    by_cases c : k0 = k <;> simp [c]
theorem RpK.app : ∀ {ws us : List (Key × V)} {kvs lvs : List (PyData × PyData)}, RpK K H ws kvs → RpK K H us lvs → RpK K H (ws ++ us) (kvs ++ lvs)
  | _, _, _, _, .nil, s => s
  | _, _, _, _, .cons r t, s => .cons r (RpK.app t s)
theorem RpK.mapk {v : V} {d : PyData} (h : Rp K H v d) (k : Key) : ∀ {ws : List (Key × V)} {kvs : List (PyData × PyData)}, RpK K H ws kvs → RpK K H (ws.map fun kv => if kv.1 = k then (kv.1, v) else kv) (kvs.map fun p => if keyOf p.1 = some k then (p.1, d) else p)
  | _, _, .nil => .nil
  | _, _, .cons (k := k0) (v := v0) r t => by
    rw [List.map_cons, List.map_cons]
    have ih := RpK.mapk h k t
    by_cases c : k0 = k
    · rw [if_pos (show (k0, v0).1 = k from c), if_pos (show keyOf (kD k0) = some k by rw [keyOf_D, c])]
      exact .cons h ih
    · rw [if_neg (show ¬ (k0, v0).1 = k from c), if_neg (show ¬ keyOf (kD k0) = some k by rw [keyOf_D]; exact fun z => c (Option.some.inj z))]
      exact .cons r ih
theorem RpK.put {ws : List (Key × V)} {kvs : List (PyData × PyData)} {v : V} {d : PyData} (t : RpK K H ws kvs) (h : Rp K H v d) (k : Key) : RpK K H (putK ws k v) (putD kvs k d) := by
  unfold putK putD
  rw [RpK.any k t]
  by_cases c : (kvs.any fun p => decide (keyOf p.1 = some k)) = true
  · rw [if_pos c, if_pos c]
    exact RpK.mapk h k t
  · rw [if_neg c, if_neg c]
    exact t.app (.cons h .nil)
end
/-- the dict's tree, where it is one -/
def dicA (δ : List Sl) (x : AV) : Option (List (PyData × PyData)) := match rdA δ x with
  | some (.dict kvs) => some kvs
  | _ => none
/-- its items stand still -/
theorem dic_ok {K : PySem.W.Frag} {b : Bk} {Fz : Hp} {F : Nat → List Addr} {δ : List Sl} {σ : L2.St} {H : Hp} (R : Rl K b Fz F δ σ H) {v : V} {x : AV} {kvs : List (PyData × PyData)} (A : AvS K Fz σ v x) (h : dicA δ x = some kvs) :
    ∃ a, v = .ref a ∧ ((∃ ws, H a = some (.dK ws) ∧ RpK K Fz ws kvs) ∨ ∃ ws, H a = some (.dT ws) ∧ RpT K Fz ws kvs) := by
  unfold dicA at h
  have q : rdA δ x = some (.dict kvs) := by
    cases q : rdA δ x with
    | none => rw [q] at h; cases h
    | some d => rw [q] at h; cases d <;> first | (cases h; rfl) | cases h
  have frz : ∀ {u : V}, Rp K Fz u (.dict kvs) → ∃ a, u = .ref a ∧ ((∃ ws, H a = some (.dK ws) ∧ RpK K Fz ws kvs) ∨ ∃ ws, H a = some (.dT ws) ∧ RpT K Fz ws kvs) := fun r => by
    cases r with
    | dK h1 h2 => exact ⟨_, rfl, .inl ⟨_, R.le _ _ h1, h2⟩⟩
    | dT h1 h2 => exact ⟨_, rfl, .inr ⟨_, R.le _ _ h1, h2⟩⟩
  cases x with
  | val d => cases q; exact frz A
  | tmp t => cases q
  | ref i =>
    have hv : σ[i]? = some (some v) := A
    simp only [rdA] at q
    cases q1 : δ[i]? with
    | none => simp only [q1] at q; cases q
    | some s =>
      have hs := R.slot i s q1
      rw [hv] at hs
      cases s with
      | no => simp only [q1] at q; cases q
      | fz d =>
        simp only [q1] at q
        cases q
        obtain ⟨_, v', e1, e2⟩ := hs
        cases e1
        exact frz e2
      | ol xs => simp only [q1] at q; cases q
      | od ks =>
        simp only [q1] at q
        cases q
        obtain ⟨a, e1, _, e3⟩ := hs
        cases e1
        exact ⟨a, rfl, e3⟩
      | al y j =>
        simp only [q1] at q
        cases q2 : δ[y]? with
        | none => simp only [q2] at q; cases q
        | some t =>
          cases t with
          | ol xs =>
            simp only [q2] at q
            cases q3 : xs[j]? with
            | none => rw [q3] at q; cases q
            | some e =>
              rw [q3] at q
              obtain ⟨g, e1, _⟩ := R.al q1 q2 q3 hv
              cases e with
              | fz d => cases q; exact frz e1.2
              | ow ys => cases q
          | _ => simp only [q2] at q; cases q
section
variable {X : Cx} {W : WX} {pin : List Nat} {fa fb : List Sl → Rs AV} {a c : Expr} {pos : Pos}
theorem pe_or {e : Expr} {t t' : TE} (h : PE X e t) (h' : PE X e t') : PE X e (fun σ H Q => t σ H Q ∨ t' σ H Q) := ⟨fun pins s σ H Q I q => q.elim (h.run pins s σ H Q I) (h'.run pins s σ H Q I)⟩
theorem rpc_key {K : PySem.W.Frag} {Fz H : Hp} {v : V} {d : PyData} {k : Key} (h : RpC K Fz H v d) (e : keyOf d = some k) : v = kV k := by
  have := keyOf_eq e
  subst this
  rcases h with h | ⟨_, _, _, _, e2, _⟩
  · cases k with
    | inl i => cases h; rfl
    | inr x => cases h; rfl
  · cases k <;> cases e2
theorem rd_bind' {K : PySem.W.Frag} {mg : Str → Option Value} {σ : L2.St} {H : Hp} {b : Bk} {Fz : Hp} {F : Nat → List Addr} {δ : List Sl} {k : AV → List Sl → Rs AV} {Q R : VK} (hp : b.pin = pin) (Rr : Rl K b Fz F δ σ H) (P : Post K mg W b Fz σ Q ((sSt fa δ).bind k))
    (h : ∀ v H' Fz' F' x δ', sSt fa δ = .ok x δ' → Same Fz Fz' → Rl K b Fz' F' δ' σ H' → AvS K Fz' σ v x → Post K mg W b Fz' σ Q (k x δ') → R v H') : rdE K mg W pin (sSt fa) σ H R := by
  refine ⟨b, Fz, F, δ, hp, Rr, ?_⟩
  cases q : sSt fa δ with
  | bad => rw [q] at P; exact P
  | er x δ' => rw [q] at P; exact P
  | ok a δ' =>
    rw [q] at P
    intro v H' Fz' F' s R' A
    cases a with
    | tmp t => exact absurd q (sSt_notmp _ _ _ _)
    | val d => exact h v H' Fz' F' (.val d) δ' q s R' A (Post.le s P)
    | ref i => exact h v H' Fz' F' (.ref i) δ' q s R' A (Post.le s P)
theorem rdE_mono {K : PySem.W.Frag} {mg : Str → Option Value} {f : List Sl → Rs AV} {σ : L2.St} {H : Hp} {Q Q' : VK} (h : rdE K mg W pin f σ H Q) (i : ∀ v H', Q v H' → Q' v H') : rdE K mg W pin f σ H Q' := by
  obtain ⟨b, Fz, F, δ, hp, R, P⟩ := h
  refine ⟨b, Fz, F, δ, hp, R, ?_⟩
  cases q : f δ with
  | bad => rw [q] at P; exact P
  | er x δ' => rw [q] at P; exact P
  | ok a δ' =>
    rw [q] at P
    exact fun v H' Fz' F' s R' A => i v H' (P v H' Fz' F' s R' A)
theorem lookT {K : PySem.W.Frag} {H : Hp} (k : Key) : ∀ {ws : List (List Key × V)} {kvs : List (PyData × PyData)}, RpT K H ws kvs → lookK kvs k = none
  | _, _, .nil => rfl
  | _, _, .cons _ t => by
    have ih := lookT k t
    unfold lookK at ih ⊢
    rw [List.find?_cons]
    simpa [keyOf] using ih
/-- one of two readings, by what the first operand's tree is behind both -/
theorem t2_or {t t' : TE} {r : R2} {g gd : AV → AV → List Sl → Rs AV} {D : AV → List Sl → Bool}
    (ht : ∀ σ H Q, tOp r (rdE X.K X.mg W pin (sSt fa)) (rdE X.K X.mg W pin (sSt fb)) σ H Q → t σ H Q)
    (ht' : ∀ σ H Q, rdE X.K X.mg W pin (sSt fa) σ H (fun v H1 => rdE X.K X.mg W pin (sSt fb) σ H1 fun w H2 => ∃ b Fz F δ x y, Rl X.K b Fz F δ σ H2 ∧ AvS X.K Fz σ v x ∧ AvS X.K Fz σ w y ∧ b.pin = pin ∧ D x δ = true ∧ Post X.K X.mg W b Fz σ Q (gd x y δ)) → t' σ H Q)
    (hv : V2 X.K X.mg W pin r g) : ∀ σ H Q, rdE X.K X.mg W pin (s2 (fun x y δ => if D x δ = true then gd x y δ else g x y δ) fa fb) σ H Q → t σ H Q ∨ t' σ H Q := fun σ H Q ⟨b, Fz, F, δ, hp, R, P⟩ => by
  have P : Post X.K X.mg W b Fz σ Q ((sSt fa δ).bind fun x δ1 => (sSt fb δ1).bind fun y δ2 => if D x δ2 = true then gd x y δ2 else g x y δ2) := P
  by_cases dic : ∃ x δ1 y δ2, sSt fa δ = .ok x δ1 ∧ sSt fb δ1 = .ok y δ2 ∧ D x δ2 = true
  · obtain ⟨x0, d1, y0, d2, q1, q2, q3⟩ := dic
    refine .inr (ht' σ H Q (rd_bind' hp R P fun v H1 Fz1 F1 x δ1 e1 s1 R1 A1 P1 => rd_bind' hp R1 P1 fun w H2 Fz2 F2 y δ2 e2 s2 R2 A2 P2 => ?_))
    rw [q1] at e1
    cases e1
    rw [q2] at e2
    cases e2
    rw [if_pos q3] at P2
    exact ⟨b, Fz2, F2, _, _, _, R2, A1.le s2, A2, hp, q3, P2⟩
  · refine .inl (ht σ H Q (rd_bind' hp R P fun v H1 Fz1 F1 x δ1 e1 s1 R1 A1 P1 => rd_bind' hp R1 P1 fun w H2 Fz2 F2 y δ2 e2 s2 R2 A2 P2 => ?_))
    have q3 : ¬ D x δ2 = true := fun z => dic ⟨x, δ1, y, δ2, e1, e2, z⟩
    rw [if_neg q3] at P2
    exact hv b Fz2 F2 δ2 σ H2 v w x y Q hp R2 (A1.le s2) A2 P2
def isDic (x : AV) (δ : List Sl) : Bool := (dicA δ x).isSome
def gDix (x y : AV) (δ : List Sl) : Rs AV := match dicA δ x, (rdC δ y).bind keyOf with
  | some kvs, some k => (match lookK kvs k with
    | some d => .ok (.val d) δ
    | none => .bad)
  | _, _ => .bad
/-- x[i]: of a list, a tuple, a dict -/
def gIx2 (x y : AV) (δ : List Sl) : Rs AV := if isDic x δ = true then gDix x y δ else gIx x y δ
theorem se_ix2 (hu : X.A.units + 64 < cLine) (ha : SE X W pin a fa) (hb : SE X W pin c fb) (hs : PlainIx c := by intro _ _; rfl) (hs2 : NoSl c := by intro _ _; rfl) : SE X W pin (.Subscript a c pos) (s2 gIx2 fa fb) :=
  pe_mono (pe_or (pe_ix ix_U (se_st ha) (se_st hb) hs) (pe_dget (by omega) (se_st ha) (se_st hb) hs2)) (t2_or (r := rIxU X.K) (g := gIx) (gd := gDix) (D := isDic) (fun _ _ _ h => h) (fun σ H Q h => by
    refine rdE_mono h fun v H1 h => rdE_mono h fun w H2 ⟨b, Fz, F, δ, x, y, R, A, B, hp, hD, P⟩ => ?_
    unfold isDic at hD
    cases q : dicA δ x with
    | none => rw [q] at hD; cases hD
    | some kvs =>
      obtain ⟨a', e1, e2⟩ := dic_ok R A q
      unfold gDix at P
      cases q2 : (rdC δ y).bind keyOf with
      | none => simp only [q, q2] at P; exact P.elim
      | some k =>
        cases q3 : lookK kvs k with
        | none => simp only [q, q2, q3] at P; exact P.elim
        | some d =>
          simp only [q, q2, q3] at P
          obtain ⟨kd, f1, f2⟩ := Option.bind_eq_some_iff.mp q2
          have ew := rpc_key (rdC_ok R B f1) f2
          rcases e2 with ⟨ws, g1, g2⟩ | ⟨ws, g1, g2⟩
          · obtain ⟨u, h1, h2⟩ := g2.look q3
            exact ⟨a', u, e1, .inl ⟨ws, k, .inl g1, ew, h1.symm⟩, P u H2 Fz F (Same.refl _) R h2⟩
          · rw [lookT k g2] at q3
            cases q3) v2_ix)
end
theorem st_rd {K : PySem.W.Frag} {mg : Str → Option Value} {W : WX} {pin : List Nat} {f : List Sl → Rs AV} : ∀ σ H Q, rdE K mg W pin (sSt f) σ H Q → rdE K mg W pin f σ H Q := fun σ H Q ⟨b, Fz, F, δ, hp, R, P⟩ => by
  refine ⟨b, Fz, F, δ, hp, R, ?_⟩
  unfold sSt at P
  cases q : f δ with
  | bad => rw [q] at P; exact P
  | er x δ' => rw [q] at P; exact P
  | ok a δ' =>
    rw [q] at P
    cases a with
    | val d => exact P
    | ref i => exact P
    | tmp s =>
      intro v H' Fz' F' s1 R' ⟨ht, g, hs, hn, hg⟩
      cases q2 : s.tree with
      | none => rw [q2] at ht; cases ht
      | some d =>
        simp only [q2] at P
        obtain ⟨s2, R2⟩ := R'.addF (g := g) (fun a ha => ⟨(hg a ha).1, (hg a ha).2.1, (hg a ha).2.2.2⟩) hs.noT
        exact P v H' _ F' (s1.trans s2) R2 (hs.treeF q2 s2 fun a ha => addF_in ha)
theorem tk_rd {K : PySem.W.Frag} {mg : Str → Option Value} {W : WX} {pin : List Nat} {f : List Sl → Rs AV} : ∀ σ H Q, rdE K mg W pin (sTk f) σ H Q → rdE K mg W pin f σ H Q := fun σ H Q ⟨b, Fz, F, δ, hp, R, P⟩ => by
  refine st_rd σ H Q ⟨b, Fz, F, δ, hp, R, ?_⟩
  unfold sTk at P
  cases q : sSt f δ with
  | bad => rw [q] at P; exact P
  | er x δ' => rw [q] at P; exact P
  | ok a δ' =>
    rw [q] at P
    cases a with
    | val d => exact P
    | tmp s => exact P
    | ref i => exact fun v H' Fz' F' s1 R' hv => post_take R' hv (P.le s1)
section
variable {X : Cx} {W : WX} {pin ts : List Nat} {elt tg iter : Expr} {ifs : List Expr} {scope : Scope} {own : List (Str × Nat)} {pos : Pos} {wi : List Sl → Rs (List PyData)} {t : AV → List Sl → Rs Unit} {tt : List Sl → Rs Bool} {f : List Sl → Rs AV}
theorem ss_setLcT (w : Bool) {i : Nat} {y : Str} {py spos : Pos} (hc : X.calm = true) (hN : X.N.Nodup) (hy : X.N[i]? = some y) (hyl : X.env.scope.names.lookup y = some .local) (hp : i ∉ pin)
    (hsw : swapsWith (.ListComp elt [⟨tg, iter, ifs, 0⟩] scope pos) (some (.Name y py)) spos.line X.env = pure true) (hi : SI X W pin tg iter wi) (ok : blkC X.N X.env.scope scope own = true) (hv : ∀ v ∈ own.map (·.2), v ∉ pin) (hts : ∀ v ∈ ts, v ∈ own.map (·.2))
    (hg : ∀ s H C cl fp, SG (BX X scope s H C cl fp) W0 pin ts tg t) (ht : ∀ s H C cl fp, STs (BX X scope s H C cl fp) pin ifs tt) (he : ∀ s H C cl fp, SE (BX X scope s H C cl fp) W0 pin elt f) (hs : ∀ x, foldedSetIterable iter X.env x = pure x := by intro _; rfl) :
    SS X W pin (.Assign [.Name y py] (.ListComp elt [⟨tg, iter, ifs, 0⟩] scope pos) spos) (oAsg (sTk (sLc w wi (own.map (·.2)) t tt f)) (tgN i)) :=
  ps_mono (L2.ps_setLc hc hN hy hyl hsw hi (blkOk_by ok) hg ht he hs) fun D σ H ⟨b, Fz, F, δ, hpin, R, P⟩ => by
    refine lc_ok (K := X.K) (mg := X.mg) (W := W) (w := w) (wi := wi) (t := t) (tt := tt) (f := f) (tT := rdT X.K X.mg W0 pin tt) hv hts (fun _ _ _ h => h) σ H _ (tk_rd σ H _ ?_)
    refine rdS_bind hpin R P fun v H' Fz' F' a δ' s R' A P' => ?_
    refine tgN_ok (K := X.K) (mg := X.mg) (W := W) (b := b) (ts := [i]) (List.mem_singleton.mpr rfl) (by rw [hpin]; exact hp) R' A ?_
    cases q : tgN i a δ' with
    | bad => rw [q] at P'; exact P'
    | er x δ2 => rw [q] at P'; exact P'
    | ok u δ2 =>
      rw [q] at P'
      exact fun σ2 H2 Fz2 F2 s2 R2 _ => P' σ2 H2 Fz2 F2 s2 R2
end
end Hb
namespace Nv
open PySem Hb L2
open Enc (enc)
class EncKey (κ : Type) [Enc κ] where
  key : κ → Key
  h : ∀ k : κ, keyOf (enc k) = some (key k)
  inj : ∀ a b : κ, key a = key b → a = b
instance : EncKey Int := ⟨.inl, fun _ => rfl, fun _ _ h => Sum.inl.inj h⟩
instance : EncKey Str := ⟨.inr, fun _ => rfl, fun _ _ h => Sum.inr.inj h⟩
section
variable {α β γ κ : Type} [Enc α] [Enc β] [Enc κ] [DecidableEq κ] [EncKey κ] {Γ : Ga} {fa fb : List Sl → Rs AV}
theorem notDic_list {δ : List Sl} {x : AV} {ds : List PyData} (h : rdA δ x = some (.list ds)) : isDic x δ = false := by simp [isDic, dicA, h]
theorem notDic_tup {δ : List Sl} {x : AV} {ds : List PyData} (h : rdA δ x = some (.tuple ds)) : isDic x δ = false := by simp [isDic, dicA, h]
theorem op_ix2 : Op2 gIx2 (atL (α := α)) fun r => .val (enc r) := fun v w r δ x y h1 h1' h2 h2' e => by
  have : gIx2 x y δ = gIx x y δ := by unfold gIx2; rw [notDic_list (show rdA δ x = some (.list (v.map enc)) from h1')]; rfl
  rw [this]
  exact op_ix v w r δ x y h1 h1' h2 h2' e
end
end Nv
namespace Nv
open PySem Hb L2
open Enc (enc)
def atA (d : PyData) (i : Int) : Option PyData := itemD d (.int i)
def asL : PyData → Option (List PyData)
  | .list ds => some ds
  | _ => none
section
variable {Γ : Ga} {f : List Sl → Rs AV} {p : Option PyData}
theorem op_ixA : Op2 gIx2 atA fun r => .val (enc r) := fun v w r δ x y h1 h1' h2 h2' e => by
  have h1 : rdC δ x = some v := h1
  have h1' : rdA δ x = some v := h1'
  have h2 : rdC δ y = some (.int w) := h2
  cases v with
  | list ds =>
    have : gIx2 x y δ = gIx x y δ := by unfold gIx2; rw [notDic_list h1']; rfl
    have e : atI ds w = some r := e
    rw [this]
    simp only [gIx, h2, item_list h1, e]
    rfl
  | tuple ds =>
    have : gIx2 x y δ = gIx x y δ := by unfold gIx2; rw [notDic_tup h1']; rfl
    have e : atI ds w = some r := e
    rw [this]
    simp only [gIx, h2, item_tup h1, e]
    rfl
  | _ => cases e
theorem asL_enc {d : PyData} {ds : List PyData} (h : asL d = some ds) : (enc ds : PyData) = d := by
  cases d with
  | list es =>
    cases some_of h
    show PyData.list (List.map (fun d => d) _) = _
    rw [List.map_id']
  | _ => cases h
theorem Pu.asL (hh : Pu f Γ p fun v => .val (enc v)) : Pu f Γ (p.bind fun d => Nv.asL d) fun v : List PyData => .val (enc v) := fun r e δ s => by
  obtain ⟨v, e1, e⟩ := bind_of e
  show _ = Rs.ok (AV.val (enc r)) δ
  rw [asL_enc e]
  exact hh _ e1 δ s
end
end Nv
namespace Hb
open PySem PySem.Spec PyProof.Rows L2
def frzS (δ : List Sl) : Sl → Sl
  | .no => .no
  | .fz d => .fz d
  | .ol xs => .fz (.list (xs.map El.d))
  | .od kvs => .fz (.dict kvs)
  | .al x j => match δ[x]? with
    | some (.ol xs) => (match xs[j]? with
      | some e => .fz e.d
      | none => .no)
    | _ => .no
def scalD : PyData → Bool
  | .none => true
  | .bool _ => true
  | .int _ => true
  | .str _ => true
  | _ => false
def scalE : El → Bool
  | .fz d => scalD d
  | .ow _ => false
def sBrw (f : List Sl → Rs AV) : List Sl → Rs AV := fun δ => match f (δ.map (frzS δ)) with
  | .ok (.val d) _ => if scalD d = true then .ok (.val d) δ else .bad
  | .ok (.tmp (.ol xs)) _ => if xs.all scalE = true then .ok (.tmp (.ol xs)) δ else .bad
  | _ => .bad
theorem frz_al {δ : List Sl} {s : Sl} {x j : Nat} : frzS δ s ≠ .al x j := by
  unfold frzS
  split
  · simp
  · simp
  · simp
  · simp
  · split
    · split <;> simp
    · simp
theorem flat_rp {K : PySem.W.Frag} {H Fz : Hp} {v : V} {d : PyData} (h : Rp K H v d) (hd : scalD d = true) : Rp K Fz v d := by
  cases h with
  | non => exact .non
  | bl b => exact .bl b
  | int i => exact .int i
  | str x => exact .str x
  | _ => cases hd
theorem flat_el {K : PySem.W.Frag} {Fz Fz' H : Hp} : ∀ {f : List Addr} {vs : List V} {es : List El}, ElL K Fz' H f vs es → es.all scalE = true → f = [] ∧ ElL K Fz H [] vs es
  | _, _, _, .nil, _ => ⟨rfl, .nil⟩
  | _, _, _, .cons (e := .fz d) (es := es) h t, hd => by
    rw [List.all_cons, Bool.and_eq_true] at hd
    obtain ⟨e1, e2⟩ := flat_el (Fz := Fz) t hd.2
    obtain ⟨h1, h2⟩ := h
    subst h1 e1
    exact ⟨rfl, .cons (f := []) ⟨rfl, flat_rp h2 hd.1⟩ e2⟩
  | _, _, _, .cons (e := .ow xs) (es := es) h t, hd => by
    rw [List.all_cons, Bool.and_eq_true] at hd
    exact absurd hd.1 (by simp [scalE])
section
variable {X : Cx} {W : WX} {pin : List Nat} {e : Expr} {f : List Sl → Rs AV}
theorem Rl.still {K : PySem.W.Frag} {b : Bk} {Fz : Hp} {F : Nat → List Addr} {δ : List Sl} {σ : L2.St} {H : Hp} (R : Rl K b Fz F δ σ H) : Rl K ⟨H, H, unm b.pin, b.so, []⟩ H (fun _ => []) (δ.map (frzS δ)) σ H where
  le := Same.refl _
  base := Same.refl _
  len := by rw [List.length_map]; exact R.len
  slot := fun i s hs => by
    rw [List.getElem?_map] at hs
    cases q : δ[i]? with
    | none => rw [q] at hs; cases hs
    | some s0 =>
      rw [q] at hs
      cases Option.some.inj hs
      have h := R.slot i s0 q
      have rd : ∀ {v : V} {d : PyData}, σ[i]? = some (some v) → rdA δ (.ref i) = some d → Rp K H v d := fun hv hd => rdA_ok R (a := .ref i) hv hd
      cases s0 with
      | no => exact rfl
      | fz d =>
        obtain ⟨_, v, e1, r⟩ := h
        exact ⟨rfl, v, e1, r.mono R.le⟩
      | ol xs =>
        obtain ⟨a, vs, g, e1, _⟩ := h
        exact ⟨rfl, _, e1, rd (join_some e1) (by simp only [rdA, q]; rfl)⟩
      | od kvs =>
        obtain ⟨a, e1, _⟩ := h
        exact ⟨rfl, _, e1, rd (join_some e1) (by simp only [rdA, q]; rfl)⟩
      | al x j =>
        obtain ⟨_, a, c, vs, _, _, _, e1⟩ := h
        show SlH K H H σ [] _ (match δ[x]? with
          | some (.ol xs) => (match xs[j]? with
            | some e => .fz e.d
            | none => .no)
          | _ => .no)
        cases q2 : δ[x]? with
        | none => exact rfl
        | some t =>
          cases t with
          | ol xs =>
            cases q3 : xs[j]? with
            | none => simp only [q3]; exact rfl
            | some el =>
              simp only [q3]
              exact ⟨rfl, _, e1, rd (join_some e1) (by simp only [rdA, q, q2, q3]; rfl)⟩
          | _ => exact rfl
  nd := fun _ => List.nodup_nil
  dj := fun _ _ _ h => nomatch h
  offF := fun _ _ h => nomatch h
  offB := fun _ _ h => nomatch h
  on := fun _ _ h => nomatch h
  keep := fun _ _ => .inl rfl
  noT := fun _ _ h => nomatch h
  tb := .nil rfl
  tp := fun z => absurd z mk_unm
  f0 := fun _ h => h
  pin := fun i hi => R.pin i (unm_sub hi)
  als := fun i x j h => by
    rw [List.getElem?_map] at h
    cases q : δ[i]? with
    | none => rw [q] at h; cases h
    | some s0 =>
      rw [q] at h
      exact absurd (Option.some.inj h) frz_al
theorem se_brw (h : SE X W (unm pin) e f) : SE X W pin e (sBrw f) := pe_mono h fun σ H Q ⟨b, Fz, F, δ, hp, R, P⟩ => by
  refine ⟨⟨H, H, unm b.pin, b.so, []⟩, H, fun _ => [], δ.map (frzS δ), by rw [← hp], R.still, ?_⟩
  unfold sBrw at P
  cases q : f (δ.map (frzS δ)) with
  | bad => rw [q] at P; exact P.elim
  | er x δ' => rw [q] at P; exact P.elim
  | ok a δ' =>
    rw [q] at P
    cases a with
    | ref i => exact P.elim
    | val d =>
      simp only at P
      by_cases c : scalD d = true
      · rw [if_pos c] at P
        intro v H' Fz' F' s1 R' A
        have hs : Same H H' := s1.trans R'.le
        exact P v H' Fz F (Same.refl _) (R.grow hs) (flat_rp (show Rp X.K Fz' v d from A) c)
      · rw [if_neg c] at P; exact P.elim
    | tmp s =>
      cases s with
      | ol xs =>
        simp only at P
        by_cases c : xs.all scalE = true
        · rw [if_pos c] at P
          intro v H' Fz' F' s1 R' ⟨ht, g, hs, hn, hg⟩
          have hh : Same H H' := s1.trans R'.le
          obtain ⟨a, vs, g', e1, e2, e3, e4⟩ := hs
          obtain ⟨e5, e6⟩ := flat_el (Fz := Fz) e4 c
          subst e5
          have no : ∀ a ∈ g, H a = none := fun a ha => by
            cases z : H a with
            | none => rfl
            | some o => exact absurd (s1 a o z) (by rw [(hg a ha).1]; simp)
          refine P v H' Fz F (Same.refl _) (R.grow hh) ⟨ht, g, ⟨a, vs, [], e1, e2, e3, e6⟩, hn, fun a ha => ⟨?_, ?_, (hg a ha).2.2.1, fun i hi => R.on i a hi (no a ha)⟩⟩
          · cases z : Fz a with
            | none => rfl
            | some o => exact absurd (R.le a o z) (by rw [no a ha]; simp)
          · cases z : b.B a with
            | none => rfl
            | some o => exact absurd (R.base a o z) (by rw [no a ha]; simp)
        · rw [if_neg c] at P; exact P.elim
      | _ => exact P.elim
end
end Hb
namespace Hb
open PySem PySem.Spec PyProof.Rows L2
theorem Rl.mutG {K : PySem.W.Frag} {b : Bk} {Fz : Hp} {F : Nat → List Addr} {δ : List Sl} {σ : L2.St} {H : Hp} (R : Rl K b Fz F δ σ H) {i : Nat} {xs es : List El} {l : Addr} {vs : List V} {g : List Addr}
    (hs : δ[i]? = some (.ol xs)) (hv : σ[i]? = some (some (.ref l))) (hE : ElL K Fz H g vs es) (hg : (l :: g).Nodup) (sub : ∀ a ∈ g, a ∈ F i ∨ (Fz a = none ∧ b.B a = none ∧ H a ≠ none ∧ ∀ k, a ∉ F k)) :
    Rl K b Fz (fun k => if k = i then l :: g else F k) (upS i (.ol es) δ) σ (upd H l (.lst vs)) := by
  obtain ⟨a, ws, g0, e1, e2, e3, e4⟩ := R.slot i _ hs
  rw [hv] at e1
  cases e1
  have hl : l ∈ F i := by rw [e2]; exact List.mem_cons_self
  have ne : ∀ c, Fz c ≠ none → c ≠ l := fun c hc z => hc (by rw [z]; exact R.offF i l hl)
  have neB : ∀ c, b.B c ≠ none → c ≠ l := fun c hc z => hc (by rw [z]; exact R.offB i l hl)
  have all : ∀ a ∈ l :: g, a ∈ F i ∨ (Fz a = none ∧ b.B a = none ∧ H a ≠ none ∧ ∀ k, a ∉ F k) := fun a ha => (List.mem_cons.mp ha).elim (fun z => .inl (by rw [z]; exact hl)) (sub a)
  refine R.put (Same.refl _) (fun c o e => ?_) (fun c o e => ?_) rfl (fun _ _ => rfl) (.inl rfl) (fun _ => ?_) (fun x j z => nomatch z) hg (fun a ha => (all a ha).elim (R.offF i a) fun z => z.1) (fun a ha => (all a ha).elim (R.offB i a) fun z => z.2.1) (fun a ha k hk hin => (all a ha).elim (fun z => hk (R.dj k i a hin z)) fun z => z.2.2.2 k hin) (fun a ha => ?_) (fun k hk a ha => ?_) (fun k hk a ha => R.offF k a ha) (fun _ _ => rfl) (fun a ha => ?_) (R.tb.upd (.inr (R.noT i l hl)))
  · rw [upd_ne (ne c (by rw [e]; simp))]
    exact R.le c o e
  · rw [upd_ne (neB c (by rw [e]; simp))]
    exact R.base c o e
  · rw [hv]
    refine ⟨l, vs, g, rfl, rfl, upd_same, hE.keeps (Same.refl _) fun c hc => upd_ne fun z => ?_⟩
    subst z
    exact (List.nodup_cons.mp hg).1 hc
  · by_cases z : a = l
    · rw [z, upd_same]; simp
    · rw [upd_ne z]
      exact (all a ha).elim (R.on i a) fun z => z.2.2.1
  · exact upd_ne fun z => hk (R.dj k i a ha (by rw [z]; exact hl))
  · rcases List.mem_cons.mp ha with z | z
    · rw [z, upd_same]; exact .lst
    · by_cases z2 : a = l
      · rw [z2, upd_same]; exact .lst
      · rw [upd_ne z2]; exact hE.noT a z
def appW (x : AV) (ds : List PyData) (δ : List Sl) : Rs AV := match x with
  | .ref i => (match δ[i]? with
    | some (.ol xs) => if xs.length ≤ cap then .ok (.val .none) (upS i (.ol (xs ++ [.ow ds])) δ) else .bad
    | _ => .bad)
  | _ => .bad
def sAppW (fo fa : List Sl → Rs AV) : List Sl → Rs AV := fun δ => (sSt fo δ).bind fun x δ1 => if isLst δ1 x = true then (match fa δ1 with
    | .ok (.tmp (.ol ys)) δ2 => (match allFz ys with
      | some ds => appW x ds δ2
      | none => .bad)
    | .er e δ2 => .er e δ2
    | _ => .bad)
  else .bad
/-- a fresh list whose items stand still -/
theorem fresh_row {K : PySem.W.Frag} {b : Bk} {Fz : Hp} {F : Nat → List Addr} {σ : L2.St} {H : Hp} {v : V} {ys : List El} {ds : List PyData} (A : AvR K b Fz F H σ v (.tmp (.ol ys))) (h : allFz ys = some ds) : ∃ a ws, v = .ref a ∧ H a = some (.lst ws) ∧ RpL K Fz ws ds ∧ Fz a = none ∧ b.B a = none ∧ ∀ i, a ∉ F i := by
  obtain ⟨_, g, ⟨a, ws, g', e1, e2, e3, e4⟩, hn, hg⟩ := A
  cases e1
  have := hg a (by rw [e2]; exact List.mem_cons_self)
  exact ⟨a, ws, rfl, e3, e4.allFz h, this.1, this.2.1, this.2.2.2⟩
section
variable {X : Cx} {W : WX} {pin : List Nat} {fo fa : List Sl → Rs AV} {o e : Expr} {apos cpos pos : Pos}
theorem se_appW (ho : SE X W pin o fo) (ha : SE X W pin e fa) (hbase : attributeBase o "append" X.env (eval o X.env) = eval o X.env := by rfl) (hline : (apos.endLine == cpos.line) = true := by rfl)
    (hs : starEach [e] X.env = (false, eval e X.env) :: starEach [] X.env := by rfl) (hfew : ((backTo cpos (starEach [e] X.env)).all (fun x => !x.1) && (backToKw cpos (keywordEach [] X.env)).all (fun x => x.1.isSome)
      && decide ([e].length + ([] : List Keyword).length + (if ([] : List Keyword).isEmpty then 0 else 1) < 30)) = true := by rfl) :
    SE X W pin (.Call (.Attribute o "append" apos) [e] [] cpos) (sAppW fo fa) :=
  pe_mono (pe_bm PySem.F.plainAttrs_list PySem.F.slot_list_append PySem.F.type_list_append mt_append (se_st ho) (pa_cons ha pa_nil hs) hbase hfew hline hs rfl) fun σ H Q ⟨b, Fz, F, δ, hp, R, P⟩ => by
    refine rd_bind hp R P fun v H1 Fz1 F1 x δ1 s1 R1 A1 P1 => ?_
    by_cases c : isLst δ1 x = true
    · rw [if_pos c] at P1
      refine ⟨isLst_ty R1 A1 c, ?_⟩
      refine ⟨b, Fz1, F1, δ1, hp, R1, ?_⟩
      cases q : fa δ1 with
      | bad => rw [q] at P1; exact P1.elim
      | er x δ2 => rw [q] at P1; exact P1
      | ok a δ2 =>
        rw [q] at P1
        cases a with
        | val d => exact P1.elim
        | ref i => exact P1.elim
        | tmp s =>
          cases s with
          | ol ys =>
            simp only at P1
            cases q2 : allFz ys with
            | none => rw [q2] at P1; exact P1.elim
            | some ds =>
              rw [q2] at P1
              intro w H2 Fz2 F2 s2 R2 A2
              obtain ⟨a, ws, rfl, h1, h2, h3, h4, h5⟩ := fresh_row A2 q2
              have A1' : AvS X.K Fz2 σ v x := A1.le s2
              cases x with
              | val e => exact P1.elim
              | tmp s => exact P1.elim
              | ref i =>
                have hv : σ[i]? = some (some v) := A1'
                have P1 : Post X.K X.mg W b Fz1 σ Q (match δ2[i]? with
                  | some (.ol xs) => if xs.length ≤ cap then .ok (.val .none) (upS i (.ol (xs ++ [.ow ds])) δ2) else .bad
                  | _ => .bad) := P1
                cases q3 : δ2[i]? with
                | none => simp only [q3] at P1; exact P1.elim
                | some t =>
                  cases t with
                  | ol xs =>
                    simp only [q3] at P1
                    by_cases c2 : xs.length ≤ cap
                    · rw [if_pos c2] at P1
                      obtain ⟨l, vs, g, e1, e2, e3, e4, e5⟩ := R2.own q3 hv
                      subst e1
                      have e6 : ElL X.K Fz2 H2 (g ++ ([a] ++ [])) (vs ++ [.ref a]) (xs ++ [.ow ds]) := e3.app (.cons ⟨a, ws, rfl, rfl, h1, h2⟩ .nil)
                      have ha : a ∉ l :: g := by rw [← e4]; exact h5 i
                      have nd : (l :: (g ++ ([a] ++ []))).Nodup := by
                        have : (l :: g ++ [a]).Nodup := List.nodup_append.mpr ⟨e5, by simp, fun x hx y hy z => by
                          rw [List.mem_singleton.mp hy] at z
                          exact ha (z ▸ hx)⟩
                        simpa using this
                      have R' := R2.mutG q3 hv e6 nd (fun c hc => by
                        rcases List.mem_append.mp hc with hc | hc
                        · exact .inl (by rw [e4]; exact List.mem_cons_of_mem _ hc)
                        · have : c = a := by simpa using hc
                          subst this
                          exact .inr ⟨h3, h4, by rw [h1]; simp, h5⟩)
                      exact ⟨l, vs, .ref a, rfl, rfl, e2, by rw [e3.len]; exact lt_line c2, P1 .non _ Fz2 _ s2 R' .non⟩
                    · rw [if_neg c2] at P1
                      exact P1.elim
                  | _ => simp only [q3] at P1; exact P1.elim
          | _ => exact P1.elim
    · rw [if_neg c] at P1
      exact P1.elim
end
end Hb
namespace Hb
open PySem PySem.Spec PyProof.Rows L2
section
variable {X : Cx} {W : WX} {pin : List Nat} {c : Expr} {p1 p2 p3 apos cpos epos pos : Pos} {y z : Str}
theorem Rl.clearN {K : PySem.W.Frag} {b : Bk} {Fz : Hp} {F : Nat → List Addr} {δ : List Sl} {σ σ' : L2.St} {H : Hp} (R : Rl K b Fz F δ σ H) {i : Nat} (hi : i ∉ b.pin) (hl : σ'.length = σ.length) (hσ : ∀ k, k ≠ i → σ'[k]? = σ[k]?) : Rl K b Fz (fun k => if k = i then [] else F k) (upS i .no δ) σ' H :=
  R.put (Same.refl _) R.le R.base hl hσ (.inr hi) (fun _ => rfl) (fun x j z => nomatch z) List.nodup_nil (fun _ z => nomatch z) (fun _ z => nomatch z) (fun _ z => nomatch z) (fun _ z => nomatch z) (fun _ _ _ _ => rfl) (fun k _ a ha => R.offF k a ha) (fun _ _ => rfl)
end
end Hb
namespace Nv
open PySem Hb L2
open Enc (enc)
section
/-- as everything stands still -/
def frzP : Pt → Pt
  | .eq .no => .eq .no
  | .eq (.al _ _) => .aa
  | .eq s => (match s.tree with
    | some d => .eq (.fz d)
    | none => .aa)
  | .tr d => .eq (.fz d)
  | _ => .aa
theorem frzP_ok {δ : List Sl} {p : Pt} {s : Sl} (h : p.Ok s) : (frzP p).Ok (frzS δ s) := by
  cases p with
  | aa => trivial
  | any => trivial
  | pl => trivial
  | ts d => trivial
  | tr d =>
    show frzS δ s = .fz d
    rcases h with ⟨h, ds, rfl⟩ | rfl
    · show Sl.fz (.list _) = _
      exact congrArg Sl.fz (Option.some.inj h)
    · rfl
  | eq t =>
    have h : s = t := h
    subst h
    cases s with
    | no => exact rfl
    | al x j => trivial
    | fz d => exact rfl
    | ol xs => exact rfl
    | od kvs => exact rfl
theorem Sat.frz {Γ : Ga} {δ δ0 : List Sl} (h : Sat Γ δ) : Sat (Γ.map frzP) (δ.map (frzS δ0)) := by
  induction h with
  | nil => exact .nil
  | cons h1 _ ih => exact .cons (frzP_ok h1) ih
/-- as everything stands still, name by name -/
inductive FrzP : Pt → Pt → Prop
  | no : FrzP (.eq .no) (.eq .no)
  | fz {d : PyData} : FrzP (.eq (.fz d)) (.eq (.fz d))
  | ow {α : Type} [Enc α] {xs : List α} : FrzP (.eq (ow xs)) (.eq (.fz (enc xs)))
  | oww {α : Type} [Enc α] {xs : List (List α)} : FrzP (.eq (oww xs)) (.eq (.fz (enc xs)))
  | od {κ α : Type} [Enc κ] [Enc α] {xs : Dc κ α} : FrzP (.eq (od xs)) (.eq (.fz (enc xs)))
  | tr {d : PyData} : FrzP (.tr d) (.eq (.fz d))
  | ts {d : PyData} : FrzP (.ts d) (.eq (.fz d))
  | aa {p : Pt} : FrzP p .aa
inductive FrzG : Ga → Ga → Prop
  | nil : FrzG [] []
  | cons {p q : Pt} {Γ Δ : Ga} : FrzP p q → FrzG Γ Δ → FrzG (p :: Γ) (q :: Δ)
theorem FrzP.ok {p q : Pt} (z : FrzP p q) {s : Sl} (h : p.Ok s) (δ : List Sl) : q.Ok (frzS δ s) := by
  cases z with
  | no => cases (show s = .no from h); exact rfl
  | fz => cases (show s = .fz _ from h); exact rfl
  | @ow α _ xs =>
    cases (show s = Nv.ow xs from h)
    show Sl.fz _ = _
    exact congrArg Sl.fz (Option.some.inj (ow_tree xs))
  | @oww α _ xs =>
    cases (show s = Nv.oww xs from h)
    show Sl.fz _ = _
    exact congrArg Sl.fz (Option.some.inj (oww_tree xs))
  | od => cases (show s = Nv.od _ from h); exact rfl
  | tr =>
    rcases h with ⟨h, ds, rfl⟩ | rfl
    · show Sl.fz (.list _) = _
      exact congrArg Sl.fz (Option.some.inj h)
    · exact rfl
  | ts =>
    rcases h with ⟨h, ds, rfl⟩ | ⟨rfl, _⟩
    · show Sl.fz (.list _) = _
      exact congrArg Sl.fz (Option.some.inj h)
    · exact rfl
  | aa => trivial
theorem FrzG.sat {Γ Γ0 : Ga} (z : FrzG Γ Γ0) : ∀ {δ : List Sl}, Sat Γ δ → ∀ δ0, Sat Γ0 (δ.map (frzS δ0)) := by
  induction z with
  | nil => intro δ h δ0; cases h; exact .nil
  | cons z _ ih => intro δ h δ0; cases h with | cons h1 h2 => exact .cons (z.ok h1 δ0) (ih h2 δ0)
/-- its values hold nothing -/
class Scal (α : Type) [Enc α] : Prop where
  s : ∀ x : α, scalD (enc x) = true
instance : Scal Int := ⟨fun _ => rfl⟩
instance : Scal Bool := ⟨fun _ => rfl⟩
instance : Scal Str := ⟨fun _ => rfl⟩
instance : Scal Unit := ⟨fun _ => rfl⟩
instance {α : Type} [Enc α] [Scal α] : Scal (Option α) := ⟨fun x => match x with
  | none => rfl
  | some x => Scal.s x⟩
variable {α β γ ε : Type} {Γ : Ga} {f fa : List Sl → Rs AV}
theorem pu_brw [Enc α] [Scal α] {p : Option α} {Γ0 : Ga} (hz : FrzG Γ Γ0) (h : Pu f Γ0 p fun v => .val (enc v)) : Pu (sBrw f) Γ p fun v => .val (enc v) := fun r e δ s => by
  have h1 := h r e _ (hz.sat s δ)
  unfold sBrw
  rw [h1]
  show (if scalD (enc r) = true then _ else _) = _
  rw [if_pos (Scal.s r)]
theorem allFz_row [Enc α] (xs : List α) : Hb.allFz ((xs.map enc).map El.fz) = some (xs.map enc) := allFz_map _
/-- rows.append(a fresh list) -/
theorem ev_appW [Enc α] {k : Nat} {p : Option ε} {va : ε → List α} {xs : ε → List (List α)} {Γ1 : ε → Ga} {s0 : Sl} {es : List El} (h0 : Γ[k]? = some (.eq s0)) (hs0 : s0 = .ol es) (ha : Ev fa Γ p (fun x => .tmp (ow (va x))) Γ1) (h1 : ∀ x, (Γ1 x)[k]? = some (.eq (oww (xs x)))) :
    Ev (sAppW (sVar k) fa) Γ (p.bind fun x => (apL (xs x) (va x)).bind fun ys => some (ys, x)) (fun _ => .val .none) fun r => upP k (.eq (oww r.1)) (Γ1 r.2) := fun r e δ s => by
  obtain ⟨v, e1, e⟩ := bind_of e
  obtain ⟨ys, e2, e⟩ := bind_of e
  cases some_of e
  obtain ⟨δ1, q1, s1⟩ := ha v e1 δ s
  subst hs0
  have hk := s.at_ h0
  have hk1 := s1.at_ (h1 v)
  unfold apL at e2
  by_cases c : (xs v).length ≤ cap
  · rw [if_pos c] at e2
    cases some_of e2
    refine ⟨_, ?_, s1.up (p := .eq (oww (xs v ++ [va v]))) rfl⟩
    unfold sAppW
    rw [sSt_ref (sVar_own hk)]
    show (if isLst δ (.ref k) = true then _ else _) = _
    rw [if_pos (isLst_ref hk), q1]
    show (match Hb.allFz (((va v).map enc).map El.fz) with
      | some ds => Hb.appW (.ref k) ds δ1
      | none => .bad) = _
    rw [allFz_row]
    show (match δ1[k]? with
      | some (Sl.ol xs) => if xs.length ≤ cap then Rs.ok (AV.val .none) (upS k (Sl.ol (xs ++ [El.ow ((va v).map enc)])) δ1) else .bad
      | _ => .bad) = _
    rw [hk1]
    show (if ((xs v).map fun r => El.ow (r.map enc)).length ≤ cap then _ else _) = _
    rw [List.length_map, if_pos c]
    unfold oww
    rw [List.map_append]
    rfl
  · rw [if_neg c] at e2
    cases e2
end
end Nv
namespace Hb
open PySem PySem.Spec PyProof.Rows L2
end Hb
namespace Nv
open PySem Hb L2
open Enc (enc)
section
variable {α β γ ε ζ : Type} {Γ : Ga} {f fa fi f2 : List Sl → Rs AV} {g : List Sl → Ot} {R : ζ → Ot → Prop}
/-- a list of one's own is given away -/
theorem ev_mv [Enc α] {x : List α} (k : Nat) (h : Γ[k]? = some (.eq (ow x))) : Ev (sMv (sVar k)) Γ (some x) (fun v => .tmp (ow v)) fun _ => upP k (.eq .no) Γ := fun v e δ s => by
  cases some_of e
  have hk := s.at_ h
  refine ⟨upS k .no δ, ?_, s.up rfl⟩
  unfold sMv
  rw [sVar_own hk]
  show moveI k δ = _
  unfold moveI
  rw [hk]
  rfl
end
end Nv
namespace Hb
open PySem PySem.Spec PyProof.Rows L2
/-- a test that only looks -/
def sBrwT (t : List Sl → Rs Bool) : List Sl → Rs Bool := fun δ => match t (δ.map (frzS δ)) with
  | .ok k _ => .ok k δ
  | _ => .bad
section
variable {X : Cx} {W : WX} {pin : List Nat} {e : Expr} {t : List Sl → Rs Bool}
theorem st_brw (h : ST X W (unm pin) e t) : ST X W pin e (sBrwT t) := pt_mono h fun σ H Q ⟨b, Fz, F, δ, hp, R, P⟩ => by
  refine ⟨⟨H, H, unm b.pin, b.so, []⟩, H, fun _ => [], δ.map (frzS δ), by rw [← hp], R.still, ?_⟩
  unfold sBrwT at P
  cases q : t (δ.map (frzS δ)) with
  | bad => rw [q] at P; exact P.elim
  | er x δ' => rw [q] at P; exact P.elim
  | ok a δ' =>
    rw [q] at P
    intro H' Fz' F' s1 R'
    exact P H' Fz F (Same.refl _) (R.grow (s1.trans R'.le))
end
end Hb
namespace Nv
open PySem Hb L2
open Enc (enc)
section
variable {α β γ ε : Type} {Γ Γ0 : Ga} {t : List Sl → Rs Bool}
theorem ts_brw {p : Option Bool} (hz : FrzG Γ Γ0) (h : Ts t Γ0 p) : Ts (sBrwT t) Γ p := fun r e δ s => by
  have h1 := h r e _ (hz.sat s δ)
  unfold sBrwT
  rw [h1]
end
end Nv
namespace Hb
open PySem PySem.Spec PyProof.Rows L2
end Hb
namespace Nv
open PySem Hb L2
open Enc (enc)
end Nv
namespace Hb
open PySem PySem.Spec PyProof.Rows L2
end Hb
namespace Nv
open PySem Hb L2
open Enc (enc)
end Nv
namespace Hb
open PySem PySem.Spec PyProof.Rows L2
/-- what is known of a class of errors -/
structure ExcC (K : PySem.W.Frag) (mg : Str → Option Value) (C : Str) (c : Addr) : Prop where
  q : PySem.W.excIn K c He.veBase "ValueError.__new__" = true
  k : PySem.W.keepIn K (.ref c) = true
  b : PySem.W.subIn K (.ref c) (.type "BaseException") = some true
  t : PySem.W.typeIn K (.ref c) = some (.type "type")
  g : mg C = some (.ref c)
def oRaise (C : Str) : List Sl → Ot := fun δ => .er ⟨C, none⟩ δ
section
variable {X : Cx} {W : WX} {pin : List Nat}
theorem ss_raise {C m : Str} {c : Addr} {j : Nat} {p p2 pos pos' : Pos} (hc : X.calm = true) (tk : Takes X W) (e : ExcC X.K X.mg C c) (hg : Gl X C) (hdb : (C == ("__debug__" : Str)) = false := by decide) :
    SS X W pin (.Raise (some (.Call (.Name C p) [.Constant (.str m) j p2] [] pos)) none pos') (oRaise C) :=
  ps_mono (ps_raise hc tk (pmk_own PySem.F.excBase_ValueError e.q e.g e.k (raises_own e.b e.t) hg hdb)) fun D σ H ⟨b, Fz, F, δ, hp, R, P⟩ => P (.ref c) none σ H Fz F (Same.refl _) R ⟨⟨c, e.g, rfl⟩, rfl⟩
/-- whether an error of the one class is one of the other -/
abbrev Mt := List (Str × Str × Bool)
def Mt.at_ (m : Mt) (x y : Str) : Option Bool := (m.find? fun p => p.1 == x && p.2.1 == y).map fun p => p.2.2
def MtOk (K : PySem.W.Frag) (mg : Str → Option Value) (m : Mt) : Prop := ∀ x y b, m.at_ x y = some b → ∀ cx cy, mg x = some (.ref cx) → mg y = some (.ref cy) → PySem.W.exmOne K (.ref cx) (.ref cy) = some b
def hands (m : Mt) : List (Str × (List Sl → Ot)) → Exn → List Sl → Ot
  | [], x, δ => .er x δ
  | (C, h) :: r, x, δ => match m.at_ x.cls C with
    | some true => h δ
    | some false => hands m r x δ
    | none => .bad
/-- the except clauses -/
inductive HdO (X : Cx) (W : WX) (pin : List Nat) : List ExceptHandler → List (Str × (List Sl → Ot)) → Prop
  | nil : HdO X W pin [] []
  | cons {C : Str} {c : Addr} {b₀ : Stmt} {suite : List Stmt} {np pos' : Pos} {hds : List ExceptHandler} {l : List (Str × (List Sl → Ot))} {h : List Sl → Ot} (g : X.mg C = some (.ref c)) (hg : Gl X C) (hd : (C == ("__debug__" : Str)) = false)
      (hsu : ∀ (a : Addr) (oe : Obj) (pn : List (Addr × Obj)), SSs (X.suite a ((a, oe) :: pn)) W pin (b₀ :: suite) h) (r : HdO X W pin hds l) :
      HdO X W pin (.ExceptHandler (some (.Name C np)) none (b₀ :: suite) pos' :: hds) ((C, h) :: l)
def tsOf (K : PySem.W.Frag) (mg : Str → Option Value) (W : WX) (pin : List Nat) (h : List Sl → Ot) : Addr → Value → Option Addr → TS := fun _ _ _ => rdS K mg W pin h
theorem HdO.ok {hds : List ExceptHandler} {l : List (Str × (List Sl → Ot))} (hh : HdO X W pin hds l) : ∃ l' : List (Value × (Addr → Value → Option Addr → TS)), HdsOk X hds l' ∧
    ∀ {m : Mt}, MtOk X.K X.mg m → ∀ {b : Bk} {Fz : Hp} {D : Ends} {x : Exn} {δ : List Sl}, b.pin = pin → PostS X.K X.mg W b Fz D (hands m l x δ) → PostXS X.K X.mg (wMany X.K W D l') b Fz x δ := by
  induction hh with
  | nil => exact ⟨[], .nil, fun _ _ _ _ _ _ _ P => P⟩
  | @cons C c b₀ suite np pos' hds l h g hg hd hsu r ih =>
    obtain ⟨l', o, f⟩ := ih
    refine ⟨(.ref c, tsOf X.K X.mg W pin h) :: l', .cons ⟨hg, hd, .inl g⟩ (fun a oe cls d pn _ _ => hsu a oe pn) o, fun {m} hm {b} {Fz} {D} {x} {δ} hp P => ?_⟩
    intro cv dd σ' H' Fz' F' s R' E
    obtain ⟨⟨cx, gx, e1⟩, _⟩ := id E
    subst e1
    unfold hands at P
    cases q : m.at_ x.cls C with
    | none => rw [q] at P; exact P.elim
    | some bb =>
      rw [q] at P
      refine ⟨bb, hm _ _ _ q cx c gx g, fun e a _ => ?_, fun e => ?_⟩
      · subst e
        exact ⟨b, Fz', F', δ, hp, R', PostS.le s P⟩
      · subst e
        exact f hm hp P (.ref cx) dd σ' H' Fz' F' s R' E
end
/-- the def's own errors go out -/
theorem gx_takes {P : Program} {w : World} {K : PySem.W.Frag} {mg : Str → Option Value} {base : Heap} {N : List Str} {qual : Str} {scope : Scope} {f : Addr} {cd : Value} {A : Around} {outer : List Env} {s : Shared} {H : Hp} {E : XK} :
    Takes (GX P w K mg base N qual scope f cd A outer s H E) (GW E) := takes_of rfl rfl rfl rfl
theorem excC_of {K : PySem.W.Frag} {h : Heap} {mg : Str → Option Value} (X : K.In h) (G : h.Ns mainGlobals mg) {C : Str} (g : mg C = some (.ref (He.ga K C))) (c : (He.Fa.exc C).ok K = true) : ExcC K mg C (He.ga K C) :=
  let ⟨a, b, d, e⟩ := He.exc_ok c
  ⟨a, b, d, e, g⟩
end Hb
namespace Nv
open PySem Hb L2
open Enc (enc)
section
variable {α β γ ε ζ σ ρ : Type} {Γ Γx : Ga} {f : List Sl → Rs AV} {A g : List Sl → Ot} {R : ζ → Ot → Prop}
def Xe (f : List Sl → Rs AV) (Γ : Ga) (p : Option Str) (Γx : Ga) : Prop := ∀ C, p = some C → ∀ δ, Sat Γ δ → ∃ δ', f δ = .er ⟨C, none⟩ δ' ∧ Sat Γx δ'
theorem Xe.st {p : Option Str} (h : Xe f Γ p Γx) : Xe (sSt f) Γ p Γx := fun C e δ s => by
  obtain ⟨δ', h1, h2⟩ := h C e δ s
  exact ⟨δ', by unfold sSt; rw [h1], h2⟩
theorem Xe.tk {p : Option Str} (h : Xe f Γ p Γx) : Xe (sTk f) Γ p Γx := fun C e δ s => by
  obtain ⟨δ', h1, h2⟩ := h.st C e δ s
  exact ⟨δ', by unfold sTk; rw [h1], h2⟩
end
end Nv
namespace Hb
open PySem L2
end Hb
namespace Hb
open PySem PySem.Spec PyProof.Rows L2
end Hb
namespace Nv
open PySem Hb L2
open Enc (enc)
section
variable {α β γ ε ρ ζ : Type} {f g : List Sl → Rs AV} {Γ : Ga}
def owO [Enc α] (v : Option (List α)) : Sl := match v with
  | none => .fz .none
  | some xs => ow xs
theorem rd_owO [Enc α] {v : Option (List α)} (k : Nat) (h : Γ[k]? = some (.eq (owO v))) : Rd (sVar k) Γ (some v) enc := fun z e δ s => by
  cases some_of e
  cases v with
  | none =>
    refine ⟨.val .none, sSt_val ?_, rfl, rfl⟩
    unfold sVar
    rw [s.at_ h]; rfl
  | some xs =>
    obtain ⟨a, h1, h2, h3⟩ := rd_own k h xs rfl δ s
    exact ⟨a, h1, h2, h3⟩
end
section
variable {α β γ ε ρ ζ : Type} {f : List Sl → Rs AV} {g A u : List Sl → Ot} {Γ Γ0 : Ga} {R : ζ → Ot → Prop}
theorem bl_asgO [Enc α] {k : Nat} {p : Option ε} {a : ε → Option (List α)} {Γ1 : ε → Ga} {kont : ε → Option ζ} (h : Ev f Γ p (fun v => AV.ofSl (owO (a v))) Γ1) (k2 : ∀ v, Bl g (upP k (.eq (owO (a v))) (Γ1 v)) (kont v) R) : Bl (oSeq (oAsg f (tgN k)) g) Γ (p.bind kont) R := fun r e δ s => by
  obtain ⟨v, e1, e⟩ := bind_of e
  obtain ⟨δ1, h1, s1⟩ := h v e1 δ s
  rw [nx_of (show oAsg f (tgN k) δ = .nx (upS k (owO (a v)) δ1) by
    have h1 : f δ = Rs.ok (AV.ofSl (owO (a v))) δ1 := h1
    unfold oAsg
    rw [h1]
    generalize a v = z
    cases z <;> rfl)]
  exact k2 v r e _ (s1.up rfl)
/-- as everything stands still -/
inductive FrzQ : Ga → Ga → Prop
  | nil : FrzQ [] []
  | cons {p q : Pt} {Γ Δ : Ga} : FrzP p q → FrzQ Γ Δ → FrzQ (p :: Γ) (q :: Δ)
  | consO {α : Type} [Enc α] {v : Option (List α)} {Γ Δ : Ga} : FrzQ Γ Δ → FrzQ (.eq (owO v) :: Γ) (.eq (.fz (enc v)) :: Δ)
theorem FrzQ.sat {Γ Γ0 : Ga} (z : FrzQ Γ Γ0) : ∀ {δ : List Sl}, Sat Γ δ → ∀ δ0, Sat Γ0 (δ.map (frzS δ0)) := by
  induction z with
  | nil => intro δ h δ0; cases h; exact .nil
  | cons z _ ih => intro δ h δ0; cases h with | cons h1 h2 => exact .cons (z.ok h1 δ0) (ih h2 δ0)
  | @consO α _ v Γ Δ _ ih =>
    intro δ h δ0
    cases h with
    | cons h1 h2 =>
      refine .cons ?_ (ih h2 δ0)
      cases (show _ = owO v from h1)
      show frzS δ0 (owO v) = .fz (enc v)
      cases v with
      | none => rfl
      | some xs => exact congrArg Sl.fz (Option.some.inj (ow_tree xs))
/-- an item of x is forgotten, name by name -/
inductive DrQ (x : Nat) : Ga → Ga → Prop
  | nil : DrQ x [] []
  | cons {p : Pt} {Γ Δ : Ga} : DrQ x Γ Δ → DrQ x (p :: Γ) (dropP x p :: Δ)
  | consO {α : Type} [Enc α] {v : Option (List α)} {Γ Δ : Ga} : DrQ x Γ Δ → DrQ x (.eq (owO v) :: Γ) (.eq (owO v) :: Δ)
theorem DrQ.sat {x : Nat} {Γ Δ : Ga} (z : DrQ x Γ Δ) : ∀ {δ : List Sl}, Sat Γ δ → Sat Δ (dropAl x δ) := by
  induction z with
  | nil => intro δ h; cases h; exact .nil
  | @cons p Γ Δ _ ih =>
    intro δ h
    cases h with
    | @cons _ s _ δ' h1 h2 =>
      have h3 : Sat ([p].map (dropP x)) (dropAl x [s]) := Sat.drop (Sat.cons h1 .nil) x
      cases h3 with
      | cons h4 _ => exact .cons h4 (ih h2)
  | @consO α _ v Γ Δ _ ih =>
    intro δ h
    cases h with
    | cons h1 h2 =>
      refine .cons ?_ (ih h2)
      cases (show _ = owO v from h1)
      cases v <;> exact rfl
end
end Nv
namespace Hb
open PySem PySem.Spec PyProof.Rows L2
def clrX (xs : List Nat) (δ : List Sl) : List Sl := xs.foldl (fun δ x => upS x .no δ) δ
theorem Rl.clr {K : PySem.W.Frag} {b : Bk} {Fz : Hp} {H' : Hp} {σ' : L2.St} : ∀ {xs : List Nat} {F : Nat → List Addr} {δ : List Sl} {σ : L2.St}, Rl K b Fz F δ σ H' → (∀ x ∈ xs, x ∉ b.pin) → σ'.length = σ.length → (∀ k, k ∉ xs → σ'[k]? = σ[k]?) → ∃ F', Rl K b Fz F' (clrX xs δ) σ' H'
  | [], F, δ, σ, R, _, hl, hs => by
    have : σ' = σ := List.ext_getElem? fun k => hs k (by simp)
    subst this
    exact ⟨F, R⟩
  | x :: r, F, δ, σ, R, hp, hl, hs => by
    let σ1 : L2.St := match σ'[x]? with
      | some w => σ.set x w
      | none => σ
    have l1 : σ1.length = σ.length := by
      show (match σ'[x]? with
      | some w => σ.set x w
      | none => σ).length = _
      split
      · rw [List.length_set]
      · rfl
    have e1 : ∀ k, k ≠ x → σ1[k]? = σ[k]? := fun k hk => by
      show (match σ'[x]? with
      | some w => σ.set x w
      | none => σ)[k]? = _
      split
      · rw [List.getElem?_set_ne fun z => hk z.symm]
      · rfl
    have e2 : σ1[x]? = σ'[x]? := by
      show (match σ'[x]? with
      | some w => σ.set x w
      | none => σ)[x]? = _
      cases q : σ'[x]? with
      | none =>
        have := List.getElem?_eq_none_iff.mp q
        show σ[x]? = none
        exact List.getElem?_eq_none (by omega)
      | some w =>
        have := (List.getElem?_eq_some_iff.mp q).1
        exact List.getElem?_set_self (by omega)
    have R1 := R.put (i := x) (s := .no) (g := []) (σ' := σ1) (Same.refl _) R.le R.base l1 e1 (.inr (hp x (by simp))) (fun _ => rfl) (fun _ _ z => nomatch z) List.nodup_nil (fun _ z => nomatch z) (fun _ z => nomatch z) (fun _ z => nomatch z) (fun _ z => nomatch z) (fun _ _ _ _ => rfl) (fun k _ a ha => R.offF k a ha) (fun _ _ => rfl)
    exact Rl.clr (xs := r) R1 (fun y hy => hp y (by simp [hy])) (by omega) fun k hk => by
      by_cases c : k = x
      · subst c; exact e2.symm
      · rw [e1 k c]; exact hs k (by simp [c, hk])
end Hb
namespace Nv
open PySem Hb L2
open Enc (enc)
end Nv
namespace Hb
open PySem PySem.Spec PyProof.Rows L2
end Hb
namespace Hb
open PySem PySem.Spec PyProof.Rows L2
theorem ArOk.grow {K : PySem.W.Frag} {b : Bk} {Fz : Hp} {F : Nat → List Addr} {H H' : Hp} {σ : L2.St} {vs : List V} {ars : List Ar} {G : Nat → List Addr} (A : ArOk K b Fz F H σ vs ars G) (up : Same H H') : ArOk K b Fz F H' σ vs ars G where
  len := A.len
  at_ := fun j a e => by
    obtain ⟨v, e1, h⟩ := A.at_ j a e
    refine ⟨v, e1, ?_⟩
    cases a with
    | fz d => exact h
    | io k => exact h
    | own s =>
      obtain ⟨h1, h2⟩ := h
      refine ⟨h1, h2.keeps (Same.refl _) (fun c hc => ?_) fun x i _ c z => nomatch z⟩
      cases q : H c with
      | none => exact absurd q (A.off j c hc).2.2.1
      | some o => exact up c o q
  nd := A.nd
  dj := A.dj
  off := fun j c hc => by
    obtain ⟨h1, h2, h3, h4⟩ := A.off j c hc
    refine ⟨h1, h2, ?_, h4⟩
    cases q : H c with
    | none => exact absurd q h3
    | some o => rw [up c o q]; simp
end Hb
namespace Nv
open PySem Hb L2
open Enc (enc)
/-- a turn: on, or out with more -/
inductive Fb (σ τ : Type) where
  | nx (s : σ) | bk (t : τ)
def Fb.el {σ τ ζ : Type} (o : Fb σ τ) (f : σ → Option ζ) (g : τ → Option ζ) : Option ζ := match o with
  | .nx s => f s
  | .bk t => g t
end Nv
namespace Hb
open PySem PySem.Spec PyProof.Rows L2
end Hb
namespace Nv
open PySem Hb L2
open Enc (enc)
end Nv
namespace Hb
open PySem PySem.Spec PyProof.Rows L2
def keysOf : List PyData → Option (List Key)
  | [] => some []
  | d :: r => (keyOf d).bind fun k => (keysOf r).map (k :: ·)
def keyT : PyData → Option (List Key)
  | .tuple ds => keysOf ds
  | _ => none
theorem keysOf_D : ∀ ks : List Key, keysOf (ks.map kD) = some ks
  | [] => rfl
  | k :: r => by
    show (keyOf (kD k)).bind _ = _
    rw [keyOf_D]
    show (keysOf (r.map kD)).map (k :: ·) = _
    rw [keysOf_D r]
    rfl
theorem keyT_D (ks : List Key) : keyT (.tuple (ks.map kD)) = some ks := keysOf_D ks
def lookKT (kvs : List (PyData × PyData)) (k : List Key) : Option PyData := (kvs.find? fun p => decide (keyT p.1 = some k)).map (·.2)
def putT (kvs : List (PyData × PyData)) (k : List Key) (d : PyData) : List (PyData × PyData) :=
  if (kvs.any fun p => decide (keyT p.1 = some k)) = true then kvs.map (fun p => if keyT p.1 = some k then (p.1, d) else p) else kvs ++ [(.tuple (k.map kD), d)]
section
variable {K : PySem.W.Frag} {H : Hp}
theorem RpT.look : ∀ {ws : List (List Key × V)} {kvs : List (PyData × PyData)} {k : List Key} {d : PyData}, RpT K H ws kvs → lookKT kvs k = some d → ∃ v, valV ws k = some v ∧ Rp K H v d
  | _, _, k, d, .nil, h => by cases h
  | _, _, k, d, .cons (k := k0) (v := v0) (vs := ws) (d := d0) (ds := kvs) r t, h => by
    unfold lookKT at h
    rw [List.find?_cons] at h
    rw [keyT_D] at h
    by_cases c : k0 = k
    · rw [decide_eq_true (by rw [c])] at h
      cases h
      exact ⟨v0, valV_pos (p := (k0, v0)) c, r⟩
    · have hn : ¬ some k0 = some k := fun z => c (Option.some.inj z)
      rw [decide_eq_false hn] at h
      obtain ⟨v, e1, e2⟩ := RpT.look t h
      exact ⟨v, by rw [valV_neg (p := (k0, v0)) c]; exact e1, e2⟩
theorem RpT.none : ∀ {ws : List (List Key × V)} {kvs : List (PyData × PyData)} {k : List Key}, RpT K H ws kvs → lookKT kvs k = .none → valV ws k = .none
  | _, _, k, .nil, h => rfl
  | _, _, k, .cons (k := k0) (v := v0) (vs := ws) (d := d0) (ds := kvs) r t, h => by
    unfold lookKT at h
    rw [List.find?_cons] at h
    rw [keyT_D] at h
    by_cases c : k0 = k
    · rw [decide_eq_true (by rw [c])] at h
      cases h
    · have hn : ¬ some k0 = some k := fun z => c (Option.some.inj z)
      rw [decide_eq_false hn] at h
      rw [valV_neg (p := (k0, v0)) c]
      exact RpT.none t h
theorem RpT.isSome {ws : List (List Key × V)} {kvs : List (PyData × PyData)} (k : List Key) (t : RpT K H ws kvs) : (valV ws k).isSome = (lookKT kvs k).isSome := by
  cases q : lookKT kvs k with
  | none => rw [t.none q]; rfl
  | some d =>
    obtain ⟨v, e, _⟩ := t.look q
    rw [e]
    rfl
theorem RpT.any : ∀ {ws : List (List Key × V)} {kvs : List (PyData × PyData)} (k : List Key), RpT K H ws kvs → (ws.any fun kv => decide (kv.1 = k)) = kvs.any fun p => decide (keyT p.1 = some k)
  | _, _, k, .nil => rfl
  | _, _, k, .cons (k := k0) r t => by
    rw [List.any_cons, List.any_cons, RpT.any k t, keyT_D]
    congr 1
    by_cases c : k0 = k <;> simp [c]
theorem RpT.app : ∀ {ws us : List (List Key × V)} {kvs lvs : List (PyData × PyData)}, RpT K H ws kvs → RpT K H us lvs → RpT K H (ws ++ us) (kvs ++ lvs)
  | _, _, _, _, .nil, s => s
  | _, _, _, _, .cons r t, s => .cons r (RpT.app t s)
theorem RpT.mapk {v : V} {d : PyData} (h : Rp K H v d) (k : List Key) : ∀ {ws : List (List Key × V)} {kvs : List (PyData × PyData)}, RpT K H ws kvs → RpT K H (ws.map fun kv => if kv.1 = k then (kv.1, v) else kv) (kvs.map fun p => if keyT p.1 = some k then (p.1, d) else p)
  | _, _, .nil => .nil
  | _, _, .cons (k := k0) (v := v0) r t => by
    rw [List.map_cons, List.map_cons]
    have ih := RpT.mapk h k t
    by_cases c : k0 = k
    · rw [if_pos (show (k0, v0).1 = k from c), if_pos (show keyT (.tuple (k0.map kD)) = some k by rw [keyT_D, c])]
      exact .cons h ih
    · rw [if_neg (show ¬ (k0, v0).1 = k from c), if_neg (show ¬ keyT (.tuple (k0.map kD)) = some k by rw [keyT_D]; exact fun z => c (Option.some.inj z))]
      exact .cons r ih
theorem RpT.put {ws : List (List Key × V)} {kvs : List (PyData × PyData)} {v : V} {d : PyData} (t : RpT K H ws kvs) (h : Rp K H v d) (k : List Key) : RpT K H (putK ws k v) (putT kvs k d) := by
  unfold putK putT
  rw [RpT.any k t]
  by_cases c : (kvs.any fun p => decide (keyT p.1 = some k)) = true
  · rw [if_pos c, if_pos c]
    exact RpT.mapk h k t
  · rw [if_neg c, if_neg c]
    exact t.app (.cons h .nil)
/-- a dict without a key that is a tuple of ints and texts: empty, or by keys of another kind; such a dict as one by tuples -/
theorem RpK.noT : ∀ {ws : List (Key × V)} {kvs : List (PyData × PyData)}, RpK K H ws kvs → ws ≠ [] → ∀ k, keyT (kvs.head?.map Prod.fst |>.getD .none) ≠ some k
  | _, _, .nil, h => absurd rfl h
  | _, _, .cons (k := k0) r t, _ => fun k => by cases k0 <;> exact fun z => nomatch z
end
/-- no key of another kind -/
def tupD (kvs : List (PyData × PyData)) : Bool := kvs.all fun p => (keyT p.1).isSome
theorem unl1 {n : Nat} (h : n + 64 < cLine) : n + 1 < cLine := by omega
theorem unl0 {n : Nat} (h : n + 64 < cLine) : n < cLine := by omega
end Hb
namespace Hb
open PySem PySem.Spec PyProof.Rows L2
end Hb
namespace Nv
open PySem Hb L2
open Enc (enc)
/-- tuples of whole numbers -/
class TKy (ξ : Type) [Enc ξ] where
  tp : ξ → Tp Int
  h : ∀ x : ξ, enc x = enc (tp x)
instance : TKy (Tp Int) := ⟨fun x => x, fun _ => rfl⟩
instance : TKy (Int × Int) := ⟨fun x => ⟨[x.1, x.2]⟩, fun _ => rfl⟩
instance : TKy (T3 Int Int Int) := ⟨fun x => ⟨[x.a, x.b, x.c]⟩, fun _ => rfl⟩
instance : TKy (T4 Int Int Int Int) := ⟨fun x => ⟨[x.a, x.b, x.c, x.d]⟩, fun _ => rfl⟩
end Nv
namespace Nv
open PySem Hb L2
open Enc (enc)
section
variable {ζ : Type} {Γ : Ga} {g : List Sl → Ot} {R : ζ → Ot → Prop}
theorem set_same {Γ : Ga} {k : Nat} {p : Pt} (h : Γ[k]? = some p) : Γ.set k p = Γ := by
  obtain ⟨hl, he⟩ := List.getElem?_eq_some_iff.mp h
  rw [← he, List.set_getElem_self]
end
end Nv
namespace Hb
open PySem PySem.Spec PyProof.Rows L2
open PySem.W (AlikeAll)
end Hb
namespace Nv
open PySem Hb L2
open Enc (enc)
end Nv
namespace Hb
open PySem PySem.Spec PyProof.Rows L2
def getT (x y z : AV) (δ : List Sl) : Rs AV := match dicA δ x, (rdC δ y).bind keyT, z with
  | some kvs, some k, .val e => if tupD kvs = true then .ok (.val ((lookKT kvs k).getD e)) δ else .bad
  | _, _, _ => .bad
end Hb
namespace Hb
open PySem PySem.Spec PyProof.Rows L2
end Hb
namespace Hb
open PySem PySem.Spec PyProof.Rows L2
end Hb
namespace Nv
open PySem Hb L2
open Enc (enc)
end Nv
namespace Hb
open PySem PySem.Spec PyProof.Rows L2
end Hb
namespace Hb
open PySem PySem.Spec PyProof.Rows L2
end Hb
namespace Hb
open PySem PySem.Spec PyProof.Rows L2
theorem oRet_if (t : List Sl → Rs Bool) (f g : List Sl → Rs AV) : oRet (sIf t f g) = oIf t (oRet f) (oRet g) := by
  funext δ
  simp only [oRet, oIf, sIf, sMv]
  cases t δ with
  | bad => rfl
  | er x δ' => rfl
  | ok k δ' => cases k <;> rfl
section
variable {X : Cx} {W : WX} {pin : List Nat} {a c d : Expr} {t : List Sl → Rs Bool} {f g : List Sl → Rs AV} {p pos : Pos}
theorem ss_retIf (hc : ST X W pin a t) (ha : SE X W pin c f) (hb : SE X W pin d g) : SS X W pin (.Return (some (.IfExp a c d p)) pos) (oIf t (oRet f) (oRet g)) := by
  rw [← oRet_if]
  exact ss_ret (se_if hc ha hb)
end
end Hb
namespace Nv
open PySem Hb L2
open Enc (enc)
end Nv
namespace Nv
open PySem Hb L2
open Enc (enc)
end Nv
namespace Nv
open PySem Hb L2
open Enc (enc)
def ninA (d e : PyData) : Option Bool := (inD d e).map (! ·)
theorem op_ninA : Op2A (gIn true) ninA fun r => .val (enc r) := fun v w r δ x y h1 h2 e => by
  have h1 : rdA δ x = some v := h1
  have h2 : rdA δ y = some w := h2
  obtain ⟨k, e1, e2⟩ := Option.map_eq_some_iff.mp (show (inD v w).map (! ·) = some r from e)
  subst e2
  simp only [gIn, h1, h2, e1]
  rfl
end Nv
namespace Nv
open PySem Hb L2
open Enc (enc)
end Nv
namespace Hb
open PySem PySem.Spec PyProof.Rows L2
end Hb
namespace Nv
open PySem Hb L2
open Enc (enc)
end Nv
namespace Hb
open PySem PySem.Spec PyProof.Rows L2
end Hb
namespace Hb
open PySem PySem.Spec PyProof.Rows L2
end Hb
namespace Hb
open PySem PySem.Spec PyProof.Rows L2
end Hb
namespace Nv
open PySem Hb L2
open Enc (enc)
end Nv
namespace Nv
open PySem Hb L2
open Enc (enc)
/-- a value as one of a type, if it is one -/
class UnA (α : Type) [Enc α] where
  un : PyData → Option α
  h : ∀ {v : PyData} {w : α}, un v = some w → (enc w : PyData) = v
instance : UnA PyData := ⟨some, fun h => by cases h; rfl⟩
instance : UnA Int := ⟨fun v => match v with | .int i => some i | _ => none, fun {v w} h => by
  cases v <;> first | (cases h; rfl) | exact nomatch h⟩
instance : UnA Str := ⟨fun v => match v with | .str i => some i | _ => none, fun {v w} h => by
  cases v <;> first | (cases h; rfl) | exact nomatch h⟩
def unL [Enc α] [UnA α] : List PyData → Option (List α)
  | [] => some []
  | x :: r => (UnA.un x).bind fun y => (unL r).bind fun ys => some (y :: ys)
theorem unL_h [Enc α] [UnA α] : ∀ {xs : List PyData} {ys : List α}, unL xs = some ys → ys.map enc = xs
  | [], _, h => by cases h; rfl
  | x :: r, ys, h => by
    unfold unL at h
    obtain ⟨y, e1, h⟩ := bind_of h
    obtain ⟨zs, e2, h⟩ := bind_of h
    cases h
    rw [List.map_cons, UnA.h e1, unL_h e2]
instance [Enc α] [UnA α] : UnA (Tp α) := ⟨fun v => match v with | .tuple xs => (unL xs).bind fun ys => some ⟨ys⟩ | _ => none, fun {v w} h => by
  cases v with
  | tuple xs =>
    obtain ⟨ys, e, h⟩ := bind_of (p := unL xs) h
    cases h
    show PyData.tuple (ys.map enc) = _
    rw [unL_h e]
  | _ => exact nomatch h⟩
instance [Enc α] [UnA α] : UnA (List α) := ⟨fun v => match v with | .list xs => unL xs | _ => none, fun {v w} h => by
  cases v with
  | list xs =>
    show PyData.list (w.map enc) = _
    rw [unL_h (xs := xs) h]
  | _ => exact nomatch h⟩
instance [Enc α] [UnA α] [Enc β] [UnA β] : UnA (α × β) := ⟨fun v => match v with | .tuple [x, y] => (UnA.un x).bind fun a => (UnA.un y).bind fun b => some (a, b) | _ => none, fun {v w} h => by
  split at h
  · obtain ⟨a, e1, h⟩ := bind_of h
    obtain ⟨b, e2, h⟩ := bind_of h
    cases h
    show PyData.tuple [enc a, enc b] = _
    rw [UnA.h e1, UnA.h e2]
  · exact nomatch h⟩
instance [Enc α] [UnA α] [Enc β] [UnA β] [Enc γ] [UnA γ] : UnA (T3 α β γ) := ⟨fun v => match v with | .tuple [x, y, z] => (UnA.un x).bind fun a => (UnA.un y).bind fun b => (UnA.un z).bind fun c => some ⟨a, b, c⟩ | _ => none, fun {v w} h => by
  split at h
  · obtain ⟨a, e1, h⟩ := bind_of h
    obtain ⟨b, e2, h⟩ := bind_of h
    obtain ⟨c, e3, h⟩ := bind_of h
    cases h
    show PyData.tuple [enc a, enc b, enc c] = _
    rw [UnA.h e1, UnA.h e2, UnA.h e3]
  · exact nomatch h⟩
instance [Enc α] [UnA α] [Enc β] [UnA β] [Enc γ] [UnA γ] [Enc δ] [UnA δ] : UnA (T4 α β γ δ) := ⟨fun v => match v with | .tuple [x, y, z, t] => (UnA.un x).bind fun a => (UnA.un y).bind fun b => (UnA.un z).bind fun c => (UnA.un t).bind fun d => some ⟨a, b, c, d⟩ | _ => none, fun {v w} h => by
  split at h
  · obtain ⟨a, e1, h⟩ := bind_of h
    obtain ⟨b, e2, h⟩ := bind_of h
    obtain ⟨c, e3, h⟩ := bind_of h
    obtain ⟨d, e4, h⟩ := bind_of h
    cases h
    show PyData.tuple [enc a, enc b, enc c, enc d] = _
    rw [UnA.h e1, UnA.h e2, UnA.h e3, UnA.h e4]
  · exact nomatch h⟩
end Nv
namespace Hb
open PySem PySem.Spec PyProof.Rows L2
end Hb
namespace Nv
open PySem Hb L2
open Enc (enc)
end Nv
namespace Hb
open PySem PySem.Spec PyProof.Rows L2
section
variable {X : Cx} {W : WX} {pin : List Nat} {es ns : List Expr} {g : List Sl → Rs (List Ar)} {pos : Pos}
theorem ArH.new {K : PySem.W.Frag} {Fz H : Hp} {σ : L2.St} {g : List Addr} {v : V} {a : Ar} {p : Addr} {o : HO} (h : ArH K Fz H σ g v a) (io : ∀ k, a ≠ .io k) (hp : p ∉ g) : ArH K Fz (upd H p o) σ g v a := by
  cases a with
  | fz d => exact h
  | own s =>
    refine ⟨h.1, h.2.keeps (Same.refl _) (fun c hc => upd_ne fun e => hp (e ▸ hc)) fun x j _ c e => by simp at e⟩
  | io k => exact absurd rfl (io k)
end
end Hb
namespace Hb
open PySem PySem.Spec PyProof.Rows L2
open PySem.W (AlikeAll)
end Hb
namespace Nv
open PySem Hb L2
open Enc (enc)
end Nv
namespace Nv
open PySem Hb L2
open Enc (enc)
end Nv
namespace Hb
open PySem PySem.Spec PyProof.Rows L2
end Hb
namespace Nv
open PySem Hb L2
open Enc (enc)
end Nv
namespace Hb
open PySem PySem.Spec PyProof.Rows L2
end Hb
namespace Nv
open PySem Hb L2
open Enc (enc)
end Nv
namespace Hb
open PySem PySem.Spec PyProof.Rows L2
theorem RpK.isSome {K : PySem.W.Frag} {H : Hp} {ws : List (Key × V)} {kvs : List (PyData × PyData)} (k : Key) (t : RpK K H ws kvs) : (valV ws k).isSome = (lookK kvs k).isSome := by
  cases q : lookK kvs k with
  | none => rw [t.none q]; rfl
  | some d =>
    obtain ⟨v, e, _⟩ := t.look q
    rw [e]
    rfl
end Hb
namespace Nv
open PySem Hb L2
open Enc (enc)
end Nv
namespace Hb
open PySem PySem.Spec PyProof.Rows L2
end Hb
namespace Hb
open PySem PySem.Spec PyProof.Rows L2
end Hb
namespace Nv
open PySem Hb L2
open Enc (enc)
end Nv
namespace Hb
open PySem PySem.Spec PyProof.Rows L2
end Hb
namespace Nv
open PySem Hb L2
open Enc (enc)
end Nv
namespace Nv
open PySem Hb L2
open Enc (enc)
end Nv
namespace Hb
open PySem PySem.Spec PyProof.Rows L2
end Hb
namespace Nv
open PySem Hb L2
open Enc (enc)
end Nv
namespace Hb
open PySem PySem.Spec PyProof.Rows L2
end Hb
namespace Nv
open PySem Hb L2
open Enc (enc)
end Nv
namespace Hb
open PySem PySem.Spec PyProof.Rows L2
end Hb
namespace Nv
open PySem Hb L2
open Enc (enc)
end Nv
namespace Nv
open PySem Hb L2
open Enc (enc)
end Nv
namespace Hb
open PySem L2 PySem.F
end Hb
namespace Nv
open PySem Hb L2
open Enc (enc)
end Nv
namespace Hb
open PySem PySem.Spec PyProof.Rows L2
end Hb
namespace Hb
open PySem L2 PySem.F
end Hb
namespace Nv
open PySem Hb L2
open Enc (enc)
end Nv
namespace Hb
open PySem PySem.Spec PyProof.Rows L2
end Hb
namespace Nv
open PySem Hb L2
open Enc (enc)
end Nv
namespace Hb
open PySem PySem.Spec PyProof.Rows L2
structure DfnT (P : Program) (w : World) (K : PySem.W.Frag) (mg : Str → Option Value) (base : Heap) (k : Nat) (x : Str) (n : Nat) (F : List Sl → FR) (m : Nat) (dd : List PyData) : Prop where
  ex : ∃ (f : Addr) (fd : FuncData) (ps : List Str) (ds : List Value), mg x = some (.ref f) ∧ PySem.W.keepIn K (.ref f) = true ∧ FnG P w K mg base k f fd ps (spT K mg n F) ∧ Binds K fd ps ds ∧ Vals (dd.map dV) ds ∧ m + dd.length = n ∧ dd.all flatD = true
theorem DfnT.mono {P : Program} {w : World} {K : PySem.W.Frag} {mg : Str → Option Value} {base : Heap} {k j : Nat} {x : Str} {n : Nat} {F : List Sl → FR} {m : Nat} {dd : List PyData} (D : DfnT P w K mg base k x n F m dd) (h : k ≤ j) : DfnT P w K mg base j x n F m dd := by
  obtain ⟨f, fd, ps, ds, h1, h2, h3, h4⟩ := D.ex
  exact ⟨f, fd, ps, ds, h1, h2, h3.mono h, h4⟩
end Hb
namespace Hb
open PySem PySem.Spec PyProof.Rows L2
section
variable {X : Cx} {D a : Addr} {i j : Nat}
variable {x y z : Str} {p p1 p2 p3 p4 pos pos2 : Pos} {b b2 : Bool}
/-- all but the list at l is as it was -/
def SameX (l : Addr) (H H' : Hp) : Prop := ∀ c o, c ≠ l → H c = some o → H' c = some o
theorem SameX.trans {l : Addr} {H H1 H2 : Hp} (h : SameX l H H1) (h2 : SameX l H1 H2) : SameX l H H2 := fun c o n e => h2 c o n (h c o n e)
theorem SameX.of {l : Addr} {H H' : Hp} (h : Same H H') : SameX l H H' := fun c o _ e => h c o e
end
end Hb
namespace Hb
open PySem PySem.Spec PyProof.Rows L2
end Hb
namespace Hb
open PySem PySem.Spec PyProof.Rows L2
end Hb
namespace Hb
open PySem PySem.Spec PyProof.Rows L2
end Hb
namespace Hb
open PySem PySem.Spec PyProof.Rows L2
end Hb
namespace Hb
open PySem PySem.Spec PyProof.Rows L2
end Hb
namespace Nv
open PySem Hb L2
open Enc (enc)
end Nv
namespace Hb
open PySem PySem.Spec PyProof.Rows L2
end Hb
namespace Hb
open PySem PySem.Spec PyProof.Rows L2
end Hb
namespace Hb
open PySem PySem.Spec PyProof.Rows L2
end Hb
namespace Nv
open PySem Hb L2
open Enc (enc)
def neLS (x y : List Str) : Option Bool := (eqD (enc x) (enc y)).map (! ·)
theorem op_neLS : Op2A gNe neLS fun r => .val (enc r) := fun v w r δ x y h1 h2 e => by
  have e : (eqD (enc v) (enc w)).map (! ·) = some r := e
  cases q : eqD (enc v) (enc w) with
  | none => rw [q] at e; cases e
  | some k =>
    rw [q] at e
    cases e
    simp only [gNe, h1, h2, q]
    rfl
end Nv
namespace Hb
open PySem PySem.Spec PyProof.Rows L2
open Evl (Ex)
/-- at a stands an exception of the class C, held as a value; v: its field "number", where it has one -/
def Ev1 (H : Hp) (C a : Addr) : Option V → Prop
  | none => H a = some (ExO (.ref C) a)
  | some v => ∃ d, H a = some (L2.exo a C (some d)) ∧ H d = some (L2.exd d [("number", v)])
theorem Ev1.keep {H H' : Hp} {C a : Addr} {v : Option V} (h : Ev1 H C a v) (e : Ex H H') : Ev1 H' C a v := by
  cases v with
  | none => exact e _ _ h
  | some v =>
    obtain ⟨d, h1, h2⟩ := h
    exact ⟨d, e _ _ h1, e _ _ h2⟩
end Hb
namespace Hb
open PySem PySem.Spec PyProof.Rows L2
open Evl (Ex)
/-- what is known of a value, and stays known while nothing that is followed changes -/
structure Pr where
  p : V → Hp → Prop
  keep : ∀ {v H H'}, Ex H H' → p v H → p v H'
def Prs (ps : List Pr) (vs : List V) (H : Hp) : Prop := Paired (fun (q : Pr) v => q.p v H) ps vs
theorem Prs.keep {ps : List Pr} {vs : List V} {H H' : Hp} (h : Prs ps vs H) (e : Ex H H') : Prs ps vs H' := Paired.mapP h fun q _ z => q.keep e z
theorem Prs.app {ps qs : List Pr} {vs ws : List V} {H : Hp} (h : Prs ps vs H) (g : Prs qs ws H) : Prs (ps ++ qs) (vs ++ ws) H := by
  induction h with
  | nil => exact g
  | cons a _ ih => exact .cons a ih
theorem Prs.len {ps : List Pr} {vs : List V} {H : Hp} (h : Prs ps vs H) : ps.length = vs.length := Paired.length h
end Hb
namespace Hb
open PySem PySem.Spec PyProof.Rows L2
open Evl (Ex)
end Hb
namespace Hb
open PySem PySem.Spec PyProof.Rows L2
open Evl (Ex)
end Hb
namespace Hb
open PySem PySem.Spec PyProof.Rows L2
open Evl (Ex)
end Hb
namespace Hb
open PySem PySem.Spec PyProof.Rows L2
open Evl (Ex)
end Hb
namespace Hb
open PySem PySem.Spec PyProof.Rows L2
open Evl (Ex)
end Hb
namespace Hb
open PySem PySem.Spec PyProof.Rows L2
open Evl (Ex)
def strsD : List PyData → Option (List Str)
  | [] => some []
  | .str x :: r => (strsD r).map (x :: ·)
  | _ => none
theorem strsD_rp {K : PySem.W.Frag} {H : Hp} : ∀ {vs : List V} {ds : List PyData} {ys : List Str}, RpL K H vs ds → strsD ds = some ys → vs = ys.map V.str
  | _, _, _, .nil, h => by cases h; rfl
  | _, _, ys, .cons (d := d) r t, h => by
    cases r with
    | str x =>
      obtain ⟨zs, e1, rfl⟩ := Option.map_eq_some_iff.mp (show (strsD _).map _ = some ys from h)
      rw [strsD_rp t e1]
      rfl
    | _ => cases h
def gJoin (x y : AV) (δ : List Sl) : Rs AV := match rdC δ x, rdC δ y with
  | some (.str a), some (.list ds) => (match strsD ds with
    | some ys => if (ys.map (·.length)).sum + ys.length * a.length ≤ 16777216 then .ok (.val (.str (Txt.join a ys))) δ else .bad
    | none => .bad)
  | _, _ => .bad
def sJoin (fo fa : List Sl → Rs AV) : List Sl → Rs AV := fun δ => (sSt fo δ).bind fun x δ1 => match rdC δ1 x with
  | some (.str _) => (sSt fa δ1).bind fun y δ2 => gJoin x y δ2
  | _ => .bad
section
variable {X : Cx} {W : WX} {pin : List Nat} {fo fa : List Sl → Rs AV} {o e : Expr} {apos pos : Pos}
theorem se_join (ho : SE X W pin o fo) (ha : SE X W pin e fa) (hs : starEach [e] X.env = [(false, eval e X.env)] := by rfl) (hbase : attributeBase o "join" X.env (eval o X.env) = eval o X.env := by rfl) (hline : (apos.endLine == pos.line) = true := by rfl) :
    SE X W pin (.Call (.Attribute o "join" apos) [e] [] pos) (sJoin fo fa) :=
  pe_mono (pe_join (se_st ho) (se_st ha) hs hbase hline) fun σ H Q ⟨b, Fz, F, δ, hp, R, P⟩ => by
    refine rd_bind hp R P fun v H1 Fz1 F1 x δ1 s1 R1 A1 P1 => ?_
    cases q1 : rdC δ1 x with
    | none => simp only [q1] at P1; exact P1.elim
    | some d1 =>
      cases d1 with
      | str a =>
        simp only [q1] at P1
        have ev : v = .str a := by
          rcases rdC_ok R1 A1 q1 with h | ⟨_, _, _, _, e2, _⟩
          · cases h; rfl
          · cases e2
        subst ev
        refine ⟨⟨a, rfl⟩, rd_bind hp R1 P1 fun w H2 Fz2 F2 y δ2 s2 R2 A2 P2 => ?_⟩
        unfold gJoin at P2
        cases q2 : rdC δ2 x with
        | none => simp only [q2] at P2; exact P2.elim
        | some d2 =>
          cases d2 with
          | str a2 =>
            have e2 : a2 = a := by
              rcases rdC_ok R2 (A1.le s2) q2 with h | ⟨_, _, _, _, e2, _⟩
              · cases h; rfl
              · cases e2
            subst e2
            cases q3 : rdC δ2 y with
            | none => simp only [q2, q3] at P2; exact P2.elim
            | some d3 =>
              cases d3 with
              | list ds =>
                simp only [q2, q3] at P2
                cases q4 : strsD ds with
                | none => simp only [q4] at P2; exact P2.elim
                | some ys =>
                  simp only [q4] at P2
                  by_cases c : (ys.map (·.length)).sum + ys.length * a2.length ≤ 16777216
                  · rw [if_pos c] at P2
                    have fin : ∃ p, w = .ref p ∧ SqL X.K H2 p (ys.map V.str) := by
                      rcases rdC_ok R2 A2 q3 with h | ⟨p, vs, ds2, e1, e2, e3, e4⟩
                      · cases h with
                        | lst h1 h2 => exact ⟨_, rfl, by rw [← strsD_rp h2 q4]; exact (same_sqX R2.le h1).sq⟩
                      · cases e2
                        exact ⟨p, e1, by rw [← strsD_rp e4 q4]; exact Evl.sq_of e3⟩
                    obtain ⟨p, rfl, hsq⟩ := fin
                    exact ⟨a2, p, ys, rfl, rfl, .inl hsq, c, P2 _ H2 Fz2 F2 (Same.refl _) R2 (.str _)⟩
                  · rw [if_neg c] at P2
                    exact P2.elim
              | _ => simp only [q2, q3] at P2; exact P2.elim
          | _ => cases q3 : rdC δ2 y <;> (simp only [q2, q3] at P2; exact P2.elim)
      | _ => simp only [q1] at P1; exact P1.elim
end
end Hb
namespace Hb
open PySem PySem.Spec PyProof.Rows L2
def gJoinC (a : Str) (y : AV) (δ : List Sl) : Rs AV := gJoin (.val (.str a)) y δ
def gIxS (x y : AV) (δ : List Sl) : Rs AV := match rdC δ x, rdC δ y with
  | some (.str w), some (.int i) => if w.length ≤ 100000 then (match atI w.cps.toList i with
    | some c => .ok (.val (.str ⟨#[c]⟩)) δ
    | none => .bad) else .bad
  | _, _ => .bad
section
variable {X : Cx} {W : WX} {pin : List Nat} {fa fb : List Sl → Rs AV} {a c e : Expr} {apos pos p : Pos} {j : Nat} {w : Str}
theorem se_joinC (ha : SE X W pin e fa) (hs : starEach [e] X.env = [(false, eval e X.env)] := by rfl) (hbase : attributeBase (.Constant (.str w) j p) "join" X.env (eval (.Constant (.str w) j p) X.env) = eval (.Constant (.str w) j p) X.env := by rfl) (hline : (apos.endLine == pos.line) = true := by rfl) :
    SE X W pin (.Call (.Attribute (.Constant (.str w) j p) "join" apos) [e] [] pos) (s1 (gJoinC w) fa) := se_join se_str ha hs hbase hline
theorem v2_ixS {K : PySem.W.Frag} {mg : Str → Option Value} : V2 K mg W pin rIxS gIxS := by
  intro b Fz F δ σ H v w x y Q hp R A B P
  unfold gIxS at P
  cases q1 : rdC δ x with
  | none => simp only [q1] at P; exact P.elim
  | some d1 =>
    cases q2 : rdC δ y with
    | none => cases d1 <;> (simp only [q1, q2] at P; exact P.elim)
    | some d2 =>
      cases d1 with
      | str z =>
        cases d2 with
        | int i =>
          simp only [q1, q2] at P
          by_cases cl : z.length ≤ 100000
          · rw [if_pos cl] at P
            cases q3 : atI z.cps.toList i with
            | none => simp only [q3] at P; exact P.elim
            | some c =>
              simp only [q3] at P
              have e1 : v = .str z := by
                rcases rdC_ok R A q1 with h | ⟨_, _, _, _, e2, _⟩
                · cases h; rfl
                · cases e2
              have e2 : w = .int i := rpc_int (rdC_ok R B q2)
              exact ⟨z, i, c, e1, e2, Nat.le_trans cl (by decide), q3, P _ H Fz F (Same.refl _) R (.str _)⟩
          · rw [if_neg cl] at P
            exact P.elim
        | _ => simp only [q1, q2] at P; exact P.elim
      | _ => cases d2 <;> (simp only [q1, q2] at P; exact P.elim)
theorem se_ixS (ha : SE X W pin a fa) (hb : SE X W pin c fb) (hs : PlainIx c := by intro _ _; rfl) : SE X W pin (.Subscript a c pos) (s2 gIxS fa fb) :=
  pe_mono (pe_ix ix_str (se_st ha) (se_st hb) hs) fun σ H Q ⟨b, Fz, F, δ, hp, R, P⟩ =>
    rd_bind hp R P fun v H1 Fz1 F1 x δ1 s1 R1 A1 P1 => rd_bind hp R1 P1 fun w H2 Fz2 F2 y δ2 s2 R2 A2 P2 => v2_ixS (K := X.K) (mg := X.mg) (W := W) (pin := pin) b Fz2 F2 δ2 σ H2 v w x y Q hp R2 (A1.le s2) A2 P2
end
end Hb
namespace Nv
open PySem Hb L2
open Enc (enc)
def joinN (a : Str) (ys : List Str) : Option Str := if (ys.map (·.length)).sum + ys.length * a.length ≤ 16777216 then some (Txt.join a ys) else none
theorem strsD_enc : ∀ ys : List Str, strsD (ys.map enc) = some ys
  | [] => rfl
  | y :: r => by
    show (strsD (r.map enc)).map (y :: ·) = _
    rw [strsD_enc r]
    rfl
theorem op_join {a : Str} : Op1 (gJoinC a) (joinN a) fun r => .val (enc r) := fun v r δ x h _ e => by
  unfold joinN at e
  split at e
  · rename_i c
    cases e
    have h : rdC δ x = some (.list (v.map enc)) := h
    have g : rdC δ (AV.val (.str a)) = some (.str a) := rfl
    unfold gJoinC gJoin
    simp only [g, h, strsD_enc]
    exact if_pos c
  · cases e
def atS (w : Str) (i : Int) : Option Str := if w.length ≤ 100000 then (atI w.cps.toList i).map fun c => ⟨#[c]⟩ else none
theorem op_ixS : Op2 gIxS atS fun r => .val (enc r) := fun v w r δ x y h1 _ h2 _ e => by
  unfold atS at e
  split at e
  · rename_i c
    obtain ⟨k, e1, rfl⟩ := Option.map_eq_some_iff.mp e
    have h1 : rdC δ x = some (.str v) := h1
    have h2 : rdC δ y = some (.int w) := h2
    unfold gIxS
    rw [h1, h2]
    show (if v.length ≤ 100000 then (match atI v.cps.toList w with
      | some c => Rs.ok (AV.val (.str ⟨#[c]⟩)) δ
      | none => .bad) else .bad) = _
    rw [if_pos c, e1]
    rfl
  · cases e
end Nv
namespace Hb
open PySem PySem.Spec PyProof.Rows L2
def signsD (x : Str) : List PyData := x.cps.toList.map fun c => .str ⟨#[c]⟩
theorem signsD_len (x : Str) : (signsD x).length = x.cps.size := by simp [signsD]
theorem wk_str {K : PySem.W.Frag} {Fz0 : Hp} (x : Str) : Wk K Fz0 (Its x) (signsD x) := fun b Fz F δ σ H s R => by
  refine ⟨fun i hi => ⟨by rw [signsD_len] at hi; exact hi, fun v H' y => ?_⟩, by rw [signsD_len]; exact Nat.le_refl _⟩
  obtain ⟨rfl, c, hc, rfl⟩ := y
  refine ⟨Fz, .str ⟨#[c]⟩, ?_, Same.refl _, R, .str _⟩
  unfold signsD
  rw [List.getElem?_map, Array.getElem?_toList, hc]
  rfl
def wStr (f : List Sl → Rs AV) : List Sl → Rs (List PyData) := fun δ => (sTk f δ).val fun d δ' => match d with
  | .str x => .ok (signsD x) δ'
  | _ => .bad
section
variable {X : Cx} {W : WX} {pin : List Nat} {f fo fa : List Sl → Rs AV} {e o tg : Expr} {apos pos : Pos}
theorem si_str (h : SE X W pin e f) : SI X W pin tg e (wStr f) := pi_mono (pi_str (se_tk h)) fun σ H R ⟨b, Fz, F, δ, hp, Rr, P⟩ => by
  refine rd_valI hp Rr P fun v H' Fz' F' d δ' s R' A P' => ?_
  cases d with
  | str x =>
    cases A
    exact ⟨x, rfl, P' _ H' Fz' F' (Same.refl _) R' (wk_str x)⟩
  | _ => exact P'.elim
def sM1 (g : AV → AV → List Sl → Rs AV) (fo fa : List Sl → Rs AV) : List Sl → Rs AV := fun δ => (sSt fo δ).bind fun x δ1 => match rdC δ1 x with
  | some (.str _) => (sSt fa δ1).bind fun y δ2 => g x y δ2
  | _ => .bad
theorem m1_ok {r : V → List V → Hp → VK → Prop} {g : AV → AV → List Sl → Rs AV}
    (hv : ∀ b Fz F δ σ H v w x y Q, b.pin = pin → Rl X.K b Fz F δ σ H → AvS X.K Fz σ v x → AvS X.K Fz σ w y → Post X.K X.mg W b Fz σ Q (g x y δ) → r v [w] H Q) :
    ∀ σ H Q, rdE X.K X.mg W pin (sM1 g fo fa) σ H Q → tM1 r (rdE X.K X.mg W pin (sSt fo)) (rdE X.K X.mg W pin (sSt fa)) σ H Q := fun σ H Q ⟨b, Fz, F, δ, hp, R, P⟩ => by
  refine rd_bind hp R P fun v H1 Fz1 F1 x δ1 s1 R1 A1 P1 => ?_
  cases q1 : rdC δ1 x with
  | none => simp only [q1] at P1; exact P1.elim
  | some d1 =>
    cases d1 with
    | str a =>
      simp only [q1] at P1
      have ev : v = .str a := rpc_str (rdC_ok R1 A1 q1)
      refine ⟨⟨a, ev⟩, rd_bind hp R1 P1 fun w H2 Fz2 F2 y δ2 s2 R2 A2 P2 => ?_⟩
      exact hv b Fz2 F2 δ2 σ H2 v w x y Q hp R2 (A1.le s2) A2 P2
    | _ => simp only [q1] at P1; exact P1.elim
def gSplit (x y : AV) (δ : List Sl) : Rs AV := match rdC δ x, rdC δ y with
  | some (.str a), some (.str c) => if (c.length == 0) = false ∧ a.length ≤ cap then .ok (.tmp (.ol (((Txt.split a c).map .str).map .fz))) δ else .bad
  | _, _ => .bad
def gPart (x y : AV) (δ : List Sl) : Rs AV := match rdC δ x, rdC δ y with
  | some (.str a), some (.str c) => if (c.length == 0) = false ∧ a.length ≤ cap then .ok (.val (.tuple [.str (Txt.partition a c).1, .str (Txt.partition a c).2.1, .str (Txt.partition a c).2.2])) δ else .bad
  | _, _ => .bad
theorem rplStrs {K : PySem.W.Frag} {H : Hp} : ∀ ys : List Str, RpL K H (ys.map V.str) (ys.map .str)
  | [] => .nil
  | y :: r => .cons (.str y) (rplStrs r)
theorem capL {n : Nat} (h : n ≤ cap) : n + 2 ≤ sizeLine := Nat.le_trans (Nat.add_le_add_right h 2) (by decide)
theorem se_split (ho : SE X W pin o fo) (ha : SE X W pin e fa) (hs : starEach [e] X.env = [(false, eval e X.env)] := by rfl) (hbase : attributeBase o "split" X.env (eval o X.env) = eval o X.env := by rfl) (hline : (apos.endLine == pos.line) = true := by rfl) :
    SE X W pin (.Call (.Attribute o "split" apos) [e] [] pos) (sM1 gSplit fo fa) :=
  pe_mono (pe_split (se_st ho) (se_st ha) hs hbase hline) (m1_ok fun b Fz F δ σ H v w x y Q hp R A B P => by
    unfold gSplit at P
    cases q1 : rdC δ x with
    | none => simp only [q1] at P; exact P.elim
    | some d1 =>
      cases q2 : rdC δ y with
      | none => cases d1 <;> (simp only [q1, q2] at P; exact P.elim)
      | some d2 =>
        cases d1 with
        | str a =>
          cases d2 with
          | str c =>
            simp only [q1, q2] at P
            by_cases z : (c.length == 0) = false ∧ a.length ≤ cap
            · rw [if_pos z] at P
              exact ⟨a, c, rpc_str (rdC_ok R A q1), by rw [rpc_str (rdC_ok R B q2)], z.1, capL z.2, fun p hp => post_newL R (rplStrs _) P p hp⟩
            · rw [if_neg z] at P
              exact P.elim
          | _ => simp only [q1, q2] at P; exact P.elim
        | _ => cases d2 <;> (simp only [q1, q2] at P; exact P.elim))
theorem se_part (ho : SE X W pin o fo) (ha : SE X W pin e fa) (hs : starEach [e] X.env = [(false, eval e X.env)] := by rfl) (hbase : attributeBase o "partition" X.env (eval o X.env) = eval o X.env := by rfl) (hline : (apos.endLine == pos.line) = true := by rfl) :
    SE X W pin (.Call (.Attribute o "partition" apos) [e] [] pos) (sM1 gPart fo fa) :=
  pe_mono (pe_partition (se_st ho) (se_st ha) hs hbase hline) (m1_ok fun b Fz F δ σ H v w x y Q hp R A B P => by
    unfold gPart at P
    cases q1 : rdC δ x with
    | none => simp only [q1] at P; exact P.elim
    | some d1 =>
      cases q2 : rdC δ y with
      | none => cases d1 <;> (simp only [q1, q2] at P; exact P.elim)
      | some d2 =>
        cases d1 with
        | str a =>
          cases d2 with
          | str c =>
            simp only [q1, q2] at P
            by_cases z : (c.length == 0) = false ∧ a.length ≤ cap
            · rw [if_pos z] at P
              exact ⟨a, c, rpc_str (rdC_ok R A q1), by rw [rpc_str (rdC_ok R B q2)], z.1, le_line z.2, fun p hp => post_newT R (.cons (.str _) (.cons (.str _) (.cons (.str _) .nil))) P p hp⟩
            · rw [if_neg z] at P
              exact P.elim
          | _ => simp only [q1, q2] at P; exact P.elim
        | _ => cases d2 <;> (simp only [q1, q2] at P; exact P.elim))
def gInS (n : Bool) (x y : AV) (δ : List Sl) : Rs AV := match rdC δ x, rdC δ y with
  | some (.str a), some (.str z) => (match a.cps.toList with
    | [c] => .ok (.val (.bool (if n = true then !decide (c ∈ z.cps.toList) else decide (c ∈ z.cps.toList)))) δ
    | _ => .bad)
  | _, _ => .bad
def rInSg (n : Bool) : R2 := fun x y H Q => ∃ (c : Nat) (z : Str), x = .str ⟨#[c]⟩ ∧ y = .str z ∧ Q (.bl (if n = true then !decide (c ∈ z.cps.toList) else decide (c ∈ z.cps.toList))) H
theorem v2_inS {K : PySem.W.Frag} {mg : Str → Option Value} {n : Bool} : V2 K mg W pin (rInSg n) (gInS n) := by
  intro b Fz F δ σ H v w x y Q hp R A B P
  unfold gInS at P
  cases q1 : rdC δ x with
  | none => simp only [q1] at P; exact P.elim
  | some d1 =>
    cases q2 : rdC δ y with
    | none => cases d1 <;> (simp only [q1, q2] at P; exact P.elim)
    | some d2 =>
      cases d1 with
      | str a =>
        cases d2 with
        | str z =>
          simp only [q1, q2] at P
          cases q3 : a.cps.toList with
          | nil => simp only [q3] at P; exact P.elim
          | cons c r =>
            cases r with
            | nil =>
              simp only [q3] at P
              have e : a = ⟨#[c]⟩ := TL.ext_tl (by show a.cps.toList = _; rw [q3])
              exact ⟨c, z, by rw [rpc_str (rdC_ok R A q1), e], rpc_str (rdC_ok R B q2), P _ H Fz F (Same.refl _) R (.bl _)⟩
            | cons => simp only [q3] at P; exact P.elim
        | _ => simp only [q1, q2] at P; exact P.elim
      | _ => cases d2 <;> (simp only [q1, q2] at P; exact P.elim)
theorem op_inSg : OpR X (compareOp .In) (rInSg false) := op_in_sign
theorem se_inS (ha : SE X W pin o fo) (hb : SE X W pin e fa) (hm : behindInMarks .In e = false := by with_unfolding_all rfl) : SE X W pin (.Compare o [.In] [e] pos) (s2 (gInS false) fo fa) := se_cmp op_inSg v2_inS ha hb hm
def gIntS (x : AV) (δ : List Sl) : Rs AV := match rdC δ x with
  | some (.str a) => (match PySem.intText? a with
    | some n => if a.length ≤ 640 then .ok (.val (.int n)) δ else .bad
    | none => .bad)
  | _ => .bad
theorem c1_intS {K : PySem.W.Frag} {mg : Str → Option Value} : C1 K mg W pin (fun xs H Q => ∃ a n, xs = [.str a] ∧ PySem.intText? a = some n ∧ a.length ≤ 640 ∧ Q (.int n) H) gIntS := by
  intro b Fz F δ σ H v x Q hp R A P
  unfold gIntS at P
  cases q1 : rdC δ x with
  | none => simp only [q1] at P; exact P.elim
  | some d1 =>
    cases d1 with
    | str a =>
      simp only [q1] at P
      cases q2 : PySem.intText? a with
      | none => simp only [q2] at P; exact P.elim
      | some n =>
        simp only [q2] at P
        by_cases z : a.length ≤ 640
        · rw [if_pos z] at P
          exact ⟨a, n, by rw [rpc_str (rdC_ok R A q1)], q2, z, P _ H Fz F (Same.refl _) R (.int _)⟩
        · rw [if_neg z] at P
          exact P.elim
    | _ => simp only [q1] at P; exact P.elim
end
end Hb
namespace Nv
open PySem Hb L2
open Enc (enc)
def signsL (x : Str) : List Str := x.cps.toList.map fun c => ⟨#[c]⟩
theorem signsL_enc (x : Str) : (signsL x).map enc = signsD x := by
  unfold signsL signsD
  rw [List.map_map]
  rfl
section
variable {Γ : Ga} {f g : List Sl → Rs AV} {β : Type}
theorem ip_str {p : Option β} {xs : β → Str} (h : Pu (sTk f) Γ p fun v => .val (enc (xs v))) : ItP (wStr f) Γ p fun v => (signsL (xs v)).map enc := fun v e δ s => by
  unfold wStr
  rw [val_of (h v e δ s)]
  show Rs.ok (signsD (xs v)) δ = Rs.ok ((signsL (xs v)).map enc) δ
  rw [signsL_enc]
theorem rd_s1 {p : Option Str} {δ : List Sl} (h : Rd f Γ p enc) {v : Str} (e : p = some v) (s : Sat Γ δ) : ∃ a, sSt f δ = .ok a δ ∧ rdC δ a = some (.str v) := by
  obtain ⟨a, h1, h2, _⟩ := h v e δ s
  exact ⟨a, h1, h2⟩
theorem pu_m1 {γ : Type} {op : Str → Str → Option γ} {a : γ → AV} {k : AV → AV → List Sl → Rs AV} (o : ∀ v w r δ x y, rdC δ x = some (.str v) → rdC δ y = some (.str w) → op v w = some r → k x y δ = .ok (a r) δ)
    {p q : Option Str} (h1 : Rd f Γ p enc) (h2 : Rd g Γ q enc) : Pu (sM1 k f g) Γ (p.bind fun v => q.bind fun w => op v w) a := fun r e δ s => by
  obtain ⟨v, e1, e⟩ := bind_of e
  obtain ⟨w, e2, e⟩ := bind_of e
  obtain ⟨x, k1, k2⟩ := rd_s1 h1 e1 s
  obtain ⟨y, l1, l2⟩ := rd_s1 h2 e2 s
  unfold sM1
  rw [k1]
  show (match rdC δ x with
    | some (.str _) => (sSt g δ).bind fun y δ2 => k x y δ2
    | _ => .bad) = _
  rw [k2]
  show (sSt g δ).bind (fun y δ2 => k x y δ2) = _
  rw [l1]
  exact o v w r δ x y k2 l2 e
def splitN (a c : Str) : Option (List Str) := if (c.length == 0) = false ∧ a.length ≤ cap then some (Txt.split a c) else none
theorem op_split (v w : Str) (r : List Str) (δ : List Sl) (x y : AV) (h1 : rdC δ x = some (.str v)) (h2 : rdC δ y = some (.str w)) (e : splitN v w = some r) : gSplit x y δ = .ok (.tmp (ow r)) δ := by
  unfold splitN at e
  split at e
  · rename_i c
    cases e
    unfold gSplit
    simp only [h1, h2, if_pos c]
    rfl
  · cases e
def partN (a c : Str) : Option (T3 Str Str Str) := if (c.length == 0) = false ∧ a.length ≤ cap then some ⟨(Txt.partition a c).1, (Txt.partition a c).2.1, (Txt.partition a c).2.2⟩ else none
theorem op_part (v w : Str) (r : T3 Str Str Str) (δ : List Sl) (x y : AV) (h1 : rdC δ x = some (.str v)) (h2 : rdC δ y = some (.str w)) (e : partN v w = some r) : gPart x y δ = .ok (.val (enc r)) δ := by
  unfold partN at e
  split at e
  · rename_i c
    cases e
    unfold gPart
    simp only [h1, h2, if_pos c]
    rfl
  · cases e
theorem pu_joinV {p : Option Str} {q : Option (List Str)} (h1 : Rd f Γ p enc) (h2 : Rd g Γ q enc) : Pu (sJoin f g) Γ (p.bind fun v => q.bind fun w => joinN v w) fun r => .val (enc r) := fun r e δ s => by
  obtain ⟨v, e1, e⟩ := bind_of e
  obtain ⟨w, e2, e⟩ := bind_of e
  obtain ⟨x, k1, k2⟩ := rd_s1 h1 e1 s
  obtain ⟨y, l1, l2, l3⟩ := h2 w e2 δ s
  unfold sJoin
  rw [k1]
  show (match rdC δ x with
    | some (.str _) => (sSt g δ).bind fun y δ2 => gJoin x y δ2
    | _ => .bad) = _
  rw [k2]
  show (sSt g δ).bind (fun y δ2 => gJoin x y δ2) = _
  rw [l1]
  show gJoin x y δ = _
  have := op_join (a := v) w r δ y l2 l3 e
  unfold gJoinC gJoin at this
  unfold gJoin
  rw [k2]
  exact this
end
def inS (w z : Str) : Option Bool := match w.cps.toList with
  | [c] => some (decide (c ∈ z.cps.toList))
  | _ => none
theorem inS_of {w z : Str} {r : Bool} (e : inS w z = some r) : ∃ c, w.cps.toList = [c] ∧ r = decide (c ∈ z.cps.toList) := by
  unfold inS at e
  split at e
  · rename_i c q
    cases e
    exact ⟨c, q, rfl⟩
  · cases e
theorem op_inS : Op2 (gInS false) inS fun r => .val (enc r) := fun v w r δ x y h1 _ h2 _ e => by
  have h1 : rdC δ x = some (.str v) := h1
  have h2 : rdC δ y = some (.str w) := h2
  obtain ⟨c, q, rfl⟩ := inS_of e
  unfold gInS
  simp only [h1, h2, q]
  rfl
def intS (w : Str) : Option Int := if w.length ≤ 640 then PySem.intText? w else none
theorem op_intS : Op1 gIntS intS fun r => .val (enc r) := fun v r δ x h _ e => by
  have h : rdC δ x = some (.str v) := h
  unfold intS at e
  split at e
  · rename_i c
    unfold gIntS
    simp only [h, e, if_pos c]
    rfl
  · cases e
end Nv
namespace Nv
open PySem Hb L2
open Enc (enc)
section
variable {α ζ : Type} {Γ : Ga} {g : List Sl → Ot} {R : ζ → Ot → Prop}
theorem bl_reOw [Enc α] {k : Nat} {o : Option (List α)} {p : List α → Option ζ} (h0 : Γ[k]? = some (.eq (owO o))) (h : ∀ y, Bl g (Γ.set k (.eq (ow y))) (p y) R) : Bl g Γ (o.bind p) R := fun r e δ s => by
  obtain ⟨y, e1, e2⟩ := bind_of e
  refine h y r e2 δ ?_
  subst e1
  rw [set_same (p := .eq (ow y)) h0]
  exact s
/-- `x, y = e, f(..)`: the second is none or a list of one's own -/
theorem bl_par2O {α β ε η : Type} [Enc α] [Enc β] {i j : Nat} {f1 f2 : List Sl → Rs AV} {p : Option ε} {a : ε → α} {Γ1 : ε → Ga} {q : ε → Option η} {b : ε → η → Option (List β)} {Γ2 : ε → η → Ga} {kont : ε → η → Option ζ}
    (h1 : Ev f1 Γ p (fun v => .val (enc (a v))) Γ1) (h2 : ∀ v, Ev f2 (Γ1 v) (q v) (fun w => AV.ofSl (owO (b v w))) (Γ2 v)) (k2 : ∀ v w, Bl g (upP j (.eq (owO (b v w))) (upP i (.eq (.fz (enc (a v)))) (Γ2 v w))) (kont v w) R) :
    Bl (oSeq (oPar [i, j] (rCons f1 (rCons f2 rNil))) g) Γ (p.bind fun v => (q v).bind fun w => kont v w) R := fun r e δ s => by
  obtain ⟨v, e1, e⟩ := bind_of e
  obtain ⟨w, e2, e⟩ := bind_of e
  obtain ⟨δ1, k1, s1⟩ := h1 v e1 δ s
  obtain ⟨δ2, l1, s2⟩ := h2 v w e2 δ1 s1
  have s3 : Sat (upP i (.eq (.fz (enc (a v)))) (Γ2 v w)) (upS i (.fz (enc (a v))) δ2) := s2.up rfl
  have s4 : Sat (upP j (.eq (owO (b v w))) (upP i (.eq (.fz (enc (a v)))) (Γ2 v w))) (upS j (owO (b v w)) (upS i (.fz (enc (a v))) δ2)) := s3.up rfl
  have st : oPar [i, j] (rCons f1 (rCons f2 rNil)) δ = .nx (upS j (owO (b v w)) (upS i (.fz (enc (a v))) δ2)) := by
    have k1 : f1 δ = Rs.ok (AV.val (enc (a v))) δ1 := k1
    have l1 : f2 δ1 = Rs.ok (AV.ofSl (owO (b v w))) δ2 := l1
    unfold oPar rCons
    rw [k1]
    show (match (Rs.bind (f2 δ1) _ : Rs (List Ar)).bind _ with
      | .ok ars δ' => if noIo ars = true then asgA [i, j] ars δ' else .bad
      | .er x δ' => .er x δ'
      | .bad => .bad) = _
    rw [l1]
    generalize b v w = z
    cases z <;> rfl
  rw [nx_of st]
  exact k2 v w r e _ s4
end
end Nv
namespace Hb
open PySem PySem.Spec PyProof.Rows L2
/-- new rows of whole things -/
inductive Own (H : Hp) : List Addr → List V → List (List PyData) → Prop
  | nil : Own H [] [] []
  | cons {a : Addr} {r : List PyData} {g : List Addr} {ws : List V} {rs : List (List PyData)} : H a = some (.lst (r.map dV)) → Own H g ws rs → Own H (a :: g) (.ref a :: ws) (r :: rs)
def owRows : List El → Option (List (List PyData))
  | [] => some []
  | .ow r :: es => (owRows es).map (r :: ·)
  | .fz _ :: _ => none
theorem rp_dV {K : PySem.W.Frag} {H : Hp} {v : V} {d : PyData} (h : Rp K H v d) (f : flatD d = true) : v = dV d := by
  cases h <;> first | rfl | cases f
theorem rpl_dV {K : PySem.W.Frag} {H : Hp} : ∀ {vs : List V} {ds : List PyData}, RpL K H vs ds → ds.all flatD = true → vs = ds.map dV
  | _, _, .nil, _ => rfl
  | _, _, .cons h t, f => by
    rw [List.all_cons, Bool.and_eq_true] at f
    rw [rp_dV h f.1, rpl_dV t f.2]
    rfl
theorem dV_rpl {K : PySem.W.Frag} {H : Hp} : ∀ {ds : List PyData}, ds.all flatD = true → RpL K H (ds.map dV) ds
  | [], _ => .nil
  | d :: r, f => by
    rw [List.all_cons, Bool.and_eq_true] at f
    exact .cons (rp_flat f.1) (dV_rpl f.2)
theorem own_of {K : PySem.W.Frag} {Fz H : Hp} : ∀ {g : List Addr} {ws : List V} {es : List El} {rs : List (List PyData)}, ElL K Fz H g ws es → owRows es = some rs → (rs.all fun r => r.all flatD) = true → Own H g ws rs
  | _, _, _, _, .nil, h, _ => by cases h; exact .nil
  | _, _, _, _, .cons (e := .fz d) h t, q, _ => by cases q
  | _, _, _, rs, .cons (e := .ow r) (es := es) h t, q, f => by
    cases q2 : owRows es with
    | none => rw [owRows, q2] at q; cases q
    | some rs' =>
      rw [owRows, q2] at q
      cases q
      rw [List.all_cons, Bool.and_eq_true] at f
      obtain ⟨a, vs, rfl, rfl, h3, h4⟩ := h
      rw [rpl_dV h4 f.1] at h3
      exact .cons h3 (own_of t q2 f.2)
/-- a tuple of a list of own rows and a list -/
structure PairAt (H0 H : Hp) (p : Addr) (rs : List (List PyData)) (ds : List PyData) : Prop where
  ex : ∃ a c ws g, H p = some (.tup [.ref a, .ref c]) ∧ H a = some (.lst ws) ∧ Own H g ws rs ∧ H c = some (.lst (ds.map dV)) ∧ (a :: c :: g).Nodup ∧ ∀ x ∈ a :: c :: g, H0 x = none
def spP (K : PySem.W.Frag) (n : Nat) (f : List Sl → Option (List (List PyData) × List PyData)) : Sp := fun vs H Q _ => vs.length = n ∧ ∃ (δ : List Sl) (rs : List (List PyData)) (ds : List PyData), δ.length = n ∧
  (∀ (i : Nat) (s : Sl), δ[i]? = some s → ∃ d v, s = Sl.fz d ∧ vs[i]? = some v ∧ Rp K H v d) ∧ f δ = some (rs, ds) ∧ ∀ p H', Same H H' → H p = none → PairAt H H' p rs ds → Q (.ref p) H'
def pairF (fb : List Sl → Ot) (n m i j : Nat) : List Sl → Option (List (List PyData) × List PyData) := fun δ => match fb (δ ++ List.replicate (m - n) .no) with
  | .nx δ' => (match δ'[i]?, δ'[j]? with
    | some (.ol rows), some (.ol vs) => (match owRows rows, allFz vs with
      | some rs, some ds => if (rs.all fun r => r.all flatD) = true ∧ ds.all flatD = true then some (rs, ds) else none
      | _, _ => none)
    | _, _ => none)
  | _ => none
section
variable {K : PySem.W.Frag} {mg : Str → Option Value} {W : WX} {pin : List Nat}
/-- a body: some statements among slots, then one by itself -/
def tFront (K : PySem.W.Frag) (mg : Str → Option Value) (W : WX) (pin : List Nat) (f : List Sl → Ot) (t : TS) : TS := fun D σ H => rdS K mg W pin f { D with nx := t D } σ H
end
section
variable {X : Cx} {W : WX} {pin : List Nat} {st s1 s2 s3 s4 : Stmt} {f f1 f2 f3 f4 : List Sl → Ot} {t : TS} {sts : List Stmt}
theorem front_one (h : SS X W pin st f) (h2 : PSs X sts t) : PSs X (st :: sts) (tFront X.K X.mg W pin f t) := pss_cons h h2
theorem front_cons {g : List Sl → Ot} (h : SS X W pin st f) (h2 : PSs X sts (tFront X.K X.mg W pin g t)) : PSs X (st :: sts) (tFront X.K X.mg W pin (oSeq f g) t) := pss_mono (pss_cons h h2) fun D σ H q => by
  have q := seq_ok (K := X.K) (mg := X.mg) (W := W) (pin := pin) { D with nx := t D } σ H q
  exact q
end
/-- nothing is one's own: all that is there is the ground -/
theorem rl_ground {K : PySem.W.Frag} {σ : L2.St} {H : Hp} {δ : List Sl} {pin : List Nat} (hm : mkT ∉ pin) (hl : σ.length = δ.length) (h : ∀ (i : Nat) (s : Sl), δ[i]? = some s → s = Sl.no ∨ ∃ d v, s = Sl.fz d ∧ σ[i]? = some (some v) ∧ Rp K H v d) :
    Rl K ⟨H, H, pin, σ, []⟩ H (fun _ => []) δ σ H where
  le := Same.refl _
  base := Same.refl _
  len := hl
  slot := fun i s e => by
    rcases h i s e with rfl | ⟨d, v, rfl, e2, r⟩
    · exact rfl
    · exact ⟨rfl, v, by rw [e2]; rfl, r⟩
  nd := fun _ => List.nodup_nil
  dj := fun _ _ _ z => nomatch z
  offF := fun _ _ z => nomatch z
  offB := fun _ _ z => nomatch z
  on := fun _ _ z => nomatch z
  keep := fun _ _ => .inl rfl
  f0 := fun _ h => h
  pin := fun _ _ => rfl
  als := fun i x j e => by
    rcases h i _ e with z | ⟨_, _, z, _⟩ <;> cases z
  noT := fun _ _ z => nomatch z
  tb := .nil rfl
  tp := fun z => absurd z hm
section
variable {P : Program} {w : World} {K : PySem.W.Frag} {mg : Str → Option Value} {base : Heap} {k : Nat} {f : Addr} {name qual : Str} {params : Arguments} {body : List Stmt} {scope : Scope} {dvs : List V} {kws : List (Str × V)} {fd : FuncData} {N ps : List Str} {n : Nat}
/-- the last statement of the body: return x, y -/
def tPairRet (i j : Nat) : TS := tRet (tTup (tCons (tVar i) (tCons (tVar j) tNil)))
theorem pair_body {W : WX} {fb : List Sl → Ot} {i j : Nat} {vs : List V} {H : Hp} {Q : VK} {E : XK} (hij : i ≠ j) (hn : n ≤ N.length) (h : spP K n (pairF fb n N.length i j) vs H Q E) :
    tFront K mg W [] fb (tPairRet i j) { nx := fun _ H' => Q .non H', rt := Q } (L2.start N vs) H := by
  obtain ⟨hl, δ, rs, ds, hd, ha, hf, q⟩ := h
  have hlen : (L2.start N vs).length = (δ ++ List.replicate (N.length - n) Sl.no).length := by
    unfold L2.start
    simp [hl, hd]
  have R := rl_ground (K := K) (σ := L2.start N vs) (H := H) (δ := δ ++ List.replicate (N.length - n) Sl.no) (pin := []) (fun z => nomatch z) hlen (fun i s e => by
    by_cases c : i < δ.length
    · rw [List.getElem?_append_left c] at e
      obtain ⟨d, v, rfl, e2, r⟩ := ha i s e
      refine .inr ⟨d, v, rfl, ?_, r⟩
      rw [start_get (by rw [hl, ← hd]; exact c), List.getElem?_map, e2]
      rfl
    · rw [List.getElem?_append_right (by omega), List.getElem?_replicate] at e
      split at e
      · cases e; exact .inl rfl
      · cases e)
  refine ⟨_, H, _, _, rfl, R, ?_⟩
  unfold pairF at hf
  cases q1 : fb (δ ++ List.replicate (N.length - n) Sl.no) with
  | nx δ' =>
    simp only [q1] at hf
    intro σ' H' Fz' F' s R'
    cases q2 : δ'[i]? with
    | none => simp only [q2] at hf; cases hf
    | some si =>
      cases q3 : δ'[j]? with
      | none => cases si <;> (simp only [q2, q3] at hf; cases hf)
      | some sj =>
        cases si with
        | ol rows =>
          cases sj with
          | ol us0 =>
            simp only [q2, q3] at hf
            cases q4 : owRows rows with
            | none => simp only [q4] at hf; cases hf
            | some rs1 =>
              cases q5 : allFz us0 with
              | none => simp only [q4, q5] at hf; cases hf
              | some ds1 =>
                simp only [q4, q5] at hf
                by_cases fl : (rs1.all fun r => r.all flatD) = true ∧ ds1.all flatD = true
                case neg => rw [if_neg fl] at hf; cases hf
                rw [if_pos fl] at hf
                cases hf
                obtain ⟨a, ws, g, e1, e2, e3, e4⟩ := R'.slot i _ q2
                obtain ⟨c, us, g2, e5, e6, e7, e8⟩ := R'.slot j _ q3
                have d1 := join_some e1
                have d2 := join_some e5
                refine ⟨.ref a, d1, .ref c, d2, (show 2 ≤ sizeLine by decide), fun p hp => ?_⟩
                have sm : Same H H' := R'.base
                have ex : ∀ x, x ∈ F' i ∨ x ∈ F' j → H x = none := fun x hx => hx.elim (R'.offB i x) (R'.offB j x)
                have np : ∀ x, H' x ≠ none → x ≠ p := fun x hx z => hx (by rw [z]; exact hp)
                refine q p _ (fun x o e => ?_) (by
                  cases z : H p with
                  | none => rfl
                  | some o => have := sm p o z; rw [hp] at this; cases this) ⟨a, c, ws, g, upd_same, ?_, ?_, ?_, ?_, ?_⟩
                · rw [upd_ne (np x (by rw [sm x o e]; simp))]
                  exact sm x o e
                · rw [upd_ne (np a (by rw [e3]; simp))]; exact e3
                · have o1 := own_of e4 q4 fl.1
                  have mono : ∀ {g ws rs}, Own H' g ws rs → Own (upd H' p (.tup [.ref a, .ref c])) g ws rs := fun {g ws rs} z => by
                    induction z with
                    | nil => exact .nil
                    | cons h1 _ ih => exact .cons (by rw [upd_ne (np _ (by rw [h1]; simp))]; exact h1) ih
                  exact mono o1
                · rw [upd_ne (np c (by rw [e7]; simp)), e7, rpl_dV (e8.allFz q5) fl.2]
                · have hg2 : ∀ {f vs es ds}, ElL K Fz' H' f vs es → allFz es = some ds → f = [] := fun {f vs es ds} z => by
                    induction z generalizing ds with
                    | nil => intro _; rfl
                    | cons h t ih =>
                      rename_i e es
                      intro qq
                      cases e with
                      | fz d =>
                        cases q6 : allFz es with
                        | none => rw [allFz, q6] at qq; cases qq
                        | some ds' => rw [ih q6, h.1]; rfl
                      | ow r => cases qq
                  have n1 := R'.nd i
                  rw [e2] at n1
                  have ca : ∀ x, x ∈ F' i → x ≠ c := fun x hx z => hij (R'.dj i j x hx (by rw [z, e6]; exact List.mem_cons_self))
                  rw [List.nodup_cons] at n1 ⊢
                  refine ⟨fun z => ?_, List.nodup_cons.mpr ⟨fun z => ?_, n1.2⟩⟩
                  · rcases List.mem_cons.mp z with z | z
                    · exact ca a (by rw [e2]; exact List.mem_cons_self) z
                    · exact n1.1 z
                  · exact ca c (by rw [e2]; exact List.mem_cons_of_mem _ z) rfl
                · intro x hx
                  rcases List.mem_cons.mp hx with z | z
                  · exact ex x (.inl (by rw [e2, z]; exact List.mem_cons_self))
                  · rcases List.mem_cons.mp z with z | z
                    · exact ex x (.inr (by rw [e6, z]; exact List.mem_cons_self))
                    · exact ex x (.inl (by rw [e2]; exact List.mem_cons_of_mem _ z))
          | _ => simp only [q2, q3] at hf; cases hf
        | _ => simp only [q2, q3] at hf; cases hf
  | _ => simp only [q1] at hf; cases hf
theorem fnG_P (FD : FunD K name qual params body scope dvs kws f fd) (S : FnScope N ps scope) (hn : ps.length = n) {fb : List Sl → Ot} {i j : Nat} (hij : i ≠ j)
    (hbody : ∀ (cdv : Value) (A : Around) (outer : List Env) (s : Shared) (H : Hp) (E : XK), Room k (A.deeper (envOfC qual scope s.heap.objs.size f cdv)) → A.guards = some [] →
      PSs (GX P w K mg base N qual scope f cdv A outer s H E) body (tFront K mg (GW E) [] fb (tPairRet i j))) : FnG P w K mg base (k + 1) f fd ps (spP K n (pairF fb n N.length i j)) := by
  obtain ⟨oc, od, dV, kV, doc, pm, an, cdv, ct, osl, rfl, lk, hcd, _, _⟩ := FD.ex
  have hpl : n ≤ N.length := by have := congrArg List.length S.pre; rw [List.length_take] at this; omega
  refine ⟨fun vs H Q E h => h.1.trans hn.symm, fun A outer s H args us vs Q E hgd hr e0 hb r hsp => ?_⟩
  have hl : vs.length = ps.length := hsp.1.trans hn.symm
  have KX : K.In s.heap := e0.mod.kin.keeps fun b o e => (e0.bs b o e).1
  have lim : s.heap.NoLimit := e0.mod.nolimit.keeps fun b o e => (e0.bs b o e).1
  have hkind : ∀ y ∈ ps.zip us, scope.names.lookup y.1 = some .local ∨ (scope.names.lookup y.1 = some .cell ∧ ((cellsFrom (s.heap.objs.size + 1) scope.names []).lookup y.1).isSome = true) := fun ⟨n, v⟩ hy => by
    rcases S.par n (List.of_mem_zip hy).1 with q | q
    · exact .inl q
    · exact .inr ⟨q, PySem.W.cellsFrom_some _ _ _ (.inl q)⟩
  refine codeAny_call_function hr.depth (KX _ _ lk) rfl S.co S.gen rfl (PySem.W.codeRec_of KX hcd) (hb _ _ _ _ ?_)
  refine wpAny_newFunctionEnv_cells S.kind hkind fun env he s1 x => ?_
  subst he
  refine ⟨lim.keeps x.toInCall.keep, codeAny_func ?_⟩
  have ht := hbody cdv A outer s H E (hr.deeper _) hgd
  have hq := pair_body (mg := mg) (W := GW E) (N := N) hij hpl hsp
  have I : Inv (GX P w K mg base N qual scope f cdv A outer s H E) [] (L2.start N vs) H s1 := inv_start S hr.hd e0 hl r x
  refine wpAny_mono (ht.run [] s1 (L2.start N vs) H _ I hq) (fun fl s' hs => ?_) fun e s' hs => hs
  have fin : ∀ {σ' : L2.St} {H' : Hp} {v : V} {u : Value}, Inv (GX P w K mg base N qual scope f cdv A outer s H E) [] σ' H' s' → RelV v u → Q v H' → CE outer P w H s Q u s' :=
    fun {σ' H' v u} J rv q => ⟨v, H', J.os, J.bare, J.base, J.hok, rv, q⟩
  cases fl with
  | ret u =>
    obtain ⟨v, σ', H', J, rv, q⟩ := hs
    exact fin J rv q
  | next =>
    obtain ⟨σ', H', J, q⟩ := hs
    exact fin (v := V.non) (u := Value.none) J rfl q
  | brk => obtain ⟨σ', H', J, q⟩ := hs; exact q.elim
  | cont => obtain ⟨σ', H', J, q⟩ := hs; exact q.elim
end
section
variable {X : Cx} {k : Nat} {f : Addr} {fd : FuncData} {ps : List Str} {W : WX} {x : Str} {p pos : Pos} {e : Expr} {es : List Expr} {ta : TA} {sp : Sp}
/-- a call of a def by its promise -/
theorem pe_callP (G : FnG X.prog X.w X.K X.mg X.base k f fd ps sp) (hr : Room k X.A) (hgd : X.A.guards = some []) (hx : ∀ σ, PassesAt (L2.CX X.prog X.w) X σ (WE W σ)) (hg : Gl X x) (hm : X.mg x = some (.ref f)) (hk : PySem.W.keepIn X.K (.ref f) = true)
    (hb : Binds X.K fd ps []) (ha : PA X (e :: es) ta)
    (hdb : (x == ("__debug__" : Str)) = false := by decide) (he : starEach (e :: es) X.env = (false, eval e X.env) :: starEach es X.env := by rfl) (hpl : (backTo pos (starEach es X.env)).any (·.1) = false := by rfl) :
    PE X (.Call (.Name x p) (e :: es) [] pos) (fun σ H Q => ta σ H fun vs H1 => sp vs H1 Q (WE W σ)) := by
  refine ⟨fun pins s σ H Q I h => wpAny_Call_Name_kw (ld_glob I hg hm ?_ hdb)⟩
  refine PySem.W.callWith_K (h₀ := X.base) I.ok.mod.kin hk (thn (ha.run pos pins s σ H _ I h) fun us s1 q => ?_) he hpl
  obtain ⟨vs, H1, I1, r, q⟩ := q
  refine ⟨I1.kIn, ?_⟩
  have hl : (us ++ ([] : List Value)).length = ps.length := by rw [List.append_nil]; exact r.length.symm.trans (G.len _ _ _ _ q)
  have go := G.run X.A X.stack s1 H1 ⟨us, []⟩ us vs Q (WE W σ) hgd hr I1.env0 (by have := hb s1 us I1.kIn hl; rwa [List.append_nil] at this) r q
  refine wpAny_call (codeAny_mono go fun res s' hq => ?_)
  match res, hq with
  | .error err, hq => exact hx σ pins H1 s1 err s' I1 hq
  | .ok (.ret u), hq => exact I1.after hq
end
end Hb
namespace Hb
open PySem PySem.Spec PyProof.Rows L2
section
variable {H H' : Hp} {g : List Addr} {ws : List V} {rs : List (List PyData)}
theorem Own.keeps (h : Own H g ws rs) (k : ∀ a ∈ g, H' a = H a) : Own H' g ws rs := by
  induction h with
  | nil => exact .nil
  | cons h1 _ ih => exact .cons (by rw [k _ List.mem_cons_self]; exact h1) (ih fun a ha => k a (List.mem_cons_of_mem _ ha))
theorem Own.len (h : Own H g ws rs) : g.length = rs.length ∧ ws.length = rs.length := by
  induction h with
  | nil => exact ⟨rfl, rfl⟩
  | cons _ _ ih => simp [ih]
theorem Own.on (h : Own H g ws rs) : ∀ a ∈ g, H a ≠ none := by
  induction h with
  | nil => exact fun _ z => nomatch z
  | cons h1 _ ih =>
    intro a ha
    rcases List.mem_cons.mp ha with z | z
    · rw [z, h1]; simp
    · exact ih a z
theorem Own.at_ (h : Own H g ws rs) {k : Nat} {r : List PyData} (e : rs[k]? = some r) : ∃ a, g[k]? = some a ∧ ws[k]? = some (.ref a) ∧ H a = some (.lst (r.map dV)) := by
  induction h generalizing k with
  | nil => simp at e
  | cons h1 _ ih =>
    cases k with
    | zero => simp at e; subst e; exact ⟨_, rfl, rfl, h1⟩
    | succ k =>
      obtain ⟨a, e1, e2, e3⟩ := ih (k := k) (by simpa using e)
      exact ⟨a, by simpa using e1, by simpa using e2, e3⟩
theorem Own.set (h : Own H g ws rs) (nd : g.Nodup) {k : Nat} {a : Addr} (r : List PyData) (e : g[k]? = some a) : Own (upd H a (.lst (r.map dV))) g ws (rs.set k r) := by
  induction h generalizing k with
  | nil => simp at e
  | cons h1 t ih =>
    rw [List.nodup_cons] at nd
    cases k with
    | zero =>
      simp at e
      subst e
      exact .cons upd_same (t.keeps fun b hb => upd_ne fun z => nd.1 (by rw [← z]; exact hb))
    | succ k =>
      have e' := (by simpa using e : _)
      have ma : a ∈ _ := List.mem_of_getElem? e'
      exact .cons (by rw [upd_ne fun z => nd.1 (by rw [z]; exact ma)]; exact h1) (ih nd.2 e')
theorem Own.rpl {K : PySem.W.Frag} (h : Own H g ws rs) (f : (rs.all fun r => r.all flatD) = true) : RpL K H ws (rs.map .list) := by
  induction h with
  | nil => exact .nil
  | cons h1 _ ih =>
    rw [List.all_cons, Bool.and_eq_true] at f
    exact .cons (.lst (SqX.of h1) (dV_rpl f.1)) (ih f.2)
end
def tApp1 (K : PySem.W.Frag) (to : TE) (w : Str) : TS := tDrop (tBM K "list" rAppend to (tCons (tC (.str w)) tNil))
abbrev tIx (K : PySem.W.Frag) (to : TE) (i : Int) : TE := tOp (rIxU K) to (tC (.int i))
section
variable {K : PySem.W.Frag} {σ : L2.St} {H : Hp} {to : TE} {D : Ends} {w : Str} {i : Int}
theorem tapp_ok {a : Addr} {xs : List V} (ht : ∀ Q : VK, Q (.ref a) H → to σ H Q) (e : H a = some (.lst xs)) (hl : xs.length < sizeLine) (q : D.nx σ (upd H a (.lst (xs ++ [.str w])))) : tApp1 K to w D σ H :=
  ht _ ⟨.inl ⟨rfl, xs, SqL.of e⟩, a, xs, .str w, rfl, rfl, e, hl, q⟩
theorem ixL_ok {l : Addr} {xs : List V} {v : V} (ht : ∀ Q : VK, Q (.ref l) H → to σ H Q) (e : H l = some (.lst xs)) (h : atI xs i = some v) : ∀ Q : VK, Q v H → tIx K to i σ H Q := fun Q q =>
  ht _ (.inl ⟨l, xs, i, v, rfl, rfl, SqL.of e, h, q⟩)
theorem ixT_ok {l : Addr} {xs : List V} {v : V} (ht : ∀ Q : VK, Q (.ref l) H → to σ H Q) (e : H l = some (.tup xs)) (h : atI xs i = some v) : ∀ Q : VK, Q v H → tIx K to i σ H Q := fun Q q =>
  ht _ (.inr ⟨l, xs, i, v, rfl, rfl, SqT.of e, h, q⟩)
theorem var_ok {j : Nat} {v : V} (h : σ[j]? = some (some v)) : ∀ Q : VK, Q v H → tVar j σ H Q := fun Q q => ⟨v, h, q⟩
/-- for row in x[:-1]: row.append(w) -/
def tLoop (K : PySem.W.Frag) (to : TE) (ir : Nat) (w : Str) : TS := tFor (iList K (tSl (rSlL K) to tNoPart (tPart (tUn (rU fun i => .int (-i)) (tC (.int 1)))))) (gName ir) (tApp1 K (tVar ir) w)
theorem cut_last {ws : List V} {v : V} : cutV (ws ++ [v]) none (some (-1)) = ws := by
  have e : HT.sIx (ws ++ [v]).length (ws ++ [v]).length (some (-1)) = ws.length := by
    show (if (-1 : Int) < 0 then ((-1 : Int) + ((ws ++ [v]).length : Int)).toNat else min (-1 : Int).toNat (ws ++ [v]).length) = _
    rw [if_pos (by decide), List.length_append, List.length_singleton]
    omega
  unfold cutV
  rw [HT.sIx_none, e]
  simp
theorem loop_ok {ir : Nat} {a : Addr} {ws : List V} {v : V} {g : List Addr} {rs : List (List PyData)} (ht : ∀ Q : VK, Q (.ref a) H → to σ H Q) (e : H a = some (.lst (ws ++ [v]))) (o : Own H g ws rs) (nd : g.Nodup) (ha : a ∉ g) (hi : ir < σ.length)
    (hz : ∀ r ∈ rs, r.length ≤ cap) (q : ∀ σ' H', σ'.length = σ.length → (∀ j, j ≠ ir → σ'[j]? = σ[j]?) → (∀ b, b ∉ g → H b ≠ none → H' b = H b) → Own H' g ws (rs.map (· ++ [.str w])) → D.nx σ' H') : tLoop K to ir w D σ H := by
  refine ht _ ?_
  refine ⟨1, rfl, -1, rfl, a, ws ++ [v], rfl, SqL.of e, fun p hp => ⟨p, rfl, ⟨_, SqL.of upd_same⟩, ?_⟩⟩
  rw [cut_last]
  have hlen := o.len
  have npg : ∀ b, H b ≠ none → b ≠ p := fun b hb z => hb (by rw [z]; exact hp)
  refine ⟨fun k m σ1 H1 => m = rs.length - k ∧ k ≤ rs.length ∧ σ1.length = σ.length ∧ (∀ j, j ≠ ir → σ1[j]? = σ[j]?) ∧ (∀ b, b ∉ g → H b ≠ none → H1 b = H b) ∧ H1 p = some (.lst ws) ∧ Own H1 g ws ((rs.take k).map (· ++ [.str w]) ++ rs.drop k),
    ⟨_, rfl, Nat.zero_le _, rfl, fun _ _ => rfl, fun b _ hb => upd_ne (npg b hb), upd_same, by simpa using o.keeps fun b hb => upd_ne (npg b (o.on b hb))⟩, ?_⟩
  rintro k m σ1 H1 ⟨rfl, hk, l1, s1, k1, p1, o1⟩
  by_cases c : k = rs.length
  · refine .inl ⟨⟨ws, SqL.of p1, by omega⟩, q σ1 H1 l1 s1 k1 ?_⟩
    rw [c, List.take_length, List.drop_length, List.append_nil] at o1
    exact o1
  · have hk2 : k < rs.length := by omega
    have er : ((rs.take k).map (· ++ [PyData.str w]) ++ rs.drop k)[k]? = some rs[k] := by
      rw [List.getElem?_append_right (by simp; omega)]
      have : k - ((rs.take k).map (· ++ [PyData.str w])).length = 0 := by simp; omega
      rw [this, List.getElem?_drop, Nat.add_zero, List.getElem?_eq_getElem hk2]
    obtain ⟨b, g1, w1, h1⟩ := o1.at_ er
    refine .inr ⟨⟨ws, .ref b, SqL.of p1, w1⟩, (fun σ' H' => rs.length - (k + 1) = rs.length - (k + 1) ∧ k + 1 ≤ rs.length ∧ σ'.length = σ.length ∧ (∀ j, j ≠ ir → σ'[j]? = σ[j]?) ∧ (∀ b, b ∉ g → H b ≠ none → H' b = H b) ∧ H' p = some (.lst ws) ∧ Own H' g ws ((rs.take (k + 1)).map (· ++ [.str w]) ++ rs.drop (k + 1))), fun σ' H' h => ⟨rs.length - (k + 1), by omega, h⟩, fun u H' hy => ?_⟩
    obtain ⟨rfl, hy2⟩ := hy
    have hy3 := hy2 ws (SqL.of p1)
    rw [w1] at hy3
    cases hy3
    have bg : b ∈ g := List.mem_of_getElem? g1
    have bp : b ≠ p := fun z => (o.on b bg) (by rw [z]; exact hp)
    refine tapp_ok (var_ok (List.getElem?_set_self (by rw [l1]; exact hi))) h1 (by rw [List.length_map]; exact lt_line (hz _ (List.getElem_mem hk2))) ⟨rfl, by omega, by rw [List.length_set]; exact l1, fun j hj => by rw [List.getElem?_set_ne (Ne.symm hj)]; exact s1 j hj, fun c hc hb => ?_, ?_, ?_⟩
    · rw [upd_ne fun z => hc (by rw [z]; exact bg)]
      exact k1 c hc hb
    · rw [upd_ne bp.symm]; exact p1
    · have o2 := o1.set nd (rs[k] ++ [.str w]) g1
      rw [List.map_append] at o2
      have e2 : ((rs.take k).map (· ++ [PyData.str w]) ++ rs.drop k).set k (rs[k] ++ [.str w]) = (rs.take (k + 1)).map (· ++ [.str w]) ++ rs.drop (k + 1) := by
        have h1 : rs.drop k = rs[k] :: rs.drop (k + 1) := List.drop_eq_getElem_cons (by omega)
        have h2 : rs.take (k + 1) = rs.take k ++ [rs[k]] := by
          rw [List.take_succ, List.getElem?_eq_getElem hk2]; rfl
        rw [h1, h2, List.set_append_right _ _ (by simp; omega)]
        have : k - ((rs.take k).map (· ++ [PyData.str w])).length = 0 := by simp; omega
        rw [this, List.map_append, List.append_assoc]
        rfl
      rw [e2] at o2
      exact o2
end
end Hb
namespace Hb
open PySem PySem.Spec PyProof.Rows L2
def viewS (n it ic : Nat) (T c : PyData) : List Sl := ((List.replicate n Sl.no).set it (.fz T)).set ic (.fz c)
theorem viewS_at {n it ic i : Nat} {T c : PyData} {s : Sl} (e : (viewS n it ic T c)[i]? = some s) : s = .no ∨ (i = it ∧ s = .fz T) ∨ (i = ic ∧ s = .fz c) := by
  unfold viewS at e
  rw [List.getElem?_set] at e
  split at e
  · rename_i h
    split at e
    · cases e; exact .inr (.inr ⟨h.symm, rfl⟩)
    · cases e
  · rw [List.getElem?_set] at e
    split at e
    · rename_i h
      split at e
      · cases e; exact .inr (.inl ⟨h.symm, rfl⟩)
      · cases e
    · rw [List.getElem?_replicate] at e
      split at e
      · cases e; exact .inl rfl
      · cases e
theorem viewS_len {n it ic : Nat} {T c : PyData} : (viewS n it ic T c).length = n := by simp [viewS]
def toldT (l0 l1 : List PyData) (rs : List PyData) (ds : List PyData) : PyData := .list [.list l0, .list l1, .tuple [.list rs, .list ds]]
def okTold (l0 l1 : List PyData) (rs : List (List PyData)) (ds : List PyData) : Bool :=
  (l0.all flatD && (l1.all flatD && (ds.all flatD && (rs.all fun r => r.all flatD)))) && ((decide (l0.length ≤ cap) && (decide (l1.length ≤ cap) && (decide (ds.length ≤ cap) && (decide (rs.length ≤ cap) && (rs.all fun r => decide (r.length ≤ cap)))))) &&
  (shw (toldT l0 l1 (rs.map .list) ds) && (decide ((toldT l0 l1 (rs.map .list) ds).depth ≤ 60) && decide ((toldT l0 l1 (rs.map .list) ds).shown.length ≤ sizeLine))))
def toldG (f1 f2 : List Sl → Rs AV) (fB : List Sl → Option (List (List PyData) × List PyData)) (T c : PyData) (δv : List Sl) : Option (List PyData × List PyData × List (List PyData) × List PyData) := match f1 δv, f2 δv, itemD T (.int 2) with
  | .ok (.tmp (.ol e0)) _, .ok (.tmp (.ol e1)) _, some t2 => (match allFz e0, allFz e1, fB [.fz c, .fz t2] with
    | some l0, some l1, some (rs, ds) => if okTold l0 l1 rs ds = true then some (l0, l1, rs, ds) else none
    | _, _, _ => none)
  | _, _, _ => none
def oTold (it ic iz ix ir : Nat) (f1 f2 : List Sl → Rs AV) (fB : List Sl → Option (List (List PyData) × List PyData)) (w : Str) : List Sl → Ot := fun δ => match δ[it]?, δ[ic]?, δ[iz]? with
  | some (.fz T), some (.fz c), some (.fz (.str z)) => (match toldG f1 f2 fB T c (viewS δ.length it ic T c) with
    | some (l0, l1, rs, ds) => if ix < δ.length ∧ ir < δ.length then (if ((toldT l0 l1 (rs.map .list) ds).shown.cps.toList == z.cps.toList) = true then
        .nx (upS ix (.fz (toldT (l0 ++ [.str w]) (l1 ++ [.str w]) ((rs.map fun r => .list (r ++ [.str w])) ++ [.str w]) (ds ++ [.str w]))) (upS ir .no δ))
      else .rt (.fz (.bool false)) (upS ix .no δ)) else .bad
    | none => .bad)
  | _, _, _ => .bad
theorem toldG_inv {f1 f2 : List Sl → Rs AV} {fB : List Sl → Option (List (List PyData) × List PyData)} {T c : PyData} {δv : List Sl} {l0 l1 : List PyData} {rs : List (List PyData)} {ds : List PyData} (h : toldG f1 f2 fB T c δv = some (l0, l1, rs, ds)) :
    ∃ e0 e1 d0 d1 t2, f1 δv = .ok (.tmp (.ol e0)) d0 ∧ f2 δv = .ok (.tmp (.ol e1)) d1 ∧ itemD T (.int 2) = some t2 ∧ allFz e0 = some l0 ∧ allFz e1 = some l1 ∧ fB [.fz c, .fz t2] = some (rs, ds) ∧ okTold l0 l1 rs ds = true := by
  unfold toldG at h
  split at h
  · rename_i e0 d0 e1 d1 t2 q1 q2 q3
    split at h
    · rename_i l0' l1' rs' ds' q4 q5 q6
      split at h
      · rename_i q7
        cases h
        exact ⟨e0, e1, d0, d1, t2, q1, q2, q3, q4, q5, q6, q7⟩
      · cases h
    · cases h
  · cases h
section
variable {K : PySem.W.Frag} {mg : Str → Option Value} {W : WX} {pin : List Nat} {σ : L2.St} {H : Hp} {Q : VK}
theorem own_call {f : List Sl → Rs AV} {δv δ1 : List Sl} {e0 : List El} {l0 : List PyData} (hm : mkT ∉ pin) (hl : σ.length = δv.length) (hv : ∀ (i : Nat) (s : Sl), δv[i]? = some s → s = Sl.no ∨ ∃ d v, s = Sl.fz d ∧ σ[i]? = some (some v) ∧ Rp K H v d)
    (hf : f δv = .ok (.tmp (.ol e0)) δ1) (ha : allFz e0 = some l0) (fl : l0.all flatD = true) (q : ∀ a H', Same H H' → H a = none → H' a = some (.lst (l0.map dV)) → Q (.ref a) H') : rdE K mg W pin f σ H Q := by
  refine ⟨_, H, _, δv, rfl, rl_ground hm hl hv, ?_⟩
  rw [hf]
  intro v H' Fz' F' s R A
  obtain ⟨_, g, ⟨a, vs, g0, e1, e2, e3, e4⟩, _, h3⟩ := A
  cases e1
  refine q a H' R.base (h3 a (by rw [e2]; exact List.mem_cons_self)).2.1 ?_
  rw [e3, rpl_dV (e4.allFz ha) fl]
end
/-- the changes, then the rest -/
def toldT3 (K : PySem.W.Frag) (ix ir : Nat) (w : Str) (u : TS) : TS :=
  tSeq (tApp1 K (tIx K (tVar ix) 0) w) (tSeq (tApp1 K (tIx K (tVar ix) 1) w) (tSeq (tApp1 K (tIx K (tIx K (tVar ix) 2) 0) w) (tSeq (tApp1 K (tIx K (tIx K (tVar ix) 2) 1) w)
  (tSeq (tLoop K (tIx K (tIx K (tVar ix) 2) 0) ir w) u))))
/-- the look, the changes, the rest -/
def toldT2 (K : PySem.W.Frag) (iz ix ir : Nat) (w : Str) (u : TS) : TS :=
  tSeq (tIfS (tTest (tOp (rEqS true) (tCB (rRepr K) (tCons (tVar ix) tNil)) (tVar iz))) (tRet (tC (.bl false))) tNext) (toldT3 K ix ir w u)
/-- the statements, then the rest -/
def toldTS (K : PySem.W.Frag) (mg : Str → Option Value) (W : WX) (pin : List Nat) (it ic iz ix ir : Nat) (f1 f2 : List Sl → Rs AV) (fB : List Sl → Option (List (List PyData) × List PyData)) (w : Str) (u : TS) : TS :=
  tSeq (tAsg (tLst (tCons (rdE K mg W pin f1) (tCons (rdE K mg W pin f2) (tCons (fun σ H Q => tCons (tVar ic) (tCons (tIx K (tVar it) 2) tNil) σ H fun vs H1 => spP K 2 fB vs H1 Q (WE W σ)) tNil)))) (gName ix)) (toldT2 K iz ix ir w u)
theorem told_ok {K : PySem.W.Frag} {mg : Str → Option Value} {W : WX} {pin : List Nat} {it ic iz ix ir : Nat} {f1 f2 : List Sl → Rs AV} {fB : List Sl → Option (List (List PyData) × List PyData)} {w : Str} {u : TS} {D : Ends} {σ : L2.St} {H : Hp} {b : Bk} {Fz : Hp} {F : Nat → List Addr} {δ : List Sl}
    (hm : mkT ∉ pin) (hp : b.pin = pin) (px : ix ∉ pin) (pr : ir ∉ pin) (n1 : it ≠ ix) (n2 : ic ≠ ix) (n3 : iz ≠ ix) (n4 : ir ≠ ix) (R : Rl K b Fz F δ σ H) (P : PostS K mg W b Fz { D with nx := u D } (oTold it ic iz ix ir f1 f2 fB w δ)) :
    toldTS K mg W pin it ic iz ix ir f1 f2 fB w u D σ H := by
  unfold oTold at P
  split at P
  case h_2 => exact P.elim
  rename_i T c z q1 q2 q3
  split at P
  case h_2 => exact P.elim
  rename_i l0 l1 rs ds q4
  by_cases hx : ix < δ.length ∧ ir < δ.length
  case neg => rw [if_neg hx] at P; exact P.elim
  rw [if_pos hx] at P
  obtain ⟨e0, e1, d0, d1, t2, g1, g2, g3, g4, g5, g6, g7⟩ := toldG_inv q4
  unfold okTold at g7
  simp only [Bool.and_eq_true, decide_eq_true_eq] at g7
  obtain ⟨⟨fl0, fl1, fld, flr⟩, ⟨c0, c1, cd, cr, crr⟩, sh1, sh2, sh3⟩ := g7
  obtain ⟨_, vT, eT, rT⟩ := R.slot it _ q1
  obtain ⟨_, vc, ec, rc⟩ := R.slot ic _ q2
  obtain ⟨_, vz, ez, rz⟩ := R.slot iz _ q3
  have eT := join_some eT
  have ec := join_some ec
  have ez := join_some ez
  cases rz
  have hlen : σ.length = (viewS δ.length it ic T c).length := by rw [viewS_len, R.len]
  have hv : ∀ H1, Same H H1 → ∀ (i : Nat) (s : Sl), (viewS δ.length it ic T c)[i]? = some s → s = Sl.no ∨ ∃ d v, s = Sl.fz d ∧ σ[i]? = some (some v) ∧ Rp K H1 v d := fun H1 s1 i s e => by
    rcases viewS_at e with z | ⟨rfl, rfl⟩ | ⟨rfl, rfl⟩
    · exact .inl z
    · exact .inr ⟨_, _, rfl, eT, (rT.mono R.le).mono s1⟩
    · exact .inr ⟨_, _, rfl, ec, (rc.mono R.le).mono s1⟩
  refine own_call hm hlen (hv H (Same.refl _)) g1 g4 fl0 fun a0 H1 s1 o0 h0 => ?_
  refine own_call hm hlen (hv H1 s1) g2 g5 fl1 fun a1 H2 s2 o1 h1 => ?_
  refine ⟨vc, ec, vT, eT, ?_⟩
  refine itemD_ok (K := K) (Fz := H2) (H := H2) (Same.refl _) (.inl ((rT.mono R.le).mono (s1.trans s2))) (.inl (.int 2)) g3 fun v2 r2 => ?_
  refine ⟨rfl, [.fz c, .fz t2], rs, ds, rfl, fun i s e => ?_, g6, fun p H3 s3 op hq => ?_⟩
  · match i, e with
    | 0, e => cases e; exact ⟨_, vc, rfl, rfl, (rc.mono R.le).mono (s1.trans s2)⟩
    | 1, e => cases e; exact ⟨_, v2, rfl, rfl, r2⟩
  obtain ⟨a, cc, ws, g, p1, a1', ow, cc1, nd, off⟩ := hq.ex
  refine ⟨(show 3 ≤ sizeLine by decide), fun L oL => ?_⟩
  have up : ∀ x, H3 x ≠ none → x ≠ L := fun x hx z => hx (by rw [z]; exact oL)
  have sH3 : Same H H3 := (s1.trans s2).trans s3
  have k0 : H3 a0 = some (.lst (l0.map dV)) := s3 _ _ (s2 _ _ h0)
  have k1 : H3 a1 = some (.lst (l1.map dV)) := s3 _ _ h1
  rw [List.nodup_cons, List.nodup_cons] at nd
  obtain ⟨nda, ndc, ndg⟩ := nd
  -- the new ones stand apart
  have old2 : ∀ x, H2 x ≠ none → x ∉ a :: cc :: g ∧ x ≠ p := fun x hx => ⟨fun z => hx (off x z), fun z => hx (by rw [z]; exact op)⟩
  have x0 := old2 a0 (by rw [s2 _ _ h0]; simp)
  have x1 := old2 a1 (by rw [h1]; simp)
  have n01 : a0 ≠ a1 := fun z => by rw [z, o1] at h0; cases h0
  have pa : p ≠ a := fun z => by rw [z, a1'] at p1; cases p1
  have pc : p ≠ cc := fun z => by rw [z, cc1] at p1; cases p1
  have pg : p ∉ g := fun z => by
    have : ∀ {g ws rs}, Own H3 g ws rs → ∀ x ∈ g, ∃ xs, H3 x = some (.lst xs) := fun {g ws rs} h => by
      induction h with
      | nil => exact fun _ z => nomatch z
      | cons h1 _ ih =>
        intro x hx
        rcases List.mem_cons.mp hx with z | z
        · exact ⟨_, by rw [z]; exact h1⟩
        · exact ih x z
    obtain ⟨xs, e⟩ := this ow p z
    rw [e] at p1
    cases p1
  have ac : a ≠ cc := fun z => nda (by rw [z]; exact List.mem_cons_self)
  have ag : a ∉ g := fun z => nda (List.mem_cons_of_mem _ z)
  have fresh : ∀ x, x ∈ [L, a0, a1, p, a, cc] ++ g → H x = none := fun x hx => by
    have s12 := s1.trans s2
    have back : ∀ {H9 : Hp}, Same H H9 → H9 x = none → H x = none := fun {H9} s9 e9 => by
      cases qq : H x with
      | none => rfl
      | some o => have := s9 x o qq; rw [e9] at this; cases this
    simp only [List.cons_append, List.nil_append, List.mem_cons] at hx
    rcases hx with z | z | z | z | z | z | z
    · exact back sH3 (by rw [z]; exact oL)
    · rw [z]; exact o0
    · exact back s1 (by rw [z]; exact o1)
    · exact back s12 (by rw [z]; exact op)
    · exact back s12 (off x (by rw [z]; exact List.mem_cons_self))
    · exact back s12 (off x (by rw [z]; exact List.mem_cons_of_mem _ List.mem_cons_self))
    · exact back s12 (off x (List.mem_cons_of_mem _ (List.mem_cons_of_mem _ z)))
  show toldT2 K iz ix ir w u D (σ.set ix (some (.ref L))) (upd H3 L (.lst [.ref a0, .ref a1, .ref p]))
  generalize hσ : σ.set ix (some (V.ref L)) = σ4
  generalize hH : upd H3 L (.lst [.ref a0, .ref a1, .ref p]) = H4
  have hix : ix < σ.length := by rw [R.len]; exact hx.1
  have vx : σ4[ix]? = some (some (.ref L)) := by rw [← hσ]; exact List.getElem?_set_self hix
  have vk : ∀ j, j ≠ ix → σ4[j]? = σ[j]? := fun j hj => by rw [← hσ]; exact List.getElem?_set_ne (Ne.symm hj)
  have l4 : σ4.length = σ.length := by rw [← hσ]; exact List.length_set
  have tL : H4 L = some (.lst [.ref a0, .ref a1, .ref p]) := by rw [← hH]; exact upd_same
  have k4 : ∀ x, H3 x ≠ none → H4 x = H3 x := fun x hx => by rw [← hH]; exact upd_ne (up x hx)
  have sH4 : Same H H4 := fun x o e => by rw [k4 x (by rw [sH3 x o e]; simp)]; exact sH3 x o e
  have t0 : H4 a0 = some (.lst (l0.map dV)) := (k4 _ (by rw [k0]; simp)).trans k0
  have t1 : H4 a1 = some (.lst (l1.map dV)) := (k4 _ (by rw [k1]; simp)).trans k1
  have tp : H4 p = some (.tup [.ref a, .ref cc]) := (k4 _ (by rw [p1]; simp)).trans p1
  have ta : H4 a = some (.lst ws) := (k4 _ (by rw [a1']; simp)).trans a1'
  have tc : H4 cc = some (.lst (ds.map dV)) := (k4 _ (by rw [cc1]; simp)).trans cc1
  have to : Own H4 g ws rs := ow.keeps fun x hx => k4 x (ow.on x hx)
  have rTree : Rp K H4 (.ref L) (toldT l0 l1 (rs.map .list) ds) :=
    .lst (SqX.of tL) (.cons (.lst (SqX.of t0) (dV_rpl fl0)) (.cons (.lst (SqX.of t1) (dV_rpl fl1)) (.cons (.tup tp (.cons (.lst (SqX.of ta) (to.rpl flr)) (.cons (.lst (SqX.of tc) (dV_rpl fld)) .nil))) .nil)))
  have R4 : Rl K b Fz (fun k => if k = ix then [] else F k) (upS ix .no δ) σ4 H4 := (R.grow sH4).clearN (by rw [hp]; exact px) l4 vk
  have nL : ∀ x, x ∈ [a0, a1, p, a, cc] ++ g → x ≠ L := fun x hx z => by
    have : H3 x = none := by rw [z]; exact oL
    simp only [List.cons_append, List.nil_append, List.mem_cons] at hx
    rcases hx with y | y | y | y | y | y
    · rw [y, k0] at this; cases this
    · rw [y, k1] at this; cases this
    · rw [y, p1] at this; cases this
    · rw [y, a1'] at this; cases this
    · rw [y, cc1] at this; cases this
    · exact ow.on x y this
  -- the look
  show tIfS (tTest (tOp (rEqS true) (tCB (rRepr K) (tCons (tVar ix) tNil)) (tVar iz))) (tRet (tC (.bl false))) tNext { D with nx := toldT3 K ix ir w u D } σ4 H4
  refine ⟨.ref L, vx, .ref L, toldT l0 l1 (rs.map .list) ds, rfl, rTree, ⟨sh1, sh2⟩, sh3, .str z, by rw [vk iz n3]; exact ez, _, z, rfl, rfl, _, rfl, ?_⟩
  by_cases same : ((toldT l0 l1 (rs.map .list) ds).shown.cps.toList == z.cps.toList) = true
  case neg =>
    rw [if_neg same] at P
    have diff : ((toldT l0 l1 (rs.map .list) ds).shown.cps.toList == z.cps.toList) = false := by simpa using same
    rw [diff]
    exact P (.bl false) σ4 H4 Fz _ (Same.refl _) R4 ⟨rfl, [], ⟨rfl, .bl false, rfl, .bl false⟩, List.nodup_nil, fun _ z => nomatch z⟩
  rw [if_pos same] at P
  rw [same]
  show toldT3 K ix ir w u D σ4 H4
  have i0 : atI [V.ref a0, .ref a1, .ref p] 0 = some (.ref a0) := rfl
  have i1 : atI [V.ref a0, .ref a1, .ref p] 1 = some (.ref a1) := rfl
  have i2 : atI [V.ref a0, .ref a1, .ref p] 2 = some (.ref p) := rfl
  have j0 : atI [V.ref a, .ref cc] 0 = some (.ref a) := rfl
  have j1 : atI [V.ref a, .ref cc] 1 = some (.ref cc) := rfl
  have len1 : ∀ {ds : List PyData}, ds.length ≤ cap → (ds.map dV).length < sizeLine := fun h => by rw [List.length_map]; exact lt_line h
  -- which ones are apart
  have L0 := nL a0 (by simp)
  have L1 := nL a1 (by simp)
  have Lp := nL p (by simp)
  have La := nL a (by simp)
  have Lc := nL cc (by simp)
  have a0p : a0 ≠ p := x0.2
  have a1p : a1 ≠ p := x1.2
  have a0a : a0 ≠ a := fun z => x0.1 (by rw [z]; exact List.mem_cons_self)
  have a1a : a1 ≠ a := fun z => x1.1 (by rw [z]; exact List.mem_cons_self)
  have a0c : a0 ≠ cc := fun z => x0.1 (by rw [z]; exact List.mem_cons_of_mem _ List.mem_cons_self)
  have a1c : a1 ≠ cc := fun z => x1.1 (by rw [z]; exact List.mem_cons_of_mem _ List.mem_cons_self)
  have a0g : a0 ∉ g := fun z => x0.1 (List.mem_cons_of_mem _ (List.mem_cons_of_mem _ z))
  have a1g : a1 ∉ g := fun z => x1.1 (List.mem_cons_of_mem _ (List.mem_cons_of_mem _ z))
  have Lg : L ∉ g := fun z => nL L (by simp [z]) rfl
  refine tapp_ok (ixL_ok (var_ok vx) tL i0) t0 (len1 c0) ?_
  generalize hH5 : upd H4 a0 (.lst (l0.map dV ++ [.str w])) = H5
  have k5 : ∀ x, x ≠ a0 → H5 x = H4 x := fun x hx => by rw [← hH5]; exact upd_ne hx
  have b0 : H5 a0 = some (.lst (l0.map dV ++ [.str w])) := by rw [← hH5]; exact upd_same
  refine tapp_ok (ixL_ok (var_ok vx) ((k5 L L0.symm).trans tL) i1) ((k5 a1 n01.symm).trans t1) (len1 c1) ?_
  generalize hH6 : upd H5 a1 (.lst (l1.map dV ++ [.str w])) = H6
  have k6 : ∀ x, x ≠ a1 → H6 x = H5 x := fun x hx => by rw [← hH6]; exact upd_ne hx
  have b1 : H6 a1 = some (.lst (l1.map dV ++ [.str w])) := by rw [← hH6]; exact upd_same
  have m6 : ∀ x, x ≠ a0 → x ≠ a1 → H6 x = H4 x := fun x h1 h2 => (k6 x h2).trans (k5 x h1)
  have lr : ws.length < sizeLine := by rw [ow.len.2]; exact lt_line cr
  refine tapp_ok (ixT_ok (ixL_ok (var_ok vx) ((m6 L L0.symm L1.symm).trans tL) i2) ((m6 p a0p.symm a1p.symm).trans tp) j0) ((m6 a a0a.symm a1a.symm).trans ta) lr ?_
  generalize hH7 : upd H6 a (.lst (ws ++ [.str w])) = H7
  have k7 : ∀ x, x ≠ a → H7 x = H6 x := fun x hx => by rw [← hH7]; exact upd_ne hx
  have ba : H7 a = some (.lst (ws ++ [.str w])) := by rw [← hH7]; exact upd_same
  have m7 : ∀ x, x ≠ a0 → x ≠ a1 → x ≠ a → H7 x = H4 x := fun x h1 h2 h3 => (k7 x h3).trans (m6 x h1 h2)
  refine tapp_ok (ixT_ok (ixL_ok (var_ok vx) ((m7 L L0.symm L1.symm La.symm).trans tL) i2) ((m7 p a0p.symm a1p.symm pa).trans tp) j1) ((m7 cc a0c.symm a1c.symm ac.symm).trans tc) (len1 cd) ?_
  generalize hH8 : upd H7 cc (.lst (ds.map dV ++ [.str w])) = H8
  have k8 : ∀ x, x ≠ cc → H8 x = H7 x := fun x hx => by rw [← hH8]; exact upd_ne hx
  have bc : H8 cc = some (.lst (ds.map dV ++ [.str w])) := by rw [← hH8]; exact upd_same
  have m8 : ∀ x, x ≠ a0 → x ≠ a1 → x ≠ a → x ≠ cc → H8 x = H4 x := fun x h1 h2 h3 h4 => (k8 x h4).trans (m7 x h1 h2 h3)
  have o8 : Own H8 g ws rs := to.keeps fun x hx => m8 x (fun z => a0g (by rw [← z]; exact hx)) (fun z => a1g (by rw [← z]; exact hx)) (fun z => ag (by rw [← z]; exact hx)) (fun z => ndc (by rw [← z]; exact hx))
  have hL8 : H8 L = some (.lst [.ref a0, .ref a1, .ref p]) := (m8 L L0.symm L1.symm La.symm Lc.symm).trans tL
  have hp8 : H8 p = some (.tup [.ref a, .ref cc]) := (m8 p a0p.symm a1p.symm pa pc).trans tp
  have ha8 : H8 a = some (.lst (ws ++ [.str w])) := (k8 a ac).trans ba
  refine loop_ok (ixT_ok (ixL_ok (var_ok vx) hL8 i2) hp8 j0) ha8 o8 ndg ag (by rw [l4, R.len]; exact hx.2) (fun r hr => of_decide_eq_true (List.all_eq_true.mp crr r hr)) fun σ9 H9 l9 v9 k9 o9 => ?_
  have hL9 : H9 L = some (.lst [.ref a0, .ref a1, .ref p]) := (k9 L Lg (by rw [hL8]; simp)).trans hL8
  have hp9 : H9 p = some (.tup [.ref a, .ref cc]) := (k9 p pg (by rw [hp8]; simp)).trans hp8
  have ha9 : H9 a = some (.lst (ws ++ [.str w])) := (k9 a ag (by rw [ha8]; simp)).trans ha8
  have hc9 : H9 cc = some (.lst (ds.map dV ++ [.str w])) := (k9 cc ndc (by rw [bc]; simp)).trans bc
  have h08 : H8 a0 = some (.lst (l0.map dV ++ [.str w])) := (k8 a0 a0c).trans ((k7 a0 a0a).trans ((k6 a0 n01).trans b0))
  have h18 : H8 a1 = some (.lst (l1.map dV ++ [.str w])) := (k8 a1 a1c).trans ((k7 a1 a1a).trans b1)
  have h09 : H9 a0 = some (.lst (l0.map dV ++ [.str w])) := (k9 a0 a0g (by rw [h08]; simp)).trans h08
  have h19 : H9 a1 = some (.lst (l1.map dV ++ [.str w])) := (k9 a1 a1g (by rw [h18]; simp)).trans h18
  have sH9 : Same H H9 := fun x o e => by
    have nx : x ∉ [L, a0, a1, p, a, cc] ++ g := fun z => by rw [fresh x z] at e; cases e
    simp only [List.cons_append, List.nil_append, List.mem_cons, not_or] at nx
    have e4 := sH4 x o e
    have e8 : H8 x = some o := (m8 x nx.2.1 nx.2.2.1 nx.2.2.2.2.1 nx.2.2.2.2.2.1).trans e4
    rw [k9 x nx.2.2.2.2.2.2 (by rw [e8]; simp)]
    exact e8
  have rTree9 : ∀ Fz9 : Hp, (∀ x, x ∈ [L, a0, a1, p, a, cc] ++ g → Fz9 x = H9 x) → Rp K Fz9 (.ref L) (toldT (l0 ++ [.str w]) (l1 ++ [.str w]) ((rs.map fun r => .list (r ++ [.str w])) ++ [.str w]) (ds ++ [.str w])) := fun Fz9 hf => by
    have fw : ∀ {xs : List PyData}, xs.all flatD = true → (xs ++ [PyData.str w]).all flatD = true := fun h => by simp [h, flatD]
    have mp : ∀ {xs : List PyData}, xs.map dV ++ [V.str w] = (xs ++ [PyData.str w]).map dV := fun {xs} => by simp [dV]
    have og : Own Fz9 g ws (rs.map (· ++ [.str w])) := o9.keeps fun x hx => hf x (by simp [hx])
    have fr : ((rs.map (· ++ [PyData.str w])).all fun r => r.all flatD) = true := by
      rw [List.all_map]
      exact List.all_eq_true.mpr fun r hr => fw (List.all_eq_true.mp flr r hr)
    have rr := (og.rpl (K := K) fr).append (.one (.str w))
    rw [List.map_map] at rr
    exact .lst (SqX.of ((hf L (by simp)).trans hL9)) (.cons (.lst (SqX.of ((hf a0 (by simp)).trans (h09.trans (by rw [mp])))) (dV_rpl (fw fl0))) (.cons (.lst (SqX.of ((hf a1 (by simp)).trans (h19.trans (by rw [mp])))) (dV_rpl (fw fl1)))
      (.cons (.tup ((hf p (by simp)).trans hp9) (.cons (.lst (SqX.of ((hf a (by simp)).trans ha9)) rr) (.cons (.lst (SqX.of ((hf cc (by simp)).trans (hc9.trans (by rw [mp])))) (dV_rpl (fw fld))) .nil))) .nil)))
  have nt : ∀ x, H x ≠ none → x ∉ [L, a0, a1, p, a, cc] ++ g := fun x hx z => hx (fresh x z)
  have hix4 : ix < σ9.length := by rw [l9, l4]; exact hix
  have hpx : ix ∉ b.pin := by rw [hp]; exact px
  have hpr : ir ∉ b.pin := by rw [hp]; exact pr
  have Ra := (R.grow sH9).clearN (i := ir) (σ' := σ9.set ix (σ[ix]?.join)) hpr (by rw [List.length_set, l9, l4]) (fun k hk => by
    by_cases c : k = ix
    · subst c
      rw [List.getElem?_set_self hix4, List.getElem?_eq_getElem hix]
      rfl
    · rw [List.getElem?_set_ne (Ne.symm c), v9 k hk, vk k c])
  have sF : Same Fz (Hb.addF Fz H9 ([L, a0, a1, p, a, cc] ++ g)) := fun x o e => by
    rw [addF_out (nt x (by rw [R.le x o e]; simp))]
    exact e
  have Rb := Ra.put (i := ix) (s := .fz (toldT (l0 ++ [.str w]) (l1 ++ [.str w]) ((rs.map fun r => .list (r ++ [.str w])) ++ [.str w]) (ds ++ [.str w]))) (g := []) (σ' := σ9) (H' := H9) (Fz' := Hb.addF Fz H9 ([L, a0, a1, p, a, cc] ++ g)) sF (addF_le Ra.le) Ra.base (by rw [List.length_set]) (fun k hk => by rw [List.getElem?_set_ne (Ne.symm hk)]) (.inr hpx)
    (fun _ => ⟨rfl, .ref L, by rw [v9 ix n4.symm, vx]; rfl, rTree9 _ fun x hx => addF_in hx⟩) (fun x j z => nomatch z) List.nodup_nil (fun _ z => nomatch z) (fun _ z => nomatch z) (fun _ z => nomatch z) (fun _ z => nomatch z) (fun _ _ _ _ => rfl)
    (fun k _ x hx => by
      have hx : x ∈ (if k = ir then [] else F k) := hx
      by_cases c : k = ir
      · rw [if_pos c] at hx; cases hx
      · rw [if_neg c] at hx
        rw [addF_out (nt x (R.on k x hx))]
        exact R.offF k x hx)
    (fun x hx => addF_out (nt x (by
      cases qq : b.B x with
      | none => exact absurd qq hx
      | some o => rw [R.base x o qq]; simp)))
    (tb := Ra.tb.fz fun q hq => by
      obtain ⟨⟨ps, e0, _⟩, e1, _⟩ := R.tb q hq
      rw [addF_out (nt _ (by rw [e0]; simp))]
      exact e1)
  exact P σ9 H9 _ _ sF Rb
end Hb
namespace Hb
open PySem PySem.Spec PyProof.Rows L2
section
variable {X : Cx} {W : WX} {pin : List Nat} {o e e1 e2 e3 : Expr} {to : TE} {w x y z : Str} {apos cpos epos pos p p0 p1 p2 p3 p4 p5 p6 p7 p8 p9 : Pos} {i : Int} {j j2 : Nat}
theorem pe_ixK (ho : PE X o to) (hs : PlainIx (.Constant (.int i) j p) := by intro _ _; rfl) : PE X (.Subscript o (.Constant (.int i) j p) pos) (tIx X.K to i) := pe_ix ix_U ho pe_int hs
theorem ps_app1 (ho : PE X o to) (hbase : attributeBase o "append" X.env (eval o X.env) = eval o X.env := by rfl) (hline : (apos.endLine == cpos.line) = true := by rfl)
    (hs : starEach [.Constant (.str w) j p] X.env = (false, eval (.Constant (.str w) j p) X.env) :: starEach [] X.env := by rfl)
    (hfew : ((backTo cpos (starEach [.Constant (.str w) j p] X.env)).all (fun x => !x.1) && (backToKw cpos (keywordEach [] X.env)).all (fun x => x.1.isSome)
      && decide ([Expr.Constant (.str w) j p].length + ([] : List Keyword).length + (if ([] : List Keyword).isEmpty then 0 else 1) < 30)) = true := by rfl)
    (hsw : swapsWith (.Call (.Attribute o "append" apos) [.Constant (.str w) j p] [] cpos) none epos.line X.env = pure false := by rfl) :
    PS X (.Expr (.Call (.Attribute o "append" apos) [.Constant (.str w) j p] [] cpos) epos) (tApp1 X.K to w) :=
  ps_expr (pe_bm PySem.F.plainAttrs_list PySem.F.slot_list_append PySem.F.type_list_append mt_append ho (pa_cons pe_str pa_nil hs) hbase hfew hline hs rfl) hsw
theorem ps_loopK {ir : Nat} (hp : PassesOwn (model X.prog X.w) X.A X.env X.xe) (hcal : X.calm = true) (hN : X.N.Nodup) (hi : X.N[ir]? = some y) (hyl : Loc X.env.scope y) (hyv : Vis X.env.scope y) (ho : PE X o to)
    (hyd : (y == ("__debug__" : Str)) = false := by decide) (hyc : (y == ("__classdict__" : Str)) = false := by decide)
    (hf : X.fn y = true ∨ X.env.scope.names.lookup y = some .local := by first | exact .inl rfl | exact .inr rfl | assumption)
    (hbase : attributeBase (.Name y p3) "append" X.env (eval (.Name y p3) X.env) = eval (.Name y p3) X.env := by rfl) (hline : (apos.endLine == cpos.line) = true := by rfl)
    (hs : starEach [.Constant (.str w) j p] X.env = (false, eval (.Constant (.str w) j p) X.env) :: starEach [] X.env := by rfl)
    (hfew : ((backTo cpos (starEach [.Constant (.str w) j p] X.env)).all (fun x => !x.1) && (backToKw cpos (keywordEach [] X.env)).all (fun x => x.1.isSome)
      && decide ([Expr.Constant (.str w) j p].length + ([] : List Keyword).length + (if ([] : List Keyword).isEmpty then 0 else 1) < 30)) = true := by rfl)
    (hsw : swapsWith (.Call (.Attribute (.Name y p3) "append" apos) [.Constant (.str w) j p] [] cpos) none epos.line X.env = pure false := by rfl)
    (hfs : ∀ v, foldedSetIterable (.Subscript o (.Slice none (some (.UnaryOp .USub (.Constant (.int 1) j2 p4) p5)) none p6) p7) X.env v = pure v := by intro _; rfl) :
    PS X (.For (.Name y p1) (.Subscript o (.Slice none (some (.UnaryOp .USub (.Constant (.int 1) j2 p4) p5)) none p6) p7) [.Expr (.Call (.Attribute (.Name y p3) "append" apos) [.Constant (.str w) j p] [] cpos) epos] [] pos) (tLoop X.K to ir w) :=
  ps_for hp hcal (pi_list (pe_slice sl_list ho po_none (po_some (pe_un un_neg pe_int)))) (pg_name hN hi hyl hf) (pss_one (ps_app1 (pe_var hi hyv hyd hyc) hbase hline hs hfew hsw)) hfs
theorem ps_look {ix iz : Nat} (hu : X.A.units + 64 < cLine) (hgd : X.A.guards = some []) (hx : X.N[ix]? = some x) (vx : Vis X.env.scope x) (hz : X.N[iz]? = some z) (vz : Vis X.env.scope z) (hg : Gl X "repr") (hm : X.mg "repr" = none)
    (hxd : (x == ("__debug__" : Str)) = false := by decide) (hxc : (x == ("__classdict__" : Str)) = false := by decide) (hzd : (z == ("__debug__" : Str)) = false := by decide) (hzc : (z == ("__classdict__" : Str)) = false := by decide)
    (hs : starEach [.Name x p1] X.env = (false, eval (.Name x p1) X.env) :: starEach [] X.env := by rfl) :
    PS X (.If (.Compare (.Call (.Name "repr" p0) [.Name x p1] [] p2) [.NotEq] [.Name z p3] p4) [.Return (some (.Constant (.bool false) j p5)) p6] [] pos) (tIfS (tTest (tOp (rEqS true) (tCB (rRepr X.K) (tCons (tVar ix) tNil)) (tVar iz))) (tRet (tC (.bl false))) tNext) :=
  ps_if (pt_cmpR op_neS (pe_callB (call_reprT hu hgd) hg hm (by decide +kernel) (pa_cons (pe_var hx vx hxd hxc) pa_nil hs) (by decide) (by decide) hs rfl) (pe_var hz vz hzd hzc) (nomark _)) (pss_one (ps_ret pe_bl)) pss_nil
theorem sss_told {s1 s2 s3 s4 s5 s6 s7 : Stmt} {rest : List Stmt} {fr : List Sl → Ot} {it ic iz ix ir : Nat} {f1 f2 : List Sl → Rs AV} {fB : List Sl → Option (List (List PyData) × List PyData)}
    (hm : mkT ∉ pin) (px : ix ∉ pin) (pr : ir ∉ pin) (n1 : it ≠ ix) (n2 : ic ≠ ix) (n3 : iz ≠ ix) (n4 : ir ≠ ix)
    (h1 : PS X s1 (tAsg (tLst (tCons (rdE X.K X.mg W pin f1) (tCons (rdE X.K X.mg W pin f2) (tCons (fun σ H Q => tCons (tVar ic) (tCons (tIx X.K (tVar it) 2) tNil) σ H fun vs H1 => spP X.K 2 fB vs H1 Q (WE W σ)) tNil)))) (gName ix)))
    (h2 : PS X s2 (tIfS (tTest (tOp (rEqS true) (tCB (rRepr X.K) (tCons (tVar ix) tNil)) (tVar iz))) (tRet (tC (.bl false))) tNext))
    (h3 : PS X s3 (tApp1 X.K (tIx X.K (tVar ix) 0) w)) (h4 : PS X s4 (tApp1 X.K (tIx X.K (tVar ix) 1) w)) (h5 : PS X s5 (tApp1 X.K (tIx X.K (tIx X.K (tVar ix) 2) 0) w)) (h6 : PS X s6 (tApp1 X.K (tIx X.K (tIx X.K (tVar ix) 2) 1) w))
    (h7 : PS X s7 (tLoop X.K (tIx X.K (tIx X.K (tVar ix) 2) 0) ir w)) (hr : SSs X W pin rest fr) :
    SSs X W pin (s1 :: s2 :: s3 :: s4 :: s5 :: s6 :: s7 :: rest) (oSeq (oTold it ic iz ix ir f1 f2 fB w) fr) :=
  pss_mono (pss_cons h1 (pss_cons h2 (pss_cons h3 (pss_cons h4 (pss_cons h5 (pss_cons h6 (pss_cons h7 hr))))))) fun D σ H q => by
    have q := seq_ok (K := X.K) (mg := X.mg) (W := W) (pin := pin) D σ H q
    obtain ⟨b, Fz, F, δ, hp, R, P⟩ := q
    exact told_ok (u := rdS X.K X.mg W pin fr) hm hp px pr n1 n2 n3 n4 R P
end
end Hb
namespace Hb
open PySem PySem.Spec PyProof.Rows L2
structure DfnP (P : Program) (w : World) (K : PySem.W.Frag) (mg : Str → Option Value) (base : Heap) (k : Nat) (x : Str) (ps : List Str) (sp : Sp) : Prop where
  ex : ∃ (f : Addr) (fd : FuncData), mg x = some (.ref f) ∧ PySem.W.keepIn K (.ref f) = true ∧ FnG P w K mg base k f fd ps sp ∧ Binds K fd ps []
theorem DfnP.mono {P : Program} {w : World} {K : PySem.W.Frag} {mg : Str → Option Value} {base : Heap} {k j : Nat} {x : Str} {ps : List Str} {sp : Sp} (D : DfnP P w K mg base k x ps sp) (h : k ≤ j) : DfnP P w K mg base j x ps sp := by
  obtain ⟨f, fd, h1, h2, h3, h4⟩ := D.ex
  exact ⟨f, fd, h1, h2, h3.mono h, h4⟩
theorem pe_callPD {X : Cx} {k : Nat} {ps : List Str} {W : WX} {x : Str} {p pos : Pos} {e : Expr} {es : List Expr} {ta : TA} {sp : Sp} (D : DfnP X.prog X.w X.K X.mg X.base k x ps sp) (hr : Room k X.A) (hgd : X.A.guards = some []) (hx : ∀ σ, PassesAt (L2.CX X.prog X.w) X σ (WE W σ)) (hg : Gl X x) (ha : PA X (e :: es) ta)
    (hdb : (x == ("__debug__" : Str)) = false := by decide) (he : starEach (e :: es) X.env = (false, eval e X.env) :: starEach es X.env := by rfl) (hpl : (backTo pos (starEach es X.env)).any (·.1) = false := by rfl) :
    PE X (.Call (.Name x p) (e :: es) [] pos) (fun σ H Q => ta σ H fun vs H1 => sp vs H1 Q (WE W σ)) := by
  obtain ⟨f, fd, hm, hk, G, hb⟩ := D.ex
  exact pe_callP G hr hgd hx hg hm hk hb ha hdb he hpl
end Hb
namespace Nv
open PySem Hb L2
open Enc (enc)
def RPr {ρ : Type} (ΓS : ρ → Ga) (r : ρ) (o : Ot) : Prop := ∃ δ', o = .nx δ' ∧ Sat (ΓS r) δ'
theorem rpr_nx {ρ : Type} {ΓS : ρ → Ga} {r : ρ} {Γ : Ga} (l : GaLe Γ (ΓS r)) : ∀ δ', Sat Γ δ' → RPr ΓS r (.nx δ') := fun δ' sa => ⟨δ', rfl, sa.wk l⟩
section
variable {α β : Type} [Enc α] [Enc β]
theorem owRows_oww : ∀ xs : List (List α), owRows (xs.map fun r => El.ow (r.map enc)) = some (xs.map fun r => r.map enc)
  | [] => rfl
  | x :: r => by
    show (owRows (r.map fun r => El.ow (r.map enc))).map (x.map enc :: ·) = _
    rw [owRows_oww r]
    rfl
theorem allFz_fz : ∀ ds : List PyData, allFz (ds.map El.fz) = some ds
  | [] => rfl
  | d :: r => by
    show (allFz (r.map El.fz)).map (d :: ·) = _
    rw [allFz_fz r]
    rfl
/-- the two lists, from the typed reading of the statements -/
theorem pairF_of {fb : List Sl → Ot} {n m i j : Nat} {ins : List Sl} {p : Option (List (List α) × List β)} {Γe : List (List α) × List β → Ga} (h : Bl fb ((ins ++ List.replicate (m - n) Sl.no).map Pt.eq) p (RPr Γe))
    (hi : ∀ r, (Γe r)[i]? = some (.eq (oww r.1))) (hj : ∀ r, (Γe r)[j]? = some (.eq (ow r.2))) {r : List (List α) × List β} (e : p = some r) (fl : (r.1.all fun x => x.all fun y => flatD (enc y)) = true) (fl2 : (r.2.all fun y => flatD (enc y)) = true) :
    pairF fb n m i j ins = some (r.1.map fun x => x.map enc, r.2.map enc) := by
  obtain ⟨δ', h1, h2⟩ := h r e _ (sat_eqs _)
  have g1 := h2.at_ (hi r)
  have g2 := h2.at_ (hj r)
  have f1 : ((r.1.map fun x => x.map enc).all fun r => r.all flatD) = true := by
    rw [List.all_map]
    refine Eq.trans (congrArg _ (funext fun x => ?_)) fl
    simp [List.all_map]
    rfl
  have f2 : (r.2.map enc).all flatD = true := by
    rw [List.all_map]
    exact fl2
  unfold pairF
  rw [h1]
  simp only [g1, g2, oww, ow, owRows_oww, allFz_fz]
  rw [if_pos ⟨f1, f2⟩]
end
def toldN (l0 l1 : List PyData) (rs : List (List PyData)) (ds : List PyData) (w : Str) : Option (PyData × List PyData) :=
  if okTold l0 l1 rs ds = true then some (toldT l0 l1 (rs.map .list) ds, [.list (l0 ++ [.str w]), .list (l1 ++ [.str w]), .tuple [.list ((rs.map fun r => .list (r ++ [.str w])) ++ [.str w]), .list (ds ++ [.str w])]]) else none
section
variable {α β γ ε ζ : Type} [Enc α] [Enc β] [Enc γ] [Enc ε] {Γ : Ga} {g : List Sl → Ot} {R : ζ → Ot → Prop}
theorem bl_told {it ic iz ix ir : Nat} {f1 f2 : List Sl → Rs AV} {fB : List Sl → Option (List (List PyData) × List PyData)} {w : Str} {T : List Str} {c : Int} {z : Str} {p1 : Option (List α)} {p2 : Option (List β)} {pB : Str → Option (List (List γ) × List ε)} {Γ1 : List α → Ga} {Γ2 : List β → Ga} {κf : ζ} {kont : PyData × List PyData → Option ζ}
    (hT : Γ[it]? = some (.eq (.fz (enc T)))) (hc : Γ[ic]? = some (.eq (.fz (enc c)))) (hz : Γ[iz]? = some (.eq (.fz (enc z)))) (hx : ix < Γ.length) (hr : ir < Γ.length)
    (h1 : Ev f1 ((viewS Γ.length it ic (enc T) (enc c)).map Pt.eq) p1 (fun v => .tmp (ow v)) Γ1) (h2 : Ev f2 ((viewS Γ.length it ic (enc T) (enc c)).map Pt.eq) p2 (fun v => .tmp (ow v)) Γ2)
    (hB : ∀ t v, pB t = some v → fB [.fz (enc c), .fz (enc t)] = some (v.1.map fun x => x.map enc, v.2.map enc))
    (hf : ∀ δ', Sat (upP ix (.eq .no) Γ) δ' → R κf (.rt (.fz (.bool false)) δ')) (k : ∀ y : PyData × List PyData, Bl g (upP ix (.eq (.fz (enc y.2))) (upP ir (.eq .no) Γ)) (kont y) R) :
    Bl (oSeq (oTold it ic iz ix ir f1 f2 fB w) g) Γ (p1.bind fun l0 => p2.bind fun l1 => (atL T 2).bind fun t => (pB t).bind fun v => (toldN (l0.map enc) (l1.map enc) (v.1.map fun x => x.map enc) (v.2.map enc) w).bind fun y => if (y.1.shown.cps.toList == z.cps.toList) = true then kont y else some κf) R := fun r e δ s => by
  obtain ⟨l0, e1, e⟩ := bind_of e
  obtain ⟨l1, e2, e⟩ := bind_of e
  obtain ⟨t, e3, e⟩ := bind_of e
  obtain ⟨v, e4, e⟩ := bind_of e
  obtain ⟨y, e5, e⟩ := bind_of e
  unfold toldN at e5
  split at e5
  case isFalse => cases e5
  rename_i ok
  cases e5
  have q1 := s.at_ hT
  have q2 := s.at_ hc
  have q3 := s.at_ hz
  have hl : δ.length = Γ.length := s.len.symm
  obtain ⟨d1, k1, _⟩ := h1 l0 e1 _ (sat_eqs _)
  obtain ⟨d2, k2, _⟩ := h2 l1 e2 _ (sat_eqs _)
  have k1 : f1 (viewS δ.length it ic (enc T) (enc c)) = .ok (.tmp (ow l0)) d1 := by rw [hl]; exact k1
  have k2 : f2 (viewS δ.length it ic (enc T) (enc c)) = .ok (.tmp (ow l1)) d2 := by rw [hl]; exact k2
  have k3 : itemD (enc T) (.int 2) = some (enc t) := by
    show atI (T.map enc) 2 = _
    have e3 : atI T 2 = some t := e3
    unfold atI at e3 ⊢
    rw [List.length_map]
    obtain ⟨j, h1, h2⟩ := Option.bind_eq_some_iff.mp e3
    rw [h1]
    show (T.map enc)[j]? = _
    rw [List.getElem?_map, h2]
    rfl
  have k4 := hB t v e4
  have hG : toldG f1 f2 fB (enc T) (enc c) (viewS δ.length it ic (enc T) (enc c)) = some (l0.map enc, l1.map enc, v.1.map fun x => x.map enc, v.2.map enc) := by
    unfold toldG
    simp only [k1, k2, k3, ow, allFz_fz, k4]
    exact if_pos ok
  have hG2 : oTold it ic iz ix ir f1 f2 fB w δ = if ((toldT (l0.map enc) (l1.map enc) ((v.1.map fun x => x.map enc).map .list) (v.2.map enc)).shown.cps.toList == z.cps.toList) = true then
        .nx (upS ix (.fz (toldT (l0.map enc ++ [.str w]) (l1.map enc ++ [.str w]) (((v.1.map fun x => x.map enc).map fun r => .list (r ++ [.str w])) ++ [.str w]) (v.2.map enc ++ [.str w]))) (upS ir .no δ))
      else .rt (.fz (.bool false)) (upS ix .no δ) := by
    have q3 : δ[iz]? = some (.fz (.str z)) := q3
    unfold oTold
    simp only [q1, q2, q3, hG]
    rw [if_pos ⟨by rw [hl]; exact hx, by rw [hl]; exact hr⟩]
  unfold oSeq
  rw [hG2]
  by_cases same : ((toldT (l0.map enc) (l1.map enc) ((v.1.map fun x => x.map enc).map .list) (v.2.map enc)).shown.cps.toList == z.cps.toList) = true
  · rw [if_pos same] at e ⊢
    refine k _ r e _ ?_
    have s1 := (s.up (i := ir) (p := .eq .no) (s := .no) rfl).up (i := ix) (p := .eq (.fz (enc ([.list (l0.map enc ++ [.str w]), .list (l1.map enc ++ [.str w]), .tuple [.list (((v.1.map fun x => x.map enc).map fun r => .list (r ++ [.str w])) ++ [.str w]), .list (v.2.map enc ++ [.str w])]] : List PyData)))) (s := .fz (toldT (l0.map enc ++ [.str w]) (l1.map enc ++ [.str w]) (((v.1.map fun x => x.map enc).map fun r => .list (r ++ [.str w])) ++ [.str w]) (v.2.map enc ++ [.str w]))) (by
      show _ = _
      rfl)
    exact s1
  · rw [if_neg same] at e ⊢
    cases some_of e
    exact hf _ (s.up rfl)
end
theorem flat_o (r : List (Option Int)) : (r.all fun y => flatD (enc y)) = true := List.all_eq_true.mpr fun y _ => by cases y <;> rfl
theorem flat_oo (r : List (List (Option Int))) : (r.all fun x => x.all fun y => flatD (enc y)) = true := List.all_eq_true.mpr fun x _ => flat_o x
end Nv
namespace P
open PySem PySem.Spec PyProof.Rows L2 Hb Nv
open Enc (enc)
def B_is_integer : List Sl → Ot :=
    oSeq (oIf (sOr (sNot (sTru (s1 (gIsi "int") (sVar 0)))) (sTru (s1 (gIsi "bool") (sVar 0)))) (oRet (sC (.bool false))) (oNext))
    (oRet (sAndV (s2 gLe (sVar 1) (sVar 0)) (sOrV (s2 (gIs false) (sVar 2) (sC .none)) (s2 gLe (sVar 0) (sVar 2)))))
def F_is_integer : List Sl → FR := fnRun 3 3 [] B_is_integer
def n_is_integer (a0 : PyData) (a1 : Int) (a2 : (Option Int)) : Option (Bool) :=
    (Option.bind (Option.bind (Option.bind (Option.bind (some a0) fun x1 => isiN "int" x1) fun x3 => some !x3) fun x6 => if x6 = true then some true else (Option.bind (some a0) fun x4 => isiN "bool" x4)) fun x7 => if x7 = true then (Option.bind (some false) fun x8 => some x8) else (Option.bind (Option.bind (Option.bind (some a1) fun x10 => Option.bind (Option.bind (some a0) fun x9 => asIntA x9) fun x11 => leI x10 x11) fun x18 => if x18 = true then (Option.bind (Option.bind (some a2) fun x12 => some (if false = true then Option.isSome x12 else Option.isNone x12)) fun x17 => if x17 = true then some true else (Option.bind (Option.bind (some a0) fun x13 => asIntA x13) fun x15 => Option.bind (Option.bind (some a2) fun x14 => x14) fun x16 => leI x15 x16)) else some false) fun x19 => some x19))
theorem V_is_integer (a0 : PyData) (a1 : Int) (a2 : (Option Int)) : Fun F_is_integer (n_is_integer a0 a1 a2) [.fz (enc a0), .fz (enc a1), .fz (enc a2)] (fun r : (Bool) => .fz (enc (r : Bool))) fun r => [.no, .no, .no] :=
  fun_of (ΓR := fun r => [.aa, .aa, .aa]) (show Bl B_is_integer _ _ _ from (bl_ga [.eq (.fz (enc (a0 : PyData))), .eq (.fz (enc (a1 : Int))), .eq (.fz (enc (a2 : (Option Int))))] (by kernel_rfl) (bl_if (k := fun x7 => x7) ((ts_or (ts_not (ts_truB (((pu1A (Nv.op_isi (T := "int")) (((pu_var 0 rfl)).rd).ra)).rd).ra)) (ts_truB (((pu1A (Nv.op_isi (T := "bool")) (((pu_var 0 rfl)).rd).ra)).rd).ra))).te' (fun x7 => (bl_retS (bl_retV (pu_c).ev fun x8 => (rf_eq rfl (.cons .aa (.cons .aa (.cons .aa .nil))))))) fun x7 => (bl_next (bl_retV ((pu_andV (pu2 Nv.op_le ((pu_var 1 rfl)).rd ((Pu.asI (pu_var 0 rfl))).rd) (pu_orV (pu_isN (n := false) (((pu_var 2 rfl)).rd).ra) (pu2 Nv.op_le ((Pu.asI (pu_var 0 rfl))).rd ((Pu.un (pu_var 2 rfl))).rd)))).ev fun x19 => (rf_eq rfl (.cons .aa (.cons .aa (.cons .aa .nil)))))))))
end P
namespace P
open PySem PySem.Spec PyProof.Rows L2 Hb Nv
open Enc (enc)
def B_need_count : List Sl → Ot :=
    oIf (sNot (sTru (sCall F_is_integer [] (rCons (sTk (sVar 0)) (rCons (sC (.int 1)) (rCons (sTk (sVar 1)) (rNil))))))) (oRaise "InvalidCount") (oNext)
def F_need_count : List Sl → FR := fnRun 2 2 [] B_need_count
def n_need_count (a0 : PyData) (a1 : Int) : Option (Unit) :=
    (Option.bind (Option.bind (Option.bind (Option.bind (some a0) fun x1 => Option.bind (Option.bind (some (1 : Int)) fun x2 => Option.bind (Option.bind (some a1) fun x3 => Option.bind (some ()) fun x4 => some (x3, x4)) fun x5 => some (x2, x5)) fun x6 => some (x1, x6)) fun x7 => n_is_integer ((Prod.fst x7) : PyData) ((Prod.fst (Prod.snd x7)) : Int) ((some (Prod.fst (Prod.snd (Prod.snd x7)))) : (Option Int))) fun x9 => some !x9) fun x10 => if x10 = true then none else some ())
theorem V_need_count (a0 : PyData) (a1 : Int) : Fun F_need_count (n_need_count a0 a1) [.fz (enc a0), .fz (enc a1)] (fun r : (Unit) => .fz (enc (r : Unit))) fun r => [.no, .no] :=
  fun_of (ΓR := fun r => [.aa, .aa]) (show Bl B_need_count _ _ _ from (bl_ga [.eq (.fz (enc (a0 : PyData))), .eq (.fz (enc (a1 : Int)))] (by kernel_rfl) (bl_last (bl_if (k := fun x10 => x10) ((ts_not (ts_truB (((pu_call (ap_cons ((pu_var 0 rfl)).tkP (ap_cons pu_c (ap_cons ((pu_var 1 rfl)).tkP ap_nil))) (fun x7 => V_is_integer ((Prod.fst x7) : PyData) ((Prod.fst (Prod.snd x7)) : Int) ((some (Prod.fst (Prod.snd (Prod.snd x7)))) : (Option Int))))).rd).ra))).te' (fun x10 => bl_bad) fun x10 => (bl_next (bl_end (rf_nx rfl (.cons .aa (.cons .aa .nil)))))))))
end P
namespace P
open PySem PySem.Spec PyProof.Rows L2 Hb Nv
open Enc (enc)
def B_need_text : List Sl → Ot :=
    oIf (sNot (sTru (s1 (gIsi "str") (sVar 0)))) (fun _ => .bad) (oNext)
def F_need_text : List Sl → FR := fnRun 1 1 [] B_need_text
def n_need_text (a0 : PyData) : Option (Unit) :=
    (Option.bind (Option.bind (Option.bind (some a0) fun x1 => isiN "str" x1) fun x3 => some !x3) fun x4 => if x4 = true then none else some ())
theorem V_need_text (a0 : PyData) : Fun F_need_text (n_need_text a0) [.fz (enc a0)] (fun r : (Unit) => .fz (enc (r : Unit))) fun r => [.no] :=
  fun_of (ΓR := fun r => [.aa]) (show Bl B_need_text _ _ _ from (bl_ga [.eq (.fz (enc (a0 : PyData)))] (by kernel_rfl) (bl_last (bl_if (k := fun x4 => x4) ((ts_not (ts_truB (((pu1A (Nv.op_isi (T := "str")) (((pu_var 0 rfl)).rd).ra)).rd).ra))).te' (fun x4 => bl_bad) fun x4 => (bl_next (bl_end (rf_nx rfl (.cons .aa .nil))))))))
end P
namespace P
open PySem PySem.Spec PyProof.Rows L2 Hb Nv
open Enc (enc)
def B_number_in : List Sl → Ot :=
    oSeq (oIf (sOr (sNot (sTst (sCh gLe gLe (sC (.int 1)) (s1 (gRd lenD) (sVar 0)) (sC (.int 40))))) (sNot (sTru (s1 (gRd (overB fun ns => some (.bool (ns.all id)))) (sLc false (wStr (sVar 0)) [1] (tgN 1) (tOk) (sTk (s2 (gInS false) (sVar 1) (sC (.str "0123456789"))))))))) (oRet (sC .none)) (oNext))
    (oRet (sIf (sAnd (sTst (s2 (gEqS false) (s2 gIxS (sVar 0) (sC (.int 0))) (sC (.str "0")))) (sTst (s2 (gEqS true) (sVar 0) (sC (.str "0"))))) (sC .none) (s1 gIntS (sVar 0))))
def F_number_in : List Sl → FR := fnRun 1 2 [] B_number_in
def n_number_in (a0 : Str) : Option ((Option Int)) :=
    (Option.bind (Option.bind (Option.bind (Option.bind (some (1 : Int)) fun x2 => Option.bind (Option.bind (some a0) fun x1 => lenS x1) fun x3 => Option.bind (leI x2 x3) fun x5 => if x5 = true then Option.bind (some (40 : Int)) fun x4 => leI x3 x4 else some false) fun x6 => some !x6) fun x14 => if x14 = true then some true else (Option.bind (Option.bind (Option.bind (some a0) fun x7 => if List.length ((signsL x7)) ≤ cap then mapF (signsL x7) (fun x8 => (some true)) (fun x8 => (Option.bind (some x8) fun x9 => Option.bind (some ("0123456789" : Str)) fun x10 => inS x9 x10)) else none) fun x11 => allB x11) fun x13 => some !x13)) fun x15 => if x15 = true then (Option.bind (some ()) fun x16 => some (none : (Option Int))) else (Option.bind (Option.bind (Option.bind (Option.bind (Option.bind (some a0) fun x17 => Option.bind (some (0 : Int)) fun x18 => atS x17 x18) fun x19 => Option.bind (some ("0" : Str)) fun x20 => eqS x19 x20) fun x23 => if x23 = true then (Option.bind (some a0) fun x21 => Option.bind (some ("0" : Str)) fun x22 => neS x21 x22) else some false) fun x27 => if x27 = true then (Option.bind (some ()) fun x25 => some ((none : (Option Int)) : (Option Int))) else (Option.bind (Option.bind (some a0) fun x24 => intS x24) fun x26 => some ((some x26) : (Option Int)))) fun x28 => some x28))
theorem V_number_in (a0 : Str) : Fun F_number_in (n_number_in a0) [.fz (enc a0)] (fun r : ((Option Int)) => .fz (enc (r : (Option Int)))) fun r => [.no] :=
  fun_of (ΓR := fun r => [.aa, .aa]) (show Bl B_number_in _ _ _ from (bl_ga [.eq (.fz (enc (a0 : Str))), .eq .no] (by kernel_rfl) (bl_if (k := fun x15 => x15) ((ts_or (ts_not (ts_tst (pu_ch Nv.op_le Nv.op_le (pu_c).rd ((pu1A Nv.op_lenS (((pu_var 0 rfl)).rd).ra)).rd (pu_c).rd))) (ts_not (ts_truB (((pu1A Nv.op_all ((((pu_lc (vs := [1]) (ip_str (xs := fun v => v) ((pu_var 0 rfl)).tkP) rfl rfl (fun x7 x8 => tg_n) (fun x7 x8 => (ts_ga [.eq (.fz (enc (a0 : Str))), .eq (.fz (enc (x8 : Str)))] (by kernel_rfl) ts_ok)) fun x7 x8 => (pu_ga [.eq (.fz (enc (a0 : Str))), .eq (.fz (enc (x8 : Str)))] (by kernel_rfl) ((pu2 Nv.op_inS ((pu_var 1 rfl)).rd (pu_c).rd)).tkP))).rdT ow_tree)).ra)).rd).ra)))).te' (fun x15 => (bl_retS (bl_retV (pu_none).ev fun x16 => (rf_eq rfl (.cons .aa (.cons .aa .nil)))))) fun x15 => (bl_next (bl_retV ((pu_if (ts_and (ts_tst (pu2 Nv.op_eqS ((pu2 Nv.op_ixS ((pu_var 0 rfl)).rd (pu_c).rd)).rd (pu_c).rd)) (ts_tst (pu2 Nv.op_neS ((pu_var 0 rfl)).rd (pu_c).rd))) (pu_co (fun x25 => ((none : (Option Int)) : (Option Int))) pu_none) (pu_co (fun x26 => ((some x26) : (Option Int))) (pu1 Nv.op_intS ((pu_var 0 rfl)).rd)))).ev fun x28 => (rf_eq rfl (.cons .aa (.cons .aa .nil))))))))
end P
namespace P
open PySem PySem.Spec PyProof.Rows L2 Hb Nv
open Enc (enc)
def B_is_each_once : List Sl → Ot :=
    oSeq (oIf (sOr (sNot (sTru (s1 (gIsi "list") (sVar 1)))) (sOr (sTst (s2 gNe (s1 (gRd lenD) (sVar 1)) (sVar 0))) (sNot (sTru (s1 (gRd (overB fun ns => some (.bool (ns.all id)))) (sLc false (wSeq (sVar 1)) [2] (tgN 2) (tOk) (sTk (sCall F_is_integer [.none] (rCons (sTk (sVar 2)) (rCons (sC (.int 0)) (rNil))))))))))) (oRet (sC (.bool false))) (oNext))
    (oRet (s2 gEq (s1 (gSortD) (sVar 1)) (s1 gRg1 (sVar 0))))
def F_is_each_once : List Sl → FR := fnRun 2 3 [] B_is_each_once
def n_is_each_once (a0 : Int) (a1 : PyData) : Option (Bool) :=
    (Option.bind (Option.bind (Option.bind (Option.bind (some a1) fun x1 => isiN "list" x1) fun x3 => some !x3) fun x19 => if x19 = true then some true else (Option.bind (Option.bind (Option.bind (some a1) fun x4 => lenA x4) fun x5 => Option.bind (some a0) fun x6 => neN x5 x6) fun x18 => if x18 = true then some true else (Option.bind (Option.bind (Option.bind (Option.bind (some a1) fun x7 => seqA x7) fun x8 => if List.length (x8) ≤ cap then mapF x8 (fun x9 => (some true)) (fun x9 => (Option.bind (Option.bind (some x9) fun x10 => Option.bind (Option.bind (some (0 : Int)) fun x11 => Option.bind (some ()) fun x12 => some (x11, x12)) fun x13 => some (x10, x13)) fun x14 => n_is_integer ((Prod.fst x14) : PyData) ((Prod.fst (Prod.snd x14)) : Int) ((none : (Option Int)) : (Option Int)))) else none) fun x15 => allB x15) fun x17 => some !x17))) fun x20 => if x20 = true then (Option.bind (some false) fun x21 => some x21) else (Option.bind (Option.bind (Option.bind (some a1) fun x22 => srtAC x22) fun x24 => Option.bind (Option.bind (some a0) fun x23 => rg1 x23) fun x25 => eqN x24 x25) fun x26 => some x26))
theorem V_is_each_once (a0 : Int) (a1 : PyData) : Fun F_is_each_once (n_is_each_once a0 a1) [.fz (enc a0), .fz (enc a1)] (fun r : (Bool) => .fz (enc (r : Bool))) fun r => [.no, .no] :=
  fun_of (ΓR := fun r => [.aa, .aa, .aa]) (show Bl B_is_each_once _ _ _ from (bl_ga [.eq (.fz (enc (a0 : Int))), .eq (.fz (enc (a1 : PyData))), .eq .no] (by kernel_rfl) (bl_if (k := fun x20 => x20) ((ts_or (ts_not (ts_truB (((pu1A (Nv.op_isi (T := "list")) (((pu_var 1 rfl)).rd).ra)).rd).ra)) (ts_or (ts_tst (pu2A Nv.op_ne (((pu1A Nv.op_lenA (((pu_var 1 rfl)).rd).ra)).rd).ra (((pu_var 0 rfl)).rd).ra)) (ts_not (ts_truB (((pu1A Nv.op_all ((((pu_lc (vs := [2]) (ip_seqA ((pu_var 1 rfl)).tkP) rfl rfl (fun x8 x9 => tg_n) (fun x8 x9 => (ts_ga [.eq (.fz (enc (a0 : Int))), .eq (.fz (enc (a1 : PyData))), .eq (.fz (enc (x9 : PyData)))] (by kernel_rfl) ts_ok)) fun x8 x9 => (pu_ga [.eq (.fz (enc (a0 : Int))), .eq (.fz (enc (a1 : PyData))), .eq (.fz (enc (x9 : PyData)))] (by kernel_rfl) ((pu_call (ap_cons ((pu_var 2 rfl)).tkP (ap_cons pu_c ap_nil)) (fun x14 => V_is_integer ((Prod.fst x14) : PyData) ((Prod.fst (Prod.snd x14)) : Int) ((none : (Option Int)) : (Option Int))))).tkP))).rdT ow_tree)).ra)).rd).ra))))).te' (fun x20 => (bl_retS (bl_retV (pu_c).ev fun x21 => (rf_eq rfl (.cons .aa (.cons .aa (.cons .aa .nil))))))) fun x20 => (bl_next (bl_retV ((pu2A Nv.op_eq ((((pu1 Nv.op_srtAC ((pu_var 1 rfl)).rd)).rdT ow_tree)).ra ((((pu1 Nv.op_rg1 ((pu_var 0 rfl)).rd)).rdT ow_tree)).ra)).ev fun x26 => (rf_eq rfl (.cons .aa (.cons .aa (.cons .aa .nil)))))))))
end P
namespace P
open PySem PySem.Spec PyProof.Rows L2 Hb Nv
open Enc (enc)
def B_places_in : List Sl → Ot :=
    oSeq (oAsg (sLc false (wSeq (sM1 gSplit (sVar 1) (sVar 2))) [4] (tgN 4) (tOk) (sTk (sCall F_number_in [] (rCons (sTk (sVar 4)) (rNil))))) (tgN 3))
    (oIf (sAnd (sBrwT (sTst (s2 (gIn true) (sC .none) (sVar 3)))) (sTru (sBrw (sCall F_is_each_once [] (rCons (sTk (sVar 0)) (rCons (sTk (sVar 3)) (rNil))))))) (oRet (sVar 3)) (oRet (sC .none)))
def F_places_in : List Sl → FR := fnRun 3 5 [] B_places_in
def n_places_in (a0 : Int) (a1 : Str) (a2 : Str) : Option ((Option (List (Option Int)))) :=
    (Option.bind (Option.bind (Option.bind (some a1) fun x1 => Option.bind (some a2) fun x2 => splitN x1 x2) fun x3 => if List.length (x3) ≤ cap then mapF x3 (fun x4 => (some true)) (fun x4 => (Option.bind (Option.bind (some x4) fun x5 => Option.bind (some ()) fun x6 => some (x5, x6)) fun x7 => n_number_in ((Prod.fst x7) : Str))) else none) fun x8 => (Option.bind (Option.bind (Option.bind (Option.bind (some ()) fun x9 => some (enc (x9 : Unit))) fun x11 => Option.bind (Option.bind (some x8) fun x10 => some (enc (x10 : (List (Option Int))))) fun x12 => ninA x11 x12) fun x20 => if x20 = true then (Option.bind (Option.bind (some a0) fun x13 => Option.bind (Option.bind (some x8) fun x14 => Option.bind (some ()) fun x15 => some (x14, x15)) fun x16 => some (x13, x16)) fun x17 => n_is_each_once ((Prod.fst x17) : Int) ((enc ((Prod.fst (Prod.snd x17)) : (List (Option Int)))) : PyData)) else some false) fun x21 => if x21 = true then some (some x8) else (Option.bind (some ()) fun x22 => some (none : (Option (List (Option Int)))))))
theorem V_places_in (a0 : Int) (a1 : Str) (a2 : Str) : Fun F_places_in (n_places_in a0 a1 a2) [.fz (enc a0), .fz (enc a1), .fz (enc a2)] (fun r : ((Option (List (Option Int)))) => owO (r : (Option (List (Option Int))))) fun r => [.no, .no, .no] :=
  fun_of (ΓR := fun r => [.aa, .aa, .aa, .aa, .aa]) (show Bl B_places_in _ _ _ from (bl_ga [.eq (.fz (enc (a0 : Int))), .eq (.fz (enc (a1 : Str))), .eq (.fz (enc (a2 : Str))), .eq .no, .eq .no] (by kernel_rfl) (bl_asgT ((pu_lc (vs := [4]) (ip_seq (xs := fun v => v) (((pu_m1 op_split ((pu_var 1 rfl)).rd ((pu_var 2 rfl)).rd)).tkTP ow_tree)) rfl rfl (fun x3 x4 => tg_n) (fun x3 x4 => (ts_ga [.eq (.fz (enc (a0 : Int))), .eq (.fz (enc (a1 : Str))), .eq (.fz (enc (a2 : Str))), .eq .no, .eq (.fz (enc (x4 : Str)))] (by kernel_rfl) ts_ok)) fun x3 x4 => (pu_ga [.eq (.fz (enc (a0 : Int))), .eq (.fz (enc (a1 : Str))), .eq (.fz (enc (a2 : Str))), .eq .no, .eq (.fz (enc (x4 : Str)))] (by kernel_rfl) ((pu_call (ap_cons ((pu_var 4 rfl)).tkP ap_nil) (fun x7 => V_number_in ((Prod.fst x7) : Str)))).tkP))).ev fun x8 => (bl_ga [.eq (.fz (enc (a0 : Int))), .eq (.fz (enc (a1 : Str))), .eq (.fz (enc (a2 : Str))), .eq (ow (x8 : (List (Option Int)))), .eq .no] (by kernel_rfl) (bl_last (bl_if (k := fun x21 => x21) ((ts_and (ts_brw (Γ0 := [.eq (.fz (enc (a0 : Int))), .eq (.fz (enc (a1 : Str))), .eq (.fz (enc (a2 : Str))), .eq (.fz (enc (x8 : (List (Option Int))))), .eq .no]) (.cons .fz (.cons .fz (.cons .fz (.cons .ow (.cons .no .nil))))) (ts_tst (pu2A Nv.op_ninA (((Pu.any pu_none)).rd).ra (((Pu.any (pu_var 3 rfl))).rd).ra))) (ts_truB (((pu_brw (Γ0 := [.eq (.fz (enc (a0 : Int))), .eq (.fz (enc (a1 : Str))), .eq (.fz (enc (a2 : Str))), .eq (.fz (enc (x8 : (List (Option Int))))), .eq .no]) (.cons .fz (.cons .fz (.cons .fz (.cons .ow (.cons .no .nil))))) (pu_call (ap_cons ((pu_var 0 rfl)).tkP (ap_cons ((pu_var 3 rfl)).tkP ap_nil)) (fun x17 => V_is_each_once ((Prod.fst x17) : Int) ((enc ((Prod.fst (Prod.snd x17)) : (List (Option Int)))) : PyData))))).rd).ra))).te' (fun x21 => (bl_retS (bl_retO (k := 3) rfl rfl (sat_ga [.eq (.fz (enc (a0 : Int))), .eq (.fz (enc (a1 : Str))), .eq (.fz (enc (a2 : Str))), .eq .no, .eq .no] (by kernel_rfl) (rf_eq rfl (.cons .aa (.cons .aa (.cons .aa (.cons .aa (.cons .aa .nil)))))))))) fun x21 => (bl_retS (bl_retV (pu_none).ev fun x22 => (rf_eq rfl (.cons .aa (.cons .aa (.cons .aa (.cons .aa (.cons .aa .nil))))))))))))))
end P
namespace P
open PySem PySem.Spec PyProof.Rows L2 Hb Nv
open Enc (enc)
def B_read_ballots_b : List Sl → Ot :=
    oSeq (oDrop (sCall F_need_count [.int 12] (rCons (sTk (sVar 0)) (rNil))))
    (oSeq (oDrop (sCall F_need_text [] (rCons (sTk (sVar 1)) (rNil))))
    (oSeq (oPar [2, 3] (rCons (sLst (lNil)) (rCons (sLst (lNil)) (rNil))))
    (oFor (wEnum (sIf (sTst (s2 (gEqS true) (sVar 1) (sC (.str "")))) (sM1 gSplit (sVar 1) (sC (.str "\n"))) (sLst (lNil)))) (tgT 2 (tgCons (tgN 4) (tgCons (tgN 5) (tgNil)))) (oSeq (oAsg (sM1 gPart (sVar 5) (sC (.str ": "))) (tgT 3 (tgCons (tgN 6) (tgCons (tgN 7) (tgCons (tgN 8) (tgNil))))))
    (oSeq (oPar [9, 10] (rCons (sTk (sCall F_number_in [] (rCons (sTk (sVar 6)) (rNil)))) (rCons (sCall F_places_in [] (rCons (sTk (sVar 0)) (rCons (sTk (sVar 8)) (rCons (sC (.str ">")) (rNil))))) (rNil))))
    (oSeq (oIf (sOr (sTst (s2 (gIs false) (sVar 9) (sC .none))) (sOr (sTst (s2 gGt (sVar 9) (sC (.int 1000000000000000000000000000000)))) (sOr (sTst (s2 (gIs false) (sVar 10) (sC .none))) (sTst (s2 gEq (sVar 4) (sC (.int 40))))))) (fun _ => .bad) (oNext))
    (oSeq (oDrop (sAppW (sVar 2) (sMv (sVar 10))))
    (oDrop (sApp (sVar 3) (sVar 9))))))))))
def n_read_ballots_b (a0 : Int) (a1 : Str) : Option ((List (List (Option Int))) × (List (Option Int))) :=
    (Option.bind (Option.bind (Option.bind (some a0) fun x1 => Option.bind (some ()) fun x2 => some (x1, x2)) fun x3 => n_need_count ((enc ((Prod.fst x3) : Int)) : PyData) ((12 : Int) : Int)) fun x4 => (Option.bind (Option.bind (Option.bind (some a1) fun x5 => Option.bind (some ()) fun x6 => some (x5, x6)) fun x7 => n_need_text ((enc ((Prod.fst x7) : Str)) : PyData)) fun x8 => (Option.bind (Option.bind (some []) fun x9 => Option.bind (Option.bind (some []) fun x10 => Option.bind (some ()) fun x11 => some (x10, x11)) fun x12 => some (x9, x12)) fun x13 => (Option.bind (Option.bind (Option.bind (some a1) fun x14 => Option.bind (some ("" : Str)) fun x15 => neS x14 x15) fun x18 => if x18 = true then (Option.bind (some a1) fun x16 => Option.bind (some ("\n" : Str)) fun x17 => splitN x16 x17) else (some [])) fun x19 => Option.bind (forS (enumL x19) (((Prod.fst x13), (Prod.fst (Prod.snd x13))) : ((List (List (Option Int))) × (List (Option Int)))) fun s21 x20 => (Option.bind (Option.bind (some (Prod.snd x20)) fun x22 => Option.bind (some (": " : Str)) fun x23 => partN x22 x23) fun x24 => (Option.bind (Option.bind (Option.bind (some (T3.a x24)) fun x25 => Option.bind (some ()) fun x26 => some (x25, x26)) fun x27 => n_number_in ((Prod.fst x27) : Str)) fun x35 => Option.bind (Option.bind (Option.bind (some a0) fun x28 => Option.bind (Option.bind (some (T3.c x24)) fun x29 => Option.bind (Option.bind (some (">" : Str)) fun x30 => Option.bind (some ()) fun x31 => some (x30, x31)) fun x32 => some (x29, x32)) fun x33 => some (x28, x33)) fun x34 => n_places_in ((Prod.fst x34) : Int) ((Prod.fst (Prod.snd x34)) : Str) ((Prod.fst (Prod.snd (Prod.snd x34))) : Str)) fun x36 => (Option.bind (Option.bind (Option.bind (some x35) fun x37 => some (if false = true then Option.isSome x37 else Option.isNone x37)) fun x46 => if x46 = true then some true else (Option.bind (Option.bind (Option.bind (some x35) fun x38 => x38) fun x39 => Option.bind (some (1000000000000000000000000000000 : Int)) fun x40 => gtI x39 x40) fun x45 => if x45 = true then some true else (Option.bind (Option.bind (some x36) fun x41 => some (if false = true then Option.isSome x41 else Option.isNone x41)) fun x44 => if x44 = true then some true else (Option.bind (some (Prod.fst x20)) fun x42 => Option.bind (some (40 : Int)) fun x43 => eqN x42 x43)))) fun x47 => if x47 = true then none else (Option.bind x36 fun x48 => (Option.bind (Option.bind (some x48) fun x49 => Option.bind (apL (Prod.fst s21) x49) fun x50 => some (x50, x49)) fun x51 => (Option.bind (Option.bind (some x35) fun x52 => Option.bind (apL (Prod.snd s21) x52) fun x53 => some (x53, x52)) fun x54 => some (((Prod.fst x51), (Prod.fst x54)) : ((List (List (Option Int))) × (List (Option Int))))))))))) fun s21 => some ((Prod.fst s21), (Prod.snd s21))))))
theorem V_read_ballots_b (a0 : Int) (a1 : Str) : Bl B_read_ballots_b (([.fz (enc a0), .fz (enc a1)] ++ List.replicate (11 - 2) Sl.no : List Sl).map Pt.eq) (n_read_ballots_b a0 a1) (RPr fun r : ((List (List (Option Int))) × (List (Option Int))) => [.aa, .aa, .eq (oww (Prod.fst r)), .eq (ow (Prod.snd r)), .aa, .aa, .aa, .aa, .aa, .aa, .aa]) :=
  (show Bl B_read_ballots_b _ _ _ from (bl_ga [.eq (.fz (enc (a0 : Int))), .eq (.fz (enc (a1 : Str))), .eq .no, .eq .no, .eq .no, .eq .no, .eq .no, .eq .no, .eq .no, .eq .no, .eq .no] (by kernel_rfl) (bl_expr ((pu_call (ap_cons ((pu_var 0 rfl)).tkP ap_nil) (fun x3 => V_need_count ((enc ((Prod.fst x3) : Int)) : PyData) ((12 : Int) : Int)))).ev fun x4 => (bl_ga [.eq (.fz (enc (a0 : Int))), .eq (.fz (enc (a1 : Str))), .eq .no, .eq .no, .eq .no, .eq .no, .eq .no, .eq .no, .eq .no, .eq .no, .eq .no] (by kernel_rfl) (bl_expr ((pu_call (ap_cons ((pu_var 1 rfl)).tkP ap_nil) (fun x7 => V_need_text ((enc ((Prod.fst x7) : Str)) : PyData)))).ev fun x8 => (bl_ga [.eq (.fz (enc (a0 : Int))), .eq (.fz (enc (a1 : Str))), .eq .no, .eq .no, .eq .no, .eq .no, .eq .no, .eq .no, .eq .no, .eq .no, .eq .no] (by kernel_rfl) (bl_par (ag_cons (pu_nilw).ev fun x9 => (ag_cons (pu_nil).ev fun x10 => ag_nil)) fun x13 => (bl_ga [.eq (.fz (enc (a0 : Int))), .eq (.fz (enc (a1 : Str))), .eq (oww ((Prod.fst x13) : (List (List (Option Int))))), .eq (ow ((Prod.fst (Prod.snd x13)) : (List (Option Int)))), .eq .no, .eq .no, .eq .no, .eq .no, .eq .no, .eq .no, .eq .no] (by kernel_rfl) (bl_last (bl_for (vs := [4, 5]) (xs := fun x19 => (enumL x19)) (s0 := fun x19 => (((Prod.fst x13), (Prod.fst (Prod.snd x13))) : ((List (List (Option Int))) × (List (Option Int))))) (ΓL := fun x19 (s21 : ((List (List (Option Int))) × (List (Option Int)))) => [.eq (.fz (enc (a0 : Int))), .eq (.fz (enc (a1 : Str))), .eq (oww ((Prod.fst s21) : (List (List (Option Int))))), .eq (ow ((Prod.snd s21) : (List (Option Int)))), .pl, .pl, .pl, .pl, .pl, .pl, .eq .no]) ((ip_enum (xs := fun v => v) (((pu_if (ts_tst (pu2 Nv.op_neS ((pu_var 1 rfl)).rd (pu_c).rd)) (pu_m1 op_split ((pu_var 1 rfl)).rd (pu_c).rd) pu_nil)).tkTP ow_tree))).it (fun x19 => (.cons .rfl (.cons .rfl (.cons .rfl (.cons .rfl (.cons .no (.cons .no (.cons .no (.cons .no (.cons .no (.cons .no (.cons .rfl .nil)))))))))))) (fun x19 s21 x20 => (tg_t (tgs_cons tg_n (tgs_cons tg_n tgs_nil)))) (fun x19 s21 x20 => (bl_ga [.eq (.fz (enc (a0 : Int))), .eq (.fz (enc (a1 : Str))), .eq (oww ((Prod.fst s21) : (List (List (Option Int))))), .eq (ow ((Prod.snd s21) : (List (Option Int)))), .eq (.fz (enc ((Prod.fst x20) : Int))), .eq (.fz (enc ((Prod.snd x20) : Str))), .pl, .pl, .pl, .pl, .eq .no] (by kernel_rfl) (bl_asgG (vs := [6, 7, 8]) ((pu_m1 op_part ((pu_var 5 rfl)).rd (pu_c).rd)).ev (fun x24 => (tg_t (tgs_cons tg_n (tgs_cons tg_n (tgs_cons tg_n tgs_nil))))) fun x24 => (bl_ga [.eq (.fz (enc (a0 : Int))), .eq (.fz (enc (a1 : Str))), .eq (oww ((Prod.fst s21) : (List (List (Option Int))))), .eq (ow ((Prod.snd s21) : (List (Option Int)))), .eq (.fz (enc ((Prod.fst x20) : Int))), .eq (.fz (enc ((Prod.snd x20) : Str))), .eq (.fz (enc ((T3.a x24) : Str))), .eq (.fz (enc ((T3.b x24) : Str))), .eq (.fz (enc ((T3.c x24) : Str))), .pl, .eq .no] (by kernel_rfl) (bl_par2O (a := fun x35 => x35) (b := fun x35 x36 => x36) (((pu_call (ap_cons ((pu_var 6 rfl)).tkP ap_nil) (fun x27 => V_number_in ((Prod.fst x27) : Str)))).tkP).ev (fun x35 => ((pu_call (ap_cons ((pu_var 0 rfl)).tkP (ap_cons ((pu_var 8 rfl)).tkP (ap_cons pu_c ap_nil))) (fun x34 => V_places_in ((Prod.fst x34) : Int) ((Prod.fst (Prod.snd x34)) : Str) ((Prod.fst (Prod.snd (Prod.snd x34))) : Str)))).ev) fun x35 x36 => (bl_ga [.eq (.fz (enc (a0 : Int))), .eq (.fz (enc (a1 : Str))), .eq (oww ((Prod.fst s21) : (List (List (Option Int))))), .eq (ow ((Prod.snd s21) : (List (Option Int)))), .eq (.fz (enc ((Prod.fst x20) : Int))), .eq (.fz (enc ((Prod.snd x20) : Str))), .eq (.fz (enc ((T3.a x24) : Str))), .eq (.fz (enc ((T3.b x24) : Str))), .eq (.fz (enc ((T3.c x24) : Str))), .eq (.fz (enc (x35 : (Option Int)))), .eq (owO (x36 : (Option (List (Option Int)))))] (by kernel_rfl) (bl_if (k := fun x47 => x47) ((ts_or (ts_tst (pu_isN (n := false) (((pu_var 9 rfl)).rd).ra)) (ts_or (ts_tst (pu2 Nv.op_gt ((Pu.un (pu_var 9 rfl))).rd (pu_c).rd)) (ts_or (ts_tst (pu_isN (n := false) ((rd_owO 10 rfl)).ra)) (ts_tst (pu2A Nv.op_eq (((pu_var 4 rfl)).rd).ra ((pu_c).rd).ra)))))).te' (fun x47 => bl_bad) fun x47 => (bl_next (bl_reOw (k := 10) rfl fun x48 => (bl_ga [.eq (.fz (enc (a0 : Int))), .eq (.fz (enc (a1 : Str))), .eq (oww ((Prod.fst s21) : (List (List (Option Int))))), .eq (ow ((Prod.snd s21) : (List (Option Int)))), .eq (.fz (enc ((Prod.fst x20) : Int))), .eq (.fz (enc ((Prod.snd x20) : Str))), .eq (.fz (enc ((T3.a x24) : Str))), .eq (.fz (enc ((T3.b x24) : Str))), .eq (.fz (enc ((T3.c x24) : Str))), .eq (.fz (enc (x35 : (Option Int)))), .eq (ow (x48 : (List (Option Int))))] (by kernel_rfl) (bl_expr (ev_appW (k := 2) (va := fun x49 => x49) (xs := fun x49 => (Prod.fst s21)) rfl rfl (ev_mv 10 rfl) fun _ => rfl) fun x51 => (bl_ga [.eq (.fz (enc (a0 : Int))), .eq (.fz (enc (a1 : Str))), .eq (oww ((Prod.fst x51) : (List (List (Option Int))))), .eq (ow ((Prod.snd s21) : (List (Option Int)))), .eq (.fz (enc ((Prod.fst x20) : Int))), .eq (.fz (enc ((Prod.snd x20) : Str))), .eq (.fz (enc ((T3.a x24) : Str))), .eq (.fz (enc ((T3.b x24) : Str))), .eq (.fz (enc ((T3.c x24) : Str))), .eq (.fz (enc (x35 : (Option Int)))), .eq .no] (by kernel_rfl) (bl_last (bl_expr (ev_app (k := 3) (va := fun x52 => x52) (xs := fun x52 => (Prod.snd s21)) rfl rfl (((pu_var 9 rfl)).tkP).ev fun _ => rfl) fun x54 => (bl_ga [.eq (.fz (enc (a0 : Int))), .eq (.fz (enc (a1 : Str))), .eq (oww ((Prod.fst x51) : (List (List (Option Int))))), .eq (ow ((Prod.fst x54) : (List (Option Int)))), .eq (.fz (enc ((Prod.fst x20) : Int))), .eq (.fz (enc ((Prod.snd x20) : Str))), .eq (.fz (enc ((T3.a x24) : Str))), .eq (.fz (enc ((T3.b x24) : Str))), .eq (.fz (enc ((T3.c x24) : Str))), .eq (.fz (enc (x35 : (Option Int)))), .eq .no] (by kernel_rfl) (bl_end (rs_nx (.cons .rfl (.cons .rfl (.cons .rfl (.cons .rfl (.cons .fz (.cons .fz (.cons .fz (.cons .fz (.cons .fz (.cons .fz (.cons .rfl .nil)))))))))))))))))))))))))))) fun x19 s21 => (bl_end (rpr_nx (.cons .aa (.cons .aa (.cons .rfl (.cons .rfl (.cons .aa (.cons .aa (.cons .aa (.cons .aa (.cons .aa (.cons .aa (.cons .aa .nil)))))))))))))))))))))))
end P
namespace P
open PySem PySem.Spec PyProof.Rows L2 Hb Nv
open Enc (enc)
def B_read_ballots : List Sl → Ot :=
    oSeq (oDrop (sCall F_need_count [.int 12] (rCons (sTk (sVar 0)) (rNil))))
    (oSeq (oDrop (sCall F_need_text [] (rCons (sTk (sVar 1)) (rNil))))
    (oSeq (oPar [2, 3] (rCons (sLst (lNil)) (rCons (sLst (lNil)) (rNil))))
    (oSeq (oFor (wEnum (sIf (sTst (s2 (gEqS true) (sVar 1) (sC (.str "")))) (sM1 gSplit (sVar 1) (sC (.str "\n"))) (sLst (lNil)))) (tgT 2 (tgCons (tgN 4) (tgCons (tgN 5) (tgNil)))) (oSeq (oAsg (sM1 gPart (sVar 5) (sC (.str ": "))) (tgT 3 (tgCons (tgN 6) (tgCons (tgN 7) (tgCons (tgN 8) (tgNil))))))
    (oSeq (oPar [9, 10] (rCons (sTk (sCall F_number_in [] (rCons (sTk (sVar 6)) (rNil)))) (rCons (sCall F_places_in [] (rCons (sTk (sVar 0)) (rCons (sTk (sVar 8)) (rCons (sC (.str ">")) (rNil))))) (rNil))))
    (oSeq (oIf (sOr (sTst (s2 (gIs false) (sVar 9) (sC .none))) (sOr (sTst (s2 gGt (sVar 9) (sC (.int 1000000000000000000000000000000)))) (sOr (sTst (s2 (gIs false) (sVar 10) (sC .none))) (sTst (s2 gEq (sVar 4) (sC (.int 40))))))) (fun _ => .bad) (oNext))
    (oSeq (oDrop (sAppW (sVar 2) (sMv (sVar 10))))
    (oDrop (sApp (sVar 3) (sVar 9))))))))
    (oRet (sTup (lCons (sVar 2) (lCons (sVar 3) (lNil))))))))
def F_read_ballots : List Sl → FR := fnRun 2 11 [] B_read_ballots
def n_read_ballots (a0 : Int) (a1 : Str) : Option (((List (List (Option Int))) × (List (Option Int)))) :=
    (Option.bind (Option.bind (Option.bind (some a0) fun x1 => Option.bind (some ()) fun x2 => some (x1, x2)) fun x3 => n_need_count ((enc ((Prod.fst x3) : Int)) : PyData) ((12 : Int) : Int)) fun x4 => (Option.bind (Option.bind (Option.bind (some a1) fun x5 => Option.bind (some ()) fun x6 => some (x5, x6)) fun x7 => n_need_text ((enc ((Prod.fst x7) : Str)) : PyData)) fun x8 => (Option.bind (Option.bind (some []) fun x9 => Option.bind (Option.bind (some []) fun x10 => Option.bind (some ()) fun x11 => some (x10, x11)) fun x12 => some (x9, x12)) fun x13 => (Option.bind (Option.bind (Option.bind (some a1) fun x14 => Option.bind (some ("" : Str)) fun x15 => neS x14 x15) fun x18 => if x18 = true then (Option.bind (some a1) fun x16 => Option.bind (some ("\n" : Str)) fun x17 => splitN x16 x17) else (some [])) fun x19 => Option.bind (forS (enumL x19) (((Prod.fst x13), (Prod.fst (Prod.snd x13))) : ((List (List (Option Int))) × (List (Option Int)))) fun s21 x20 => (Option.bind (Option.bind (some (Prod.snd x20)) fun x22 => Option.bind (some (": " : Str)) fun x23 => partN x22 x23) fun x24 => (Option.bind (Option.bind (Option.bind (some (T3.a x24)) fun x25 => Option.bind (some ()) fun x26 => some (x25, x26)) fun x27 => n_number_in ((Prod.fst x27) : Str)) fun x35 => Option.bind (Option.bind (Option.bind (some a0) fun x28 => Option.bind (Option.bind (some (T3.c x24)) fun x29 => Option.bind (Option.bind (some (">" : Str)) fun x30 => Option.bind (some ()) fun x31 => some (x30, x31)) fun x32 => some (x29, x32)) fun x33 => some (x28, x33)) fun x34 => n_places_in ((Prod.fst x34) : Int) ((Prod.fst (Prod.snd x34)) : Str) ((Prod.fst (Prod.snd (Prod.snd x34))) : Str)) fun x36 => (Option.bind (Option.bind (Option.bind (some x35) fun x37 => some (if false = true then Option.isSome x37 else Option.isNone x37)) fun x46 => if x46 = true then some true else (Option.bind (Option.bind (Option.bind (some x35) fun x38 => x38) fun x39 => Option.bind (some (1000000000000000000000000000000 : Int)) fun x40 => gtI x39 x40) fun x45 => if x45 = true then some true else (Option.bind (Option.bind (some x36) fun x41 => some (if false = true then Option.isSome x41 else Option.isNone x41)) fun x44 => if x44 = true then some true else (Option.bind (some (Prod.fst x20)) fun x42 => Option.bind (some (40 : Int)) fun x43 => eqN x42 x43)))) fun x47 => if x47 = true then none else (Option.bind x36 fun x48 => (Option.bind (Option.bind (some x48) fun x49 => Option.bind (apL (Prod.fst s21) x49) fun x50 => some (x50, x49)) fun x51 => (Option.bind (Option.bind (some x35) fun x52 => Option.bind (apL (Prod.snd s21) x52) fun x53 => some (x53, x52)) fun x54 => some (((Prod.fst x51), (Prod.fst x54)) : ((List (List (Option Int))) × (List (Option Int))))))))))) fun s21 => (Option.bind (Option.bind (Option.bind (some (Prod.fst s21)) fun x55 => Option.bind (Option.bind (some (Prod.snd s21)) fun x56 => Option.bind (some ()) fun x58 => some (x56, x58)) fun x59 => some (x55, x59)) fun x57 => some ((((Prod.fst x57), (Prod.fst (Prod.snd x57))) : ((List (List (Option Int))) × (List (Option Int)))), x57)) fun x60 => some (Prod.fst x60))))))
theorem V_read_ballots (a0 : Int) (a1 : Str) : Fun F_read_ballots (n_read_ballots a0 a1) [.fz (enc a0), .fz (enc a1)] (fun r : (((List (List (Option Int))) × (List (Option Int)))) => .fz (enc (r : ((List (List (Option Int))) × (List (Option Int)))))) fun r => [.no, .no] :=
  fun_of (ΓR := fun r => [.aa, .aa, .aa, .aa, .aa, .aa, .aa, .aa, .aa, .aa, .aa]) (show Bl B_read_ballots _ _ _ from (bl_ga [.eq (.fz (enc (a0 : Int))), .eq (.fz (enc (a1 : Str))), .eq .no, .eq .no, .eq .no, .eq .no, .eq .no, .eq .no, .eq .no, .eq .no, .eq .no] (by kernel_rfl) (bl_expr ((pu_call (ap_cons ((pu_var 0 rfl)).tkP ap_nil) (fun x3 => V_need_count ((enc ((Prod.fst x3) : Int)) : PyData) ((12 : Int) : Int)))).ev fun x4 => (bl_ga [.eq (.fz (enc (a0 : Int))), .eq (.fz (enc (a1 : Str))), .eq .no, .eq .no, .eq .no, .eq .no, .eq .no, .eq .no, .eq .no, .eq .no, .eq .no] (by kernel_rfl) (bl_expr ((pu_call (ap_cons ((pu_var 1 rfl)).tkP ap_nil) (fun x7 => V_need_text ((enc ((Prod.fst x7) : Str)) : PyData)))).ev fun x8 => (bl_ga [.eq (.fz (enc (a0 : Int))), .eq (.fz (enc (a1 : Str))), .eq .no, .eq .no, .eq .no, .eq .no, .eq .no, .eq .no, .eq .no, .eq .no, .eq .no] (by kernel_rfl) (bl_par (ag_cons (pu_nilw).ev fun x9 => (ag_cons (pu_nil).ev fun x10 => ag_nil)) fun x13 => (bl_ga [.eq (.fz (enc (a0 : Int))), .eq (.fz (enc (a1 : Str))), .eq (oww ((Prod.fst x13) : (List (List (Option Int))))), .eq (ow ((Prod.fst (Prod.snd x13)) : (List (Option Int)))), .eq .no, .eq .no, .eq .no, .eq .no, .eq .no, .eq .no, .eq .no] (by kernel_rfl) (bl_for (vs := [4, 5]) (xs := fun x19 => (enumL x19)) (s0 := fun x19 => (((Prod.fst x13), (Prod.fst (Prod.snd x13))) : ((List (List (Option Int))) × (List (Option Int))))) (ΓL := fun x19 (s21 : ((List (List (Option Int))) × (List (Option Int)))) => [.eq (.fz (enc (a0 : Int))), .eq (.fz (enc (a1 : Str))), .eq (oww ((Prod.fst s21) : (List (List (Option Int))))), .eq (ow ((Prod.snd s21) : (List (Option Int)))), .pl, .pl, .pl, .pl, .pl, .pl, .eq .no]) ((ip_enum (xs := fun v => v) (((pu_if (ts_tst (pu2 Nv.op_neS ((pu_var 1 rfl)).rd (pu_c).rd)) (pu_m1 op_split ((pu_var 1 rfl)).rd (pu_c).rd) pu_nil)).tkTP ow_tree))).it (fun x19 => (.cons .rfl (.cons .rfl (.cons .rfl (.cons .rfl (.cons .no (.cons .no (.cons .no (.cons .no (.cons .no (.cons .no (.cons .rfl .nil)))))))))))) (fun x19 s21 x20 => (tg_t (tgs_cons tg_n (tgs_cons tg_n tgs_nil)))) (fun x19 s21 x20 => (bl_ga [.eq (.fz (enc (a0 : Int))), .eq (.fz (enc (a1 : Str))), .eq (oww ((Prod.fst s21) : (List (List (Option Int))))), .eq (ow ((Prod.snd s21) : (List (Option Int)))), .eq (.fz (enc ((Prod.fst x20) : Int))), .eq (.fz (enc ((Prod.snd x20) : Str))), .pl, .pl, .pl, .pl, .eq .no] (by kernel_rfl) (bl_asgG (vs := [6, 7, 8]) ((pu_m1 op_part ((pu_var 5 rfl)).rd (pu_c).rd)).ev (fun x24 => (tg_t (tgs_cons tg_n (tgs_cons tg_n (tgs_cons tg_n tgs_nil))))) fun x24 => (bl_ga [.eq (.fz (enc (a0 : Int))), .eq (.fz (enc (a1 : Str))), .eq (oww ((Prod.fst s21) : (List (List (Option Int))))), .eq (ow ((Prod.snd s21) : (List (Option Int)))), .eq (.fz (enc ((Prod.fst x20) : Int))), .eq (.fz (enc ((Prod.snd x20) : Str))), .eq (.fz (enc ((T3.a x24) : Str))), .eq (.fz (enc ((T3.b x24) : Str))), .eq (.fz (enc ((T3.c x24) : Str))), .pl, .eq .no] (by kernel_rfl) (bl_par2O (a := fun x35 => x35) (b := fun x35 x36 => x36) (((pu_call (ap_cons ((pu_var 6 rfl)).tkP ap_nil) (fun x27 => V_number_in ((Prod.fst x27) : Str)))).tkP).ev (fun x35 => ((pu_call (ap_cons ((pu_var 0 rfl)).tkP (ap_cons ((pu_var 8 rfl)).tkP (ap_cons pu_c ap_nil))) (fun x34 => V_places_in ((Prod.fst x34) : Int) ((Prod.fst (Prod.snd x34)) : Str) ((Prod.fst (Prod.snd (Prod.snd x34))) : Str)))).ev) fun x35 x36 => (bl_ga [.eq (.fz (enc (a0 : Int))), .eq (.fz (enc (a1 : Str))), .eq (oww ((Prod.fst s21) : (List (List (Option Int))))), .eq (ow ((Prod.snd s21) : (List (Option Int)))), .eq (.fz (enc ((Prod.fst x20) : Int))), .eq (.fz (enc ((Prod.snd x20) : Str))), .eq (.fz (enc ((T3.a x24) : Str))), .eq (.fz (enc ((T3.b x24) : Str))), .eq (.fz (enc ((T3.c x24) : Str))), .eq (.fz (enc (x35 : (Option Int)))), .eq (owO (x36 : (Option (List (Option Int)))))] (by kernel_rfl) (bl_if (k := fun x47 => x47) ((ts_or (ts_tst (pu_isN (n := false) (((pu_var 9 rfl)).rd).ra)) (ts_or (ts_tst (pu2 Nv.op_gt ((Pu.un (pu_var 9 rfl))).rd (pu_c).rd)) (ts_or (ts_tst (pu_isN (n := false) ((rd_owO 10 rfl)).ra)) (ts_tst (pu2A Nv.op_eq (((pu_var 4 rfl)).rd).ra ((pu_c).rd).ra)))))).te' (fun x47 => bl_bad) fun x47 => (bl_next (bl_reOw (k := 10) rfl fun x48 => (bl_ga [.eq (.fz (enc (a0 : Int))), .eq (.fz (enc (a1 : Str))), .eq (oww ((Prod.fst s21) : (List (List (Option Int))))), .eq (ow ((Prod.snd s21) : (List (Option Int)))), .eq (.fz (enc ((Prod.fst x20) : Int))), .eq (.fz (enc ((Prod.snd x20) : Str))), .eq (.fz (enc ((T3.a x24) : Str))), .eq (.fz (enc ((T3.b x24) : Str))), .eq (.fz (enc ((T3.c x24) : Str))), .eq (.fz (enc (x35 : (Option Int)))), .eq (ow (x48 : (List (Option Int))))] (by kernel_rfl) (bl_expr (ev_appW (k := 2) (va := fun x49 => x49) (xs := fun x49 => (Prod.fst s21)) rfl rfl (ev_mv 10 rfl) fun _ => rfl) fun x51 => (bl_ga [.eq (.fz (enc (a0 : Int))), .eq (.fz (enc (a1 : Str))), .eq (oww ((Prod.fst x51) : (List (List (Option Int))))), .eq (ow ((Prod.snd s21) : (List (Option Int)))), .eq (.fz (enc ((Prod.fst x20) : Int))), .eq (.fz (enc ((Prod.snd x20) : Str))), .eq (.fz (enc ((T3.a x24) : Str))), .eq (.fz (enc ((T3.b x24) : Str))), .eq (.fz (enc ((T3.c x24) : Str))), .eq (.fz (enc (x35 : (Option Int)))), .eq .no] (by kernel_rfl) (bl_last (bl_expr (ev_app (k := 3) (va := fun x52 => x52) (xs := fun x52 => (Prod.snd s21)) rfl rfl (((pu_var 9 rfl)).tkP).ev fun _ => rfl) fun x54 => (bl_ga [.eq (.fz (enc (a0 : Int))), .eq (.fz (enc (a1 : Str))), .eq (oww ((Prod.fst x51) : (List (List (Option Int))))), .eq (ow ((Prod.fst x54) : (List (Option Int)))), .eq (.fz (enc ((Prod.fst x20) : Int))), .eq (.fz (enc ((Prod.snd x20) : Str))), .eq (.fz (enc ((T3.a x24) : Str))), .eq (.fz (enc ((T3.b x24) : Str))), .eq (.fz (enc ((T3.c x24) : Str))), .eq (.fz (enc (x35 : (Option Int)))), .eq .no] (by kernel_rfl) (bl_end (rs_nx (.cons .rfl (.cons .rfl (.cons .rfl (.cons .rfl (.cons .fz (.cons .fz (.cons .fz (.cons .fz (.cons .fz (.cons .fz (.cons .rfl .nil)))))))))))))))))))))))))))) fun x19 s21 => (bl_retV (ev_tup (dl_cons (tk_oww 2 rfl) fun x55 => (dl_ga [.eq (.fz (enc (a0 : Int))), .eq (.fz (enc (a1 : Str))), .eq (.fz (enc (x55 : (List (List (Option Int)))))), .eq (ow ((Prod.snd s21) : (List (Option Int)))), .pl, .pl, .pl, .pl, .pl, .pl, .eq .no] (by kernel_rfl) (dl_cons (tk_own 3 rfl) fun x56 => (dl_ga [.eq (.fz (enc (a0 : Int))), .eq (.fz (enc (a1 : Str))), .eq (.fz (enc (x55 : (List (List (Option Int)))))), .eq (.fz (enc (x56 : (List (Option Int))))), .pl, .pl, .pl, .pl, .pl, .pl, .eq .no] (by kernel_rfl) dl_nil)))) (fun x57 => (((Prod.fst x57), (Prod.fst (Prod.snd x57))) : ((List (List (Option Int))) × (List (Option Int)))))) fun x60 => (sat_ga [.eq (.fz (enc (a0 : Int))), .eq (.fz (enc (a1 : Str))), .eq (.fz (enc ((Prod.fst (Prod.snd x60)) : (List (List (Option Int)))))), .eq (.fz (enc ((Prod.fst (Prod.snd (Prod.snd x60))) : (List (Option Int))))), .pl, .pl, .pl, .pl, .pl, .pl, .eq .no] (by kernel_rfl) (rf_eq rfl (.cons .aa (.cons .aa (.cons .aa (.cons .aa (.cons .aa (.cons .aa (.cons .aa (.cons .aa (.cons .aa (.cons .aa (.cons .aa .nil)))))))))))))))))))))))
end P
namespace P
open PySem PySem.Spec PyProof.Rows L2 Hb Nv
open Enc (enc)
def B__law_purse : List Sl → Ot :=
    oSeq (oAsg (sTk (sIf (sTst (s2 gLt (sVar 1) (s1 (gRd lenD) (sVar 0)))) (s2 gIx2 (sVar 0) (sVar 1)) (sC (.int 0)))) (tgN 2))
    (oRet (sLst (lCons (s2 gMax2 (sC (.int 0)) (s2 gSub (sVar 2) (s2 gPowW (sC (.int 10)) (sC (.int 18))))) (lCons (s2 gAdd (s2 gAdd (s2 gMod (s1 (gRd intD) (s1 (gRd absD) (sVar 2))) (s2 gAdd (s2 gPowW (sC (.int 10)) (sC (.int 41))) (sC (.int 37)))) (s2 gMulX (sC (.int 90001)) (sVar 1))) (sC (.int 17))) (lCons (sC (.int 0)) (lNil))))))
def F__law_purse : List Sl → FR := fnRun 2 3 [] B__law_purse
def n__law_purse (a0 : (List Int)) (a1 : Int) : Option ((List Int)) :=
    (Option.bind (Option.bind (Option.bind (some a1) fun x2 => Option.bind (Option.bind (some a0) fun x1 => lenL x1) fun x3 => ltI x2 x3) fun x6 => if x6 = true then (Option.bind (some a0) fun x4 => Option.bind (some a1) fun x5 => atL x4 x5) else (some (0 : Int))) fun x7 => (Option.bind (Option.bind (Option.bind (Option.bind (some (0 : Int)) fun x12 => Option.bind (Option.bind (some x7) fun x10 => Option.bind (Option.bind (some (10 : Int)) fun x8 => Option.bind (some (18 : Int)) fun x9 => powW x8 x9) fun x11 => subI x10 x11) fun x13 => maxI2 x12 x13) fun x14 => Option.bind (Option.bind (Option.bind (Option.bind (Option.bind (Option.bind (Option.bind (some x7) fun x15 => absI x15) fun x16 => intI x16) fun x21 => Option.bind (Option.bind (Option.bind (some (10 : Int)) fun x17 => Option.bind (some (41 : Int)) fun x18 => powW x17 x18) fun x19 => Option.bind (some (37 : Int)) fun x20 => addI x19 x20) fun x22 => modI x21 x22) fun x25 => Option.bind (Option.bind (some (90001 : Int)) fun x23 => Option.bind (some a1) fun x24 => mulI x23 x24) fun x26 => addI x25 x26) fun x27 => Option.bind (some (17 : Int)) fun x28 => addI x27 x28) fun x29 => Option.bind (Option.bind (some (0 : Int)) fun x30 => Option.bind (some ()) fun x32 => some (x30, x32)) fun x33 => some (x29, x33)) fun x34 => some (x14, x34)) fun x31 => some ([(Prod.fst x31), (Prod.fst (Prod.snd x31)), (Prod.fst (Prod.snd (Prod.snd x31)))] : (List Int))) fun x35 => some x35))
theorem V__law_purse (a0 : (List Int)) (a1 : Int) : Fun F__law_purse (n__law_purse a0 a1) [.fz (enc a0), .fz (enc a1)] (fun r : ((List Int)) => ow (r : (List Int))) fun r => [.no, .no] :=
  fun_of (ΓR := fun r => [.aa, .aa, .aa]) (show Bl B__law_purse _ _ _ from (bl_ga [.eq (.fz (enc (a0 : (List Int)))), .eq (.fz (enc (a1 : Int))), .eq .no] (by kernel_rfl) (bl_asgV (((pu_if (ts_tst (pu2 Nv.op_lt ((pu_var 1 rfl)).rd ((pu1A Nv.op_len (((pu_var 0 rfl)).rd).ra)).rd)) (pu2 Nv.op_ix2 ((pu_var 0 rfl)).rd ((pu_var 1 rfl)).rd) pu_c)).tkP).ev fun x7 => (bl_ga [.eq (.fz (enc (a0 : (List Int)))), .eq (.fz (enc (a1 : Int))), .eq (.fz (enc (x7 : Int)))] (by kernel_rfl) (bl_retT ((pu_lst (dp_cons ((pu2 Nv.op_max2 (pu_c).rd ((pu2 Nv.op_sub ((pu_var 2 rfl)).rd ((pu2 Nv.op_powW (pu_c).rd (pu_c).rd)).rd)).rd)).tkP (dp_cons ((pu2 Nv.op_add ((pu2 Nv.op_add ((pu2 Nv.op_mod ((pu1A Nv.op_int (((pu1A Nv.op_abs (((pu_var 2 rfl)).rd).ra)).rd).ra)).rd ((pu2 Nv.op_add ((pu2 Nv.op_powW (pu_c).rd (pu_c).rd)).rd (pu_c).rd)).rd)).rd ((pu2 Nv.op_mul (pu_c).rd ((pu_var 1 rfl)).rd)).rd)).rd (pu_c).rd)).tkP (dp_cons (pu_c).tkP dp_nil))) (fun x31 => ([(Prod.fst x31), (Prod.fst (Prod.snd x31)), (Prod.fst (Prod.snd (Prod.snd x31)))] : (List Int))))).ev fun x35 => (rf_eq rfl (.cons .aa (.cons .aa (.cons .aa .nil)))))))))
end P
namespace P
open PySem PySem.Spec PyProof.Rows L2 Hb Nv
open Enc (enc)
def B_are_each_once : List Sl → Ot :=
    oRet (sAndV (s1 (gIsi "list") (sVar 1)) (sAndV (s2 gLe (s1 (gRd lenD) (sVar 1)) (sC (.int 40))) (s1 (gRd (overB fun ns => some (.bool (ns.all id)))) (sLc false (wSeq (sVar 1)) [2] (tgN 2) (tOk) (sTk (sCall F_is_each_once [] (rCons (sTk (sVar 0)) (rCons (sTk (sVar 2)) (rNil)))))))))
def F_are_each_once : List Sl → FR := fnRun 2 3 [] B_are_each_once
def n_are_each_once (a0 : Int) (a1 : PyData) : Option (Bool) :=
    (Option.bind (Option.bind (Option.bind (some a1) fun x1 => isiN "list" x1) fun x15 => if x15 = true then (Option.bind (Option.bind (Option.bind (some a1) fun x2 => lenA x2) fun x3 => Option.bind (some (40 : Int)) fun x4 => leI x3 x4) fun x14 => if x14 = true then (Option.bind (Option.bind (Option.bind (some a1) fun x5 => seqA x5) fun x6 => if List.length (x6) ≤ cap then mapF x6 (fun x7 => (some true)) (fun x7 => (Option.bind (Option.bind (some a0) fun x8 => Option.bind (Option.bind (some x7) fun x9 => Option.bind (some ()) fun x10 => some (x9, x10)) fun x11 => some (x8, x11)) fun x12 => n_is_each_once ((Prod.fst x12) : Int) ((Prod.fst (Prod.snd x12)) : PyData))) else none) fun x13 => allB x13) else some false) else some false) fun x16 => some x16)
theorem V_are_each_once (a0 : Int) (a1 : PyData) : Fun F_are_each_once (n_are_each_once a0 a1) [.fz (enc a0), .fz (enc a1)] (fun r : (Bool) => .fz (enc (r : Bool))) fun r => [.no, .no] :=
  fun_of (ΓR := fun r => [.aa, .aa, .aa]) (show Bl B_are_each_once _ _ _ from (bl_ga [.eq (.fz (enc (a0 : Int))), .eq (.fz (enc (a1 : PyData))), .eq .no] (by kernel_rfl) (bl_retV ((pu_andV (pu1A (Nv.op_isi (T := "list")) (((pu_var 1 rfl)).rd).ra) (pu_andV (pu2 Nv.op_le ((pu1A Nv.op_lenA (((pu_var 1 rfl)).rd).ra)).rd (pu_c).rd) (pu1A Nv.op_all ((((pu_lc (vs := [2]) (ip_seqA ((pu_var 1 rfl)).tkP) rfl rfl (fun x6 x7 => tg_n) (fun x6 x7 => (ts_ga [.eq (.fz (enc (a0 : Int))), .eq (.fz (enc (a1 : PyData))), .eq (.fz (enc (x7 : PyData)))] (by kernel_rfl) ts_ok)) fun x6 x7 => (pu_ga [.eq (.fz (enc (a0 : Int))), .eq (.fz (enc (a1 : PyData))), .eq (.fz (enc (x7 : PyData)))] (by kernel_rfl) ((pu_call (ap_cons ((pu_var 0 rfl)).tkP (ap_cons ((pu_var 2 rfl)).tkP ap_nil)) (fun x12 => V_is_each_once ((Prod.fst x12) : Int) ((Prod.fst (Prod.snd x12)) : PyData)))).tkP))).rdT ow_tree)).ra)))).ev fun x16 => (rf_eq rfl (.cons .aa (.cons .aa (.cons .aa .nil)))))))
end P
namespace P
open PySem PySem.Spec PyProof.Rows L2 Hb Nv
open Enc (enc)
def B_need_ballots : List Sl → Ot :=
    oIf (sNot (sTru (sCall F_are_each_once [] (rCons (sTk (sVar 0)) (rCons (sTk (sVar 1)) (rNil)))))) (oRaise "InvalidBallots") (oNext)
def F_need_ballots : List Sl → FR := fnRun 2 2 [] B_need_ballots
def n_need_ballots (a0 : Int) (a1 : PyData) : Option (Unit) :=
    (Option.bind (Option.bind (Option.bind (Option.bind (some a0) fun x1 => Option.bind (Option.bind (some a1) fun x2 => Option.bind (some ()) fun x3 => some (x2, x3)) fun x4 => some (x1, x4)) fun x5 => n_are_each_once ((Prod.fst x5) : Int) ((Prod.fst (Prod.snd x5)) : PyData)) fun x7 => some !x7) fun x8 => if x8 = true then none else some ())
theorem V_need_ballots (a0 : Int) (a1 : PyData) : Fun F_need_ballots (n_need_ballots a0 a1) [.fz (enc a0), .fz (enc a1)] (fun r : (Unit) => .fz (enc (r : Unit))) fun r => [.no, .no] :=
  fun_of (ΓR := fun r => [.aa, .aa]) (show Bl B_need_ballots _ _ _ from (bl_ga [.eq (.fz (enc (a0 : Int))), .eq (.fz (enc (a1 : PyData)))] (by kernel_rfl) (bl_last (bl_if (k := fun x8 => x8) ((ts_not (ts_truB (((pu_call (ap_cons ((pu_var 0 rfl)).tkP (ap_cons ((pu_var 1 rfl)).tkP ap_nil)) (fun x5 => V_are_each_once ((Prod.fst x5) : Int) ((Prod.fst (Prod.snd x5)) : PyData)))).rd).ra))).te' (fun x8 => bl_bad) fun x8 => (bl_next (bl_end (rf_nx rfl (.cons .aa (.cons .aa .nil)))))))))
end P
namespace P
open PySem PySem.Spec PyProof.Rows L2 Hb Nv
open Enc (enc)
def B_need_voters : List Sl → Ot :=
    oSeq (oIf (sOr (sNot (sTru (s1 (gIsi "list") (sVar 1)))) (sTst (s2 gNe (s1 (gRd lenD) (sVar 1)) (s1 (gRd lenD) (sVar 0))))) (oRaise "InvalidVoters") (oNext))
    (oIf (sNot (sTru (s1 (gRd (overB fun ns => some (.bool (ns.all id)))) (sLc false (wSeq (sVar 1)) [2] (tgN 2) (tOk) (sTk (sCall F_is_integer [] (rCons (sTk (sVar 2)) (rCons (sC (.int 0)) (rCons (sTk (sC (.int 1000000000000000000000000000000))) (rNil)))))))))) (oRaise "InvalidVoters") (oNext))
def F_need_voters : List Sl → FR := fnRun 2 3 [] B_need_voters
def n_need_voters (a0 : (List (List Int))) (a1 : PyData) : Option (Unit) :=
    (Option.bind (Option.bind (Option.bind (Option.bind (some a1) fun x1 => isiN "list" x1) fun x3 => some !x3) fun x8 => if x8 = true then some true else (Option.bind (Option.bind (some a1) fun x4 => lenA x4) fun x6 => Option.bind (Option.bind (some a0) fun x5 => lenL x5) fun x7 => neN x6 x7)) fun x9 => if x9 = true then none else (Option.bind (Option.bind (Option.bind (Option.bind (Option.bind (some a1) fun x10 => seqA x10) fun x11 => if List.length (x11) ≤ cap then mapF x11 (fun x12 => (some true)) (fun x12 => (Option.bind (Option.bind (some x12) fun x13 => Option.bind (Option.bind (some (0 : Int)) fun x14 => Option.bind (Option.bind (some (1000000000000000000000000000000 : Int)) fun x15 => Option.bind (some ()) fun x16 => some (x15, x16)) fun x17 => some (x14, x17)) fun x18 => some (x13, x18)) fun x19 => n_is_integer ((Prod.fst x19) : PyData) ((Prod.fst (Prod.snd x19)) : Int) ((some (Prod.fst (Prod.snd (Prod.snd x19)))) : (Option Int)))) else none) fun x20 => allB x20) fun x22 => some !x22) fun x23 => if x23 = true then none else some ()))
theorem V_need_voters (a0 : (List (List Int))) (a1 : PyData) : Fun F_need_voters (n_need_voters a0 a1) [.fz (enc a0), .fz (enc a1)] (fun r : (Unit) => .fz (enc (r : Unit))) fun r => [.no, .no] :=
  fun_of (ΓR := fun r => [.aa, .aa, .aa]) (show Bl B_need_voters _ _ _ from (bl_ga [.eq (.fz (enc (a0 : (List (List Int))))), .eq (.fz (enc (a1 : PyData))), .eq .no] (by kernel_rfl) (bl_if (k := fun x9 => x9) ((ts_or (ts_not (ts_truB (((pu1A (Nv.op_isi (T := "list")) (((pu_var 1 rfl)).rd).ra)).rd).ra)) (ts_tst (pu2A Nv.op_ne (((pu1A Nv.op_lenA (((pu_var 1 rfl)).rd).ra)).rd).ra (((pu1A Nv.op_len (((pu_var 0 rfl)).rd).ra)).rd).ra)))).te' (fun x9 => bl_bad) fun x9 => (bl_next (bl_last (bl_if (k := fun x23 => x23) ((ts_not (ts_truB (((pu1A Nv.op_all ((((pu_lc (vs := [2]) (ip_seqA ((pu_var 1 rfl)).tkP) rfl rfl (fun x11 x12 => tg_n) (fun x11 x12 => (ts_ga [.eq (.fz (enc (a0 : (List (List Int))))), .eq (.fz (enc (a1 : PyData))), .eq (.fz (enc (x12 : PyData)))] (by kernel_rfl) ts_ok)) fun x11 x12 => (pu_ga [.eq (.fz (enc (a0 : (List (List Int))))), .eq (.fz (enc (a1 : PyData))), .eq (.fz (enc (x12 : PyData)))] (by kernel_rfl) ((pu_call (ap_cons ((pu_var 2 rfl)).tkP (ap_cons pu_c (ap_cons (pu_c).tkP ap_nil))) (fun x19 => V_is_integer ((Prod.fst x19) : PyData) ((Prod.fst (Prod.snd x19)) : Int) ((some (Prod.fst (Prod.snd (Prod.snd x19)))) : (Option Int))))).tkP))).rdT ow_tree)).ra)).rd).ra))).te' (fun x23 => bl_bad) fun x23 => (bl_next (bl_end (rf_nx rfl (.cons .aa (.cons .aa (.cons .aa .nil))))))))))))
def x_need_voters (a0 : (List (List Int))) (a1 : PyData) : Option Str :=
    (Option.bind (Option.bind (Option.bind (Option.bind (some a1) fun x24 => isiN "list" x24) fun x26 => some !x26) fun x31 => if x31 = true then some true else (Option.bind (Option.bind (some a1) fun x27 => lenA x27) fun x29 => Option.bind (Option.bind (some a0) fun x28 => lenL x28) fun x30 => neN x29 x30)) fun x32 => if x32 = true then (some ("InvalidVoters" : Str)) else (Option.bind (Option.bind (Option.bind (Option.bind (Option.bind (some a1) fun x33 => seqA x33) fun x34 => if List.length (x34) ≤ cap then mapF x34 (fun x35 => (some true)) (fun x35 => (Option.bind (Option.bind (some x35) fun x36 => Option.bind (Option.bind (some (0 : Int)) fun x37 => Option.bind (Option.bind (some (1000000000000000000000000000000 : Int)) fun x38 => Option.bind (some ()) fun x39 => some (x38, x39)) fun x40 => some (x37, x40)) fun x41 => some (x36, x41)) fun x42 => n_is_integer ((Prod.fst x42) : PyData) ((Prod.fst (Prod.snd x42)) : Int) ((some (Prod.fst (Prod.snd (Prod.snd x42)))) : (Option Int)))) else none) fun x43 => allB x43) fun x45 => some !x45) fun x46 => if x46 = true then (some ("InvalidVoters" : Str)) else none))
end P
namespace P
open PySem PySem.Spec PyProof.Rows L2 Hb Nv
open Enc (enc)
def B_joined_with : List Sl → Ot :=
    oRet (sJoin (sVar 0) (sLc false (wSeq (sVar 1)) [2] (tgN 2) (tOk) (sTk (s1 (gRd strD) (sVar 2)))))
def F_joined_with : List Sl → FR := fnRun 2 3 [] B_joined_with
def n_joined_with (a0 : Str) (a1 : (List Int)) : Option (Str) :=
    (Option.bind (Option.bind (some a0) fun x4 => Option.bind (Option.bind (some a1) fun x1 => if List.length (x1) ≤ cap then mapF x1 (fun x2 => (some true)) (fun x2 => (Option.bind (some x2) fun x3 => strI x3)) else none) fun x5 => joinN x4 x5) fun x6 => some x6)
theorem V_joined_with (a0 : Str) (a1 : (List Int)) : Fun F_joined_with (n_joined_with a0 a1) [.fz (enc a0), .fz (enc a1)] (fun r : (Str) => .fz (enc (r : Str))) fun r => [.no, .no] :=
  fun_of (ΓR := fun r => [.aa, .aa, .aa]) (show Bl B_joined_with _ _ _ from (bl_ga [.eq (.fz (enc (a0 : Str))), .eq (.fz (enc (a1 : (List Int)))), .eq .no] (by kernel_rfl) (bl_retV ((pu_joinV ((pu_var 0 rfl)).rd (((pu_lc (vs := [2]) (ip_seq (xs := fun v => v) ((pu_var 1 rfl)).tkP) rfl rfl (fun x1 x2 => tg_n) (fun x1 x2 => (ts_ga [.eq (.fz (enc (a0 : Str))), .eq (.fz (enc (a1 : (List Int)))), .eq (.fz (enc (x2 : Int)))] (by kernel_rfl) ts_ok)) fun x1 x2 => (pu_ga [.eq (.fz (enc (a0 : Str))), .eq (.fz (enc (a1 : (List Int)))), .eq (.fz (enc (x2 : Int)))] (by kernel_rfl) ((pu1A Nv.op_strI (((pu_var 2 rfl)).rd).ra)).tkP))).rdT ow_tree))).ev fun x6 => (rf_eq rfl (.cons .aa (.cons .aa (.cons .aa .nil)))))))
end P
namespace P
open PySem PySem.Spec PyProof.Rows L2 Hb Nv
open Enc (enc)
def B_show_ballots : List Sl → Ot :=
    oSeq (oDrop (sCall F_need_count [.int 12] (rCons (sTk (sVar 0)) (rNil))))
    (oSeq (oDrop (sCall F_need_ballots [] (rCons (sTk (sVar 0)) (rCons (sTk (sVar 1)) (rNil)))))
    (oSeq (oDrop (sCall F_need_voters [] (rCons (sTk (sVar 1)) (rCons (sTk (sVar 2)) (rNil)))))
    (oRet (s1 (gJoinC "\n") (sLc false (wZip (sVar 1) (sVar 2)) [3, 4] (tgT 2 (tgCons (tgN 3) (tgCons (tgN 4) (tgNil)))) (tOk) (sTk (s2 gAdd (s2 gAdd (s1 (gRd strD) (sVar 4)) (sC (.str ": "))) (sCall F_joined_with [] (rCons (sC (.str ">")) (rCons (sTk (sVar 3)) (rNil)))))))))))
def F_show_ballots : List Sl → FR := fnRun 3 5 [] B_show_ballots
def n_show_ballots (a0 : Int) (a1 : (List (List Int))) (a2 : (List Int)) : Option (Str) :=
    (Option.bind (Option.bind (Option.bind (some a0) fun x1 => Option.bind (some ()) fun x2 => some (x1, x2)) fun x3 => n_need_count ((enc ((Prod.fst x3) : Int)) : PyData) ((12 : Int) : Int)) fun x4 => (Option.bind (Option.bind (Option.bind (some a0) fun x5 => Option.bind (Option.bind (some a1) fun x6 => Option.bind (some ()) fun x7 => some (x6, x7)) fun x8 => some (x5, x8)) fun x9 => n_need_ballots ((Prod.fst x9) : Int) ((enc ((Prod.fst (Prod.snd x9)) : (List (List Int)))) : PyData)) fun x10 => (Option.bind (Option.bind (Option.bind (some a1) fun x11 => Option.bind (Option.bind (some a2) fun x12 => Option.bind (some ()) fun x13 => some (x12, x13)) fun x14 => some (x11, x14)) fun x15 => n_need_voters ((Prod.fst x15) : (List (List Int))) ((enc ((Prod.fst (Prod.snd x15)) : (List Int))) : PyData)) fun x16 => (Option.bind (Option.bind (Option.bind (Option.bind (some a1) fun x17 => Option.bind (some a2) fun x18 => some (List.zip x17 x18)) fun x19 => if List.length (x19) ≤ cap then mapF x19 (fun x20 => (some true)) (fun x20 => (Option.bind (Option.bind (Option.bind (some (Prod.snd x20)) fun x21 => strI x21) fun x22 => Option.bind (some (": " : Str)) fun x23 => catS x22 x23) fun x29 => Option.bind (Option.bind (Option.bind (some (">" : Str)) fun x24 => Option.bind (Option.bind (some (Prod.fst x20)) fun x25 => Option.bind (some ()) fun x26 => some (x25, x26)) fun x27 => some (x24, x27)) fun x28 => n_joined_with ((Prod.fst x28) : Str) ((Prod.fst (Prod.snd x28)) : (List Int))) fun x30 => catS x29 x30)) else none) fun x31 => joinN ("
" : Str) x31) fun x32 => some x32))))
theorem V_show_ballots (a0 : Int) (a1 : (List (List Int))) (a2 : (List Int)) : Fun F_show_ballots (n_show_ballots a0 a1 a2) [.fz (enc a0), .fz (enc a1), .fz (enc a2)] (fun r : (Str) => .fz (enc (r : Str))) fun r => [.no, .no, .no] :=
  fun_of (ΓR := fun r => [.aa, .aa, .aa, .aa, .aa]) (show Bl B_show_ballots _ _ _ from (bl_ga [.eq (.fz (enc (a0 : Int))), .eq (.fz (enc (a1 : (List (List Int))))), .eq (.fz (enc (a2 : (List Int)))), .eq .no, .eq .no] (by kernel_rfl) (bl_expr ((pu_call (ap_cons ((pu_var 0 rfl)).tkP ap_nil) (fun x3 => V_need_count ((enc ((Prod.fst x3) : Int)) : PyData) ((12 : Int) : Int)))).ev fun x4 => (bl_ga [.eq (.fz (enc (a0 : Int))), .eq (.fz (enc (a1 : (List (List Int))))), .eq (.fz (enc (a2 : (List Int)))), .eq .no, .eq .no] (by kernel_rfl) (bl_expr ((pu_call (ap_cons ((pu_var 0 rfl)).tkP (ap_cons ((pu_var 1 rfl)).tkP ap_nil)) (fun x9 => V_need_ballots ((Prod.fst x9) : Int) ((enc ((Prod.fst (Prod.snd x9)) : (List (List Int)))) : PyData)))).ev fun x10 => (bl_ga [.eq (.fz (enc (a0 : Int))), .eq (.fz (enc (a1 : (List (List Int))))), .eq (.fz (enc (a2 : (List Int)))), .eq .no, .eq .no] (by kernel_rfl) (bl_expr ((pu_call (ap_cons ((pu_var 1 rfl)).tkP (ap_cons ((pu_var 2 rfl)).tkP ap_nil)) (fun x15 => V_need_voters ((Prod.fst x15) : (List (List Int))) ((enc ((Prod.fst (Prod.snd x15)) : (List Int))) : PyData)))).ev fun x16 => (bl_ga [.eq (.fz (enc (a0 : Int))), .eq (.fz (enc (a1 : (List (List Int))))), .eq (.fz (enc (a2 : (List Int)))), .eq .no, .eq .no] (by kernel_rfl) (bl_retV ((pu1 (Nv.op_join (a := ("
" : Str))) (((pu_lc (vs := [3, 4]) (ip_zip (xs := fun v => v) (ys := fun v => v) ((pu_var 1 rfl)).tkP ((pu_var 2 rfl)).tkP) rfl rfl (fun x19 x20 => (tg_t (tgs_cons tg_n (tgs_cons tg_n tgs_nil)))) (fun x19 x20 => (ts_ga [.eq (.fz (enc (a0 : Int))), .eq (.fz (enc (a1 : (List (List Int))))), .eq (.fz (enc (a2 : (List Int)))), .eq (.fz (enc ((Prod.fst x20) : (List Int)))), .eq (.fz (enc ((Prod.snd x20) : Int)))] (by kernel_rfl) ts_ok)) fun x19 x20 => (pu_ga [.eq (.fz (enc (a0 : Int))), .eq (.fz (enc (a1 : (List (List Int))))), .eq (.fz (enc (a2 : (List Int)))), .eq (.fz (enc ((Prod.fst x20) : (List Int)))), .eq (.fz (enc ((Prod.snd x20) : Int)))] (by kernel_rfl) ((pu2 Nv.op_catS ((pu2 Nv.op_catS ((pu1A Nv.op_strI (((pu_var 4 rfl)).rd).ra)).rd (pu_c).rd)).rd ((pu_call (ap_cons pu_c (ap_cons ((pu_var 3 rfl)).tkP ap_nil)) (fun x28 => V_joined_with ((Prod.fst x28) : Str) ((Prod.fst (Prod.snd x28)) : (List Int))))).rd)).tkP))).rdT ow_tree))).ev fun x32 => (rf_eq rfl (.cons .aa (.cons .aa (.cons .aa (.cons .aa (.cons .aa .nil)))))))))))))))
end P
namespace P
open PySem PySem.Spec PyProof.Rows L2 Hb Nv
open Enc (enc)
def B__law_coin : List Sl → Ot :=
    oSeq (oIf (sTst (s2 gGt (s2 gIx2 (sVar 0) (sC (.int 0))) (sC (.int 0)))) (oSeq (oAsg (s2 gMod (s1 (gRd intD) (s2 gIx2 (sVar 0) (sC (.int 0)))) (sVar 1)) (tgN 3))
    (oSeq (oAsg (s2 gFdivW (s2 gIx2 (sVar 0) (sC (.int 0))) (sVar 1)) (tgS (sVar 0) (sC (.int 0))))
    (oRet (sVar 3)))) (oNext))
    (oSeq (oAsg (s2 gAdd (s2 gIx2 (sVar 0) (sC (.int 2))) (sC (.int 1))) (tgS (sVar 0) (sC (.int 2))))
    (oSeq (oAsg (sTk (s2 gMod (s1 (gRd intD) (s2 gPowW (s2 gAdd (s2 gIx2 (sVar 0) (sC (.int 1))) (s2 gMulX (sC (.int 15485863)) (s2 gIx2 (sVar 0) (sC (.int 2))))) (sC (.int 3)))) (s2 gAdd (s2 gPowW (sC (.int 10)) (sC (.int 43))) (sC (.int 29))))) (tgN 2))
    (oSeq (oAsg (sTk (s2 gMod (s1 (gRd intD) (s2 gPowW (s2 gAdd (sVar 2) (s2 gMulX (sC (.int 49979687)) (s2 gIx2 (sVar 0) (sC (.int 2))))) (sC (.int 3)))) (s2 gAdd (s2 gPowW (sC (.int 10)) (sC (.int 45))) (sC (.int 9))))) (tgN 2))
    (oRet (s2 gMod (s1 (gRd intD) (s2 gFdivW (sVar 2) (sC (.int 524287)))) (sVar 1))))))
def F__law_coin : List Sl → FR := fnRun 2 4 [0] B__law_coin
def n__law_coin (a0 : (List Int)) (a1 : Int) : Option (Int × (List Int)) :=
    (Option.bind (Option.bind (Option.bind (some a0) fun x1 => Option.bind (some (0 : Int)) fun x2 => atL x1 x2) fun x3 => Option.bind (some (0 : Int)) fun x4 => gtI x3 x4) fun x5 => if x5 = true then (Option.bind (Option.bind (Option.bind (Option.bind (some a0) fun x6 => Option.bind (some (0 : Int)) fun x7 => atL x6 x7) fun x8 => intI x8) fun x9 => Option.bind (some a1) fun x10 => modI x9 x10) fun x11 => (Option.bind (Option.bind (Option.bind (some a0) fun x12 => Option.bind (some (0 : Int)) fun x13 => atL x12 x13) fun x14 => Option.bind (some a1) fun x15 => fdivW x14 x15) fun x16 => Option.bind (some (0 : Int)) fun x17 => Option.bind (stI a0 x17 x16) fun x18 => (Option.bind (some x11) fun x19 => some (x19, x18)))) else (Option.bind (Option.bind (Option.bind (some a0) fun x20 => Option.bind (some (2 : Int)) fun x21 => atL x20 x21) fun x22 => Option.bind (some (1 : Int)) fun x23 => addI x22 x23) fun x24 => Option.bind (some (2 : Int)) fun x25 => Option.bind (stI a0 x25 x24) fun x26 => (Option.bind (Option.bind (Option.bind (Option.bind (Option.bind (Option.bind (some x26) fun x27 => Option.bind (some (1 : Int)) fun x28 => atL x27 x28) fun x33 => Option.bind (Option.bind (some (15485863 : Int)) fun x31 => Option.bind (Option.bind (some x26) fun x29 => Option.bind (some (2 : Int)) fun x30 => atL x29 x30) fun x32 => mulI x31 x32) fun x34 => addI x33 x34) fun x35 => Option.bind (some (3 : Int)) fun x36 => powW x35 x36) fun x37 => intI x37) fun x42 => Option.bind (Option.bind (Option.bind (some (10 : Int)) fun x38 => Option.bind (some (43 : Int)) fun x39 => powW x38 x39) fun x40 => Option.bind (some (29 : Int)) fun x41 => addI x40 x41) fun x43 => modI x42 x43) fun x44 => (Option.bind (Option.bind (Option.bind (Option.bind (Option.bind (some x44) fun x49 => Option.bind (Option.bind (some (49979687 : Int)) fun x47 => Option.bind (Option.bind (some x26) fun x45 => Option.bind (some (2 : Int)) fun x46 => atL x45 x46) fun x48 => mulI x47 x48) fun x50 => addI x49 x50) fun x51 => Option.bind (some (3 : Int)) fun x52 => powW x51 x52) fun x53 => intI x53) fun x58 => Option.bind (Option.bind (Option.bind (some (10 : Int)) fun x54 => Option.bind (some (45 : Int)) fun x55 => powW x54 x55) fun x56 => Option.bind (some (9 : Int)) fun x57 => addI x56 x57) fun x59 => modI x58 x59) fun x60 => (Option.bind (Option.bind (Option.bind (Option.bind (some x60) fun x61 => Option.bind (some (524287 : Int)) fun x62 => fdivW x61 x62) fun x63 => intI x63) fun x64 => Option.bind (some a1) fun x65 => modI x64 x65) fun x66 => some (x66, x26))))))
theorem V__law_coin (a0 : (List Int)) (a1 : Int) : Fun F__law_coin (n__law_coin a0 a1) [ow a0, .fz (enc a1)] (fun r : (Int × (List Int)) => .fz (enc ((Prod.fst r) : Int))) fun r => [ow (Prod.snd r), .no] :=
  fun_of (ΓR := fun r => [.eq (ow ((Prod.snd r) : (List Int))), .aa, .aa, .aa]) (show Bl B__law_coin _ _ _ from (bl_ga [.eq (ow (a0 : (List Int))), .eq (.fz (enc (a1 : Int))), .eq .no, .eq .no] (by kernel_rfl) (bl_if (k := fun x5 => x5) ((ts_tst (pu2 Nv.op_gt ((pu2 Nv.op_ix2 (rd_own 0 rfl) (pu_c).rd)).rd (pu_c).rd))).te' (fun x5 => (bl_assoc (bl_asgV ((pu2 Nv.op_mod ((pu1A Nv.op_int (((pu2 Nv.op_ix2 (rd_own 0 rfl) (pu_c).rd)).rd).ra)).rd ((pu_var 1 rfl)).rd)).ev fun x11 => (bl_ga [.eq (ow (a0 : (List Int))), .eq (.fz (enc (a1 : Int))), .eq .no, .eq (.fz (enc (x11 : Int)))] (by kernel_rfl) (bl_assoc (bl_set (k := 0) (va := fun x16 => x16) (xs := fun x16 => a0) ((pu2 Nv.op_fdivW ((pu2 Nv.op_ix2 (rd_own 0 rfl) (pu_c).rd)).rd ((pu_var 1 rfl)).rd)).ev (fun _ => rfl) (fun x16 => (pu_c).rd) fun x16 x18 => (bl_ga [.eq (ow (x18 : (List Int))), .eq (.fz (enc (a1 : Int))), .eq .no, .eq (.fz (enc (x11 : Int)))] (by kernel_rfl) (bl_retS (bl_retV ((pu_var 3 rfl)).ev fun x19 => (rf_eq rfl (.cons .rfl (.cons .aa (.cons .aa (.cons .aa .nil)))))))))))))) fun x5 => (bl_next (bl_set (k := 0) (va := fun x24 => x24) (xs := fun x24 => a0) ((pu2 Nv.op_add ((pu2 Nv.op_ix2 (rd_own 0 rfl) (pu_c).rd)).rd (pu_c).rd)).ev (fun _ => rfl) (fun x24 => (pu_c).rd) fun x24 x26 => (bl_ga [.eq (ow (x26 : (List Int))), .eq (.fz (enc (a1 : Int))), .eq .no, .eq .no] (by kernel_rfl) (bl_asgV (((pu2 Nv.op_mod ((pu1A Nv.op_int (((pu2 Nv.op_powW ((pu2 Nv.op_add ((pu2 Nv.op_ix2 (rd_own 0 rfl) (pu_c).rd)).rd ((pu2 Nv.op_mul (pu_c).rd ((pu2 Nv.op_ix2 (rd_own 0 rfl) (pu_c).rd)).rd)).rd)).rd (pu_c).rd)).rd).ra)).rd ((pu2 Nv.op_add ((pu2 Nv.op_powW (pu_c).rd (pu_c).rd)).rd (pu_c).rd)).rd)).tkP).ev fun x44 => (bl_ga [.eq (ow (x26 : (List Int))), .eq (.fz (enc (a1 : Int))), .eq (.fz (enc (x44 : Int))), .eq .no] (by kernel_rfl) (bl_asgV (((pu2 Nv.op_mod ((pu1A Nv.op_int (((pu2 Nv.op_powW ((pu2 Nv.op_add ((pu_var 2 rfl)).rd ((pu2 Nv.op_mul (pu_c).rd ((pu2 Nv.op_ix2 (rd_own 0 rfl) (pu_c).rd)).rd)).rd)).rd (pu_c).rd)).rd).ra)).rd ((pu2 Nv.op_add ((pu2 Nv.op_powW (pu_c).rd (pu_c).rd)).rd (pu_c).rd)).rd)).tkP).ev fun x60 => (bl_ga [.eq (ow (x26 : (List Int))), .eq (.fz (enc (a1 : Int))), .eq (.fz (enc (x60 : Int))), .eq .no] (by kernel_rfl) (bl_retV ((pu2 Nv.op_mod ((pu1A Nv.op_int (((pu2 Nv.op_fdivW ((pu_var 2 rfl)).rd (pu_c).rd)).rd).ra)).rd ((pu_var 1 rfl)).rd)).ev fun x66 => (rf_eq rfl (.cons .rfl (.cons .aa (.cons .aa (.cons .aa .nil))))))))))))))))
end P
namespace P
open PySem PySem.Spec PyProof.Rows L2 Hb Nv
open Enc (enc)
def B__law_line : List Sl → Ot :=
    oSeq (oPar [2, 3] (rCons (s1 gRg1 (sVar 1)) (rCons (sLst (lNil)) (rNil))))
    (oSeq (oWh (sTst (s2 (gEqE true) (sVar 2) (sLst (lNil)))) (oDrop (sApp (sVar 3) (sPop1 (sVar 2) (sCall F__law_coin [] (rIo 0 (rCons (sTk (s1 (gRd lenD) (sVar 2))) (rNil))))))) 1000)
    (oRet (sVar 3)))
def F__law_line : List Sl → FR := fnRun 2 4 [0] B__law_line
def n__law_line (a0 : (List Int)) (a1 : Int) : Option ((List Int) × (List Int)) :=
    (Option.bind (Option.bind (Option.bind (some a1) fun x1 => rg1 x1) fun x2 => Option.bind (Option.bind (some []) fun x3 => Option.bind (some ()) fun x4 => some (x3, x4)) fun x5 => some (x2, x5)) fun x6 => (Option.bind (whS 1000 ((a0, (Prod.fst x6), (Prod.fst (Prod.snd x6))) : ((List Int) × (List Int) × (List Int))) (fun s7 => (Option.bind (some (Prod.fst (Prod.snd s7))) fun x8 => some (true != List.isEmpty x8))) fun s7 => (Option.bind (Option.bind (Option.bind (Option.bind (Option.bind (Option.bind (some (Prod.fst (Prod.snd s7))) fun x9 => lenL x9) fun x10 => Option.bind (some ()) fun x11 => some (x10, x11)) fun x12 => Option.bind (n__law_coin ((Prod.fst s7) : (List Int)) ((Prod.fst x12) : Int)) fun x13 => some (x13, x12)) fun x14 => Option.bind (popL (Prod.fst (Prod.snd s7)) (Prod.fst (Prod.fst x14))) fun x15 => some (x15, x14)) fun x16 => Option.bind (apL (Prod.snd (Prod.snd s7)) (Prod.fst (Prod.fst x16))) fun x17 => some (x17, x16)) fun x18 => some (((Prod.snd (Prod.fst (Prod.snd (Prod.snd x18)))), (Prod.snd (Prod.fst (Prod.snd x18))), (Prod.fst x18)) : ((List Int) × (List Int) × (List Int))))) fun s7 => some ((Prod.snd (Prod.snd s7)), (Prod.fst s7))))
theorem V__law_line (a0 : (List Int)) (a1 : Int) : Fun F__law_line (n__law_line a0 a1) [ow a0, .fz (enc a1)] (fun r : ((List Int) × (List Int)) => ow ((Prod.fst r) : (List Int))) fun r => [ow (Prod.snd r), .no] :=
  fun_of (ΓR := fun r => [.eq (ow ((Prod.snd r) : (List Int))), .aa, .aa, .aa]) (show Bl B__law_line _ _ _ from (bl_ga [.eq (ow (a0 : (List Int))), .eq (.fz (enc (a1 : Int))), .eq .no, .eq .no] (by kernel_rfl) (bl_par (ag_cons ((pu1 Nv.op_rg1 ((pu_var 1 rfl)).rd)).ev fun x2 => (ag_cons (pu_nil).ev fun x3 => ag_nil)) fun x6 => (bl_ga [.eq (ow (a0 : (List Int))), .eq (.fz (enc (a1 : Int))), .eq (ow ((Prod.fst x6) : (List Int))), .eq (ow ((Prod.fst (Prod.snd x6)) : (List Int)))] (by kernel_rfl) (bl_wh (s0 := ((a0, (Prod.fst x6), (Prod.fst (Prod.snd x6))) : ((List Int) × (List Int) × (List Int)))) (ΓL := fun (s7 : ((List Int) × (List Int) × (List Int))) => [.eq (ow ((Prod.fst s7) : (List Int))), .eq (.fz (enc (a1 : Int))), .eq (ow ((Prod.fst (Prod.snd s7)) : (List Int))), .eq (ow ((Prod.snd (Prod.snd s7)) : (List Int)))]) (.cons .rfl (.cons .rfl (.cons .rfl (.cons .rfl .nil)))) (fun s7 => (ts_tst (pu_eqE ((rd_own 2 rfl)).ra))) (fun s7 => (bl_last (bl_expr (ev_app (k := 3) (va := fun x16 => (Prod.fst (Prod.fst x16))) (xs := fun x16 => (Prod.snd (Prod.snd s7))) rfl rfl ((ev_pop1 (k := 2) (va := fun x14 => (Prod.fst (Prod.fst x14))) (xs := fun x14 => (Prod.fst (Prod.snd s7))) rfl rfl ((ev_callG (ag_io (k := 0) rfl rfl (ag_cons (((pu1A Nv.op_len ((rd_own 2 rfl)).ra)).tkP).ev fun x10 => ag_nil)) (fun x12 => V__law_coin ((Prod.fst s7) : (List Int)) ((Prod.fst x12) : Int)))).tk fun _ => rfl)).tk fun _ => rfl) fun x18 => (bl_ga [.eq (ow ((Prod.snd (Prod.fst (Prod.snd (Prod.snd x18)))) : (List Int))), .eq (.fz (enc (a1 : Int))), .eq (ow ((Prod.snd (Prod.fst (Prod.snd x18))) : (List Int))), .eq (ow ((Prod.fst x18) : (List Int)))] (by kernel_rfl) (bl_end (rs_nx (.cons .rfl (.cons .rfl (.cons .rfl (.cons .rfl .nil)))))))))) fun s7 => (bl_retO (k := 3) rfl rfl (sat_ga [.eq (ow ((Prod.fst s7) : (List Int))), .eq (.fz (enc (a1 : Int))), .eq (ow ((Prod.fst (Prod.snd s7)) : (List Int))), .eq .no] (by kernel_rfl) (rf_eq rfl (.cons .rfl (.cons .aa (.cons .aa (.cons .aa .nil))))))))))))
end P
namespace P
open PySem PySem.Spec PyProof.Rows L2 Hb Nv
open Enc (enc)
def B__law_many : List Sl → Ot :=
    oRet (s2 gIx2 (sLst (lCons (sC (.int 0)) (lCons (s2 gAdd (sC (.int 1)) (sCall F__law_coin [] (rIo 0 (rCons (sC (.int 9)) (rNil))))) (lCons (sCall F__law_coin [] (rIo 0 (rCons (sTk (s2 gPowW (sC (.int 10)) (sC (.int 30)))) (rNil)))) (lCons (s2 gPowW (sC (.int 10)) (sC (.int 30))) (lNil)))))) (sCall F__law_coin [] (rIo 0 (rCons (sC (.int 4)) (rNil)))))
def F__law_many : List Sl → FR := fnRun 1 1 [0] B__law_many
def n__law_many (a0 : (List Int)) : Option (Int × (List Int)) :=
    (Option.bind (Option.bind (Option.bind (Option.bind (some (0 : Int)) fun x1 => Option.bind (Option.bind (Option.bind (some (1 : Int)) fun x8 => Option.bind (Option.bind (Option.bind (some (9 : Int)) fun x2 => Option.bind (some ()) fun x3 => some (x2, x3)) fun x4 => Option.bind (n__law_coin (a0 : (List Int)) ((Prod.fst x4) : Int)) fun x5 => some (x5, x4)) fun x6 => Option.bind (addI x8 (Prod.fst (Prod.fst x6))) fun x7 => some (x7, x8, x6)) fun x9 => Option.bind (Option.bind (Option.bind (Option.bind (Option.bind (some (10 : Int)) fun x10 => Option.bind (some (30 : Int)) fun x11 => powW x10 x11) fun x12 => Option.bind (some ()) fun x13 => some (x12, x13)) fun x14 => Option.bind (n__law_coin ((Prod.snd (Prod.fst (Prod.snd (Prod.snd x9)))) : (List Int)) ((Prod.fst x14) : Int)) fun x15 => some (x15, x14)) fun x16 => Option.bind (Option.bind (Option.bind (some (10 : Int)) fun x17 => Option.bind (some (30 : Int)) fun x18 => powW x17 x18) fun x19 => Option.bind (some ()) fun x21 => some (x19, x21)) fun x22 => some (x16, x22)) fun x23 => some (x9, x23)) fun x24 => some (x1, x24)) fun x20 => some (([(Prod.fst x20), (Prod.fst (Prod.fst (Prod.snd x20))), (Prod.fst (Prod.fst (Prod.fst (Prod.snd (Prod.snd x20))))), (Prod.fst (Prod.snd (Prod.snd (Prod.snd x20))))] : (List Int)), x20)) fun x25 => Option.bind (Option.bind (Option.bind (some (4 : Int)) fun x28 => Option.bind (some ()) fun x29 => some (x28, x29)) fun x30 => Option.bind (n__law_coin ((Prod.snd (Prod.fst (Prod.fst (Prod.snd (Prod.snd (Prod.snd x25)))))) : (List Int)) ((Prod.fst x30) : Int)) fun x31 => some (x31, x30)) fun x26 => Option.bind (atL (Prod.fst x25) (Prod.fst (Prod.fst x26))) fun x27 => some (x27, x25, x26)) fun x32 => some ((Prod.fst x32), (Prod.snd (Prod.fst (Prod.snd (Prod.snd x32))))))
theorem V__law_many (a0 : (List Int)) : Fun F__law_many (n__law_many a0) [ow a0] (fun r : (Int × (List Int)) => .fz (enc ((Prod.fst r) : Int))) fun r => [ow (Prod.snd r)] :=
  fun_of (ΓR := fun r => [.eq (ow ((Prod.snd r) : (List Int)))]) (show Bl B__law_many _ _ _ from (bl_ga [.eq (ow (a0 : (List Int)))] (by kernel_rfl) (bl_retV (ev2g Nv.op_ix2 (va := fun x25 => (Prod.fst x25)) (vb := fun x25 x26 => (Prod.fst (Prod.fst x26))) (((ev_lst (dl_cons ((pu_c).tkP).ev fun x1 => (dl_cons ((ev2g Nv.op_add (va := fun x8 => x8) (vb := fun x8 x6 => (Prod.fst (Prod.fst x6))) (pu_c).ev.er fun x8 => (((ev_callG (ag_io (k := 0) rfl rfl (ag_cons (pu_c).ev fun x2 => ag_nil)) (fun x4 => V__law_coin (a0 : (List Int)) ((Prod.fst x4) : Int)))).er).es)).tk fun x9 => (dl_ga [.eq (ow ((Prod.snd (Prod.fst (Prod.snd (Prod.snd x9)))) : (List Int)))] (by kernel_rfl) (dl_cons ((ev_callG (ag_io (k := 0) rfl rfl (ag_cons (((pu2 Nv.op_powW (pu_c).rd (pu_c).rd)).tkP).ev fun x12 => ag_nil)) (fun x14 => V__law_coin ((Prod.snd (Prod.fst (Prod.snd (Prod.snd x9)))) : (List Int)) ((Prod.fst x14) : Int)))).tk fun x16 => (dl_ga [.eq (ow ((Prod.snd (Prod.fst x16)) : (List Int)))] (by kernel_rfl) (dl_cons (((pu2 Nv.op_powW (pu_c).rd (pu_c).rd)).tkP).ev fun x19 => dl_nil)))))) (fun x20 => ([(Prod.fst x20), (Prod.fst (Prod.fst (Prod.snd x20))), (Prod.fst (Prod.fst (Prod.fst (Prod.snd (Prod.snd x20))))), (Prod.fst (Prod.snd (Prod.snd (Prod.snd x20))))] : (List Int))))).erT fun _ => ow_tree _) fun x25 => (es_ga [.eq (ow ((Prod.snd (Prod.fst (Prod.fst (Prod.snd (Prod.snd (Prod.snd x25)))))) : (List Int)))] (by kernel_rfl) (((ev_callG (ag_io (k := 0) rfl rfl (ag_cons (pu_c).ev fun x28 => ag_nil)) (fun x30 => V__law_coin ((Prod.snd (Prod.fst (Prod.fst (Prod.snd (Prod.snd (Prod.snd x25)))))) : (List Int)) ((Prod.fst x30) : Int)))).er).es)) fun x32 => (sat_ga [.eq (ow ((Prod.snd (Prod.fst (Prod.snd (Prod.snd x32)))) : (List Int)))] (by kernel_rfl) (rf_eq rfl (.cons .rfl .nil))))))
end P
namespace P
open PySem PySem.Spec PyProof.Rows L2 Hb Nv
open Enc (enc)
def B_need_ballot : List Sl → Ot :=
    oIf (sNot (sTru (sCall F_is_each_once [] (rCons (sTk (sVar 0)) (rCons (sTk (sVar 1)) (rNil)))))) (oRaise "InvalidBallot") (oNext)
def F_need_ballot : List Sl → FR := fnRun 2 2 [] B_need_ballot
def n_need_ballot (a0 : Int) (a1 : PyData) : Option (Unit) :=
    (Option.bind (Option.bind (Option.bind (Option.bind (some a0) fun x1 => Option.bind (Option.bind (some a1) fun x2 => Option.bind (some ()) fun x3 => some (x2, x3)) fun x4 => some (x1, x4)) fun x5 => n_is_each_once ((Prod.fst x5) : Int) ((Prod.fst (Prod.snd x5)) : PyData)) fun x7 => some !x7) fun x8 => if x8 = true then none else some ())
theorem V_need_ballot (a0 : Int) (a1 : PyData) : Fun F_need_ballot (n_need_ballot a0 a1) [.fz (enc a0), .fz (enc a1)] (fun r : (Unit) => .fz (enc (r : Unit))) fun r => [.no, .no] :=
  fun_of (ΓR := fun r => [.aa, .aa]) (show Bl B_need_ballot _ _ _ from (bl_ga [.eq (.fz (enc (a0 : Int))), .eq (.fz (enc (a1 : PyData)))] (by kernel_rfl) (bl_last (bl_if (k := fun x8 => x8) ((ts_not (ts_truB (((pu_call (ap_cons ((pu_var 0 rfl)).tkP (ap_cons ((pu_var 1 rfl)).tkP ap_nil)) (fun x5 => V_is_each_once ((Prod.fst x5) : Int) ((Prod.fst (Prod.snd x5)) : PyData)))).rd).ra))).te' (fun x8 => bl_bad) fun x8 => (bl_next (bl_end (rf_nx rfl (.cons .aa (.cons .aa .nil)))))))))
end P
namespace P
open PySem PySem.Spec PyProof.Rows L2 Hb Nv
open Enc (enc)
def B_show_ballot : List Sl → Ot :=
    oSeq (oDrop (sCall F_need_count [.int 12] (rCons (sTk (sVar 0)) (rNil))))
    (oSeq (oDrop (sCall F_need_ballot [] (rCons (sTk (sVar 0)) (rCons (sTk (sVar 1)) (rNil)))))
    (oRet (sCall F_joined_with [] (rCons (sC (.str ">")) (rCons (sTk (sVar 1)) (rNil))))))
def F_show_ballot : List Sl → FR := fnRun 2 2 [] B_show_ballot
def n_show_ballot (a0 : Int) (a1 : (List Int)) : Option (Str) :=
    (Option.bind (Option.bind (Option.bind (some a0) fun x1 => Option.bind (some ()) fun x2 => some (x1, x2)) fun x3 => n_need_count ((enc ((Prod.fst x3) : Int)) : PyData) ((12 : Int) : Int)) fun x4 => (Option.bind (Option.bind (Option.bind (some a0) fun x5 => Option.bind (Option.bind (some a1) fun x6 => Option.bind (some ()) fun x7 => some (x6, x7)) fun x8 => some (x5, x8)) fun x9 => n_need_ballot ((Prod.fst x9) : Int) ((enc ((Prod.fst (Prod.snd x9)) : (List Int))) : PyData)) fun x10 => (Option.bind (Option.bind (Option.bind (some (">" : Str)) fun x11 => Option.bind (Option.bind (some a1) fun x12 => Option.bind (some ()) fun x13 => some (x12, x13)) fun x14 => some (x11, x14)) fun x15 => n_joined_with ((Prod.fst x15) : Str) ((Prod.fst (Prod.snd x15)) : (List Int))) fun x16 => some x16)))
theorem V_show_ballot (a0 : Int) (a1 : (List Int)) : Fun F_show_ballot (n_show_ballot a0 a1) [.fz (enc a0), .fz (enc a1)] (fun r : (Str) => .fz (enc (r : Str))) fun r => [.no, .no] :=
  fun_of (ΓR := fun r => [.aa, .aa]) (show Bl B_show_ballot _ _ _ from (bl_ga [.eq (.fz (enc (a0 : Int))), .eq (.fz (enc (a1 : (List Int))))] (by kernel_rfl) (bl_expr ((pu_call (ap_cons ((pu_var 0 rfl)).tkP ap_nil) (fun x3 => V_need_count ((enc ((Prod.fst x3) : Int)) : PyData) ((12 : Int) : Int)))).ev fun x4 => (bl_ga [.eq (.fz (enc (a0 : Int))), .eq (.fz (enc (a1 : (List Int))))] (by kernel_rfl) (bl_expr ((pu_call (ap_cons ((pu_var 0 rfl)).tkP (ap_cons ((pu_var 1 rfl)).tkP ap_nil)) (fun x9 => V_need_ballot ((Prod.fst x9) : Int) ((enc ((Prod.fst (Prod.snd x9)) : (List Int))) : PyData)))).ev fun x10 => (bl_ga [.eq (.fz (enc (a0 : Int))), .eq (.fz (enc (a1 : (List Int))))] (by kernel_rfl) (bl_retV ((pu_call (ap_cons pu_c (ap_cons ((pu_var 1 rfl)).tkP ap_nil)) (fun x15 => V_joined_with ((Prod.fst x15) : Str) ((Prod.fst (Prod.snd x15)) : (List Int))))).ev fun x16 => (rf_eq rfl (.cons .aa (.cons .aa .nil))))))))))
end P
namespace P
open PySem PySem.Spec PyProof.Rows L2 Hb Nv
open Enc (enc)
def B_need_line : List Sl → Ot :=
    oSeq (oAsg (sTk (sIf (sAnd (sTst (s2 (gIs false) (sVar 1) (sC .none))) (sTru (s1 (gIsi "list") (sVar 0)))) (s1 (gRd lenD) (sVar 0)) (sVar 1))) (tgN 2))
    (oIf (sOr (sNot (sTru (sCall F_is_integer [] (rCons (sTk (sVar 2)) (rCons (sC (.int 1)) (rCons (sTk (sC (.int 12))) (rNil))))))) (sNot (sTru (sCall F_is_each_once [] (rCons (sTk (sVar 2)) (rCons (sTk (sVar 0)) (rNil))))))) (oRaise "InvalidLine") (oNext))
def F_need_line : List Sl → FR := fnRun 2 3 [] B_need_line
def n_need_line (a0 : PyData) (a1 : (Option Int)) : Option (Unit) :=
    (Option.bind (Option.bind (Option.bind (Option.bind (some a1) fun x1 => some (if false = true then Option.isSome x1 else Option.isNone x1)) fun x4 => if x4 = true then (Option.bind (some a0) fun x2 => isiN "list" x2) else some false) fun x7 => if x7 = true then (Option.bind (Option.bind (some a0) fun x5 => lenA x5) fun x6 => some ((some x6) : (Option Int))) else (some a1)) fun x8 => (Option.bind (Option.bind (Option.bind (Option.bind (Option.bind (some x8) fun x9 => Option.bind (Option.bind (some (1 : Int)) fun x10 => Option.bind (Option.bind (some (12 : Int)) fun x11 => Option.bind (some ()) fun x12 => some (x11, x12)) fun x13 => some (x10, x13)) fun x14 => some (x9, x14)) fun x15 => n_is_integer ((enc ((Prod.fst x15) : (Option Int))) : PyData) ((Prod.fst (Prod.snd x15)) : Int) ((some (Prod.fst (Prod.snd (Prod.snd x15)))) : (Option Int))) fun x17 => some !x17) fun x26 => if x26 = true then some true else (Option.bind (Option.bind (Option.bind (Option.bind (some x8) fun x19 => x19) fun x18 => Option.bind (Option.bind (some a0) fun x20 => Option.bind (some ()) fun x21 => some (x20, x21)) fun x22 => some (x18, x22)) fun x23 => n_is_each_once ((Prod.fst x23) : Int) ((Prod.fst (Prod.snd x23)) : PyData)) fun x25 => some !x25)) fun x27 => if x27 = true then none else some ()))
theorem V_need_line (a0 : PyData) (a1 : (Option Int)) : Fun F_need_line (n_need_line a0 a1) [.fz (enc a0), .fz (enc a1)] (fun r : (Unit) => .fz (enc (r : Unit))) fun r => [.no, .no] :=
  fun_of (ΓR := fun r => [.aa, .aa, .aa]) (show Bl B_need_line _ _ _ from (bl_ga [.eq (.fz (enc (a0 : PyData))), .eq (.fz (enc (a1 : (Option Int)))), .eq .no] (by kernel_rfl) (bl_asgV (((pu_if (ts_and (ts_tst (pu_isN (n := false) (((pu_var 1 rfl)).rd).ra)) (ts_truB (((pu1A (Nv.op_isi (T := "list")) (((pu_var 0 rfl)).rd).ra)).rd).ra)) (pu_co (fun x6 => ((some x6) : (Option Int))) (pu1A Nv.op_lenA (((pu_var 0 rfl)).rd).ra)) (pu_var 1 rfl))).tkP).ev fun x8 => (bl_ga [.eq (.fz (enc (a0 : PyData))), .eq (.fz (enc (a1 : (Option Int)))), .eq (.fz (enc (x8 : (Option Int))))] (by kernel_rfl) (bl_last (bl_if (k := fun x27 => x27) ((ts_or (ts_not (ts_truB (((pu_call (ap_cons ((pu_var 2 rfl)).tkP (ap_cons pu_c (ap_cons (pu_c).tkP ap_nil))) (fun x15 => V_is_integer ((enc ((Prod.fst x15) : (Option Int))) : PyData) ((Prod.fst (Prod.snd x15)) : Int) ((some (Prod.fst (Prod.snd (Prod.snd x15)))) : (Option Int))))).rd).ra)) (ts_not (ts_truB (((pu_call (ap_cons (Pu.un ((pu_var 2 rfl)).tkP) (ap_cons ((pu_var 0 rfl)).tkP ap_nil)) (fun x23 => V_is_each_once ((Prod.fst x23) : Int) ((Prod.fst (Prod.snd x23)) : PyData)))).rd).ra)))).te' (fun x27 => bl_bad) fun x27 => (bl_next (bl_end (rf_nx rfl (.cons .aa (.cons .aa (.cons .aa .nil))))))))))))
end P
namespace P
open PySem PySem.Spec PyProof.Rows L2 Hb Nv
open Enc (enc)
def B_show_line : List Sl → Ot :=
    oSeq (oDrop (sCall F_need_line [.none] (rCons (sTk (sVar 0)) (rNil))))
    (oRet (sCall F_joined_with [] (rCons (sC (.str "-")) (rCons (sTk (sVar 0)) (rNil)))))
def F_show_line : List Sl → FR := fnRun 1 1 [] B_show_line
def n_show_line (a0 : (List Int)) : Option (Str) :=
    (Option.bind (Option.bind (Option.bind (some a0) fun x1 => Option.bind (some ()) fun x2 => some (x1, x2)) fun x3 => n_need_line ((enc ((Prod.fst x3) : (List Int))) : PyData) ((none : (Option Int)) : (Option Int))) fun x4 => (Option.bind (Option.bind (Option.bind (some ("-" : Str)) fun x5 => Option.bind (Option.bind (some a0) fun x6 => Option.bind (some ()) fun x7 => some (x6, x7)) fun x8 => some (x5, x8)) fun x9 => n_joined_with ((Prod.fst x9) : Str) ((Prod.fst (Prod.snd x9)) : (List Int))) fun x10 => some x10))
theorem V_show_line (a0 : (List Int)) : Fun F_show_line (n_show_line a0) [.fz (enc a0)] (fun r : (Str) => .fz (enc (r : Str))) fun r => [.no] :=
  fun_of (ΓR := fun r => [.aa]) (show Bl B_show_line _ _ _ from (bl_ga [.eq (.fz (enc (a0 : (List Int))))] (by kernel_rfl) (bl_expr ((pu_call (ap_cons ((pu_var 0 rfl)).tkP ap_nil) (fun x3 => V_need_line ((enc ((Prod.fst x3) : (List Int))) : PyData) ((none : (Option Int)) : (Option Int))))).ev fun x4 => (bl_ga [.eq (.fz (enc (a0 : (List Int))))] (by kernel_rfl) (bl_retV ((pu_call (ap_cons pu_c (ap_cons ((pu_var 0 rfl)).tkP ap_nil)) (fun x9 => V_joined_with ((Prod.fst x9) : Str) ((Prod.fst (Prod.snd x9)) : (List Int))))).ev fun x10 => (rf_eq rfl (.cons .aa .nil)))))))
end P
namespace P
open PySem PySem.Spec PyProof.Rows L2 Hb Nv
open Enc (enc)
def B__law_joined : List Sl → Ot :=
    oRet (sJoin (sVar 0) (sLc false (wSeq (sVar 1)) [2] (tgN 2) (tOk) (sTk (s1 (gRd strD) (sVar 2)))))
def F__law_joined : List Sl → FR := fnRun 2 3 [] B__law_joined
def n__law_joined (a0 : Str) (a1 : (List Int)) : Option (Str) :=
    (Option.bind (Option.bind (some a0) fun x4 => Option.bind (Option.bind (some a1) fun x1 => if List.length (x1) ≤ cap then mapF x1 (fun x2 => (some true)) (fun x2 => (Option.bind (some x2) fun x3 => strI x3)) else none) fun x5 => joinN x4 x5) fun x6 => some x6)
theorem V__law_joined (a0 : Str) (a1 : (List Int)) : Fun F__law_joined (n__law_joined a0 a1) [.fz (enc a0), .fz (enc a1)] (fun r : (Str) => .fz (enc (r : Str))) fun r => [.no, .no] :=
  fun_of (ΓR := fun r => [.aa, .aa, .aa]) (show Bl B__law_joined _ _ _ from (bl_ga [.eq (.fz (enc (a0 : Str))), .eq (.fz (enc (a1 : (List Int)))), .eq .no] (by kernel_rfl) (bl_retV ((pu_joinV ((pu_var 0 rfl)).rd (((pu_lc (vs := [2]) (ip_seq (xs := fun v => v) ((pu_var 1 rfl)).tkP) rfl rfl (fun x1 x2 => tg_n) (fun x1 x2 => (ts_ga [.eq (.fz (enc (a0 : Str))), .eq (.fz (enc (a1 : (List Int)))), .eq (.fz (enc (x2 : Int)))] (by kernel_rfl) ts_ok)) fun x1 x2 => (pu_ga [.eq (.fz (enc (a0 : Str))), .eq (.fz (enc (a1 : (List Int)))), .eq (.fz (enc (x2 : Int)))] (by kernel_rfl) ((pu1A Nv.op_strI (((pu_var 2 rfl)).rd).ra)).tkP))).rdT ow_tree))).ev fun x6 => (rf_eq rfl (.cons .aa (.cons .aa (.cons .aa .nil)))))))
end P
namespace P
open PySem PySem.Spec PyProof.Rows L2 Hb Nv
open Enc (enc)
def B_read_all : List Sl → Ot :=
    oSeq (oDrop (sCall F_need_text [] (rCons (sTk (sVar 1)) (rNil))))
    (oSeq (oAsg (sCall F_places_in [] (rCons (sTk (sVar 0)) (rCons (sTk (sVar 1)) (rCons (sTk (sVar 2)) (rNil))))) (tgN 3))
    (oSeq (oIf (sTst (s2 (gIs false) (sVar 3) (sC .none))) (fun _ => .bad) (oNext))
    (oRet (sVar 3))))
def F_read_all : List Sl → FR := fnRun 3 4 [] B_read_all
def n_read_all (a0 : Int) (a1 : Str) (a2 : Str) : Option ((List (Option Int))) :=
    (Option.bind (Option.bind (Option.bind (some a1) fun x1 => Option.bind (some ()) fun x2 => some (x1, x2)) fun x3 => n_need_text ((enc ((Prod.fst x3) : Str)) : PyData)) fun x4 => (Option.bind (Option.bind (Option.bind (some a0) fun x5 => Option.bind (Option.bind (some a1) fun x6 => Option.bind (Option.bind (some a2) fun x7 => Option.bind (some ()) fun x8 => some (x7, x8)) fun x9 => some (x6, x9)) fun x10 => some (x5, x10)) fun x11 => n_places_in ((Prod.fst x11) : Int) ((Prod.fst (Prod.snd x11)) : Str) ((Prod.fst (Prod.snd (Prod.snd x11))) : Str)) fun x12 => (Option.bind (Option.bind (some x12) fun x13 => some (if false = true then Option.isSome x13 else Option.isNone x13)) fun x14 => if x14 = true then none else (Option.bind x12 fun x15 => some x15))))
theorem V_read_all (a0 : Int) (a1 : Str) (a2 : Str) : Fun F_read_all (n_read_all a0 a1 a2) [.fz (enc a0), .fz (enc a1), .fz (enc a2)] (fun r : ((List (Option Int))) => ow (r : (List (Option Int)))) fun r => [.no, .no, .no] :=
  fun_of (ΓR := fun r => [.aa, .aa, .aa, .aa]) (show Bl B_read_all _ _ _ from (bl_ga [.eq (.fz (enc (a0 : Int))), .eq (.fz (enc (a1 : Str))), .eq (.fz (enc (a2 : Str))), .eq .no] (by kernel_rfl) (bl_expr ((pu_call (ap_cons ((pu_var 1 rfl)).tkP ap_nil) (fun x3 => V_need_text ((enc ((Prod.fst x3) : Str)) : PyData)))).ev fun x4 => (bl_ga [.eq (.fz (enc (a0 : Int))), .eq (.fz (enc (a1 : Str))), .eq (.fz (enc (a2 : Str))), .eq .no] (by kernel_rfl) (bl_asgO (a := fun x12 => x12) ((pu_call (ap_cons ((pu_var 0 rfl)).tkP (ap_cons ((pu_var 1 rfl)).tkP (ap_cons ((pu_var 2 rfl)).tkP ap_nil))) (fun x11 => V_places_in ((Prod.fst x11) : Int) ((Prod.fst (Prod.snd x11)) : Str) ((Prod.fst (Prod.snd (Prod.snd x11))) : Str)))).ev fun x12 => (bl_ga [.eq (.fz (enc (a0 : Int))), .eq (.fz (enc (a1 : Str))), .eq (.fz (enc (a2 : Str))), .eq (owO (x12 : (Option (List (Option Int)))))] (by kernel_rfl) (bl_if (k := fun x14 => x14) ((ts_tst (pu_isN (n := false) ((rd_owO 3 rfl)).ra))).te' (fun x14 => bl_bad) fun x14 => (bl_next (bl_reOw (k := 3) rfl fun x15 => (bl_ga [.eq (.fz (enc (a0 : Int))), .eq (.fz (enc (a1 : Str))), .eq (.fz (enc (a2 : Str))), .eq (ow (x15 : (List (Option Int))))] (by kernel_rfl) (bl_retO (k := 3) rfl rfl (sat_ga [.eq (.fz (enc (a0 : Int))), .eq (.fz (enc (a1 : Str))), .eq (.fz (enc (a2 : Str))), .eq .no] (by kernel_rfl) (rf_eq rfl (.cons .aa (.cons .aa (.cons .aa (.cons .aa .nil)))))))))))))))))
end P
namespace P
open PySem PySem.Spec PyProof.Rows L2 Hb Nv
open Enc (enc)
def B_read_ballot : List Sl → Ot :=
    oSeq (oDrop (sCall F_need_count [.int 12] (rCons (sTk (sVar 0)) (rNil))))
    (oRet (sCall F_read_all [] (rCons (sTk (sVar 0)) (rCons (sTk (sVar 1)) (rCons (sC (.str ">")) (rNil))))))
def F_read_ballot : List Sl → FR := fnRun 2 2 [] B_read_ballot
def n_read_ballot (a0 : Int) (a1 : Str) : Option ((List (Option Int))) :=
    (Option.bind (Option.bind (Option.bind (some a0) fun x1 => Option.bind (some ()) fun x2 => some (x1, x2)) fun x3 => n_need_count ((enc ((Prod.fst x3) : Int)) : PyData) ((12 : Int) : Int)) fun x4 => (Option.bind (Option.bind (Option.bind (some a0) fun x5 => Option.bind (Option.bind (some a1) fun x6 => Option.bind (Option.bind (some (">" : Str)) fun x7 => Option.bind (some ()) fun x8 => some (x7, x8)) fun x9 => some (x6, x9)) fun x10 => some (x5, x10)) fun x11 => n_read_all ((Prod.fst x11) : Int) ((Prod.fst (Prod.snd x11)) : Str) ((Prod.fst (Prod.snd (Prod.snd x11))) : Str)) fun x12 => some x12))
theorem V_read_ballot (a0 : Int) (a1 : Str) : Fun F_read_ballot (n_read_ballot a0 a1) [.fz (enc a0), .fz (enc a1)] (fun r : ((List (Option Int))) => ow (r : (List (Option Int)))) fun r => [.no, .no] :=
  fun_of (ΓR := fun r => [.aa, .aa]) (show Bl B_read_ballot _ _ _ from (bl_ga [.eq (.fz (enc (a0 : Int))), .eq (.fz (enc (a1 : Str)))] (by kernel_rfl) (bl_expr ((pu_call (ap_cons ((pu_var 0 rfl)).tkP ap_nil) (fun x3 => V_need_count ((enc ((Prod.fst x3) : Int)) : PyData) ((12 : Int) : Int)))).ev fun x4 => (bl_ga [.eq (.fz (enc (a0 : Int))), .eq (.fz (enc (a1 : Str)))] (by kernel_rfl) (bl_retT ((pu_call (ap_cons ((pu_var 0 rfl)).tkP (ap_cons ((pu_var 1 rfl)).tkP (ap_cons pu_c ap_nil))) (fun x11 => V_read_all ((Prod.fst x11) : Int) ((Prod.fst (Prod.snd x11)) : Str) ((Prod.fst (Prod.snd (Prod.snd x11))) : Str)))).ev fun x12 => (rf_eq rfl (.cons .aa (.cons .aa .nil))))))))
end P
namespace P
open PySem PySem.Spec PyProof.Rows L2 Hb Nv
open Enc (enc)
def B_read_line : List Sl → Ot :=
    oSeq (oDrop (sCall F_need_count [.int 12] (rCons (sTk (sVar 0)) (rNil))))
    (oRet (sCall F_read_all [] (rCons (sTk (sVar 0)) (rCons (sTk (sVar 1)) (rCons (sC (.str "-")) (rNil))))))
def F_read_line : List Sl → FR := fnRun 2 2 [] B_read_line
def n_read_line (a0 : Int) (a1 : Str) : Option ((List (Option Int))) :=
    (Option.bind (Option.bind (Option.bind (some a0) fun x1 => Option.bind (some ()) fun x2 => some (x1, x2)) fun x3 => n_need_count ((enc ((Prod.fst x3) : Int)) : PyData) ((12 : Int) : Int)) fun x4 => (Option.bind (Option.bind (Option.bind (some a0) fun x5 => Option.bind (Option.bind (some a1) fun x6 => Option.bind (Option.bind (some ("-" : Str)) fun x7 => Option.bind (some ()) fun x8 => some (x7, x8)) fun x9 => some (x6, x9)) fun x10 => some (x5, x10)) fun x11 => n_read_all ((Prod.fst x11) : Int) ((Prod.fst (Prod.snd x11)) : Str) ((Prod.fst (Prod.snd (Prod.snd x11))) : Str)) fun x12 => some x12))
theorem V_read_line (a0 : Int) (a1 : Str) : Fun F_read_line (n_read_line a0 a1) [.fz (enc a0), .fz (enc a1)] (fun r : ((List (Option Int))) => ow (r : (List (Option Int)))) fun r => [.no, .no] :=
  fun_of (ΓR := fun r => [.aa, .aa]) (show Bl B_read_line _ _ _ from (bl_ga [.eq (.fz (enc (a0 : Int))), .eq (.fz (enc (a1 : Str)))] (by kernel_rfl) (bl_expr ((pu_call (ap_cons ((pu_var 0 rfl)).tkP ap_nil) (fun x3 => V_need_count ((enc ((Prod.fst x3) : Int)) : PyData) ((12 : Int) : Int)))).ev fun x4 => (bl_ga [.eq (.fz (enc (a0 : Int))), .eq (.fz (enc (a1 : Str)))] (by kernel_rfl) (bl_retT ((pu_call (ap_cons ((pu_var 0 rfl)).tkP (ap_cons ((pu_var 1 rfl)).tkP (ap_cons pu_c ap_nil))) (fun x11 => V_read_all ((Prod.fst x11) : Int) ((Prod.fst (Prod.snd x11)) : Str) ((Prod.fst (Prod.snd (Prod.snd x11))) : Str)))).ev fun x12 => (rf_eq rfl (.cons .aa (.cons .aa .nil))))))))
end P
namespace P
open PySem PySem.Spec PyProof.Rows L2 Hb Nv
open Enc (enc)
def B__law_right_v25 : List Sl → Ot :=
    oSeq (oPar [10, 11] (rCons (sTk (sCall F__law_line [] (rIo 0 (rCons (sTk (sVar 1)) (rNil))))) (rCons (sTk (sCall F__law_line [] (rIo 0 (rCons (sTk (sVar 1)) (rNil))))) (rNil))))
    (oSeq (oAsg (sTk (sLc false (wRng1 (sCall F__law_coin [] (rIo 0 (rCons (sTk (s2 gAdd (sVar 2) (sC (.int 1)))) (rNil))))) [9] (tgN 9) (tOk) (sTk (sCall F__law_line [] (rIo 0 (rCons (sTk (sVar 1)) (rNil))))))) (tgN 3))
    (oSeq (oAsg (sTk (sLc false (wSeq (sVar 3)) [13] (tgN 13) (tOk) (sTk (sCall F__law_many [] (rIo 0 (rNil)))))) (tgN 4))
    (oSeq (oAsg (sTk (s1 (gRd reprD) (sLst (lCons (sVar 10) (lCons (sVar 11) (lCons (sVar 3) (lCons (sVar 4) (lNil)))))))) (tgN 5))
    (oSeq (oAsg (sTk (sLst (lCons (sCall F_show_ballot [] (rCons (sTk (sVar 1)) (rCons (sTk (sVar 10)) (rNil)))) (lCons (sCall F_show_line [] (rCons (sTk (sVar 11)) (rNil))) (lCons (sCall F_show_ballots [] (rCons (sTk (sVar 1)) (rCons (sTk (sVar 3)) (rCons (sTk (sVar 4)) (rNil))))) (lNil)))))) (tgN 6))
    (oSeq (oAsg (sTk (sLc false (wZip (sVar 3) (sVar 4)) [13, 14] (tgT 2 (tgCons (tgN 13) (tgCons (tgN 14) (tgNil)))) (tOk) (sTk (s2 gAdd (s2 gAdd (s1 (gRd strD) (sVar 14)) (sC (.str ": "))) (sCall F__law_joined [] (rCons (sC (.str ">")) (rCons (sTk (sVar 13)) (rNil)))))))) (tgN 7))
    (oSeq (oIf (sTst (s2 gNe (sVar 6) (sLst (lCons (sCall F__law_joined [] (rCons (sC (.str ">")) (rCons (sTk (sVar 10)) (rNil)))) (lCons (sCall F__law_joined [] (rCons (sC (.str "-")) (rCons (sTk (sVar 11)) (rNil)))) (lCons (s1 (gJoinC "\n") (sVar 7)) (lNil))))))) (oRet (sC (.bool false))) (oNext))
    (oSeq (oAsg (sTk (s1 (gRd reprD) (sLst (lCons (sVar 10) (lCons (sVar 11) (lCons (sTup (lCons (sVar 3) (lCons (sVar 4) (lNil)))) (lNil))))))) (tgN 8))
    (oSeq (oFor (wRng1 (sC (.int 2))) (tgN 9) (oSeq (oTold 6 1 8 12 13 (sCall F_read_ballot [] (rCons (sTk (sVar 1)) (rCons (sTk (s2 gIx2 (sVar 6) (sC (.int 0)))) (rNil)))) (sCall F_read_line [] (rCons (sTk (sVar 1)) (rCons (sTk (s2 gIx2 (sVar 6) (sC (.int 1)))) (rNil)))) (pairF B_read_ballots_b 2 11 2 3) "?")
    (oIf (sTst (s2 (gEqE true) (sLc false (wSeq (sSl (s2 gIx2 (s2 gIx2 (sVar 12) (sC (.int 2))) (sC (.int 0))) none (some (s1 gNeg (sC (.int 1)))))) [13] (tgN 13) (sTst (s2 gNe (s1 (gRd lenD) (sVar 13)) (s2 gAdd (sVar 1) (sC (.int 1))))) (sTk (sC (.int 1)))) (sLst (lNil)))) (oRet (sC (.bool false))) (oNext))))
    (oRet (s2 (gEqS false) (s1 (gRd reprD) (sLst (lCons (sVar 10) (lCons (sVar 11) (lCons (sVar 3) (lCons (sVar 4) (lNil))))))) (sVar 5)))))))))))
def F__law_right_v25 : List Sl → FR := fnRun 3 15 [0] B__law_right_v25
def n__law_right_v25 (a0 : (List Int)) (a1 : Int) (a2 : Int) : Option (Bool × (List Int)) :=
    (Option.bind (Option.bind (Option.bind (Option.bind (some a1) fun x1 => Option.bind (some ()) fun x2 => some (x1, x2)) fun x3 => Option.bind (n__law_line (a0 : (List Int)) ((Prod.fst x3) : Int)) fun x4 => some (x4, x3)) fun x5 => Option.bind (Option.bind (Option.bind (Option.bind (some a1) fun x6 => Option.bind (some ()) fun x7 => some (x6, x7)) fun x8 => Option.bind (n__law_line ((Prod.snd (Prod.fst x5)) : (List Int)) ((Prod.fst x8) : Int)) fun x9 => some (x9, x8)) fun x10 => Option.bind (some ()) fun x11 => some (x10, x11)) fun x12 => some (x5, x12)) fun x13 => (Option.bind (Option.bind (Option.bind (Option.bind (Option.bind (Option.bind (some a2) fun x14 => Option.bind (some (1 : Int)) fun x15 => addI x14 x15) fun x16 => Option.bind (some ()) fun x17 => some (x16, x17)) fun x18 => Option.bind (n__law_coin ((Prod.snd (Prod.fst (Prod.fst (Prod.snd x13)))) : (List Int)) ((Prod.fst x18) : Int)) fun x19 => some (x19, x18)) fun x20 => Option.bind (ri1 (Prod.fst (Prod.fst x20))) fun x21 => some (x21, x20)) fun x22 => if List.length ((Prod.fst x22)) ≤ cap then Option.bind (mapE (Prod.fst x22) ((Prod.snd (Prod.fst (Prod.snd x22))) : (List Int)) (fun s28 x23 => (Option.bind (Option.bind (Option.bind (some a1) fun x29 => Option.bind (some ()) fun x30 => some (x29, x30)) fun x31 => Option.bind (n__law_line (s28 : (List Int)) ((Prod.fst x31) : Int)) fun x32 => some (x32, x31)) fun x33 => some ((Prod.fst (Prod.fst x33)), (Prod.snd (Prod.fst x33)))))) fun r => some (r, x22) else none) fun x35 => (Option.bind (Option.bind (some (Prod.fst (Prod.fst x35))) fun x36 => if List.length (x36) ≤ cap then Option.bind (mapE x36 ((Prod.snd (Prod.fst x35)) : (List Int)) (fun s40 x37 => (Option.bind (Option.bind (some ()) fun x41 => Option.bind (n__law_many (s40 : (List Int))) fun x42 => some (x42, x41)) fun x43 => some ((Prod.fst (Prod.fst x43)), (Prod.snd (Prod.fst x43)))))) fun r => some (r, x36) else none) fun x45 => (Option.bind (Option.bind (Option.bind (Option.bind (Option.bind (some (Prod.fst (Prod.fst (Prod.fst x13)))) fun x46 => Option.bind (Option.bind (some (Prod.fst (Prod.fst (Prod.fst (Prod.snd x13))))) fun x47 => Option.bind (Option.bind (some (Prod.fst (Prod.fst x35))) fun x48 => Option.bind (Option.bind (some (Prod.fst (Prod.fst x45))) fun x49 => Option.bind (some ()) fun x51 => some (x49, x51)) fun x52 => some (x48, x52)) fun x53 => some (x47, x53)) fun x54 => some (x46, x54)) fun x50 => some ([(enc ((Prod.fst x50) : (List Int))), (enc ((Prod.fst (Prod.snd x50)) : (List Int))), (enc ((Prod.fst (Prod.snd (Prod.snd x50))) : (List (List Int)))), (enc ((Prod.fst (Prod.snd (Prod.snd (Prod.snd x50)))) : (List Int)))] : (List PyData))) fun x55 => some (enc (x55 : (List PyData)))) fun x56 => reprN x56) fun x57 => (Option.bind (Option.bind (Option.bind (Option.bind (Option.bind (some a1) fun x58 => Option.bind (Option.bind (some (Prod.fst (Prod.fst (Prod.fst x13)))) fun x59 => Option.bind (some ()) fun x60 => some (x59, x60)) fun x61 => some (x58, x61)) fun x62 => n_show_ballot ((Prod.fst x62) : Int) ((Prod.fst (Prod.snd x62)) : (List Int))) fun x63 => Option.bind (Option.bind (Option.bind (Option.bind (some (Prod.fst (Prod.fst (Prod.fst (Prod.snd x13))))) fun x64 => Option.bind (some ()) fun x65 => some (x64, x65)) fun x66 => n_show_line ((Prod.fst x66) : (List Int))) fun x67 => Option.bind (Option.bind (Option.bind (Option.bind (some a1) fun x68 => Option.bind (Option.bind (some (Prod.fst (Prod.fst x35))) fun x69 => Option.bind (Option.bind (some (Prod.fst (Prod.fst x45))) fun x70 => Option.bind (some ()) fun x71 => some (x70, x71)) fun x72 => some (x69, x72)) fun x73 => some (x68, x73)) fun x74 => n_show_ballots ((Prod.fst x74) : Int) ((Prod.fst (Prod.snd x74)) : (List (List Int))) ((Prod.fst (Prod.snd (Prod.snd x74))) : (List Int))) fun x75 => Option.bind (some ()) fun x77 => some (x75, x77)) fun x78 => some (x67, x78)) fun x79 => some (x63, x79)) fun x76 => some ([(Prod.fst x76), (Prod.fst (Prod.snd x76)), (Prod.fst (Prod.snd (Prod.snd x76)))] : (List Str))) fun x80 => (Option.bind (Option.bind (Option.bind (some (Prod.fst (Prod.fst x35))) fun x81 => Option.bind (some (Prod.fst (Prod.fst x45))) fun x82 => some (List.zip x81 x82)) fun x83 => if List.length (x83) ≤ cap then mapF x83 (fun x84 => (some true)) (fun x84 => (Option.bind (Option.bind (Option.bind (some (Prod.snd x84)) fun x85 => strI x85) fun x86 => Option.bind (some (": " : Str)) fun x87 => catS x86 x87) fun x93 => Option.bind (Option.bind (Option.bind (some (">" : Str)) fun x88 => Option.bind (Option.bind (some (Prod.fst x84)) fun x89 => Option.bind (some ()) fun x90 => some (x89, x90)) fun x91 => some (x88, x91)) fun x92 => n__law_joined ((Prod.fst x92) : Str) ((Prod.fst (Prod.snd x92)) : (List Int))) fun x94 => catS x93 x94)) else none) fun x95 => (Option.bind (Option.bind (some x80) fun x114 => Option.bind (Option.bind (Option.bind (Option.bind (Option.bind (some (">" : Str)) fun x96 => Option.bind (Option.bind (some (Prod.fst (Prod.fst (Prod.fst x13)))) fun x97 => Option.bind (some ()) fun x98 => some (x97, x98)) fun x99 => some (x96, x99)) fun x100 => n__law_joined ((Prod.fst x100) : Str) ((Prod.fst (Prod.snd x100)) : (List Int))) fun x101 => Option.bind (Option.bind (Option.bind (Option.bind (some ("-" : Str)) fun x102 => Option.bind (Option.bind (some (Prod.fst (Prod.fst (Prod.fst (Prod.snd x13))))) fun x103 => Option.bind (some ()) fun x104 => some (x103, x104)) fun x105 => some (x102, x105)) fun x106 => n__law_joined ((Prod.fst x106) : Str) ((Prod.fst (Prod.snd x106)) : (List Int))) fun x107 => Option.bind (Option.bind (Option.bind (some x95) fun x108 => joinN ("
" : Str) x108) fun x109 => Option.bind (some ()) fun x111 => some (x109, x111)) fun x112 => some (x107, x112)) fun x113 => some (x101, x113)) fun x110 => some ([(Prod.fst x110), (Prod.fst (Prod.snd x110)), (Prod.fst (Prod.snd (Prod.snd x110)))] : (List Str))) fun x115 => neLS x114 x115) fun x116 => if x116 = true then (Option.bind (some false) fun x117 => some (x117, (Prod.snd (Prod.fst x45)))) else (Option.bind (Option.bind (Option.bind (Option.bind (Option.bind (some (Prod.fst (Prod.fst (Prod.fst x13)))) fun x118 => Option.bind (Option.bind (some (Prod.fst (Prod.fst (Prod.fst (Prod.snd x13))))) fun x119 => Option.bind (Option.bind (Option.bind (Option.bind (some (Prod.fst (Prod.fst x35))) fun x120 => Option.bind (Option.bind (some (Prod.fst (Prod.fst x45))) fun x121 => Option.bind (some ()) fun x123 => some (x121, x123)) fun x124 => some (x120, x124)) fun x122 => some (((Prod.fst x122), (Prod.fst (Prod.snd x122))) : ((List (List Int)) × (List Int)))) fun x125 => Option.bind (some ()) fun x127 => some (x125, x127)) fun x128 => some (x119, x128)) fun x129 => some (x118, x129)) fun x126 => some ([(enc ((Prod.fst x126) : (List Int))), (enc ((Prod.fst (Prod.snd x126)) : (List Int))), (enc ((Prod.fst (Prod.snd (Prod.snd x126))) : ((List (List Int)) × (List Int))))] : (List PyData))) fun x130 => some (enc (x130 : (List PyData)))) fun x131 => reprN x131) fun x132 => (Option.bind (Option.bind (some (2 : Int)) fun x133 => ri1 x133) fun x134 => Option.bind (forF (ρ := (Bool × (List Int))) x134 (() : Unit) fun s136 x135 => (Option.bind (Option.bind (Option.bind (some a1) fun x137 => Option.bind (Option.bind (Option.bind (some x80) fun x138 => Option.bind (some (0 : Int)) fun x139 => atL x138 x139) fun x140 => Option.bind (some ()) fun x141 => some (x140, x141)) fun x142 => some (x137, x142)) fun x143 => n_read_ballot ((Prod.fst x143) : Int) ((Prod.fst (Prod.snd x143)) : Str)) fun x151 => Option.bind (Option.bind (Option.bind (some a1) fun x144 => Option.bind (Option.bind (Option.bind (some x80) fun x145 => Option.bind (some (1 : Int)) fun x146 => atL x145 x146) fun x147 => Option.bind (some ()) fun x148 => some (x147, x148)) fun x149 => some (x144, x149)) fun x150 => n_read_line ((Prod.fst x150) : Int) ((Prod.fst (Prod.snd x150)) : Str)) fun x152 => Option.bind (atL x80 2) fun x153 => Option.bind (n_read_ballots_b a1 x153) fun x154 => Option.bind (toldN (List.map enc x151) (List.map enc x152) (List.map (fun x => List.map enc x) (Prod.fst x154)) (List.map enc (Prod.snd x154)) ("?" : Str)) fun x155 => if ((PyData.shown (Prod.fst x155)).cps.toList == (x132 : Str).cps.toList) = true then (Option.bind (Option.bind (Option.bind (Option.bind (Option.bind (Option.bind (Option.bind (some (Prod.snd x155)) fun x157 => Option.bind (some (2 : Int)) fun x158 => atL x157 x158) fun x159 => Option.bind (some (0 : Int)) fun x160 => atA x159 x160) fun x161 => asL x161) fun x164 => Option.bind (some none) fun x165 => Option.bind (Option.bind (Option.bind (some (1 : Int)) fun x162 => negI x162) fun x163 => some (some x163)) fun x166 => some (cutL x164 x165 x166)) fun x167 => if List.length (x167) ≤ cap then mapF x167 (fun x168 => (Option.bind (Option.bind (some x168) fun x169 => lenA x169) fun x172 => Option.bind (Option.bind (some a1) fun x170 => Option.bind (some (1 : Int)) fun x171 => addI x170 x171) fun x173 => neN x172 x173)) (fun x168 => (some (1 : Int))) else none) fun x174 => some (true != List.isEmpty x174)) fun x175 => if x175 = true then (Option.bind (some false) fun x176 => some (.rt (x176, (Prod.snd (Prod.fst x45))))) else some (.nx (() : Unit))) else some (.rt (false, (Prod.snd (Prod.fst x45)))))) fun o192 => Fl.el o192 (fun s136 => (Option.bind (Option.bind (Option.bind (Option.bind (Option.bind (Option.bind (some (Prod.fst (Prod.fst (Prod.fst x13)))) fun x177 => Option.bind (Option.bind (some (Prod.fst (Prod.fst (Prod.fst (Prod.snd x13))))) fun x178 => Option.bind (Option.bind (some (Prod.fst (Prod.fst x35))) fun x179 => Option.bind (Option.bind (some (Prod.fst (Prod.fst x45))) fun x180 => Option.bind (some ()) fun x182 => some (x180, x182)) fun x183 => some (x179, x183)) fun x184 => some (x178, x184)) fun x185 => some (x177, x185)) fun x181 => some ([(enc ((Prod.fst x181) : (List Int))), (enc ((Prod.fst (Prod.snd x181)) : (List Int))), (enc ((Prod.fst (Prod.snd (Prod.snd x181))) : (List (List Int)))), (enc ((Prod.fst (Prod.snd (Prod.snd (Prod.snd x181)))) : (List Int)))] : (List PyData))) fun x186 => some (enc (x186 : (List PyData)))) fun x187 => reprN x187) fun x188 => Option.bind (some x57) fun x189 => eqS x188 x189) fun x190 => some (x190, (Prod.snd (Prod.fst x45))))) fun r191 => some r191)))))))))
theorem V__law_right_v25 (a0 : (List Int)) (a1 : Int) (a2 : Int) : Fun F__law_right_v25 (n__law_right_v25 a0 a1 a2) [ow a0, .fz (enc a1), .fz (enc a2)] (fun r : (Bool × (List Int)) => .fz (enc ((Prod.fst r) : Bool))) fun r => [ow (Prod.snd r), .no, .no] :=
  fun_of (ΓR := fun r => [.eq (ow ((Prod.snd r) : (List Int))), .aa, .aa, .aa, .aa, .aa, .aa, .aa, .aa, .aa, .aa, .aa, .aa, .aa, .aa]) (show Bl B__law_right_v25 _ _ _ from (bl_ga [.eq (ow (a0 : (List Int))), .eq (.fz (enc (a1 : Int))), .eq (.fz (enc (a2 : Int))), .eq .no, .eq .no, .eq .no, .eq .no, .eq .no, .eq .no, .eq .no, .eq .no, .eq .no, .eq .no, .eq .no, .eq .no] (by kernel_rfl) (bl_par (ag_cons (((ev_callG (ag_io (k := 0) rfl rfl (ag_cons (((pu_var 1 rfl)).tkP).ev fun x1 => ag_nil)) (fun x3 => V__law_line (a0 : (List Int)) ((Prod.fst x3) : Int)))).tkT fun _ => ow_tree _) fun x5 => (ag_ga [.eq (ow ((Prod.snd (Prod.fst x5)) : (List Int))), .eq (.fz (enc (a1 : Int))), .eq (.fz (enc (a2 : Int))), .eq .no, .eq .no, .eq .no, .eq .no, .eq .no, .eq .no, .eq .no, .eq .no, .eq .no, .eq .no, .eq .no, .eq .no] (by kernel_rfl) (ag_cons (((ev_callG (ag_io (k := 0) rfl rfl (ag_cons (((pu_var 1 rfl)).tkP).ev fun x6 => ag_nil)) (fun x8 => V__law_line ((Prod.snd (Prod.fst x5)) : (List Int)) ((Prod.fst x8) : Int)))).tkT fun _ => ow_tree _) fun x10 => (ag_ga [.eq (ow ((Prod.snd (Prod.fst x10)) : (List Int))), .eq (.fz (enc (a1 : Int))), .eq (.fz (enc (a2 : Int))), .eq .no, .eq .no, .eq .no, .eq .no, .eq .no, .eq .no, .eq .no, .eq .no, .eq .no, .eq .no, .eq .no, .eq .no] (by kernel_rfl) ag_nil)))) fun x13 => (bl_ga [.eq (ow ((Prod.snd (Prod.fst (Prod.fst (Prod.snd x13)))) : (List Int))), .eq (.fz (enc (a1 : Int))), .eq (.fz (enc (a2 : Int))), .eq .no, .eq .no, .eq .no, .eq .no, .eq .no, .eq .no, .eq .no, .eq (.fz (enc ((Prod.fst (Prod.fst (Prod.fst x13))) : (List Int)))), .eq (.fz (enc ((Prod.fst (Prod.fst (Prod.fst (Prod.snd x13)))) : (List Int)))), .eq .no, .eq .no, .eq .no] (by kernel_rfl) (bl_asgV (((ev_lc (vs := [9]) (xs := fun x22 => (Prod.fst x22)) (s0 := fun x22 => ((Prod.snd (Prod.fst (Prod.snd x22))) : (List Int))) (ΓL := fun x22 s28 => [.eq (ow (s28 : (List Int))), .eq (.fz (enc (a1 : Int))), .eq (.fz (enc (a2 : Int))), .eq .no, .eq .no, .eq .no, .eq .no, .eq .no, .eq .no, .eq .no, .eq (.fz (enc ((Prod.fst (Prod.fst (Prod.fst x13))) : (List Int)))), .eq (.fz (enc ((Prod.fst (Prod.fst (Prod.fst (Prod.snd x13)))) : (List Int)))), .eq .no, .eq .no, .eq .no]) (Γ2 := fun x22 s28 x23 x34 => [.eq (ow ((Prod.snd x34) : (List Int))), .eq (.fz (enc (a1 : Int))), .eq (.fz (enc (a2 : Int))), .eq .no, .eq .no, .eq .no, .eq .no, .eq .no, .eq .no, .eq (.fz (enc (x23 : Int))), .eq (.fz (enc ((Prod.fst (Prod.fst (Prod.fst x13))) : (List Int)))), .eq (.fz (enc ((Prod.fst (Prod.fst (Prod.fst (Prod.snd x13)))) : (List Int)))), .eq .no, .eq .no, .eq .no]) (it_rng1 (n := fun x20 => (Prod.fst (Prod.fst x20))) ((ev_callG (ag_io (k := 0) rfl rfl (ag_cons (((pu2 Nv.op_add ((pu_var 2 rfl)).rd (pu_c).rd)).tkP).ev fun x16 => ag_nil)) (fun x18 => V__law_coin ((Prod.snd (Prod.fst (Prod.fst (Prod.snd x13)))) : (List Int)) ((Prod.fst x18) : Int)))).tk) (fun x22 => (gale_ga [.eq (ow ((Prod.snd (Prod.fst (Prod.snd x22))) : (List Int))), .eq (.fz (enc (a1 : Int))), .eq (.fz (enc (a2 : Int))), .eq .no, .eq .no, .eq .no, .eq .no, .eq .no, .eq .no, .eq .no, .eq (.fz (enc ((Prod.fst (Prod.fst (Prod.fst x13))) : (List Int)))), .eq (.fz (enc ((Prod.fst (Prod.fst (Prod.fst (Prod.snd x13)))) : (List Int)))), .eq .no, .eq .no, .eq .no] (by kernel_rfl) (.cons .rfl (.cons .rfl (.cons .rfl (.cons .rfl (.cons .rfl (.cons .rfl (.cons .rfl (.cons .rfl (.cons .rfl (.cons .rfl (.cons .rfl (.cons .rfl (.cons .rfl (.cons .rfl (.cons .rfl .nil))))))))))))))))) (fun _ _ => rfl) (fun x22 s28 x23 => tg_n) (fun _ _ _ => ts_ok) (fun x22 s28 x23 => (ev_ga [.eq (ow (s28 : (List Int))), .eq (.fz (enc (a1 : Int))), .eq (.fz (enc (a2 : Int))), .eq .no, .eq .no, .eq .no, .eq .no, .eq .no, .eq .no, .eq (.fz (enc (x23 : Int))), .eq (.fz (enc ((Prod.fst (Prod.fst (Prod.fst x13))) : (List Int)))), .eq (.fz (enc ((Prod.fst (Prod.fst (Prod.fst (Prod.snd x13)))) : (List Int)))), .eq .no, .eq .no, .eq .no] (by kernel_rfl) (Ev.mapW (fun x33 => ((Prod.fst (Prod.fst x33)), (Prod.snd (Prod.fst x33)))) (((ev_callG (ag_io (k := 0) rfl rfl (ag_cons (((pu_var 1 rfl)).tkP).ev fun x29 => ag_nil)) (fun x31 => V__law_line (s28 : (List Int)) ((Prod.fst x31) : Int)))).tkT fun _ => ow_tree _) fun x33 => (gale_ga [.eq (ow ((Prod.snd (Prod.fst x33)) : (List Int))), .eq (.fz (enc (a1 : Int))), .eq (.fz (enc (a2 : Int))), .eq .no, .eq .no, .eq .no, .eq .no, .eq .no, .eq .no, .eq (.fz (enc (x23 : Int))), .eq (.fz (enc ((Prod.fst (Prod.fst (Prod.fst x13))) : (List Int)))), .eq (.fz (enc ((Prod.fst (Prod.fst (Prod.fst (Prod.snd x13)))) : (List Int)))), .eq .no, .eq .no, .eq .no] (by kernel_rfl) (.cons .rfl (.cons .rfl (.cons .rfl (.cons .rfl (.cons .rfl (.cons .rfl (.cons .rfl (.cons .rfl (.cons .rfl (.cons .rfl (.cons .rfl (.cons .rfl (.cons .rfl (.cons .rfl (.cons .rfl .nil))))))))))))))))))) fun _ _ _ _ => (gale_ga _ rfl (.cons .rfl (.cons .rfl (.cons .rfl (.cons .rfl (.cons .rfl (.cons .rfl (.cons .rfl (.cons .rfl (.cons .rfl (.cons .rfl (.cons .rfl (.cons .rfl (.cons .rfl (.cons .rfl (.cons .rfl .nil)))))))))))))))))).tkT fun _ => ow_tree _) fun x35 => (bl_ga [.eq (ow ((Prod.snd (Prod.fst x35)) : (List Int))), .eq (.fz (enc (a1 : Int))), .eq (.fz (enc (a2 : Int))), .eq (.fz (enc ((Prod.fst (Prod.fst x35)) : (List (List Int))))), .eq .no, .eq .no, .eq .no, .eq .no, .eq .no, .eq .no, .eq (.fz (enc ((Prod.fst (Prod.fst (Prod.fst x13))) : (List Int)))), .eq (.fz (enc ((Prod.fst (Prod.fst (Prod.fst (Prod.snd x13)))) : (List Int)))), .eq .no, .eq .no, .eq .no] (by kernel_rfl) (bl_asgV (((ev_lc (vs := [13]) (xs := fun x36 => x36) (s0 := fun x36 => ((Prod.snd (Prod.fst x35)) : (List Int))) (ΓL := fun x36 s40 => [.eq (ow (s40 : (List Int))), .eq (.fz (enc (a1 : Int))), .eq (.fz (enc (a2 : Int))), .eq (.fz (enc ((Prod.fst (Prod.fst x35)) : (List (List Int))))), .eq .no, .eq .no, .eq .no, .eq .no, .eq .no, .eq .no, .eq (.fz (enc ((Prod.fst (Prod.fst (Prod.fst x13))) : (List Int)))), .eq (.fz (enc ((Prod.fst (Prod.fst (Prod.fst (Prod.snd x13)))) : (List Int)))), .eq .no, .eq .no, .eq .no]) (Γ2 := fun x36 s40 x37 x44 => [.eq (ow ((Prod.snd x44) : (List Int))), .eq (.fz (enc (a1 : Int))), .eq (.fz (enc (a2 : Int))), .eq (.fz (enc ((Prod.fst (Prod.fst x35)) : (List (List Int))))), .eq .no, .eq .no, .eq .no, .eq .no, .eq .no, .eq .no, .eq (.fz (enc ((Prod.fst (Prod.fst (Prod.fst x13))) : (List Int)))), .eq (.fz (enc ((Prod.fst (Prod.fst (Prod.fst (Prod.snd x13)))) : (List Int)))), .eq .no, .eq (.fz (enc (x37 : (List Int)))), .eq .no]) ((ip_seq (xs := fun v => v) ((pu_var 3 rfl)).tkP)).it (fun x36 => (.cons .rfl (.cons .rfl (.cons .rfl (.cons .rfl (.cons .rfl (.cons .rfl (.cons .rfl (.cons .rfl (.cons .rfl (.cons .rfl (.cons .rfl (.cons .rfl (.cons .rfl (.cons .rfl (.cons .rfl .nil)))))))))))))))) (fun _ _ => rfl) (fun x36 s40 x37 => tg_n) (fun _ _ _ => ts_ok) (fun x36 s40 x37 => (ev_ga [.eq (ow (s40 : (List Int))), .eq (.fz (enc (a1 : Int))), .eq (.fz (enc (a2 : Int))), .eq (.fz (enc ((Prod.fst (Prod.fst x35)) : (List (List Int))))), .eq .no, .eq .no, .eq .no, .eq .no, .eq .no, .eq .no, .eq (.fz (enc ((Prod.fst (Prod.fst (Prod.fst x13))) : (List Int)))), .eq (.fz (enc ((Prod.fst (Prod.fst (Prod.fst (Prod.snd x13)))) : (List Int)))), .eq .no, .eq (.fz (enc (x37 : (List Int)))), .eq .no] (by kernel_rfl) (Ev.mapW (fun x43 => ((Prod.fst (Prod.fst x43)), (Prod.snd (Prod.fst x43)))) ((ev_callG (ag_io (k := 0) rfl rfl ag_nil) (fun x41 => V__law_many (s40 : (List Int))))).tk fun x43 => (gale_ga [.eq (ow ((Prod.snd (Prod.fst x43)) : (List Int))), .eq (.fz (enc (a1 : Int))), .eq (.fz (enc (a2 : Int))), .eq (.fz (enc ((Prod.fst (Prod.fst x35)) : (List (List Int))))), .eq .no, .eq .no, .eq .no, .eq .no, .eq .no, .eq .no, .eq (.fz (enc ((Prod.fst (Prod.fst (Prod.fst x13))) : (List Int)))), .eq (.fz (enc ((Prod.fst (Prod.fst (Prod.fst (Prod.snd x13)))) : (List Int)))), .eq .no, .eq (.fz (enc (x37 : (List Int)))), .eq .no] (by kernel_rfl) (.cons .rfl (.cons .rfl (.cons .rfl (.cons .rfl (.cons .rfl (.cons .rfl (.cons .rfl (.cons .rfl (.cons .rfl (.cons .rfl (.cons .rfl (.cons .rfl (.cons .rfl (.cons .rfl (.cons .rfl .nil))))))))))))))))))) fun _ _ _ _ => (gale_ga _ rfl (.cons .rfl (.cons .rfl (.cons .rfl (.cons .rfl (.cons .rfl (.cons .rfl (.cons .rfl (.cons .rfl (.cons .rfl (.cons .rfl (.cons .rfl (.cons .rfl (.cons .rfl (.cons .rfl (.cons .rfl .nil)))))))))))))))))).tkT fun _ => ow_tree _) fun x45 => (bl_ga [.eq (ow ((Prod.snd (Prod.fst x45)) : (List Int))), .eq (.fz (enc (a1 : Int))), .eq (.fz (enc (a2 : Int))), .eq (.fz (enc ((Prod.fst (Prod.fst x35)) : (List (List Int))))), .eq (.fz (enc ((Prod.fst (Prod.fst x45)) : (List Int)))), .eq .no, .eq .no, .eq .no, .eq .no, .eq .no, .eq (.fz (enc ((Prod.fst (Prod.fst (Prod.fst x13))) : (List Int)))), .eq (.fz (enc ((Prod.fst (Prod.fst (Prod.fst (Prod.snd x13)))) : (List Int)))), .eq .no, .eq .no, .eq .no] (by kernel_rfl) (bl_asgV (((pu1A Nv.op_repr ((Rd.any (((pu_lst (dp_cons ((pu_var 10 rfl)).tkP (dp_cons ((pu_var 11 rfl)).tkP (dp_cons ((pu_var 3 rfl)).tkP (dp_cons ((pu_var 4 rfl)).tkP dp_nil)))) (fun x50 => ([(enc ((Prod.fst x50) : (List Int))), (enc ((Prod.fst (Prod.snd x50)) : (List Int))), (enc ((Prod.fst (Prod.snd (Prod.snd x50))) : (List (List Int)))), (enc ((Prod.fst (Prod.snd (Prod.snd (Prod.snd x50)))) : (List Int)))] : (List PyData))))).rdT ow_tree))).ra)).tkP).ev fun x57 => (bl_ga [.eq (ow ((Prod.snd (Prod.fst x45)) : (List Int))), .eq (.fz (enc (a1 : Int))), .eq (.fz (enc (a2 : Int))), .eq (.fz (enc ((Prod.fst (Prod.fst x35)) : (List (List Int))))), .eq (.fz (enc ((Prod.fst (Prod.fst x45)) : (List Int)))), .eq (.fz (enc (x57 : Str))), .eq .no, .eq .no, .eq .no, .eq .no, .eq (.fz (enc ((Prod.fst (Prod.fst (Prod.fst x13))) : (List Int)))), .eq (.fz (enc ((Prod.fst (Prod.fst (Prod.fst (Prod.snd x13)))) : (List Int)))), .eq .no, .eq .no, .eq .no] (by kernel_rfl) (bl_asgV ((((pu_lst (dp_cons ((pu_call (ap_cons ((pu_var 1 rfl)).tkP (ap_cons ((pu_var 10 rfl)).tkP ap_nil)) (fun x62 => V_show_ballot ((Prod.fst x62) : Int) ((Prod.fst (Prod.snd x62)) : (List Int))))).tkP (dp_cons ((pu_call (ap_cons ((pu_var 11 rfl)).tkP ap_nil) (fun x66 => V_show_line ((Prod.fst x66) : (List Int))))).tkP (dp_cons ((pu_call (ap_cons ((pu_var 1 rfl)).tkP (ap_cons ((pu_var 3 rfl)).tkP (ap_cons ((pu_var 4 rfl)).tkP ap_nil))) (fun x74 => V_show_ballots ((Prod.fst x74) : Int) ((Prod.fst (Prod.snd x74)) : (List (List Int))) ((Prod.fst (Prod.snd (Prod.snd x74))) : (List Int))))).tkP dp_nil))) (fun x76 => ([(Prod.fst x76), (Prod.fst (Prod.snd x76)), (Prod.fst (Prod.snd (Prod.snd x76)))] : (List Str))))).tkTP ow_tree)).ev fun x80 => (bl_ga [.eq (ow ((Prod.snd (Prod.fst x45)) : (List Int))), .eq (.fz (enc (a1 : Int))), .eq (.fz (enc (a2 : Int))), .eq (.fz (enc ((Prod.fst (Prod.fst x35)) : (List (List Int))))), .eq (.fz (enc ((Prod.fst (Prod.fst x45)) : (List Int)))), .eq (.fz (enc (x57 : Str))), .eq (.fz (enc (x80 : (List Str)))), .eq .no, .eq .no, .eq .no, .eq (.fz (enc ((Prod.fst (Prod.fst (Prod.fst x13))) : (List Int)))), .eq (.fz (enc ((Prod.fst (Prod.fst (Prod.fst (Prod.snd x13)))) : (List Int)))), .eq .no, .eq .no, .eq .no] (by kernel_rfl) (bl_asgV ((((pu_lc (vs := [13, 14]) (ip_zip (xs := fun v => v) (ys := fun v => v) ((pu_var 3 rfl)).tkP ((pu_var 4 rfl)).tkP) rfl rfl (fun x83 x84 => (tg_t (tgs_cons tg_n (tgs_cons tg_n tgs_nil)))) (fun x83 x84 => (ts_ga [.eq (ow ((Prod.snd (Prod.fst x45)) : (List Int))), .eq (.fz (enc (a1 : Int))), .eq (.fz (enc (a2 : Int))), .eq (.fz (enc ((Prod.fst (Prod.fst x35)) : (List (List Int))))), .eq (.fz (enc ((Prod.fst (Prod.fst x45)) : (List Int)))), .eq (.fz (enc (x57 : Str))), .eq (.fz (enc (x80 : (List Str)))), .eq .no, .eq .no, .eq .no, .eq (.fz (enc ((Prod.fst (Prod.fst (Prod.fst x13))) : (List Int)))), .eq (.fz (enc ((Prod.fst (Prod.fst (Prod.fst (Prod.snd x13)))) : (List Int)))), .eq .no, .eq (.fz (enc ((Prod.fst x84) : (List Int)))), .eq (.fz (enc ((Prod.snd x84) : Int)))] (by kernel_rfl) ts_ok)) fun x83 x84 => (pu_ga [.eq (ow ((Prod.snd (Prod.fst x45)) : (List Int))), .eq (.fz (enc (a1 : Int))), .eq (.fz (enc (a2 : Int))), .eq (.fz (enc ((Prod.fst (Prod.fst x35)) : (List (List Int))))), .eq (.fz (enc ((Prod.fst (Prod.fst x45)) : (List Int)))), .eq (.fz (enc (x57 : Str))), .eq (.fz (enc (x80 : (List Str)))), .eq .no, .eq .no, .eq .no, .eq (.fz (enc ((Prod.fst (Prod.fst (Prod.fst x13))) : (List Int)))), .eq (.fz (enc ((Prod.fst (Prod.fst (Prod.fst (Prod.snd x13)))) : (List Int)))), .eq .no, .eq (.fz (enc ((Prod.fst x84) : (List Int)))), .eq (.fz (enc ((Prod.snd x84) : Int)))] (by kernel_rfl) ((pu2 Nv.op_catS ((pu2 Nv.op_catS ((pu1A Nv.op_strI (((pu_var 14 rfl)).rd).ra)).rd (pu_c).rd)).rd ((pu_call (ap_cons pu_c (ap_cons ((pu_var 13 rfl)).tkP ap_nil)) (fun x92 => V__law_joined ((Prod.fst x92) : Str) ((Prod.fst (Prod.snd x92)) : (List Int))))).rd)).tkP))).tkTP ow_tree)).ev fun x95 => (bl_ga [.eq (ow ((Prod.snd (Prod.fst x45)) : (List Int))), .eq (.fz (enc (a1 : Int))), .eq (.fz (enc (a2 : Int))), .eq (.fz (enc ((Prod.fst (Prod.fst x35)) : (List (List Int))))), .eq (.fz (enc ((Prod.fst (Prod.fst x45)) : (List Int)))), .eq (.fz (enc (x57 : Str))), .eq (.fz (enc (x80 : (List Str)))), .eq (.fz (enc (x95 : (List Str)))), .eq .no, .eq .no, .eq (.fz (enc ((Prod.fst (Prod.fst (Prod.fst x13))) : (List Int)))), .eq (.fz (enc ((Prod.fst (Prod.fst (Prod.fst (Prod.snd x13)))) : (List Int)))), .eq .no, .eq .no, .eq .no] (by kernel_rfl) (bl_if (k := fun x116 => x116) ((ts_tst (pu2A Nv.op_neLS (((pu_var 6 rfl)).rd).ra ((((pu_lst (dp_cons ((pu_call (ap_cons pu_c (ap_cons ((pu_var 10 rfl)).tkP ap_nil)) (fun x100 => V__law_joined ((Prod.fst x100) : Str) ((Prod.fst (Prod.snd x100)) : (List Int))))).tkP (dp_cons ((pu_call (ap_cons pu_c (ap_cons ((pu_var 11 rfl)).tkP ap_nil)) (fun x106 => V__law_joined ((Prod.fst x106) : Str) ((Prod.fst (Prod.snd x106)) : (List Int))))).tkP (dp_cons ((pu1 (Nv.op_join (a := ("
" : Str))) ((pu_var 7 rfl)).rd)).tkP dp_nil))) (fun x110 => ([(Prod.fst x110), (Prod.fst (Prod.snd x110)), (Prod.fst (Prod.snd (Prod.snd x110)))] : (List Str))))).rdT ow_tree)).ra))).te' (fun x116 => (bl_retS (bl_retV (pu_c).ev fun x117 => (rf_eq rfl (.cons .rfl (.cons .aa (.cons .aa (.cons .aa (.cons .aa (.cons .aa (.cons .aa (.cons .aa (.cons .aa (.cons .aa (.cons .aa (.cons .aa (.cons .aa (.cons .aa (.cons .aa .nil))))))))))))))))))) fun x116 => (bl_next (bl_asgV (((pu1A Nv.op_repr ((Rd.any (((pu_lst (dp_cons ((pu_var 10 rfl)).tkP (dp_cons ((pu_var 11 rfl)).tkP (dp_cons ((pu_tup (dp_cons ((pu_var 3 rfl)).tkP (dp_cons ((pu_var 4 rfl)).tkP dp_nil)) (fun x122 => (((Prod.fst x122), (Prod.fst (Prod.snd x122))) : ((List (List Int)) × (List Int)))))).tkP dp_nil))) (fun x126 => ([(enc ((Prod.fst x126) : (List Int))), (enc ((Prod.fst (Prod.snd x126)) : (List Int))), (enc ((Prod.fst (Prod.snd (Prod.snd x126))) : ((List (List Int)) × (List Int))))] : (List PyData))))).rdT ow_tree))).ra)).tkP).ev fun x132 => (bl_ga [.eq (ow ((Prod.snd (Prod.fst x45)) : (List Int))), .eq (.fz (enc (a1 : Int))), .eq (.fz (enc (a2 : Int))), .eq (.fz (enc ((Prod.fst (Prod.fst x35)) : (List (List Int))))), .eq (.fz (enc ((Prod.fst (Prod.fst x45)) : (List Int)))), .eq (.fz (enc (x57 : Str))), .eq (.fz (enc (x80 : (List Str)))), .eq (.fz (enc (x95 : (List Str)))), .eq (.fz (enc (x132 : Str))), .eq .no, .eq (.fz (enc ((Prod.fst (Prod.fst (Prod.fst x13))) : (List Int)))), .eq (.fz (enc ((Prod.fst (Prod.fst (Prod.fst (Prod.snd x13)))) : (List Int)))), .eq .no, .eq .no, .eq .no] (by kernel_rfl) (bl_forF (Q := (RF (ρ := (Bool × (List Int))) (fun r => .eq (.fz (enc ((Prod.fst r) : Bool)))) fun r => [.eq (ow ((Prod.snd r) : (List Int))), .aa, .aa, .aa, .aa, .aa, .aa, .aa, .aa, .aa, .aa, .aa, .aa, .aa, .aa])) (vs := [9]) (xs := fun x134 => x134) (s0 := fun x134 => (() : Unit)) (ΓL := fun x134 (s136 : Unit) => [.eq (ow ((Prod.snd (Prod.fst x45)) : (List Int))), .eq (.fz (enc (a1 : Int))), .eq (.fz (enc (a2 : Int))), .eq (.fz (enc ((Prod.fst (Prod.fst x35)) : (List (List Int))))), .eq (.fz (enc ((Prod.fst (Prod.fst x45)) : (List Int)))), .eq (.fz (enc (x57 : Str))), .eq (.fz (enc (x80 : (List Str)))), .eq (.fz (enc (x95 : (List Str)))), .eq (.fz (enc (x132 : Str))), .pl, .eq (.fz (enc ((Prod.fst (Prod.fst (Prod.fst x13))) : (List Int)))), .eq (.fz (enc ((Prod.fst (Prod.fst (Prod.fst (Prod.snd x13)))) : (List Int)))), .pl, .eq .no, .eq .no]) (kr := fun r191 => some r191) ((ip_rng1 (pu_c).tkP)).it (fun x134 => (.cons .rfl (.cons .rfl (.cons .rfl (.cons .rfl (.cons .rfl (.cons .rfl (.cons .rfl (.cons .rfl (.cons .rfl (.cons .no (.cons .rfl (.cons .rfl (.cons .no (.cons .rfl (.cons .rfl .nil)))))))))))))))) (fun x134 s136 x135 => tg_n) (fun x134 s136 x135 => (bl_ga [.eq (ow ((Prod.snd (Prod.fst x45)) : (List Int))), .eq (.fz (enc (a1 : Int))), .eq (.fz (enc (a2 : Int))), .eq (.fz (enc ((Prod.fst (Prod.fst x35)) : (List (List Int))))), .eq (.fz (enc ((Prod.fst (Prod.fst x45)) : (List Int)))), .eq (.fz (enc (x57 : Str))), .eq (.fz (enc (x80 : (List Str)))), .eq (.fz (enc (x95 : (List Str)))), .eq (.fz (enc (x132 : Str))), .eq (.fz (enc (x135 : Int))), .eq (.fz (enc ((Prod.fst (Prod.fst (Prod.fst x13))) : (List Int)))), .eq (.fz (enc ((Prod.fst (Prod.fst (Prod.fst (Prod.snd x13)))) : (List Int)))), .pl, .eq .no, .eq .no] (by kernel_rfl) (bl_told (it := 6) (ic := 1) (iz := 8) (ix := 12) (ir := 13) (w := ("?" : Str)) rfl rfl rfl (show 12 < 15 by decide) (show 13 < 15 by decide) (ev_ga [.eq .no, .eq (.fz (enc (a1 : Int))), .eq .no, .eq .no, .eq .no, .eq .no, .eq (.fz (enc (x80 : (List Str)))), .eq .no, .eq .no, .eq .no, .eq .no, .eq .no, .eq .no, .eq .no, .eq .no] (by kernel_rfl) ((pu_call (ap_cons ((pu_var 1 rfl)).tkP (ap_cons ((pu2 Nv.op_ix2 ((pu_var 6 rfl)).rd (pu_c).rd)).tkP ap_nil)) (fun x143 => V_read_ballot ((Prod.fst x143) : Int) ((Prod.fst (Prod.snd x143)) : Str)))).ev) (ev_ga [.eq .no, .eq (.fz (enc (a1 : Int))), .eq .no, .eq .no, .eq .no, .eq .no, .eq (.fz (enc (x80 : (List Str)))), .eq .no, .eq .no, .eq .no, .eq .no, .eq .no, .eq .no, .eq .no, .eq .no] (by kernel_rfl) ((pu_call (ap_cons ((pu_var 1 rfl)).tkP (ap_cons ((pu2 Nv.op_ix2 ((pu_var 6 rfl)).rd (pu_c).rd)).tkP ap_nil)) (fun x150 => V_read_line ((Prod.fst x150) : Int) ((Prod.fst (Prod.snd x150)) : Str)))).ev) (fun x153 x154 x156 => pairF_of (V_read_ballots_b a1 x153) (fun _ => rfl) (fun _ => rfl) x156 (flat_oo _) (flat_o _)) (sat_ga [.eq (ow ((Prod.snd (Prod.fst x45)) : (List Int))), .eq (.fz (enc (a1 : Int))), .eq (.fz (enc (a2 : Int))), .eq (.fz (enc ((Prod.fst (Prod.fst x35)) : (List (List Int))))), .eq (.fz (enc ((Prod.fst (Prod.fst x45)) : (List Int)))), .eq (.fz (enc (x57 : Str))), .eq (.fz (enc (x80 : (List Str)))), .eq (.fz (enc (x95 : (List Str)))), .eq (.fz (enc (x132 : Str))), .eq (.fz (enc (x135 : Int))), .eq (.fz (enc ((Prod.fst (Prod.fst (Prod.fst x13))) : (List Int)))), .eq (.fz (enc ((Prod.fst (Prod.fst (Prod.fst (Prod.snd x13)))) : (List Int)))), .eq .no, .eq .no, .eq .no] (by kernel_rfl) (rl_rt (rf_eq rfl (.cons .rfl (.cons .aa (.cons .aa (.cons .aa (.cons .aa (.cons .aa (.cons .aa (.cons .aa (.cons .aa (.cons .aa (.cons .aa (.cons .aa (.cons .aa (.cons .aa (.cons .aa .nil)))))))))))))))))) (fun x155 => (bl_ga [.eq (ow ((Prod.snd (Prod.fst x45)) : (List Int))), .eq (.fz (enc (a1 : Int))), .eq (.fz (enc (a2 : Int))), .eq (.fz (enc ((Prod.fst (Prod.fst x35)) : (List (List Int))))), .eq (.fz (enc ((Prod.fst (Prod.fst x45)) : (List Int)))), .eq (.fz (enc (x57 : Str))), .eq (.fz (enc (x80 : (List Str)))), .eq (.fz (enc (x95 : (List Str)))), .eq (.fz (enc (x132 : Str))), .eq (.fz (enc (x135 : Int))), .eq (.fz (enc ((Prod.fst (Prod.fst (Prod.fst x13))) : (List Int)))), .eq (.fz (enc ((Prod.fst (Prod.fst (Prod.fst (Prod.snd x13)))) : (List Int)))), .eq (.fz (enc ((Prod.snd x155) : (List PyData)))), .eq .no, .eq .no] (by kernel_rfl) (bl_last (bl_if (k := fun x175 => x175) ((ts_tst (pu_eqE ((((pu_lc (vs := [13]) (ip_seq (xs := fun v => v) (((pu_sl ((Pu.asL (pu2 Nv.op_ixA ((pu2 Nv.op_ix2 ((pu_var 12 rfl)).rd (pu_c).rd)).rd (pu_c).rd))).rd .no (.yes ((pu1 Nv.op_neg (pu_c).rd)).rd))).tkTP ow_tree)) rfl rfl (fun x167 x168 => tg_n) (fun x167 x168 => (ts_ga [.eq (ow ((Prod.snd (Prod.fst x45)) : (List Int))), .eq (.fz (enc (a1 : Int))), .eq (.fz (enc (a2 : Int))), .eq (.fz (enc ((Prod.fst (Prod.fst x35)) : (List (List Int))))), .eq (.fz (enc ((Prod.fst (Prod.fst x45)) : (List Int)))), .eq (.fz (enc (x57 : Str))), .eq (.fz (enc (x80 : (List Str)))), .eq (.fz (enc (x95 : (List Str)))), .eq (.fz (enc (x132 : Str))), .eq (.fz (enc (x135 : Int))), .eq (.fz (enc ((Prod.fst (Prod.fst (Prod.fst x13))) : (List Int)))), .eq (.fz (enc ((Prod.fst (Prod.fst (Prod.fst (Prod.snd x13)))) : (List Int)))), .eq (.fz (enc ((Prod.snd x155) : (List PyData)))), .eq (.fz (enc (x168 : PyData))), .eq .no] (by kernel_rfl) (ts_tst (pu2A Nv.op_ne (((pu1A Nv.op_lenA (((pu_var 13 rfl)).rd).ra)).rd).ra (((pu2 Nv.op_add ((pu_var 1 rfl)).rd (pu_c).rd)).rd).ra)))) fun x167 x168 => (pu_ga [.eq (ow ((Prod.snd (Prod.fst x45)) : (List Int))), .eq (.fz (enc (a1 : Int))), .eq (.fz (enc (a2 : Int))), .eq (.fz (enc ((Prod.fst (Prod.fst x35)) : (List (List Int))))), .eq (.fz (enc ((Prod.fst (Prod.fst x45)) : (List Int)))), .eq (.fz (enc (x57 : Str))), .eq (.fz (enc (x80 : (List Str)))), .eq (.fz (enc (x95 : (List Str)))), .eq (.fz (enc (x132 : Str))), .eq (.fz (enc (x135 : Int))), .eq (.fz (enc ((Prod.fst (Prod.fst (Prod.fst x13))) : (List Int)))), .eq (.fz (enc ((Prod.fst (Prod.fst (Prod.fst (Prod.snd x13)))) : (List Int)))), .eq (.fz (enc ((Prod.snd x155) : (List PyData)))), .eq (.fz (enc (x168 : PyData))), .eq .no] (by kernel_rfl) (pu_c).tkP))).rdT ow_tree)).ra))).te' (fun x175 => (bl_retS (bl_retV (pu_c).ev fun x176 => (rl_rt (rf_eq rfl (.cons .rfl (.cons .aa (.cons .aa (.cons .aa (.cons .aa (.cons .aa (.cons .aa (.cons .aa (.cons .aa (.cons .aa (.cons .aa (.cons .aa (.cons .aa (.cons .aa (.cons .aa .nil)))))))))))))))))))) fun x175 => (bl_next (bl_end (rl_nx (.cons .rfl (.cons .rfl (.cons .rfl (.cons .rfl (.cons .rfl (.cons .rfl (.cons .rfl (.cons .rfl (.cons .rfl (.cons .fz (.cons .rfl (.cons .rfl (.cons .fz (.cons .rfl (.cons .rfl .nil))))))))))))))))))))))))) (fun v z u d hz h => by cases (Option.some.inj hz); exact h) fun x134 s136 => (bl_retV ((pu2 Nv.op_eqS ((pu1A Nv.op_repr ((Rd.any (((pu_lst (dp_cons ((pu_var 10 rfl)).tkP (dp_cons ((pu_var 11 rfl)).tkP (dp_cons ((pu_var 3 rfl)).tkP (dp_cons ((pu_var 4 rfl)).tkP dp_nil)))) (fun x181 => ([(enc ((Prod.fst x181) : (List Int))), (enc ((Prod.fst (Prod.snd x181)) : (List Int))), (enc ((Prod.fst (Prod.snd (Prod.snd x181))) : (List (List Int)))), (enc ((Prod.fst (Prod.snd (Prod.snd (Prod.snd x181)))) : (List Int)))] : (List PyData))))).rdT ow_tree))).ra)).rd ((pu_var 5 rfl)).rd)).ev fun x190 => (rf_eq rfl (.cons .rfl (.cons .aa (.cons .aa (.cons .aa (.cons .aa (.cons .aa (.cons .aa (.cons .aa (.cons .aa (.cons .aa (.cons .aa (.cons .aa (.cons .aa (.cons .aa (.cons .aa .nil))))))))))))))))))))))))))))))))))))
end P
namespace P
open PySem PySem.Spec PyProof.Rows L2 Hb Nv
open Enc (enc)
def B_law_v26 : List Sl → Ot :=
    oSeq (oFor (wRng1 (s2 gMax2 (sC (.int 1)) (s2 gMin2 (sC (.int 5)) (s1 (gRd lenD) (sVar 0))))) (tgN 1) (oSeq (oAsg (sCall F__law_purse [] (rCons (sTk (sVar 0)) (rCons (sTk (sVar 1)) (rNil)))) (tgN 4))
    (oFor (wSeq (sLst (lCons (sTup (lCons (sC (.int 1)) (lCons (sC (.int 3)) (lNil)))) (lCons (sTup (lCons (sC (.int 2)) (lCons (sC (.int 6)) (lNil)))) (lCons (sTup (lCons (sC (.int 5)) (lCons (sC (.int 9)) (lNil)))) (lCons (sTup (lCons (sC (.int 12)) (lCons (sC (.int 40)) (lNil)))) (lCons (sTup (lCons (sC (.int 10)) (lCons (sC (.int 3)) (lNil)))) (lNil)))))))) (tgT 2 (tgCons (tgN 5) (tgCons (tgN 6) (tgNil)))) (oIf (sNot (sTru (sCall F__law_right_v25 [] (rIo 4 (rCons (sTk (sVar 5)) (rCons (sTk (sVar 6)) (rNil))))))) (oRet (sC (.bool false))) (oNext)))))
    (oSeq (oAsg (sTk (sLc false (wRng1 (sC (.int 40))) [7] (tgN 7) (tOk) (sTk (s1 gRg1 (sC (.int 12)))))) (tgN 2))
    (oSeq (oAsg (sTk (sCall F_read_ballots [] (rCons (sC (.int 12)) (rCons (sTk (sCall F_show_ballots [] (rCons (sC (.int 12)) (rCons (sTk (sVar 2)) (rCons (sTk (s2 gMulX (sLst (lCons (s2 gPowW (sC (.int 10)) (sC (.int 30))) (lNil))) (sC (.int 40)))) (rNil)))))) (rNil))))) (tgN 3))
    (oRet (sAndV (s2 gEq (sVar 3) (sTup (lCons (sVar 2) (lCons (s2 gMulX (sLst (lCons (s2 gPowW (sC (.int 10)) (sC (.int 30))) (lNil))) (sC (.int 40))) (lNil))))) (sAndV (s2 (gEqS false) (sCall F_show_ballots [] (rCons (sC (.int 4)) (rCons (sTk (sLst (lNil))) (rCons (sTk (sLst (lNil))) (rNil))))) (sC (.str ""))) (s2 gEq (sCall F_read_ballots [] (rCons (sC (.int 4)) (rCons (sC (.str "")) (rNil)))) (sTup (lCons (sLst (lNil)) (lCons (sLst (lNil)) (lNil))))))))))
def F_law_v26 : List Sl → FR := fnRun 1 8 [] B_law_v26
def n_law_v26 (a0 : (List Int)) : Option (Bool) :=
    (Option.bind (Option.bind (Option.bind (some (1 : Int)) fun x4 => Option.bind (Option.bind (some (5 : Int)) fun x2 => Option.bind (Option.bind (some a0) fun x1 => lenL x1) fun x3 => minI2 x2 x3) fun x5 => maxI2 x4 x5) fun x6 => ri1 x6) fun x7 => Option.bind (forF (ρ := (Bool)) x7 (() : Unit) fun s9 x8 => (Option.bind (Option.bind (Option.bind (some a0) fun x10 => Option.bind (Option.bind (some x8) fun x11 => Option.bind (some ()) fun x12 => some (x11, x12)) fun x13 => some (x10, x13)) fun x14 => n__law_purse ((Prod.fst x14) : (List Int)) ((Prod.fst (Prod.snd x14)) : Int)) fun x15 => (Option.bind (Option.bind (Option.bind (Option.bind (Option.bind (some (1 : Int)) fun x16 => Option.bind (Option.bind (some (3 : Int)) fun x17 => Option.bind (some ()) fun x19 => some (x17, x19)) fun x20 => some (x16, x20)) fun x18 => some (((Prod.fst x18), (Prod.fst (Prod.snd x18))) : (Int × Int))) fun x21 => Option.bind (Option.bind (Option.bind (Option.bind (some (2 : Int)) fun x22 => Option.bind (Option.bind (some (6 : Int)) fun x23 => Option.bind (some ()) fun x25 => some (x23, x25)) fun x26 => some (x22, x26)) fun x24 => some (((Prod.fst x24), (Prod.fst (Prod.snd x24))) : (Int × Int))) fun x27 => Option.bind (Option.bind (Option.bind (Option.bind (some (5 : Int)) fun x28 => Option.bind (Option.bind (some (9 : Int)) fun x29 => Option.bind (some ()) fun x31 => some (x29, x31)) fun x32 => some (x28, x32)) fun x30 => some (((Prod.fst x30), (Prod.fst (Prod.snd x30))) : (Int × Int))) fun x33 => Option.bind (Option.bind (Option.bind (Option.bind (some (12 : Int)) fun x34 => Option.bind (Option.bind (some (40 : Int)) fun x35 => Option.bind (some ()) fun x37 => some (x35, x37)) fun x38 => some (x34, x38)) fun x36 => some (((Prod.fst x36), (Prod.fst (Prod.snd x36))) : (Int × Int))) fun x39 => Option.bind (Option.bind (Option.bind (Option.bind (some (10 : Int)) fun x40 => Option.bind (Option.bind (some (3 : Int)) fun x41 => Option.bind (some ()) fun x43 => some (x41, x43)) fun x44 => some (x40, x44)) fun x42 => some (((Prod.fst x42), (Prod.fst (Prod.snd x42))) : (Int × Int))) fun x45 => Option.bind (some ()) fun x47 => some (x45, x47)) fun x48 => some (x39, x48)) fun x49 => some (x33, x49)) fun x50 => some (x27, x50)) fun x51 => some (x21, x51)) fun x46 => some ([(Prod.fst x46), (Prod.fst (Prod.snd x46)), (Prod.fst (Prod.snd (Prod.snd x46))), (Prod.fst (Prod.snd (Prod.snd (Prod.snd x46)))), (Prod.fst (Prod.snd (Prod.snd (Prod.snd (Prod.snd x46)))))] : (List (Int × Int)))) fun x52 => Option.bind (forF (ρ := (Bool)) x52 (x15 : (List Int)) fun s54 x53 => (Option.bind (Option.bind (Option.bind (some (Prod.fst x53)) fun x55 => Option.bind (Option.bind (some (Prod.snd x53)) fun x56 => Option.bind (some ()) fun x57 => some (x56, x57)) fun x58 => some (x55, x58)) fun x59 => Option.bind (n__law_right_v25 (s54 : (List Int)) ((Prod.fst x59) : Int) ((Prod.fst (Prod.snd x59)) : Int)) fun x60 => some (x60, x59)) fun x63 => if (!(Prod.fst (Prod.fst x63))) = true then (Option.bind (some false) fun x64 => some (.rt x64)) else some (.nx ((Prod.snd (Prod.fst x63)) : (List Int))))) fun o66 => Fl.el o66 (fun s54 => some (.nx (() : Unit))) fun r65 => some (Fl.rt r65)))) fun o133 => Fl.el o133 (fun s9 => (Option.bind (Option.bind (Option.bind (some (40 : Int)) fun x67 => ri1 x67) fun x68 => if List.length (x68) ≤ cap then mapF x68 (fun x69 => (some true)) (fun x69 => (Option.bind (some (12 : Int)) fun x70 => rg1 x70)) else none) fun x71 => (Option.bind (Option.bind (Option.bind (some (12 : Int)) fun x72 => Option.bind (Option.bind (Option.bind (Option.bind (some (12 : Int)) fun x73 => Option.bind (Option.bind (some x71) fun x74 => Option.bind (Option.bind (Option.bind (Option.bind (Option.bind (Option.bind (some (10 : Int)) fun x75 => Option.bind (some (30 : Int)) fun x76 => powW x75 x76) fun x77 => Option.bind (some ()) fun x79 => some (x77, x79)) fun x78 => some ([(Prod.fst x78)] : (List Int))) fun x80 => Option.bind (some (40 : Int)) fun x81 => repL x80 x81) fun x82 => Option.bind (some ()) fun x83 => some (x82, x83)) fun x84 => some (x74, x84)) fun x85 => some (x73, x85)) fun x86 => n_show_ballots ((Prod.fst x86) : Int) ((Prod.fst (Prod.snd x86)) : (List (List Int))) ((Prod.fst (Prod.snd (Prod.snd x86))) : (List Int))) fun x87 => Option.bind (some ()) fun x88 => some (x87, x88)) fun x89 => some (x72, x89)) fun x90 => n_read_ballots ((Prod.fst x90) : Int) ((Prod.fst (Prod.snd x90)) : Str)) fun x91 => (Option.bind (Option.bind (Option.bind (Option.bind (some x91) fun x104 => some (enc (x104 : ((List (List (Option Int))) × (List (Option Int)))))) fun x106 => Option.bind (Option.bind (Option.bind (Option.bind (some x71) fun x92 => Option.bind (Option.bind (Option.bind (Option.bind (Option.bind (Option.bind (some (10 : Int)) fun x93 => Option.bind (some (30 : Int)) fun x94 => powW x93 x94) fun x95 => Option.bind (some ()) fun x97 => some (x95, x97)) fun x96 => some ([(Prod.fst x96)] : (List Int))) fun x98 => Option.bind (some (40 : Int)) fun x99 => repL x98 x99) fun x100 => Option.bind (some ()) fun x102 => some (x100, x102)) fun x103 => some (x92, x103)) fun x101 => some (((Prod.fst x101), (Prod.fst (Prod.snd x101))) : ((List (List Int)) × (List Int)))) fun x105 => some (enc (x105 : ((List (List Int)) × (List Int))))) fun x107 => eqA x106 x107) fun x130 => if x130 = true then (Option.bind (Option.bind (Option.bind (Option.bind (some (4 : Int)) fun x108 => Option.bind (Option.bind (some []) fun x109 => Option.bind (Option.bind (some []) fun x110 => Option.bind (some ()) fun x111 => some (x110, x111)) fun x112 => some (x109, x112)) fun x113 => some (x108, x113)) fun x114 => n_show_ballots ((Prod.fst x114) : Int) ((Prod.fst (Prod.snd x114)) : (List (List Int))) ((Prod.fst (Prod.snd (Prod.snd x114))) : (List Int))) fun x115 => Option.bind (some ("" : Str)) fun x116 => eqS x115 x116) fun x129 => if x129 = true then (Option.bind (Option.bind (Option.bind (some (4 : Int)) fun x117 => Option.bind (Option.bind (some ("" : Str)) fun x118 => Option.bind (some ()) fun x119 => some (x118, x119)) fun x120 => some (x117, x120)) fun x121 => n_read_ballots ((Prod.fst x121) : Int) ((Prod.fst (Prod.snd x121)) : Str)) fun x127 => Option.bind (Option.bind (Option.bind (some []) fun x122 => Option.bind (Option.bind (some []) fun x123 => Option.bind (some ()) fun x125 => some (x123, x125)) fun x126 => some (x122, x126)) fun x124 => some (((Prod.fst x124), (Prod.fst (Prod.snd x124))) : ((List (List (Option Int))) × (List (Option Int))))) fun x128 => eqN x127 x128) else some false) else some false) fun x131 => some x131)))) fun r132 => some r132)
theorem V_law_v26 (a0 : (List Int)) : Fun F_law_v26 (n_law_v26 a0) [.fz (enc a0)] (fun r : (Bool) => .fz (enc (r : Bool))) fun r => [.no] :=
  fun_of (ΓR := fun r => [.aa, .aa, .aa, .aa, .aa, .aa, .aa, .aa]) (show Bl B_law_v26 _ _ _ from (bl_ga [.eq (.fz (enc (a0 : (List Int)))), .eq .no, .eq .no, .eq .no, .eq .no, .eq .no, .eq .no, .eq .no] (by kernel_rfl) (bl_forF (Q := (RF (ρ := (Bool)) (fun r => .eq (.fz (enc (r : Bool)))) fun r => [.aa, .aa, .aa, .aa, .aa, .aa, .aa, .aa])) (vs := [1]) (xs := fun x7 => x7) (s0 := fun x7 => (() : Unit)) (ΓL := fun x7 (s9 : Unit) => [.eq (.fz (enc (a0 : (List Int)))), .pl, .eq .no, .eq .no, .any, .pl, .pl, .eq .no]) (kr := fun r132 => some r132) ((ip_rng1 ((pu2 Nv.op_max2 (pu_c).rd ((pu2 Nv.op_min2 (pu_c).rd ((pu1A Nv.op_len (((pu_var 0 rfl)).rd).ra)).rd)).rd)).tkP)).it (fun x7 => (.cons .rfl (.cons .no (.cons .rfl (.cons .rfl (.cons (.any rfl) (.cons .no (.cons .no (.cons .rfl .nil))))))))) (fun x7 s9 x8 => tg_n) (fun x7 s9 x8 => (bl_ga [.eq (.fz (enc (a0 : (List Int)))), .eq (.fz (enc (x8 : Int))), .eq .no, .eq .no, .any, .pl, .pl, .eq .no] (by kernel_rfl) (bl_asgT ((pu_call (ap_cons ((pu_var 0 rfl)).tkP (ap_cons ((pu_var 1 rfl)).tkP ap_nil)) (fun x14 => V__law_purse ((Prod.fst x14) : (List Int)) ((Prod.fst (Prod.snd x14)) : Int)))).ev fun x15 => (bl_ga [.eq (.fz (enc (a0 : (List Int)))), .eq (.fz (enc (x8 : Int))), .eq .no, .eq .no, .eq (ow (x15 : (List Int))), .pl, .pl, .eq .no] (by kernel_rfl) (bl_last (bl_forF (Q := (RF (ρ := (Bool)) (fun r => .eq (.fz (enc (r : Bool)))) fun r => [.aa, .aa, .aa, .aa, .aa, .aa, .aa, .aa])) (vs := [5, 6]) (xs := fun x52 => x52) (s0 := fun x52 => (x15 : (List Int))) (ΓL := fun x52 (s54 : (List Int)) => [.eq (.fz (enc (a0 : (List Int)))), .eq (.fz (enc (x8 : Int))), .eq .no, .eq .no, .eq (ow (s54 : (List Int))), .pl, .pl, .eq .no]) (kr := fun r65 => some (Fl.rt r65)) ((ip_seq (xs := fun v => v) (((pu_lst (dp_cons ((pu_tup (dp_cons (pu_c).tkP (dp_cons (pu_c).tkP dp_nil)) (fun x18 => (((Prod.fst x18), (Prod.fst (Prod.snd x18))) : (Int × Int))))).tkP (dp_cons ((pu_tup (dp_cons (pu_c).tkP (dp_cons (pu_c).tkP dp_nil)) (fun x24 => (((Prod.fst x24), (Prod.fst (Prod.snd x24))) : (Int × Int))))).tkP (dp_cons ((pu_tup (dp_cons (pu_c).tkP (dp_cons (pu_c).tkP dp_nil)) (fun x30 => (((Prod.fst x30), (Prod.fst (Prod.snd x30))) : (Int × Int))))).tkP (dp_cons ((pu_tup (dp_cons (pu_c).tkP (dp_cons (pu_c).tkP dp_nil)) (fun x36 => (((Prod.fst x36), (Prod.fst (Prod.snd x36))) : (Int × Int))))).tkP (dp_cons ((pu_tup (dp_cons (pu_c).tkP (dp_cons (pu_c).tkP dp_nil)) (fun x42 => (((Prod.fst x42), (Prod.fst (Prod.snd x42))) : (Int × Int))))).tkP dp_nil))))) (fun x46 => ([(Prod.fst x46), (Prod.fst (Prod.snd x46)), (Prod.fst (Prod.snd (Prod.snd x46))), (Prod.fst (Prod.snd (Prod.snd (Prod.snd x46)))), (Prod.fst (Prod.snd (Prod.snd (Prod.snd (Prod.snd x46)))))] : (List (Int × Int)))))).tkTP ow_tree))).it (fun x52 => (.cons .rfl (.cons .rfl (.cons .rfl (.cons .rfl (.cons .rfl (.cons .rfl (.cons .rfl (.cons .rfl .nil))))))))) (fun x52 s54 x53 => (tg_t (tgs_cons tg_n (tgs_cons tg_n tgs_nil)))) (fun x52 s54 x53 => (bl_ga [.eq (.fz (enc (a0 : (List Int)))), .eq (.fz (enc (x8 : Int))), .eq .no, .eq .no, .eq (ow (s54 : (List Int))), .eq (.fz (enc ((Prod.fst x53) : Int))), .eq (.fz (enc ((Prod.snd x53) : Int))), .eq .no] (by kernel_rfl) (bl_last (bl_if (k := fun x63 => (!(Prod.fst (Prod.fst x63)))) (te_not (k := fun x62 => (Prod.fst (Prod.fst x62))) (te_truB (k := fun x61 => (Prod.fst (Prod.fst x61))) (((ev_callG (ag_io (k := 4) rfl rfl (ag_cons (((pu_var 5 rfl)).tkP).ev fun x55 => (ag_cons (((pu_var 6 rfl)).tkP).ev fun x56 => ag_nil))) (fun x59 => V__law_right_v25 (s54 : (List Int)) ((Prod.fst x59) : Int) ((Prod.fst (Prod.snd x59)) : Int)))).er).es)) (fun x63 => (bl_ga [.eq (.fz (enc (a0 : (List Int)))), .eq (.fz (enc (x8 : Int))), .eq .no, .eq .no, .eq (ow ((Prod.snd (Prod.fst x63)) : (List Int))), .eq (.fz (enc ((Prod.fst x53) : Int))), .eq (.fz (enc ((Prod.snd x53) : Int))), .eq .no] (by kernel_rfl) (bl_retS (bl_retV (pu_c).ev fun x64 => (rl_rt (rf_eq rfl (.cons .aa (.cons .aa (.cons .aa (.cons .aa (.cons .aa (.cons .aa (.cons .aa (.cons .aa .nil)))))))))))))) fun x63 => (bl_ga [.eq (.fz (enc (a0 : (List Int)))), .eq (.fz (enc (x8 : Int))), .eq .no, .eq .no, .eq (ow ((Prod.snd (Prod.fst x63)) : (List Int))), .eq (.fz (enc ((Prod.fst x53) : Int))), .eq (.fz (enc ((Prod.snd x53) : Int))), .eq .no] (by kernel_rfl) (bl_next (bl_end (rl_nx (.cons .rfl (.cons .rfl (.cons .rfl (.cons .rfl (.cons .rfl (.cons .fz (.cons .fz (.cons .rfl .nil)))))))))))))))) (fun v z u d hz h => by cases (Option.some.inj hz); exact ⟨h, u, d, rfl⟩) fun x52 s54 => (bl_end (rl_nx (.cons .rfl (.cons .fz (.cons .rfl (.cons .rfl (.cons (.any rfl) (.cons .rfl (.cons .rfl (.cons .rfl .nil)))))))))))))))) (fun v z u d hz h => by cases (Option.some.inj hz); exact h) fun x7 s9 => (bl_asgV ((((pu_lc (vs := [7]) (ip_rng1 (pu_c).tkP) rfl rfl (fun x68 x69 => tg_n) (fun x68 x69 => (ts_ga [.eq (.fz (enc (a0 : (List Int)))), .pl, .eq .no, .eq .no, .any, .pl, .pl, .eq (.fz (enc (x69 : Int)))] (by kernel_rfl) ts_ok)) fun x68 x69 => (pu_ga [.eq (.fz (enc (a0 : (List Int)))), .pl, .eq .no, .eq .no, .any, .pl, .pl, .eq (.fz (enc (x69 : Int)))] (by kernel_rfl) (((pu1 Nv.op_rg1 (pu_c).rd)).tkTP ow_tree)))).tkTP ow_tree)).ev fun x71 => (bl_ga [.eq (.fz (enc (a0 : (List Int)))), .pl, .eq (.fz (enc (x71 : (List (List Int))))), .eq .no, .any, .pl, .pl, .eq .no] (by kernel_rfl) (bl_asgV (((pu_call (ap_cons pu_c (ap_cons ((pu_call (ap_cons pu_c (ap_cons ((pu_var 2 rfl)).tkP (ap_cons (((pu2 Nv.op_rep (((pu_lst (dp_cons ((pu2 Nv.op_powW (pu_c).rd (pu_c).rd)).tkP dp_nil) (fun x78 => ([(Prod.fst x78)] : (List Int))))).rdT ow_tree) (pu_c).rd)).tkTP ow_tree) ap_nil))) (fun x86 => V_show_ballots ((Prod.fst x86) : Int) ((Prod.fst (Prod.snd x86)) : (List (List Int))) ((Prod.fst (Prod.snd (Prod.snd x86))) : (List Int))))).tkP ap_nil)) (fun x90 => V_read_ballots ((Prod.fst x90) : Int) ((Prod.fst (Prod.snd x90)) : Str)))).tkP).ev fun x91 => (bl_ga [.eq (.fz (enc (a0 : (List Int)))), .pl, .eq (.fz (enc (x71 : (List (List Int))))), .eq (.fz (enc (x91 : ((List (List (Option Int))) × (List (Option Int)))))), .any, .pl, .pl, .eq .no] (by kernel_rfl) (bl_retV ((pu_andV (pu2A Nv.op_eqA (((Pu.any (pu_var 3 rfl))).rd).ra (((Pu.any (pu_tup (dp_cons ((pu_var 2 rfl)).tkP (dp_cons (((pu2 Nv.op_rep (((pu_lst (dp_cons ((pu2 Nv.op_powW (pu_c).rd (pu_c).rd)).tkP dp_nil) (fun x96 => ([(Prod.fst x96)] : (List Int))))).rdT ow_tree) (pu_c).rd)).tkTP ow_tree) dp_nil)) (fun x101 => (((Prod.fst x101), (Prod.fst (Prod.snd x101))) : ((List (List Int)) × (List Int))))))).rd).ra) (pu_andV (pu2 Nv.op_eqS ((pu_call (ap_cons pu_c (ap_cons ((pu_nil).tkTP ow_tree) (ap_cons ((pu_nil).tkTP ow_tree) ap_nil))) (fun x114 => V_show_ballots ((Prod.fst x114) : Int) ((Prod.fst (Prod.snd x114)) : (List (List Int))) ((Prod.fst (Prod.snd (Prod.snd x114))) : (List Int))))).rd (pu_c).rd) (pu2A Nv.op_eq (((pu_call (ap_cons pu_c (ap_cons pu_c ap_nil)) (fun x121 => V_read_ballots ((Prod.fst x121) : Int) ((Prod.fst (Prod.snd x121)) : Str)))).rd).ra (((pu_tup (dp_cons ((pu_nil).tkTP ow_tree) (dp_cons ((pu_nil).tkTP ow_tree) dp_nil)) (fun x124 => (((Prod.fst x124), (Prod.fst (Prod.snd x124))) : ((List (List (Option Int))) × (List (Option Int))))))).rd).ra)))).ev fun x131 => (rf_eq rfl (.cons .aa (.cons .aa (.cons .aa (.cons .aa (.cons .aa (.cons .aa (.cons .aa (.cons .aa .nil)))))))))))))))))
end P
namespace K48
open PySem PySem.Spec PyProof.Rows L2 Hb P
def topS (i : Nat) : Stmt := PySem.Challenge.pw_hillballots_k48_texts_shown.main.body.getD i (.Pass ⟨0, 0, 0, 0⟩)
def d_is_integer : He.DefD := ⟨("is_integer", none), "is_integer", "is_integer", defArgs (topS 12), defBody (topS 12), defScope (topS 12), [.non], []⟩
def d_need_count : He.DefD := ⟨("need_count", none), "need_count", "need_count", defArgs (topS 15), defBody (topS 15), defScope (topS 15), [.int 12], []⟩
def d_need_text : He.DefD := ⟨("need_text", none), "need_text", "need_text", defArgs (topS 29), defBody (topS 29), defScope (topS 29), [], []⟩
def d_number_in : He.DefD := ⟨("number_in", none), "number_in", "number_in", defArgs (topS 23), defBody (topS 23), defScope (topS 23), [], []⟩
def d_is_each_once : He.DefD := ⟨("is_each_once", none), "is_each_once", "is_each_once", defArgs (topS 13), defBody (topS 13), defScope (topS 13), [], []⟩
def d_places_in : He.DefD := ⟨("places_in", none), "places_in", "places_in", defArgs (topS 25), defBody (topS 25), defScope (topS 25), [], []⟩
def d_read_ballots : He.DefD := ⟨("read_ballots", none), "read_ballots", "read_ballots", defArgs (topS 33), defBody (topS 33), defScope (topS 33), [], []⟩
def d__law_purse : He.DefD := ⟨("_law_purse", none), "_law_purse", "_law_purse", defArgs (topS 35), defBody (topS 35), defScope (topS 35), [], []⟩
def d_are_each_once : He.DefD := ⟨("are_each_once", none), "are_each_once", "are_each_once", defArgs (topS 14), defBody (topS 14), defScope (topS 14), [], []⟩
def d_need_ballots : He.DefD := ⟨("need_ballots", none), "need_ballots", "need_ballots", defArgs (topS 17), defBody (topS 17), defScope (topS 17), [], []⟩
def d_need_voters : He.DefD := ⟨("need_voters", none), "need_voters", "need_voters", defArgs (topS 19), defBody (topS 19), defScope (topS 19), [], []⟩
def d_joined_with : He.DefD := ⟨("joined_with", none), "joined_with", "joined_with", defArgs (topS 24), defBody (topS 24), defScope (topS 24), [], []⟩
def d_show_ballots : He.DefD := ⟨("show_ballots", none), "show_ballots", "show_ballots", defArgs (topS 28), defBody (topS 28), defScope (topS 28), [], []⟩
def d__law_coin : He.DefD := ⟨("_law_coin", none), "_law_coin", "_law_coin", defArgs (topS 36), defBody (topS 36), defScope (topS 36), [], []⟩
def d__law_line : He.DefD := ⟨("_law_line", none), "_law_line", "_law_line", defArgs (topS 37), defBody (topS 37), defScope (topS 37), [], []⟩
def d__law_many : He.DefD := ⟨("_law_many", none), "_law_many", "_law_many", defArgs (topS 39), defBody (topS 39), defScope (topS 39), [], []⟩
def d_need_ballot : He.DefD := ⟨("need_ballot", none), "need_ballot", "need_ballot", defArgs (topS 16), defBody (topS 16), defScope (topS 16), [], []⟩
def d_show_ballot : He.DefD := ⟨("show_ballot", none), "show_ballot", "show_ballot", defArgs (topS 26), defBody (topS 26), defScope (topS 26), [], []⟩
def d_need_line : He.DefD := ⟨("need_line", none), "need_line", "need_line", defArgs (topS 18), defBody (topS 18), defScope (topS 18), [.non], []⟩
def d_show_line : He.DefD := ⟨("show_line", none), "show_line", "show_line", defArgs (topS 27), defBody (topS 27), defScope (topS 27), [], []⟩
def d__law_joined : He.DefD := ⟨("_law_joined", none), "_law_joined", "_law_joined", defArgs (topS 38), defBody (topS 38), defScope (topS 38), [], []⟩
def d_read_all : He.DefD := ⟨("read_all", none), "read_all", "read_all", defArgs (topS 30), defBody (topS 30), defScope (topS 30), [], []⟩
def d_read_ballot : He.DefD := ⟨("read_ballot", none), "read_ballot", "read_ballot", defArgs (topS 31), defBody (topS 31), defScope (topS 31), [], []⟩
def d_read_line : He.DefD := ⟨("read_line", none), "read_line", "read_line", defArgs (topS 32), defBody (topS 32), defScope (topS 32), [], []⟩
def d__law_right : He.DefD := ⟨("_law_right", none), "_law_right", "_law_right", defArgs (topS 40), defBody (topS 40), defScope (topS 40), [], []⟩
def d_law : He.DefD := ⟨("law", none), "law", "law", defArgs (topS 41), defBody (topS 41), defScope (topS 41), [], []⟩
def fn : List He.DefD := [d_is_integer, d_need_count, d_need_text, d_number_in, d_is_each_once, d_places_in, d_read_ballots, d__law_purse, d_are_each_once, d_need_ballots, d_need_voters, d_joined_with, d_show_ballots, d__law_coin, d__law_line, d__law_many, d_need_ballot, d_show_ballot, d_need_line, d_show_line, d__law_joined, d_read_all, d_read_ballot, d_read_line, d__law_right, d_law]
def fa : List He.Fa := [.glo "is_integer", .glo "need_count", .glo "need_text", .glo "number_in", .glo "is_each_once", .glo "places_in", .glo "read_ballots", .glo "_law_purse", .glo "are_each_once", .glo "need_ballots", .glo "need_voters", .glo "joined_with", .glo "show_ballots", .glo "_law_coin", .glo "_law_line", .glo "_law_many", .glo "need_ballot", .glo "show_ballot", .glo "need_line", .glo "show_line", .glo "_law_joined", .glo "read_all", .glo "read_ballot", .glo "read_line", .glo "_law_right", .glo "law", .str "DIGITS" "0123456789", .int "MOST_BALLOTS" 40, .int "MOST_DIGITS" 40, .int "MOST_PLACES" 12, .int "MOST_VOTERS" 1000000000000000000000000000000, .free "abs", .free "all", .free "bool", .free "enumerate", .free "int", .free "isinstance", .free "len", .free "list", .free "max", .free "min", .free "range", .free "repr", .free "sorted", .free "str", .free "zip", .glo "InvalidBallot", .glo "InvalidBallots", .glo "InvalidCount", .glo "InvalidLine", .glo "InvalidVoters", .exc "InvalidBallot", .exc "InvalidBallots", .exc "InvalidCount", .exc "InvalidLine", .exc "InvalidVoters"]
structure Ctx (K : PySem.W.Frag) (mg : Str → Option Value) : Prop where
  c : He.SaysD fa fn K
  ex : ∃ h : Heap, K.In h ∧ h.Ns mainGlobals mg
variable {Pg : Program} {w : World} {K : PySem.W.Frag} {mg : Str → Option Value} {base : Heap}
theorem m_DIGITS (Y : Ctx K mg) : ∃ t, mg "DIGITS" = some (.str "0123456789" t) := let ⟨_, X, G⟩ := Y.ex; He.str_ok X G (Y.c.fact 26)
theorem m_MOST_BALLOTS (Y : Ctx K mg) : ∃ t, mg "MOST_BALLOTS" = some (.int 40 t) := let ⟨_, X, G⟩ := Y.ex; He.int_ok X G (Y.c.fact 27)
theorem m_MOST_DIGITS (Y : Ctx K mg) : ∃ t, mg "MOST_DIGITS" = some (.int 40 t) := let ⟨_, X, G⟩ := Y.ex; He.int_ok X G (Y.c.fact 28)
theorem m_MOST_PLACES (Y : Ctx K mg) : ∃ t, mg "MOST_PLACES" = some (.int 12 t) := let ⟨_, X, G⟩ := Y.ex; He.int_ok X G (Y.c.fact 29)
theorem m_MOST_VOTERS (Y : Ctx K mg) : ∃ t, mg "MOST_VOTERS" = some (.int 1000000000000000000000000000000 t) := let ⟨_, X, G⟩ := Y.ex; He.int_ok X G (Y.c.fact 30)
theorem m_abs (Y : Ctx K mg) : mg "abs" = none := let ⟨_, X, G⟩ := Y.ex; He.free_ok X G (Y.c.fact 31)
theorem m_all (Y : Ctx K mg) : mg "all" = none := let ⟨_, X, G⟩ := Y.ex; He.free_ok X G (Y.c.fact 32)
theorem m_bool (Y : Ctx K mg) : mg "bool" = none := let ⟨_, X, G⟩ := Y.ex; He.free_ok X G (Y.c.fact 33)
theorem m_enumerate (Y : Ctx K mg) : mg "enumerate" = none := let ⟨_, X, G⟩ := Y.ex; He.free_ok X G (Y.c.fact 34)
theorem m_int (Y : Ctx K mg) : mg "int" = none := let ⟨_, X, G⟩ := Y.ex; He.free_ok X G (Y.c.fact 35)
theorem m_isinstance (Y : Ctx K mg) : mg "isinstance" = none := let ⟨_, X, G⟩ := Y.ex; He.free_ok X G (Y.c.fact 36)
theorem m_len (Y : Ctx K mg) : mg "len" = none := let ⟨_, X, G⟩ := Y.ex; He.free_ok X G (Y.c.fact 37)
theorem m_list (Y : Ctx K mg) : mg "list" = none := let ⟨_, X, G⟩ := Y.ex; He.free_ok X G (Y.c.fact 38)
theorem m_max (Y : Ctx K mg) : mg "max" = none := let ⟨_, X, G⟩ := Y.ex; He.free_ok X G (Y.c.fact 39)
theorem m_min (Y : Ctx K mg) : mg "min" = none := let ⟨_, X, G⟩ := Y.ex; He.free_ok X G (Y.c.fact 40)
theorem m_range (Y : Ctx K mg) : mg "range" = none := let ⟨_, X, G⟩ := Y.ex; He.free_ok X G (Y.c.fact 41)
theorem m_repr (Y : Ctx K mg) : mg "repr" = none := let ⟨_, X, G⟩ := Y.ex; He.free_ok X G (Y.c.fact 42)
theorem m_sorted (Y : Ctx K mg) : mg "sorted" = none := let ⟨_, X, G⟩ := Y.ex; He.free_ok X G (Y.c.fact 43)
theorem m_str (Y : Ctx K mg) : mg "str" = none := let ⟨_, X, G⟩ := Y.ex; He.free_ok X G (Y.c.fact 44)
theorem m_zip (Y : Ctx K mg) : mg "zip" = none := let ⟨_, X, G⟩ := Y.ex; He.free_ok X G (Y.c.fact 45)
theorem g_InvalidBallot (Y : Ctx K mg) : mg "InvalidBallot" = some (.ref (He.ga K "InvalidBallot")) := let ⟨_, X, G⟩ := Y.ex; He.glo_ok X G (Y.c.fact 46)
theorem g_InvalidBallots (Y : Ctx K mg) : mg "InvalidBallots" = some (.ref (He.ga K "InvalidBallots")) := let ⟨_, X, G⟩ := Y.ex; He.glo_ok X G (Y.c.fact 47)
theorem g_InvalidCount (Y : Ctx K mg) : mg "InvalidCount" = some (.ref (He.ga K "InvalidCount")) := let ⟨_, X, G⟩ := Y.ex; He.glo_ok X G (Y.c.fact 48)
theorem g_InvalidLine (Y : Ctx K mg) : mg "InvalidLine" = some (.ref (He.ga K "InvalidLine")) := let ⟨_, X, G⟩ := Y.ex; He.glo_ok X G (Y.c.fact 49)
theorem g_InvalidVoters (Y : Ctx K mg) : mg "InvalidVoters" = some (.ref (He.ga K "InvalidVoters")) := let ⟨_, X, G⟩ := Y.ex; He.glo_ok X G (Y.c.fact 50)
theorem e_InvalidBallot (Y : Ctx K mg) : ExcC K mg "InvalidBallot" (He.ga K "InvalidBallot") := let ⟨_, X, G⟩ := Y.ex; excC_of X G (g_InvalidBallot Y) (Y.c.fact 51)
theorem e_InvalidBallots (Y : Ctx K mg) : ExcC K mg "InvalidBallots" (He.ga K "InvalidBallots") := let ⟨_, X, G⟩ := Y.ex; excC_of X G (g_InvalidBallots Y) (Y.c.fact 52)
theorem e_InvalidCount (Y : Ctx K mg) : ExcC K mg "InvalidCount" (He.ga K "InvalidCount") := let ⟨_, X, G⟩ := Y.ex; excC_of X G (g_InvalidCount Y) (Y.c.fact 53)
theorem e_InvalidLine (Y : Ctx K mg) : ExcC K mg "InvalidLine" (He.ga K "InvalidLine") := let ⟨_, X, G⟩ := Y.ex; excC_of X G (g_InvalidLine Y) (Y.c.fact 54)
theorem e_InvalidVoters (Y : Ctx K mg) : ExcC K mg "InvalidVoters" (He.ga K "InvalidVoters") := let ⟨_, X, G⟩ := Y.ex; excC_of X G (g_InvalidVoters Y) (Y.c.fact 55)
def N_is_integer : List Str := ["value", "low", "high"]
theorem W_is_integer (Y : Ctx K mg) {f : Addr} (cdv : Value) (A : Around) (outer : List Env) (s : Shared) (H : Hp) (E : XK) (hr : Room 0 (A.deeper (envOfC "is_integer" (defScope (topS 12)) s.heap.objs.size f cdv))) (hgd : A.guards = some []) :
    SSs (GX Pg w K mg base N_is_integer "is_integer" (defScope (topS 12)) f cdv A outer s H E) (GW E) [] (defBody (topS 12)) B_is_integer := by
  have h64 : (A.deeper (envOfC "is_integer" (defScope (topS 12)) s.heap.objs.size f cdv)).units + 64 < cLine := hr.units
  have h65 : (A.deeper (envOfC "is_integer" (defScope (topS 12)) s.heap.objs.size f cdv)).units + 65 < cLine := by have := hr.un; omega
  have h1 := unl1 h64
  have h0 := unl0 h64
  have nd : N_is_integer.Nodup := by decide
  exact (ss_cons (ss_if (st_w (sw_or (st_not (st_tru (se_isi (T := "int") (by decide +kernel) rfl (m_isinstance Y) rfl (m_int Y) (by decide +kernel) (se_var 0)))) (sw_or1 (st_tru (se_isi (T := "bool") (by decide +kernel) rfl (m_isinstance Y) rfl (m_bool Y) (by decide +kernel) (se_var 0)))))) (ss_one (ss_ret se_bl)) ss_nil)
    (ss_one (ss_ret (se_and (se_le (se_var 1) (se_var 0)) (se_oneA (se_or (se_is (se_var 2) se_non) (se_oneO (se_le (se_var 0) (se_var 2)))))))))
theorem S_is_integer : FnScope N_is_integer ["value", "low", "high"] (defScope (topS 12)) := ⟨rfl, rfl, rfl, by decide, rfl, by decide +kernel, by decide +kernel⟩
theorem D_is_integer_2 (Y : Ctx K mg) : Dfn Pg w K mg base 1 "is_integer" 3 F_is_integer 2 [.none] := by
  obtain ⟨_, X, G⟩ := Y.ex
  obtain ⟨fd, FD⟩ := Y.c.def_ 0 (d := d_is_integer)
  have hb := FD.binds1 (ps := ["value", "low", "high"]) 2 0 (fun z => nomatch z) rfl fun T kV doc pm an cdv ct us its h1 h2 => by
    match us, h1, its, h2 with
    | [a0, a1], _, [b0], _ => exact ⟨_, rfl, rfl⟩
  obtain ⟨ds, r, hb⟩ := hb
  exact ⟨⟨_, fd, ["value", "low", "high"], ds, He.glo_ok X G (Y.c.fact 0), FD.kp, fnG_D FD S_is_integer rfl fun cdv A outer s H E hr hgd => W_is_integer Y cdv A outer s H E hr hgd, hb, r, rfl, rfl⟩⟩
theorem D_is_integer_3 (Y : Ctx K mg) : Dfn Pg w K mg base 1 "is_integer" 3 F_is_integer 3 [] := by
  obtain ⟨_, X, G⟩ := Y.ex
  obtain ⟨fd, FD⟩ := Y.c.def_ 0 (d := d_is_integer)
  have hb := FD.binds1 (ps := ["value", "low", "high"]) 3 1 (fun z => nomatch z) rfl fun T kV doc pm an cdv ct us its h1 h2 => by
    match us, h1, its, h2 with
    | [a0, a1, a2], _, [b0], _ => exact ⟨_, rfl, rfl⟩
  obtain ⟨ds, r, hb⟩ := hb
  exact ⟨⟨_, fd, ["value", "low", "high"], ds, He.glo_ok X G (Y.c.fact 0), FD.kp, fnG_D FD S_is_integer rfl fun cdv A outer s H E hr hgd => W_is_integer Y cdv A outer s H E hr hgd, hb, r, rfl, rfl⟩⟩
def N_need_count : List Str := ["count", "most"]
theorem W_need_count (Y : Ctx K mg) {f : Addr} (cdv : Value) (A : Around) (outer : List Env) (s : Shared) (H : Hp) (E : XK) (hr : Room 1 (A.deeper (envOfC "need_count" (defScope (topS 15)) s.heap.objs.size f cdv))) (hgd : A.guards = some []) :
    SSs (GX Pg w K mg base N_need_count "need_count" (defScope (topS 15)) f cdv A outer s H E) (GW E) [] (defBody (topS 15)) B_need_count := by
  have h64 : (A.deeper (envOfC "need_count" (defScope (topS 15)) s.heap.objs.size f cdv)).units + 64 < cLine := hr.units
  have h65 : (A.deeper (envOfC "need_count" (defScope (topS 15)) s.heap.objs.size f cdv)).units + 65 < cLine := by have := hr.un; omega
  have h1 := unl1 h64
  have h0 := unl0 h64
  have nd : N_need_count.Nodup := by decide
  exact (ss_one (ss_if (st_not (st_tru (se_callD ((D_is_integer_3 Y).mono (by decide)) hr hgd gx_pass rfl (sr_cons (se_tk (se_var 0)) (sr_cons se_int (sr_cons (se_tk (se_var 1)) sr_nil))) (len_rCons (len_rCons (len_rCons len_rNil)))))) (ss_one (ss_raise rfl gx_takes (e_InvalidCount Y) rfl)) ss_nil))
theorem S_need_count : FnScope N_need_count ["count", "most"] (defScope (topS 15)) := ⟨rfl, rfl, rfl, by decide, rfl, by decide +kernel, by decide +kernel⟩
theorem D_need_count_1 (Y : Ctx K mg) : Dfn Pg w K mg base 2 "need_count" 2 F_need_count 1 [.int 12] := by
  obtain ⟨_, X, G⟩ := Y.ex
  obtain ⟨fd, FD⟩ := Y.c.def_ 1 (d := d_need_count)
  have hb := FD.binds1 (ps := ["count", "most"]) 1 0 (fun z => nomatch z) rfl fun T kV doc pm an cdv ct us its h1 h2 => by
    match us, h1, its, h2 with
    | [a0], _, [b0], _ => exact ⟨_, rfl, rfl⟩
  obtain ⟨ds, r, hb⟩ := hb
  exact ⟨⟨_, fd, ["count", "most"], ds, He.glo_ok X G (Y.c.fact 1), FD.kp, fnG_D FD S_need_count rfl fun cdv A outer s H E hr hgd => W_need_count Y cdv A outer s H E hr hgd, hb, r, rfl, rfl⟩⟩
def N_need_text : List Str := ["text"]
theorem W_need_text (Y : Ctx K mg) {f : Addr} (cdv : Value) (A : Around) (outer : List Env) (s : Shared) (H : Hp) (E : XK) (hr : Room 0 (A.deeper (envOfC "need_text" (defScope (topS 29)) s.heap.objs.size f cdv))) (hgd : A.guards = some []) :
    SSs (GX Pg w K mg base N_need_text "need_text" (defScope (topS 29)) f cdv A outer s H E) (GW E) [] (defBody (topS 29)) B_need_text := by
  have h64 : (A.deeper (envOfC "need_text" (defScope (topS 29)) s.heap.objs.size f cdv)).units + 64 < cLine := hr.units
  have h65 : (A.deeper (envOfC "need_text" (defScope (topS 29)) s.heap.objs.size f cdv)).units + 65 < cLine := by have := hr.un; omega
  have h1 := unl1 h64
  have h0 := unl0 h64
  have nd : N_need_text.Nodup := by decide
  exact (ss_one (ss_if (st_not (st_tru (se_isi (T := "str") (by decide +kernel) rfl (m_isinstance Y) rfl (m_str Y) (by decide +kernel) (se_var 0)))) (ss_one ss_never) ss_nil))
theorem S_need_text : FnScope N_need_text ["text"] (defScope (topS 29)) := ⟨rfl, rfl, rfl, by decide, rfl, by decide +kernel, by decide +kernel⟩
theorem D_need_text_1 (Y : Ctx K mg) : Dfn Pg w K mg base 1 "need_text" 1 F_need_text 1 [] := by
  obtain ⟨_, X, G⟩ := Y.ex
  obtain ⟨fd, FD⟩ := Y.c.def_ 2 (d := d_need_text)
  have hb : Binds K fd ["text"] [] := FD.bindsN fun _ _ _ _ _ _ us h => by
    match us, h with
    | [a0], _ => rfl
  exact ⟨⟨_, fd, ["text"], [], He.glo_ok X G (Y.c.fact 2), FD.kp, fnG_D FD S_need_text rfl fun cdv  A outer s H E hr hgd => W_need_text Y  cdv  A outer s H E hr hgd, hb, .nil, rfl, rfl⟩⟩
def N_number_in : List Str := ["word", "sign"]
theorem W_number_in (Y : Ctx K mg) {f : Addr} (cdv : Value) (A : Around) (outer : List Env) (s : Shared) (H : Hp) (E : XK) (hr : Room 0 (A.deeper (envOfC "number_in" (defScope (topS 23)) s.heap.objs.size f cdv))) (hgd : A.guards = some []) :
    SSs (GX Pg w K mg base N_number_in "number_in" (defScope (topS 23)) f cdv A outer s H E) (GW E) [] (defBody (topS 23)) B_number_in := by
  have h64 : (A.deeper (envOfC "number_in" (defScope (topS 23)) s.heap.objs.size f cdv)).units + 64 < cLine := hr.units
  have h65 : (A.deeper (envOfC "number_in" (defScope (topS 23)) s.heap.objs.size f cdv)).units + 65 < cLine := by have := hr.un; omega
  have h1 := unl1 h64
  have h0 := unl0 h64
  have nd : N_number_in.Nodup := by decide
  exact (ss_cons (ss_if (st_w (sw_or (st_not (st_chain L2.op_le v2_b L2.op_le v2_b se_int (se_b1 call_lenU c1_len rfl (m_len Y) (by decide +kernel) (se_var 0)) (se_globI rfl (m_MOST_DIGITS Y)))) (sw_or1 (st_not (st_tru (se_b1 (cr_all rfl) c1_all rfl (m_all Y) (by decide +kernel) (se_lc false rfl nd (si_str (se_var 0)) (own := [("sign", 1)]) (by kernel_rfl) (by decide) (by decide) (fun _ _ _ _ _ => (sg_name 1 nd rfl (by first | exact Or.inl rfl | exact Or.inr rfl) (by decide))) (fun _ _ _ _ _ => sts_nil) (fun _ _ _ _ _ => (se_tk (se_inS (se_var 1) (se_globS rfl (m_DIGITS Y)))))))))))) (ss_one (ss_ret se_non)) ss_nil)
    (ss_one (ss_ret (se_if (st_w (sw_and (st_eqS (se_ixS (se_var 0) se_int) se_str) (sw_and1 (st_neS (se_var 0) se_str)))) se_non (se_t1 call_int_str c1_intS rfl (m_int Y) (by decide +kernel) (se_var 0))))))
theorem S_number_in : FnScope N_number_in ["word"] (defScope (topS 23)) := ⟨rfl, rfl, rfl, by decide, rfl, by decide +kernel, by decide +kernel⟩
theorem D_number_in_1 (Y : Ctx K mg) : Dfn Pg w K mg base 1 "number_in" 1 F_number_in 1 [] := by
  obtain ⟨_, X, G⟩ := Y.ex
  obtain ⟨fd, FD⟩ := Y.c.def_ 3 (d := d_number_in)
  have hb : Binds K fd ["word"] [] := FD.bindsN fun _ _ _ _ _ _ us h => by
    match us, h with
    | [a0], _ => rfl
  exact ⟨⟨_, fd, ["word"], [], He.glo_ok X G (Y.c.fact 3), FD.kp, fnG_D FD S_number_in rfl fun cdv  A outer s H E hr hgd => W_number_in Y  cdv  A outer s H E hr hgd, hb, .nil, rfl, rfl⟩⟩
def N_is_each_once : List Str := ["count", "value", "item"]
theorem W_is_each_once (Y : Ctx K mg) {f : Addr} (cdv : Value) (A : Around) (outer : List Env) (s : Shared) (H : Hp) (E : XK) (hr : Room 1 (A.deeper (envOfC "is_each_once" (defScope (topS 13)) s.heap.objs.size f cdv))) (hgd : A.guards = some []) :
    SSs (GX Pg w K mg base N_is_each_once "is_each_once" (defScope (topS 13)) f cdv A outer s H E) (GW E) [] (defBody (topS 13)) B_is_each_once := by
  have h64 : (A.deeper (envOfC "is_each_once" (defScope (topS 13)) s.heap.objs.size f cdv)).units + 64 < cLine := hr.units
  have h65 : (A.deeper (envOfC "is_each_once" (defScope (topS 13)) s.heap.objs.size f cdv)).units + 65 < cLine := by have := hr.un; omega
  have h1 := unl1 h64
  have h0 := unl0 h64
  have nd : N_is_each_once.Nodup := by decide
  exact (ss_cons (ss_if (st_w (sw_or (st_not (st_tru (se_isi (T := "list") (by decide +kernel) rfl (m_isinstance Y) rfl (m_list Y) (by decide +kernel) (se_var 1)))) (sw_or (st_ne h64 (se_b1 call_lenU c1_len rfl (m_len Y) (by decide +kernel) (se_var 1)) (se_var 0)) (sw_or1 (st_not (st_tru (se_b1 (cr_all rfl) c1_all rfl (m_all Y) (by decide +kernel) (se_lc false rfl nd (si_seq (se_var 1)) (own := [("item", 2)]) (by kernel_rfl) (by decide) (by decide) (fun _ _ _ _ _ => (sg_name 2 nd rfl (by first | exact Or.inl rfl | exact Or.inr rfl) (by decide))) (fun _ _ _ _ _ => sts_nil) (fun _ _ _ _ _ => (se_tk (se_callD ((D_is_integer_2 Y).mono (by decide)) hr hgd w0_pass rfl (sr_cons (se_tk (se_var 2)) (sr_cons se_int sr_nil)) (len_rCons (len_rCons len_rNil))))))))))))) (ss_one (ss_ret se_bl)) ss_nil)
    (ss_one (ss_ret (se_eq h64 (se_b1 (cr_sortedD h64) c1_sortD rfl (m_sorted Y) (by decide +kernel) (se_var 1)) (se_lrg1 rfl rfl (m_list Y) rfl (m_range Y) (se_var 0))))))
theorem S_is_each_once : FnScope N_is_each_once ["count", "value"] (defScope (topS 13)) := ⟨rfl, rfl, rfl, by decide, rfl, by decide +kernel, by decide +kernel⟩
theorem D_is_each_once_2 (Y : Ctx K mg) : Dfn Pg w K mg base 2 "is_each_once" 2 F_is_each_once 2 [] := by
  obtain ⟨_, X, G⟩ := Y.ex
  obtain ⟨fd, FD⟩ := Y.c.def_ 4 (d := d_is_each_once)
  have hb : Binds K fd ["count", "value"] [] := FD.bindsN fun _ _ _ _ _ _ us h => by
    match us, h with
    | [a0, a1], _ => rfl
  exact ⟨⟨_, fd, ["count", "value"], [], He.glo_ok X G (Y.c.fact 4), FD.kp, fnG_D FD S_is_each_once rfl fun cdv  A outer s H E hr hgd => W_is_each_once Y  cdv  A outer s H E hr hgd, hb, .nil, rfl, rfl⟩⟩
def N_places_in : List Str := ["count", "word", "sign", "found", "part"]
theorem W_places_in (Y : Ctx K mg) {f : Addr} (cdv : Value) (A : Around) (outer : List Env) (s : Shared) (H : Hp) (E : XK) (hr : Room 2 (A.deeper (envOfC "places_in" (defScope (topS 25)) s.heap.objs.size f cdv))) (hgd : A.guards = some []) :
    SSs (GX Pg w K mg base N_places_in "places_in" (defScope (topS 25)) f cdv A outer s H E) (GW E) [] (defBody (topS 25)) B_places_in := by
  have h64 : (A.deeper (envOfC "places_in" (defScope (topS 25)) s.heap.objs.size f cdv)).units + 64 < cLine := hr.units
  have h65 : (A.deeper (envOfC "places_in" (defScope (topS 25)) s.heap.objs.size f cdv)).units + 65 < cLine := by have := hr.un; omega
  have h1 := unl1 h64
  have h0 := unl0 h64
  have nd : N_places_in.Nodup := by decide
  exact (ss_cons (ss_setLc false (i := 3) rfl nd rfl rfl (by decide) (sw_true rfl rfl rfl rfl) (si_seq (se_split (se_var 1) (se_var 2))) (own := [("part", 4)]) (by kernel_rfl) (by decide) (by decide) (fun _ _ _ _ _ => (sg_name 4 nd rfl (by first | exact Or.inl rfl | exact Or.inr rfl) (by decide))) (fun _ _ _ _ _ => sts_nil) (fun _ _ _ _ _ => (se_tk (se_callD ((D_number_in_1 Y).mono (by decide)) hr hgd w0_pass rfl (sr_cons (se_tk (se_var 4)) sr_nil) (len_rCons len_rNil)))))
    (ss_one (ss_retIf (st_w (sw_and (st_brw (st_nin h65 se_non (se_var 3))) (sw_and1 (st_tru (se_brw (se_callD ((D_is_each_once_2 Y).mono (by decide)) hr hgd gx_pass rfl (sr_cons (se_tk (se_var 0)) (sr_cons (se_tk (se_var 3)) sr_nil)) (len_rCons (len_rCons len_rNil)))))))) (se_var 3) se_non)))
theorem S_places_in : FnScope N_places_in ["count", "word", "sign"] (defScope (topS 25)) := ⟨rfl, rfl, rfl, by decide, rfl, by decide +kernel, by decide +kernel⟩
theorem D_places_in_3 (Y : Ctx K mg) : Dfn Pg w K mg base 3 "places_in" 3 F_places_in 3 [] := by
  obtain ⟨_, X, G⟩ := Y.ex
  obtain ⟨fd, FD⟩ := Y.c.def_ 5 (d := d_places_in)
  have hb : Binds K fd ["count", "word", "sign"] [] := FD.bindsN fun _ _ _ _ _ _ us h => by
    match us, h with
    | [a0, a1, a2], _ => rfl
  exact ⟨⟨_, fd, ["count", "word", "sign"], [], He.glo_ok X G (Y.c.fact 5), FD.kp, fnG_D FD S_places_in rfl fun cdv  A outer s H E hr hgd => W_places_in Y  cdv  A outer s H E hr hgd, hb, .nil, rfl, rfl⟩⟩
def N_read_ballots : List Str := ["count", "text", "ballots", "voters", "number", "row", "head", "sign", "rest", "many", "ballot"]
theorem W_read_ballots (Y : Ctx K mg) {f : Addr} (cdv : Value) (A : Around) (outer : List Env) (s : Shared) (H : Hp) (E : XK) (hr : Room 3 (A.deeper (envOfC "read_ballots" (defScope (topS 33)) s.heap.objs.size f cdv))) (hgd : A.guards = some []) :
    SSs (GX Pg w K mg base N_read_ballots "read_ballots" (defScope (topS 33)) f cdv A outer s H E) (GW E) [] (defBody (topS 33)) B_read_ballots := by
  have h64 : (A.deeper (envOfC "read_ballots" (defScope (topS 33)) s.heap.objs.size f cdv)).units + 64 < cLine := hr.units
  have h65 : (A.deeper (envOfC "read_ballots" (defScope (topS 33)) s.heap.objs.size f cdv)).units + 65 < cLine := by have := hr.un; omega
  have h1 := unl1 h64
  have h0 := unl0 h64
  have nd : N_read_ballots.Nodup := by decide
  exact (ss_cons (ss_expr (se_callD ((D_need_count_1 Y).mono (by decide)) hr hgd gx_pass rfl (sr_cons (se_tk (se_var 0)) sr_nil) (len_rCons len_rNil)))
    (ss_cons (ss_expr (se_callD ((D_need_text_1 Y).mono (by decide)) hr hgd gx_pass rfl (sr_cons (se_tk (se_var 1)) sr_nil) (len_rCons len_rNil)))
    (ss_cons (ss_par2 rfl nd rfl rfl (by decide) (by decide) rfl rfl (sr_cons (se_lst sa_nil) (sr_cons (se_lst sa_nil) sr_nil)))
    (ss_cons (ss_for (passes_of rfl) rfl (si_enum rfl (m_enumerate Y) (se_if (st_neS (se_var 1) se_str) (se_split (se_var 1) se_str) (se_lst sa_nil))) (sg_tup rfl (sgs_cons (sg_name 4 nd rfl (by first | exact Or.inl rfl | exact Or.inr rfl) (by decide)) (sgs_cons (sg_name 5 nd rfl (by first | exact Or.inl rfl | exact Or.inr rfl) (by decide)) sgs_nil))) (ss_cons (ss_asg (se_part (se_var 5) se_str) (sg_tup rfl (sgs_cons (sg_name 6 nd rfl (by first | exact Or.inl rfl | exact Or.inr rfl) (by decide)) (sgs_cons (sg_name 7 nd rfl (by first | exact Or.inl rfl | exact Or.inr rfl) (by decide)) (sgs_cons (sg_name 8 nd rfl (by first | exact Or.inl rfl | exact Or.inr rfl) (by decide)) sgs_nil)))))
    (ss_cons (ss_par2 rfl nd rfl rfl (by decide) (by decide) rfl rfl (sr_cons (se_tk (se_callD ((D_number_in_1 Y).mono (by decide)) hr hgd gx_pass rfl (sr_cons (se_tk (se_var 6)) sr_nil) (len_rCons len_rNil))) (sr_cons (se_callD ((D_places_in_3 Y).mono (by decide)) hr hgd gx_pass rfl (sr_cons (se_tk (se_var 0)) (sr_cons (se_tk (se_var 8)) (sr_cons se_str sr_nil))) (len_rCons (len_rCons (len_rCons len_rNil)))) sr_nil)))
    (ss_cons (ss_if (st_w (sw_or (st_is (se_var 9) se_non) (sw_or (st_gt (se_var 9) (se_globI rfl (m_MOST_VOTERS Y))) (sw_or (st_is (se_var 10) se_non) (sw_or1 (st_eq h64 (se_var 4) (se_globI rfl (m_MOST_BALLOTS Y)))))))) (ss_one ss_never) ss_nil)
    (ss_cons (ss_expr (se_appW (se_var 2) (se_mv (se_var 10))))
    (ss_one (ss_expr (se_app (se_var 3) (se_var 9)))))))))
    (ss_one (ss_ret (se_tup (sa_cons (se_var 2) (sa_cons (se_var 3) sa_nil)))))))))
theorem S_read_ballots : FnScope N_read_ballots ["count", "text"] (defScope (topS 33)) := ⟨rfl, rfl, rfl, by decide, rfl, by decide +kernel, by decide +kernel⟩
theorem D_read_ballots_2 (Y : Ctx K mg) : Dfn Pg w K mg base 4 "read_ballots" 2 F_read_ballots 2 [] := by
  obtain ⟨_, X, G⟩ := Y.ex
  obtain ⟨fd, FD⟩ := Y.c.def_ 6 (d := d_read_ballots)
  have hb : Binds K fd ["count", "text"] [] := FD.bindsN fun _ _ _ _ _ _ us h => by
    match us, h with
    | [a0, a1], _ => rfl
  exact ⟨⟨_, fd, ["count", "text"], [], He.glo_ok X G (Y.c.fact 6), FD.kp, fnG_D FD S_read_ballots rfl fun cdv  A outer s H E hr hgd => W_read_ballots Y  cdv  A outer s H E hr hgd, hb, .nil, rfl, rfl⟩⟩
def N__law_purse : List Str := ["_law_script", "_law_k", "_law_cell"]
theorem W__law_purse (Y : Ctx K mg) {f : Addr} (cdv : Value) (A : Around) (outer : List Env) (s : Shared) (H : Hp) (E : XK) (hr : Room 0 (A.deeper (envOfC "_law_purse" (defScope (topS 35)) s.heap.objs.size f cdv))) (hgd : A.guards = some []) :
    SSs (GX Pg w K mg base N__law_purse "_law_purse" (defScope (topS 35)) f cdv A outer s H E) (GW E) [] (defBody (topS 35)) B__law_purse := by
  have h64 : (A.deeper (envOfC "_law_purse" (defScope (topS 35)) s.heap.objs.size f cdv)).units + 64 < cLine := hr.units
  have h65 : (A.deeper (envOfC "_law_purse" (defScope (topS 35)) s.heap.objs.size f cdv)).units + 65 < cLine := by have := hr.un; omega
  have h1 := unl1 h64
  have h0 := unl0 h64
  have nd : N__law_purse.Nodup := by decide
  exact (ss_cons (ss_set 2 nd rfl (by first | exact Or.inl rfl | exact Or.inr rfl) (by decide) (se_tk (se_if (st_lt (se_var 1) (se_b1 call_lenU c1_len rfl (m_len Y) (by decide +kernel) (se_var 0))) (se_ix2 h64 (se_var 0) (se_var 1)) se_int)))
    (ss_one (ss_ret (se_lst (sa_cons (se_b2 (call_max2 rfl) c2_i rfl (m_max Y) (by decide +kernel) se_int (se_sub (se_var 2) (se_powW se_int se_int))) (sa_cons (se_add (se_add (se_mod (se_t1 call_int1 c1_int rfl (m_int Y) (by decide +kernel) (se_b1 call_abs c1_abs rfl (m_abs Y) (by decide +kernel) (se_var 2))) (se_add (se_powW se_int se_int) se_int)) (se_mul se_int (se_var 1))) se_int) (sa_cons se_int sa_nil)))))))
theorem S__law_purse : FnScope N__law_purse ["_law_script", "_law_k"] (defScope (topS 35)) := ⟨rfl, rfl, rfl, by decide, rfl, by decide +kernel, by decide +kernel⟩
theorem D__law_purse_2 (Y : Ctx K mg) : Dfn Pg w K mg base 1 "_law_purse" 2 F__law_purse 2 [] := by
  obtain ⟨_, X, G⟩ := Y.ex
  obtain ⟨fd, FD⟩ := Y.c.def_ 7 (d := d__law_purse)
  have hb : Binds K fd ["_law_script", "_law_k"] [] := FD.bindsN fun _ _ _ _ _ _ us h => by
    match us, h with
    | [a0, a1], _ => rfl
  exact ⟨⟨_, fd, ["_law_script", "_law_k"], [], He.glo_ok X G (Y.c.fact 7), FD.kp, fnG_D FD S__law_purse rfl fun cdv  A outer s H E hr hgd => W__law_purse Y  cdv  A outer s H E hr hgd, hb, .nil, rfl, rfl⟩⟩
def N_are_each_once : List Str := ["count", "value", "one"]
theorem W_are_each_once (Y : Ctx K mg) {f : Addr} (cdv : Value) (A : Around) (outer : List Env) (s : Shared) (H : Hp) (E : XK) (hr : Room 2 (A.deeper (envOfC "are_each_once" (defScope (topS 14)) s.heap.objs.size f cdv))) (hgd : A.guards = some []) :
    SSs (GX Pg w K mg base N_are_each_once "are_each_once" (defScope (topS 14)) f cdv A outer s H E) (GW E) [] (defBody (topS 14)) B_are_each_once := by
  have h64 : (A.deeper (envOfC "are_each_once" (defScope (topS 14)) s.heap.objs.size f cdv)).units + 64 < cLine := hr.units
  have h65 : (A.deeper (envOfC "are_each_once" (defScope (topS 14)) s.heap.objs.size f cdv)).units + 65 < cLine := by have := hr.un; omega
  have h1 := unl1 h64
  have h0 := unl0 h64
  have nd : N_are_each_once.Nodup := by decide
  exact (ss_one (ss_ret (se_and (se_isi (T := "list") (by decide +kernel) rfl (m_isinstance Y) rfl (m_list Y) (by decide +kernel) (se_var 1)) (se_and (se_le (se_b1 call_lenU c1_len rfl (m_len Y) (by decide +kernel) (se_var 1)) (se_globI rfl (m_MOST_BALLOTS Y))) (se_oneA (se_b1 (cr_all rfl) c1_all rfl (m_all Y) (by decide +kernel) (se_lc false rfl nd (si_seq (se_var 1)) (own := [("one", 2)]) (by kernel_rfl) (by decide) (by decide) (fun _ _ _ _ _ => (sg_name 2 nd rfl (by first | exact Or.inl rfl | exact Or.inr rfl) (by decide))) (fun _ _ _ _ _ => sts_nil) (fun _ _ _ _ _ => (se_tk (se_callD ((D_is_each_once_2 Y).mono (by decide)) hr hgd w0_pass rfl (sr_cons (se_tk (se_var 0)) (sr_cons (se_tk (se_var 2)) sr_nil)) (len_rCons (len_rCons len_rNil))))))))))))
theorem S_are_each_once : FnScope N_are_each_once ["count", "value"] (defScope (topS 14)) := ⟨rfl, rfl, rfl, by decide, rfl, by decide +kernel, by decide +kernel⟩
theorem D_are_each_once_2 (Y : Ctx K mg) : Dfn Pg w K mg base 3 "are_each_once" 2 F_are_each_once 2 [] := by
  obtain ⟨_, X, G⟩ := Y.ex
  obtain ⟨fd, FD⟩ := Y.c.def_ 8 (d := d_are_each_once)
  have hb : Binds K fd ["count", "value"] [] := FD.bindsN fun _ _ _ _ _ _ us h => by
    match us, h with
    | [a0, a1], _ => rfl
  exact ⟨⟨_, fd, ["count", "value"], [], He.glo_ok X G (Y.c.fact 8), FD.kp, fnG_D FD S_are_each_once rfl fun cdv  A outer s H E hr hgd => W_are_each_once Y  cdv  A outer s H E hr hgd, hb, .nil, rfl, rfl⟩⟩
def N_need_ballots : List Str := ["count", "ballots"]
theorem W_need_ballots (Y : Ctx K mg) {f : Addr} (cdv : Value) (A : Around) (outer : List Env) (s : Shared) (H : Hp) (E : XK) (hr : Room 3 (A.deeper (envOfC "need_ballots" (defScope (topS 17)) s.heap.objs.size f cdv))) (hgd : A.guards = some []) :
    SSs (GX Pg w K mg base N_need_ballots "need_ballots" (defScope (topS 17)) f cdv A outer s H E) (GW E) [] (defBody (topS 17)) B_need_ballots := by
  have h64 : (A.deeper (envOfC "need_ballots" (defScope (topS 17)) s.heap.objs.size f cdv)).units + 64 < cLine := hr.units
  have h65 : (A.deeper (envOfC "need_ballots" (defScope (topS 17)) s.heap.objs.size f cdv)).units + 65 < cLine := by have := hr.un; omega
  have h1 := unl1 h64
  have h0 := unl0 h64
  have nd : N_need_ballots.Nodup := by decide
  exact (ss_one (ss_if (st_not (st_tru (se_callD ((D_are_each_once_2 Y).mono (by decide)) hr hgd gx_pass rfl (sr_cons (se_tk (se_var 0)) (sr_cons (se_tk (se_var 1)) sr_nil)) (len_rCons (len_rCons len_rNil))))) (ss_one (ss_raise rfl gx_takes (e_InvalidBallots Y) rfl)) ss_nil))
theorem S_need_ballots : FnScope N_need_ballots ["count", "ballots"] (defScope (topS 17)) := ⟨rfl, rfl, rfl, by decide, rfl, by decide +kernel, by decide +kernel⟩
theorem D_need_ballots_2 (Y : Ctx K mg) : Dfn Pg w K mg base 4 "need_ballots" 2 F_need_ballots 2 [] := by
  obtain ⟨_, X, G⟩ := Y.ex
  obtain ⟨fd, FD⟩ := Y.c.def_ 9 (d := d_need_ballots)
  have hb : Binds K fd ["count", "ballots"] [] := FD.bindsN fun _ _ _ _ _ _ us h => by
    match us, h with
    | [a0, a1], _ => rfl
  exact ⟨⟨_, fd, ["count", "ballots"], [], He.glo_ok X G (Y.c.fact 9), FD.kp, fnG_D FD S_need_ballots rfl fun cdv  A outer s H E hr hgd => W_need_ballots Y  cdv  A outer s H E hr hgd, hb, .nil, rfl, rfl⟩⟩
def N_need_voters : List Str := ["ballots", "voters", "many"]
theorem W_need_voters (Y : Ctx K mg) {f : Addr} (cdv : Value) (A : Around) (outer : List Env) (s : Shared) (H : Hp) (E : XK) (hr : Room 1 (A.deeper (envOfC "need_voters" (defScope (topS 19)) s.heap.objs.size f cdv))) (hgd : A.guards = some []) :
    SSs (GX Pg w K mg base N_need_voters "need_voters" (defScope (topS 19)) f cdv A outer s H E) (GW E) [] (defBody (topS 19)) B_need_voters := by
  have h64 : (A.deeper (envOfC "need_voters" (defScope (topS 19)) s.heap.objs.size f cdv)).units + 64 < cLine := hr.units
  have h65 : (A.deeper (envOfC "need_voters" (defScope (topS 19)) s.heap.objs.size f cdv)).units + 65 < cLine := by have := hr.un; omega
  have h1 := unl1 h64
  have h0 := unl0 h64
  have nd : N_need_voters.Nodup := by decide
  exact (ss_cons (ss_if (st_w (sw_or (st_not (st_tru (se_isi (T := "list") (by decide +kernel) rfl (m_isinstance Y) rfl (m_list Y) (by decide +kernel) (se_var 1)))) (sw_or1 (st_ne h64 (se_b1 call_lenU c1_len rfl (m_len Y) (by decide +kernel) (se_var 1)) (se_b1 call_lenU c1_len rfl (m_len Y) (by decide +kernel) (se_var 0)))))) (ss_one (ss_raise rfl gx_takes (e_InvalidVoters Y) rfl)) ss_nil)
    (ss_one (ss_if (st_not (st_tru (se_b1 (cr_all rfl) c1_all rfl (m_all Y) (by decide +kernel) (se_lc false rfl nd (si_seq (se_var 1)) (own := [("many", 2)]) (by kernel_rfl) (by decide) (by decide) (fun _ _ _ _ _ => (sg_name 2 nd rfl (by first | exact Or.inl rfl | exact Or.inr rfl) (by decide))) (fun _ _ _ _ _ => sts_nil) (fun _ _ _ _ _ => (se_tk (se_callD ((D_is_integer_3 Y).mono (by decide)) hr hgd w0_pass rfl (sr_cons (se_tk (se_var 2)) (sr_cons se_int (sr_cons (se_tk (se_globI rfl (m_MOST_VOTERS Y))) sr_nil))) (len_rCons (len_rCons (len_rCons len_rNil)))))))))) (ss_one (ss_raise rfl gx_takes (e_InvalidVoters Y) rfl)) ss_nil)))
theorem S_need_voters : FnScope N_need_voters ["ballots", "voters"] (defScope (topS 19)) := ⟨rfl, rfl, rfl, by decide, rfl, by decide +kernel, by decide +kernel⟩
theorem D_need_voters_2 (Y : Ctx K mg) : Dfn Pg w K mg base 2 "need_voters" 2 F_need_voters 2 [] := by
  obtain ⟨_, X, G⟩ := Y.ex
  obtain ⟨fd, FD⟩ := Y.c.def_ 10 (d := d_need_voters)
  have hb : Binds K fd ["ballots", "voters"] [] := FD.bindsN fun _ _ _ _ _ _ us h => by
    match us, h with
    | [a0, a1], _ => rfl
  exact ⟨⟨_, fd, ["ballots", "voters"], [], He.glo_ok X G (Y.c.fact 10), FD.kp, fnG_D FD S_need_voters rfl fun cdv  A outer s H E hr hgd => W_need_voters Y  cdv  A outer s H E hr hgd, hb, .nil, rfl, rfl⟩⟩
def N_joined_with : List Str := ["sign", "numbers", "number"]
theorem W_joined_with (Y : Ctx K mg) {f : Addr} (cdv : Value) (A : Around) (outer : List Env) (s : Shared) (H : Hp) (E : XK) (hr : Room 0 (A.deeper (envOfC "joined_with" (defScope (topS 24)) s.heap.objs.size f cdv))) (hgd : A.guards = some []) :
    SSs (GX Pg w K mg base N_joined_with "joined_with" (defScope (topS 24)) f cdv A outer s H E) (GW E) [] (defBody (topS 24)) B_joined_with := by
  have h64 : (A.deeper (envOfC "joined_with" (defScope (topS 24)) s.heap.objs.size f cdv)).units + 64 < cLine := hr.units
  have h65 : (A.deeper (envOfC "joined_with" (defScope (topS 24)) s.heap.objs.size f cdv)).units + 65 < cLine := by have := hr.un; omega
  have h1 := unl1 h64
  have h0 := unl0 h64
  have nd : N_joined_with.Nodup := by decide
  exact (ss_one (ss_ret (se_join (se_var 0) (se_lc false rfl nd (si_seq (se_var 1)) (own := [("number", 2)]) (by kernel_rfl) (by decide) (by decide) (fun _ _ _ _ _ => (sg_name 2 nd rfl (by first | exact Or.inl rfl | exact Or.inr rfl) (by decide))) (fun _ _ _ _ _ => sts_nil) (fun _ _ _ _ _ => (se_tk (se_t1 call_strU c1_str rfl (m_str Y) (by decide +kernel) (se_var 2))))))))
theorem S_joined_with : FnScope N_joined_with ["sign", "numbers"] (defScope (topS 24)) := ⟨rfl, rfl, rfl, by decide, rfl, by decide +kernel, by decide +kernel⟩
theorem D_joined_with_2 (Y : Ctx K mg) : Dfn Pg w K mg base 1 "joined_with" 2 F_joined_with 2 [] := by
  obtain ⟨_, X, G⟩ := Y.ex
  obtain ⟨fd, FD⟩ := Y.c.def_ 11 (d := d_joined_with)
  have hb : Binds K fd ["sign", "numbers"] [] := FD.bindsN fun _ _ _ _ _ _ us h => by
    match us, h with
    | [a0, a1], _ => rfl
  exact ⟨⟨_, fd, ["sign", "numbers"], [], He.glo_ok X G (Y.c.fact 11), FD.kp, fnG_D FD S_joined_with rfl fun cdv  A outer s H E hr hgd => W_joined_with Y  cdv  A outer s H E hr hgd, hb, .nil, rfl, rfl⟩⟩
def N_show_ballots : List Str := ["count", "ballots", "voters", "ballot", "many"]
theorem W_show_ballots (Y : Ctx K mg) {f : Addr} (cdv : Value) (A : Around) (outer : List Env) (s : Shared) (H : Hp) (E : XK) (hr : Room 4 (A.deeper (envOfC "show_ballots" (defScope (topS 28)) s.heap.objs.size f cdv))) (hgd : A.guards = some []) :
    SSs (GX Pg w K mg base N_show_ballots "show_ballots" (defScope (topS 28)) f cdv A outer s H E) (GW E) [] (defBody (topS 28)) B_show_ballots := by
  have h64 : (A.deeper (envOfC "show_ballots" (defScope (topS 28)) s.heap.objs.size f cdv)).units + 64 < cLine := hr.units
  have h65 : (A.deeper (envOfC "show_ballots" (defScope (topS 28)) s.heap.objs.size f cdv)).units + 65 < cLine := by have := hr.un; omega
  have h1 := unl1 h64
  have h0 := unl0 h64
  have nd : N_show_ballots.Nodup := by decide
  exact (ss_cons (ss_expr (se_callD ((D_need_count_1 Y).mono (by decide)) hr hgd gx_pass rfl (sr_cons (se_tk (se_var 0)) sr_nil) (len_rCons len_rNil)))
    (ss_cons (ss_expr (se_callD ((D_need_ballots_2 Y).mono (by decide)) hr hgd gx_pass rfl (sr_cons (se_tk (se_var 0)) (sr_cons (se_tk (se_var 1)) sr_nil)) (len_rCons (len_rCons len_rNil))))
    (ss_cons (ss_expr (se_callD ((D_need_voters_2 Y).mono (by decide)) hr hgd gx_pass rfl (sr_cons (se_tk (se_var 1)) (sr_cons (se_tk (se_var 2)) sr_nil)) (len_rCons (len_rCons len_rNil))))
    (ss_one (ss_ret (se_joinC (se_lc false rfl nd (si_zip rfl (m_zip Y) (se_var 1) (se_var 2)) (own := [("ballot", 3), ("many", 4)]) (by kernel_rfl) (by decide) (by decide) (fun _ _ _ _ _ => (sg_tup rfl (sgs_cons (sg_name 3 nd rfl (by first | exact Or.inl rfl | exact Or.inr rfl) (by decide)) (sgs_cons (sg_name 4 nd rfl (by first | exact Or.inl rfl | exact Or.inr rfl) (by decide)) sgs_nil)))) (fun _ _ _ _ _ => sts_nil) (fun _ _ _ _ _ => (se_tk (se_add (se_add (se_t1 call_strU c1_str rfl (m_str Y) (by decide +kernel) (se_var 4)) se_str) (se_callD ((D_joined_with_2 Y).mono (by decide)) hr hgd w0_pass rfl (sr_cons se_str (sr_cons (se_tk (se_var 3)) sr_nil)) (len_rCons (len_rCons len_rNil)))))))))))))
theorem S_show_ballots : FnScope N_show_ballots ["count", "ballots", "voters"] (defScope (topS 28)) := ⟨rfl, rfl, rfl, by decide, rfl, by decide +kernel, by decide +kernel⟩
theorem D_show_ballots_3 (Y : Ctx K mg) : Dfn Pg w K mg base 5 "show_ballots" 3 F_show_ballots 3 [] := by
  obtain ⟨_, X, G⟩ := Y.ex
  obtain ⟨fd, FD⟩ := Y.c.def_ 12 (d := d_show_ballots)
  have hb : Binds K fd ["count", "ballots", "voters"] [] := FD.bindsN fun _ _ _ _ _ _ us h => by
    match us, h with
    | [a0, a1, a2], _ => rfl
  exact ⟨⟨_, fd, ["count", "ballots", "voters"], [], He.glo_ok X G (Y.c.fact 12), FD.kp, fnG_D FD S_show_ballots rfl fun cdv  A outer s H E hr hgd => W_show_ballots Y  cdv  A outer s H E hr hgd, hb, .nil, rfl, rfl⟩⟩
def N__law_coin : List Str := ["_law_purse_here", "_law_many_here", "_law_mixed", "_law_found"]
theorem W__law_coin (Y : Ctx K mg) {f : Addr} (cdv : Value) (A : Around) (outer : List Env) (s : Shared) (H : Hp) (E : XK) (hr : Room 0 (A.deeper (envOfC "_law_coin" (defScope (topS 36)) s.heap.objs.size f cdv))) (hgd : A.guards = some []) :
    SSs (GX Pg w K mg base N__law_coin "_law_coin" (defScope (topS 36)) f cdv A outer s H E) (GW E) [0] (defBody (topS 36)) B__law_coin := by
  have h64 : (A.deeper (envOfC "_law_coin" (defScope (topS 36)) s.heap.objs.size f cdv)).units + 64 < cLine := hr.units
  have h65 : (A.deeper (envOfC "_law_coin" (defScope (topS 36)) s.heap.objs.size f cdv)).units + 65 < cLine := by have := hr.un; omega
  have h1 := unl1 h64
  have h0 := unl0 h64
  have nd : N__law_coin.Nodup := by decide
  exact (ss_cons (ss_if (st_gt (se_ix2 h64 (se_var 0) se_int) se_int) (ss_cons (ss_set 3 nd rfl (by first | exact Or.inl rfl | exact Or.inr rfl) (by decide) (se_mod (se_t1 call_int1 c1_int rfl (m_int Y) (by decide +kernel) (se_ix2 h64 (se_var 0) se_int)) (se_var 1)))
    (ss_cons (ss_asg (se_fdivW (se_ix2 h64 (se_var 0) se_int) (se_var 1)) (sg_sub (se_var 0) se_int))
    (ss_one (ss_ret (se_var 3))))) ss_nil)
    (ss_cons (ss_asg (se_add (se_ix2 h64 (se_var 0) se_int) se_int) (sg_sub (se_var 0) se_int))
    (ss_cons (ss_set 2 nd rfl (by first | exact Or.inl rfl | exact Or.inr rfl) (by decide) (se_tk (se_mod (se_t1 call_int1 c1_int rfl (m_int Y) (by decide +kernel) (se_powW (se_add (se_ix2 h64 (se_var 0) se_int) (se_mul se_int (se_ix2 h64 (se_var 0) se_int))) se_int)) (se_add (se_powW se_int se_int) se_int))))
    (ss_cons (ss_set 2 nd rfl (by first | exact Or.inl rfl | exact Or.inr rfl) (by decide) (se_tk (se_mod (se_t1 call_int1 c1_int rfl (m_int Y) (by decide +kernel) (se_powW (se_add (se_var 2) (se_mul se_int (se_ix2 h64 (se_var 0) se_int))) se_int)) (se_add (se_powW se_int se_int) se_int))))
    (ss_one (ss_ret (se_mod (se_t1 call_int1 c1_int rfl (m_int Y) (by decide +kernel) (se_fdivW (se_var 2) se_int)) (se_var 1))))))))
theorem S__law_coin : FnScope N__law_coin ["_law_purse_here", "_law_many_here"] (defScope (topS 36)) := ⟨rfl, rfl, rfl, by decide, rfl, by decide +kernel, by decide +kernel⟩
theorem D__law_coin_2 (Y : Ctx K mg) : Dfn Pg w K mg base 1 "_law_coin" 2 F__law_coin 2 [] := by
  obtain ⟨_, X, G⟩ := Y.ex
  obtain ⟨fd, FD⟩ := Y.c.def_ 13 (d := d__law_coin)
  have hb : Binds K fd ["_law_purse_here", "_law_many_here"] [] := FD.bindsN fun _ _ _ _ _ _ us h => by
    match us, h with
    | [a0, a1], _ => rfl
  exact ⟨⟨_, fd, ["_law_purse_here", "_law_many_here"], [], He.glo_ok X G (Y.c.fact 13), FD.kp, fnG_D FD S__law_coin rfl fun cdv  A outer s H E hr hgd => W__law_coin Y  cdv  A outer s H E hr hgd, hb, .nil, rfl, rfl⟩⟩
def N__law_line : List Str := ["_law_purse_here", "_law_count", "_law_left", "_law_found"]
theorem W__law_line (Y : Ctx K mg) {f : Addr} (cdv : Value) (A : Around) (outer : List Env) (s : Shared) (H : Hp) (E : XK) (hr : Room 1 (A.deeper (envOfC "_law_line" (defScope (topS 37)) s.heap.objs.size f cdv))) (hgd : A.guards = some []) :
    SSs (GX Pg w K mg base N__law_line "_law_line" (defScope (topS 37)) f cdv A outer s H E) (GW E) [0] (defBody (topS 37)) B__law_line := by
  have h64 : (A.deeper (envOfC "_law_line" (defScope (topS 37)) s.heap.objs.size f cdv)).units + 64 < cLine := hr.units
  have h65 : (A.deeper (envOfC "_law_line" (defScope (topS 37)) s.heap.objs.size f cdv)).units + 65 < cLine := by have := hr.un; omega
  have h1 := unl1 h64
  have h0 := unl0 h64
  have nd : N__law_line.Nodup := by decide
  exact (ss_cons (ss_par2 rfl nd rfl rfl (by decide) (by decide) rfl rfl (sr_cons (se_lrg1 rfl rfl (m_list Y) rfl (m_range Y) (se_var 1)) (sr_cons (se_lst sa_nil) sr_nil)))
    (ss_cons (ss_while 1000 (passes_of rfl) (st_neE h64 (se_var 2) (se_lst sa_nil)) (ss_one (ss_expr (se_app (se_var 3) (se_pop1 (se_var 2) (se_callD ((D__law_coin_2 Y).mono (by decide)) hr hgd gx_pass rfl (sr_io 0 rfl (by first | exact Or.inl rfl | exact Or.inr (Or.inl rfl) | exact Or.inr (Or.inr rfl)) (sr_cons (se_tk (se_b1 call_lenU c1_len rfl (m_len Y) (by decide +kernel) (se_var 2))) sr_nil)) (len_rIo (len_rCons len_rNil))))))))
    (ss_one (ss_ret (se_var 3)))))
theorem S__law_line : FnScope N__law_line ["_law_purse_here", "_law_count"] (defScope (topS 37)) := ⟨rfl, rfl, rfl, by decide, rfl, by decide +kernel, by decide +kernel⟩
theorem D__law_line_2 (Y : Ctx K mg) : Dfn Pg w K mg base 2 "_law_line" 2 F__law_line 2 [] := by
  obtain ⟨_, X, G⟩ := Y.ex
  obtain ⟨fd, FD⟩ := Y.c.def_ 14 (d := d__law_line)
  have hb : Binds K fd ["_law_purse_here", "_law_count"] [] := FD.bindsN fun _ _ _ _ _ _ us h => by
    match us, h with
    | [a0, a1], _ => rfl
  exact ⟨⟨_, fd, ["_law_purse_here", "_law_count"], [], He.glo_ok X G (Y.c.fact 14), FD.kp, fnG_D FD S__law_line rfl fun cdv  A outer s H E hr hgd => W__law_line Y  cdv  A outer s H E hr hgd, hb, .nil, rfl, rfl⟩⟩
def N__law_many : List Str := ["_law_purse_here"]
theorem W__law_many (Y : Ctx K mg) {f : Addr} (cdv : Value) (A : Around) (outer : List Env) (s : Shared) (H : Hp) (E : XK) (hr : Room 1 (A.deeper (envOfC "_law_many" (defScope (topS 39)) s.heap.objs.size f cdv))) (hgd : A.guards = some []) :
    SSs (GX Pg w K mg base N__law_many "_law_many" (defScope (topS 39)) f cdv A outer s H E) (GW E) [0] (defBody (topS 39)) B__law_many := by
  have h64 : (A.deeper (envOfC "_law_many" (defScope (topS 39)) s.heap.objs.size f cdv)).units + 64 < cLine := hr.units
  have h65 : (A.deeper (envOfC "_law_many" (defScope (topS 39)) s.heap.objs.size f cdv)).units + 65 < cLine := by have := hr.un; omega
  have h1 := unl1 h64
  have h0 := unl0 h64
  have nd : N__law_many.Nodup := by decide
  exact (ss_one (ss_ret (se_ix2 h64 (se_lst (sa_cons se_int (sa_cons (se_add se_int (se_callD ((D__law_coin_2 Y).mono (by decide)) hr hgd gx_pass rfl (sr_io 0 rfl (by first | exact Or.inl rfl | exact Or.inr (Or.inl rfl) | exact Or.inr (Or.inr rfl)) (sr_cons se_int sr_nil)) (len_rIo (len_rCons len_rNil)))) (sa_cons (se_callD ((D__law_coin_2 Y).mono (by decide)) hr hgd gx_pass rfl (sr_io 0 rfl (by first | exact Or.inl rfl | exact Or.inr (Or.inl rfl) | exact Or.inr (Or.inr rfl)) (sr_cons (se_tk (se_powW se_int se_int)) sr_nil)) (len_rIo (len_rCons len_rNil))) (sa_cons (se_powW se_int se_int) sa_nil))))) (se_callD ((D__law_coin_2 Y).mono (by decide)) hr hgd gx_pass rfl (sr_io 0 rfl (by first | exact Or.inl rfl | exact Or.inr (Or.inl rfl) | exact Or.inr (Or.inr rfl)) (sr_cons se_int sr_nil)) (len_rIo (len_rCons len_rNil))))))
theorem S__law_many : FnScope N__law_many ["_law_purse_here"] (defScope (topS 39)) := ⟨rfl, rfl, rfl, by decide, rfl, by decide +kernel, by decide +kernel⟩
theorem D__law_many_1 (Y : Ctx K mg) : Dfn Pg w K mg base 2 "_law_many" 1 F__law_many 1 [] := by
  obtain ⟨_, X, G⟩ := Y.ex
  obtain ⟨fd, FD⟩ := Y.c.def_ 15 (d := d__law_many)
  have hb : Binds K fd ["_law_purse_here"] [] := FD.bindsN fun _ _ _ _ _ _ us h => by
    match us, h with
    | [a0], _ => rfl
  exact ⟨⟨_, fd, ["_law_purse_here"], [], He.glo_ok X G (Y.c.fact 15), FD.kp, fnG_D FD S__law_many rfl fun cdv  A outer s H E hr hgd => W__law_many Y  cdv  A outer s H E hr hgd, hb, .nil, rfl, rfl⟩⟩
def N_need_ballot : List Str := ["count", "ballot"]
theorem W_need_ballot (Y : Ctx K mg) {f : Addr} (cdv : Value) (A : Around) (outer : List Env) (s : Shared) (H : Hp) (E : XK) (hr : Room 2 (A.deeper (envOfC "need_ballot" (defScope (topS 16)) s.heap.objs.size f cdv))) (hgd : A.guards = some []) :
    SSs (GX Pg w K mg base N_need_ballot "need_ballot" (defScope (topS 16)) f cdv A outer s H E) (GW E) [] (defBody (topS 16)) B_need_ballot := by
  have h64 : (A.deeper (envOfC "need_ballot" (defScope (topS 16)) s.heap.objs.size f cdv)).units + 64 < cLine := hr.units
  have h65 : (A.deeper (envOfC "need_ballot" (defScope (topS 16)) s.heap.objs.size f cdv)).units + 65 < cLine := by have := hr.un; omega
  have h1 := unl1 h64
  have h0 := unl0 h64
  have nd : N_need_ballot.Nodup := by decide
  exact (ss_one (ss_if (st_not (st_tru (se_callD ((D_is_each_once_2 Y).mono (by decide)) hr hgd gx_pass rfl (sr_cons (se_tk (se_var 0)) (sr_cons (se_tk (se_var 1)) sr_nil)) (len_rCons (len_rCons len_rNil))))) (ss_one (ss_raise rfl gx_takes (e_InvalidBallot Y) rfl)) ss_nil))
theorem S_need_ballot : FnScope N_need_ballot ["count", "ballot"] (defScope (topS 16)) := ⟨rfl, rfl, rfl, by decide, rfl, by decide +kernel, by decide +kernel⟩
theorem D_need_ballot_2 (Y : Ctx K mg) : Dfn Pg w K mg base 3 "need_ballot" 2 F_need_ballot 2 [] := by
  obtain ⟨_, X, G⟩ := Y.ex
  obtain ⟨fd, FD⟩ := Y.c.def_ 16 (d := d_need_ballot)
  have hb : Binds K fd ["count", "ballot"] [] := FD.bindsN fun _ _ _ _ _ _ us h => by
    match us, h with
    | [a0, a1], _ => rfl
  exact ⟨⟨_, fd, ["count", "ballot"], [], He.glo_ok X G (Y.c.fact 16), FD.kp, fnG_D FD S_need_ballot rfl fun cdv  A outer s H E hr hgd => W_need_ballot Y  cdv  A outer s H E hr hgd, hb, .nil, rfl, rfl⟩⟩
def N_show_ballot : List Str := ["count", "ballot"]
theorem W_show_ballot (Y : Ctx K mg) {f : Addr} (cdv : Value) (A : Around) (outer : List Env) (s : Shared) (H : Hp) (E : XK) (hr : Room 3 (A.deeper (envOfC "show_ballot" (defScope (topS 26)) s.heap.objs.size f cdv))) (hgd : A.guards = some []) :
    SSs (GX Pg w K mg base N_show_ballot "show_ballot" (defScope (topS 26)) f cdv A outer s H E) (GW E) [] (defBody (topS 26)) B_show_ballot := by
  have h64 : (A.deeper (envOfC "show_ballot" (defScope (topS 26)) s.heap.objs.size f cdv)).units + 64 < cLine := hr.units
  have h65 : (A.deeper (envOfC "show_ballot" (defScope (topS 26)) s.heap.objs.size f cdv)).units + 65 < cLine := by have := hr.un; omega
  have h1 := unl1 h64
  have h0 := unl0 h64
  have nd : N_show_ballot.Nodup := by decide
  exact (ss_cons (ss_expr (se_callD ((D_need_count_1 Y).mono (by decide)) hr hgd gx_pass rfl (sr_cons (se_tk (se_var 0)) sr_nil) (len_rCons len_rNil)))
    (ss_cons (ss_expr (se_callD ((D_need_ballot_2 Y).mono (by decide)) hr hgd gx_pass rfl (sr_cons (se_tk (se_var 0)) (sr_cons (se_tk (se_var 1)) sr_nil)) (len_rCons (len_rCons len_rNil))))
    (ss_one (ss_ret (se_callD ((D_joined_with_2 Y).mono (by decide)) hr hgd gx_pass rfl (sr_cons se_str (sr_cons (se_tk (se_var 1)) sr_nil)) (len_rCons (len_rCons len_rNil)))))))
theorem S_show_ballot : FnScope N_show_ballot ["count", "ballot"] (defScope (topS 26)) := ⟨rfl, rfl, rfl, by decide, rfl, by decide +kernel, by decide +kernel⟩
theorem D_show_ballot_2 (Y : Ctx K mg) : Dfn Pg w K mg base 4 "show_ballot" 2 F_show_ballot 2 [] := by
  obtain ⟨_, X, G⟩ := Y.ex
  obtain ⟨fd, FD⟩ := Y.c.def_ 17 (d := d_show_ballot)
  have hb : Binds K fd ["count", "ballot"] [] := FD.bindsN fun _ _ _ _ _ _ us h => by
    match us, h with
    | [a0, a1], _ => rfl
  exact ⟨⟨_, fd, ["count", "ballot"], [], He.glo_ok X G (Y.c.fact 17), FD.kp, fnG_D FD S_show_ballot rfl fun cdv  A outer s H E hr hgd => W_show_ballot Y  cdv  A outer s H E hr hgd, hb, .nil, rfl, rfl⟩⟩
def N_need_line : List Str := ["line", "count", "size"]
theorem W_need_line (Y : Ctx K mg) {f : Addr} (cdv : Value) (A : Around) (outer : List Env) (s : Shared) (H : Hp) (E : XK) (hr : Room 2 (A.deeper (envOfC "need_line" (defScope (topS 18)) s.heap.objs.size f cdv))) (hgd : A.guards = some []) :
    SSs (GX Pg w K mg base N_need_line "need_line" (defScope (topS 18)) f cdv A outer s H E) (GW E) [] (defBody (topS 18)) B_need_line := by
  have h64 : (A.deeper (envOfC "need_line" (defScope (topS 18)) s.heap.objs.size f cdv)).units + 64 < cLine := hr.units
  have h65 : (A.deeper (envOfC "need_line" (defScope (topS 18)) s.heap.objs.size f cdv)).units + 65 < cLine := by have := hr.un; omega
  have h1 := unl1 h64
  have h0 := unl0 h64
  have nd : N_need_line.Nodup := by decide
  exact (ss_cons (ss_set 2 nd rfl (by first | exact Or.inl rfl | exact Or.inr rfl) (by decide) (se_tk (se_if (st_w (sw_and (st_is (se_var 1) se_non) (sw_and1 (st_tru (se_isi (T := "list") (by decide +kernel) rfl (m_isinstance Y) rfl (m_list Y) (by decide +kernel) (se_var 0)))))) (se_b1 call_lenU c1_len rfl (m_len Y) (by decide +kernel) (se_var 0)) (se_var 1))))
    (ss_one (ss_if (st_w (sw_or (st_not (st_tru (se_callD ((D_is_integer_3 Y).mono (by decide)) hr hgd gx_pass rfl (sr_cons (se_tk (se_var 2)) (sr_cons se_int (sr_cons (se_tk (se_globI rfl (m_MOST_PLACES Y))) sr_nil))) (len_rCons (len_rCons (len_rCons len_rNil)))))) (sw_or1 (st_not (st_tru (se_callD ((D_is_each_once_2 Y).mono (by decide)) hr hgd gx_pass rfl (sr_cons (se_tk (se_var 2)) (sr_cons (se_tk (se_var 0)) sr_nil)) (len_rCons (len_rCons len_rNil)))))))) (ss_one (ss_raise rfl gx_takes (e_InvalidLine Y) rfl)) ss_nil)))
theorem S_need_line : FnScope N_need_line ["line", "count"] (defScope (topS 18)) := ⟨rfl, rfl, rfl, by decide, rfl, by decide +kernel, by decide +kernel⟩
theorem D_need_line_1 (Y : Ctx K mg) : Dfn Pg w K mg base 3 "need_line" 2 F_need_line 1 [.none] := by
  obtain ⟨_, X, G⟩ := Y.ex
  obtain ⟨fd, FD⟩ := Y.c.def_ 18 (d := d_need_line)
  have hb := FD.binds1 (ps := ["line", "count"]) 1 0 (fun z => nomatch z) rfl fun T kV doc pm an cdv ct us its h1 h2 => by
    match us, h1, its, h2 with
    | [a0], _, [b0], _ => exact ⟨_, rfl, rfl⟩
  obtain ⟨ds, r, hb⟩ := hb
  exact ⟨⟨_, fd, ["line", "count"], ds, He.glo_ok X G (Y.c.fact 18), FD.kp, fnG_D FD S_need_line rfl fun cdv A outer s H E hr hgd => W_need_line Y cdv A outer s H E hr hgd, hb, r, rfl, rfl⟩⟩
def N_show_line : List Str := ["line"]
theorem W_show_line (Y : Ctx K mg) {f : Addr} (cdv : Value) (A : Around) (outer : List Env) (s : Shared) (H : Hp) (E : XK) (hr : Room 3 (A.deeper (envOfC "show_line" (defScope (topS 27)) s.heap.objs.size f cdv))) (hgd : A.guards = some []) :
    SSs (GX Pg w K mg base N_show_line "show_line" (defScope (topS 27)) f cdv A outer s H E) (GW E) [] (defBody (topS 27)) B_show_line := by
  have h64 : (A.deeper (envOfC "show_line" (defScope (topS 27)) s.heap.objs.size f cdv)).units + 64 < cLine := hr.units
  have h65 : (A.deeper (envOfC "show_line" (defScope (topS 27)) s.heap.objs.size f cdv)).units + 65 < cLine := by have := hr.un; omega
  have h1 := unl1 h64
  have h0 := unl0 h64
  have nd : N_show_line.Nodup := by decide
  exact (ss_cons (ss_expr (se_callD ((D_need_line_1 Y).mono (by decide)) hr hgd gx_pass rfl (sr_cons (se_tk (se_var 0)) sr_nil) (len_rCons len_rNil)))
    (ss_one (ss_ret (se_callD ((D_joined_with_2 Y).mono (by decide)) hr hgd gx_pass rfl (sr_cons se_str (sr_cons (se_tk (se_var 0)) sr_nil)) (len_rCons (len_rCons len_rNil))))))
theorem S_show_line : FnScope N_show_line ["line"] (defScope (topS 27)) := ⟨rfl, rfl, rfl, by decide, rfl, by decide +kernel, by decide +kernel⟩
theorem D_show_line_1 (Y : Ctx K mg) : Dfn Pg w K mg base 4 "show_line" 1 F_show_line 1 [] := by
  obtain ⟨_, X, G⟩ := Y.ex
  obtain ⟨fd, FD⟩ := Y.c.def_ 19 (d := d_show_line)
  have hb : Binds K fd ["line"] [] := FD.bindsN fun _ _ _ _ _ _ us h => by
    match us, h with
    | [a0], _ => rfl
  exact ⟨⟨_, fd, ["line"], [], He.glo_ok X G (Y.c.fact 19), FD.kp, fnG_D FD S_show_line rfl fun cdv  A outer s H E hr hgd => W_show_line Y  cdv  A outer s H E hr hgd, hb, .nil, rfl, rfl⟩⟩
def N__law_joined : List Str := ["_law_sign", "_law_numbers", "_law_number"]
theorem W__law_joined (Y : Ctx K mg) {f : Addr} (cdv : Value) (A : Around) (outer : List Env) (s : Shared) (H : Hp) (E : XK) (hr : Room 0 (A.deeper (envOfC "_law_joined" (defScope (topS 38)) s.heap.objs.size f cdv))) (hgd : A.guards = some []) :
    SSs (GX Pg w K mg base N__law_joined "_law_joined" (defScope (topS 38)) f cdv A outer s H E) (GW E) [] (defBody (topS 38)) B__law_joined := by
  have h64 : (A.deeper (envOfC "_law_joined" (defScope (topS 38)) s.heap.objs.size f cdv)).units + 64 < cLine := hr.units
  have h65 : (A.deeper (envOfC "_law_joined" (defScope (topS 38)) s.heap.objs.size f cdv)).units + 65 < cLine := by have := hr.un; omega
  have h1 := unl1 h64
  have h0 := unl0 h64
  have nd : N__law_joined.Nodup := by decide
  exact (ss_one (ss_ret (se_join (se_var 0) (se_lc false rfl nd (si_seq (se_var 1)) (own := [("_law_number", 2)]) (by kernel_rfl) (by decide) (by decide) (fun _ _ _ _ _ => (sg_name 2 nd rfl (by first | exact Or.inl rfl | exact Or.inr rfl) (by decide))) (fun _ _ _ _ _ => sts_nil) (fun _ _ _ _ _ => (se_tk (se_t1 call_strU c1_str rfl (m_str Y) (by decide +kernel) (se_var 2))))))))
theorem S__law_joined : FnScope N__law_joined ["_law_sign", "_law_numbers"] (defScope (topS 38)) := ⟨rfl, rfl, rfl, by decide, rfl, by decide +kernel, by decide +kernel⟩
theorem D__law_joined_2 (Y : Ctx K mg) : Dfn Pg w K mg base 1 "_law_joined" 2 F__law_joined 2 [] := by
  obtain ⟨_, X, G⟩ := Y.ex
  obtain ⟨fd, FD⟩ := Y.c.def_ 20 (d := d__law_joined)
  have hb : Binds K fd ["_law_sign", "_law_numbers"] [] := FD.bindsN fun _ _ _ _ _ _ us h => by
    match us, h with
    | [a0, a1], _ => rfl
  exact ⟨⟨_, fd, ["_law_sign", "_law_numbers"], [], He.glo_ok X G (Y.c.fact 20), FD.kp, fnG_D FD S__law_joined rfl fun cdv  A outer s H E hr hgd => W__law_joined Y  cdv  A outer s H E hr hgd, hb, .nil, rfl, rfl⟩⟩
def N_read_all : List Str := ["count", "text", "sign", "found"]
theorem W_read_all (Y : Ctx K mg) {f : Addr} (cdv : Value) (A : Around) (outer : List Env) (s : Shared) (H : Hp) (E : XK) (hr : Room 3 (A.deeper (envOfC "read_all" (defScope (topS 30)) s.heap.objs.size f cdv))) (hgd : A.guards = some []) :
    SSs (GX Pg w K mg base N_read_all "read_all" (defScope (topS 30)) f cdv A outer s H E) (GW E) [] (defBody (topS 30)) B_read_all := by
  have h64 : (A.deeper (envOfC "read_all" (defScope (topS 30)) s.heap.objs.size f cdv)).units + 64 < cLine := hr.units
  have h65 : (A.deeper (envOfC "read_all" (defScope (topS 30)) s.heap.objs.size f cdv)).units + 65 < cLine := by have := hr.un; omega
  have h1 := unl1 h64
  have h0 := unl0 h64
  have nd : N_read_all.Nodup := by decide
  exact (ss_cons (ss_expr (se_callD ((D_need_text_1 Y).mono (by decide)) hr hgd gx_pass rfl (sr_cons (se_tk (se_var 1)) sr_nil) (len_rCons len_rNil)))
    (ss_cons (ss_set 3 nd rfl (by first | exact Or.inl rfl | exact Or.inr rfl) (by decide) (se_callD ((D_places_in_3 Y).mono (by decide)) hr hgd gx_pass rfl (sr_cons (se_tk (se_var 0)) (sr_cons (se_tk (se_var 1)) (sr_cons (se_tk (se_var 2)) sr_nil))) (len_rCons (len_rCons (len_rCons len_rNil)))))
    (ss_cons (ss_if (st_is (se_var 3) se_non) (ss_one ss_never) ss_nil)
    (ss_one (ss_ret (se_var 3))))))
theorem S_read_all : FnScope N_read_all ["count", "text", "sign"] (defScope (topS 30)) := ⟨rfl, rfl, rfl, by decide, rfl, by decide +kernel, by decide +kernel⟩
theorem D_read_all_3 (Y : Ctx K mg) : Dfn Pg w K mg base 4 "read_all" 3 F_read_all 3 [] := by
  obtain ⟨_, X, G⟩ := Y.ex
  obtain ⟨fd, FD⟩ := Y.c.def_ 21 (d := d_read_all)
  have hb : Binds K fd ["count", "text", "sign"] [] := FD.bindsN fun _ _ _ _ _ _ us h => by
    match us, h with
    | [a0, a1, a2], _ => rfl
  exact ⟨⟨_, fd, ["count", "text", "sign"], [], He.glo_ok X G (Y.c.fact 21), FD.kp, fnG_D FD S_read_all rfl fun cdv  A outer s H E hr hgd => W_read_all Y  cdv  A outer s H E hr hgd, hb, .nil, rfl, rfl⟩⟩
def N_read_ballot : List Str := ["count", "text"]
theorem W_read_ballot (Y : Ctx K mg) {f : Addr} (cdv : Value) (A : Around) (outer : List Env) (s : Shared) (H : Hp) (E : XK) (hr : Room 4 (A.deeper (envOfC "read_ballot" (defScope (topS 31)) s.heap.objs.size f cdv))) (hgd : A.guards = some []) :
    SSs (GX Pg w K mg base N_read_ballot "read_ballot" (defScope (topS 31)) f cdv A outer s H E) (GW E) [] (defBody (topS 31)) B_read_ballot := by
  have h64 : (A.deeper (envOfC "read_ballot" (defScope (topS 31)) s.heap.objs.size f cdv)).units + 64 < cLine := hr.units
  have h65 : (A.deeper (envOfC "read_ballot" (defScope (topS 31)) s.heap.objs.size f cdv)).units + 65 < cLine := by have := hr.un; omega
  have h1 := unl1 h64
  have h0 := unl0 h64
  have nd : N_read_ballot.Nodup := by decide
  exact (ss_cons (ss_expr (se_callD ((D_need_count_1 Y).mono (by decide)) hr hgd gx_pass rfl (sr_cons (se_tk (se_var 0)) sr_nil) (len_rCons len_rNil)))
    (ss_one (ss_ret (se_callD ((D_read_all_3 Y).mono (by decide)) hr hgd gx_pass rfl (sr_cons (se_tk (se_var 0)) (sr_cons (se_tk (se_var 1)) (sr_cons se_str sr_nil))) (len_rCons (len_rCons (len_rCons len_rNil)))))))
theorem S_read_ballot : FnScope N_read_ballot ["count", "text"] (defScope (topS 31)) := ⟨rfl, rfl, rfl, by decide, rfl, by decide +kernel, by decide +kernel⟩
theorem D_read_ballot_2 (Y : Ctx K mg) : Dfn Pg w K mg base 5 "read_ballot" 2 F_read_ballot 2 [] := by
  obtain ⟨_, X, G⟩ := Y.ex
  obtain ⟨fd, FD⟩ := Y.c.def_ 22 (d := d_read_ballot)
  have hb : Binds K fd ["count", "text"] [] := FD.bindsN fun _ _ _ _ _ _ us h => by
    match us, h with
    | [a0, a1], _ => rfl
  exact ⟨⟨_, fd, ["count", "text"], [], He.glo_ok X G (Y.c.fact 22), FD.kp, fnG_D FD S_read_ballot rfl fun cdv  A outer s H E hr hgd => W_read_ballot Y  cdv  A outer s H E hr hgd, hb, .nil, rfl, rfl⟩⟩
def N_read_line : List Str := ["count", "text"]
theorem W_read_line (Y : Ctx K mg) {f : Addr} (cdv : Value) (A : Around) (outer : List Env) (s : Shared) (H : Hp) (E : XK) (hr : Room 4 (A.deeper (envOfC "read_line" (defScope (topS 32)) s.heap.objs.size f cdv))) (hgd : A.guards = some []) :
    SSs (GX Pg w K mg base N_read_line "read_line" (defScope (topS 32)) f cdv A outer s H E) (GW E) [] (defBody (topS 32)) B_read_line := by
  have h64 : (A.deeper (envOfC "read_line" (defScope (topS 32)) s.heap.objs.size f cdv)).units + 64 < cLine := hr.units
  have h65 : (A.deeper (envOfC "read_line" (defScope (topS 32)) s.heap.objs.size f cdv)).units + 65 < cLine := by have := hr.un; omega
  have h1 := unl1 h64
  have h0 := unl0 h64
  have nd : N_read_line.Nodup := by decide
  exact (ss_cons (ss_expr (se_callD ((D_need_count_1 Y).mono (by decide)) hr hgd gx_pass rfl (sr_cons (se_tk (se_var 0)) sr_nil) (len_rCons len_rNil)))
    (ss_one (ss_ret (se_callD ((D_read_all_3 Y).mono (by decide)) hr hgd gx_pass rfl (sr_cons (se_tk (se_var 0)) (sr_cons (se_tk (se_var 1)) (sr_cons se_str sr_nil))) (len_rCons (len_rCons (len_rCons len_rNil)))))))
theorem S_read_line : FnScope N_read_line ["count", "text"] (defScope (topS 32)) := ⟨rfl, rfl, rfl, by decide, rfl, by decide +kernel, by decide +kernel⟩
theorem D_read_line_2 (Y : Ctx K mg) : Dfn Pg w K mg base 5 "read_line" 2 F_read_line 2 [] := by
  obtain ⟨_, X, G⟩ := Y.ex
  obtain ⟨fd, FD⟩ := Y.c.def_ 23 (d := d_read_line)
  have hb : Binds K fd ["count", "text"] [] := FD.bindsN fun _ _ _ _ _ _ us h => by
    match us, h with
    | [a0, a1], _ => rfl
  exact ⟨⟨_, fd, ["count", "text"], [], He.glo_ok X G (Y.c.fact 23), FD.kp, fnG_D FD S_read_line rfl fun cdv  A outer s H E hr hgd => W_read_line Y  cdv  A outer s H E hr hgd, hb, .nil, rfl, rfl⟩⟩
def N_read_ballots_b : List Str := ["count", "text", "ballots", "voters", "number", "row", "head", "sign", "rest", "many", "ballot"]
theorem WP_read_ballots (Y : Ctx K mg) {f : Addr} (cdv : Value) (A : Around) (outer : List Env) (s : Shared) (H : Hp) (E : XK) (hr : Room 3 (A.deeper (envOfC "read_ballots" (defScope (topS 33)) s.heap.objs.size f cdv))) (hgd : A.guards = some []) :
    PSs (GX Pg w K mg base N_read_ballots_b "read_ballots" (defScope (topS 33)) f cdv A outer s H E) (defBody (topS 33)) (tFront K mg (GW E) [] B_read_ballots_b (tPairRet 2 3)) := by
  have h64 : (A.deeper (envOfC "read_ballots" (defScope (topS 33)) s.heap.objs.size f cdv)).units + 64 < cLine := hr.units
  have h65 : (A.deeper (envOfC "read_ballots" (defScope (topS 33)) s.heap.objs.size f cdv)).units + 65 < cLine := by have := hr.un; omega
  have h1 := unl1 h64
  have h0 := unl0 h64
  have nd : N_read_ballots_b.Nodup := by decide
  exact (front_cons (ss_expr (se_callD ((D_need_count_1 Y).mono (by decide)) hr hgd gx_pass rfl (sr_cons (se_tk (se_var 0)) sr_nil) (len_rCons len_rNil)))
    (front_cons (ss_expr (se_callD ((D_need_text_1 Y).mono (by decide)) hr hgd gx_pass rfl (sr_cons (se_tk (se_var 1)) sr_nil) (len_rCons len_rNil)))
    (front_cons (ss_par2 rfl nd rfl rfl (by decide) (by decide) rfl rfl (sr_cons (se_lst sa_nil) (sr_cons (se_lst sa_nil) sr_nil)))
    (front_one (ss_for (passes_of rfl) rfl (si_enum rfl (m_enumerate Y) (se_if (st_neS (se_var 1) se_str) (se_split (se_var 1) se_str) (se_lst sa_nil))) (sg_tup rfl (sgs_cons (sg_name 4 nd rfl (by first | exact Or.inl rfl | exact Or.inr rfl) (by decide)) (sgs_cons (sg_name 5 nd rfl (by first | exact Or.inl rfl | exact Or.inr rfl) (by decide)) sgs_nil))) (ss_cons (ss_asg (se_part (se_var 5) se_str) (sg_tup rfl (sgs_cons (sg_name 6 nd rfl (by first | exact Or.inl rfl | exact Or.inr rfl) (by decide)) (sgs_cons (sg_name 7 nd rfl (by first | exact Or.inl rfl | exact Or.inr rfl) (by decide)) (sgs_cons (sg_name 8 nd rfl (by first | exact Or.inl rfl | exact Or.inr rfl) (by decide)) sgs_nil)))))
    (ss_cons (ss_par2 rfl nd rfl rfl (by decide) (by decide) rfl rfl (sr_cons (se_tk (se_callD ((D_number_in_1 Y).mono (by decide)) hr hgd gx_pass rfl (sr_cons (se_tk (se_var 6)) sr_nil) (len_rCons len_rNil))) (sr_cons (se_callD ((D_places_in_3 Y).mono (by decide)) hr hgd gx_pass rfl (sr_cons (se_tk (se_var 0)) (sr_cons (se_tk (se_var 8)) (sr_cons se_str sr_nil))) (len_rCons (len_rCons (len_rCons len_rNil)))) sr_nil)))
    (ss_cons (ss_if (st_w (sw_or (st_is (se_var 9) se_non) (sw_or (st_gt (se_var 9) (se_globI rfl (m_MOST_VOTERS Y))) (sw_or (st_is (se_var 10) se_non) (sw_or1 (st_eq h64 (se_var 4) (se_globI rfl (m_MOST_BALLOTS Y)))))))) (ss_one ss_never) ss_nil)
    (ss_cons (ss_expr (se_appW (se_var 2) (se_mv (se_var 10))))
    (ss_one (ss_expr (se_app (se_var 3) (se_var 9))))))))) (pss_one (ps_ret (pe_tup (pa_cons (pe_var rfl (by first | exact Or.inl rfl | exact Or.inr (Or.inl rfl) | exact Or.inr (Or.inr rfl))) (pa_cons (pe_var rfl (by first | exact Or.inl rfl | exact Or.inr (Or.inl rfl) | exact Or.inr (Or.inr rfl))) pa_nil)))))))))
theorem SP_read_ballots : FnScope N_read_ballots_b ["count", "text"] (defScope (topS 33)) := ⟨rfl, rfl, rfl, by decide, rfl, by decide +kernel, by decide +kernel⟩
theorem DP_read_ballots (Y : Ctx K mg) : DfnP Pg w K mg base 4 "read_ballots" ["count", "text"] (spP K 2 (pairF B_read_ballots_b 2 11 2 3)) := by
  obtain ⟨_, X, G⟩ := Y.ex
  obtain ⟨fd, FD⟩ := Y.c.def_ 6 (d := d_read_ballots)
  have hb : Binds K fd ["count", "text"] [] := FD.bindsN fun _ _ _ _ _ _ us h => by
    match us, h with
    | [a0, a1], _ => rfl
  exact ⟨⟨_, fd, He.glo_ok X G (Y.c.fact 6), FD.kp, fnG_P FD SP_read_ballots rfl (by decide) fun cdv A outer s H E hr hgd => WP_read_ballots Y cdv A outer s H E hr hgd, hb⟩⟩
def N__law_right : List Str := ["_law_purse_here", "_law_count", "_law_most", "_law_ballots", "_law_voters", "_law_kept", "_law_texts_here", "_law_rows", "_law_due", "_law_turn", "_law_ballot", "_law_line_here", "_law_told", "_law_row", "_law_many_here"]
theorem W__law_right (Y : Ctx K mg) {f : Addr} (cdv : Value) (A : Around) (outer : List Env) (s : Shared) (H : Hp) (E : XK) (hr : Room 5 (A.deeper (envOfC "_law_right" (defScope (topS 40)) s.heap.objs.size f cdv))) (hgd : A.guards = some []) :
    SSs (GX Pg w K mg base N__law_right "_law_right" (defScope (topS 40)) f cdv A outer s H E) (GW E) [0] (defBody (topS 40)) B__law_right_v25 := by
  have h64 : (A.deeper (envOfC "_law_right" (defScope (topS 40)) s.heap.objs.size f cdv)).units + 64 < cLine := hr.units
  have h65 : (A.deeper (envOfC "_law_right" (defScope (topS 40)) s.heap.objs.size f cdv)).units + 65 < cLine := by have := hr.un; omega
  have h1 := unl1 h64
  have h0 := unl0 h64
  have nd : N__law_right.Nodup := by decide
  exact (ss_cons (ss_par2 rfl nd rfl rfl (by decide) (by decide) rfl rfl (sr_cons (se_tk (se_callD ((D__law_line_2 Y).mono (by decide)) hr hgd gx_pass rfl (sr_io 0 rfl (by first | exact Or.inl rfl | exact Or.inr (Or.inl rfl) | exact Or.inr (Or.inr rfl)) (sr_cons (se_tk (se_var 1)) sr_nil)) (len_rIo (len_rCons len_rNil)))) (sr_cons (se_tk (se_callD ((D__law_line_2 Y).mono (by decide)) hr hgd gx_pass rfl (sr_io 0 rfl (by first | exact Or.inl rfl | exact Or.inr (Or.inl rfl) | exact Or.inr (Or.inr rfl)) (sr_cons (se_tk (se_var 1)) sr_nil)) (len_rIo (len_rCons len_rNil)))) sr_nil)))
    (ss_cons (ss_setLcT false (i := 3) rfl nd rfl rfl (by decide) (sw_true rfl rfl rfl rfl) (si_rng1 rfl (m_range Y) (se_callD ((D__law_coin_2 Y).mono (by decide)) hr hgd gx_pass rfl (sr_io 0 rfl (by first | exact Or.inl rfl | exact Or.inr (Or.inl rfl) | exact Or.inr (Or.inr rfl)) (sr_cons (se_tk (se_add (se_var 2) se_int)) sr_nil)) (len_rIo (len_rCons len_rNil)))) (own := [("_law_turn", 9)]) (by kernel_rfl) (by decide) (by decide) (fun _ _ _ _ _ => (sg_name 9 nd rfl (by first | exact Or.inl rfl | exact Or.inr rfl) (by decide))) (fun _ _ _ _ _ => sts_nil) (fun _ _ _ _ _ => (se_tk (se_callD ((D__law_line_2 Y).mono (by decide)) hr hgd w0_pass rfl (sr_io 0 rfl (by first | exact Or.inl rfl | exact Or.inr (Or.inl rfl) | exact Or.inr (Or.inr rfl)) (sr_cons (se_tk (se_var 1)) sr_nil)) (len_rIo (len_rCons len_rNil))))))
    (ss_cons (ss_setLcT false (i := 4) rfl nd rfl rfl (by decide) (sw_true rfl rfl rfl rfl) (si_seq (se_var 3)) (own := [("_law_row", 13)]) (by kernel_rfl) (by decide) (by decide) (fun _ _ _ _ _ => (sg_name 13 nd rfl (by first | exact Or.inl rfl | exact Or.inr rfl) (by decide))) (fun _ _ _ _ _ => sts_nil) (fun _ _ _ _ _ => (se_tk (se_callD ((D__law_many_1 Y).mono (by decide)) hr hgd w0_pass rfl (sr_io 0 rfl (by first | exact Or.inl rfl | exact Or.inr (Or.inl rfl) | exact Or.inr (Or.inr rfl)) sr_nil) (len_rIo len_rNil)))))
    (ss_cons (ss_set 5 nd rfl (by first | exact Or.inl rfl | exact Or.inr rfl) (by decide) (se_tk (se_b1 (call_reprT h64 hgd) c1_repr rfl (m_repr Y) (by decide +kernel) (se_lst (sa_cons (se_var 10) (sa_cons (se_var 11) (sa_cons (se_var 3) (sa_cons (se_var 4) sa_nil))))))))
    (ss_cons (ss_set 6 nd rfl (by first | exact Or.inl rfl | exact Or.inr rfl) (by decide) (se_tk (se_lst (sa_cons (se_callD ((D_show_ballot_2 Y).mono (by decide)) hr hgd gx_pass rfl (sr_cons (se_tk (se_var 1)) (sr_cons (se_tk (se_var 10)) sr_nil)) (len_rCons (len_rCons len_rNil))) (sa_cons (se_callD ((D_show_line_1 Y).mono (by decide)) hr hgd gx_pass rfl (sr_cons (se_tk (se_var 11)) sr_nil) (len_rCons len_rNil)) (sa_cons (se_callD ((D_show_ballots_3 Y).mono (by decide)) hr hgd gx_pass rfl (sr_cons (se_tk (se_var 1)) (sr_cons (se_tk (se_var 3)) (sr_cons (se_tk (se_var 4)) sr_nil))) (len_rCons (len_rCons (len_rCons len_rNil)))) sa_nil))))))
    (ss_cons (ss_setLcT false (i := 7) rfl nd rfl rfl (by decide) (sw_true rfl rfl rfl rfl) (si_zip rfl (m_zip Y) (se_var 3) (se_var 4)) (own := [("_law_row", 13), ("_law_many_here", 14)]) (by kernel_rfl) (by decide) (by decide) (fun _ _ _ _ _ => (sg_tup rfl (sgs_cons (sg_name 13 nd rfl (by first | exact Or.inl rfl | exact Or.inr rfl) (by decide)) (sgs_cons (sg_name 14 nd rfl (by first | exact Or.inl rfl | exact Or.inr rfl) (by decide)) sgs_nil)))) (fun _ _ _ _ _ => sts_nil) (fun _ _ _ _ _ => (se_tk (se_add (se_add (se_t1 call_strU c1_str rfl (m_str Y) (by decide +kernel) (se_var 14)) se_str) (se_callD ((D__law_joined_2 Y).mono (by decide)) hr hgd w0_pass rfl (sr_cons se_str (sr_cons (se_tk (se_var 13)) sr_nil)) (len_rCons (len_rCons len_rNil)))))))
    (ss_cons (ss_if (st_ne h64 (se_var 6) (se_lst (sa_cons (se_callD ((D__law_joined_2 Y).mono (by decide)) hr hgd gx_pass rfl (sr_cons se_str (sr_cons (se_tk (se_var 10)) sr_nil)) (len_rCons (len_rCons len_rNil))) (sa_cons (se_callD ((D__law_joined_2 Y).mono (by decide)) hr hgd gx_pass rfl (sr_cons se_str (sr_cons (se_tk (se_var 11)) sr_nil)) (len_rCons (len_rCons len_rNil))) (sa_cons (se_joinC (se_var 7)) sa_nil))))) (ss_one (ss_ret se_bl)) ss_nil)
    (ss_cons (ss_set 8 nd rfl (by first | exact Or.inl rfl | exact Or.inr rfl) (by decide) (se_tk (se_b1 (call_reprT h64 hgd) c1_repr rfl (m_repr Y) (by decide +kernel) (se_lst (sa_cons (se_var 10) (sa_cons (se_var 11) (sa_cons (se_tup (sa_cons (se_var 3) (sa_cons (se_var 4) sa_nil))) sa_nil)))))))
    (ss_cons (ss_for (passes_of rfl) rfl (si_rng1 rfl (m_range Y) se_int) (sg_name 9 nd rfl (by first | exact Or.inl rfl | exact Or.inr rfl) (by decide)) (sss_told (it := 6) (ic := 1) (iz := 8) (ix := 12) (ir := 13) (w := "?") (by decide) (by decide) (by decide) (by decide) (by decide) (by decide) (by decide) (ps_set nd rfl (by first | exact Or.inl rfl | exact Or.inr rfl) (pe_lst (pa_cons (se_callD ((D_read_ballot_2 Y).mono (by decide)) hr hgd gx_pass rfl (sr_cons (se_tk (se_var 1)) (sr_cons (se_tk (se_ix2 h64 (se_var 6) se_int)) sr_nil)) (len_rCons (len_rCons len_rNil))) (pa_cons (se_callD ((D_read_line_2 Y).mono (by decide)) hr hgd gx_pass rfl (sr_cons (se_tk (se_var 1)) (sr_cons (se_tk (se_ix2 h64 (se_var 6) se_int)) sr_nil)) (len_rCons (len_rCons len_rNil))) (pa_cons (pe_callPD ((DP_read_ballots Y).mono (by decide)) hr hgd gx_pass rfl (pa_cons (pe_var rfl (by first | exact Or.inl rfl | exact Or.inr (Or.inl rfl) | exact Or.inr (Or.inr rfl))) (pa_cons (pe_ixK (pe_var rfl (by first | exact Or.inl rfl | exact Or.inr (Or.inl rfl) | exact Or.inr (Or.inr rfl)))) pa_nil))) pa_nil))))) (ps_look h64 hgd rfl (by first | exact Or.inl rfl | exact Or.inr (Or.inl rfl) | exact Or.inr (Or.inr rfl)) rfl (by first | exact Or.inl rfl | exact Or.inr (Or.inl rfl) | exact Or.inr (Or.inr rfl)) rfl (m_repr Y)) (ps_app1 (pe_ixK (pe_var rfl (by first | exact Or.inl rfl | exact Or.inr (Or.inl rfl) | exact Or.inr (Or.inr rfl))))) (ps_app1 (pe_ixK (pe_var rfl (by first | exact Or.inl rfl | exact Or.inr (Or.inl rfl) | exact Or.inr (Or.inr rfl))))) (ps_app1 (pe_ixK (pe_ixK (pe_var rfl (by first | exact Or.inl rfl | exact Or.inr (Or.inl rfl) | exact Or.inr (Or.inr rfl)))))) (ps_app1 (pe_ixK (pe_ixK (pe_var rfl (by first | exact Or.inl rfl | exact Or.inr (Or.inl rfl) | exact Or.inr (Or.inr rfl)))))) (ps_loopK (passes_of rfl) rfl nd rfl (by first | exact Or.inl rfl | exact Or.inr rfl) (by first | exact Or.inl rfl | exact Or.inr (Or.inl rfl) | exact Or.inr (Or.inr rfl)) (pe_ixK (pe_ixK (pe_var rfl (by first | exact Or.inl rfl | exact Or.inr (Or.inl rfl) | exact Or.inr (Or.inr rfl))))))
    (ss_one (ss_if (st_neE h64 (se_lc false rfl nd (si_seq (se_sl (se_ix2 h64 (se_ix2 h64 (se_var 12) se_int) se_int) .no (.yes (se_neg se_int)))) (own := [("_law_row", 13)]) (by kernel_rfl) (by decide) (by decide) (fun _ _ _ _ _ => (sg_name 13 nd rfl (by first | exact Or.inl rfl | exact Or.inr rfl) (by decide))) (fun _ _ _ _ _ => (sts_one (st_ne h64 (se_b1 call_lenU c1_len rfl (m_len Y) (by decide +kernel) (se_var 13)) (se_add (se_var 1) se_int)))) (fun _ _ _ _ _ => (se_tk se_int))) (se_lst sa_nil)) (ss_one (ss_ret se_bl)) ss_nil))))
    (ss_one (ss_ret (se_eqS (se_b1 (call_reprT h64 hgd) c1_repr rfl (m_repr Y) (by decide +kernel) (se_lst (sa_cons (se_var 10) (sa_cons (se_var 11) (sa_cons (se_var 3) (sa_cons (se_var 4) sa_nil)))))) (se_var 5)))))))))))))
theorem S__law_right : FnScope N__law_right ["_law_purse_here", "_law_count", "_law_most"] (defScope (topS 40)) := ⟨rfl, rfl, rfl, by decide, rfl, by decide +kernel, by decide +kernel⟩
theorem D__law_right_3 (Y : Ctx K mg) : Dfn Pg w K mg base 6 "_law_right" 3 F__law_right_v25 3 [] := by
  obtain ⟨_, X, G⟩ := Y.ex
  obtain ⟨fd, FD⟩ := Y.c.def_ 24 (d := d__law_right)
  have hb : Binds K fd ["_law_purse_here", "_law_count", "_law_most"] [] := FD.bindsN fun _ _ _ _ _ _ us h => by
    match us, h with
    | [a0, a1, a2], _ => rfl
  exact ⟨⟨_, fd, ["_law_purse_here", "_law_count", "_law_most"], [], He.glo_ok X G (Y.c.fact 24), FD.kp, fnG_D FD S__law_right rfl fun cdv  A outer s H E hr hgd => W__law_right Y  cdv  A outer s H E hr hgd, hb, .nil, rfl, rfl⟩⟩
def N_law : List Str := ["_law_script", "_law_k", "_law_rows", "_law_told", "_law_purse_here", "_law_count", "_law_most", "_law_turn"]
theorem W_law (Y : Ctx K mg) {f : Addr} (cdv : Value) (A : Around) (outer : List Env) (s : Shared) (H : Hp) (E : XK) (hr : Room 6 (A.deeper (envOfC "law" (defScope (topS 41)) s.heap.objs.size f cdv))) (hgd : A.guards = some []) :
    SSs (GX Pg w K mg base N_law "law" (defScope (topS 41)) f cdv A outer s H E) (GW E) [] (defBody (topS 41)) B_law_v26 := by
  have h64 : (A.deeper (envOfC "law" (defScope (topS 41)) s.heap.objs.size f cdv)).units + 64 < cLine := hr.units
  have h65 : (A.deeper (envOfC "law" (defScope (topS 41)) s.heap.objs.size f cdv)).units + 65 < cLine := by have := hr.un; omega
  have h1 := unl1 h64
  have h0 := unl0 h64
  have nd : N_law.Nodup := by decide
  exact (ss_cons (ss_for (passes_of rfl) rfl (si_rng1 rfl (m_range Y) (se_b2 (call_max2 rfl) c2_i rfl (m_max Y) (by decide +kernel) se_int (se_b2 (call_min2 rfl) c2_i rfl (m_min Y) (by decide +kernel) se_int (se_b1 call_lenU c1_len rfl (m_len Y) (by decide +kernel) (se_var 0))))) (sg_name 1 nd rfl (by first | exact Or.inl rfl | exact Or.inr rfl) (by decide)) (ss_cons (ss_set 4 nd rfl (by first | exact Or.inl rfl | exact Or.inr rfl) (by decide) (se_callD ((D__law_purse_2 Y).mono (by decide)) hr hgd gx_pass rfl (sr_cons (se_tk (se_var 0)) (sr_cons (se_tk (se_var 1)) sr_nil)) (len_rCons (len_rCons len_rNil))))
    (ss_one (ss_for (passes_of rfl) rfl (si_seq (se_lst (sa_cons (se_tup (sa_cons se_int (sa_cons se_int sa_nil))) (sa_cons (se_tup (sa_cons se_int (sa_cons se_int sa_nil))) (sa_cons (se_tup (sa_cons se_int (sa_cons se_int sa_nil))) (sa_cons (se_tup (sa_cons se_int (sa_cons se_int sa_nil))) (sa_cons (se_tup (sa_cons se_int (sa_cons se_int sa_nil))) sa_nil))))))) (sg_tup rfl (sgs_cons (sg_name 5 nd rfl (by first | exact Or.inl rfl | exact Or.inr rfl) (by decide)) (sgs_cons (sg_name 6 nd rfl (by first | exact Or.inl rfl | exact Or.inr rfl) (by decide)) sgs_nil))) (ss_one (ss_if (st_not (st_tru (se_callD ((D__law_right_3 Y).mono (by decide)) hr hgd gx_pass rfl (sr_io 4 rfl (by first | exact Or.inl rfl | exact Or.inr (Or.inl rfl) | exact Or.inr (Or.inr rfl)) (sr_cons (se_tk (se_var 5)) (sr_cons (se_tk (se_var 6)) sr_nil))) (len_rIo (len_rCons (len_rCons len_rNil)))))) (ss_one (ss_ret se_bl)) ss_nil))))))
    (ss_cons (ss_setLcT false (i := 2) rfl nd rfl rfl (by decide) (sw_true rfl rfl rfl rfl) (si_rng1 rfl (m_range Y) se_int) (own := [("_law_turn", 7)]) (by kernel_rfl) (by decide) (by decide) (fun _ _ _ _ _ => (sg_name 7 nd rfl (by first | exact Or.inl rfl | exact Or.inr rfl) (by decide))) (fun _ _ _ _ _ => sts_nil) (fun _ _ _ _ _ => (se_tk (se_lrg1 rfl rfl (m_list Y) rfl (m_range Y) se_int))))
    (ss_cons (ss_set 3 nd rfl (by first | exact Or.inl rfl | exact Or.inr rfl) (by decide) (se_tk (se_callD ((D_read_ballots_2 Y).mono (by decide)) hr hgd gx_pass rfl (sr_cons se_int (sr_cons (se_tk (se_callD ((D_show_ballots_3 Y).mono (by decide)) hr hgd gx_pass rfl (sr_cons se_int (sr_cons (se_tk (se_var 2)) (sr_cons (se_tk (se_mul (se_lst (sa_cons (se_powW se_int se_int) sa_nil)) se_int)) sr_nil))) (len_rCons (len_rCons (len_rCons len_rNil))))) sr_nil)) (len_rCons (len_rCons len_rNil)))))
    (ss_one (ss_ret (se_and (se_eq h64 (se_var 3) (se_tup (sa_cons (se_var 2) (sa_cons (se_mul (se_lst (sa_cons (se_powW se_int se_int) sa_nil)) se_int) sa_nil)))) (se_and (se_eqS (se_callD ((D_show_ballots_3 Y).mono (by decide)) hr hgd gx_pass rfl (sr_cons se_int (sr_cons (se_tk (se_lst sa_nil)) (sr_cons (se_tk (se_lst sa_nil)) sr_nil))) (len_rCons (len_rCons (len_rCons len_rNil)))) se_str) (se_oneA (se_eq h64 (se_callD ((D_read_ballots_2 Y).mono (by decide)) hr hgd gx_pass rfl (sr_cons se_int (sr_cons se_str sr_nil)) (len_rCons (len_rCons len_rNil))) (se_tup (sa_cons (se_lst sa_nil) (sa_cons (se_lst sa_nil) sa_nil))))))))))))
theorem S_law : FnScope N_law ["_law_script"] (defScope (topS 41)) := ⟨rfl, rfl, rfl, by decide, rfl, by decide +kernel, by decide +kernel⟩
end K48
namespace Lw
open PySem Hb Nv L2
variable {α β γ σ ρ ζ : Type}
theorem bnd {p : Option α} {x : α} {f : α → Option β} {y : β} (h : p = some x) (h2 : f x = some y) : p.bind f = some y := by rw [h]; exact h2
theorem forS_inv (b : σ → α → Option σ) (P : Nat → σ → Prop) : ∀ (xs : List α) (k : Nat) (s : σ), P k s → (∀ (i : Nat) (x : α) (s : σ), xs[i]? = some x → P (k + i) s → ∃ s', b s x = some s' ∧ P (k + i + 1) s') → ∃ s', forS xs s b = some s' ∧ P (k + xs.length) s'
  | [], k, s, h, _ => ⟨s, rfl, h⟩
  | x :: r, k, s, h, hb => by
    obtain ⟨s1, e1, h1⟩ := hb 0 x s rfl h
    obtain ⟨s2, e2, h2⟩ := forS_inv b P r (k + 1) s1 h1 (fun i y s hy hp => by
      have e : k + 1 + i = k + (i + 1) := by omega
      rw [e] at hp ⊢
      exact hb (i + 1) y s (by simpa using hy) hp)
    refine ⟨s2, ?_, ?_⟩
    · show (b s x).bind _ = _
      rw [e1]; exact e2
    · rw [List.length_cons, show k + (r.length + 1) = k + 1 + r.length by omega]; exact h2
theorem forF_nx (b : σ → α → Option (Fl ρ σ)) (s : σ) : ∀ (xs : List α), (∀ x ∈ xs, b s x = some (.nx s)) → forF xs s b = some (.nx s)
  | [], _ => rfl
  | x :: r, h => by
    show (b s x).bind _ = _
    rw [h x (by simp)]
    exact forF_nx b s r fun y hy => h y (by simp [hy])
theorem mapF_ok (c : α → Option Bool) (g : α → Option γ) (p : α → Bool) (f : α → γ) : ∀ (xs : List α), (∀ x ∈ xs, c x = some (p x)) → (∀ x ∈ xs, p x = true → g x = some (f x)) → mapF xs c g = some ((xs.filter p).map f)
  | [], _, _ => rfl
  | x :: r, hc, hg => by
    have ih := mapF_ok c g p f r (fun y hy => hc y (by simp [hy])) (fun y hy => hg y (by simp [hy]))
    show (c x).bind _ = _
    rw [hc x (by simp), List.filter_cons]
    cases hp : p x with
    | true =>
      show (g x).bind _ = _
      rw [hg x (by simp) hp]
      show (mapF r c g).bind _ = _
      rw [ih]; rfl
    | false =>
      show mapF r c g = _
      rw [ih]; rfl
theorem mapT_ok (g : α → Option γ) (f : α → γ) (xs : List α) (hg : ∀ x ∈ xs, g x = some (f x)) : mapF xs (fun _ => some true) g = some (xs.map f) := by
  rw [mapF_ok (fun _ => some true) g (fun _ => true) f xs (fun _ _ => rfl) (fun x hx _ => hg x hx)]
  rw [List.filter_eq_self.mpr (fun _ _ => rfl)]
theorem whS_inv (c : σ → Option Bool) (b : σ → Option σ) (I : σ → Prop) (t : σ → Bool) (m : σ → Nat) (hc : ∀ s, I s → c s = some (t s)) (hb : ∀ s, I s → t s = true → ∃ s', b s = some s' ∧ I s' ∧ m s' < m s) : ∀ (n : Nat) (s : σ), I s → m s < n → ∃ s', whS n s c b = some s' ∧ I s' ∧ t s' = false
  | 0, s, _, h => absurd h (Nat.not_lt_zero _)
  | n + 1, s, hi, hm => by
    cases ht : t s with
    | false =>
      refine ⟨s, ?_, hi, ht⟩
      show (c s).bind _ = _
      rw [hc s hi, ht]; rfl
    | true =>
      obtain ⟨s1, e1, i1, m1⟩ := hb s hi ht
      obtain ⟨s2, e2, i2, t2⟩ := whS_inv c b I t m hc hb n s1 i1 (by omega)
      refine ⟨s2, ?_, i2, t2⟩
      show (c s).bind _ = _
      rw [hc s hi, ht]
      show (b s).bind _ = _
      rw [e1]; exact e2
def Wp (p : Option α) (Q : α → Prop) : Prop := ∃ z, p = some z ∧ Q z
theorem Wp.intro {p : Option α} {Q : α → Prop} {z : α} (h : p = some z) (q : Q z) : Wp p Q := ⟨z, h, q⟩
theorem Wp.some {Q : α → Prop} {z : α} (q : Q z) : Wp (some z) Q := ⟨z, rfl, q⟩
theorem Wp.bind {p : Option α} {f : α → Option β} {Q : β → Prop} {R : α → Prop} (h : Wp p R) (h2 : ∀ z, R z → Wp (f z) Q) : Wp (p.bind f) Q := by
  obtain ⟨z, e, r⟩ := h
  rw [e]; exact h2 z r
theorem Wp.mono {p : Option α} {Q R : α → Prop} (h : Wp p Q) (i : ∀ z, Q z → R z) : Wp p R := ⟨h.choose, h.choose_spec.1, i _ h.choose_spec.2⟩
theorem Wp.get {p : Option α} {Q : α → Prop} (h : Wp p Q) {z : α} (e : p = Option.some z) : Q z := by
  obtain ⟨y, e1, q⟩ := h
  cases e1.symm.trans e
  exact q
theorem Wp.wh {c : σ → Option Bool} {b : σ → Option σ} {n : Nat} {s : σ} {K : σ → Option ζ} {Q : ζ → Prop} (I : σ → Prop) (t : σ → Bool) (m : σ → Nat) (hc : ∀ s, I s → c s = Option.some (t s)) (hb : ∀ s, I s → t s = true → Wp (b s) fun s' => I s' ∧ m s' < m s) (hi : I s) (hm : m s < n) (hK : ∀ s, I s → t s = false → Wp (K s) Q) : Wp ((whS n s c b).bind K) Q := by
  obtain ⟨s', e, i, f⟩ := whS_inv c b I t m hc hb n s hi hm
  rw [e]; exact hK s' i f
theorem Wp.for {b : σ → α → Option σ} {xs : List α} {s : σ} {K : σ → Option ζ} {Q : ζ → Prop} (P : Nat → σ → Prop) (h : P 0 s) (hb : ∀ (i : Nat) (x : α) (s : σ), xs[i]? = Option.some x → P i s → Wp (b s x) (P (i + 1))) (hK : ∀ s, P xs.length s → Wp (K s) Q) : Wp ((forS xs s b).bind K) Q := by
  obtain ⟨s', e, i⟩ := forS_inv b P xs 0 s h (fun i x s hx hp => by rw [Nat.zero_add] at hp ⊢; exact hb i x s hx hp)
  rw [Nat.zero_add] at i
  rw [e]; exact hK s' i
theorem bs {α β : Type} (x : α) (f : α → Option β) : Option.bind (some x) f = f x := by rw [Option.bind_some]
theorem lenL_e {α : Type} (xs : List α) : lenL xs = some (xs.length : Int) := by unfold lenL; rfl
theorem addI_e (i j : Int) : addI i j = some (i + j) := by unfold addI; rfl
theorem subI_e (i j : Int) : subI i j = some (i - j) := by unfold subI; rfl
theorem negI_e (i : Int) : negI i = some (-i) := by unfold negI; rfl
theorem ltI_e (i j : Int) : ltI i j = some (decide (i < j)) := by unfold ltI; rfl
theorem leI_e (i j : Int) : leI i j = some (decide (i ≤ j)) := by unfold leI; rfl
theorem gtI_e (i j : Int) : gtI i j = some (decide (j < i)) := by unfold gtI; rfl
theorem eqN_e {α : Type} [DecidableEq α] (x y : α) : eqN x y = some (decide (x = y)) := by unfold eqN; rfl
theorem neN_e {α : Type} [DecidableEq α] (x y : α) : neN x y = some (!decide (x = y)) := by unfold neN; rfl
theorem intI_e (i : Int) : intI i = some i := by unfold intI; rfl
theorem absI_e (i : Int) : absI i = some (if i < 0 then -i else i) := by unfold absI; rfl
theorem allB_e (ns : List Bool) : allB ns = some (ns.all id) := by unfold allB; rfl
theorem eqS_e (x y : Str) : eqS x y = some (x.cps.toList == y.cps.toList) := by unfold eqS; rfl
theorem neS_e (x y : Str) : neS x y = some !(x.cps.toList == y.cps.toList) := by unfold neS; rfl
theorem isiN_e (T : String) (d : PyData) : isiN T d = some (isiB (tyD d) T) := by unfold isiN; rfl
theorem maxI2_e (i j : Int) : maxI2 i j = some (if j > i then j else i) := by unfold maxI2; rfl
theorem minI2_e (i j : Int) : minI2 i j = some (if j < i then j else i) := by unfold minI2; rfl
/-- the numbers 0 .. n-1 -/
def iot (n : Nat) : List Int := (List.range n).map fun i : Nat => (i : Int)
theorem iot_len (n : Nat) : (iot n).length = n := by unfold iot; simp
theorem mem_iot {n : Nat} {x : Int} : x ∈ iot n ↔ 0 ≤ x ∧ x < n := by
  unfold iot
  rw [List.mem_map]
  constructor
  · rintro ⟨k, hk, rfl⟩
    rw [List.mem_range] at hk
    omega
  · rintro ⟨h0, h1⟩
    exact ⟨x.toNat, List.mem_range.mpr (by omega), by omega⟩
theorem iot_sorted (n : Nat) : (iot n).Pairwise (· ≤ ·) := by
  unfold iot
  exact List.Pairwise.map _ (fun a b (h : a < b) => by omega) (List.pairwise_lt_range (n := n))
theorem rgI0 (n : Nat) : rgI 0 n = iot n := by
  unfold rgI iot
  refine List.map_congr_left fun i _ => ?_
  omega
theorem ri1_ok (n : Int) (h : n ≤ 1000000) (h0 : 0 ≤ n) : ri1 n = some (iot n.toNat) := by
  unfold ri1
  rw [if_pos (by omega), rgI0]
theorem ri1_nat (n : Nat) (h : n ≤ 1000000) : ri1 (n : Int) = some (iot n) := by
  rw [ri1_ok _ (by omega) (by omega)]; rfl
theorem rg1_nat (n : Nat) (h : n ≤ 1000000) : rg1 (n : Int) = some (iot n) := by
  unfold rg1
  rw [if_pos (by omega)]
  unfold rgL iot
  congr 1
  rw [show ((n : Int) - 0).toNat = n by omega]
  refine List.map_congr_left fun i _ => ?_
  omega
theorem ixN_nat {n k : Nat} (h : k < n) : ixN n (k : Int) = some k := by
  unfold ixN
  rw [if_pos (by omega), if_pos (by omega)]; rfl
theorem atL_nat {xs : List α} {k : Nat} {x : α} (h : xs[k]? = some x) : atL xs (k : Int) = some x := by
  have hk : k < xs.length := (List.getElem?_eq_some_iff.mp h).1
  show atI xs _ = _
  unfold atI
  rw [ixN_nat hk]
  exact h
theorem atL_lt {xs : List α} {k : Nat} (h : k < xs.length) : atL xs (k : Int) = some xs[k] := atL_nat (List.getElem?_eq_getElem h)
theorem atL_int {xs : List α} {i : Int} (h0 : 0 ≤ i) (h1 : i < xs.length) : ∃ x, atL xs i = some x ∧ xs[i.toNat]? = some x ∧ x ∈ xs := by
  have hk : i.toNat < xs.length := by omega
  refine ⟨xs[i.toNat], ?_, List.getElem?_eq_getElem hk, List.getElem_mem hk⟩
  have := atL_lt hk
  rwa [show ((i.toNat : Nat) : Int) = i by omega] at this
theorem cap_ge {n : Nat} (h : n ≤ 100000) : n ≤ cap := by
  have : (100000 : Nat) ≤ cap := by decide
  omega
theorem apL_ok {xs : List α} (x : α) (h : xs.length ≤ 100000) : apL xs x = some (xs ++ [x]) := by
  unfold apL; rw [if_pos (cap_ge h)]
theorem popL_ok {xs : List α} {i : Int} (h0 : 0 ≤ i) (h1 : i < xs.length) (h : xs.length ≤ 100000) : ∃ x, popL xs i = some (x, xs.eraseIdx i.toNat) ∧ xs[i.toNat]? = some x := by
  have hk : i.toNat < xs.length := by omega
  refine ⟨xs[i.toNat], ?_, List.getElem?_eq_getElem hk⟩
  unfold popL
  have e := ixN_nat hk
  rw [show ((i.toNat : Nat) : Int) = i by omega] at e
  rw [e]
  show (xs[_]?).bind _ = _
  rw [List.getElem?_eq_getElem hk]
  show (if _ then _ else _) = _
  rw [if_pos (cap_ge h)]
theorem mapT_cap {α γ : Type} {g : α → Option γ} {xs : List α} (f : α → γ) (hl : xs.length ≤ 100000) (hg : ∀ x ∈ xs, g x = some (f x)) : (if List.length xs ≤ cap then mapF xs (fun _ => some true) g else none) = some (xs.map f) := by
  rw [if_pos (cap_ge hl)]; exact mapT_ok g f xs hg
theorem neNil (xs : List α) : (true != List.isEmpty xs) = !xs.isEmpty := by cases xs <;> rfl
end Lw
namespace P
open PySem PySem.Spec PyProof.Rows L2 Hb Nv
open Enc (enc)
end P
namespace P
open PySem PySem.Spec PyProof.Rows L2 Hb Nv
open Enc (enc)
end P
namespace P
open PySem PySem.Spec PyProof.Rows L2 Hb Nv
open Enc (enc)
end P
namespace P
open PySem PySem.Spec PyProof.Rows L2 Hb Nv
open Enc (enc)
end P
namespace Lw
open PySem Hb Nv L2 P
theorem at0 (a b c : Int) : atL [a, b, c] 0 = some a := rfl
theorem at1 (a b c : Int) : atL [a, b, c] 1 = some b := rfl
theorem at2 (a b c : Int) : atL [a, b, c] 2 = some c := rfl
theorem st0 (a b c v : Int) : Nv.stI [a, b, c] 0 v = some [v, b, c] := rfl
theorem st2 (a b c v : Int) : Nv.stI [a, b, c] 2 v = some [a, b, v] := rfl
theorem pow18 : powW 10 18 = some 1000000000000000000 := by
  unfold powW; rw [if_pos (by decide)]; rfl
theorem modI_ok (i : Int) {j : Int} (h : 0 < j) : modI i j = some (i % j) := by unfold modI; rw [if_pos h]
theorem fdivW_ok (i : Int) {j : Int} (h : 0 < j) (h2 : j < 2 ^ 1000) : fdivW i j = some (i / j) := by unfold fdivW; rw [if_pos ⟨h, h2⟩]
theorem mulI_l (i j : Int) (h : i.natAbs < 2 ^ 64) : mulI i j = some (i * j) := by unfold mulI; rw [if_pos (.inl h)]
def Row (n : Nat) (r : List Int) : Prop := r.Perm (iot n)
theorem Row.len {n : Nat} {r : List Int} (h : Row n r) : r.length = n := by rw [List.Perm.length_eq h, iot_len]
theorem Row.mem {n : Nat} {r : List Int} (h : Row n r) {x : Int} : x ∈ r ↔ 0 ≤ x ∧ x < n := by rw [List.Perm.mem_iff h, mem_iot]
theorem perm_erase {α : Type} : ∀ (l : List α) (j : Nat) (x : α), l[j]? = some x → (x :: l.eraseIdx j).Perm l
  | [], j, x, h => by simp at h
  | y :: r, 0, x, h => by
    simp at h; subst h; exact .refl _
  | y :: r, j + 1, x, h => by
    have ih := perm_erase r j x (by simpa using h)
    exact (List.Perm.swap y x _).trans (ih.cons y)
theorem perm_app1 {α : Type} (f : List α) (x : α) (l l' : List α) (h : (x :: l').Perm l) : (f ++ [x] ++ l').Perm (f ++ l) := by
  rw [List.append_assoc]
  exact List.Perm.append_left f h
end Lw
namespace P
open PySem PySem.Spec PyProof.Rows L2 Hb Nv
open Enc (enc)
end P
namespace P
open PySem PySem.Spec PyProof.Rows L2 Hb Nv
open Enc (enc)
end P
namespace P
open PySem PySem.Spec PyProof.Rows L2 Hb Nv
open Enc (enc)
end P
namespace P
open PySem PySem.Spec PyProof.Rows L2 Hb Nv
open Enc (enc)
end P
namespace Lw
open PySem Hb Nv L2 P
/-- where x stands -/
def pos (r : List Int) (x : Int) : Int := (r.idxOf x : Nat)
def fl : Int → Int → List Int → Bool
  | _, _, [] => true
  | lo, hi, x :: r => if x = lo - 1 then fl (lo - 1) hi r else if x = hi + 1 then fl lo (hi + 1) r else false
end Lw
namespace Lw
open PySem Hb Nv L2 P
/-- the last first: what stands before is between -/
inductive Dn : Int → Int → List Int → Prop
  | one (x : Int) : Dn x x [x]
  | lo {lo hi : Int} {q : List Int} : Dn (lo + 1) hi q → Dn lo hi (lo :: q)
  | hi {lo hi : Int} {q : List Int} : Dn lo (hi - 1) q → Dn lo hi (hi :: q)
theorem Dn.mem {lo hi : Int} {q : List Int} (h : Dn lo hi q) : lo ≤ hi ∧ ∀ x, x ∈ q ↔ lo ≤ x ∧ x ≤ hi := by
  induction h with
  | one x => exact ⟨Int.le_refl _, fun y => by rw [List.mem_singleton]; omega⟩
  | lo _ ih => exact ⟨by omega, fun y => by rw [List.mem_cons, ih.2]; omega⟩
  | hi _ ih => exact ⟨by omega, fun y => by rw [List.mem_cons, ih.2]; omega⟩
end Lw
namespace P
open PySem PySem.Spec PyProof.Rows L2 Hb Nv
open Enc (enc)
end P
namespace P
open PySem PySem.Spec PyProof.Rows L2 Hb Nv
open Enc (enc)
end P
namespace P
open PySem PySem.Spec PyProof.Rows L2 Hb Nv
open Enc (enc)
end P
namespace P
open PySem PySem.Spec PyProof.Rows L2 Hb Nv
open Enc (enc)
end P
namespace P
open PySem PySem.Spec PyProof.Rows L2 Hb Nv
open Enc (enc)
end P
namespace P
open PySem PySem.Spec PyProof.Rows L2 Hb Nv
open Enc (enc)
end P
namespace P
open PySem PySem.Spec PyProof.Rows L2 Hb Nv
open Enc (enc)
end P
namespace Lw
open PySem Hb Nv L2 P
open Enc (enc)
def isInt : PyData → Bool
  | .int _ => true
  | _ => false
def isNn : PyData → Bool
  | .int i => decide (0 ≤ i)
  | _ => false
theorem isi_i (i : Int) : isiN "int" (.int i) = some true := rfl
theorem isi_ib (i : Int) : isiN "bool" (.int i) = some false := rfl
theorem isi_b (i : Bool) : isiN "int" (.bool i) = some true := rfl
theorem isi_bb (i : Bool) : isiN "bool" (.bool i) = some true := rfl
theorem isi_l (ds : List PyData) : isiN "list" (.list ds) = some true := rfl
theorem isi_nl {d : PyData} (h : ∀ ds, d ≠ .list ds) : isiN "list" d = some false := by
  cases d with
  | list ds => exact absurd rfl (h ds)
  | _ => rfl
theorem isi_ni {d : PyData} (h : ∀ i, d ≠ .int i) (h2 : ∀ i, d ≠ .bool i) : isiN "int" d = some false := by
  cases d with
  | int i => exact absurd rfl (h i)
  | bool i => exact absurd rfl (h2 i)
  | _ => rfl
theorem lenA_l (ds : List PyData) : lenA (.list ds) = some (ds.length : Int) := rfl
theorem seqA_l (ds : List PyData) : seqA (.list ds) = some ds := rfl
theorem asI_i (i : Int) : asIntA (.int i) = some i := rfl
theorem bnot_t : (!true) = false := rfl
theorem bnot_f : (!false) = true := rfl
theorem integer_ok (d : PyData) : n_is_integer d 0 none = some (isNn d) := by
  by_cases h1 : ∃ i, d = .int i
  · obtain ⟨i, rfl⟩ := h1
    unfold n_is_integer
    simp only [bs, isi_i, isi_ib, asI_i, leI_e, bnot_t, Bool.false_eq_true, if_false, Option.isNone_none, if_true]
    by_cases c : 0 ≤ i
    · rw [if_pos (decide_eq_true c)]
      show _ = some (decide (0 ≤ i))
      rw [decide_eq_true c]; rfl
    · rw [if_neg (by rw [decide_eq_true_eq]; exact c)]
      show _ = some (decide (0 ≤ i))
      rw [decide_eq_false c]; rfl
  · by_cases h2 : ∃ i, d = .bool i
    · obtain ⟨b, rfl⟩ := h2
      unfold n_is_integer
      simp only [bs, isi_b, isi_bb, bnot_t, Bool.false_eq_true, if_false, if_true]
      rfl
    · have n1 : ∀ i, d ≠ .int i := fun i e => h1 ⟨i, e⟩
      have n2 : ∀ i, d ≠ .bool i := fun i e => h2 ⟨i, e⟩
      unfold n_is_integer
      simp only [bs, isi_ni n1 n2, bnot_f, if_true]
      cases d with
      | int i => exact absurd rfl (n1 i)
      | _ => rfl
theorem ints_or (ds : List PyData) : (∃ ns, ds = ns.map PyData.int ∧ intsOf ds = some ns) ∨ (intsOf ds = none ∧ ds.all isInt = false) := by
  induction ds with
  | nil => exact .inl ⟨[], rfl, rfl⟩
  | cons d r ih =>
    cases d with
    | int i =>
      rcases ih with ⟨ns, e1, e2⟩ | ⟨e1, e2⟩
      · exact .inl ⟨i :: ns, by rw [e1]; rfl, by rw [intsOf, e2]; rfl⟩
      · exact .inr ⟨by rw [intsOf, e1]; rfl, by simp [isInt, e2]⟩
    | _ => exact .inr ⟨rfl, by simp [isInt]⟩
theorem ints_of (ns : List Int) : intsOf (ns.map PyData.int) = some ns := by
  induction ns with
  | nil => rfl
  | cons i r ih => rw [List.map_cons, intsOf, ih]; rfl
def rowB (n : Nat) : PyData → Bool
  | .list ds => match intsOf ds with
    | some ns => decide (sortI ns = iot n)
    | none => false
  | _ => false
theorem rowB_iff {n : Nat} {d : PyData} : rowB n d = true ↔ ∃ ns : List Int, d = enc ns ∧ Row n ns := by
  constructor
  · intro h
    cases d with
    | list ds =>
      change (match intsOf ds with
        | some ns => decide (sortI ns = iot n)
        | none => false) = true at h
      rcases ints_or ds with ⟨ns, rfl, e⟩ | ⟨e, _⟩
      · rw [e] at h
        have h := of_decide_eq_true h
        exact ⟨ns, rfl, by have := sortI_perm ns; rw [h] at this; exact this.symm⟩
      · rw [e] at h; cases h
    | _ => cases h
  · rintro ⟨ns, rfl, h⟩
    show (match intsOf (ns.map PyData.int) with
      | some ns => decide (sortI ns = iot n)
      | none => false) = true
    rw [ints_of]
    exact decide_eq_true (sortI_eq (List.Perm.symm h) (iot_sorted n)).symm
/-- a value whose lists are not too long -/
def Sml (d : PyData) : Prop := ∀ ds, d = .list ds → ds.length ≤ 100000
theorem each_ok {n : Nat} (hn : n ≤ 1000) {d : PyData} (hd : Sml d) : n_is_each_once (n : Int) d = some (rowB n d) := by
  by_cases hl : ∃ ds, d = .list ds
  · obtain ⟨ds, rfl⟩ := hl
    have hs := hd ds rfl
    unfold n_is_each_once
    simp only [bs, isi_l, bnot_t, Bool.false_eq_true, if_false, lenA_l, seqA_l, neN_e, allB_e]
    by_cases c : (ds.length : Int) = (n : Int)
    · simp only [c, decide_true, bnot_t, Bool.false_eq_true, if_false]
      rw [mapT_cap isNn hs (fun x _ => integer_ok x)]
      simp only [bs]
      rcases ints_or ds with ⟨ns, rfl, e⟩ | ⟨e, e2⟩
      · have e3 : srtAC (.list (ns.map PyData.int)) = some (sortI ns) := by
          show (intsOf _).bind _ = _
          rw [e]
          show (if _ then _ else _) = _
          rw [if_pos (cap_ge (by simpa using hs))]
        have e4 : rg1 (n : Int) = some (iot n) := rg1_nat n (by omega)
        have e5 : rowB n (.list (ns.map PyData.int)) = decide (sortI ns = iot n) := by
          show (match intsOf (ns.map PyData.int) with
            | some ns => decide (sortI ns = iot n)
            | none => false) = _
          rw [e]
        rw [e3, e4, e5]
        simp only [bs, eqN_e]
        by_cases a : (List.map isNn (List.map PyData.int ns)).all id = true
        · simp only [a, bnot_t, Bool.false_eq_true, if_false]
        · have a' : (List.map isNn (List.map PyData.int ns)).all id = false := by simpa using a
          simp only [a', bnot_f, if_true]
          congr 1
          refine (decide_eq_false fun hq => a ?_).symm
          rw [List.all_eq_true]
          intro b hb
          rw [List.map_map] at hb
          obtain ⟨i, hi, rfl⟩ := List.mem_map.mp hb
          have : i ∈ sortI ns := (sortI_perm ns).mem_iff.mpr hi
          rw [hq, mem_iot] at this
          show decide (0 ≤ i) = true
          exact decide_eq_true this.1
      · have a' : (List.map isNn ds).all id = false := by
          rw [List.all_eq_false] at e2 ⊢
          obtain ⟨x, hx, h⟩ := e2
          refine ⟨isNn x, List.mem_map_of_mem hx, ?_⟩
          cases x with
          | int i => exact absurd rfl h
          | _ => exact fun z => nomatch z
        simp only [a', bnot_f, if_true]
        show _ = some (match intsOf ds with
          | some ns => decide (sortI ns = iot n)
          | none => false)
        rw [e]
    · simp only [c, decide_false, bnot_f, if_true, bs]
      refine congrArg some (Eq.symm ?_)
      refine Bool.eq_false_iff.mpr fun h => ?_
      obtain ⟨ns, e, hr⟩ := rowB_iff.mp h
      have e : ds = ns.map PyData.int := PyData.list.inj e
      have := hr.len
      subst e
      simp at c
      omega
  · have hn : ∀ ds, d ≠ .list ds := fun ds e => hl ⟨ds, e⟩
    unfold n_is_each_once
    simp only [bs, isi_nl hn, bnot_f, if_true]
    cases d with
    | list ds => exact absurd rfl (hn ds)
    | _ => rfl
theorem sml_ints {ns : List Int} (h : ns.length ≤ 100000) : Sml (enc ns) := fun ds e => by
  have e : ns.map PyData.int = ds := PyData.list.inj e
  rw [← e]; simpa using h
theorem rowB_row {n : Nat} {r : List Int} (h : Row n r) : rowB n (enc r) = true := rowB_iff.mpr ⟨r, rfl, h⟩
theorem sml_row {n : Nat} {r : List Int} (h : Row n r) (hn : n ≤ 1000) : Sml (enc r) := sml_ints (by rw [h.len]; omega)
theorem ballot_ok {n : Nat} {r : List Int} (h : Row n r) (hn : n ≤ 1000) : n_need_ballot (n : Int) (enc r) = some () := by
  unfold n_need_ballot
  simp only [bs, each_ok hn (sml_row h hn), rowB_row h, bnot_t, Bool.false_eq_true, if_false]
theorem integer12 {n : Nat} (h1 : 1 ≤ n) (h2 : n ≤ 12) : n_is_integer (.int (n : Int)) 1 (some 12) = some true := by
  unfold n_is_integer
  have a : (1 : Int) ≤ (n : Int) := by omega
  have b : (n : Int) ≤ 12 := by omega
  simp only [bs, isi_i, isi_ib, asI_i, leI_e, bnot_t, Bool.false_eq_true, if_false, Option.isNone_some, decide_eq_true a, decide_eq_true b, if_true]
theorem line_ok {n : Nat} {p : List Int} (h : Row n p) (h1 : 1 ≤ n) (hn : n ≤ 12) : n_need_line (enc p) none = some () := by
  unfold n_need_line
  have a : isiN "list" (enc p) = some true := rfl
  have b : lenA (enc p) = some (n : Int) := by
    have := lenA_l (p.map PyData.int)
    rw [List.length_map, h.len] at this
    exact this
  have c : n_is_integer (enc (some (n : Int))) 1 (some 12) = some true := integer12 h1 hn
  simp only [bs, a, b, c, Bool.false_eq_true, if_false, Option.isNone_none, if_true, bnot_t, each_ok (by omega : n ≤ 1000) (sml_row h (by omega)), rowB_row h]
end Lw
namespace P
open PySem PySem.Spec PyProof.Rows L2 Hb Nv
open Enc (enc)
end P
namespace P
open PySem PySem.Spec PyProof.Rows L2 Hb Nv
open Enc (enc)
end P
namespace P
open PySem PySem.Spec PyProof.Rows L2 Hb Nv
open Enc (enc)
end P
namespace P
open PySem PySem.Spec PyProof.Rows L2 Hb Nv
open Enc (enc)
end P
namespace Lw
open PySem Hb Nv L2 P
open Enc (enc)
def Okv (v : PyData) : Prop := ∀ ds, v = .list ds → ds.length ≤ 100000 ∧ ∀ d ∈ ds, Sml d
theorem isi_rows (rows : List (List Int)) : isiN "list" (enc rows) = some true := rfl
theorem lenA_rows (rows : List (List Int)) : lenA (enc rows) = some (rows.length : Int) := by
  show some (((rows.map enc).length : Nat) : Int) = _
  rw [List.length_map]
theorem seqA_rows (rows : List (List Int)) : seqA (enc rows) = some (rows.map enc) := rfl
end Lw
namespace Lw
open PySem Hb Nv L2 P
open Enc (enc)
structure Vd (D W : Nat) (d : PyData) : Prop where
  hs : shw d = true
  hl : d.leavesShort 13 = true
  hd : d.depth ≤ D
  hw : d.weight ≤ W
structure Va (D W : Nat) (xs : List PyData) : Prop where
  s : shwAll xs = true
  l : PyData.leavesShortAll 13 xs = true
  d : PyData.depthAll xs ≤ D
  w : PyData.weightAll xs ≤ W
theorem Vd.mono {D W D' W' : Nat} {d : PyData} (h : Vd D W d) (h1 : D ≤ D') (h2 : W ≤ W') : Vd D' W' d := ⟨h.hs, h.hl, Nat.le_trans h.hd h1, Nat.le_trans h.hw h2⟩
theorem Va.mono {D W D' W' : Nat} {d : List PyData} (h : Va D W d) (h1 : D ≤ D') (h2 : W ≤ W') : Va D' W' d := ⟨h.s, h.l, Nat.le_trans h.d h1, Nat.le_trans h.w h2⟩
theorem Va.nil : Va 0 0 [] := ⟨by simp [shwAll], by simp [PyData.leavesShortAll], by simp [PyData.depthAll], by simp [PyData.weightAll]⟩
theorem Va.cons {D W W' : Nat} {x : PyData} {xs : List PyData} (h : Vd D W x) (h' : Va D W' xs) : Va D (W + 1 + W') (x :: xs) := by
  have a1 := h.hd
  have a2 := h.hw
  have a3 := h'.d
  have a4 := h'.w
  exact ⟨by simp [shwAll, h.hs, h'.s], by simp [PyData.leavesShortAll, h.hl, h'.l], by simp only [PyData.depthAll]; omega, by simp only [PyData.weightAll]; omega⟩
theorem shw_app : ∀ xs ys : List PyData, shwAll (xs ++ ys) = (shwAll xs && shwAll ys)
  | [], ys => by simp [shwAll]
  | x :: r, ys => by simp [shwAll, shw_app r ys, Bool.and_assoc]
theorem lsh_app : ∀ xs ys : List PyData, PyData.leavesShortAll 13 (xs ++ ys) = (PyData.leavesShortAll 13 xs && PyData.leavesShortAll 13 ys)
  | [], ys => by simp [PyData.leavesShortAll]
  | x :: r, ys => by simp [PyData.leavesShortAll, lsh_app r ys, Bool.and_assoc]
theorem dep_app : ∀ xs ys : List PyData, PyData.depthAll (xs ++ ys) = max (PyData.depthAll xs) (PyData.depthAll ys)
  | [], ys => by simp [PyData.depthAll]
  | x :: r, ys => by simp [PyData.depthAll, dep_app r ys, Nat.max_assoc]
theorem wei_app : ∀ xs ys : List PyData, PyData.weightAll (xs ++ ys) = PyData.weightAll xs + PyData.weightAll ys
  | [], ys => by simp [PyData.weightAll]
  | x :: r, ys => by simp [PyData.weightAll, wei_app r ys, Nat.add_assoc]
theorem Va.app {D W W' : Nat} {xs ys : List PyData} (h : Va D W xs) (h' : Va D W' ys) : Va D (W + W') (xs ++ ys) := by
  refine ⟨by rw [shw_app, h.s, h'.s]; rfl, by rw [lsh_app, h.l, h'.l]; rfl, ?_, ?_⟩
  · rw [dep_app]
    have h1 := h.d
    have h2 := h'.d
    omega
  · rw [wei_app]
    exact Nat.add_le_add h.w h'.w
theorem Va.list {D W : Nat} {xs : List PyData} (h : Va D W xs) : Vd (D + 1) W (.list xs) := by
  obtain ⟨h1, h2, h3, h4⟩ := h
  exact ⟨by simpa [shw] using h1, by simpa [PyData.leavesShort] using h2, by simp only [PyData.depth]; omega, by simpa only [PyData.weight] using h4⟩
theorem Va.tup {D W : Nat} {xs : List PyData} (h : Va D W xs) : Vd (D + 1) W (.tuple xs) := by
  obtain ⟨h1, h2, h3, h4⟩ := h
  exact ⟨by simpa [shw] using h1, by simpa [PyData.leavesShort] using h2, by simp only [PyData.depth]; omega, by simpa only [PyData.weight] using h4⟩
end Lw
namespace P
open PySem PySem.Spec PyProof.Rows L2 Hb Nv
open Enc (enc)
end P
namespace Lw
open PySem Hb Nv L2 P
open Enc (enc)
/-- a value to be judged -/
def Val (W : Nat) (d : PyData) : Prop := Okv d ∧ Vd 4 W d
theorem Val.mono {W W' : Nat} {d : PyData} (h : Val W d) (hw : W ≤ W') : Val W' d := ⟨h.1, h.2.mono (Nat.le_refl _) hw⟩
end Lw
namespace P
open PySem PySem.Spec PyProof.Rows L2 Hb Nv
open Enc (enc)
end P
namespace P
open PySem PySem.Spec PyProof.Rows L2 Hb Nv
open Enc (enc)
end P
namespace P
open PySem PySem.Spec PyProof.Rows L2 Hb Nv
open Enc (enc)
end P
namespace P
open PySem PySem.Spec PyProof.Rows L2 Hb Nv
open Enc (enc)
end P
namespace P
open PySem PySem.Spec PyProof.Rows L2 Hb Nv
open Enc (enc)
end P
namespace Lw
open PySem Hb Nv L2 P
open Enc (enc)
variable {α β γ σ ρ ζ : Type}
def inRng (lo : Int) (hi : Option Int) : PyData → Bool
  | .int i => decide (lo ≤ i) && (match hi with
    | none => true
    | some h => decide (i ≤ h))
  | _ => false
theorem integer_gen (d : PyData) (lo : Int) (hi : Option Int) : n_is_integer d lo hi = some (inRng lo hi d) := by
  by_cases h1 : ∃ i, d = .int i
  · obtain ⟨i, rfl⟩ := h1
    unfold n_is_integer inRng
    simp only [bs, isi_i, isi_ib, asI_i, leI_e, bnot_t, Bool.false_eq_true, if_false]
    by_cases c : lo ≤ i
    · rw [if_pos (decide_eq_true c)]
      simp only [decide_eq_true c, Bool.true_and]
      cases hi with
      | none => rfl
      | some h => rfl
    · rw [if_neg (by rw [decide_eq_true_eq]; exact c)]
      simp only [decide_eq_false c, Bool.false_and, bs]
  · by_cases h2 : ∃ i, d = .bool i
    · obtain ⟨b, rfl⟩ := h2
      unfold n_is_integer
      simp only [bs, isi_b, isi_bb, bnot_t, Bool.false_eq_true, if_false, if_true]
      rfl
    · have n1 : ∀ i, d ≠ .int i := fun i e => h1 ⟨i, e⟩
      have n2 : ∀ i, d ≠ .bool i := fun i e => h2 ⟨i, e⟩
      unfold n_is_integer
      simp only [bs, isi_ni n1 n2, bnot_f, if_true]
      cases d with
      | int i => exact absurd rfl (n1 i)
      | _ => rfl
theorem inRng_i {lo i : Int} {h : Int} (a : lo ≤ i) (b : i ≤ h) : inRng lo (some h) (.int i) = true := by
  unfold inRng
  simp only [decide_eq_true a, decide_eq_true b, Bool.and_self]
theorem count_ok {n : Nat} (h1 : 1 ≤ n) (hn : n ≤ 12) : n_need_count (enc (n : Int)) 12 = some () := by
  unfold n_need_count
  have e : n_is_integer (enc (n : Int)) 1 (some 12) = some true := integer12 h1 hn
  simp only [bs, e, bnot_t, Bool.false_eq_true, if_false]
theorem eachs_ok {n : Nat} {f : List (List Int)} (hf : ∀ z ∈ f, Row n z) (hn : n ≤ 1000) (hl : f.length ≤ 40) : n_are_each_once (n : Int) (enc f) = some true := by
  unfold n_are_each_once
  have e1 : isiN "list" (enc f) = some true := isi_rows f
  have e2 : lenA (enc f) = some (f.length : Int) := lenA_rows f
  have e3 : seqA (enc f) = some (f.map enc) := seqA_rows f
  simp only [bs, e1, e2, e3, leI_e, decide_eq_true (by omega : (f.length : Int) ≤ 40), if_true]
  refine bnd (bnd (mapT_cap (fun _ => true) (by rw [List.length_map]; omega) fun x hx => ?_) (allB_e _)) ?_
  · obtain ⟨z, hz, rfl⟩ := List.mem_map.mp hx
    rw [each_ok hn (sml_row (hf z hz) hn), rowB_row (hf z hz)]
  · congr 1
    rw [List.all_eq_true]
    intro b hb
    obtain ⟨z, _, rfl⟩ := List.mem_map.mp hb
    rfl
theorem ballots_ok {n : Nat} {f : List (List Int)} (hf : ∀ z ∈ f, Row n z) (hn : n ≤ 1000) (hl : f.length ≤ 40) : n_need_ballots (n : Int) (enc f) = some () := by
  unfold n_need_ballots
  simp only [bs, eachs_ok hf hn hl, bnot_t, Bool.false_eq_true, if_false]
theorem forF_unit {b : Unit → α → Option (Fl ρ Unit)} {xs : List α} (h : ∀ x ∈ xs, b () x = some (.nx ())) : forF xs () b = some (.nx ()) := forF_nx b () xs h
end Lw
namespace P
open PySem PySem.Spec PyProof.Rows L2 Hb Nv
open Enc (enc)
end P
namespace P
open PySem PySem.Spec PyProof.Rows L2 Hb Nv
open Enc (enc)
end P
namespace P
open PySem PySem.Spec PyProof.Rows L2 Hb Nv
open Enc (enc)
end P
namespace P
open PySem PySem.Spec PyProof.Rows L2 Hb Nv
open Enc (enc)
end P
namespace P
open PySem PySem.Spec PyProof.Rows L2 Hb Nv
open Enc (enc)
end P
namespace Lw
open PySem Hb Nv L2 P
def Well (K : Int) (t : List Int) : Prop := ∃ a b c : Int, t = [a, b, c] ∧ 0 ≤ b ∧ b < 10 ^ 33 ∧ 0 ≤ c ∧ c ≤ K
theorem Well.mono {K K' : Int} {t : List Int} (h : Well K t) (l : K ≤ K') : Well K' t := by
  obtain ⟨a, b, c, e, h1, h2, h3, h4⟩ := h
  exact ⟨a, b, c, e, h1, h2, h3, by omega⟩
theorem powW_ok {i : Int} {k : Nat} (hk : k ≤ 64) (h : i.natAbs < 2 ^ 1024) : powW i (k : Int) = some (i ^ k) := by
  unfold powW
  rw [if_pos ⟨by omega, by omega, h⟩]
  congr 2
theorem p1030 : powW 10 30 = some (10 ^ 30) := powW_ok (k := 30) (by omega) (by decide)
end Lw
namespace P
open PySem PySem.Spec PyProof.Rows L2 Hb Nv
open Enc (enc)
end P
namespace P
open PySem PySem.Spec PyProof.Rows L2 Hb Nv
open Enc (enc)
end P
namespace P
open PySem PySem.Spec PyProof.Rows L2 Hb Nv
open Enc (enc)
end P
namespace P
open PySem PySem.Spec PyProof.Rows L2 Hb Nv
open Enc (enc)
end P
namespace P
open PySem PySem.Spec PyProof.Rows L2 Hb Nv
open Enc (enc)
end P
namespace Lw
open PySem Hb Nv L2 P
open Enc (enc)
variable {α β γ σ ρ ζ : Type}
def ext (n : Nat) (f : List (List Int)) : List (List Int) := f.flatMap fun r => ((iot n).filter fun x => !decide (x ∈ r)).map fun x => r ++ [x]
end Lw
namespace P
open PySem PySem.Spec PyProof.Rows L2 Hb Nv
open Enc (enc)
end P
namespace P
open PySem PySem.Spec PyProof.Rows L2 Hb Nv
open Enc (enc)
end P
namespace P
open PySem PySem.Spec PyProof.Rows L2 Hb Nv
open Enc (enc)
end P
namespace P
open PySem PySem.Spec PyProof.Rows L2 Hb Nv
open Enc (enc)
end P
namespace Lw
open PySem Hb Nv L2 P
open Enc (enc)
/-- the weight at a place that the test wants -/
def wsI (q : Int → Bool) : List (Int × Int) → Int
  | [] => 0
  | z :: r => (if q z.1 = true then z.2 else 0) + wsI q r
def A (z : List (Int × Int)) (k : Int) : Int := wsI (fun x => decide (x < k)) z
end Lw
namespace P
open PySem PySem.Spec PyProof.Rows L2 Hb Nv
open Enc (enc)
end P
namespace P
open PySem PySem.Spec PyProof.Rows L2 Hb Nv
open Enc (enc)
end P
namespace P
open PySem PySem.Spec PyProof.Rows L2 Hb Nv
open Enc (enc)
end P
namespace Lw
open PySem Hb Nv L2 P
open Enc (enc)
structure Vb (D W : Nat) (d : PyData) : Prop where
  hs : shw d = true
  hl : d.leavesShort 40 = true
  hd : d.depth ≤ D
  hw : d.bulk ≤ W
theorem Vb.mono {D W D' W' : Nat} {d : PyData} (h : Vb D W d) (h1 : D ≤ D') (h2 : W ≤ W') : Vb D' W' d := ⟨h.hs, h.hl, Nat.le_trans h.hd h1, Nat.le_trans h.hw h2⟩
theorem vb_int {i : Int} (h0 : 0 ≤ i) (h1 : i < 10 ^ 40) : Vb 0 0 (.int i) := by
  refine ⟨?_, ?_, by simp [PyData.depth], by simp [PyData.bulk]⟩
  · show decide _ = true
    refine decide_eq_true ?_
    by_cases c : i.natAbs = 0
    · rw [c]; decide
    · rw [Nat.log2_lt c]
      have : (10 : Nat) ^ 40 < 2 ^ 1920 := by decide
      omega
  · show decide _ = true
    exact decide_eq_true (PyProof.Rows.toString_length_le h0 (by omega) h1)
theorem vb_all {D W : Nat} : ∀ {xs : List PyData}, (∀ x ∈ xs, Vb D W x) → shwAll xs = true ∧ PyData.leavesShortAll 40 xs = true ∧ PyData.depthAll xs ≤ D ∧ PyData.bulkAll xs ≤ xs.length * (W + 1)
  | [], _ => ⟨by simp [shwAll], by simp [PyData.leavesShortAll], by simp [PyData.depthAll], by simp [PyData.bulkAll]⟩
  | x :: r, h => by
    obtain ⟨a, b, c, d⟩ := vb_all (xs := r) fun y hy => h y (List.mem_cons_of_mem _ hy)
    have hx := h x List.mem_cons_self
    have x3 := hx.hd
    have x4 := hx.hw
    refine ⟨by simp [shwAll, hx.hs, a], by simp [PyData.leavesShortAll, hx.hl, b], by simp only [PyData.depthAll]; omega, ?_⟩
    simp only [PyData.bulkAll]
    rw [List.length_cons, Nat.add_mul, Nat.one_mul]
    omega
theorem vb_list {D W L : Nat} {xs : List PyData} (h : ∀ x ∈ xs, Vb D W x) (hl : xs.length ≤ L) : Vb (D + 1) (L * (W + 1)) (.list xs) := by
  obtain ⟨h1, h2, h3, h4⟩ := vb_all h
  exact ⟨by simpa [shw] using h1, by simpa [PyData.leavesShort] using h2, by simp only [PyData.depth]; omega, by simpa only [PyData.bulk] using Nat.le_trans h4 (Nat.mul_le_mul_right _ hl)⟩
theorem vb_repr {D W : Nat} {d : PyData} (h : Vb D W d) (hD : D ≤ 60) (hW : W ≤ 2 ^ 18) : reprN d = some d.shown := by
  have h2 := h.hw
  have h3 := h.hd
  have h4 := PyData.shown_le_bulk 40 (by omega) d h.hl
  have h5 : d.shown.length ≤ sizeLine := by
    have : sizeLine = 2 ^ 24 := rfl
    omega
  unfold reprN
  rw [if_pos ⟨⟨h.hs, by omega⟩, h5⟩]
theorem vb_ints {w : List Int} {L : Nat} (h : ∀ x ∈ w, 0 ≤ x ∧ x < 10 ^ 40) (hl : w.length ≤ L) : Vb 1 (L * 1) (enc w) := vb_list (D := 0) (W := 0) (fun x hx => by
  obtain ⟨y, hy, rfl⟩ := List.mem_map.mp hx
  exact vb_int (h y hy).1 (h y hy).2) (by rw [List.length_map]; exact hl)
theorem vb_row {n : Nat} {r : List Int} (h : Row n r) (hn : n ≤ 12) : Vb 1 12 (enc r) := (vb_ints (L := 12) (fun x hx => by
  have := h.mem.mp hx
  have e : (12 : Int) < 10 ^ 40 := by decide
  omega) (by rw [h.len]; exact hn)).mono (by omega) (by omega)
theorem vb_rows {n : Nat} {f : List (List Int)} (h : ∀ z ∈ f, Row n z) (hn : n ≤ 12) (hl : f.length ≤ 40) : Vb 2 520 (enc f) := (vb_list (D := 1) (W := 12) (L := 40) (fun x hx => by
  obtain ⟨y, hy, rfl⟩ := List.mem_map.mp hx
  exact vb_row (h y hy) hn) (by rw [List.length_map]; exact hl)).mono (by omega) (by omega)
def Wts (w : List Int) : Prop := ∀ x ∈ w, 0 ≤ x ∧ x ≤ 10 ^ 30
theorem isi_ints (w : List Int) : isiN "list" (enc w) = some true := by
  rw [isiN_e]; rfl
theorem ints_all {w : List Int} (hw : Wts w) (hl : w.length ≤ 40) : (if List.length (w.map (enc : Int → PyData)) ≤ cap then mapF (w.map (enc : Int → PyData)) (fun x => some true) fun x => n_is_integer x 0 (some 1000000000000000000000000000000) else none) = some ((w.map (enc : Int → PyData)).map fun _ => true) := by
  refine mapT_cap (fun _ => true) (by rw [List.length_map]; omega) fun x hx => ?_
  obtain ⟨y, hy, rfl⟩ := List.mem_map.mp hx
  rw [integer_gen]
  refine congrArg some (inRng_i (hw y hy).1 ?_)
  have := (hw y hy).2
  have e : (10 : Int) ^ 30 = 1000000000000000000000000000000 := by decide
  omega
theorem all_true {α : Type} (xs : List α) : ((xs.map fun _ => true).all id) = true := by
  rw [List.all_eq_true]
  intro b hb
  obtain ⟨z, _, rfl⟩ := List.mem_map.mp hb
  rfl
theorem voters_ok {f : List (List Int)} {w : List Int} (hw : Wts w) (hl : w.length ≤ 40) (e : f.length = w.length) : n_need_voters f (enc w) = some () ∧ x_need_voters f (enc w) = none := by
  have e1 : lenA (enc w) = some (w.length : Int) := by
    show some (((w.map PyData.int).length : Nat) : Int) = _
    rw [List.length_map]
  have e2 : seqA (enc w) = some (w.map enc) := rfl
  have e3 := ints_all hw hl
  constructor
  · unfold n_need_voters
    simp only [bs, isi_ints, bnot_t, Bool.false_eq_true, if_false, e1, lenL_e, e, neN_e, decide_true, e2, e3, allB_e, all_true]
  · unfold x_need_voters
    simp only [bs, isi_ints, bnot_t, Bool.false_eq_true, if_false, e1, lenL_e, e, neN_e, decide_true, e2, e3, allB_e, all_true]
end Lw
namespace Lw
namespace K48
open PySem Hb Nv L2 P
open Enc (enc)
def Purse (K : Int) (t : List Int) : Prop := ∃ a b c : Int, t = [a, b, c] ∧ 0 ≤ b ∧ b < 10 ^ 42 ∧ 0 ≤ c ∧ c ≤ K
theorem Purse.mono {K K' : Int} {t : List Int} (h : Purse K t) (l : K ≤ K') : Purse K' t := by
  obtain ⟨a, b, c, e, h1, h2, h3, h4⟩ := h
  exact ⟨a, b, c, e, h1, h2, h3, by omega⟩
theorem p1041 : powW 10 41 = some (10 ^ 41) := powW_ok (k := 41) (by omega) (by decide)
theorem p1043 : powW 10 43 = some (10 ^ 43) := powW_ok (k := 43) (by omega) (by decide)
theorem p1045 : powW 10 45 = some (10 ^ 45) := powW_ok (k := 45) (by omega) (by decide)
theorem big44 : (10 : Int) ^ 46 < 2 ^ 1024 := by decide
theorem nat_lt46 {x : Int} (h0 : 0 ≤ x) (h1 : x < 10 ^ 46) : x.natAbs < 2 ^ 1024 := by
  have := big44
  have e : ((2 ^ 1024 : Nat) : Int) = (2 : Int) ^ 1024 := by norm_cast
  omega
theorem purse_ok {ms : List Int} {k : Int} (h0 : 0 ≤ k) (h1 : k ≤ 100) : Wp (n__law_purse ms k) (Purse 0) := by
  have e0 : mulI 90001 k = some (90001 * k) := mulI_l _ _ (by decide)
  have e1 : ∀ x : Int, modI x (10 ^ 41 + 37) = some (x % (10 ^ 41 + 37)) := fun x => modI_ok x (by decide)
  have hb : ∀ x : Int, 0 ≤ x % (10 ^ 41 + 37) + 90001 * k + 17 ∧ x % (10 ^ 41 + 37) + 90001 * k + 17 < 10 ^ 42 := fun x => by
    have h2 := Int.emod_nonneg x (show ((10 : Int) ^ 41 + 37) ≠ 0 by decide)
    have h3 := Int.emod_lt_of_pos x (show (0 : Int) < 10 ^ 41 + 37 by decide)
    omega
  unfold n__law_purse
  refine Wp.bind (R := fun _ => True) ?_ fun c _ => ?_
  · simp only [bs, lenL_e, ltI_e]
    by_cases c : k < ms.length
    · rw [if_pos (decide_eq_true c)]
      obtain ⟨x, ex, _⟩ := atL_int (xs := ms) h0 c
      exact .intro ex trivial
    · rw [if_neg (by simpa using c)]
      exact .some trivial
  · simp only [bs, pow18, subI_e, maxI2_e, absI_e, intI_e, p1041, addI_e, e0, e1]
    obtain ⟨g1, g2⟩ := hb (if c < 0 then -c else c)
    exact .some ⟨_, _, _, rfl, g1, g2, by omega, by omega⟩
theorem coin_ok {K : Int} {t : List Int} (ht : Purse K t) (hK : K ≤ 10 ^ 15) {n : Int} (h0 : 0 < n) (h1 : n ≤ 10 ^ 31) : Wp (n__law_coin t n) fun z => Purse (K + 1) z.2 ∧ 0 ≤ z.1 ∧ z.1 < n := by
  obtain ⟨a, b, c, rfl, b0, b1, c0, c1⟩ := ht
  have hn : n < 2 ^ 1000 := Int.lt_of_le_of_lt h1 (by decide)
  by_cases q : a > 0
  · refine ⟨(a % n, [a / n, b, c]), ?_, ⟨_, _, _, rfl, b0, b1, c0, by omega⟩, Int.emod_nonneg _ (by omega), Int.emod_lt_of_pos _ h0⟩
    unfold n__law_coin
    simp only [bs, at0, gtI_e, intI_e, modI_ok _ h0, fdivW_ok _ h0 hn, st0]
    rw [if_pos (decide_eq_true q)]
  · have m1 : mulI 15485863 (c + 1) = some (15485863 * (c + 1)) := mulI_l _ _ (by decide)
    have m2 : mulI 49979687 (c + 1) = some (49979687 * (c + 1)) := mulI_l _ _ (by decide)
    have q1 : powW (b + 15485863 * (c + 1)) 3 = some ((b + 15485863 * (c + 1)) ^ 3) := powW_ok (k := 3) (by omega) (nat_lt46 (by omega) (by omega))
    have e2 : ∀ x : Int, modI x (10 ^ 43 + 29) = some (x % (10 ^ 43 + 29)) := fun x => modI_ok x (by decide)
    have e3 : ∀ x : Int, modI x (10 ^ 45 + 9) = some (x % (10 ^ 45 + 9)) := fun x => modI_ok x (by decide)
    have e4 : ∀ x : Int, fdivW x 524287 = some (x / 524287) := fun x => fdivW_ok x (by decide) (by decide)
    have s0 := Int.emod_nonneg ((b + 15485863 * (c + 1)) ^ 3) (show ((10 : Int) ^ 43 + 29) ≠ 0 by decide)
    have s1 := Int.emod_lt_of_pos ((b + 15485863 * (c + 1)) ^ 3) (show (0 : Int) < 10 ^ 43 + 29 by decide)
    have q2 : powW ((b + 15485863 * (c + 1)) ^ 3 % (10 ^ 43 + 29) + 49979687 * (c + 1)) 3 = some (((b + 15485863 * (c + 1)) ^ 3 % (10 ^ 43 + 29) + 49979687 * (c + 1)) ^ 3) := by
      generalize (b + 15485863 * (c + 1)) ^ 3 % (10 ^ 43 + 29) = s at s0 s1 ⊢
      exact powW_ok (k := 3) (by omega) (nat_lt46 (by omega) (by omega))
    refine ⟨((((b + 15485863 * (c + 1)) ^ 3 % (10 ^ 43 + 29) + 49979687 * (c + 1)) ^ 3 % (10 ^ 45 + 9) / 524287) % n, [a, b, c + 1]), ?_, ⟨_, _, _, rfl, b0, b1, by omega, by omega⟩, Int.emod_nonneg _ (by omega), Int.emod_lt_of_pos _ h0⟩
    unfold n__law_coin
    simp only [bs, at0, at1, at2, gtI_e, addI_e, st2]
    rw [if_neg (by simpa using q)]
    simp only [at1, at2, bs, m1, m2, addI_e, q1, intI_e, p1043, p1045, e2, q2, e3, e4, modI_ok _ h0]
theorem line_ok {K : Int} {t : List Int} (ht : Purse K t) {n : Nat} (hn : n ≤ 900) (hK : K + n ≤ 10 ^ 15) : Wp (n__law_line t (n : Int)) fun z => Purse (K + n) z.2 ∧ Row n z.1 := by
  unfold n__law_line
  simp only [bs, rg1_nat n (by omega : n ≤ 1000000), neNil]
  refine Wp.wh (fun s => Purse (K + s.2.2.length) s.1 ∧ (s.2.2 ++ s.2.1).Perm (iot n)) (fun s => !s.2.1.isEmpty) (fun s => s.2.1.length) (fun s _ => rfl) ?_ ⟨ht.mono (by simp), .refl _⟩ (by show (iot n).length < 1000; rw [iot_len]; omega) ?_
  · rintro ⟨T, left, found⟩ ⟨hT, hp⟩ hq
    have hp : (found ++ left).Perm (iot n) := hp
    have hT : Purse (K + found.length) T := hT
    have hl := hp.length_eq
    rw [List.length_append, iot_len] at hl
    have hne : left ≠ [] := by
      rintro rfl; cases hq
    have hl0 : 0 < left.length := List.length_pos_iff.mpr hne
    obtain ⟨⟨k, T1⟩, e1, hT1, k0, k1⟩ := coin_ok hT (by omega) (n := (left.length : Int)) (by omega) (by omega)
    obtain ⟨x, e2, e3⟩ := popL_ok k0 k1 (by omega)
    have e4 := apL_ok (xs := found) x (by omega)
    refine ⟨(T1, left.eraseIdx k.toNat, found ++ [x]), ?_, ⟨hT1.mono ?_, ?_⟩, ?_⟩
    · simp only [bs, lenL_e, e1, e2, e4]
    · show _ ≤ K + ((found ++ [x]).length : Int)
      rw [List.length_append]
      show _ ≤ K + ((found.length + 1 : Nat) : Int)
      omega
    · exact (perm_app1 found x left _ (perm_erase left _ x e3)).trans hp
    · show (left.eraseIdx k.toNat).length < left.length
      rw [List.length_eraseIdx]
      have k1 : k < left.length := k1
      have k0 : 0 ≤ k := k0
      have : k.toNat < left.length := by omega
      rw [if_pos this]
      omega
  · rintro s ⟨hT, hp⟩ hs
    have : s.2.1 = [] := by
      cases q : s.2.1 with
      | nil => rfl
      | cons a r => rw [q] at hs; cases hs
    rw [this, List.append_nil] at hp
    have hl := hp.length_eq
    rw [iot_len] at hl
    exact .some ⟨hT.mono (by rw [hl]; exact Int.le_refl _), hp⟩
theorem many_ok {K : Int} {t : List Int} (ht : Purse K t) (hK : K + 10 ≤ 10 ^ 15) : Wp (n__law_many t) fun z => Purse (K + 3) z.2 ∧ 0 ≤ z.1 ∧ z.1 ≤ 10 ^ 30 := by
  obtain ⟨⟨x, t1⟩, e1, h1, x0, x1⟩ := coin_ok ht (by omega) (n := 9) (by omega) (by decide)
  obtain ⟨⟨y, t2⟩, e2, h2, y0, y1⟩ := coin_ok h1 (by omega) (n := 10 ^ 30) (by decide) (by decide)
  obtain ⟨⟨z, t3⟩, e3, h3, z0, z1⟩ := coin_ok h2 (by omega) (n := 4) (by omega) (by decide)
  have x0 : 0 ≤ x := x0
  have x1 : x < 9 := x1
  have y0 : 0 ≤ y := y0
  have y1 : y < 10 ^ 30 := y1
  have z0 : 0 ≤ z := z0
  have z1 : z < 4 := z1
  obtain ⟨v, e4, _, hv⟩ := atL_int (xs := [0, 1 + x, y, (10 : Int) ^ 30]) (i := z) z0 z1
  unfold n__law_many
  simp only [bs, e1, e2, e3, addI_e, p1030, e4]
  refine .some ⟨h3.mono (by omega), ?_⟩
  have : v = 0 ∨ v = 1 + x ∨ v = y ∨ v = 10 ^ 30 := by simpa using hv
  rcases this with rfl | rfl | rfl | rfl
  · exact ⟨(show (0 : Int) ≤ 0 by decide), (show (0 : Int) ≤ 10 ^ 30 by decide)⟩
  · exact ⟨by omega, by have : (9 : Int) ≤ 10 ^ 30 := by decide
                        omega⟩
  · exact ⟨y0, by omega⟩
  · exact ⟨(show (0 : Int) ≤ 10 ^ 30 by decide), (show (10 : Int) ^ 30 ≤ 10 ^ 30 by decide)⟩
end K48
end Lw
namespace Lw
namespace K48
open PySem Hb Nv L2 P
open Enc (enc)
open TL (tl numL)
def nS (x : Int) : Str := ((toString x : String) : Str)
theorem tl_nS {x : Int} (h : 0 ≤ x) : tl (nS x) = numL x.toNat := by
  obtain ⟨n, rfl⟩ := Int.eq_ofNat_of_zero_le h
  exact TL.tl_num n
theorem strI_nS {x : Int} (h0 : 0 ≤ x) (h1 : x < 10 ^ 40) : strI x = some (nS x) := by
  unfold strI
  have hv := (vb_int h0 h1).hs
  have hv : decide (x.natAbs.log2 < 1920) = true := hv
  rw [if_pos (of_decide_eq_true hv)]
  rfl
theorem len_nS {x : Int} (h0 : 0 ≤ x) {k : Nat} (hk : 0 < k) (h1 : x < 10 ^ k) : (nS x).length ≤ k ∧ 1 ≤ (nS x).length := by
  rw [TL.len_tl, tl_nS h0]
  refine ⟨TL.numL_len hk ?_, ?_⟩
  · have e : ((10 ^ k : Nat) : Int) = (10 : Int) ^ k := by simp
    omega
  · have := TL.numL_ne x.toNat
    cases q : numL x.toNat with
    | nil => exact absurd q this
    | cons => simp
theorem head_num (n : Nat) : 1 ≤ n → ∃ c r, numL n = c :: r ∧ c ≠ 48 := by
  induction n using Nat.strongRecOn with
  | _ n ih =>
    intro h
    by_cases c : n < 10
    · exact ⟨48 + n, [], TL.numL_lt c, by omega⟩
    · obtain ⟨d, r, e, ne⟩ := ih (n / 10) (by omega) (by omega)
      exact ⟨d, r ++ [48 + n % 10], by rw [TL.numL_step (by omega), e]; rfl, ne⟩
theorem lenS_e {w : Str} (h : w.length ≤ 100000) : lenS w = some (w.length : Int) := by
  unfold lenS
  rw [if_pos (cap_ge h)]
theorem digits_tl : (("0123456789" : String) : Str).cps.toList = [48, 49, 50, 51, 52, 53, 54, 55, 56, 57] := by decide +kernel
theorem zero_tl : (("0" : String) : Str).cps.toList = [48] := by decide +kernel
theorem sign_in {w : Str} (h : ∀ c ∈ tl w, 48 ≤ c ∧ c ≤ 57) : ∀ x ∈ signsL w, inS x ("0123456789" : Str) = some true := fun x hx => by
  obtain ⟨c, hc, rfl⟩ := List.mem_map.mp hx
  have := h c hc
  unfold inS
  show some (decide (c ∈ (("0123456789" : String) : Str).cps.toList)) = some true
  rw [digits_tl]
  have : c = 48 ∨ c = 49 ∨ c = 50 ∨ c = 51 ∨ c = 52 ∨ c = 53 ∨ c = 54 ∨ c = 55 ∨ c = 56 ∨ c = 57 := by omega
  rcases this with rfl | rfl | rfl | rfl | rfl | rfl | rfl | rfl | rfl | rfl <;> rfl
theorem number_ok {x : Int} (h0 : 0 ≤ x) (h1 : x ≤ 10 ^ 30) : n_number_in (nS x) = some (some x) := by
  have e31 : (10 : Int) ^ 30 < 10 ^ 31 := by decide
  obtain ⟨l1, l2⟩ := len_nS h0 (k := 31) (by omega) (by omega)
  have hd : ∀ c ∈ tl (nS x), 48 ≤ c ∧ c ≤ 57 := fun c hc => by
    rw [tl_nS h0] at hc
    exact TL.numL_digits _ c hc
  have sl : (signsL (nS x)).length = (nS x).length := by
    unfold signsL
    rw [List.length_map, TL.len_tl]
  have e1 := mapT_cap (g := fun x8 => inS x8 ("0123456789" : Str)) (xs := signsL (nS x)) (fun _ => true) (by omega) (sign_in hd)
  have e2 : intS (nS x) = some x := by
    unfold intS
    rw [if_pos (by omega)]
    obtain ⟨n, rfl⟩ := Int.eq_ofNat_of_zero_le h0
    have := TL.int_num (n := n) (by
      rw [TL.len_tl, tl_nS h0] at l1
      simp at l1
      omega)
    exact this
  have e3 : atS (nS x) 0 = some ⟨#[(tl (nS x)).headD 0]⟩ := by
    unfold atS
    rw [if_pos (by omega)]
    have : (nS x).cps.toList = tl (nS x) := rfl
    rw [this]
    have l2' : 1 ≤ (tl (nS x)).length := by rw [← TL.len_tl]; exact l2
    cases q : tl (nS x) with
    | nil => rw [q] at l2'; simp at l2'
    | cons c r =>
      have : atI (c :: r) 0 = some c := atL_nat (xs := c :: r) (k := 0) rfl
      rw [this]
      rfl
  unfold n_number_in
  simp only [bs, lenS_e (show (nS x).length ≤ 100000 by omega), leI_e]
  rw [if_pos (decide_eq_true (show (1 : Int) ≤ ((nS x).length : Int) by omega))]
  have c40 : decide (((nS x).length : Int) ≤ 40) = true := decide_eq_true (by omega)
  simp only [bs, c40, Bool.not_true]
  rw [if_neg (by decide)]
  have e1' : (if List.length (signsL (nS x)) ≤ cap then mapF (signsL (nS x)) (fun x8 => some true) (fun x8 => inS x8 ("0123456789" : Str)) else none) = some ((signsL (nS x)).map fun _ => true) := e1
  rw [e1']
  simp only [bs, allB_e, all_true, Bool.not_true]
  rw [if_neg (by decide)]
  rw [e3]
  simp only [bs, eqS_e]
  by_cases z : x = 0
  · subst z
    have t0 : (nS 0).cps.toList = [48] := by
      show tl (nS 0) = _
      rw [tl_nS (by omega)]
      exact TL.numL_lt (by decide)
    have h0' : ((⟨#[(tl (nS 0)).headD 0]⟩ : Str).cps.toList == (("0" : String) : Str).cps.toList) = true := by
      rw [zero_tl]
      show ([(tl (nS 0)).headD 0] == [48]) = true
      rw [show tl (nS 0) = [48] from t0]
      rfl
    rw [h0', if_pos rfl]
    simp only [neS_e, t0, zero_tl, bs]
    rw [if_neg (by decide), e2]
    rfl
  · obtain ⟨n, rfl⟩ := Int.eq_ofNat_of_zero_le h0
    obtain ⟨c, r, ec, nc⟩ := head_num n (by omega)
    have tc : tl (nS ((n : Nat) : Int)) = c :: r := by
      rw [tl_nS h0]
      simpa using ec
    have h0' : ((⟨#[(tl (nS ((n : Nat) : Int))).headD 0]⟩ : Str).cps.toList == (("0" : String) : Str).cps.toList) = false := by
      rw [zero_tl, tc]
      show ([c] == [48]) = false
      simpa using nc
    rw [h0', if_neg (by decide)]
    simp only [bs]
    rw [if_neg (by decide), e2]
    rfl
end K48
end Lw
namespace Lw
namespace K48
open PySem Hb Nv L2 P
open Enc (enc)
open TL (tl numL)
theorem mapT_map {α β γ : Type} (h : α → β) (g : β → Option γ) (f : α → γ) : ∀ r : List α, (∀ x ∈ r, g (h x) = some (f x)) → mapF (r.map h) (fun _ => some true) g = some (r.map f)
  | [], _ => rfl
  | x :: r, hg => by
    have e := mapT_map h g f r fun y hy => hg y (List.mem_cons_of_mem _ hy)
    show (Option.bind (some true) _) = _
    simp only [bs, if_true, hg x List.mem_cons_self, e]
    rfl
theorem sum_le {α : Type} (f : α → Nat) (k : Nat) : ∀ xs : List α, (∀ x ∈ xs, f x ≤ k) → (xs.map f).sum ≤ xs.length * k
  | [], _ => by simp
  | x :: r, h => by
    have := sum_le f k r fun y hy => h y (List.mem_cons_of_mem _ hy)
    have h1 := h x List.mem_cons_self
    rw [List.map_cons, List.sum_cons, List.length_cons, Nat.add_mul, Nat.one_mul]
    omega
def jn (sep : Str) (r : List Int) : Str := Txt.join sep (r.map nS)
/-- few numbers, small -/
def Few (r : List Int) : Prop := r.length ≤ 12 ∧ ∀ x ∈ r, 0 ≤ x ∧ x < 100
theorem Row.few {n : Nat} {r : List Int} (h : Row n r) (hn : n ≤ 12) : Few r := ⟨by rw [h.len]; exact hn, fun x hx => by have := h.mem.mp hx; omega⟩
theorem nS_len2 {x : Int} (h : 0 ≤ x ∧ x < 100) : (nS x).length ≤ 2 := (len_nS h.1 (k := 2) (by omega) (by rw [show (10 : Int) ^ 2 = 100 from by decide]; exact h.2)).1
theorem few_sum {r : List Int} (h : Few r) {sep : Str} (hs : sep.length ≤ 4) : ((r.map nS).map (·.length)).sum + (r.map nS).length * sep.length ≤ 72 := by
  have h1 := sum_le (fun p : Str => p.length) 2 (r.map nS) fun p hp => by
    obtain ⟨x, hx, rfl⟩ := List.mem_map.mp hp
    exact nS_len2 (h.2 x hx)
  have h0 := h.1
  rw [List.length_map] at h1 ⊢
  have h2 : r.length * sep.length ≤ r.length * 4 := Nat.mul_le_mul_left _ hs
  omega
theorem jn_len {r : List Int} (h : Few r) {sep : Str} (hs : sep.length ≤ 4) : (jn sep r).length ≤ 72 := by
  unfold jn
  rw [TL.join_eq]
  exact Nat.le_trans (PySem.StrLaws.join_length_le sep _) (few_sum h hs)
theorem small40 {x : Int} (h : 0 ≤ x ∧ x < 100) : strI x = some (nS x) := strI_nS h.1 (Int.lt_trans h.2 (by decide))
theorem joined_ok {r : List Int} (h : Few r) {sep : Str} (hs : sep.length ≤ 4) : n_joined_with sep r = some (jn sep r) := by
  have e1 := mapT_cap (g := strI) (xs := r) nS (by have := h.1; omega) fun x hx => small40 (h.2 x hx)
  have e2 : joinN sep (r.map nS) = some (jn sep r) := by
    unfold joinN
    rw [if_pos (by have := few_sum h hs; omega)]
    rfl
  unfold n_joined_with
  simp only [bs]
  have e1' : (if List.length r ≤ cap then mapF r (fun x2 => some true) (fun x2 => strI x2) else none) = some (r.map nS) := e1
  rw [e1']
  simp only [bs, e2]
theorem joined_law {r : List Int} (h : Few r) {sep : Str} (hs : sep.length ≤ 4) : n__law_joined sep r = some (jn sep r) := joined_ok h hs
theorem enc_some (r : List Int) : (enc (r.map some) : PyData) = enc r := by
  show PyData.list ((r.map some).map enc) = .list (r.map enc)
  rw [List.map_map]
  rfl
theorem none_nin (r : List Int) : ninA (enc ()) (enc (r.map some)) = some true := by
  rw [enc_some]
  unfold ninA
  show (inD .none (.list (r.map enc))).map _ = _
  have hs : SeqAt.shaped (.list (r.map enc)) = true := shaped_enc (α := List Int) (by decide) r
  show (if SeqAt.shaped PyData.none = true ∧ SeqAt.shaped (PyData.list (r.map enc)) = true then some ((r.map enc).any fun z => PyData.eqv z PyData.none) else none).map _ = _
  rw [if_pos ⟨by decide, hs⟩]
  have : ((r.map (enc : Int → PyData)).any fun z => PyData.eqv z .none) = false := by
    rw [List.any_map]
    exact List.any_eq_false.mpr fun x _ => by simp [enc, PyData.eqv]
  rw [this]
  rfl
theorem places_ok {n : Nat} {r : List Int} (hr : Row n r) (h1 : 1 ≤ n) (hn : n ≤ 12) {sep : Str} {s : Nat} (ey : tl sep = [s]) (hk : sep.cps.all (· < 256) = true) (hs : s < 48 ∨ 57 < s) : n_places_in (n : Int) (jn sep r) sep = some (some (r.map some)) := by
  have sl : sep.length = 1 := by rw [TL.len_tl, ey]; rfl
  have fw := Row.few hr hn
  have e1 : splitN (jn sep r) sep = some (r.map nS) := by
    unfold splitN
    rw [if_pos ⟨by rw [sl]; rfl, by have := jn_len fw (sep := sep) (by omega); exact cap_ge (by omega)⟩]
    unfold jn
    rw [TL.split_join ey hk (by
      intro z
      have := congrArg List.length z
      rw [List.length_map, hr.len] at this
      simp at this
      omega) fun p hp => by
        obtain ⟨x, hx, rfl⟩ := List.mem_map.mp hp
        rw [tl_nS (fw.2 x hx).1]
        exact TL.numL_free hs]
  have e2 := mapT_map nS n_number_in some r fun x hx => number_ok (fw.2 x hx).1 (Int.le_of_lt (Int.lt_of_lt_of_le (fw.2 x hx).2 (by decide)))
  have e3 : n_is_each_once (n : Int) (enc (r.map some)) = some true := by
    rw [enc_some, each_ok (by omega) (sml_row hr (by omega)), rowB_row hr]
  unfold n_places_in
  simp only [bs, e1]
  rw [if_pos (show (r.map nS).length ≤ cap by rw [List.length_map, hr.len]; exact cap_ge (by omega))]
  have e2' : mapF (r.map nS) (fun x4 => some true) (fun x4 => n_number_in x4) = some (r.map some) := e2
  rw [e2']
  simp only [bs, none_nin, if_true, e3]
theorem text_ok (w : Str) : n_need_text (enc w) = some () := by
  unfold n_need_text
  simp only [bs, isiN_e]
  rfl
theorem all_ok {n : Nat} {r : List Int} (hr : Row n r) (h1 : 1 ≤ n) (hn : n ≤ 12) {sep : Str} {s : Nat} (ey : tl sep = [s]) (hk : sep.cps.all (· < 256) = true) (hs : s < 48 ∨ 57 < s) : n_read_all (n : Int) (jn sep r) sep = some (r.map some) := by
  unfold n_read_all
  simp only [bs, text_ok, places_ok hr h1 hn ey hk hs]
  rfl
theorem gt_tl : tl ((">" : String) : Str) = [62] := by decide +kernel
theorem gt_k : ((">" : String) : Str).cps.all (· < 256) = true := by decide +kernel
theorem da_tl : tl (("-" : String) : Str) = [45] := by decide +kernel
theorem da_k : (("-" : String) : Str).cps.all (· < 256) = true := by decide +kernel
theorem read_ballot_ok {n : Nat} {r : List Int} (hr : Row n r) (h1 : 1 ≤ n) (hn : n ≤ 12) : n_read_ballot (n : Int) (jn (">" : Str) r) = some (r.map some) := by
  unfold n_read_ballot
  simp only [bs, count_ok h1 hn, all_ok hr h1 hn gt_tl gt_k (by omega)]
theorem read_line_ok {n : Nat} {r : List Int} (hr : Row n r) (h1 : 1 ≤ n) (hn : n ≤ 12) : n_read_line (n : Int) (jn ("-" : Str) r) = some (r.map some) := by
  unfold n_read_line
  simp only [bs, count_ok h1 hn, all_ok hr h1 hn da_tl da_k (by omega)]
end K48
end Lw
namespace Lw
namespace K48
open PySem Hb Nv L2 P
open Enc (enc)
open TL (tl numL)
variable {n : Nat} {f : List (List Int)} {w : List Int}
theorem show_ballot_ok {r : List Int} (hr : Row n r) (h1 : 1 ≤ n) (hn : n ≤ 12) : n_show_ballot (n : Int) r = some (jn (">" : Str) r) := by
  unfold n_show_ballot
  have hb : n_need_ballot (n : Int) (enc r) = some () := ballot_ok hr (by omega)
  simp only [bs, count_ok h1 hn, hb, joined_ok (Row.few hr hn) (sep := (">" : Str)) (by decide +kernel)]
theorem show_line_ok {r : List Int} (hr : Row n r) (h1 : 1 ≤ n) (hn : n ≤ 12) : n_show_line r = some (jn ("-" : Str) r) := by
  unfold n_show_line
  simp only [bs, Lw.line_ok hr h1 hn, joined_ok (Row.few hr hn) (sep := ("-" : Str)) (by decide +kernel)]
def rowT (z : List Int × Int) : Str := (nS z.2 ++ (": " : Str)) ++ jn (">" : Str) z.1
def linesT (f : List (List Int)) (w : List Int) : List Str := (f.zip w).map rowT
def textT (f : List (List Int)) (w : List Int) : Str := Txt.join ("\n" : Str) (linesT f w)
theorem cs_tl : tl ((": " : String) : Str) = [58, 32] := by decide +kernel
theorem nl_tl : tl (("\n" : String) : Str) = [10] := by decide +kernel
theorem nl_k : (("\n" : String) : Str).cps.all (· < 256) = true := by decide +kernel
theorem nS_len31 {x : Int} (h0 : 0 ≤ x) (h1 : x ≤ 10 ^ 30) : (nS x).length ≤ 31 := (len_nS h0 (k := 31) (by omega) (Int.lt_of_le_of_lt h1 (by decide))).1
theorem app_len (x y : Str) : (x ++ y).length = x.length + y.length := by
  rw [TL.len_tl, TL.tl_append, List.length_append, ← TL.len_tl, ← TL.len_tl]
theorem rowT_len {z : List Int × Int} (h : Few z.1) (h0 : 0 ≤ z.2) (h1 : z.2 ≤ 10 ^ 30) : (rowT z).length ≤ 105 := by
  have a := nS_len31 h0 h1
  have b := jn_len h (sep := (">" : Str)) (by decide +kernel)
  have c : ((": " : String) : Str).length = 2 := by decide +kernel
  unfold rowT
  rw [app_len, app_len, c]
  omega
/-- ballots with their voters -/
structure Bv (n : Nat) (f : List (List Int)) (w : List Int) : Prop where
  h1 : 1 ≤ n
  hn : n ≤ 12
  hf : ∀ z ∈ f, Row n z
  hw : Wts w
  hl : f.length ≤ 40
  e : f.length = w.length
theorem Bv.row (B : Bv n f w) {z : List Int × Int} (h : z ∈ f.zip w) : Row n z.1 ∧ 0 ≤ z.2 ∧ z.2 ≤ 10 ^ 30 := by
  obtain ⟨h1, h2⟩ := List.of_mem_zip (show (z.1, z.2) ∈ f.zip w from h)
  exact ⟨B.hf _ h1, B.hw _ h2⟩
theorem Bv.len (B : Bv n f w) : (f.zip w).length = f.length := by rw [List.length_zip, ← B.e, Nat.min_self]
theorem lines_len (B : Bv n f w) : (linesT f w).length = f.length := by unfold linesT; rw [List.length_map, B.len]
theorem lines_sum (B : Bv n f w) : ((linesT f w).map (·.length)).sum + (linesT f w).length * ((("\n" : String) : Str)).length ≤ 4240 := by
  have h1 := sum_le (fun p : Str => p.length) 105 (linesT f w) fun p hp => by
    obtain ⟨z, hz, rfl⟩ := List.mem_map.mp hp
    obtain ⟨r, v0, v1⟩ := B.row hz
    exact rowT_len (Row.few r B.hn) v0 v1
  have h2 := lines_len B
  have h3 := B.hl
  have c : ((("\n" : String) : Str)).length = 1 := by decide +kernel
  rw [c]
  omega
theorem catS_ok {x y : Str} (h : x.length + y.length ≤ 100000) : catS x y = some (x ++ y) := by
  unfold catS
  rw [if_pos ⟨cap_ge (by omega), cap_ge (by omega)⟩]
theorem row_show {z : List Int × Int} (h : Few z.1) (h0 : 0 ≤ z.2) (h1 : z.2 ≤ 10 ^ 30) : ((strI z.2).bind fun x22 => catS x22 (": " : Str)).bind (fun x29 => (n_joined_with (">" : Str) z.1).bind fun x30 => catS x29 x30) = some (rowT z) := by
  have a := nS_len31 h0 h1
  have b := jn_len h (sep := (">" : Str)) (by decide +kernel)
  have c : ((": " : String) : Str).length = 2 := by decide +kernel
  rw [strI_nS h0 (Int.lt_of_le_of_lt h1 (by decide)), joined_ok h (sep := (">" : Str)) (by decide +kernel)]
  simp only [bs]
  rw [catS_ok (x := nS z.2) (y := (": " : Str)) (by rw [c]; omega)]
  simp only [bs]
  exact catS_ok (by rw [app_len, c]; omega)
theorem lines_show (B : Bv n f w) : (if List.length (f.zip w) ≤ cap then mapF (f.zip w) (fun x20 => (some true)) (fun x20 => ((strI x20.2).bind fun x22 => catS x22 (": " : Str)).bind (fun x29 => (n_joined_with (">" : Str) x20.1).bind fun x30 => catS x29 x30)) else none) = some (linesT f w) :=
  mapT_cap rowT (by rw [B.len]; have := B.hl; omega) fun z hz => by
    obtain ⟨r, v0, v1⟩ := B.row hz
    exact row_show (Row.few r B.hn) v0 v1
theorem text_join (B : Bv n f w) : joinN ("\n" : Str) (linesT f w) = some (textT f w) := by
  unfold joinN
  rw [if_pos (by have := lines_sum B; omega)]
  rfl
theorem show_ballots_ok (B : Bv n f w) : n_show_ballots (n : Int) f w = some (textT f w) := by
  have hb : n_need_ballots (n : Int) (enc f) = some () := ballots_ok B.hf (by have := B.hn; omega) B.hl
  have hv := (voters_ok B.hw (by rw [← B.e]; exact B.hl) B.e).1
  unfold n_show_ballots
  simp only [bs, count_ok B.h1 B.hn, hb, hv]
  have := lines_show B
  rw [this]
  simp only [bs, text_join B]
theorem mem_joinL {S : List Nat} {c : Nat} : ∀ {ps : List (List Nat)}, c ∈ TL.joinL S ps → c ∈ S ∨ ∃ p ∈ ps, c ∈ p
  | [], h => by cases h
  | [p], h => .inr ⟨p, List.mem_cons_self, h⟩
  | p :: q :: r, h => by
    have h : c ∈ p ++ (S ++ TL.joinL S (q :: r)) := h
    rcases List.mem_append.mp h with z | z
    · exact .inr ⟨p, List.mem_cons_self, z⟩
    · rcases List.mem_append.mp z with z | z
      · exact .inl z
      · rcases mem_joinL z with y | ⟨y, h1, h2⟩
        · exact .inl y
        · exact .inr ⟨y, List.mem_cons_of_mem _ h1, h2⟩
theorem nl_free {z : List Int × Int} (h : Few z.1) (h0 : 0 ≤ z.2) : 10 ∉ tl (rowT z) := fun hm => by
  unfold rowT at hm
  rw [TL.tl_append, TL.tl_append, cs_tl, tl_nS h0] at hm
  rcases List.mem_append.mp hm with y | y
  · rcases List.mem_append.mp y with y | y
    · exact TL.numL_free (by omega) y
    · simp at y
  · unfold jn at y
    rw [TL.join_eq, TL.tl_join, gt_tl] at y
    rcases mem_joinL y with y | ⟨p, hp, y⟩
    · simp at y
    · obtain ⟨q, hq, rfl⟩ := List.mem_map.mp hp
      obtain ⟨x, hx, rfl⟩ := List.mem_map.mp hq
      rw [tl_nS (h.2 x hx).1] at y
      exact TL.numL_free (by omega) y
theorem text_len (B : Bv n f w) : (textT f w).length ≤ 4240 := by
  unfold textT
  rw [TL.join_eq]
  exact Nat.le_trans (PySem.StrLaws.join_length_le _ _) (lines_sum B)
theorem split_text (B : Bv n f w) (hne : f ≠ []) : splitN (textT f w) ("\n" : Str) = some (linesT f w) := by
  unfold splitN
  rw [if_pos ⟨by decide +kernel, cap_ge (by have := text_len B; omega)⟩]
  unfold textT
  rw [TL.split_join nl_tl nl_k (by
    intro z
    have := congrArg List.length z
    rw [lines_len B] at this
    exact hne (List.length_eq_zero_iff.mp this)) fun p hp => by
      obtain ⟨z, hz, rfl⟩ := List.mem_map.mp hp
      obtain ⟨r, v0, v1⟩ := B.row hz
      exact nl_free (Row.few r B.hn) v0]
theorem text_ne (B : Bv n f w) (hne : f ≠ []) : ((textT f w).cps.toList == (("" : String) : Str).cps.toList) = false := by
  have e0 : (("" : String) : Str).cps.toList = [] := by decide +kernel
  rw [e0]
  have : tl (textT f w) ≠ [] := by
    unfold textT
    rw [TL.join_eq, TL.tl_join]
    have h1 := lines_len B
    have first : ∀ p ∈ (linesT f w).map tl, p ≠ [] := fun p hp => by
      obtain ⟨q, hq, rfl⟩ := List.mem_map.mp hp
      obtain ⟨z, hz, rfl⟩ := List.mem_map.mp hq
      unfold rowT
      rw [TL.tl_append, TL.tl_append, cs_tl]
      simp
    cases q : (linesT f w).map tl with
    | nil =>
      have := congrArg List.length q
      rw [List.length_map, h1] at this
      exact absurd (List.length_eq_zero_iff.mp this) hne
    | cons p r =>
      rw [q] at first
      have := first p List.mem_cons_self
      cases r with
      | nil => exact this
      | cons p2 r2 =>
        show p ++ _ ≠ []
        simp [this]
  cases q : tl (textT f w) with
  | nil => exact absurd q this
  | cons c r =>
    show (tl (textT f w) == []) = false
    rw [q]
    rfl
theorem part_row {z : List Int × Int} (h : Few z.1) (h0 : 0 ≤ z.2) (h1 : z.2 ≤ 10 ^ 30) : partN (rowT z) (": " : Str) = some ⟨nS z.2, (": " : Str), jn (">" : Str) z.1⟩ := by
  unfold partN
  rw [if_pos ⟨by decide +kernel, cap_ge (by have := rowT_len h h0 h1; omega)⟩]
  unfold rowT
  rw [TL.partition_app cs_tl (by rw [tl_nS h0]; exact TL.numL_free (by omega))]
theorem enumL_get {α : Type} {xs : List α} {i : Nat} {x : Int × α} (h : (enumL xs)[i]? = some x) : x.1 = (i : Int) ∧ xs[i]? = some x.2 := by
  unfold enumL at h
  rw [List.getElem?_map, List.getElem?_zipIdx] at h
  cases q : xs[i]? with
  | none => rw [q] at h; cases h
  | some y =>
    rw [q] at h
    cases h
    exact ⟨by simp, rfl⟩
theorem read_ballots_ok (B : Bv n f w) : n_read_ballots_b (n : Int) (textT f w) = some (f.map (·.map some), w.map some) := by
  have goal : Wp (n_read_ballots_b (n : Int) (textT f w)) fun z => z = (f.map (·.map some), w.map some) := by
    unfold n_read_ballots_b
    simp only [bs, count_ok B.h1 B.hn, text_ok, neS_e]
    by_cases hne : f = []
    · subst hne
      have hw : w = [] := List.length_eq_zero_iff.mp B.e.symm
      subst hw
      have : ((textT [] []).cps.toList == (("" : String) : Str).cps.toList) = true := by decide +kernel
      rw [this]
      exact .some rfl
    · rw [text_ne B hne]
      rw [show (!false) = true from rfl, if_pos rfl, split_text B hne]
      simp only [bs]
      refine Wp.for (fun k s => s = ((f.take k).map (·.map some), (w.take k).map some)) rfl (fun i x s hx hs => ?_) (fun s hs => ?_)
      · subst hs
        obtain ⟨e1, e2⟩ := enumL_get hx
        unfold linesT at e2
        rw [List.getElem?_map] at e2
        cases q : (f.zip w)[i]? with
        | none => rw [q] at e2; cases e2
        | some z =>
          rw [q] at e2
          have e2 : rowT z = x.2 := Option.some.inj e2
          have hz := List.mem_of_getElem? q
          obtain ⟨r, v0, v1⟩ := B.row hz
          have fw := Row.few r B.hn
          have hi : i < f.length := by
            have := (List.getElem?_eq_some_iff.mp q).1
            rw [B.len] at this
            exact this
          have hl := B.hl
          have gf : f[i]? = some z.1 := by
            rw [List.getElem?_zip_eq_some] at q
            exact q.1
          have gw : w[i]? = some z.2 := by
            rw [List.getElem?_zip_eq_some] at q
            exact q.2
          rw [← e2, part_row fw v0 v1]
          simp only [bs, number_ok v0 v1, places_ok r B.h1 B.hn gt_tl gt_k (by omega), Option.isNone, gtI_e, eqN_e, e1]
          have c1 : decide ((1000000000000000000000000000000 : Int) < z.2) = false := decide_eq_false (by
            have : (10 : Int) ^ 30 = 1000000000000000000000000000000 := by decide
            omega)
          have c2 : decide (((i : Nat) : Int) = 40) = false := decide_eq_false (by omega)
          simp only [c1, c2, bs, Bool.false_eq_true, if_false]
          rw [apL_ok _ (by rw [List.length_map, List.length_take]; omega), apL_ok _ (by rw [List.length_map, List.length_take]; omega)]
          simp only [bs]
          refine .some ?_
          rw [List.take_succ, gf, List.take_succ, gw]
          simp
      · subst hs
        have el : (enumL (linesT f w)).length = f.length := by
          unfold enumL
          rw [List.length_map, List.length_zipIdx, lines_len B]
        rw [el]
        refine .some ?_
        rw [List.take_length, B.e, List.take_length]
  obtain ⟨z, e, rfl⟩ := goal
  exact e
theorem read_ballots_eq (c : Int) (t : Str) : n_read_ballots c t = n_read_ballots_b c t := by
  unfold n_read_ballots n_read_ballots_b
  simp only [bs]
end K48
end Lw
namespace Lw
namespace K48
open PySem Hb Nv L2 P
open Enc (enc)
open TL (tl numL)
variable {n : Nat} {f : List (List Int)} {w : List Int}
theorem mapE_purse {α γ : Type} (g : List Int → α → Option (γ × List Int)) (Q : γ → Prop) (k : Nat) : ∀ (xs : List α) (K : Int) (t : List Int), Purse K t → K + k * xs.length ≤ 10 ^ 14 → (∀ K t, Purse K t → K + k ≤ 10 ^ 14 → ∀ x ∈ xs, ∃ y s', g t x = some (y, s') ∧ Q y ∧ Purse (K + k) s') → ∃ ys s', mapE xs t g = some (ys, s') ∧ ys.length = xs.length ∧ (∀ y ∈ ys, Q y) ∧ Purse (K + k * xs.length) s'
  | [], K, s, h, _, _ => ⟨[], s, rfl, rfl, by simp, h.mono (by simp)⟩
  | x :: r, K, s, h, hK, hg => by
    have e : (k : Int) * ((x :: r).length : Nat) = k + k * (r.length : Nat) := by
      rw [List.length_cons, Int.natCast_add, Int.mul_add]; simp; omega
    have e0 : 0 ≤ (k : Int) * (r.length : Nat) := Int.mul_nonneg (by omega) (by omega)
    rw [e] at hK ⊢
    obtain ⟨y, s1, e1, q1, h1⟩ := hg K s h (by omega) x (by simp)
    obtain ⟨ys, s2, e2, l2, q2, h2⟩ := mapE_purse g Q k r (K + k) s1 h1 (by omega) fun K s hs hk z hz => hg K s hs hk z (by simp [hz])
    refine ⟨y :: ys, s2, ?_, by simp [l2], ?_, h2.mono (by omega)⟩
    · show (g s x).bind _ = _
      rw [e1]
      show (mapE r s1 g).bind _ = _
      rw [e2]; rfl
    · intro z hz
      rcases List.mem_cons.mp hz with rfl | hz
      · exact q1
      · exact q2 z hz
theorem vb_tuple {D W L : Nat} {xs : List PyData} (h : ∀ x ∈ xs, Vb D W x) (hl : xs.length ≤ L) : Vb (D + 1) (L * (W + 1)) (.tuple xs) := by
  obtain ⟨h1, h2, h3, h4⟩ := vb_all h
  exact ⟨by simpa [shw] using h1, by simpa [PyData.leavesShort] using h2, by simp only [PyData.depth]; omega, by simpa only [PyData.bulk] using Nat.le_trans h4 (Nat.mul_le_mul_right _ hl)⟩
theorem vb_wts (hw : Wts w) (hl : w.length ≤ 40) : Vb 1 40 (enc w) := (vb_ints (L := 40) (fun x hx => by
  have := hw x hx
  have e : (10 : Int) ^ 30 < 10 ^ 40 := by decide
  omega) hl).mono (by omega) (by omega)
/-- what is told, as a tree -/
def treeT (b l : List Int) (f : List (List Int)) (w : List Int) : PyData := enc [enc b, enc l, enc (f, w)]
theorem vb_tree (B : Bv n f w) {b l : List Int} (hb : Row n b) (hl : Row n l) : Vb 4 3200 (treeT b l f w) := by
  have v2 : Vb 3 1042 (enc (f, w)) := (vb_tuple (D := 2) (W := 520) (L := 2) (xs := [enc f, enc w]) (fun x hx => by
    simp only [List.mem_cons, List.not_mem_nil, or_false] at hx
    rcases hx with rfl | rfl
    · exact vb_rows B.hf B.hn B.hl
    · exact (vb_wts B.hw (by rw [← B.e]; exact B.hl)).mono (by omega) (by omega)) (by simp)).mono (by omega) (by omega)
  refine (vb_list (D := 3) (W := 1042) (L := 3) (xs := [enc b, enc l, enc (f, w)].map fun d => d) ?_ (by simp)).mono (by omega) (by omega)
  intro x hx
  rw [List.map_id'] at hx
  simp only [List.mem_cons, List.not_mem_nil, or_false] at hx
  rcases hx with rfl | rfl | rfl
  · exact (vb_row hb B.hn).mono (by omega) (by omega)
  · exact (vb_row hl B.hn).mono (by omega) (by omega)
  · exact v2
theorem due_ok (B : Bv n f w) {b l : List Int} (hb : Row n b) (hl : Row n l) : reprN (enc [enc b, enc l, enc (f, w)]) = some (treeT b l f w).shown := vb_repr (vb_tree B hb hl) (by omega) (by omega)
theorem kept_ok (B : Bv n f w) {b l : List Int} (hb : Row n b) (hl : Row n l) : ∃ s, reprN (enc [enc b, enc l, enc f, enc w]) = some s := by
  refine ⟨_, vb_repr (vb_list (D := 2) (W := 520) (L := 4) (xs := [enc b, enc l, enc f, enc w].map fun d => d) ?_ (by simp)) (by omega) (by omega)⟩
  intro x hx
  rw [List.map_id'] at hx
  simp only [List.mem_cons, List.not_mem_nil, or_false] at hx
  rcases hx with rfl | rfl | rfl | rfl
  · exact (vb_row hb B.hn).mono (by omega) (by omega)
  · exact (vb_row hl B.hn).mono (by omega) (by omega)
  · exact vb_rows B.hf B.hn B.hl
  · exact (vb_wts B.hw (by rw [← B.e]; exact B.hl)).mono (by omega) (by omega)
theorem map_some (r : List Int) : (r.map some).map (enc : Option Int → PyData) = r.map enc := by
  rw [List.map_map]
  rfl
theorem flat_ints (r : List Int) : (r.map (enc : Int → PyData)).all flatD = true := by
  rw [List.all_map]
  exact List.all_eq_true.mpr fun x _ => rfl
theorem told_eq (b l : List Int) (f : List (List Int)) (w : List Int) : toldT (b.map enc) (l.map enc) ((f.map fun x => x.map enc).map .list) (w.map enc) = treeT b l f w := by
  rw [List.map_map]
  rfl
def aft (b l : List Int) (f : List (List Int)) (w : List Int) : List PyData := [.list (b.map enc ++ [.str "?"]), .list (l.map enc ++ [.str "?"]), .tuple [.list (((f.map fun x => x.map enc).map fun r => .list (r ++ [.str "?"])) ++ [.str "?"]), .list (w.map enc ++ [.str "?"])]]
theorem told_ok2 (B : Bv n f w) {b l : List Int} (hb : Row n b) (hl : Row n l) : toldN ((b.map some).map enc) ((l.map some).map enc) ((f.map (·.map some)).map fun x => x.map enc) ((w.map some).map enc) ("?" : Str) = some (treeT b l f w, aft b l f w) := by
  have e1 : ((f.map (·.map some)).map fun x : List (Option Int) => x.map (enc : Option Int → PyData)) = f.map fun x => x.map enc := by
    rw [List.map_map]
    exact List.map_congr_left fun x _ => map_some x
  rw [map_some, map_some, map_some, e1]
  have v := vb_tree B hb hl
  have v5 : (treeT b l f w).shown.length ≤ sizeLine := by
    have h2 := v.hw
    have h4 := PyData.shown_le_bulk 40 (by omega) _ v.hl
    have : sizeLine = 2 ^ 24 := rfl
    omega
  have ok : okTold (b.map enc) (l.map enc) (f.map fun x => x.map enc) (w.map enc) = true := by
    unfold okTold
    rw [told_eq]
    have c1 : (f.map fun x => x.map (enc : Int → PyData)).all (fun r => r.all flatD) = true := by
      rw [List.all_map]
      exact List.all_eq_true.mpr fun x _ => flat_ints x
    have c2 : (f.map fun x => x.map (enc : Int → PyData)).all (fun r => decide (r.length ≤ cap)) = true := by
      rw [List.all_map]
      exact List.all_eq_true.mpr fun x hx => decide_eq_true (show (x.map (enc : Int → PyData)).length ≤ cap by rw [List.length_map, (B.hf x hx).len]; exact cap_ge (by have := B.hn; omega))
    rw [flat_ints, flat_ints, flat_ints, c1, c2, v.hs]
    have hn := B.hn
    have hf := B.hl
    have d1 : (b.map (enc : Int → PyData)).length ≤ cap := by rw [List.length_map, hb.len]; exact cap_ge (by omega)
    have d2 : (l.map (enc : Int → PyData)).length ≤ cap := by rw [List.length_map, hl.len]; exact cap_ge (by omega)
    have d3 : (w.map (enc : Int → PyData)).length ≤ cap := by rw [List.length_map, ← B.e]; exact cap_ge (by omega)
    have d4 : (f.map fun x => x.map (enc : Int → PyData)).length ≤ cap := by rw [List.length_map]; exact cap_ge (by omega)
    rw [decide_eq_true d1, decide_eq_true d2, decide_eq_true d3, decide_eq_true d4, decide_eq_true (Nat.le_trans v.hd (by omega)), decide_eq_true v5]
    rfl
  unfold toldN
  rw [if_pos ok, told_eq]
  rfl
theorem cutL_last {α : Type} {ws : List α} {v : α} : cutL (ws ++ [v]) none (some (-1)) = ws := by
  have e : HT.sIx (ws ++ [v]).length (ws ++ [v]).length (some (-1)) = ws.length := by
    show (if (-1 : Int) < 0 then ((-1 : Int) + ((ws ++ [v]).length : Int)).toNat else min (-1 : Int).toNat (ws ++ [v]).length) = _
    rw [if_pos (by decide), List.length_append, List.length_singleton]
    omega
  unfold cutL
  rw [HT.sIx_none, e]
  simp
/-- behind the changes each row but the last is longer by one -/
theorem look_ok (B : Bv n f w) (b l : List Int) : ((((((atL (aft b l f w) 2).bind fun x159 => atA x159 0).bind fun x161 => asL x161).bind fun x164 => some (cutL x164 none (some (-1)))).bind fun x167 => if List.length (x167) ≤ cap then mapF x167 (fun x168 => (lenA x168).bind fun x172 => neN x172 ((n : Int) + 1)) (fun x168 => (some (1 : Int))) else none).bind fun x174 => some (true != List.isEmpty x174)) = some false := by
  have e1 : atL (aft b l f w) 2 = some (.tuple [.list (((f.map fun x => x.map enc).map fun r => .list (r ++ [.str "?"])) ++ [.str "?"]), .list (w.map enc ++ [.str "?"])]) := rfl
  have e2 : ∀ x y : PyData, atA (.tuple [x, y]) 0 = some x := fun _ _ => rfl
  have e3 : ∀ xs : List PyData, asL (.list xs) = some xs := fun _ => rfl
  rw [e1]
  simp only [bs, e2, e3, cutL_last]
  rw [if_pos (by rw [List.length_map, List.length_map]; exact cap_ge (by have := B.hl; omega))]
  have := mapF_ok (fun x168 => (lenA x168).bind fun x172 => neN x172 ((n : Int) + 1)) (fun _ : PyData => some (1 : Int)) (fun _ => false) (fun _ => 1) ((f.map fun x => x.map enc).map fun r => PyData.list (r ++ [.str "?"])) (fun x hx => by
    obtain ⟨r, hr, rfl⟩ := List.mem_map.mp hx
    obtain ⟨z, hz, rfl⟩ := List.mem_map.mp hr
    have : lenA (.list (z.map enc ++ [PyData.str "?"])) = some ((n : Int) + 1) := by
      show some ((((z.map (enc : Int → PyData) ++ [PyData.str "?"]).length : Nat) : Int)) = _
      rw [List.length_append, List.length_map, (B.hf z hz).len]
      rfl
    rw [this]
    simp only [bs, neN_e, decide_true, Bool.not_true]) (fun _ _ z => by cases z)
  rw [this]
  simp
/-- signs of a small number -/
def Low (x : Str) : Prop := ∀ c ∈ tl x, c < 1000
theorem low_ok {x : Str} (h : Low x) : PyData.strOk x = true := by
  unfold PyData.strOk
  rw [Array.all_eq_true']
  intro c hc
  have := h c (by simpa using hc)
  simp
  omega
theorem low_app {x y : Str} (h : Low x) (h2 : Low y) : Low (x ++ y) := fun c hc => by
  rw [TL.tl_append] at hc
  exact (List.mem_append.mp hc).elim (h c) (h2 c)
theorem low_nS {x : Int} (h : 0 ≤ x) : Low (nS x) := fun c hc => by
  rw [tl_nS h] at hc
  have := TL.numL_digits _ c hc
  omega
theorem low_join {y : Str} (hy : Low y) {ps : List Str} (h : ∀ p ∈ ps, Low p) : Low (Txt.join y ps) := fun c hc => by
  rw [TL.join_eq, TL.tl_join] at hc
  rcases mem_joinL hc with z | ⟨p, hp, z⟩
  · exact hy c z
  · obtain ⟨q, hq, rfl⟩ := List.mem_map.mp hp
    exact h q hq c z
theorem low_gt : Low (">" : Str) := fun c hc => by rw [gt_tl] at hc; simp at hc; omega
theorem low_da : Low ("-" : Str) := fun c hc => by rw [da_tl] at hc; simp at hc; omega
theorem low_cs : Low (": " : Str) := fun c hc => by rw [cs_tl] at hc; simp at hc; omega
theorem low_nl : Low ("\n" : Str) := fun c hc => by rw [nl_tl] at hc; simp at hc; omega
theorem low_jn {y : Str} (hy : Low y) {r : List Int} (h : Few r) : Low (jn y r) := low_join hy fun p hp => by
  obtain ⟨x, hx, rfl⟩ := List.mem_map.mp hp
  exact low_nS (h.2 x hx).1
theorem low_text (B : Bv n f w) : Low (textT f w) := low_join low_nl fun p hp => by
  obtain ⟨z, hz, rfl⟩ := List.mem_map.mp hp
  obtain ⟨r, v0, v1⟩ := B.row hz
  exact low_app (low_app (low_nS v0) low_cs) (low_jn low_gt (Row.few r B.hn))
theorem neLS_self {a b c : Str} (ha : Low a) (hb : Low b) (hc : Low c) : neLS [a, b, c] [a, b, c] = some false := by
  unfold neLS eqD
  simp [enc, SeqAt.shaped, PyData.canLay0, PyData.canLayAll0, PyData.depth, PyData.depthAll, PyData.eqv, PyData.eqvAll, low_ok ha, low_ok hb, low_ok hc]
theorem right_ok {K : Int} {t : List Int} (ht : Purse K t) (hK : K + 1000 ≤ 10 ^ 14) (h1 : 1 ≤ n) (hn : n ≤ 12) {m : Nat} (hm : m ≤ 40) : Wp (n__law_right_v25 t (n : Int) (m : Int)) fun z => z.1 = true ∧ Purse (K + 1000) z.2 := by
  obtain ⟨⟨b, T1⟩, e1, p1, hb⟩ := line_ok ht (n := n) (by omega) (by omega)
  obtain ⟨⟨l, T2⟩, e2, p2, hl⟩ := line_ok p1 (n := n) (by omega) (by omega)
  obtain ⟨⟨k, T3⟩, e3, p3, k0, k1⟩ := coin_ok p2 (by omega) (n := (m : Int) + 1) (by omega) (Int.le_trans (show (m : Int) + 1 ≤ 41 by omega) (by decide))
  have hb : Row n b := hb
  have hl : Row n l := hl
  have k0 : 0 ≤ k := k0
  have k1 : k < (m : Int) + 1 := k1
  obtain ⟨q, rfl⟩ := Int.eq_ofNat_of_zero_le k0
  have hq : q ≤ 40 := by omega
  have nq : (n : Int) * q ≤ 480 := by
    have := Nat.mul_le_mul hn hq
    have h2 : (n : Int) * q = ((n * q : Nat) : Int) := by rw [Int.natCast_mul]
    omega
  obtain ⟨f, T4, e4, lf, hf, p4⟩ := mapE_purse (fun (s28 : List Int) (x23 : Int) => ((n__law_line s28 (n : Int)).bind fun x32 => some (x32, (n : Int), ())).bind fun x33 => some (x33.fst.fst, x33.fst.snd)) (Row n) n (iot q) _ T3 p3 (by rw [iot_len]; omega) fun K t hw hk x _ => by
    obtain ⟨⟨y, t'⟩, e, w, hy⟩ := line_ok hw (n := n) (by omega) (by omega)
    exact ⟨y, t', by rw [e]; rfl, hy, w⟩
  rw [iot_len] at lf p4
  obtain ⟨w, T5, e5, lw, hw, p5⟩ := mapE_purse (fun (s40 : List Int) (x37 : List Int) => ((n__law_many s40).bind fun x42 => some (x42, ())).bind fun x43 => some (x43.fst.fst, x43.fst.snd)) (fun v => 0 ≤ v ∧ v ≤ 10 ^ 30) 3 f _ T4 p4 (by rw [lf]; omega) fun K t hw hk x _ => by
    obtain ⟨⟨y, t'⟩, e, w, hy⟩ := many_ok hw (by omega)
    exact ⟨y, t', by rw [e]; rfl, hy, w⟩
  rw [lf] at p5
  have B : Bv n f w := ⟨h1, hn, hf, hw, by omega, lw.symm⟩
  obtain ⟨kept, ek⟩ := kept_ok B hb hl
  have ed := due_ok B hb hl
  have er0 := ri1_nat q (by omega : q ≤ 1000000)
  have er2 : ri1 (2 : Int) = some (iot 2) := ri1_nat 2 (by omega)
  have fb := Row.few hb hn
  have fl := Row.few hl hn
  have j1 := joined_law fb (sep := (">" : Str)) (by decide +kernel)
  have j2 := joined_law fl (sep := ("-" : Str)) (by decide +kernel)
  have ls : (if List.length (f.zip w) ≤ cap then mapF (f.zip w) (fun x84 => some true) (fun x84 => ((strI x84.2).bind fun x86 => catS x86 (": " : Str)).bind (fun x93 => (n__law_joined (">" : Str) x84.1).bind fun x94 => catS x93 x94)) else none) = some (linesT f w) := lines_show B
  refine .intro (z := (true, T5)) ?_ ⟨rfl, p5.mono (by omega)⟩
  unfold n__law_right_v25
  simp only [bs, e1, e2, addI_e, e3, er0]
  rw [if_pos (cap_ge (by rw [iot_len]; omega)), e4]
  simp only [bs]
  rw [if_pos (cap_ge (by rw [lf]; omega)), e5]
  simp only [bs, ek, show_ballot_ok hb h1 hn, show_line_ok hl h1 hn, show_ballots_ok B]
  rw [ls]
  simp only [bs, j1, j2, text_join B, neLS_self (low_jn low_gt fb) (low_jn low_da fl) (low_text B)]
  rw [if_neg (by decide)]
  rw [ed]
  simp only [bs, er2]
  have a0 : ∀ x y z : Str, atL [x, y, z] 0 = some x := fun _ _ _ => rfl
  have a1 : ∀ x y z : Str, atL [x, y, z] 1 = some y := fun _ _ _ => rfl
  have a2 : ∀ x y z : Str, atL [x, y, z] 2 = some z := fun _ _ _ => rfl
  refine bnd (x := Fl.nx ()) (forF_unit (xs := iot 2) fun x _ => ?_) ?_
  · simp only [bs, a0, a1, a2, read_ballot_ok hb h1 hn, read_line_ok hl h1 hn, read_ballots_ok B, told_ok2 B hb hl, negI_e, beq_self_eq_true, if_true]
    rw [look_ok B b l]
    simp only [bs, Bool.false_eq_true, if_false]
  · rw [show (Fl.nx () : Fl (Bool × List Int) Unit).el = fun A G => A () from rfl]
    simp only [bs, eqS_e, beq_self_eq_true]
end K48
end Lw
namespace Lw
namespace K48
open PySem Hb Nv L2 P
open Enc (enc)
open TL (tl numL)
theorem forF_cons {σ α ρ : Type} {b : σ → α → Option (Fl ρ σ)} {x : α} {r : List α} {s s' : σ} (h : b s x = some (.nx s')) : forF (x :: r) s b = forF r s' b := by
  show (b s x).bind _ = _
  rw [h]
  rfl
def rows40 : List (List Int) := (iot 40).map fun _ => iot 12
def many40 : List Int := (List.replicate 40 [(10 : Int) ^ 30]).flatten
theorem many_mem : ∀ x ∈ many40, x = 10 ^ 30 := fun x hx => by
  unfold many40 at hx
  obtain ⟨l, hl, hx⟩ := List.mem_flatten.mp hx
  rw [(List.mem_replicate.mp hl).2] at hx
  exact List.mem_singleton.mp hx
theorem bv40 : Bv 12 rows40 many40 := by
  refine ⟨by omega, by omega, fun z hz => ?_, fun x hx => ?_, ?_, ?_⟩
  · obtain ⟨_, _, rfl⟩ := List.mem_map.mp hz
    exact List.Perm.refl _
  · rw [many_mem x hx]
    exact ⟨by decide, by decide⟩
  · unfold rows40
    rw [List.length_map, iot_len]
    omega
  · unfold rows40 many40
    rw [List.length_map, iot_len]
    decide
theorem bv0 : Bv 4 [] [] := ⟨by omega, by omega, fun _ z => (nomatch z), fun _ z => (nomatch z), by simp, rfl⟩
theorem text0 : textT [] [] = ("" : Str) := TL.ext_tl (by decide +kernel)
theorem eqA_pair (f : List (List Int)) (w : List Int) : eqA (enc (f.map (·.map some), w.map some)) (enc (f, w)) = some true := by
  have e1 : (enc (w.map some) : PyData) = enc w := enc_some w
  have e2 : (enc (f.map (·.map some)) : PyData) = enc f := by
    show PyData.list ((f.map (·.map some)).map enc) = .list (f.map enc)
    rw [List.map_map]
    exact congrArg _ (List.map_congr_left fun x _ => enc_some x)
  have e : (enc (f.map (·.map some), w.map some) : PyData) = enc (f, w) := by
    show PyData.tuple [enc (f.map (·.map some)), enc (w.map some)] = .tuple [enc f, enc w]
    rw [e1, e2]
  rw [e]
  unfold eqA eqD
  have hs := shaped_enc (α := List (List Int) × List Int) (by decide) (f, w)
  rw [if_pos ⟨hs, hs⟩, EncEq.eqv]
  simp
theorem k48_law_ok {ms : List Int} (hl : ms.length ≤ 63) : n_law_v26 ms = some true := by
  obtain ⟨k, hk, ek⟩ : ∃ k : Nat, k ≤ 5 ∧ (if (if (ms.length : Int) < 5 then (ms.length : Int) else 5) > 1 then (if (ms.length : Int) < 5 then (ms.length : Int) else 5) else 1) = (k : Int) := by
    refine ⟨(if (if (ms.length : Int) < 5 then (ms.length : Int) else 5) > 1 then (if (ms.length : Int) < 5 then (ms.length : Int) else 5) else 1 : Int).toNat, ?_, ?_⟩ <;> split <;> split <;> omega
  have r40 : ri1 (40 : Int) = some (iot 40) := ri1_nat 40 (by omega)
  have g12 : rg1 (12 : Int) = some (iot 12) := rg1_nat 12 (by omega)
  have rep : repL [(10 : Int) ^ 30] 40 = some many40 := by
    unfold repL
    rw [if_pos ⟨by simp, by omega, by omega⟩]
    rfl
  have mp := mapT_cap (g := fun _ : Int => rg1 12) (xs := iot 40) (fun _ => iot 12) (by rw [iot_len]; omega) fun _ _ => g12
  have s40 : n_show_ballots 12 rows40 many40 = some (textT rows40 many40) := show_ballots_ok bv40
  have t40 : n_read_ballots 12 (textT rows40 many40) = some (rows40.map (·.map some), many40.map some) := (read_ballots_eq _ _).trans (read_ballots_ok bv40)
  have s0 : n_show_ballots 4 [] [] = some ("" : Str) := (show_ballots_ok bv0).trans (by rw [text0])
  have t0 : n_read_ballots 4 ("" : Str) = some ([], []) := by
    have := (read_ballots_eq 4 (textT [] [])).trans (read_ballots_ok bv0)
    rw [text0] at this
    exact this
  unfold n_law_v26
  simp only [bs, lenL_e, minI2_e, maxI2_e, ek, ri1_nat k (by omega : k ≤ 1000000)]
  refine bnd (x := Fl.nx ()) (forF_unit (xs := iot k) fun x hx => ?_) ?_
  · have hx := mem_iot.mp hx
    obtain ⟨T0, e0, h0⟩ := purse_ok (ms := ms) hx.1 (by omega)
    obtain ⟨⟨b1, T1⟩, e1, h1⟩ := right_ok h0 (by omega) (n := 1) (by omega) (by omega) (m := 3) (by omega)
    obtain ⟨rfl, h1⟩ : b1 = true ∧ Purse (0 + 1000) T1 := h1
    obtain ⟨⟨b2, T2⟩, e2, h2⟩ := right_ok h1 (by omega) (n := 2) (by omega) (by omega) (m := 6) (by omega)
    obtain ⟨rfl, h2⟩ : b2 = true ∧ Purse (0 + 1000 + 1000) T2 := h2
    obtain ⟨⟨b3, T3⟩, e3, h3⟩ := right_ok h2 (by omega) (n := 5) (by omega) (by omega) (m := 9) (by omega)
    obtain ⟨rfl, h3⟩ : b3 = true ∧ Purse (0 + 1000 + 1000 + 1000) T3 := h3
    obtain ⟨⟨b4, T4⟩, e4, h4⟩ := right_ok h3 (by omega) (n := 12) (by omega) (by omega) (m := 40) (by omega)
    obtain ⟨rfl, h4⟩ : b4 = true ∧ Purse (0 + 1000 + 1000 + 1000 + 1000) T4 := h4
    obtain ⟨⟨b5, T5⟩, e5, h5⟩ := right_ok h4 (by omega) (n := 10) (by omega) (by omega) (m := 3) (by omega)
    obtain ⟨rfl, h5⟩ : b5 = true ∧ Purse (0 + 1000 + 1000 + 1000 + 1000 + 1000) T5 := h5
    have e1 : n__law_right_v25 T0 1 3 = some (true, T1) := e1
    have e2 : n__law_right_v25 T1 2 6 = some (true, T2) := e2
    have e3 : n__law_right_v25 T2 5 9 = some (true, T3) := e3
    have e4 : n__law_right_v25 T3 12 40 = some (true, T4) := e4
    have e5 : n__law_right_v25 T4 10 3 = some (true, T5) := e5
    simp only [bs, e0]
    rw [forF_cons (s' := T1) (by simp only [bs, e1, Bool.not_true, Bool.false_eq_true, if_false]), forF_cons (s' := T2) (by simp only [bs, e2, Bool.not_true, Bool.false_eq_true, if_false]), forF_cons (s' := T3) (by simp only [bs, e3, Bool.not_true, Bool.false_eq_true, if_false]),
      forF_cons (s' := T4) (by simp only [bs, e4, Bool.not_true, Bool.false_eq_true, if_false]), forF_cons (s' := T5) (by simp only [bs, e5, Bool.not_true, Bool.false_eq_true, if_false])]
    rfl
  · rw [show (Fl.nx () : Fl Bool Unit).el = fun A G => A () from rfl]
    simp only [bs, r40]
    have mp' : (if List.length (iot 40) ≤ cap then mapF (iot 40) (fun x69 => some true) (fun x69 => rg1 12) else none) = some rows40 := mp
    rw [mp']
    simp only [bs, p1030, rep, s40, t40, eqA_pair, if_true, s0, eqS_e, beq_self_eq_true, t0, eqN_e, decide_true]
end K48
end Lw
namespace K48
open PySem PySem.Spec PyProof.Rows L2 Hb
def names : List PySem.Str := (["is_integer", "is_each_once", "are_each_once", "need_count", "need_ballot", "need_ballots", "need_line", "need_voters", "number_in", "joined_with", "places_in", "show_ballot", "show_line", "show_ballots", "need_text", "read_all", "read_ballot", "read_line", "read_ballots", "_law_purse", "_law_coin", "_law_line", "_law_joined", "_law_many", "_law_right", "BallotError", "InvalidCount", "InvalidBallot", "InvalidBallots", "InvalidLine"] : List PySem.Str) ++ (["InvalidVoters", "InvalidText", "MOST_PLACES", "MOST_BALLOTS", "MOST_VOTERS", "DIGITS", "MOST_DIGITS"] : List PySem.Str)
abbrev R : PySem.W.OpenRow := PySem.W.OpenLaw.row PySem.Challenge.rw_hillballots_k48_texts_shown
abbrev hk : PySem.W.Hook := He.hookD 2 fa fn
def ob (s : PySem.W.SharedT) : He.AlD := He.obsDG 2 fa fn (HandSHeadRun.getT s)
theorem ob_eq (s : PySem.W.SharedT) : ob s = hk.obs s.abs := He.obsDG_eq (HandSHeadRun.getT_eq s)
theorem run (w : World) : HandSHeadRun.RunEq R (PySem.W.view R.prog [41]) hk ob 8000 names w := by
  intro os
  kernel_rfl
theorem head_law_ok {ms : List Int} (hl : ms.length ≤ 63) : ∃ δ, P.F_law_v26 [.fz (.list (ms.map .int))] = .ok (.fz (.bool true)) δ :=
  ⟨_, P.V_law_v26 ms true (Lw.K48.k48_law_ok hl)⟩
end K48
open PySem PySem.W PySem.Calls PyProof.Rows
theorem PySem.Challenge.cw_hillballots_k48_texts_shown_holds : PySem.Challenge.rw_hillballots_k48_texts_shown.Holds := by
  w_on; o_law
  refine HandSHeadRun.head_any (r := OpenLaw.row PySem.Challenge.rw_hillballots_k48_texts_shown) (q := view (OpenLaw.row PySem.Challenge.rw_hillballots_k48_texts_shown).prog [41]) (H := K48.hk) (ob := K48.ob) (M := 8000) (loose := K48.names) (d := HandSHeadRun.topDef (OpenLaw.row PySem.Challenge.rw_hillballots_k48_texts_shown).prog 41) (kwd := []) K48.ob_eq
    (by kernel_rfl) (fun s => by kernel_rfl) K48.run (by kernel_rfl) (by kernel_rfl) (by kernel_rfl) (by rfl) (by first | assumption | decide +kernel) (by decide +kernel) ⟨rfl, rfl, rfl, rfl, rfl, by decide +kernel⟩ ?hw ?hc
  case hw => w_witness2
  case hc =>
    refine Hb.walkG (l := PySem.Challenge.rw_hillballots_k48_texts_shown) (n := 63) (k := 7) (x := "_law_script") rfl (by decide) (by kernel_rfl) ⟨rfl, by decide, by decide⟩ ?F
    intro w mg fa h Y G hmg0
    obtain ⟨K, KX, c⟩ := Y
    have hmg : mg ("law" : PySem.Str) = some (.ref fa) := by
      have e : (HandSHeadRun.topDef (OpenLaw.row PySem.Challenge.rw_hillballots_k48_texts_shown).prog 41).name = ("law" : PySem.Str) := by kernel_rfl
      rw [← e]
      exact hmg0
    have Y : K48.Ctx K mg := ⟨c, h, KX, G⟩
    obtain ⟨fd, FD⟩ := c.def_ 25 (d := K48.d_law)
    have hf : fa = He.fAd K ("law", none) := by
      have e2 := He.glo_ok KX G (c.fact 25 (f := .glo "law"))
      rw [hmg] at e2
      exact PySem.Value.ref.inj (Option.some.inj e2)
    refine ⟨K, fd, Hb.spF K mg 1 P.F_law_v26, KX, fun s u => ?_, fun H a ns hl hX => ?_, fun bs _ _ => ?_⟩
    · exact FD.bindsA (ps := ["_law_script"]) (fun _ _ _ _ _ _ us h => by
        match us, h with
        | [a0], _ => rfl) s [u] rfl
    · obtain ⟨δ, e⟩ := K48.head_law_ok hl
      exact Hb.sp_law hX e
    · rw [hf]
      exact Hb.fnG_D FD K48.S_law rfl fun cdv A outer s H E hr hgd => K48.W_law Y cdv A outer s H E hr hgd
