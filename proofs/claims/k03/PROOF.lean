import PyProof.Rows.All
import Wide.All
import OpenK.AllK
import Wide.FinOn
import KE.KStateDown
import Lean
import HandS.ForExc
import HandS.Defaults
import HandS.Head0
import HandS.Head1
import HandS.Head2
import HandS.HeadEnd
import HandS.HeadHook1
import HandS.HeadHook2
import HandS.HeadHook4
import HandS.ForMost
import HandS.Exc
import HandS.TryOnly
import HandS.ExcOwn
import HandS.WordsExc
import HandS.Wide
import HandS.Conv
import HandS.Flow
import HandS.Style
import HandS.Deep
import HandS.IsInst
import HandS.SortInts
import HandS.Lambda
import HandS.TupAny
import HandS.SortRule
import HandS.Star
import HandS.TupLen
import HandS.WordsDict
import HandS.Zip
import HandS.Rev
import HandS.RevRange
import KE.SortData
import KE.KRevSl
import HandS.TryMany
import HandS.DictComp
import KE.DataMinMax
import KE.KDictCopyH
import HandS.SetFor
import HandS.NoneIn
import HandS.Small
import HandS.Strs
import HandS.TupMul
import KE.GoesEnum
import HandS.ExcIs
import HandS.EndTab
import PySem.Challenge.RW_hillballots_k03_errors_of_ballots
set_option Elab.async false
set_option linter.all false
set_option maxRecDepth 100000
set_option exponentiation.threshold 3000
set_option maxHeartbeats 0
namespace Hb
open PySem PySem.Spec PyProof.Rows L2
def kD : Key → PyData
  | .inl i => .int i
  | .inr x => .str x
/-- a list that may be read: tracked, locked, or one of the module's own in the plain form -/
def SqX (K : PySem.W.Frag) (H : Hp) (a : Addr) (xs : List V) : Prop :=
  Rd H a (.lst xs) ∨ ∃ (its : List Value) (n : Nat), K.lookup a = some { cls := .type "list", data := .seq its.toArray n } ∧ its.length ≤ sizeLine ∧ Vals xs its
theorem SqX.of {K : PySem.W.Frag} {H : Hp} {a : Addr} {xs : List V} (h : H a = some (.lst xs)) : SqX K H a xs := .inl (.inl h)
theorem SqX.sq {K : PySem.W.Frag} {H : Hp} {a : Addr} {xs : List V} (h : SqX K H a xs) : SqL K H a xs := by
  rcases h with h | ⟨its, n, h1, h2, h3⟩
  · exact .inl h
  · exact .inr ⟨_, its.toArray, n, h1, rfl, rfl, rfl, by simpa using h2, by simpa using h3⟩
theorem inv_lstX {X : Cx} {pins : List (Addr × Obj)} {σ : L2.St} {H : Hp} {s : Shared} {a : Addr} {xs : List V} (I : Inv X pins σ H s) (h : SqX X.K H a xs) :
    ∃ (its : List Value) (n : Nat), Vals xs its ∧ s.heap.get? a = some { cls := .type "list", data := .seq its.toArray n } ∧ xs.length ≤ sizeLine := by
  rcases h with h | ⟨its, n, h1, h2, h3⟩
  · obtain ⟨z, its, n, r, e⟩ := h.ok I.hok
    exact ⟨its, n, r, e, z⟩
  · exact ⟨its, n, h3, I.kIn a _ h1, by rw [h3.length]; exact h2⟩
mutual
/-- the value v stands, in the heap H, for the tree d -/
inductive Rp (K : PySem.W.Frag) (H : Hp) : V → PyData → Prop
  | non : Rp K H .non .none
  | bl (b : Bool) : Rp K H (.bl b) (.bool b)
  | int (i : Int) : Rp K H (.int i) (.int i)
  | str (x : Str) : Rp K H (.str x) (.str x)
  | lst {a : Addr} {xs : List V} {ds : List PyData} : SqX K H a xs → RpL K H xs ds → Rp K H (.ref a) (.list ds)
  | tup {a : Addr} {xs : List V} {ds : List PyData} : H a = some (.tup xs) → RpL K H xs ds → Rp K H (.ref a) (.tuple ds)
  | dK {a : Addr} {kvs : List (Key × V)} {ds : List (PyData × PyData)} : H a = some (.dK kvs) → RpK K H kvs ds → Rp K H (.ref a) (.dict ds)
  | dT {a : Addr} {kvs : List (List Key × V)} {ds : List (PyData × PyData)} : H a = some (.dT kvs) → RpT K H kvs ds → Rp K H (.ref a) (.dict ds)
inductive RpL (K : PySem.W.Frag) (H : Hp) : List V → List PyData → Prop
  | nil : RpL K H [] []
  | cons {v : V} {vs : List V} {d : PyData} {ds : List PyData} : Rp K H v d → RpL K H vs ds → RpL K H (v :: vs) (d :: ds)
inductive RpK (K : PySem.W.Frag) (H : Hp) : List (Key × V) → List (PyData × PyData) → Prop
  | nil : RpK K H [] []
  | cons {k : Key} {v : V} {vs : List (Key × V)} {d : PyData} {ds : List (PyData × PyData)} : Rp K H v d → RpK K H vs ds → RpK K H ((k, v) :: vs) ((kD k, d) :: ds)
inductive RpT (K : PySem.W.Frag) (H : Hp) : List (List Key × V) → List (PyData × PyData) → Prop
  | nil : RpT K H [] []
  | cons {k : List Key} {v : V} {vs : List (List Key × V)} {d : PyData} {ds : List (PyData × PyData)} : Rp K H v d → RpT K H vs ds → RpT K H ((k, v) :: vs) ((.tuple (k.map kD), d) :: ds)
end
theorem same_sqT {K : PySem.W.Frag} {H H' : Hp} {a : Addr} {xs : List V} (e : Same H H') (h : SqT K H a xs) : SqT K H' a xs := by
  rcases h with (h | ⟨o, h⟩) | h
  · exact .inl (.inl (e _ _ h))
  · exact .inl (.inr ⟨o, e _ _ h⟩)
  · exact .inr h
theorem same_rd {H H' : Hp} {a : Addr} {u : HO} (e : Same H H') (h : Rd H a u) : Rd H' a u := by
  rcases h with h | ⟨o, h⟩
  · exact .inl (e _ _ h)
  · exact .inr ⟨o, e _ _ h⟩
theorem same_sqX {K : PySem.W.Frag} {H H' : Hp} {a : Addr} {xs : List V} (e : Same H H') (h : SqX K H a xs) : SqX K H' a xs := by
  rcases h with h | h
  · exact .inl (same_rd e h)
  · exact .inr h
section
variable {K : PySem.W.Frag} {H H' : Hp} (e : Same H H')
include e
mutual
theorem Rp.mono : ∀ {v : V} {d : PyData}, Rp K H v d → Rp K H' v d
  | _, _, .non => .non
  | _, _, .bl b => .bl b
  | _, _, .int i => .int i
  | _, _, .str x => .str x
  | _, _, .lst h1 h2 => .lst (same_sqX e h1) (RpL.mono h2)
  | _, _, .tup h1 h2 => .tup (e _ _ h1) (RpL.mono h2)
  | _, _, .dK h1 h2 => .dK (e _ _ h1) (RpK.mono h2)
  | _, _, .dT h1 h2 => .dT (e _ _ h1) (RpT.mono h2)
theorem RpL.mono : ∀ {vs : List V} {ds : List PyData}, RpL K H vs ds → RpL K H' vs ds
  | _, _, .nil => .nil
  | _, _, .cons h1 h2 => .cons (Rp.mono h1) (RpL.mono h2)
theorem RpK.mono : ∀ {vs : List (Key × V)} {ds : List (PyData × PyData)}, RpK K H vs ds → RpK K H' vs ds
  | _, _, .nil => .nil
  | _, _, .cons h1 h2 => .cons (Rp.mono h1) (RpK.mono h2)
theorem RpT.mono : ∀ {vs : List (List Key × V)} {ds : List (PyData × PyData)}, RpT K H vs ds → RpT K H' vs ds
  | _, _, .nil => .nil
  | _, _, .cons h1 h2 => .cons (Rp.mono h1) (RpT.mono h2)
end
end
section
variable {K : PySem.W.Frag} {H : Hp}
theorem RpL.len : ∀ {vs : List V} {ds : List PyData}, RpL K H vs ds → vs.length = ds.length
  | _, _, .nil => rfl
  | _, _, .cons _ t => by simp [RpL.len t]
theorem RpL.get : ∀ {vs : List V} {ds : List PyData} {i : Nat} {d : PyData}, RpL K H vs ds → ds[i]? = some d → ∃ v, vs[i]? = some v ∧ Rp K H v d
  | _, _, _, _, .nil, e => by simp at e
  | _, _, 0, _, .cons r _, e => by simp at e; subst e; exact ⟨_, rfl, r⟩
  | _, _, i + 1, d, .cons _ t, e => by
    obtain ⟨u, h1, h2⟩ := RpL.get (i := i) (d := d) t (by simpa using e)
    exact ⟨u, by simpa using h1, h2⟩
theorem RpL.append : ∀ {vs ws : List V} {ds es : List PyData}, RpL K H vs ds → RpL K H ws es → RpL K H (vs ++ ws) (ds ++ es)
  | _, _, _, _, .nil, s => s
  | _, _, _, _, .cons r t, s => .cons r (RpL.append t s)
theorem RpL.take : ∀ {vs : List V} {ds : List PyData} (n : Nat), RpL K H vs ds → RpL K H (vs.take n) (ds.take n)
  | _, _, 0, _ => by simp; exact .nil
  | _, _, n + 1, .nil => by simp; exact .nil
  | _, _, n + 1, .cons r t => .cons r (RpL.take n t)
theorem RpL.drop : ∀ {vs : List V} {ds : List PyData} (n : Nat), RpL K H vs ds → RpL K H (vs.drop n) (ds.drop n)
  | _, _, 0, h => h
  | _, _, n + 1, .nil => by simp; exact .nil
  | _, _, n + 1, .cons _ t => RpL.drop n t
theorem RpL.set {v : V} {d : PyData} (h : Rp K H v d) : ∀ {vs : List V} {ds : List PyData} (n : Nat), RpL K H vs ds → RpL K H (vs.set n v) (ds.set n d)
  | _, _, _, .nil => .nil
  | _, _, 0, .cons _ t => .cons h t
  | _, _, n + 1, .cons r t => .cons r (RpL.set h n t)
theorem RpL.eraseIdx : ∀ {vs : List V} {ds : List PyData} (n : Nat), RpL K H vs ds → RpL K H (vs.eraseIdx n) (ds.eraseIdx n)
  | _, _, _, .nil => .nil
  | _, _, 0, .cons _ t => t
  | _, _, n + 1, .cons r t => .cons r (RpL.eraseIdx n t)
end
/-- an item of a list that is one's own: a tree that stands still, or a list of one's own -/
inductive El where
  | fz (d : PyData) | ow (xs : List PyData)
def El.d : El → PyData
  | .fz d => d
  | .ow xs => .list xs
/-- a name: nothing is known; a tree that stands still; a list of one's own; a dict of one's own; the item j of the list of slot x -/
inductive Sl where
  | no | fz (d : PyData) | ol (xs : List El) | od (kvs : List (PyData × PyData)) | al (x j : Nat)
def ElR (K : PySem.W.Frag) (Fz H : Hp) (f : List Addr) (v : V) : El → Prop
  | .fz d => f = [] ∧ Rp K Fz v d
  | .ow xs => ∃ a vs, v = .ref a ∧ f = [a] ∧ H a = some (.lst vs) ∧ RpL K Fz vs xs
inductive ElL (K : PySem.W.Frag) (Fz H : Hp) : List Addr → List V → List El → Prop
  | nil : ElL K Fz H [] [] []
  | cons {f g : List Addr} {v : V} {vs : List V} {e : El} {es : List El} : ElR K Fz H f v e → ElL K Fz H g vs es → ElL K Fz H (f ++ g) (v :: vs) (e :: es)
def DcR (K : PySem.W.Frag) (Fz H : Hp) (a : Addr) (kvs : List (PyData × PyData)) : Prop :=
  (∃ ws, H a = some (.dK ws) ∧ RpK K Fz ws kvs) ∨ (∃ ws, H a = some (.dT ws) ∧ RpT K Fz ws kvs)
def SlH (K : PySem.W.Frag) (Fz H : Hp) (σ : L2.St) (f : List Addr) (o : Option V) : Sl → Prop
  | .no => f = []
  | .fz d => f = [] ∧ ∃ v, o = some v ∧ Rp K Fz v d
  | .ol xs => ∃ a vs g, o = some (.ref a) ∧ f = a :: g ∧ H a = some (.lst vs) ∧ ElL K Fz H g vs xs
  | .od kvs => ∃ a, o = some (.ref a) ∧ f = [a] ∧ DcR K Fz H a kvs
  | .al x j => f = [] ∧ ∃ a b vs, σ[x]? = some (some (.ref a)) ∧ H a = some (.lst vs) ∧ vs[j]? = some (.ref b) ∧ o = some (.ref b)
/-- what stays through a body: the ground B, what of it stands still (F0), the slots that stay (pin, as in so) -/
structure Bk where
  B : Hp
  F0 : Hp
  pin : List Nat
  so : L2.St
  T : List (Addr × Str) := []
/-- a mark among the pinned slots: the table of the code objects of lambdas is followed here -/
@[reducible] def mkT : Nat := 1000000
def unm (pin : List Nat) : List Nat := pin.filter (· ≠ mkT)
theorem mk_unm {pin : List Nat} : mkT ∉ unm pin := fun h => by
  unfold unm at h
  have := (List.mem_filter.mp h).2
  simp at this
theorem unm_sub {pin : List Nat} {i : Nat} (h : i ∈ unm pin) : i ∈ pin := (List.mem_filter.mp h).1
/-- the one table that is followed: that of the def that makes a lambda -/
def TK (K : PySem.W.Frag) : List (Addr × Str) := [((He.cT K ("_law_raised", none)).2, "_law_raised.<locals>.<lambda>")]
/-- no tuple, no table of code objects, no code object -/
def Pl (o : Option HO) : Prop := (∀ xs, o ≠ some (.tup xs)) ∧ (∀ ps, o ≠ some (.tbl ps)) ∧ ∀ φ, o ≠ some (.ext φ)
theorem Pl.lst {xs : List V} : Pl (some (.lst xs)) := by
  refine ⟨?_, ?_, ?_⟩ <;> (intro _ z; cases z)
theorem Pl.dK {xs : List (Key × V)} : Pl (some (.dK xs)) := by
  refine ⟨?_, ?_, ?_⟩ <;> (intro _ z; cases z)
theorem Pl.dT {xs : List (List Key × V)} : Pl (some (.dT xs)) := by
  refine ⟨?_, ?_, ?_⟩ <;> (intro _ z; cases z)
theorem Pl.tup {o : Option HO} (h : Pl o) {xs : List V} (e : o = some (.tup xs)) : False := h.1 xs e
/-- the tables of code objects that are followed: they tell what they may, and nothing else leans on them -/
def Tb (b : Bk) (Fz H : Hp) : Prop := ∀ p ∈ b.T, LamX.TabS H p.1 p.2 ∧ Fz p.1 = none ∧ b.B p.1 = none
theorem tabS_keep {H H' : Hp} {P : Addr} {q : Str} (t : LamX.TabS H P q) (k : ∀ a o, H a = some o → ¬Pl (some o) → H' a = some o) : LamX.TabS H' P q := by
  obtain ⟨ps, h1, h2, h3⟩ := t
  refine ⟨ps, k _ _ h1 fun z => z.2.1 ps rfl, h2, fun pos cv hc => ?_⟩
  obtain ⟨c, e1, e2⟩ := h3 pos cv hc
  exact ⟨c, e1, k _ _ e2 fun z => z.2.2 _ rfl⟩
theorem Tb.keep {b : Bk} {Fz H H' : Hp} (t : Tb b Fz H) (k : ∀ a o, H a = some o → ¬Pl (some o) → H' a = some o) : Tb b Fz H' := fun p hp => ⟨tabS_keep (t p hp).1 k, (t p hp).2⟩
theorem Tb.tbl {b : Bk} {Fz H : Hp} (t : Tb b Fz H) {p : Addr × Str} (hp : p ∈ b.T) : ¬Pl (H p.1) := by
  obtain ⟨⟨ps, h1, _⟩, _⟩ := t p hp
  rw [h1]
  exact fun z => z.2.1 ps rfl
theorem Tb.nil {b : Bk} {Fz H : Hp} (h : b.T = []) : Tb b Fz H := fun p hp => by rw [h] at hp; cases hp
theorem Tb.upd {b : Bk} {Fz H : Hp} (t : Tb b Fz H) {a : Addr} {o : HO} (h : H a = none ∨ Pl (H a)) : Tb b Fz (upd H a o) := t.keep fun c u e n => by
  by_cases q : c = a
  · subst q
    rcases h with z | z
    · rw [z] at e; cases e
    · rw [e] at z; exact absurd z n
  · rw [upd_ne q]; exact e
theorem Tb.fz {b : Bk} {Fz Fz' H : Hp} (t : Tb b Fz H) (h : ∀ p ∈ b.T, Fz' p.1 = none) : Tb b Fz' H := fun p hp => ⟨(t p hp).1, h p hp, (t p hp).2.2⟩
structure Rl (K : PySem.W.Frag) (b : Bk) (Fz : Hp) (F : Nat → List Addr) (δ : List Sl) (σ : L2.St) (H : Hp) : Prop where
  le : Same Fz H
  base : Same b.B H
  len : σ.length = δ.length
  slot : ∀ i s, δ[i]? = some s → SlH K Fz H σ (F i) (σ[i]?.join) s
  nd : ∀ i, (F i).Nodup
  dj : ∀ i j a, a ∈ F i → a ∈ F j → i = j
  offF : ∀ i a, a ∈ F i → Fz a = none
  offB : ∀ i a, a ∈ F i → b.B a = none
  on : ∀ i a, a ∈ F i → H a ≠ none
  keep : ∀ a, b.B a ≠ none → Fz a = b.F0 a ∨ ((∃ xs, b.B a = some (.tup xs)) ∧ Fz a = b.B a)
  f0 : ∀ a, b.F0 a ≠ none → b.B a ≠ none
  pin : ∀ i ∈ b.pin, σ[i]? = b.so[i]?
  als : ∀ (i x j : Nat), δ[i]? = some (.al x j) → ∃ xs, δ[x]? = some (.ol xs)
  noT : ∀ i a, a ∈ F i → Pl (H a)
  tb : Tb b Fz H
  tp : mkT ∈ b.pin → b.T = TK K
theorem ElL.noT {K : PySem.W.Frag} {Fz H : Hp} : ∀ {f : List Addr} {vs : List V} {es : List El}, ElL K Fz H f vs es → ∀ a ∈ f, Pl (H a)
  | _, _, _, .nil, _, h => nomatch h
  | _, _, _, .cons (e := .fz d) h t, a, ha => by
    rw [h.1, List.nil_append] at ha
    exact t.noT a ha
  | _, _, _, .cons (e := .ow ys) h t, a, ha => by
    obtain ⟨c, vs, _, e2, e3, _⟩ := h
    rw [e2] at ha
    rcases List.mem_append.mp ha with z | z
    · rw [List.mem_singleton] at z
      subst z
      rw [e3]
      exact .lst
    · exact t.noT a z
/-- what a slot owns is plain -/
theorem SlH.noT {K : PySem.W.Frag} {Fz H : Hp} {σ : L2.St} {f : List Addr} {o : Option V} {s : Sl} (h : SlH K Fz H σ f o s) : ∀ a ∈ f, Pl (H a) := fun a ha => by
  cases s with
  | no => rw [show f = [] from h] at ha; cases ha
  | fz d => rw [h.1] at ha; cases ha
  | al x j => rw [h.1] at ha; cases ha
  | ol ys =>
    obtain ⟨c, vs, g, _, e2, e3, e4⟩ := h
    rw [e2] at ha
    rcases List.mem_cons.mp ha with z | z
    · subst z
      rw [e3]
      exact .lst
    · exact e4.noT a z
  | od kvs =>
    obtain ⟨c, _, e2, e3⟩ := h
    rw [e2, List.mem_singleton] at ha
    subst ha
    rcases e3 with ⟨ws, h1, _⟩ | ⟨ws, h1, _⟩ <;> rw [h1]
    · exact .dK
    · exact .dT
theorem ElR.keeps {K : PySem.W.Frag} {Fz Fz' H H' : Hp} {f : List Addr} {v : V} {e : El} (h : ElR K Fz H f v e) (hF : Same Fz Fz') (hH : ∀ a ∈ f, H' a = H a) : ElR K Fz' H' f v e := by
  cases e with
  | fz d => exact ⟨h.1, h.2.mono hF⟩
  | ow xs =>
    obtain ⟨a, vs, e1, e2, e3, e4⟩ := h
    exact ⟨a, vs, e1, e2, (hH a (by simp [e2])).trans e3, e4.mono hF⟩
theorem ElL.keeps {K : PySem.W.Frag} {Fz Fz' H H' : Hp} : ∀ {f : List Addr} {vs : List V} {es : List El}, ElL K Fz H f vs es → Same Fz Fz' → (∀ a ∈ f, H' a = H a) → ElL K Fz' H' f vs es
  | _, _, _, .nil, _, _ => .nil
  | _, _, _, .cons h t, hF, hH => .cons (h.keeps hF fun a ha => hH a (List.mem_append_left _ ha)) (t.keeps hF fun a ha => hH a (List.mem_append_right _ ha))
theorem DcR.keeps {K : PySem.W.Frag} {Fz Fz' H H' : Hp} {a : Addr} {kvs : List (PyData × PyData)} (h : DcR K Fz H a kvs) (hF : Same Fz Fz') (hH : H' a = H a) : DcR K Fz' H' a kvs := by
  rcases h with ⟨ws, h1, h2⟩ | ⟨ws, h1, h2⟩
  · exact .inl ⟨ws, hH.trans h1, h2.mono hF⟩
  · exact .inr ⟨ws, hH.trans h1, h2.mono hF⟩
/-- the slot's own objects, and (for an item of another slot) its list, are as they were -/
theorem SlH.keeps {K : PySem.W.Frag} {Fz Fz' H H' : Hp} {σ : L2.St} {f : List Addr} {o : Option V} {s : Sl} (h : SlH K Fz H σ f o s) (hF : Same Fz Fz') (hH : ∀ a ∈ f, H' a = H a)
    (hA : ∀ x j, s = .al x j → ∀ a, σ[x]? = some (some (.ref a)) → H' a = H a) : SlH K Fz' H' σ f o s := by
  cases s with
  | no => exact h
  | fz d =>
    obtain ⟨e, v, e2, r⟩ := h
    exact ⟨e, v, e2, r.mono hF⟩
  | ol xs =>
    obtain ⟨a, vs, g, e1, e2, e3, e4⟩ := h
    exact ⟨a, vs, g, e1, e2, (hH a (by simp [e2])).trans e3, e4.keeps hF fun c hc => hH c (by simp [e2, hc])⟩
  | od kvs =>
    obtain ⟨a, e1, e2, e3⟩ := h
    exact ⟨a, e1, e2, e3.keeps hF (hH a (by simp [e2]))⟩
  | al x j =>
    obtain ⟨e, a, b, vs, e1, e2, e3, e4⟩ := h
    exact ⟨e, a, b, vs, e1, (hA x j rfl a e1).trans e2, e3, e4⟩
theorem upd_new {H : Hp} {p b : Addr} {o : HO} (n : H p = none) (h : H b ≠ none) : upd H p o b = H b := upd_ne fun e => h (by rw [e]; exact n)
theorem same_new {H : Hp} {p : Addr} {o : HO} (n : H p = none) : Same H (upd H p o) := fun b x e => by
  rw [upd_new n (by rw [e]; simp)]
  exact e
section
variable {K : PySem.W.Frag} {b : Bk} {Fz : Hp} {F : Nat → List Addr} {δ : List Sl} {σ : L2.St} {H : Hp}
/-- the heap grew -/
theorem Rl.grow (R : Rl K b Fz F δ σ H) {H' : Hp} (s : Same H H') : Rl K b Fz F δ σ H' where
  le := R.le.trans s
  base := R.base.trans s
  len := R.len
  slot := fun i s' e => (R.slot i s' e).keeps (Same.refl _) (fun a ha => by
    cases q : H a with
    | none => exact absurd q (R.on i a ha)
    | some o => exact s a o q) fun x j _ a ha => by
      cases q : H a with
      | some o => exact s a o q
      | none =>
        rename_i e2
        subst e2
        obtain ⟨_, a', _, vs, e1, e2, _⟩ := R.slot i _ e
        rw [ha] at e1
        cases e1
        rw [q] at e2
        cases e2
  nd := R.nd
  dj := R.dj
  offF := R.offF
  offB := R.offB
  on := fun i a ha => by
    cases q : H a with
    | none => exact absurd q (R.on i a ha)
    | some o =>
      rw [s a o q]
      simp
  keep := R.keep
  f0 := R.f0
  pin := R.pin
  als := R.als
  noT := fun i a ha => by
    cases q : H a with
    | none => exact absurd q (R.on i a ha)
    | some o =>
      rw [s a o q, ← q]
      exact R.noT i a ha
  tb := R.tb.keep fun a o e _ => s a o e
  tp := R.tp
theorem Rl.new (R : Rl K b Fz F δ σ H) {p : Addr} (n : H p = none) (o : HO) : Rl K b Fz F δ σ (upd H p o) := R.grow (same_new n)
theorem Rl.offN (R : Rl K b Fz F δ σ H) {p : Addr} (n : H p = none) : Fz p = none ∧ b.B p = none ∧ ∀ i, p ∉ F i := by
  refine ⟨?_, ?_, fun i hi => R.on i p hi n⟩
  · cases q : Fz p with
    | none => rfl
    | some o =>
      have := R.le p o q
      rw [n] at this
      cases this
  · cases q : b.B p with
    | none => rfl
    | some o =>
      have := R.base p o q
      rw [n] at this
      cases this
/-- more stands still: objects at hand that nobody owns, outside the ground, or tuples -/
theorem Rl.freezeT (R : Rl K b Fz F δ σ H) {Fz' : Hp} (s : Same Fz Fz') (le : Same Fz' H) (off : ∀ a, Fz a = none → Fz' a ≠ none → (b.B a = none ∧ ∀ i, a ∉ F i) ∨ ∃ xs, H a = some (.tup xs)) (ht : ∀ p ∈ b.T, Fz' p.1 = none) : Rl K b Fz' F δ σ H where
  le := le
  base := R.base
  len := R.len
  slot := fun i s' e => (R.slot i s' e).keeps s (fun _ _ => rfl) fun _ _ _ _ _ => rfl
  nd := R.nd
  dj := R.dj
  offF := fun i a ha => by
    cases q : Fz' a with
    | none => rfl
    | some o =>
      rcases off a (R.offF i a ha) (by rw [q]; simp) with z | ⟨xs, z⟩
      · exact absurd ha (z.2 i)
      · exact ((R.noT i a ha).tup z).elim
  offB := R.offB
  on := R.on
  keep := fun a ha => by
    rcases R.keep a ha with k | ⟨⟨xs, k1⟩, k2⟩
    · cases q : Fz a with
      | some o => exact .inl (by rw [← k, q]; exact s a o q)
      | none =>
        cases q' : Fz' a with
        | none => exact .inl (by rw [← k, q])
        | some o =>
          rcases off a q (by rw [q']; simp) with z | ⟨xs, z⟩
          · exact absurd z.1 ha
          · have h1 := le a o q'
            rw [z] at h1
            cases h1
            cases qb : b.B a with
            | none => exact absurd qb ha
            | some o' =>
              have h2 := R.base a o' qb
              rw [z] at h2
              cases h2
              exact .inr ⟨⟨xs, rfl⟩, rfl⟩
    · exact .inr ⟨⟨xs, k1⟩, by rw [k1] at k2 ⊢; exact s a _ k2⟩
  f0 := R.f0
  pin := R.pin
  als := R.als
  noT := R.noT
  tb := R.tb.fz ht
  tp := R.tp
theorem Rl.freeze (R : Rl K b Fz F δ σ H) {Fz' : Hp} (s : Same Fz Fz') (le : Same Fz' H) (off : ∀ a, Fz a = none → Fz' a ≠ none → b.B a = none ∧ ∀ i, a ∉ F i) (ht : ∀ p ∈ b.T, Fz' p.1 = none) : Rl K b Fz' F δ σ H :=
  R.freezeT s le (fun a h1 h2 => .inl (off a h1 h2)) ht
end
end Hb
namespace Hb
open PySem PySem.Spec PyProof.Rows L2
/-- what an expression gives: a tree that stands still; the slot i by reference; a new thing of nobody's -/
inductive AV where
  | val (d : PyData) | ref (i : Nat) | tmp (s : Sl)
/-- an error: its class's name, the field that it bears -/
structure Exn where
  cls : Str
  arg : Option (Str × PyData) := none
inductive Rs (α : Type) where
  | ok (a : α) (δ : List Sl) | er (x : Exn) (δ : List Sl) | bad
def Rs.bind {α β : Type} (r : Rs α) (k : α → List Sl → Rs β) : Rs β := match r with
  | .ok a δ => k a δ
  | .er x δ => .er x δ
  | .bad => .bad
def Sl.tree : Sl → Option PyData
  | .fz d => some d
  | .ol xs => some (.list (xs.map El.d))
  | .od kvs => some (.dict kvs)
  | _ => none
/-- the tree that is read -/
def rdA (δ : List Sl) : AV → Option PyData
  | .val d => some d
  | .ref i => match δ[i]? with
    | some (.al x j) => (match δ[x]? with
      | some (.ol xs) => xs[j]?.map El.d
      | _ => none)
    | some s => s.tree
    | none => none
  | .tmp _ => none
def allFz : List El → Option (List PyData)
  | [] => some []
  | .fz d :: r => (allFz r).map (d :: ·)
  | .ow _ :: _ => none
/-- a list whose items stand still -/
def rdC (δ : List Sl) : AV → Option PyData
  | .val d => some d
  | .ref i => match δ[i]? with
    | some (.al x j) => (match δ[x]? with
      | some (.ol xs) => xs[j]?.map El.d
      | _ => none)
    | some (.fz d) => some d
    | some (.ol xs) => (allFz xs).map .list
    | _ => none
  | .tmp _ => none
def AvS (K : PySem.W.Frag) (Fz : Hp) (σ : L2.St) (v : V) : AV → Prop
  | .val d => Rp K Fz v d
  | .ref i => σ[i]? = some (some v)
  | .tmp _ => False
def AvR (K : PySem.W.Frag) (b : Bk) (Fz : Hp) (F : Nat → List Addr) (H : Hp) (σ : L2.St) (v : V) : AV → Prop
  | .val d => Rp K Fz v d
  | .ref i => σ[i]? = some (some v)
  | .tmp s => s.tree.isSome = true ∧ ∃ g, SlH K Fz H [] g (some v) s ∧ g.Nodup ∧ ∀ a ∈ g, Fz a = none ∧ b.B a = none ∧ H a ≠ none ∧ ∀ i, a ∉ F i
def ExR (K : PySem.W.Frag) (mg : Str → Option Value) (Fz H : Hp) (x : Exn) (c : Value) (dd : Option Addr) : Prop :=
  (∃ C, mg x.cls = some (.ref C) ∧ c = .ref C) ∧ match x.arg with
    | none => dd = none
    | some p => ∃ a v, dd = some a ∧ H a = some (.xd [(p.1, v)]) ∧ Rp K Fz v p.2
section
variable (K : PySem.W.Frag) (mg : Str → Option Value) (W : WX)
def PostX (b : Bk) (Fz : Hp) (σ : L2.St) (x : Exn) (δ : List Sl) : Prop := ∀ c dd H' Fz' F', Same Fz Fz' → Rl K b Fz' F' δ σ H' → ExR K mg Fz' H' x c dd → W c dd σ H'
def Post (b : Bk) (Fz : Hp) (σ : L2.St) (Q : VK) : Rs AV → Prop
  | .ok a δ => ∀ v H' Fz' F', Same Fz Fz' → Rl K b Fz' F' δ σ H' → AvR K b Fz' F' H' σ v a → Q v H'
  | .er x δ => PostX K mg W b Fz σ x δ
  | .bad => False
def rdE (pin : List Nat) (f : List Sl → Rs AV) : TE := fun σ H Q => ∃ b Fz F δ, b.pin = pin ∧ Rl K b Fz F δ σ H ∧ Post K mg W b Fz σ Q (f δ)
/-- a test -/
def PostT (b : Bk) (Fz : Hp) (σ : L2.St) (Q : Bool → Hp → Prop) : Rs Bool → Prop
  | .ok a δ => ∀ H' Fz' F', Same Fz Fz' → Rl K b Fz' F' δ σ H' → Q a H'
  | .er x δ => PostX K mg W b Fz σ x δ
  | .bad => False
def rdT (pin : List Nat) (f : List Sl → Rs Bool) : TT := fun σ H Q => ∃ b Fz F δ, b.pin = pin ∧ Rl K b Fz F δ σ H ∧ PostT K mg W b Fz σ Q (f δ)
end
abbrev SE (X : Cx) (W : WX) (pin : List Nat) (e : Expr) (f : List Sl → Rs AV) : Prop := PE X e (rdE X.K X.mg W pin f)
abbrev ST (X : Cx) (W : WX) (pin : List Nat) (e : Expr) (f : List Sl → Rs Bool) : Prop := PT X e (rdT X.K X.mg W pin f)
theorem pe_mono {X : Cx} {e : Expr} {t t' : TE} (h : PE X e t) (i : ∀ σ H Q, t' σ H Q → t σ H Q) : PE X e t' := ⟨fun pins s σ H Q I q => h.run pins s σ H Q I (i σ H Q q)⟩
theorem pt_mono {X : Cx} {e : Expr} {t t' : TT} (h : PT X e t) (i : ∀ σ H Q, t' σ H Q → t σ H Q) : PT X e t' := ⟨fun pins s σ H Q I q => h.run pins s σ H Q I (i σ H Q q)⟩
section
variable {K : PySem.W.Frag} {mg : Str → Option Value} {W : WX} {b : Bk} {Fz Fz1 : Hp} {F : Nat → List Addr} {δ : List Sl} {σ : L2.St} {H : Hp} {Q : VK}
theorem PostX.le {x : Exn} (s : Same Fz Fz1) (p : PostX K mg W b Fz σ x δ) : PostX K mg W b Fz1 σ x δ := fun c dd H' Fz' F' s' R e => p c dd H' Fz' F' (s.trans s') R e
theorem Post.le {r : Rs AV} (s : Same Fz Fz1) (p : Post K mg W b Fz σ Q r) : Post K mg W b Fz1 σ Q r := by
  cases r with
  | ok a δ => exact fun v H' Fz' F' s' R e => p v H' Fz' F' (s.trans s') R e
  | er x δ => exact PostX.le s p
  | bad => exact p
theorem PostT.le {Q : Bool → Hp → Prop} {r : Rs Bool} (s : Same Fz Fz1) (p : PostT K mg W b Fz σ Q r) : PostT K mg W b Fz1 σ Q r := by
  cases r with
  | ok a δ => exact fun H' Fz' F' s' R => p H' Fz' F' (s.trans s') R
  | er x δ => exact PostX.le s p
  | bad => exact p
theorem AvS.le {v : V} {a : AV} (s : Same Fz Fz1) (p : AvS K Fz σ v a) : AvS K Fz1 σ v a := by
  cases a with
  | val d => exact Rp.mono s p
  | ref i => exact p
  | tmp t => exact p
theorem AvR.of {v : V} {a : AV} (p : AvS K Fz σ v a) : AvR K b Fz F H σ v a := by
  cases a with
  | val d => exact p
  | ref i => exact p
  | tmp t => exact False.elim p
theorem ElL.tree {Fz H : Hp} (le : Same Fz H) : ∀ {f : List Addr} {vs : List V} {es : List El}, ElL K Fz H f vs es → RpL K H vs (es.map El.d)
  | _, _, _, .nil => .nil
  | _, _, _, .cons (e := .fz d) h t => .cons (h.2.mono le) (ElL.tree le t)
  | _, _, _, .cons (e := .ow xs) h t => by
    obtain ⟨a, vs, e1, e2, e3, e4⟩ := h
    subst e1
    exact .cons (.lst (SqX.of e3) (e4.mono le)) (ElL.tree le t)
theorem ElL.at_ {Fz H : Hp} : ∀ {f : List Addr} {vs : List V} {es : List El} {j : Nat} {e : El}, ElL K Fz H f vs es → es[j]? = some e → ∃ v g, vs[j]? = some v ∧ ElR K Fz H g v e ∧ ∀ a ∈ g, a ∈ f
  | _, _, _, _, _, .nil, e => by simp at e
  | _, _, _, 0, _, .cons (f := f) (v := v) h t, e => by
    simp at e
    subst e
    exact ⟨v, f, rfl, h, fun a ha => List.mem_append_left _ ha⟩
  | _, _, _, j + 1, _, .cons h t, e => by
    obtain ⟨v, g, e1, e2, e3⟩ := ElL.at_ t (by simpa using e)
    exact ⟨v, g, by simpa using e1, e2, fun a ha => List.mem_append_right _ (e3 a ha)⟩
theorem ElL.allFz {Fz H : Hp} : ∀ {f : List Addr} {vs : List V} {es : List El} {ds : List PyData}, ElL K Fz H f vs es → Hb.allFz es = some ds → RpL K Fz vs ds
  | _, _, _, _, .nil, e => by cases e; exact .nil
  | _, _, _, ds, .cons (e := .fz d) (es := es) h t, e => by
    cases q : Hb.allFz es with
    | none =>
      rw [Hb.allFz, q] at e
      cases e
    | some ds' =>
      rw [Hb.allFz, q] at e
      cases e
      exact .cons h.2 (ElL.allFz t q)
  | _, _, _, ds, .cons (e := .ow xs) h t, e => by cases e
/-- a value that is read -/
def RpC (K : PySem.W.Frag) (Fz H : Hp) (v : V) (d : PyData) : Prop := Rp K Fz v d ∨ ∃ a vs ds, v = .ref a ∧ d = .list ds ∧ H a = some (.lst vs) ∧ RpL K Fz vs ds
theorem join_some {o : Option (Option V)} {v : V} (h : o.join = some v) : o = some (some v) := by
  cases o with
  | none => cases h
  | some o => exact congrArg some h
theorem Rl.al (R : Rl K b Fz F δ σ H) {i x j : Nat} {xs : List El} {e : El} {v : V} (h : δ[i]? = some (.al x j)) (hx : δ[x]? = some (.ol xs)) (hj : xs[j]? = some e) (hv : σ[i]? = some (some v)) : ∃ g, ElR K Fz H g v e ∧ ∀ a ∈ g, a ∈ F x := by
  obtain ⟨_, a, c, vs, e1, e2, e3, e4⟩ := R.slot i _ h
  obtain ⟨a', vs', g, e5, e6, e7, e8⟩ := R.slot x _ hx
  rw [e1] at e5
  cases e5
  rw [e2] at e7
  cases e7
  obtain ⟨v', g', e9, e10, e11⟩ := e8.at_ hj
  rw [e3] at e9
  cases e9
  rw [hv] at e4
  cases e4
  exact ⟨g', e10, fun a ha => by rw [e6]; exact List.mem_cons_of_mem _ (e11 a ha)⟩
theorem rdA_ok (R : Rl K b Fz F δ σ H) {v : V} {a : AV} {d : PyData} (p : AvS K Fz σ v a) (h : rdA δ a = some d) : Rp K H v d := by
  cases a with
  | val d' =>
    cases h
    exact Rp.mono R.le p
  | tmp t => exact False.elim p
  | ref i =>
    have hv : σ[i]? = some (some v) := p
    cases q : δ[i]? with
    | none =>
      simp only [rdA, q] at h
      cases h
    | some s =>
      have hs := R.slot i s q
      rw [hv] at hs
      cases s with
      | no =>
        simp only [rdA, q] at h
        cases h
      | fz d' =>
        simp only [rdA, q] at h
        cases h
        obtain ⟨_, v', e1, e2⟩ := hs
        cases e1
        exact e2.mono R.le
      | ol xs =>
        simp only [rdA, q] at h
        cases h
        obtain ⟨a, vs, g, e1, e2, e3, e4⟩ := hs
        cases e1
        exact .lst (SqX.of e3) (e4.tree R.le)
      | od kvs =>
        simp only [rdA, q] at h
        cases h
        obtain ⟨a, e1, e2, e3⟩ := hs
        cases e1
        rcases e3 with ⟨ws, h1, h2⟩ | ⟨ws, h1, h2⟩
        · exact .dK h1 (h2.mono R.le)
        · exact .dT h1 (h2.mono R.le)
      | al x j =>
        cases q2 : δ[x]? with
        | none =>
          simp only [rdA, q, q2] at h
          cases h
        | some t =>
          cases t with
          | ol xs =>
            cases q3 : xs[j]? with
            | none =>
              simp only [rdA, q, q2, q3] at h
              cases h
            | some e =>
              simp only [rdA, q, q2, q3] at h
              cases h
              obtain ⟨g, e1, _⟩ := R.al q q2 q3 hv
              cases e with
              | fz d' => exact e1.2.mono R.le
              | ow ys =>
                obtain ⟨a, vs, f1, _, f3, f4⟩ := e1
                subst f1
                exact .lst (SqX.of f3) (f4.mono R.le)
          | _ =>
            simp only [rdA, q, q2] at h
            cases h
theorem rdC_ok (R : Rl K b Fz F δ σ H) {v : V} {a : AV} {d : PyData} (p : AvS K Fz σ v a) (h : rdC δ a = some d) : RpC K Fz H v d := by
  cases a with
  | val d' =>
    cases h
    exact .inl p
  | tmp t => exact False.elim p
  | ref i =>
    have hv : σ[i]? = some (some v) := p
    cases q : δ[i]? with
    | none =>
      simp only [rdC, q] at h
      cases h
    | some s =>
      have hs := R.slot i s q
      rw [hv] at hs
      cases s with
      | no =>
        simp only [rdC, q] at h
        cases h
      | fz d' =>
        simp only [rdC, q] at h
        cases h
        obtain ⟨_, v', e1, e2⟩ := hs
        cases e1
        exact .inl e2
      | ol xs =>
        simp only [rdC, q] at h
        cases q2 : allFz xs with
        | none =>
          rw [q2] at h
          cases h
        | some ds =>
          rw [q2] at h
          cases h
          obtain ⟨a, vs, g, e1, e2, e3, e4⟩ := hs
          cases e1
          exact .inr ⟨a, vs, ds, rfl, rfl, e3, e4.allFz q2⟩
      | od kvs =>
        simp only [rdC, q] at h
        cases h
      | al x j =>
        cases q2 : δ[x]? with
        | none =>
          simp only [rdC, q, q2] at h
          cases h
        | some t =>
          cases t with
          | ol xs =>
            cases q3 : xs[j]? with
            | none =>
              simp only [rdC, q, q2, q3] at h
              cases h
            | some e =>
              simp only [rdC, q, q2, q3] at h
              cases h
              obtain ⟨g, e1, _⟩ := R.al q q2 q3 hv
              cases e with
              | fz d' => exact .inl e1.2
              | ow ys =>
                obtain ⟨a, vs, f1, _, f3, f4⟩ := e1
                subst f1
                exact .inr ⟨a, vs, ys, rfl, rfl, f3, f4⟩
          | _ =>
            simp only [rdC, q, q2] at h
            cases h
theorem RpC.list {v : V} {ds : List PyData} (le : Same Fz H) (h : RpC K Fz H v (.list ds)) : ∃ a vs, v = .ref a ∧ SqX K H a vs ∧ RpL K Fz vs ds := by
  rcases h with h | ⟨a, vs, es, e1, e2, e3, e4⟩
  · cases h with
    | lst h1 h2 => exact ⟨_, _, rfl, same_sqX le h1, h2⟩
  · cases e2
    exact ⟨a, vs, e1, SqX.of e3, e4⟩
theorem RpC.tup {v : V} {ds : List PyData} (le : Same Fz H) (h : RpC K Fz H v (.tuple ds)) : ∃ a vs, v = .ref a ∧ SqT K H a vs ∧ RpL K Fz vs ds := by
  rcases h with h | ⟨a, vs, es, e1, e2, e3, e4⟩
  · cases h with
    | tup h1 h2 => exact ⟨_, _, rfl, SqT.of (le _ _ h1), h2⟩
  · cases e2
theorem RpC.rp {v : V} {d : PyData} (le : Same Fz H) (h : RpC K Fz H v d) : Rp K H v d := by
  rcases h with h | ⟨a, vs, es, e1, e2, e3, e4⟩
  · exact h.mono le
  · subst e1 e2
    exact .lst (SqX.of e3) (e4.mono le)
theorem ElL.ofFz {H : Hp} : ∀ {vs : List V} {ds : List PyData}, RpL K Fz vs ds → ElL K Fz H [] vs (ds.map .fz)
  | _, _, .nil => .nil
  | _, _, .cons h t => .cons (f := []) ⟨rfl, h⟩ (ElL.ofFz t)
theorem post_newL (R : Rl K b Fz F δ σ H) {vs : List V} {ds : List PyData} (h : RpL K Fz vs ds) (P : Post K mg W b Fz σ Q (.ok (.tmp (.ol (ds.map .fz))) δ)) : ∀ p, H p = none → Q (.ref p) (upd H p (.lst vs)) := fun p n => by
  obtain ⟨n1, n2, n3⟩ := R.offN n
  refine P (.ref p) _ Fz F (Same.refl _) (R.new n _) ⟨rfl, [p], ⟨p, vs, [], rfl, rfl, upd_same, ElL.ofFz h⟩, by simp, fun a ha => ?_⟩
  rw [List.mem_singleton] at ha
  subst ha
  exact ⟨n1, n2, by rw [upd_same]; simp, n3⟩
theorem post_newD (R : Rl K b Fz F δ σ H) (P : Post K mg W b Fz σ Q (.ok (.tmp (.od [])) δ)) : ∀ p, H p = none → Q (.ref p) (upd H p (.dK [])) := fun p n => by
  obtain ⟨n1, n2, n3⟩ := R.offN n
  refine P (.ref p) _ Fz F (Same.refl _) (R.new n _) ⟨rfl, [p], ⟨p, rfl, rfl, .inl ⟨[], upd_same, .nil⟩⟩, by simp, fun a ha => ?_⟩
  rw [List.mem_singleton] at ha
  subst ha
  exact ⟨n1, n2, by rw [upd_same]; simp, n3⟩
/-- a new thing that stands still at once -/
theorem Rl.newF (R : Rl K b Fz F δ σ H) {p : Addr} (n : H p = none) (o : HO) : Same Fz (upd Fz p o) ∧ Rl K b (upd Fz p o) F δ σ (upd H p o) := by
  obtain ⟨n1, n2, n3⟩ := R.offN n
  refine ⟨same_new n1, (R.new n o).freeze (same_new n1) (fun a x e => ?_) (fun a ha hb => ?_) fun q hq => ?_⟩
  · by_cases q : a = p
    · subst q
      rw [upd_same] at e ⊢
      exact e
    · rw [upd_ne q] at e ⊢
      exact R.le a x e
  · by_cases q : a = p
    · subst q
      exact ⟨n2, n3⟩
    · rw [upd_ne q] at hb
      exact absurd ha hb
  · obtain ⟨⟨ps, e, _⟩, h2, _⟩ := R.tb q hq
    rw [upd_ne fun z => by rw [z, n] at e; cases e]
    exact h2
theorem post_newT (R : Rl K b Fz F δ σ H) {vs : List V} {ds : List PyData} (h : RpL K Fz vs ds) (P : Post K mg W b Fz σ Q (.ok (.val (.tuple ds)) δ)) : ∀ p, H p = none → Q (.ref p) (upd H p (.tup vs)) := fun p n => by
  obtain ⟨s, R'⟩ := R.newF n (.tup vs)
  exact P (.ref p) _ _ F s R' (.tup upd_same (h.mono s))
theorem ElL.treeF {H : Hp} {Fz' : Hp} (s : Same Fz Fz') : ∀ {f : List Addr} {vs : List V} {es : List El}, ElL K Fz H f vs es → (∀ a ∈ f, Fz' a = H a) → RpL K Fz' vs (es.map El.d)
  | _, _, _, .nil, _ => .nil
  | _, _, _, .cons (e := .fz d) h t, hg => .cons (h.2.mono s) (ElL.treeF s t fun a ha => hg a (List.mem_append_right _ ha))
  | _, _, _, .cons (e := .ow xs) h t, hg => by
    obtain ⟨a, vs, e1, e2, e3, e4⟩ := h
    subst e1
    have q := hg a (List.mem_append_left _ (by simp [e2]))
    exact .cons (.lst (SqX.of (q.trans e3)) (e4.mono s)) (ElL.treeF s t fun a ha => hg a (List.mem_append_right _ ha))
theorem SlH.treeF {Fz' : Hp} {σ0 : L2.St} {g : List Addr} {v : V} {t : Sl} {d : PyData} (h : SlH K Fz H σ0 g (some v) t) (ht : t.tree = some d) (s : Same Fz Fz') (hg : ∀ a ∈ g, Fz' a = H a) : Rp K Fz' v d := by
  cases t with
  | no => cases ht
  | fz d' =>
    cases ht
    obtain ⟨_, v', e1, e2⟩ := h
    cases e1
    exact e2.mono s
  | ol xs =>
    cases ht
    obtain ⟨a, vs, g', e1, e2, e3, e4⟩ := h
    cases e1
    exact .lst (SqX.of ((hg a (by simp [e2])).trans e3)) (e4.treeF s fun c hc => hg c (by simp [e2, hc]))
  | od kvs =>
    cases ht
    obtain ⟨a, e1, e2, e3⟩ := h
    cases e1
    have q := hg a (by simp [e2])
    rcases e3 with ⟨ws, h1, h2⟩ | ⟨ws, h1, h2⟩
    · exact .dK (q.trans h1) (h2.mono s)
    · exact .dT (q.trans h1) (h2.mono s)
  | al x j => cases ht
/-- Fz with the objects at g as they stand -/
def addF (Fz H : Hp) (g : List Addr) : Hp := fun a => if a ∈ g then H a else Fz a
theorem addF_in {Fz H : Hp} {g : List Addr} {a : Addr} (h : a ∈ g) : addF Fz H g a = H a := if_pos h
theorem addF_out {Fz H : Hp} {g : List Addr} {a : Addr} (h : a ∉ g) : addF Fz H g a = Fz a := if_neg h
theorem addF_same {Fz H : Hp} {g : List Addr} (h : ∀ a ∈ g, Fz a = none) : Same Fz (addF Fz H g) := fun a o e => by
  by_cases q : a ∈ g
  · rw [h a q] at e
    cases e
  · rw [addF_out q]
    exact e
theorem addF_le {Fz H : Hp} {g : List Addr} (le : Same Fz H) : Same (addF Fz H g) H := fun a o e => by
  by_cases q : a ∈ g
  · rw [addF_in q] at e
    exact e
  · rw [addF_out q] at e
    exact le a o e
theorem addT {b : Bk} {Fz H : Hp} {g : List Addr} (t : Tb b Fz H) (hp : ∀ a ∈ g, Pl (H a)) {p : Addr × Str} (hq : p ∈ b.T) : Hb.addF Fz H g p.1 = none := by
  rw [addF_out fun z => t.tbl hq (hp _ z)]
  exact (t p hq).2.1
theorem Rl.addF (R : Rl K b Fz F δ σ H) {g : List Addr} (hg : ∀ a ∈ g, Fz a = none ∧ b.B a = none ∧ ∀ i, a ∉ F i) (hp : ∀ a ∈ g, Pl (H a)) : Same Fz (addF Fz H g) ∧ Rl K b (Hb.addF Fz H g) F δ σ H := by
  have s := addF_same (H := H) fun a ha => (hg a ha).1
  refine ⟨s, R.freeze s (addF_le R.le) (fun a h1 h2 => ?_) fun p hq => addT R.tb hp hq⟩
  by_cases q : a ∈ g
  · exact ⟨(hg a q).2.1, (hg a q).2.2⟩
  · rw [addF_out q] at h2
    exact absurd h1 h2
/-- aliases of slot i are forgotten -/
def dropAl (i : Nat) (δ : List Sl) : List Sl := δ.map fun s => match s with
  | .al x j => if x = i then .no else .al x j
  | s => s
def upS (i : Nat) (s : Sl) (δ : List Sl) : List Sl := (dropAl i δ).set i s
theorem dropAl_at {i k : Nat} {s : Sl} {δ : List Sl} (h : (dropAl i δ)[k]? = some s) : s = .no ∧ (∃ j, δ[k]? = some (.al i j)) ∨ δ[k]? = some s ∧ ∀ j, s ≠ .al i j := by
  unfold dropAl at h
  rw [List.getElem?_map] at h
  cases q : δ[k]? with
  | none =>
    rw [q] at h
    cases h
  | some t =>
    rw [q] at h
    cases t with
    | al x j =>
      by_cases e : x = i
      · subst e
        have h' : some (if x = x then Sl.no else Sl.al x j) = some s := h
        rw [if_pos rfl] at h'
        cases h'
        exact .inl ⟨rfl, j, rfl⟩
      · have h' : some (if x = i then Sl.no else Sl.al x j) = some s := h
        rw [if_neg e] at h'
        cases h'
        exact .inr ⟨rfl, fun j' z => by cases z; exact e rfl⟩
    | no => cases h; exact .inr ⟨rfl, fun j' z => nomatch z⟩
    | fz d => cases h; exact .inr ⟨rfl, fun j' z => nomatch z⟩
    | ol xs => cases h; exact .inr ⟨rfl, fun j' z => nomatch z⟩
    | od kvs => cases h; exact .inr ⟨rfl, fun j' z => nomatch z⟩
theorem dropAl_len {i : Nat} {δ : List Sl} : (dropAl i δ).length = δ.length := by simp [dropAl]
/-- slot i (not pinned, or its value the same) gets another value, another heap of its own -/
theorem Rl.put (R : Rl K b Fz F δ σ H) {i : Nat} {s : Sl} {g : List Addr} {σ' : L2.St} {H' : Hp} {Fz' : Hp} (sF : Same Fz Fz') (leF : Same Fz' H') (hb : Same b.B H')
    (hl : σ'.length = σ.length) (hσ : ∀ k, k ≠ i → σ'[k]? = σ[k]?) (hp : σ'[i]? = σ[i]? ∨ i ∉ b.pin)
    (hs : i < δ.length → SlH K Fz' H' σ' g (σ'[i]?.join) s) (ns : ∀ x j, s = .al x j → x ≠ i ∧ ∃ xs, δ[x]? = some (.ol xs))
    (hg : g.Nodup) (gF : ∀ a ∈ g, Fz' a = none) (gB : ∀ a ∈ g, b.B a = none) (gO : ∀ a ∈ g, ∀ k, k ≠ i → a ∉ F k) (gH : ∀ a ∈ g, H' a ≠ none)
    (oH : ∀ k, k ≠ i → ∀ a ∈ F k, H' a = H a) (oF : ∀ k, k ≠ i → ∀ a ∈ F k, Fz' a = none) (kF : ∀ a, b.B a ≠ none → Fz' a = Fz a) (gT : ∀ a ∈ g, Pl (H' a) := by intro _ z; exact nomatch z) (tb : Tb b Fz' H' := by first | exact Rl.tb (by assumption) | assumption) :
    Rl K b Fz' (fun k => if k = i then g else F k) (upS i s δ) σ' H' where
  le := leF
  base := hb
  len := by rw [hl, R.len, upS, List.length_set, dropAl_len]
  slot := fun k t e => by
    by_cases hk : k = i
    · subst hk
      unfold upS at e
      have hlt : k < δ.length := by
        have := (List.getElem?_eq_some_iff.mp e).1
        rw [List.length_set, dropAl_len] at this
        exact this
      rw [List.getElem?_set_self (by rw [dropAl_len]; exact hlt)] at e
      cases e
      rw [if_pos rfl]
      exact hs hlt
    · unfold upS at e
      rw [List.getElem?_set_ne (Ne.symm hk)] at e
      rw [if_neg hk]
      rcases dropAl_at e with ⟨e1, j, e2⟩ | ⟨e1, e2⟩
      · subst e1
        exact (R.slot k _ e2).1
      · have h0 := R.slot k t e1
        rw [hσ k hk]
        have h1 : SlH K Fz' H' σ (F k) (σ[k]?.join) t := h0.keeps sF (oH k hk) fun x j ej a ha => by
          subst ej
          have hx : x ≠ i := fun z => e2 j (by rw [z])
          obtain ⟨xs, hxs⟩ := R.als k x j e1
          obtain ⟨a2, vs2, g2, p1, p2, _⟩ := R.slot x _ hxs
          rw [ha] at p1
          cases p1
          exact oH x hx a (by rw [p2]; exact List.mem_cons_self)
        cases t with
        | al x j =>
          obtain ⟨f0, a1, c1, vs1, f1, f2, f3, f4⟩ := h1
          exact ⟨f0, a1, c1, vs1, by rw [hσ x (fun z => e2 j (by rw [z]))]; exact f1, f2, f3, f4⟩
        | no => exact h1
        | fz d => exact h1
        | ol xs => exact h1
        | od kvs => exact h1
  nd := fun k => by
    by_cases hk : k = i
    · rw [if_pos hk]; exact hg
    · rw [if_neg hk]; exact R.nd k
  dj := fun k l a h1 h2 => by
    by_cases hk : k = i
    · by_cases hl : l = i
      · rw [hk, hl]
      · rw [if_pos hk] at h1
        rw [if_neg hl] at h2
        exact absurd h2 (gO a h1 l hl)
    · by_cases hl : l = i
      · rw [if_pos hl] at h2
        rw [if_neg hk] at h1
        exact absurd h1 (gO a h2 k hk)
      · rw [if_neg hk] at h1
        rw [if_neg hl] at h2
        exact R.dj k l a h1 h2
  offF := fun k a h => by
    by_cases hk : k = i
    · rw [if_pos hk] at h; exact gF a h
    · rw [if_neg hk] at h; exact oF k hk a h
  offB := fun k a h => by
    by_cases hk : k = i
    · rw [if_pos hk] at h; exact gB a h
    · rw [if_neg hk] at h; exact R.offB k a h
  on := fun k a h => by
    by_cases hk : k = i
    · rw [if_pos hk] at h; exact gH a h
    · rw [if_neg hk] at h
      rw [oH k hk a h]
      exact R.on k a h
  keep := fun a h => by
    rw [kF a h]
    exact R.keep a h
  noT := fun k a h => by
    by_cases hk : k = i
    · rw [if_pos hk] at h; exact gT a h
    · rw [if_neg hk] at h
      rw [oH k hk a h]
      exact R.noT k a h
  tb := tb
  tp := R.tp
  f0 := R.f0
  pin := fun k hk => by
    by_cases e : k = i
    · subst e
      rcases hp with z | z
      · exact z.trans (R.pin k hk)
      · exact absurd hk z
    · rw [hσ k e]
      exact R.pin k hk
  als := fun k x j e => by
    unfold upS at e ⊢
    by_cases hk : k = i
    · subst hk
      have hlt : k < δ.length := by
        have := (List.getElem?_eq_some_iff.mp e).1
        rw [List.length_set, dropAl_len] at this
        exact this
      rw [List.getElem?_set_self (by rw [dropAl_len]; exact hlt)] at e
      cases e
      obtain ⟨hx, xs, e1⟩ := ns x j rfl
      refine ⟨xs, ?_⟩
      rw [List.getElem?_set_ne (Ne.symm hx), dropAl, List.getElem?_map, e1]
      rfl
    · rw [List.getElem?_set_ne (Ne.symm hk)] at e
      rcases dropAl_at e with ⟨e1, _⟩ | ⟨e1, e2⟩
      · cases e1
      · obtain ⟨xs, e3⟩ := R.als k x j e1
        refine ⟨xs, ?_⟩
        rw [List.getElem?_set_ne (fun z => e2 j (by rw [z])), dropAl, List.getElem?_map, e3]
        rfl
end
end Hb
namespace Hb
open PySem PySem.Spec PyProof.Rows L2
def sSt (f : List Sl → Rs AV) : List Sl → Rs AV := fun δ => match f δ with
  | .ok (.tmp s) δ' => (match s.tree with
    | some d => .ok (.val d) δ'
    | none => .bad)
  | r => r
/-- the slot i by reference: its tree stands still from now on -/
def takeI (i : Nat) (δ : List Sl) : Rs AV := match δ[i]? with
  | some (.fz d) => .ok (.val d) δ
  | some (.ol xs) => .ok (.val (.list (xs.map El.d))) (upS i (.fz (.list (xs.map El.d))) δ)
  | some (.od kvs) => .ok (.val (.dict kvs)) (upS i (.fz (.dict kvs)) δ)
  | some (.al x j) => (match δ[x]? with
    | some (.ol xs) => (match xs[j]? with
      | some (.fz d) => .ok (.val d) δ
      | _ => .bad)
    | _ => .bad)
  | _ => .bad
def sTk (f : List Sl → Rs AV) : List Sl → Rs AV := fun δ => match sSt f δ with
  | .ok (.ref i) δ' => takeI i δ'
  | r => r
/-- the slot i by reference: its thing is given away -/
def moveI (i : Nat) (δ : List Sl) : Rs AV := match δ[i]? with
  | some (.fz d) => .ok (.val d) δ
  | some (.ol xs) => .ok (.tmp (.ol xs)) (upS i .no δ)
  | some (.od kvs) => .ok (.tmp (.od kvs)) (upS i .no δ)
  | _ => .bad
def sMv (f : List Sl → Rs AV) : List Sl → Rs AV := fun δ => match f δ with
  | .ok (.ref i) δ' => moveI i δ'
  | r => r
section
variable {X : Cx} {W : WX} {pin : List Nat} {e : Expr} {f : List Sl → Rs AV}
theorem se_st (h : SE X W pin e f) : SE X W pin e (sSt f) := pe_mono h fun σ H Q ⟨b, Fz, F, δ, hp, R, P⟩ => by
  refine ⟨b, Fz, F, δ, hp, R, ?_⟩
  unfold sSt at P
  cases q : f δ with
  | bad => rw [q] at P; exact P
  | er x δ' => rw [q] at P; exact P
  | ok a δ' =>
    rw [q] at P
    cases a with
    | val d => exact P
    | ref i => exact P
    | tmp s =>
      intro v H' Fz' F' s1 R' ⟨ht, g, hs, hn, hg⟩
      cases q2 : s.tree with
      | none => rw [q2] at ht; cases ht
      | some d =>
        simp only [q2] at P
        obtain ⟨s2, R2⟩ := R'.addF (g := g) (fun a ha => ⟨(hg a ha).1, (hg a ha).2.1, (hg a ha).2.2.2⟩) hs.noT
        exact P v H' _ F' (s1.trans s2) R2 (hs.treeF q2 s2 fun a ha => addF_in ha)
theorem take_ok {K : PySem.W.Frag} {b : Bk} {Fz : Hp} {F : Nat → List Addr} {δ : List Sl} {σ : L2.St} {H : Hp} {i : Nat} {s : Sl} {d : PyData} {v : V} (R : Rl K b Fz F δ σ H) (hs : δ[i]? = some s) (ht : s.tree = some d) (hv : σ[i]? = some (some v)) (na : ∀ x j, s ≠ .al x j) :
    ∃ Fz', Same Fz Fz' ∧ Rl K b Fz' (fun k => if k = i then [] else F k) (upS i (.fz d) δ) σ H ∧ Rp K Fz' v d := by
  have h := R.slot i s hs
  rw [hv] at h
  have sF := addF_same (H := H) (g := F i) fun a ha => R.offF i a ha
  have r : Rp K (addF Fz H (F i)) v d := by
    have h2 : SlH K Fz H [] (F i) (some v) s := by
      cases s with
      | al x j => exact absurd rfl (na x j)
      | _ => exact h
    exact h2.treeF ht sF fun a ha => addF_in ha
  have out : ∀ k, k ≠ i → ∀ a ∈ F k, a ∉ F i := fun k hk a ha hi => hk (R.dj k i a ha hi)
  have tb : Tb b (addF Fz H (F i)) H := R.tb.fz fun p hp => addT R.tb (R.noT i) hp
  refine ⟨addF Fz H (F i), sF, R.put sF (addF_le R.le) R.base rfl (fun _ _ => rfl) (.inl rfl) (fun _ => ⟨rfl, v, by rw [hv]; rfl, r⟩) (fun x j z => nomatch z) List.nodup_nil (fun _ z => nomatch z) (fun _ z => nomatch z) (fun _ z => nomatch z) (fun _ z => nomatch z) (fun _ _ _ _ => rfl) (fun k hk a ha => ?_) (fun a ha => ?_), r⟩
  · rw [addF_out (out k hk a ha)]
    exact R.offF k a ha
  · exact addF_out fun hi => ha (R.offB i a hi)
theorem post_take {K : PySem.W.Frag} {mg : Str → Option Value} {W : WX} {b : Bk} {Fz : Hp} {F : Nat → List Addr} {δ : List Sl} {σ : L2.St} {H : Hp} {Q : VK} {i : Nat} {v : V} (R : Rl K b Fz F δ σ H) (hv : σ[i]? = some (some v)) (P : Post K mg W b Fz σ Q (takeI i δ)) : Q v H := by
  unfold takeI at P
  cases q : δ[i]? with
  | none => simp only [q] at P; exact P.elim
  | some s =>
    cases s with
    | no => simp only [q] at P; exact P.elim
    | fz d =>
      simp only [q] at P
      obtain ⟨_, v', e1, e2⟩ := R.slot i _ q
      rw [hv] at e1
      cases e1
      exact P v H Fz F (Same.refl _) R e2
    | ol xs =>
      simp only [q] at P
      obtain ⟨Fz', s1, R', r⟩ := take_ok R q rfl hv (fun _ _ z => nomatch z)
      exact P v H Fz' _ s1 R' r
    | od kvs =>
      simp only [q] at P
      obtain ⟨Fz', s1, R', r⟩ := take_ok R q rfl hv (fun _ _ z => nomatch z)
      exact P v H Fz' _ s1 R' r
    | al x j =>
      simp only [q] at P
      cases q2 : δ[x]? with
      | none => simp only [q2] at P; exact P.elim
      | some t =>
        cases t with
        | ol xs =>
          simp only [q2] at P
          cases q3 : xs[j]? with
          | none => simp only [q3] at P; exact P.elim
          | some el =>
            cases el with
            | ow ys => simp only [q3] at P; exact P.elim
            | fz d =>
              simp only [q3] at P
              obtain ⟨g, e1, _⟩ := R.al q q2 q3 hv
              exact P v H Fz F (Same.refl _) R e1.2
        | _ => simp only [q2] at P; exact P.elim
theorem se_tk (h : SE X W pin e f) : SE X W pin e (sTk f) := pe_mono (se_st h) fun σ H Q ⟨b, Fz, F, δ, hp, R, P⟩ => by
  refine ⟨b, Fz, F, δ, hp, R, ?_⟩
  unfold sTk at P
  cases q : sSt f δ with
  | bad => rw [q] at P; exact P
  | er x δ' => rw [q] at P; exact P
  | ok a δ' =>
    rw [q] at P
    cases a with
    | val d => exact P
    | tmp s => exact P
    | ref i => exact fun v H' Fz' F' s1 R' hv => post_take R' hv (P.le s1)
theorem se_mv (h : SE X W pin e f) : SE X W pin e (sMv f) := pe_mono h fun σ H Q ⟨b, Fz, F, δ, hp, R, P⟩ => by
  refine ⟨b, Fz, F, δ, hp, R, ?_⟩
  unfold sMv at P
  cases q : f δ with
  | bad => rw [q] at P; exact P
  | er x δ' => rw [q] at P; exact P
  | ok a δ' =>
    rw [q] at P
    cases a with
    | val d => exact P
    | tmp s => exact P
    | ref i =>
      intro v H' Fz' F' s1 R' hv
      have hv' : σ[i]? = some (some v) := hv
      have P' := P.le s1
      unfold moveI at P'
      have go : ∀ s : Sl, δ'[i]? = some s → s.tree.isSome = true → (∀ x j, s ≠ .al x j) → (∀ d, s ≠ .fz d) → Post X.K X.mg W b Fz' σ Q (.ok (.tmp s) (upS i .no δ')) → Q v H' := fun s hs ht na nf PP => by
        have h0 := R'.slot i s hs
        rw [hv'] at h0
        have h2 : SlH X.K Fz' H' [] (F' i) (some v) s := by
          cases s with
          | al x j => exact absurd rfl (na x j)
          | _ => exact h0
        have R2 := R'.put (i := i) (s := .no) (g := []) (Same.refl _) R'.le R'.base rfl (fun _ _ => rfl) (.inl rfl) (fun _ => rfl) (fun x j z => nomatch z) List.nodup_nil (fun _ z => nomatch z) (fun _ z => nomatch z) (fun _ z => nomatch z) (fun _ z => nomatch z) (fun _ _ _ _ => rfl) (fun k _ a ha => R'.offF k a ha) (fun _ _ => rfl)
        refine PP v H' Fz' _ (Same.refl _) R2 ⟨ht, F' i, h2, R'.nd i, fun a ha => ⟨R'.offF i a ha, R'.offB i a ha, R'.on i a ha, fun k hk => ?_⟩⟩
        have hk' : a ∈ (if k = i then [] else F' k) := hk
        by_cases e : k = i
        · rw [if_pos e] at hk'
          cases hk'
        · rw [if_neg e] at hk'
          exact e (R'.dj k i a hk' ha)
      cases q2 : δ'[i]? with
      | none => simp only [q2] at P'; exact P'.elim
      | some s =>
        cases s with
        | no => simp only [q2] at P'; exact P'.elim
        | fz d =>
          simp only [q2] at P'
          obtain ⟨_, v', e1, e2⟩ := R'.slot i _ q2
          rw [hv'] at e1
          cases e1
          exact P' v H' Fz' F' (Same.refl _) R' e2
        | ol xs =>
          simp only [q2] at P'
          exact go _ q2 rfl (fun _ _ z => nomatch z) (fun _ z => nomatch z) P'
        | od kvs =>
          simp only [q2] at P'
          exact go _ q2 rfl (fun _ _ z => nomatch z) (fun _ z => nomatch z) P'
        | al x j => simp only [q2] at P'; exact P'.elim
end
def sC (d : PyData) : List Sl → Rs AV := fun δ => .ok (.val d) δ
def sVar (i : Nat) : List Sl → Rs AV := fun δ => match δ[i]? with
  | some (.fz d) => .ok (.val d) δ
  | some (.ol _) => .ok (.ref i) δ
  | some (.od _) => .ok (.ref i) δ
  | some (.al _ _) => .ok (.ref i) δ
  | _ => .bad
section
variable {X : Cx} {W : WX} {pin : List Nat} {pos : Pos}
theorem se_int {i : Int} {j : Nat} : SE X W pin (.Constant (.int i) j pos) (sC (.int i)) := pe_mono pe_int fun σ H Q ⟨b, Fz, F, δ, hp, R, P⟩ => P _ H Fz F (Same.refl _) R (.int i)
theorem se_bl {i : Bool} {j : Nat} : SE X W pin (.Constant (.bool i) j pos) (sC (.bool i)) := pe_mono pe_bl fun σ H Q ⟨b, Fz, F, δ, hp, R, P⟩ => P _ H Fz F (Same.refl _) R (.bl i)
theorem se_non {j : Nat} : SE X W pin (.Constant .none j pos) (sC .none) := pe_mono pe_non fun σ H Q ⟨b, Fz, F, δ, hp, R, P⟩ => P _ H Fz F (Same.refl _) R .non
theorem se_str {x : Str} {j : Nat} : SE X W pin (.Constant (.str x) j pos) (sC (.str x)) := pe_mono pe_str fun σ H Q ⟨b, Fz, F, δ, hp, R, P⟩ => P _ H Fz F (Same.refl _) R (.str x)
theorem se_globI {x : Str} {i : Int} (hg : Gl X x) (hm : ∃ t, X.mg x = some (.int i t)) (hd : (x == ("__debug__" : Str)) = false := by decide) : SE X W pin (.Name x pos) (sC (.int i)) := by
  obtain ⟨t, hm⟩ := hm
  exact pe_mono (pe_glob hg hm (v := .int i) ⟨t, rfl⟩ hd) fun σ H Q ⟨b, Fz, F, δ, hp, R, P⟩ => P _ H Fz F (Same.refl _) R (.int i)
theorem post_var {K : PySem.W.Frag} {mg : Str → Option Value} {b : Bk} {Fz : Hp} {F : Nat → List Addr} {δ : List Sl} {σ : L2.St} {H : Hp} {Q : VK} {i : Nat} (R : Rl K b Fz F δ σ H) (P : Post K mg W b Fz σ Q (sVar i δ)) : ∃ v, σ[i]? = some (some v) ∧ Q v H := by
  unfold sVar at P
  cases q : δ[i]? with
  | none => simp only [q] at P; exact P.elim
  | some s =>
    have h := R.slot i s q
    cases s with
    | no => simp only [q] at P; exact P.elim
    | fz d =>
      simp only [q] at P
      obtain ⟨_, v, e1, e2⟩ := h
      exact ⟨v, join_some e1, P v H Fz F (Same.refl _) R e2⟩
    | ol xs =>
      simp only [q] at P
      obtain ⟨a, vs, g, e1, _⟩ := h
      exact ⟨_, join_some e1, P _ H Fz F (Same.refl _) R (join_some e1)⟩
    | od kvs =>
      simp only [q] at P
      obtain ⟨a, e1, _⟩ := h
      exact ⟨_, join_some e1, P _ H Fz F (Same.refl _) R (join_some e1)⟩
    | al x j =>
      simp only [q] at P
      obtain ⟨_, a, c, vs, _, _, _, e1⟩ := h
      exact ⟨_, join_some e1, P _ H Fz F (Same.refl _) R (join_some e1)⟩
theorem se_var (i : Nat) {x : Str} (hN : X.N[i]? = some x := by rfl) (hv : Vis X.env.scope x := by first | exact Or.inl rfl | exact Or.inr (Or.inl rfl) | exact Or.inr (Or.inr rfl)) (hd : (x == ("__debug__" : Str)) = false := by decide)
    (hcd : (x == ("__classdict__" : Str)) = false := by decide) : SE X W pin (.Name x pos) (sVar i) := pe_mono (pe_var hN hv hd hcd) fun σ H Q ⟨b, Fz, F, δ, hp, R, P⟩ => post_var R P
end
def s2 (g : AV → AV → List Sl → Rs AV) (fa fb : List Sl → Rs AV) : List Sl → Rs AV := fun δ => (sSt fa δ).bind fun x δ1 => (sSt fb δ1).bind fun y δ2 => g x y δ2
def s1 (g : AV → List Sl → Rs AV) (fa : List Sl → Rs AV) : List Sl → Rs AV := fun δ => (sSt fa δ).bind fun x δ1 => g x δ1
section
variable (K : PySem.W.Frag) (mg : Str → Option Value) (W : WX) (pin : List Nat)
def V2 (r : R2) (g : AV → AV → List Sl → Rs AV) : Prop := ∀ b Fz F δ σ H v w x y Q, b.pin = pin → Rl K b Fz F δ σ H → AvS K Fz σ v x → AvS K Fz σ w y → Post K mg W b Fz σ Q (g x y δ) → r v w H Q
def V1 (r : V → Hp → VK → Prop) (g : AV → List Sl → Rs AV) : Prop := ∀ b Fz F δ σ H v x Q, b.pin = pin → Rl K b Fz F δ σ H → AvS K Fz σ v x → Post K mg W b Fz σ Q (g x δ) → r v H Q
end
section
variable {X : Cx} {W : WX} {pin : List Nat} {fa fb : List Sl → Rs AV}
theorem sSt_notmp (f : List Sl → Rs AV) (δ : List Sl) (s : Sl) (δ' : List Sl) : sSt f δ ≠ .ok (.tmp s) δ' := by
  unfold sSt
  cases q : f δ with
  | bad => exact fun z => nomatch z
  | er x δ' => exact fun z => nomatch z
  | ok a δ2 =>
    cases a with
    | val d => exact fun z => nomatch z
    | ref i => exact fun z => nomatch z
    | tmp t =>
      cases q2 : t.tree with
      | none => simp only [q2]; exact fun z => nomatch z
      | some d => simp only [q2]; exact fun z => nomatch z
/-- behind one stable operand -/
theorem rd_bind {K : PySem.W.Frag} {mg : Str → Option Value} {σ : L2.St} {H : Hp} {b : Bk} {Fz : Hp} {F : Nat → List Addr} {δ : List Sl} {k : AV → List Sl → Rs AV} {Q R : VK} (hp : b.pin = pin) (Rr : Rl K b Fz F δ σ H) (P : Post K mg W b Fz σ Q ((sSt fa δ).bind k))
    (h : ∀ v H' Fz' F' x δ', Same Fz Fz' → Rl K b Fz' F' δ' σ H' → AvS K Fz' σ v x → Post K mg W b Fz' σ Q (k x δ') → R v H') : rdE K mg W pin (sSt fa) σ H R := by
  refine ⟨b, Fz, F, δ, hp, Rr, ?_⟩
  cases q : sSt fa δ with
  | bad => rw [q] at P; exact P
  | er x δ' => rw [q] at P; exact P
  | ok a δ' =>
    rw [q] at P
    intro v H' Fz' F' s R' A
    cases a with
    | tmp t => exact absurd q (sSt_notmp _ _ _ _)
    | val d => exact h v H' Fz' F' (.val d) δ' s R' A (Post.le s P)
    | ref i => exact h v H' Fz' F' (.ref i) δ' s R' A (Post.le s P)
theorem t2_ok {a c : Expr} {g : AV → AV → List Sl → Rs AV} {r : R2} (hv : V2 X.K X.mg W pin r g) : ∀ σ H Q, rdE X.K X.mg W pin (s2 g fa fb) σ H Q → tOp r (rdE X.K X.mg W pin (sSt fa)) (rdE X.K X.mg W pin (sSt fb)) σ H Q := fun σ H Q ⟨b, Fz, F, δ, hp, R, P⟩ => by
  refine rd_bind hp R P fun v H1 Fz1 F1 x δ1 s1 R1 A1 P1 => ?_
  refine rd_bind hp R1 P1 fun w H2 Fz2 F2 y δ2 s2 R2 A2 P2 => ?_
  exact hv b Fz2 F2 δ2 σ H2 v w x y Q hp R2 (A1.le s2) A2 P2
theorem t1_ok {g : AV → List Sl → Rs AV} {r : V → Hp → VK → Prop} (hv : V1 X.K X.mg W pin r g) : ∀ σ H Q, rdE X.K X.mg W pin (s1 g fa) σ H Q → tUn r (rdE X.K X.mg W pin (sSt fa)) σ H Q := fun σ H Q ⟨b, Fz, F, δ, hp, R, P⟩ => by
  refine rd_bind hp R P fun v H1 Fz1 F1 x δ1 s1 R1 A1 P1 => ?_
  exact hv b Fz1 F1 δ1 σ H1 v x Q hp R1 A1 P1
theorem se_bin {a c : Expr} {op : Operator} {pos : Pos} {g : AV → AV → List Sl → Rs AV} {r : R2} (ho : OpR X (binaryOp op) r) (hv : V2 X.K X.mg W pin r g) (ha : SE X W pin a fa) (hb : SE X W pin c fb) : SE X W pin (.BinOp a op c pos) (s2 g fa fb) :=
  pe_mono (pe_op ho (se_st ha) (se_st hb)) (t2_ok (a := a) (c := c) hv)
theorem se_cmp {a c : Expr} {op : CmpOp} {pos : Pos} {g : AV → AV → List Sl → Rs AV} {r : R2} (ho : OpR X (compareOp op) r) (hv : V2 X.K X.mg W pin r g) (ha : SE X W pin a fa) (hb : SE X W pin c fb) (hm : behindInMarks op c = false) : SE X W pin (.Compare a [op] [c] pos) (s2 g fa fb) :=
  pe_mono (pe_cmpR ho (se_st ha) (se_st hb) hm) (t2_ok (a := a) (c := c) hv)
theorem se_un {a : Expr} {op : UnaryOp} {pos : Pos} {g : AV → List Sl → Rs AV} {r : V → Hp → VK → Prop} (ho : UnR X (unaryOp op) r) (hv : V1 X.K X.mg W pin r g) (ha : SE X W pin a fa) : SE X W pin (.UnaryOp op a pos) (s1 g fa) :=
  pe_mono (pe_un ho (se_st ha)) (t1_ok hv)
/-- a test by a comparison -/
def sTst (f : List Sl → Rs AV) : List Sl → Rs Bool := fun δ => (f δ).bind fun a δ' => match a with
  | .val (.bool k) => .ok k δ'
  | _ => .bad
theorem tst_ok {K : PySem.W.Frag} {mg : Str → Option Value} {f : List Sl → Rs AV} : ∀ σ H Q, rdT K mg W pin (sTst f) σ H Q → rdE K mg W pin f σ H (fun x H' => ∃ k, x = .bl k ∧ Q k H') := fun σ H Q ⟨b, Fz, F, δ, hp, R, P⟩ => by
  refine ⟨b, Fz, F, δ, hp, R, ?_⟩
  unfold sTst at P
  cases q : f δ with
  | bad => rw [q] at P; exact P
  | er x δ' => rw [q] at P; exact P
  | ok a δ' =>
    rw [q] at P
    cases a with
    | tmp s => exact P.elim
    | ref i => exact P.elim
    | val d =>
      cases d with
      | bool k =>
        intro v H' Fz' F' s R' A
        cases (show Rp K Fz' v (.bool k) from A)
        exact ⟨k, rfl, P H' Fz' F' s R'⟩
      | _ => exact P.elim
theorem st_cmp {a c : Expr} {op : CmpOp} {pos : Pos} {g : AV → AV → List Sl → Rs AV} {r : R2} (ho : OpR X (compareOp op) r) (hv : V2 X.K X.mg W pin r g) (ha : SE X W pin a fa) (hb : SE X W pin c fb) (hm : behindInMarks op c = false) : ST X W pin (.Compare a [op] [c] pos) (sTst (s2 g fa fb)) :=
  pt_mono (pt_cmpR ho (se_st ha) (se_st hb) hm) fun σ H Q h => t2_ok (a := a) (c := c) hv σ H _ (tst_ok σ H Q h)
def truD : PyData → Option Bool
  | .none => some false
  | .bool b => some b
  | .int i => some (i != 0)
  | .list ds => some !ds.isEmpty
  | .tuple ds => some !ds.isEmpty
  | _ => none
theorem RpL.isEmpty {K : PySem.W.Frag} {H : Hp} {vs : List V} {ds : List PyData} (h : RpL K H vs ds) : vs.isEmpty = ds.isEmpty := by
  cases h <;> rfl
theorem truD_ok {K : PySem.W.Frag} {H : Hp} {v : V} {d : PyData} {k : Bool} (r : Rp K H v d) (h : truD d = some k) : TruV K v H k := by
  cases r with
  | non => cases h; rfl
  | bl b => cases h; rfl
  | int i => cases h; rfl
  | str x => cases h
  | lst h1 h2 => cases h; exact .inl ⟨_, h1.sq, by rw [h2.isEmpty]⟩
  | tup h1 h2 => cases h; exact .inr (.inl ⟨_, SqT.of h1, by rw [h2.isEmpty]⟩)
  | dK h1 h2 => cases h
  | dT h1 h2 => cases h
def sTru (f : List Sl → Rs AV) : List Sl → Rs Bool := fun δ => (sSt f δ).bind fun a δ' => match (rdA δ' a).bind truD with
  | some k => .ok k δ'
  | none => .bad
theorem rd_bindT {K : PySem.W.Frag} {mg : Str → Option Value} {σ : L2.St} {H : Hp} {b : Bk} {Fz : Hp} {F : Nat → List Addr} {δ : List Sl} {k : AV → List Sl → Rs Bool} {Q : Bool → Hp → Prop} {R : VK} (hp : b.pin = pin) (Rr : Rl K b Fz F δ σ H) (P : PostT K mg W b Fz σ Q ((sSt fa δ).bind k))
    (h : ∀ v H' Fz' F' x δ', Same Fz Fz' → Rl K b Fz' F' δ' σ H' → AvS K Fz' σ v x → PostT K mg W b Fz' σ Q (k x δ') → R v H') : rdE K mg W pin (sSt fa) σ H R := by
  refine ⟨b, Fz, F, δ, hp, Rr, ?_⟩
  cases q : sSt fa δ with
  | bad => rw [q] at P; exact P
  | er x δ' => rw [q] at P; exact P
  | ok a δ' =>
    rw [q] at P
    intro v H' Fz' F' s R' A
    cases a with
    | tmp t => exact absurd q (sSt_notmp _ _ _ _)
    | val d => exact h v H' Fz' F' (.val d) δ' s R' A (PostT.le s P)
    | ref i => exact h v H' Fz' F' (.ref i) δ' s R' A (PostT.le s P)
theorem tru_mono {K : PySem.W.Frag} {mg : Str → Option Value} : ∀ σ H Q, rdT K mg W pin (sTru fa) σ H Q → rdE K mg W pin (sSt fa) σ H fun x H' => ∃ k, TruV K x H' k ∧ Q k H' := fun σ H Q ⟨b, Fz, F, δ, hp, R, P⟩ => by
  refine rd_bindT hp R P fun v H1 Fz1 F1 x δ1 s1 R1 A1 P1 => ?_
  cases q : rdA δ1 x with
  | none => simp only [q, Option.bind_none] at P1; exact P1.elim
  | some d =>
    cases q2 : truD d with
    | none => simp only [q, Option.bind_some, q2] at P1; exact P1.elim
    | some k =>
      simp only [q, Option.bind_some, q2] at P1
      exact ⟨k, truD_ok (rdA_ok R1 A1 q) q2, P1 H1 Fz1 F1 (Same.refl _) R1⟩
theorem st_tru {a : Expr} (ha : SE X W pin a fa) (he : ∀ whole, isTrue a X.env whole = (do let v ← whole; standAt a.pos; holding [v] (truthy v)) := by intro _; rfl) : ST X W pin a (sTru fa) :=
  pt_mono (pt_truth (se_st ha) he) fun σ H Q h => tru_mono σ H Q h
def sNot (t : List Sl → Rs Bool) : List Sl → Rs Bool := fun δ => (t δ).bind fun k δ' => .ok (!k) δ'
def sAnd (t u : List Sl → Rs Bool) : List Sl → Rs Bool := fun δ => (t δ).bind fun k δ' => if k = true then u δ' else .ok false δ'
def sOr (t u : List Sl → Rs Bool) : List Sl → Rs Bool := fun δ => (t δ).bind fun k δ' => if k = true then .ok true δ' else u δ'
def sIf (t : List Sl → Rs Bool) (f g : List Sl → Rs AV) : List Sl → Rs AV := fun δ => (t δ).bind fun k δ' => if k = true then f δ' else g δ'
section
variable {K : PySem.W.Frag} {mg : Str → Option Value} {σ : L2.St} {H : Hp} {b : Bk} {Fz : Hp} {F : Nat → List Addr} {δ : List Sl} {t : List Sl → Rs Bool}
theorem rdT_bind {k : Bool → List Sl → Rs Bool} {Q : Bool → Hp → Prop} {R : Bool → Hp → Prop} (hp : b.pin = pin) (Rr : Rl K b Fz F δ σ H) (P : PostT K mg W b Fz σ Q ((t δ).bind k))
    (h : ∀ c H' Fz' F' δ', Same Fz Fz' → Rl K b Fz' F' δ' σ H' → PostT K mg W b Fz' σ Q (k c δ') → R c H') : rdT K mg W pin t σ H R := by
  refine ⟨b, Fz, F, δ, hp, Rr, ?_⟩
  cases q : t δ with
  | bad => rw [q] at P; exact P
  | er x δ' => rw [q] at P; exact P
  | ok a δ' =>
    rw [q] at P
    exact fun H' Fz' F' s R' => h a H' Fz' F' δ' s R' (PostT.le s P)
theorem rdT_bindE {k : Bool → List Sl → Rs AV} {Q : VK} {R : Bool → Hp → Prop} (hp : b.pin = pin) (Rr : Rl K b Fz F δ σ H) (P : Post K mg W b Fz σ Q ((t δ).bind k))
    (h : ∀ c H' Fz' F' δ', Same Fz Fz' → Rl K b Fz' F' δ' σ H' → Post K mg W b Fz' σ Q (k c δ') → R c H') : rdT K mg W pin t σ H R := by
  refine ⟨b, Fz, F, δ, hp, Rr, ?_⟩
  cases q : t δ with
  | bad => rw [q] at P; exact P
  | er x δ' => rw [q] at P; exact P
  | ok a δ' =>
    rw [q] at P
    exact fun H' Fz' F' s R' => h a H' Fz' F' δ' s R' (Post.le s P)
end
variable {a c d : Expr} {rest : List Expr} {pos : Pos} {t u : List Sl → Rs Bool} {f g : List Sl → Rs AV}
theorem st_not (h : ST X W pin a t) : ST X W pin (.UnaryOp .Not a pos) (sNot t) := pt_mono (pt_not h) fun σ H Q ⟨b, Fz, F, δ, hp, R, P⟩ =>
  rdT_bind hp R P fun c H' Fz' F' δ' s R' P' => P' H' Fz' F' (Same.refl _) R'
abbrev SW (X : Cx) (W : WX) (pin : List Nat) (e : Expr) (f : List Sl → Rs Bool) : Prop := PW X e (rdT X.K X.mg W pin f)
theorem pw_mono {e : Expr} {t t' : TT} (h : PW X e t) (i : ∀ σ H Q, t' σ H Q → t σ H Q) : PW X e t' := ⟨fun wh pins s σ H Q I q => h.run wh pins s σ H Q I (i σ H Q q)⟩
theorem sw_and1 (h : ST X W pin a t) : SW X W pin (.BoolOp .And [a] pos) t := pw_and1 h
theorem sw_or1 (h : ST X W pin a t) : SW X W pin (.BoolOp .Or [a] pos) t := pw_or1 h
theorem sw_and (h : ST X W pin a t) (h2 : SW X W pin (.BoolOp .And (c :: rest) pos) u) : SW X W pin (.BoolOp .And (a :: c :: rest) pos) (sAnd t u) := pw_mono (pw_and h h2) fun σ H Q ⟨b, Fz, F, δ, hp, R, P⟩ =>
  rdT_bind hp R P fun k H' Fz' F' δ' s R' P' => by
    by_cases e : k = true
    · rw [if_pos e] at P' ⊢
      exact ⟨b, Fz', F', δ', hp, R', P'⟩
    · rw [if_neg e] at P' ⊢
      exact P' H' Fz' F' (Same.refl _) R'
theorem sw_or (h : ST X W pin a t) (h2 : SW X W pin (.BoolOp .Or (c :: rest) pos) u) : SW X W pin (.BoolOp .Or (a :: c :: rest) pos) (sOr t u) := pw_mono (pw_or h h2) fun σ H Q ⟨b, Fz, F, δ, hp, R, P⟩ =>
  rdT_bind hp R P fun k H' Fz' F' δ' s R' P' => by
    by_cases e : k = true
    · rw [if_pos e] at P' ⊢
      exact P' H' Fz' F' (Same.refl _) R'
    · rw [if_neg e] at P' ⊢
      exact ⟨b, Fz', F', δ', hp, R', P'⟩
theorem st_w (h : SW X W pin a t) : ST X W pin a t := h.pt
theorem se_if (hc : ST X W pin a t) (ha : SE X W pin c f) (hb : SE X W pin d g) : SE X W pin (.IfExp a c d pos) (sIf t f g) := pe_mono (pe_ifExp hc ha hb) fun σ H Q ⟨b, Fz, F, δ, hp, R, P⟩ =>
  rdT_bindE hp R P fun k H' Fz' F' δ' s R' P' => by
    by_cases e : k = true
    · rw [if_pos e] at P' ⊢
      exact ⟨b, Fz', F', δ', hp, R', P'⟩
    · rw [if_neg e] at P' ⊢
      exact ⟨b, Fz', F', δ', hp, R', P'⟩
/-- and, or, not as values: the value's truth decides -/
def sAndV (f g : List Sl → Rs AV) : List Sl → Rs AV := fun δ => (sSt f δ).bind fun a δ' => match (rdA δ' a).bind truD with
  | some k => if k = true then g δ' else .ok a δ'
  | none => .bad
def sOrV (f g : List Sl → Rs AV) : List Sl → Rs AV := fun δ => (sSt f δ).bind fun a δ' => match (rdA δ' a).bind truD with
  | some k => if k = true then .ok a δ' else g δ'
  | none => .bad
theorem se_and (ha : SE X W pin a f) (hb : SE X W pin (.BoolOp .And (c :: rest) pos) g) : SE X W pin (.BoolOp .And (a :: c :: rest) pos) (sAndV f g) := pe_mono (pe_andT (se_st ha) hb) fun σ H Q ⟨b, Fz, F, δ, hp, R, P⟩ =>
  rd_bind hp R P fun v H1 Fz1 F1 x δ1 s1 R1 A1 P1 => by
    cases q : rdA δ1 x with
    | none => simp only [q, Option.bind_none] at P1; exact P1.elim
    | some d =>
      cases q2 : truD d with
      | none => simp only [q, Option.bind_some, q2] at P1; exact P1.elim
      | some k =>
        simp only [q, Option.bind_some, q2] at P1
        refine ⟨k, truD_ok (rdA_ok R1 A1 q) q2, ?_⟩
        by_cases e : k = true
        · rw [if_pos e] at P1 ⊢
          exact ⟨b, Fz1, F1, δ1, hp, R1, P1⟩
        · rw [if_neg e] at P1 ⊢
          exact P1 v H1 Fz1 F1 (Same.refl _) R1 (AvR.of A1)
theorem se_or (ha : SE X W pin a f) (hb : SE X W pin (.BoolOp .Or (c :: rest) pos) g) : SE X W pin (.BoolOp .Or (a :: c :: rest) pos) (sOrV f g) := pe_mono (pe_orT (se_st ha) hb) fun σ H Q ⟨b, Fz, F, δ, hp, R, P⟩ =>
  rd_bind hp R P fun v H1 Fz1 F1 x δ1 s1 R1 A1 P1 => by
    cases q : rdA δ1 x with
    | none => simp only [q, Option.bind_none] at P1; exact P1.elim
    | some d =>
      cases q2 : truD d with
      | none => simp only [q, Option.bind_some, q2] at P1; exact P1.elim
      | some k =>
        simp only [q, Option.bind_some, q2] at P1
        refine ⟨k, truD_ok (rdA_ok R1 A1 q) q2, ?_⟩
        by_cases e : k = true
        · rw [if_pos e] at P1 ⊢
          exact P1 v H1 Fz1 F1 (Same.refl _) R1 (AvR.of A1)
        · rw [if_neg e] at P1 ⊢
          exact ⟨b, Fz1, F1, δ1, hp, R1, P1⟩
theorem se_oneO (ha : SE X W pin a f) : SE X W pin (.BoolOp .Or [a] pos) f := ha_one ha
where ha_one {X : Cx} {W : WX} {pin : List Nat} {a : Expr} {f : List Sl → Rs AV} {pos : Pos} (ha : SE X W pin a f) : SE X W pin (.BoolOp .Or [a] pos) f := pe_one ha
theorem se_oneA (ha : SE X W pin a f) : SE X W pin (.BoolOp .And [a] pos) f := pe_one ha
end
end Hb
namespace Hb
open PySem PySem.Spec PyProof.Rows L2
abbrev cap : Nat := 1000000
theorem cap_line : cap + cap < sizeLine := by rw [sizeLine_eq]; decide
theorem le_line {n : Nat} (h : n ≤ cap) : n ≤ sizeLine := Nat.le_trans h (by rw [sizeLine_eq]; decide)
theorem lt_line {n : Nat} (h : n ≤ cap) : n < sizeLine := Nat.lt_of_le_of_lt h (by rw [sizeLine_eq]; decide)
def gI (C : Int → Int → Bool) (g : Int → Int → Int) (x y : AV) (δ : List Sl) : Rs AV := match rdC δ x, rdC δ y with
  | some (.int i), some (.int j) => if C i j = true then .ok (.val (.int (g i j))) δ else .bad
  | _, _ => .bad
def gB (g : Int → Int → Bool) (x y : AV) (δ : List Sl) : Rs AV := match rdC δ x, rdC δ y with
  | some (.int i), some (.int j) => .ok (.val (.bool (g i j))) δ
  | _, _ => .bad
def gNeg (x : AV) (δ : List Sl) : Rs AV := match rdC δ x with
  | some (.int i) => .ok (.val (.int (-i))) δ
  | _ => .bad
theorem rpc_int {K : PySem.W.Frag} {Fz H : Hp} {v : V} {i : Int} (h : RpC K Fz H v (.int i)) : v = .int i := by
  rcases h with h | ⟨a, vs, ds, e1, e2, _⟩
  · cases h; rfl
  · cases e2
theorem rpc_str {K : PySem.W.Frag} {Fz H : Hp} {v : V} {i : Str} (h : RpC K Fz H v (.str i)) : v = .str i := by
  rcases h with h | ⟨a, vs, ds, e1, e2, _⟩
  · cases h; rfl
  · cases e2
section
variable {K : PySem.W.Frag} {mg : Str → Option Value} {W : WX} {pin : List Nat}
theorem v2_i {C : Int → Int → Bool} {C' : Int → Int → Prop} {g : Int → Int → Int} (hC : ∀ i j, C i j = true → C' i j) : V2 K mg W pin (rI C' fun i j => .int (g i j)) (gI C g) := by
  intro b Fz F δ σ H v w x y Q hp R A B P
  unfold gI at P
  cases q1 : rdC δ x with
  | none => simp only [q1] at P; exact P.elim
  | some d =>
    cases q2 : rdC δ y with
    | none => cases d <;> (simp only [q1, q2] at P; exact P.elim)
    | some e =>
      cases d with
      | int i =>
        cases e with
        | int j =>
          simp only [q1, q2] at P
          by_cases c : C i j = true
          · rw [if_pos c] at P
            exact ⟨i, j, rpc_int (rdC_ok R A q1), rpc_int (rdC_ok R B q2), hC i j c, P _ H Fz F (Same.refl _) R (.int _)⟩
          · rw [if_neg c] at P
            exact P.elim
        | _ => simp only [q1, q2] at P; exact P.elim
      | _ => simp only [q1, q2] at P; exact P.elim
theorem v2_i0 {C : Int → Int → Bool} {g : Int → Int → Int} : V2 K mg W pin (rI0 fun i j => .int (g i j)) (gI C g) := by
  intro b Fz F δ σ H v w x y Q hp R A B P
  obtain ⟨i, j, h1, h2, _, q⟩ := v2_i (K := K) (mg := mg) (W := W) (C' := fun _ _ => True) (fun _ _ _ => trivial) b Fz F δ σ H v w x y Q hp R A B P
  exact ⟨i, j, h1, h2, q⟩
theorem v2_b {g : Int → Int → Bool} : V2 K mg W pin (rI0 fun i j => .bl (g i j)) (gB g) := by
  intro b Fz F δ σ H v w x y Q hp R A B P
  unfold gB at P
  cases q1 : rdC δ x with
  | none => simp only [q1] at P; exact P.elim
  | some d =>
    cases q2 : rdC δ y with
    | none => cases d <;> (simp only [q1, q2] at P; exact P.elim)
    | some e =>
      cases d with
      | int i =>
        cases e with
        | int j =>
          simp only [q1, q2] at P
          exact ⟨i, j, rpc_int (rdC_ok R A q1), rpc_int (rdC_ok R B q2), P _ H Fz F (Same.refl _) R (.bl _)⟩
        | _ => simp only [q1, q2] at P; exact P.elim
      | _ => simp only [q1, q2] at P; exact P.elim
theorem v1_neg : V1 K mg W pin (rU fun i => .int (-i)) gNeg := by
  intro b Fz F δ σ H v x Q hp R A P
  unfold gNeg at P
  cases q1 : rdC δ x with
  | none => simp only [q1] at P; exact P.elim
  | some d =>
    cases d with
    | int i =>
      simp only [q1] at P
      exact ⟨i, rpc_int (rdC_ok R A q1), P _ H Fz F (Same.refl _) R (.int _)⟩
    | _ => simp only [q1] at P; exact P.elim
end
def yes2 : Int → Int → Bool := fun _ _ => true
abbrev gSub := gI yes2 (· - ·)
abbrev gMod := gI (fun _ j => decide (0 < j)) (· % ·)
abbrev gLt := gB fun i j => decide (i < j)
abbrev gLe := gB fun i j => decide (i ≤ j)
abbrev gGe := gB fun i j => decide (j ≤ i)
section
variable {X : Cx} {W : WX} {pin : List Nat} {fa fb : List Sl → Rs AV} {a c : Expr} {pos : Pos}
theorem se_sub (ha : SE X W pin a fa) (hb : SE X W pin c fb) : SE X W pin (.BinOp a .Sub c pos) (s2 gSub fa fb) := se_bin op_sub v2_i0 ha hb
theorem se_mod (ha : SE X W pin a fa) (hb : SE X W pin c fb) : SE X W pin (.BinOp a .Mod c pos) (s2 gMod fa fb) := se_bin op_mod (v2_i fun _ _ h => of_decide_eq_true h) ha hb
theorem se_neg (ha : SE X W pin a fa) : SE X W pin (.UnaryOp .USub a pos) (s1 gNeg fa) := se_un un_neg v1_neg ha
theorem se_lt (ha : SE X W pin a fa) (hb : SE X W pin c fb) : SE X W pin (.Compare a [.Lt] [c] pos) (s2 gLt fa fb) := se_cmp op_lt v2_b ha hb (nomark _)
theorem se_le (ha : SE X W pin a fa) (hb : SE X W pin c fb) : SE X W pin (.Compare a [.LtE] [c] pos) (s2 gLe fa fb) := se_cmp op_le v2_b ha hb (nomark _)
theorem st_lt (ha : SE X W pin a fa) (hb : SE X W pin c fb) : ST X W pin (.Compare a [.Lt] [c] pos) (sTst (s2 gLt fa fb)) := st_cmp op_lt v2_b ha hb (nomark _)
theorem st_ge (ha : SE X W pin a fa) (hb : SE X W pin c fb) : ST X W pin (.Compare a [.GtE] [c] pos) (sTst (s2 gGe fa fb)) := st_cmp op_ge v2_b ha hb (nomark _)
end
def rCatX (K : PySem.W.Frag) : R2 := fun x y H Q => ∃ l b xs zs, x = .ref l ∧ y = .ref b ∧ SqX K H l xs ∧ SqX K H b zs ∧ xs.length + zs.length ≤ sizeLine ∧ ∀ p, H p = none → Q (.ref p) (upd H p (.lst (xs ++ zs)))
theorem op_catX {X : Cx} : OpR X (binaryOp .Add) (rCatX X.K) := by
  intro pins s σ H x y v u Q I rx ry h
  obtain ⟨l, b, xs, zs, e1, e2, hX, hZ, hz, q⟩ := h
  subst e1 e2
  cases rx
  cases ry
  obtain ⟨i1, n1, r1, g1, z1⟩ := inv_lstX I hX
  obtain ⟨i2, n2, r2, g2, z2⟩ := inv_lstX I hZ
  have l1 := r1.length
  have l2 := r2.length
  refine PySem.P.add_list g1 g2 ?_ (by rw [List.size_toArray, List.size_toArray, ← l1, ← l2]; exact hz)
  rw [show i1.toArray ++ i2.toArray = (i1 ++ i2).toArray by simp]
  exact ⟨.ref _, _, I.lnew (t' := s.toks) (r1.append r2) (by rw [List.length_append]; exact hz), rfl, q _ I.fresh⟩
def rStrCat : R2 := fun x y H Q => ∃ i j, x = .str i ∧ y = .str j ∧ i.length + j.length ≤ sizeLine ∧ Q (.str (i ++ j)) H
def rAddU (K : PySem.W.Frag) : R2 := fun x y H Q => ((rI0 (fun i j => .int (i + j)) x y H Q ∨ rCatX K x y H Q) ∨ rStrCat x y H Q) ∨ rCatA K x y H Q
theorem op_addU {X : Cx} : OpR X (binaryOp .Add) (rAddU X.K) := OpR.or (OpR.or (OpR.or op_add op_catX) op_add_str) op_catA
def gAdd (x y : AV) (δ : List Sl) : Rs AV := match rdC δ x, rdC δ y with
  | some (.int i), some (.int j) => .ok (.val (.int (i + j))) δ
  | some (.list ds), some (.list es) => if ds.length ≤ cap ∧ es.length ≤ cap then .ok (.tmp (.ol ((ds ++ es).map .fz))) δ else .bad
  | some (.str s), some (.str t) => if s.length ≤ cap ∧ t.length ≤ cap then .ok (.val (.str (s ++ t))) δ else .bad
  | some (.tuple ds), some (.tuple es) => if ds.length ≤ cap ∧ es.length ≤ cap then .ok (.val (.tuple (ds ++ es))) δ else .bad
  | _, _ => .bad
section
variable {K : PySem.W.Frag} {mg : Str → Option Value} {W : WX} {pin : List Nat}
theorem v2_add : V2 K mg W pin (rAddU K) gAdd := by
  intro b Fz F δ σ H v w x y Q hp R A B P
  unfold gAdd at P
  cases q1 : rdC δ x with
  | none => simp only [q1] at P; exact P.elim
  | some d =>
    cases q2 : rdC δ y with
    | none => cases d <;> (simp only [q1, q2] at P; exact P.elim)
    | some e =>
      have h1 := rdC_ok R A q1
      have h2 := rdC_ok R B q2
      have cl := cap_line
      cases d with
      | int i =>
        cases e with
        | int j =>
          simp only [q1, q2] at P
          exact .inl (.inl (.inl ⟨i, j, rpc_int h1, rpc_int h2, P _ H Fz F (Same.refl _) R (.int _)⟩))
        | _ => simp only [q1, q2] at P; exact P.elim
      | str i =>
        cases e with
        | str j =>
          simp only [q1, q2] at P
          by_cases c : i.length ≤ cap ∧ j.length ≤ cap
          · rw [if_pos c] at P
            exact .inl (.inr ⟨i, j, rpc_str h1, rpc_str h2, by omega, P _ H Fz F (Same.refl _) R (.str _)⟩)
          · rw [if_neg c] at P; exact P.elim
        | _ => simp only [q1, q2] at P; exact P.elim
      | list ds =>
        cases e with
        | list es =>
          simp only [q1, q2] at P
          by_cases c : ds.length ≤ cap ∧ es.length ≤ cap
          · rw [if_pos c] at P
            obtain ⟨a1, v1, e1, s1, r1⟩ := h1.list R.le
            obtain ⟨a2, v2, e2, s2, r2⟩ := h2.list R.le
            have l1 := r1.len
            have l2 := r2.len
            exact .inl (.inl (.inr ⟨a1, a2, v1, v2, e1, e2, s1, s2, by omega, post_newL R (r1.append r2) P⟩))
          · rw [if_neg c] at P; exact P.elim
        | _ => simp only [q1, q2] at P; exact P.elim
      | tuple ds =>
        cases e with
        | tuple es =>
          simp only [q1, q2] at P
          by_cases c : ds.length ≤ cap ∧ es.length ≤ cap
          · rw [if_pos c] at P
            have k1 : Rp K Fz v (.tuple ds) := by
              rcases h1 with h | ⟨_, _, _, _, e2, _⟩
              · exact h
              · cases e2
            have k2 : Rp K Fz w (.tuple es) := by
              rcases h2 with h | ⟨_, _, _, _, e2, _⟩
              · exact h
              · cases e2
            obtain ⟨a1, v1, e1, s1, r1⟩ := h1.tup R.le
            obtain ⟨a2, v2, e2, s2, r2⟩ := h2.tup R.le
            have l1 := r1.len
            have l2 := r2.len
            refine .inr ⟨a1, a2, v1, v2, e1, e2, s1, s2, by omega, fun z => ?_, fun _ z => ?_, fun _ _ => post_newT R (r1.append r2) P⟩
            · subst z
              cases r1
              rw [← e2]
              exact P w H Fz F (Same.refl _) R k2
            · subst z
              cases r2
              rw [← e1]
              rw [List.append_nil] at P
              exact P v H Fz F (Same.refl _) R k1
          · rw [if_neg c] at P; exact P.elim
        | _ => simp only [q1, q2] at P; exact P.elim
      | _ => simp only [q1, q2] at P; exact P.elim
end
theorem se_add {X : Cx} {W : WX} {pin : List Nat} {fa fb : List Sl → Rs AV} {a c : Expr} {pos : Pos} (ha : SE X W pin a fa) (hb : SE X W pin c fb) : SE X W pin (.BinOp a .Add c pos) (s2 gAdd fa fb) := se_bin op_addU v2_add ha hb
mutual
theorem Rp.dp {K : PySem.W.Frag} {H : Hp} : ∀ {v : V} {d : PyData}, Rp K H v d → d.canLay0 = true → Dp K H v d
  | _, _, .non, _ => .non
  | _, _, .bl b, _ => .bl b
  | _, _, .int i, _ => .int i
  | _, _, .str x, _ => .str x
  | _, _, .lst (ds := ds) h1 h2, c => .lst h1.sq (RpL.dp h2 (by rw [PyData.canLay0] at c; exact c))
  | _, _, .tup (ds := ds) h1 h2, c => .tup (SqT.of h1) (RpL.dp h2 (by rw [PyData.canLay0] at c; exact c))
  | _, _, .dK h1 h2, c => by rw [PyData.canLay0] at c; cases c
  | _, _, .dT h1 h2, c => by rw [PyData.canLay0] at c; cases c
theorem RpL.dp {K : PySem.W.Frag} {H : Hp} : ∀ {vs : List V} {ds : List PyData}, RpL K H vs ds → PyData.canLayAll0 ds = true → DpAll K H vs ds
  | _, _, .nil, _ => .nil
  | _, _, .cons h t, c => by
    rw [PyData.canLayAll0, Bool.and_eq_true] at c
    exact .cons (Rp.dp h c.1) (RpL.dp t c.2)
end
theorem rp_dp {K : PySem.W.Frag} {H : Hp} {v : V} {d : PyData} (h : Rp K H v d) (c : SeqAt.shaped d = true) : Dp K H v d := h.dp (SeqAt.canLay_of_shaped c)
def eqD (d e : PyData) : Option Bool := if SeqAt.shaped d = true ∧ SeqAt.shaped e = true then some (PyData.eqv d e) else none
def gEq (x y : AV) (δ : List Sl) : Rs AV := match rdA δ x, rdA δ y with
  | some d, some e => (match eqD d e with
    | some k => .ok (.val (.bool k)) δ
    | none => .bad)
  | _, _ => .bad
def gNe (x y : AV) (δ : List Sl) : Rs AV := match rdA δ x, rdA δ y with
  | some d, some e => (match eqD d e with
    | some k => .ok (.val (.bool !k)) δ
    | none => .bad)
  | _, _ => .bad
section
variable {K : PySem.W.Frag} {mg : Str → Option Value} {W : WX} {pin : List Nat}
theorem v2_eq : V2 K mg W pin (rEqD K) gEq := by
  intro b Fz F δ σ H v w x y Q hp R A B P
  unfold gEq at P
  cases q1 : rdA δ x with
  | none => simp only [q1] at P; exact P.elim
  | some d =>
    cases q2 : rdA δ y with
    | none => simp only [q1, q2] at P; exact P.elim
    | some e =>
      simp only [q1, q2, eqD] at P
      by_cases c : SeqAt.shaped d = true ∧ SeqAt.shaped e = true
      · simp only [if_pos c] at P
        exact ⟨d, e, rp_dp (rdA_ok R A q1) c.1, rp_dp (rdA_ok R B q2) c.2, c.1, c.2, P _ H Fz F (Same.refl _) R (.bl _)⟩
      · simp only [if_neg c] at P
        exact P.elim
theorem v2_ne : V2 K mg W pin (rNeD K) gNe := by
  intro b Fz F δ σ H v w x y Q hp R A B P
  unfold gNe at P
  cases q1 : rdA δ x with
  | none => simp only [q1] at P; exact P.elim
  | some d =>
    cases q2 : rdA δ y with
    | none => simp only [q1, q2] at P; exact P.elim
    | some e =>
      simp only [q1, q2, eqD] at P
      by_cases c : SeqAt.shaped d = true ∧ SeqAt.shaped e = true
      · simp only [if_pos c] at P
        exact ⟨d, e, rp_dp (rdA_ok R A q1) c.1, rp_dp (rdA_ok R B q2) c.2, c.1, c.2, P _ H Fz F (Same.refl _) R (.bl _)⟩
      · simp only [if_neg c] at P
        exact P.elim
end
def flatD : PyData → Bool
  | .none | .bool _ | .int _ | .str _ => true
  | _ => false
def rIsU : R2 := fun x y H Q => (y = .non ∧ Q (.bl (decide (x = .non))) H) ∨ rIsB x y H Q
theorem op_isU {X : Cx} : OpR X (compareOp .Is) rIsU := OpR.or op_isN op_isBl
def isD : PyData → PyData → Option Bool
  | .none, .none => some true
  | _, .none => some false
  | .bool a, .bool b => some (a == b)
  | _, _ => none
def gIs (n : Bool) (x y : AV) (δ : List Sl) : Rs AV := match rdA δ x, rdA δ y with
  | some d, some e => (match isD d e with
    | some k => .ok (.val (.bool (if n = true then !k else k))) δ
    | none => .bad)
  | _, _ => .bad
theorem isD_ok {K : PySem.W.Frag} {H : Hp} {v w : V} {d e : PyData} {k : Bool} (h : Rp K H v d) (h2 : Rp K H w e) (i : isD d e = some k) : (w = .non ∧ k = decide (v = .non)) ∨ ∃ a c : Bool, v = .bl a ∧ w = .bl c ∧ k = decide (a = c) := by
  cases h2 with
  | non =>
    refine .inl ⟨rfl, ?_⟩
    cases h <;> (simp only [isD, Option.some.injEq] at i; subst i; simp)
  | bl c =>
    cases h with
    | bl a =>
      simp only [isD, Option.some.injEq] at i
      subst i
      refine .inr ⟨a, c, rfl, rfl, ?_⟩
      cases a <;> cases c <;> rfl
    | _ => simp [isD] at i
  | _ => cases h <;> simp [isD] at i
theorem v2_is {K : PySem.W.Frag} {mg : Str → Option Value} {W : WX} {pin : List Nat} : V2 K mg W pin rIsU (gIs false) := by
  intro b Fz F δ σ H v w x y Q hp R A B P
  unfold gIs at P
  cases q1 : rdA δ x with
  | none => simp only [q1] at P; exact P.elim
  | some d =>
    cases q2 : rdA δ y with
    | none => simp only [q1, q2] at P; exact P.elim
    | some e =>
      cases q3 : isD d e with
      | none => simp only [q1, q2, q3] at P; exact P.elim
      | some k =>
        simp only [q1, q2, q3] at P
        have q := P (.bl k) H Fz F (Same.refl _) R (.bl _)
        rcases isD_ok (rdA_ok R A q1) (rdA_ok R B q2) q3 with ⟨e1, e2⟩ | ⟨a, c, e1, e2, e3⟩
        · subst e2
          exact .inl ⟨e1, q⟩
        · subst e3
          exact .inr ⟨a, c, e1, e2, q⟩
section
variable {X : Cx} {W : WX} {pin : List Nat} {fa fb : List Sl → Rs AV} {a c : Expr} {pos : Pos}
theorem se_eq (hu : X.A.units + 64 < cLine) (ha : SE X W pin a fa) (hb : SE X W pin c fb) : SE X W pin (.Compare a [.Eq] [c] pos) (s2 gEq fa fb) := se_cmp (op_eqD hu) v2_eq ha hb (nomark _)
theorem st_eq (hu : X.A.units + 64 < cLine) (ha : SE X W pin a fa) (hb : SE X W pin c fb) : ST X W pin (.Compare a [.Eq] [c] pos) (sTst (s2 gEq fa fb)) := st_cmp (op_eqD hu) v2_eq ha hb (nomark _)
theorem st_ne (hu : X.A.units + 64 < cLine) (ha : SE X W pin a fa) (hb : SE X W pin c fb) : ST X W pin (.Compare a [.NotEq] [c] pos) (sTst (s2 gNe fa fb)) := st_cmp (op_neD hu) v2_ne ha hb (nomark _)
theorem se_is (ha : SE X W pin a fa) (hb : SE X W pin c fb) : SE X W pin (.Compare a [.Is] [c] pos) (s2 (gIs false) fa fb) := se_cmp op_isU v2_is ha hb (nomark _)
theorem st_is (ha : SE X W pin a fa) (hb : SE X W pin c fb) : ST X W pin (.Compare a [.Is] [c] pos) (sTst (s2 (gIs false) fa fb)) := st_cmp op_isU v2_is ha hb (nomark _)
end
/-- the item at a place, a tree that stands still -/
def itemD : PyData → PyData → Option PyData
  | .list ds, .int i => atI ds i
  | .tuple ds, .int i => atI ds i
  | _, _ => none
def El.fzd : El → Option PyData
  | .fz d => some d
  | .ow _ => none
def itemA (δ : List Sl) (x : AV) (i : PyData) : Option PyData := match x with
  | .val d => itemD d i
  | .ref k => match δ[k]? with
    | some (.fz d) => itemD d i
    | some (.ol xs) => (match i with
      | .int i => (atI xs i).bind El.fzd
      | _ => none)
    | some (.al x j) => (match δ[x]? with
      | some (.ol xs) => (match xs[j]? with
        | some (.ow ys) => itemD (.list ys) i
        | some (.fz d) => itemD d i
        | none => none)
      | _ => none)
    | _ => none
  | .tmp _ => none
def gIx (x y : AV) (δ : List Sl) : Rs AV := match rdC δ y with
  | some i => (match itemA δ x i with
    | some d => .ok (.val d) δ
    | none => .bad)
  | none => .bad
theorem atI_map {α β : Type} {f : α → β} {xs : List α} {i : Int} : atI (xs.map f) i = (atI xs i).map f := by
  unfold atI
  rw [List.length_map]
  cases ixN xs.length i with
  | none => rfl
  | some j => simp
theorem rpl_at {K : PySem.W.Frag} {H : Hp} {vs : List V} {ds : List PyData} {i : Int} {d : PyData} (h : RpL K H vs ds) (e : atI ds i = some d) : ∃ v, atI vs i = some v ∧ Rp K H v d := by
  unfold atI at e ⊢
  rw [h.len]
  cases q : ixN ds.length i with
  | none => rw [q] at e; cases e
  | some j =>
    rw [q] at e
    exact h.get e
def rIxU (K : PySem.W.Frag) : R2 := fun x y H Q => rIxL K x y H Q ∨ rIxT K x y H Q
theorem ix_U {X : Cx} : IxR X (rIxU X.K) := IxR.or ix_list ix_tup
theorem itemD_ok {K : PySem.W.Frag} {Fz H : Hp} {v w : V} {d i r : PyData} {Q : VK} (le : Same Fz H) (h : RpC K Fz H v d) (h2 : RpC K Fz H w i) (e : itemD d i = some r) (q : ∀ u, Rp K Fz u r → Q u H) : rIxU K v w H Q := by
  cases d with
  | list ds =>
    cases i with
    | int i =>
      obtain ⟨a, vs, e1, s1, r1⟩ := h.list le
      obtain ⟨u, e2, r2⟩ := rpl_at r1 (show atI ds i = some r from e)
      exact .inl ⟨a, vs, i, u, e1, rpc_int h2, s1.sq, e2, q u r2⟩
    | _ => cases e
  | tuple ds =>
    cases i with
    | int i =>
      obtain ⟨a, vs, e1, s1, r1⟩ := h.tup le
      obtain ⟨u, e2, r2⟩ := rpl_at r1 (show atI ds i = some r from e)
      exact .inr ⟨a, vs, i, u, e1, rpc_int h2, s1, e2, q u r2⟩
    | _ => cases e
  | _ => cases i <;> cases e
theorem ElL.len {K : PySem.W.Frag} {Fz H : Hp} : ∀ {f : List Addr} {vs : List V} {es : List El}, ElL K Fz H f vs es → vs.length = es.length
  | _, _, _, .nil => rfl
  | _, _, _, .cons _ t => by simp [ElL.len t]
theorem ElL.atI {K : PySem.W.Frag} {Fz H : Hp} {f : List Addr} {vs : List V} {es : List El} {i : Int} {e : El} (h : ElL K Fz H f vs es) (q : L2.atI es i = some e) : ∃ v g, L2.atI vs i = some v ∧ ElR K Fz H g v e := by
  unfold L2.atI at q ⊢
  rw [h.len]
  cases q1 : ixN es.length i with
  | none => rw [q1] at q; cases q
  | some j =>
    rw [q1] at q
    obtain ⟨v, g, e1, e2, _⟩ := h.at_ (j := j) q
    exact ⟨v, g, e1, e2⟩
theorem v2_ix {K : PySem.W.Frag} {mg : Str → Option Value} {W : WX} {pin : List Nat} : V2 K mg W pin (rIxU K) gIx := by
  intro b Fz F δ σ H v w x y Q hp R A B P
  unfold gIx at P
  cases q1 : rdC δ y with
  | none => simp only [q1] at P; exact P.elim
  | some i =>
    cases q2 : itemA δ x i with
    | none => simp only [q1, q2] at P; exact P.elim
    | some r =>
      simp only [q1, q2] at P
      have h2 := rdC_ok R B q1
      have fin : ∀ u, Rp K Fz u r → Q u H := fun u hu => P u H Fz F (Same.refl _) R hu
      cases x with
      | val d => exact itemD_ok R.le (.inl A) h2 q2 fin
      | tmp s => exact False.elim A
      | ref k =>
        have hv : σ[k]? = some (some v) := A
        unfold itemA at q2
        cases q3 : δ[k]? with
        | none => simp only [q3] at q2; cases q2
        | some s =>
          have hs := R.slot k s q3
          rw [hv] at hs
          cases s with
          | no => simp only [q3] at q2; cases q2
          | od kvs => simp only [q3] at q2; cases q2
          | fz d =>
            simp only [q3] at q2
            obtain ⟨_, v', e1, e2⟩ := hs
            cases e1
            exact itemD_ok R.le (.inl e2) h2 q2 fin
          | ol xs =>
            cases i with
            | int n =>
              simp only [q3] at q2
              cases q4 : atI xs n with
              | none => rw [q4] at q2; cases q2
              | some e =>
                rw [q4] at q2
                cases e with
                | ow ys => cases q2
                | fz d =>
                  cases q2
                  obtain ⟨a, vs, g, e1, e2, e3, e4⟩ := hs
                  cases e1
                  obtain ⟨u, g', f1, f2⟩ := e4.atI q4
                  exact .inl ⟨a, vs, n, u, rfl, rpc_int h2, SqL.of e3, f1, fin u f2.2⟩
            | _ => simp only [q3] at q2; cases q2
          | al x j =>
            simp only [q3] at q2
            cases q4 : δ[x]? with
            | none => simp only [q4] at q2; cases q2
            | some t =>
              cases t with
              | ol xs =>
                simp only [q4] at q2
                cases q5 : xs[j]? with
                | none => simp only [q5] at q2; cases q2
                | some e =>
                  obtain ⟨g, e1, _⟩ := R.al q3 q4 q5 hv
                  cases e with
                  | fz d =>
                    simp only [q5] at q2
                    exact itemD_ok R.le (.inl e1.2) h2 q2 fin
                  | ow ys =>
                    simp only [q5] at q2
                    obtain ⟨a, vs, f1, _, f3, f4⟩ := e1
                    exact itemD_ok R.le (.inr ⟨a, vs, ys, f1, rfl, f3, f4⟩) h2 q2 fin
              | _ => simp only [q4] at q2; cases q2
def cutD (ds : List PyData) (lo hi : Option Int) : List PyData := (ds.drop (HT.sIx ds.length 0 lo)).take (HT.sIx ds.length ds.length hi - HT.sIx ds.length 0 lo)
theorem rpl_cut {K : PySem.W.Frag} {H : Hp} {vs : List V} {ds : List PyData} (h : RpL K H vs ds) (lo hi : Option Int) : RpL K H (cutV vs lo hi) (cutD ds lo hi) := by
  unfold cutV cutD
  rw [h.len]
  exact (h.drop _).take _
def gSl (x : AV) (lo hi : Option Int) (δ : List Sl) : Rs AV := match rdC δ x with
  | some (.list ds) => .ok (.tmp (.ol ((cutD ds lo hi).map .fz))) δ
  | some (.tuple ds) => .ok (.val (.tuple (cutD ds lo hi))) δ
  | _ => .bad
end Hb
namespace Hb
open PySem PySem.Spec PyProof.Rows L2
def sPartO : Option (List Sl → Rs AV) → List Sl → Rs (Option Int)
  | none => fun δ => .ok none δ
  | some f => fun δ => (sSt f δ).bind fun a δ' => match rdC δ' a with
    | some (.int i) => .ok (some i) δ'
    | _ => .bad
def rdP (K : PySem.W.Frag) (mg : Str → Option Value) (W : WX) (pin : List Nat) : Option (List Sl → Rs AV) → TO
  | none => tNoPart
  | some f => tPart (rdE K mg W pin (sSt f))
inductive SPO (X : Cx) (W : WX) (pin : List Nat) : Option Expr → Option (List Sl → Rs AV) → Prop
  | no : SPO X W pin none none
  | yes {e : Expr} {f : List Sl → Rs AV} : SE X W pin e f → SPO X W pin (some e) (some f)
theorem SPO.po {X : Cx} {W : WX} {pin : List Nat} {e : Option Expr} {f : Option (List Sl → Rs AV)} (h : SPO X W pin e f) : PO X e (rdP X.K X.mg W pin f) := by
  cases h with
  | no => exact po_none
  | yes h => exact po_some (se_st h)
section
variable {K : PySem.W.Frag} {mg : Str → Option Value} {W : WX} {pin : List Nat}
theorem rdP_bind {o : Option (List Sl → Rs AV)} {σ : L2.St} {H : Hp} {b : Bk} {Fz : Hp} {F : Nat → List Addr} {δ : List Sl} {k : Option Int → List Sl → Rs AV} {Q : VK} {R : Option Int → Hp → Prop} (hp : b.pin = pin) (Rr : Rl K b Fz F δ σ H) (P : Post K mg W b Fz σ Q ((sPartO o δ).bind k))
    (h : ∀ i H' Fz' F' δ', Same Fz Fz' → Rl K b Fz' F' δ' σ H' → Post K mg W b Fz' σ Q (k i δ') → R i H') : rdP K mg W pin o σ H R := by
  cases o with
  | none => exact h none H Fz F δ (Same.refl _) Rr P
  | some f =>
    have P' : Post K mg W b Fz σ Q ((sSt f δ).bind fun a δ' => (match rdC δ' a with
      | some (.int i) => (.ok (some i) δ' : Rs (Option Int))
      | _ => .bad).bind k) := by
      simp only [sPartO] at P
      cases q : sSt f δ with
      | bad => rw [q] at P; exact P
      | er x δ' => rw [q] at P; exact P
      | ok a δ' => rw [q] at P; exact P
    refine rd_bind hp Rr P' fun v H' Fz' F' x δ' s R' A P2 => ?_
    cases q : rdC δ' x with
    | none => simp only [q] at P2; exact P2.elim
    | some d =>
      cases d with
      | int i =>
        simp only [q] at P2
        exact ⟨i, rpc_int (rdC_ok R' A q), h (some i) H' Fz' F' δ' s R' P2⟩
      | _ => simp only [q] at P2; exact P2.elim
def sSl (f : List Sl → Rs AV) (lo hi : Option (List Sl → Rs AV)) : List Sl → Rs AV := fun δ => (sSt f δ).bind fun x δ1 => (sPartO lo δ1).bind fun l δ2 => (sPartO hi δ2).bind fun u δ3 => gSl x l u δ3
def rSlU (K : PySem.W.Frag) : V → Option Int → Option Int → Hp → VK → Prop := fun x lo hi H Q => rSlL K x lo hi H Q ∨ rSlA K x lo hi H Q
theorem sl_U {X : Cx} : SlR X (rSlU X.K) := SlR.or sl_list sl_tupA
theorem gSl_ok {b : Bk} {Fz : Hp} {F : Nat → List Addr} {δ : List Sl} {σ : L2.St} {H : Hp} {Q : VK} {v : V} {x : AV} {lo hi : Option Int} (R : Rl K b Fz F δ σ H) (A : AvS K Fz σ v x) (P : Post K mg W b Fz σ Q (gSl x lo hi δ)) : rSlU K v lo hi H Q := by
  unfold gSl at P
  cases q : rdC δ x with
  | none => simp only [q] at P; exact P.elim
  | some d =>
    have h1 := rdC_ok R A q
    cases d with
    | list ds =>
      simp only [q] at P
      obtain ⟨a, vs, e1, s1, r1⟩ := h1.list R.le
      exact .inl ⟨a, vs, e1, s1.sq, post_newL R (rpl_cut r1 lo hi) P⟩
    | tuple ds =>
      simp only [q] at P
      obtain ⟨a, vs, e1, s1, r1⟩ := h1.tup R.le
      refine .inr ⟨a, vs, e1, s1, fun w => ?_, fun _ => post_newT R (rpl_cut r1 lo hi) P⟩
      have e2 : cutD ds lo hi = ds := by
        have w' := w
        rw [r1.len] at w'
        unfold cutD
        rw [w'.1, w'.2]
        simp
      rw [e2] at P
      rcases h1 with h | ⟨_, _, _, _, e3, _⟩
      · rw [← e1]
        exact P v H Fz F (Same.refl _) R h
      · cases e3
    | _ => simp only [q] at P; exact P.elim
end
theorem se_sl {X : Cx} {W : WX} {pin : List Nat} {fa : List Sl → Rs AV} {a : Expr} {lo hi : Option Expr} {fl fh : Option (List Sl → Rs AV)} {p2 pos : Pos} (ha : SE X W pin a fa) (hl : SPO X W pin lo fl) (hh : SPO X W pin hi fh) :
    SE X W pin (.Subscript a (.Slice lo hi none p2) pos) (sSl fa fl fh) := pe_mono (pe_slice sl_U (se_st ha) hl.po hh.po) fun σ H Q ⟨b, Fz, F, δ, hp, R, P⟩ => by
  refine rd_bind hp R P fun v H1 Fz1 F1 x δ1 s1 R1 A1 P1 => ?_
  refine rdP_bind hp R1 P1 fun l H2 Fz2 F2 δ2 s2 R2 P2 => ?_
  refine rdP_bind hp R2 P2 fun u H3 Fz3 F3 δ3 s3 R3 P3 => ?_
  exact gSl_ok R3 (A1.le (s2.trans s3)) P3
section
variable (K : PySem.W.Frag) (mg : Str → Option Value) (W : WX)
def PostL (b : Bk) (Fz : Hp) (σ : L2.St) (Q : List V → Hp → Prop) : Rs (List PyData) → Prop
  | .ok ds δ => ∀ vs H' Fz' F', Same Fz Fz' → Rl K b Fz' F' δ σ H' → RpL K Fz' vs ds → Q vs H'
  | .er x δ => PostX K mg W b Fz σ x δ
  | .bad => False
def rdL (pin : List Nat) (f : List Sl → Rs (List PyData)) : TA := fun σ H Q => ∃ b Fz F δ, b.pin = pin ∧ Rl K b Fz F δ σ H ∧ PostL K mg W b Fz σ Q (f δ)
end
abbrev SA (X : Cx) (W : WX) (pin : List Nat) (es : List Expr) (f : List Sl → Rs (List PyData)) : Prop := PA X es (rdL X.K X.mg W pin f)
theorem pa_mono {X : Cx} {es : List Expr} {t t' : TA} (h : PA X es t) (i : ∀ σ H Q, t' σ H Q → t σ H Q) : PA X es t' := ⟨fun pos pins s σ H Q I q => h.run pos pins s σ H Q I (i σ H Q q)⟩
/-- a value taken -/
def Rs.val {α : Type} (r : Rs AV) (k : PyData → List Sl → Rs α) : Rs α := r.bind fun a δ => match a with
  | .val d => k d δ
  | _ => .bad
def lNil : List Sl → Rs (List PyData) := fun δ => .ok [] δ
def lCons (f : List Sl → Rs AV) (g : List Sl → Rs (List PyData)) : List Sl → Rs (List PyData) := fun δ => (sTk f δ).val fun d δ1 => (g δ1).bind fun ds δ2 => .ok (d :: ds) δ2
def seqD : PyData → Option (List PyData)
  | .list ds => some ds
  | .tuple ds => some ds
  | _ => none
section
variable {X : Cx} {W : WX} {pin : List Nat} {f : List Sl → Rs AV} {g : List Sl → Rs (List PyData)} {e : Expr} {es : List Expr}
theorem PostL.le {K : PySem.W.Frag} {mg : Str → Option Value} {b : Bk} {Fz Fz1 : Hp} {σ : L2.St} {Q : List V → Hp → Prop} {r : Rs (List PyData)} (s : Same Fz Fz1) (p : PostL K mg W b Fz σ Q r) : PostL K mg W b Fz1 σ Q r := by
  cases r with
  | ok a δ => exact fun v H' Fz' F' s' R e => p v H' Fz' F' (s.trans s') R e
  | er x δ => exact PostX.le s p
  | bad => exact p
/-- behind a taken value -/
theorem rd_valL {K : PySem.W.Frag} {mg : Str → Option Value} {σ : L2.St} {H : Hp} {b : Bk} {Fz : Hp} {F : Nat → List Addr} {δ : List Sl} {k : PyData → List Sl → Rs (List PyData)} {Q : List V → Hp → Prop} {R : VK} (hp : b.pin = pin) (Rr : Rl K b Fz F δ σ H) (P : PostL K mg W b Fz σ Q ((sTk f δ).val k))
    (h : ∀ v H' Fz' F' d δ', Same Fz Fz' → Rl K b Fz' F' δ' σ H' → Rp K Fz' v d → PostL K mg W b Fz' σ Q (k d δ') → R v H') : rdE K mg W pin (sTk f) σ H R := by
  refine ⟨b, Fz, F, δ, hp, Rr, ?_⟩
  cases q : sTk f δ with
  | bad => rw [q] at P; exact P
  | er x δ' => rw [q] at P; exact P
  | ok a δ' =>
    rw [q] at P
    intro v H' Fz' F' s R' A
    cases a with
    | tmp t => exact False.elim P
    | ref i => exact False.elim P
    | val d => exact h v H' Fz' F' d δ' s R' A (PostL.le s P)
/-- behind the values -/
theorem rdL_bindL {K : PySem.W.Frag} {mg : Str → Option Value} {σ : L2.St} {H : Hp} {b : Bk} {Fz : Hp} {F : Nat → List Addr} {δ : List Sl} {k : List PyData → List Sl → Rs (List PyData)} {Q R : List V → Hp → Prop} (hp : b.pin = pin) (Rr : Rl K b Fz F δ σ H) (P : PostL K mg W b Fz σ Q ((g δ).bind k))
    (h : ∀ vs H' Fz' F' ds δ', Same Fz Fz' → Rl K b Fz' F' δ' σ H' → RpL K Fz' vs ds → PostL K mg W b Fz' σ Q (k ds δ') → R vs H') : rdL K mg W pin g σ H R := by
  refine ⟨b, Fz, F, δ, hp, Rr, ?_⟩
  cases q : g δ with
  | bad => rw [q] at P; exact P
  | er x δ' => rw [q] at P; exact P
  | ok a δ' =>
    rw [q] at P
    exact fun v H' Fz' F' s R' A => h v H' Fz' F' a δ' s R' A (PostL.le s P)
theorem rdL_bind {K : PySem.W.Frag} {mg : Str → Option Value} {σ : L2.St} {H : Hp} {b : Bk} {Fz : Hp} {F : Nat → List Addr} {δ : List Sl} {k : List PyData → List Sl → Rs AV} {Q : VK} {R : List V → Hp → Prop} (hp : b.pin = pin) (Rr : Rl K b Fz F δ σ H) (P : Post K mg W b Fz σ Q ((g δ).bind k))
    (h : ∀ vs H' Fz' F' ds δ', Same Fz Fz' → Rl K b Fz' F' δ' σ H' → RpL K Fz' vs ds → Post K mg W b Fz' σ Q (k ds δ') → R vs H') : rdL K mg W pin g σ H R := by
  refine ⟨b, Fz, F, δ, hp, Rr, ?_⟩
  cases q : g δ with
  | bad => rw [q] at P; exact P
  | er x δ' => rw [q] at P; exact P
  | ok a δ' =>
    rw [q] at P
    exact fun v H' Fz' F' s R' A => h v H' Fz' F' a δ' s R' A (Post.le s P)
theorem sa_nil : SA X W pin [] lNil := pa_mono pa_nil fun σ H Q ⟨b, Fz, F, δ, hp, R, P⟩ => P [] H Fz F (Same.refl _) R .nil
theorem sa_cons (h : SE X W pin e f) (h2 : SA X W pin es g) (hs : starEach (e :: es) X.env = (false, eval e X.env) :: starEach es X.env := by rfl) : SA X W pin (e :: es) (lCons f g) := pa_mono (pa_cons (se_tk h) h2 hs) fun σ H Q ⟨b, Fz, F, δ, hp, R, P⟩ => by
  refine rd_valL hp R P fun v H1 Fz1 F1 d δ1 s1 R1 A1 P1 => ?_
  refine rdL_bindL hp R1 P1 fun vs H2 Fz2 F2 ds δ2 s2 R2 A2 P2 => ?_
  exact P2 (v :: vs) H2 Fz2 F2 (Same.refl _) R2 (.cons (A1.mono s2) A2)
def sLst (g : List Sl → Rs (List PyData)) : List Sl → Rs AV := fun δ => (g δ).bind fun ds δ' => if ds.length ≤ cap then .ok (.tmp (.ol (ds.map .fz))) δ' else .bad
def sTup (g : List Sl → Rs (List PyData)) : List Sl → Rs AV := fun δ => (g δ).bind fun ds δ' => if ds.length ≤ cap then .ok (.val (.tuple ds)) δ' else .bad
theorem se_lst {pos : Pos} (h : SA X W pin es g) : SE X W pin (.List es pos) (sLst g) := pe_mono (pe_lst h) fun σ H Q ⟨b, Fz, F, δ, hp, R, P⟩ => by
  refine rdL_bind hp R P fun vs H2 Fz2 F2 ds δ2 s2 R2 A2 P2 => ?_
  by_cases c : ds.length ≤ cap
  · rw [if_pos c] at P2
    exact ⟨by rw [A2.len]; exact le_line c, post_newL R2 A2 P2⟩
  · rw [if_neg c] at P2
    exact P2.elim
theorem se_tup {x1 : Nat} {pos : Pos} (h : SA X W pin es g) : SE X W pin (.Tuple es x1 pos) (sTup g) := pe_mono (pe_tup h) fun σ H Q ⟨b, Fz, F, δ, hp, R, P⟩ => by
  refine rdL_bind hp R P fun vs H2 Fz2 F2 ds δ2 s2 R2 A2 P2 => ?_
  by_cases c : ds.length ≤ cap
  · rw [if_pos c] at P2
    exact ⟨by rw [A2.len]; exact le_line c, post_newT R2 A2 P2⟩
  · rw [if_neg c] at P2
    exact P2.elim
def sDic0 : List Sl → Rs AV := fun δ => .ok (.tmp (.od [])) δ
theorem se_dic0 {pos : Pos} : SE X W pin (.Dict [] [] pos) sDic0 := pe_mono pe_dnewK fun σ H Q ⟨b, Fz, F, δ, hp, R, P⟩ => post_newD R P
end
section
variable (K : PySem.W.Frag) (mg : Str → Option Value) (W : WX) (pin : List Nat)
def C1 (r : List V → Hp → VK → Prop) (g : AV → List Sl → Rs AV) : Prop := ∀ b Fz F δ σ H v x Q, b.pin = pin → Rl K b Fz F δ σ H → AvS K Fz σ v x → Post K mg W b Fz σ Q (g x δ) → r [v] H Q
def C2 (r : List V → Hp → VK → Prop) (g : AV → AV → List Sl → Rs AV) : Prop := ∀ b Fz F δ σ H v w x y Q, b.pin = pin → Rl K b Fz F δ σ H → AvS K Fz σ v x → AvS K Fz σ w y → Post K mg W b Fz σ Q (g x y δ) → r [v, w] H Q
end
section
variable {X : Cx} {W : WX} {pin : List Nat} {fa fb : List Sl → Rs AV} {a c : Expr} {x : Str} {p pos : Pos} {id T : String} {r : List V → Hp → VK → Prop} {g : AV → List Sl → Rs AV} {g2 : AV → AV → List Sl → Rs AV}
theorem se_b1 (hc : CallR X (.builtin id) r) (hv : C1 X.K X.mg W pin r g) (hg : Gl X x) (hm : X.mg x = none) (hb : bootBuiltins x = some (.builtin id)) (ha : SE X W pin a fa) (hn : x ≠ "__name__" := by decide) (hdb : (x == ("__debug__" : Str)) = false := by decide)
    (he : starEach [a] X.env = (false, eval a X.env) :: starEach [] X.env := by rfl) : SE X W pin (.Call (.Name x p) [a] [] pos) (s1 g fa) := pe_mono (pe_callB hc hg hm hb (pa_cons (se_st ha) pa_nil he) hn hdb he rfl) fun σ H Q ⟨b, Fz, F, δ, hp, R, P⟩ => by
  refine rd_bind hp R P fun v H1 Fz1 F1 x δ1 s1 R1 A1 P1 => ?_
  exact hv b Fz1 F1 δ1 σ H1 v x Q hp R1 A1 P1
theorem se_t1 (hc : CallR X (.type T) r) (hv : C1 X.K X.mg W pin r g) (hg : Gl X x) (hm : X.mg x = none) (hb : bootBuiltins x = some (.type T)) (ha : SE X W pin a fa) (hn : x ≠ "__name__" := by decide) (hdb : (x == ("__debug__" : Str)) = false := by decide)
    (he : starEach [a] X.env = (false, eval a X.env) :: starEach [] X.env := by rfl) : SE X W pin (.Call (.Name x p) [a] [] pos) (s1 g fa) := pe_mono (pe_callTy hc hg hm hb (pa_cons (se_st ha) pa_nil he) hn hdb he rfl) fun σ H Q ⟨b, Fz, F, δ, hp, R, P⟩ => by
  refine rd_bind hp R P fun v H1 Fz1 F1 x δ1 s1 R1 A1 P1 => ?_
  exact hv b Fz1 F1 δ1 σ H1 v x Q hp R1 A1 P1
theorem se_b2 (hc : CallR X (.builtin id) r) (hv : C2 X.K X.mg W pin r g2) (hg : Gl X x) (hm : X.mg x = none) (hb : bootBuiltins x = some (.builtin id)) (ha : SE X W pin a fa) (hcc : SE X W pin c fb) (hn : x ≠ "__name__" := by decide) (hdb : (x == ("__debug__" : Str)) = false := by decide)
    (he : starEach [a, c] X.env = (false, eval a X.env) :: starEach [c] X.env := by rfl) (he2 : starEach [c] X.env = (false, eval c X.env) :: starEach [] X.env := by rfl) (hpl : (backTo pos (starEach [c] X.env)).any (·.1) = false := by rfl) : SE X W pin (.Call (.Name x p) [a, c] [] pos) (s2 g2 fa fb) := pe_mono (pe_callB hc hg hm hb (pa_cons (se_st ha) (pa_cons (se_st hcc) pa_nil he2) he) hn hdb he hpl) fun σ H Q ⟨b, Fz, F, δ, hp, R, P⟩ => by
  refine rd_bind hp R P fun v H1 Fz1 F1 x δ1 s1 R1 A1 P1 => ?_
  refine rd_bind hp R1 P1 fun w H2 Fz2 F2 y δ2 s2 R2 A2 P2 => ?_
  exact hv b Fz2 F2 δ2 σ H2 v w x y Q hp R2 (A1.le s2) A2 P2
end
/-- a look at a tree that gives a number, a truth value, a text -/
def gRd (k : PyData → Option PyData) (x : AV) (δ : List Sl) : Rs AV := match (rdA δ x).bind k with
  | some d => if flatD d = true then .ok (.val d) δ else .bad
  | none => .bad
def dV : PyData → V
  | .none => .non
  | .bool b => .bl b
  | .int i => .int i
  | .str s => .str s
  | _ => .non
theorem rp_flat {K : PySem.W.Frag} {H : Hp} {d : PyData} (h : flatD d = true) : Rp K H (dV d) d := by
  cases d with
  | none => exact .non
  | bool b => exact .bl b
  | int i => exact .int i
  | str s => exact .str s
  | _ => cases h
theorem c1_rd {K : PySem.W.Frag} {mg : Str → Option Value} {W : WX} {pin : List Nat} {k : PyData → Option PyData} {r : List V → Hp → VK → Prop} (h : ∀ v d e H (Q : VK), Rp K H v d → k d = some e → flatD e = true → Q (dV e) H → r [v] H Q) : C1 K mg W pin r (gRd k) := by
  intro b Fz F δ σ H v x Q hp R A P
  unfold gRd at P
  cases q : rdA δ x with
  | none => simp only [q, Option.bind_none] at P; exact P.elim
  | some d =>
    cases q2 : k d with
    | none => simp only [q, Option.bind_some, q2] at P; exact P.elim
    | some e =>
      simp only [q, Option.bind_some, q2] at P
      by_cases c : flatD e = true
      · rw [if_pos c] at P
        exact h v d e H Q (rdA_ok R A q) q2 c (P _ H Fz F (Same.refl _) R (rp_flat c))
      · rw [if_neg c] at P
        exact P.elim
def lenD : PyData → Option PyData
  | .list ds => some (.int ds.length)
  | .tuple ds => some (.int ds.length)
  | .str z => if z.length ≤ cap then some (.int z.length) else none
  | .dict ds => some (.int ds.length)
  | _ => none
theorem RpK.len {K : PySem.W.Frag} {H : Hp} : ∀ {vs : List (Key × V)} {ds : List (PyData × PyData)}, RpK K H vs ds → vs.length = ds.length
  | _, _, .nil => rfl
  | _, _, .cons _ t => by simp [RpK.len t]
theorem RpT.len {K : PySem.W.Frag} {H : Hp} : ∀ {vs : List (List Key × V)} {ds : List (PyData × PyData)}, RpT K H vs ds → vs.length = ds.length
  | _, _, .nil => rfl
  | _, _, .cons _ t => by simp [RpT.len t]
def rLenU (K : PySem.W.Frag) : List V → Hp → VK → Prop := fun xs H Q => ((∃ x n, xs = [x] ∧ LenV K x H n ∧ Q (.int n) H) ∨ ∃ a kvs, xs = [V.ref a] ∧ H a = some (.dK kvs) ∧ Q (.int kvs.length) H) ∨ ∃ a kvs, xs = [V.ref a] ∧ H a = some (.dT kvs) ∧ Q (.int kvs.length) H
theorem call_lenU {X : Cx} : CallR X (.builtin "len") (rLenU X.K) := CallR.or (CallR.or call_len call_lenD) call_len_dT
theorem c1_len {K : PySem.W.Frag} {mg : Str → Option Value} {W : WX} {pin : List Nat} : C1 K mg W pin (rLenU K) (gRd lenD) := c1_rd fun v d e H Q r k f q => by
  cases r with
  | lst h1 h2 =>
    cases k
    exact .inl (.inl ⟨_, _, rfl, .inl ⟨_, h1.sq, rfl⟩, by rw [h2.len]; exact q⟩)
  | tup h1 h2 =>
    cases k
    exact .inl (.inl ⟨_, _, rfl, .inr ⟨_, SqT.of h1, rfl⟩, by rw [h2.len]; exact q⟩)
  | dK h1 h2 =>
    cases k
    exact .inl (.inr ⟨_, _, rfl, h1, by rw [h2.len]; exact q⟩)
  | dT h1 h2 =>
    cases k
    exact .inr ⟨_, _, rfl, h1, by rw [h2.len]; exact q⟩
  | str z =>
    simp only [lenD] at k
    by_cases c : z.length ≤ cap
    · rw [if_pos c] at k
      cases k
      exact .inl (.inl ⟨_, _, rfl, ⟨le_line c, rfl⟩, q⟩)
    · rw [if_neg c] at k
      cases k
  | _ => cases k
def absD : PyData → Option PyData
  | .int i => some (.int (if i < 0 then -i else i))
  | _ => none
theorem c1_abs {K : PySem.W.Frag} {mg : Str → Option Value} {W : WX} {pin : List Nat} : C1 K mg W pin (fun xs H Q => ∃ i, xs = [.int i] ∧ Q (.int (if i < 0 then -i else i)) H) (gRd absD) := c1_rd fun v d e H Q r k f q => by
  cases r with
  | int i =>
    cases k
    exact ⟨i, rfl, q⟩
  | _ => cases k
def intD : PyData → Option PyData
  | .int i => some (.int i)
  | .bool k => some (.int (if k then 1 else 0))
  | _ => none
theorem c1_int {K : PySem.W.Frag} {mg : Str → Option Value} {W : WX} {pin : List Nat} : C1 K mg W pin (fun xs H Q => (∃ i, xs = [.int i] ∧ Q (.int i) H) ∨ ∃ k, xs = [.bl k] ∧ Q (.int (if k then 1 else 0)) H) (gRd intD) := c1_rd fun v d e H Q r k f q => by
  cases r with
  | int i =>
    cases k
    exact .inl ⟨i, rfl, q⟩
  | bl b =>
    cases k
    exact .inr ⟨b, rfl, q⟩
  | _ => cases k
def intsOf : List PyData → Option (List Int)
  | [] => some []
  | .int i :: r => (intsOf r).map (i :: ·)
  | _ :: _ => none
theorem intsOf_eq : ∀ {ds : List PyData} {ns : List Int}, intsOf ds = some ns → ds = ns.map .int
  | [], _, h => by cases h; rfl
  | .int i :: r, ns, h => by
    rw [intsOf] at h
    cases q : intsOf r with
    | none => rw [q] at h; cases h
    | some ms =>
      rw [q] at h
      cases h
      rw [intsOf_eq q]
      rfl
  | .none :: r, _, h => by cases h
  | .bool _ :: r, _, h => by cases h
  | .str _ :: r, _, h => by cases h
  | .list _ :: r, _, h => by cases h
  | .tuple _ :: r, _, h => by cases h
  | .dict _ :: r, _, h => by cases h
def boolsOf : List PyData → Option (List Bool)
  | [] => some []
  | .bool i :: r => (boolsOf r).map (i :: ·)
  | _ :: _ => none
theorem boolsOf_eq : ∀ {ds : List PyData} {ns : List Bool}, boolsOf ds = some ns → ds = ns.map .bool
  | [], _, h => by cases h; rfl
  | .bool i :: r, ns, h => by
    rw [boolsOf] at h
    cases q : boolsOf r with
    | none => rw [q] at h; cases h
    | some ms =>
      rw [q] at h
      cases h
      rw [boolsOf_eq q]
      rfl
  | .none :: r, _, h => by cases h
  | .int _ :: r, _, h => by cases h
  | .str _ :: r, _, h => by cases h
  | .list _ :: r, _, h => by cases h
  | .tuple _ :: r, _, h => by cases h
  | .dict _ :: r, _, h => by cases h
theorem boolsOf_map : ∀ ns : List Bool, boolsOf (ns.map .bool) = some ns
  | [] => rfl
  | n :: ns => by
    rw [List.map_cons, boolsOf, boolsOf_map ns]
    rfl
theorem RpL.bools {K : PySem.W.Frag} {H : Hp} : ∀ {vs : List V} {ns : List Bool}, RpL K H vs (ns.map .bool) → vs = ns.map V.bl
  | _, [], .nil => rfl
  | _, n :: ns, .cons r t => by
    cases r
    rw [RpL.bools t]
    rfl
def overB (k : List Bool → Option PyData) : PyData → Option PyData
  | .list ds => (boolsOf ds).bind k
  | _ => none
theorem c1_overB {K : PySem.W.Frag} {mg : Str → Option Value} {W : WX} {pin : List Nat} {k : List Bool → Option PyData} {r : List V → Hp → VK → Prop} (h : ∀ a ns e H (Q : VK), SqL K H a (ns.map V.bl) → k ns = some e → Q (dV e) H → r [.ref a] H Q) : C1 K mg W pin r (gRd (overB k)) := c1_rd fun v d e H Q rp ke f q => by
  cases rp with
  | lst h1 h2 =>
    rename_i ds
    simp only [overB] at ke
    cases q1 : boolsOf ds with
    | none => rw [q1] at ke; cases ke
    | some ns =>
      rw [q1] at ke
      have e1 := boolsOf_eq q1
      subst e1
      have e2 := h2.bools
      subst e2
      exact h _ ns e H Q h1.sq ke q
  | _ => cases ke
section
variable {K : PySem.W.Frag} {mg : Str → Option Value} {W : WX} {pin : List Nat}
theorem c1_all : C1 K mg W pin (rAll K) (gRd (overB fun ns => some (.bool (ns.all id)))) := c1_overB fun a ns e H Q s k q => by
  cases k
  exact ⟨a, ns, rfl, s, q⟩
abbrev gMax2 := gI yes2 fun i j => if j > i then j else i
abbrev gMin2 := gI yes2 fun i j => if j < i then j else i
theorem c2_i {g : Int → Int → Int} : C2 K mg W pin (fun xs H Q => ∃ i j, xs = [.int i, .int j] ∧ Q (.int (g i j)) H) (gI yes2 g) := by
  intro b Fz F δ σ H v w x y Q hp R A B P
  obtain ⟨i, j, h1, h2, _, q⟩ := v2_i (K := K) (mg := mg) (W := W) (C' := fun _ _ => True) (fun _ _ _ => trivial) b Fz F δ σ H v w x y Q hp R A B P
  exact ⟨i, j, by rw [h1, h2], q⟩
/-- list(xs), tuple(xs) -/
def gList (x : AV) (δ : List Sl) : Rs AV := match rdC δ x with
  | some (.list ds) => .ok (.tmp (.ol (ds.map .fz))) δ
  | some (.tuple ds) => .ok (.tmp (.ol (ds.map .fz))) δ
  | _ => .bad
def gTuple (x : AV) (δ : List Sl) : Rs AV := match rdC δ x with
  | some (.list ds) => .ok (.val (.tuple ds)) δ
  | some (.tuple ds) => .ok (.val (.tuple ds)) δ
  | _ => .bad
theorem c1_list : C1 K mg W pin (fun xs H Q => ∃ p ys, xs = [.ref p] ∧ (SqL K H p ys ∨ SqT K H p ys) ∧ ∀ l, H l = none → Q (.ref l) (upd H l (.lst ys))) gList := by
  intro b Fz F δ σ H v x Q hp R A P
  unfold gList at P
  cases q : rdC δ x with
  | none => simp only [q] at P; exact P.elim
  | some d =>
    cases d with
    | list ds =>
      simp only [q] at P
      obtain ⟨a, vs, e1, s1, r1⟩ := (rdC_ok R A q).list R.le
      exact ⟨a, vs, by rw [e1], .inl s1.sq, post_newL R r1 P⟩
    | tuple ds =>
      simp only [q] at P
      obtain ⟨a, vs, e1, s1, r1⟩ := (rdC_ok R A q).tup R.le
      exact ⟨a, vs, by rw [e1], .inr s1, post_newL R r1 P⟩
    | _ => simp only [q] at P; exact P.elim
theorem c1_tuple : C1 K mg W pin (fun xs H Q => ∃ p ys, xs = [.ref p] ∧ ((SqL K H p ys ∧ ∀ l, H l = none → Q (.ref l) (upd H l (.tup ys))) ∨ (SqT K H p ys ∧ Q (.ref p) H))) gTuple := by
  intro b Fz F δ σ H v x Q hp R A P
  unfold gTuple at P
  cases q : rdC δ x with
  | none => simp only [q] at P; exact P.elim
  | some d =>
    have h := rdC_ok R A q
    cases d with
    | list ds =>
      simp only [q] at P
      obtain ⟨a, vs, e1, s1, r1⟩ := h.list R.le
      exact ⟨a, vs, by rw [e1], .inl ⟨s1.sq, post_newT R r1 P⟩⟩
    | tuple ds =>
      simp only [q] at P
      obtain ⟨a, vs, e1, s1, r1⟩ := h.tup R.le
      refine ⟨a, vs, by rw [e1], .inr ⟨s1, ?_⟩⟩
      rcases h with h | ⟨_, _, _, _, e3, _⟩
      · rw [← e1]
        exact P v H Fz F (Same.refl _) R h
      · cases e3
    | _ => simp only [q] at P; exact P.elim
def sortI (ns : List Int) : List Int := ns.mergeSort fun a b => decide (a ≤ b)
theorem sortI_perm (ns : List Int) : (sortI ns).Perm ns := List.mergeSort_perm _ _
theorem sortI_up (ns : List Int) : (sortI ns).Pairwise (· ≤ ·) := by
  have h := List.pairwise_mergeSort (le := fun a b : Int => decide (a ≤ b)) (fun a b c h1 h2 => by simp at *; omega) (fun a b => by simp; omega) ns
  exact h.imp fun {a b} q => of_decide_eq_true q
theorem up_unique : ∀ {xs ys : List Int}, xs.Perm ys → xs.Pairwise (· ≤ ·) → ys.Pairwise (· ≤ ·) → xs = ys
  | [], ys, p, _, _ => by rw [List.Perm.eq_nil (p.symm)]
  | x :: xs, [], p, _, _ => by cases p.eq_nil
  | x :: xs, y :: ys, p, h1, h2 => by
    rw [List.pairwise_cons] at h1 h2
    have e : x = y := by
      have a1 : x ∈ y :: ys := p.mem_iff.mp List.mem_cons_self
      have a2 : y ∈ x :: xs := p.mem_iff.mpr List.mem_cons_self
      rcases List.mem_cons.mp a1 with z | z
      · exact z
      · rcases List.mem_cons.mp a2 with w | w
        · exact w.symm
        · have := h1.1 y w
          have := h2.1 x z
          omega
    subst e
    rw [up_unique (List.Perm.cons_inv p) h1.2 h2.2]
theorem sortI_eq {ns ms : List Int} (p : ms.Perm ns) (h : ms.Pairwise (· ≤ ·)) : ms = sortI ns := up_unique (p.trans (sortI_perm ns).symm) h (sortI_up ns)
end
def tyD : PyData → String
  | .none => "NoneType"
  | .bool _ => "bool"
  | .int _ => "int"
  | .str _ => "str"
  | .list _ => "list"
  | .tuple _ => "tuple"
  | .dict _ => "dict"
def isiB (a b : String) : Bool := a == b || (a == "bool" && b == "int")
def gIsi (T : String) : AV → List Sl → Rs AV := gRd fun d => some (.bool (isiB (tyD d) T))
theorem tyx_of {K : PySem.W.Frag} {H : Hp} {v : V} {d : PyData} (h : Rp K H v d) : TyX K H v (.type (tyD d)) := by
  cases h with
  | non => exact .base .non
  | bl b => exact .base (.bl b)
  | int i => exact .base (.int i)
  | str x => exact .base (.str x)
  | lst h1 h2 =>
    rcases h1 with (h | ⟨o, h⟩) | ⟨its, n, h, _⟩
    · exact .base (.lst h)
    · exact .base (.frz h)
    · exact .kList h rfl
  | tup h1 h2 => exact .base (.tup h1)
  | dK h1 h2 => exact .base (.dK h1)
  | dT h1 h2 => exact .base (.dT h1)
def kitAll (T : String) : Bool := ["NoneType", "bool", "int", "str", "list", "tuple", "dict"].all fun t => decide (kitB t T = some (isiB t T))
theorem se_isi {X : Cx} {W : WX} {pin : List Nat} {fa : List Sl → Rs AV} {a : Expr} {y : Str} {T : String} {p p2 pos : Pos} (hk : kitAll T = true) (hg : Gl X "isinstance") (hm : X.mg "isinstance" = none) (hg2 : Gl X y) (hm2 : X.mg y = none) (hv2 : bootBuiltins y = some (.type T)) (ha : SE X W pin a fa)
    (hn : y ≠ "__name__" := by decide) (hdb : (y == ("__debug__" : Str)) = false := by decide) (he : starEach [a, .Name y p2] X.env = (false, eval a X.env) :: starEach [.Name y p2] X.env := by rfl) : SE X W pin (.Call (.Name "isinstance" p) [a, .Name y p2] [] pos) (s1 (gIsi T) fa) :=
  pe_mono (pe_callB call_isi hg hm PyProof.Rows.boot_isinstance (pa_cons (se_st ha) (pa_cons (pe_bltn (v := .ty T) hg2 hm2 hv2 rfl hn hdb) pa_nil) he) (by decide) (by decide) he) fun σ H Q ⟨b, Fz, F, δ, hp, R, P⟩ => by
    refine rd_bind hp R P fun v H1 Fz1 F1 x δ1 s1 R1 A1 P1 => ?_
    unfold gIsi gRd at P1
    cases q : rdA δ1 x with
    | none => simp only [q, Option.bind_none] at P1; exact P1.elim
    | some d =>
      simp only [q, Option.bind_some, flatD, if_true] at P1
      have r := rdA_ok R1 A1 q
      refine ⟨v, .ty T, .type (tyD d), .type T, isiB (tyD d) T, rfl, .ty T, tyx_of r, kit_ty ?_, P1 _ H1 Fz1 F1 (Same.refl _) R1 (.bl _)⟩
      unfold kitAll at hk
      rw [List.all_eq_true] at hk
      have hin : tyD d ∈ ["NoneType", "bool", "int", "str", "list", "tuple", "dict"] := by cases d <;> simp [tyD]
      exact of_decide_eq_true (hk _ hin)
end Hb
namespace Hb
open PySem PySem.Spec PyProof.Rows L2
theorem Rl.mut {K : PySem.W.Frag} {b : Bk} {Fz : Hp} {F : Nat → List Addr} {δ : List Sl} {σ : L2.St} {H : Hp} (R : Rl K b Fz F δ σ H) {i : Nat} {xs es : List El} {l : Addr} {vs : List V} {g : List Addr}
    (hs : δ[i]? = some (.ol xs)) (hv : σ[i]? = some (some (.ref l))) (hE : ElL K Fz H g vs es) (hg : (l :: g).Nodup) (sub : ∀ a ∈ g, a ∈ F i) :
    Rl K b Fz (fun k => if k = i then l :: g else F k) (upS i (.ol es) δ) σ (upd H l (.lst vs)) := by
  obtain ⟨a, ws, g0, e1, e2, e3, e4⟩ := R.slot i _ hs
  rw [hv] at e1
  cases e1
  have hl : l ∈ F i := by rw [e2]; exact List.mem_cons_self
  have ne : ∀ c, Fz c ≠ none → c ≠ l := fun c hc z => hc (by rw [z]; exact R.offF i l hl)
  have neB : ∀ c, b.B c ≠ none → c ≠ l := fun c hc z => hc (by rw [z]; exact R.offB i l hl)
  have all : ∀ a ∈ l :: g, a ∈ F i := fun a ha => (List.mem_cons.mp ha).elim (fun z => by rw [z]; exact hl) (sub a)
  refine R.put (Same.refl _) (fun c o e => ?_) (fun c o e => ?_) rfl (fun _ _ => rfl) (.inl rfl) (fun _ => ?_) (fun x j z => nomatch z) hg (fun a ha => R.offF i a (all a ha)) (fun a ha => R.offB i a (all a ha)) (fun a ha k hk hin => hk (R.dj k i a hin (all a ha))) (fun a ha => ?_) (fun k hk a ha => ?_) (fun k hk a ha => R.offF k a ha) (fun _ _ => rfl) (fun a ha => ?_) (R.tb.upd (.inr (R.noT i l hl)))
  · rw [upd_ne (ne c (by rw [e]; simp))]
    exact R.le c o e
  · rw [upd_ne (neB c (by rw [e]; simp))]
    exact R.base c o e
  · rw [hv]
    refine ⟨l, vs, g, rfl, rfl, upd_same, hE.keeps (Same.refl _) fun c hc => upd_ne fun z => ?_⟩
    subst z
    exact (List.nodup_cons.mp hg).1 hc
  · by_cases z : a = l
    · rw [z, upd_same]; simp
    · rw [upd_ne z]
      exact R.on i a (all a ha)
  · exact upd_ne fun z => hk (R.dj k i a ha (by rw [z]; exact hl))
  · by_cases z : a = l
    · rw [z, upd_same]; exact .lst
    · rw [upd_ne z]
      exact R.noT i a (all a ha)
theorem Rl.own {K : PySem.W.Frag} {b : Bk} {Fz : Hp} {F : Nat → List Addr} {δ : List Sl} {σ : L2.St} {H : Hp} (R : Rl K b Fz F δ σ H) {i : Nat} {xs : List El} {v : V} (hs : δ[i]? = some (.ol xs)) (hv : σ[i]? = some (some v)) :
    ∃ l vs g, v = .ref l ∧ H l = some (.lst vs) ∧ ElL K Fz H g vs xs ∧ F i = l :: g ∧ (l :: g).Nodup := by
  obtain ⟨a, ws, g0, e1, e2, e3, e4⟩ := R.slot i _ hs
  rw [hv] at e1
  cases e1
  exact ⟨a, ws, g0, rfl, e3, e4, e2, by rw [← e2]; exact R.nd i⟩
theorem ElL.app {K : PySem.W.Frag} {Fz H : Hp} : ∀ {f g : List Addr} {vs ws : List V} {es ds : List El}, ElL K Fz H f vs es → ElL K Fz H g ws ds → ElL K Fz H (f ++ g) (vs ++ ws) (es ++ ds)
  | _, _, _, _, _, _, .nil, s => s
  | _, _, _, _, _, _, .cons h t, s => by
    rw [List.append_assoc]
    exact .cons h (t.app s)
def appI (i : Nat) (d : PyData) (δ : List Sl) : Rs AV := match δ[i]? with
  | some (.ol xs) => if xs.length ≤ cap then .ok (.val .none) (upS i (.ol (xs ++ [.fz d])) δ) else .bad
  | _ => .bad
def appA (x : AV) (d : PyData) (δ : List Sl) : Rs AV := match x with
  | .ref i => appI i d δ
  | _ => .bad
def isLst (δ : List Sl) (x : AV) : Bool := match rdA δ x with
  | some (.list _) => true
  | _ => false
def sApp (fo fa : List Sl → Rs AV) : List Sl → Rs AV := fun δ => (sSt fo δ).bind fun x δ1 => if isLst δ1 x = true then (sTk fa δ1).val fun d δ2 => appA x d δ2
  else .bad
theorem isLst_ty {K : PySem.W.Frag} {b : Bk} {Fz : Hp} {F : Nat → List Addr} {δ : List Sl} {σ : L2.St} {H : Hp} {v : V} {x : AV} (R : Rl K b Fz F δ σ H) (A : AvS K Fz σ v x) (h : isLst δ x = true) : tyV K "list" v H := by
  unfold isLst at h
  cases q : rdA δ x with
  | none => rw [q] at h; cases h
  | some d =>
    rw [q] at h
    cases d with
    | list ds =>
      have r := rdA_ok R A q
      cases r with
      | lst h1 h2 => exact .inl ⟨rfl, _, h1.sq⟩
    | _ => cases h
section
variable {K : PySem.W.Frag} {mg : Str → Option Value} {W : WX} {pin : List Nat}
theorem rd_val {f : List Sl → Rs AV} {σ : L2.St} {H : Hp} {b : Bk} {Fz : Hp} {F : Nat → List Addr} {δ : List Sl} {k : PyData → List Sl → Rs AV} {Q : VK} {R : VK} (hp : b.pin = pin) (Rr : Rl K b Fz F δ σ H) (P : Post K mg W b Fz σ Q ((sTk f δ).val k))
    (h : ∀ v H' Fz' F' d δ', Same Fz Fz' → Rl K b Fz' F' δ' σ H' → Rp K Fz' v d → Post K mg W b Fz' σ Q (k d δ') → R v H') : rdE K mg W pin (sTk f) σ H R := by
  refine ⟨b, Fz, F, δ, hp, Rr, ?_⟩
  cases q : sTk f δ with
  | bad => rw [q] at P; exact P
  | er x δ' => rw [q] at P; exact P
  | ok a δ' =>
    rw [q] at P
    intro v H' Fz' F' s R' A
    cases a with
    | tmp t => exact False.elim P
    | ref i => exact False.elim P
    | val d => exact h v H' Fz' F' d δ' s R' A (Post.le s P)
theorem app_ok {b : Bk} {Fz : Hp} {F : Nat → List Addr} {δ : List Sl} {σ : L2.St} {H : Hp} {Q : VK} {v w : V} {x : AV} {d : PyData} (R : Rl K b Fz F δ σ H) (A : AvS K Fz σ v x) (r : Rp K Fz w d) (P : Post K mg W b Fz σ Q (appA x d δ)) : rAppend v [w] H Q := by
  cases x with
  | val e => exact P.elim
  | tmp s => exact P.elim
  | ref i =>
    have hv : σ[i]? = some (some v) := A
    have P : Post K mg W b Fz σ Q (appI i d δ) := P
    unfold appI at P
    cases q : δ[i]? with
    | none => simp only [q] at P; exact P.elim
    | some s =>
      cases s with
      | ol xs =>
        simp only [q] at P
        by_cases c : xs.length ≤ cap
        · rw [if_pos c] at P
          obtain ⟨l, vs, g, e1, e2, e3, e4, e5⟩ := R.own q hv
          subst e1
          have e6 : ElL K Fz H (g ++ ([] ++ [])) (vs ++ [w]) (xs ++ [.fz d]) := e3.app (.cons ⟨rfl, r⟩ .nil)
          rw [List.append_nil, List.append_nil] at e6
          have R' := R.mut q hv e6 e5 (fun a ha => by rw [e4]; exact List.mem_cons_of_mem _ ha)
          exact ⟨l, vs, w, rfl, rfl, e2, by rw [e3.len]; exact lt_line c, P .non _ Fz _ (Same.refl _) R' .non⟩
        · rw [if_neg c] at P
          exact P.elim
      | _ => simp only [q] at P; exact P.elim
end
section
variable {X : Cx} {W : WX} {pin : List Nat} {fo fa : List Sl → Rs AV} {o e : Expr} {apos cpos : Pos}
theorem se_app (ho : SE X W pin o fo) (ha : SE X W pin e fa) (hbase : attributeBase o "append" X.env (eval o X.env) = eval o X.env := by rfl) (hline : (apos.endLine == cpos.line) = true := by rfl)
    (hs : starEach [e] X.env = (false, eval e X.env) :: starEach [] X.env := by rfl) (hfew : ((backTo cpos (starEach [e] X.env)).all (fun x => !x.1) && (backToKw cpos (keywordEach [] X.env)).all (fun x => x.1.isSome)
      && decide ([e].length + ([] : List Keyword).length + (if ([] : List Keyword).isEmpty then 0 else 1) < 30)) = true := by rfl) :
    SE X W pin (.Call (.Attribute o "append" apos) [e] [] cpos) (sApp fo fa) :=
  pe_mono (pe_bm PySem.F.plainAttrs_list PySem.F.slot_list_append PySem.F.type_list_append mt_append (se_st ho) (pa_cons (se_tk ha) pa_nil hs) hbase hfew hline hs rfl) fun σ H Q ⟨b, Fz, F, δ, hp, R, P⟩ => by
    refine rd_bind hp R P fun v H1 Fz1 F1 x δ1 s1 R1 A1 P1 => ?_
    by_cases c : isLst δ1 x = true
    · rw [if_pos c] at P1
      refine ⟨isLst_ty R1 A1 c, ?_⟩
      refine rd_val hp R1 P1 fun w H2 Fz2 F2 d δ2 s2 R2 A2 P2 => ?_
      exact app_ok R2 (A1.le s2) A2 P2
    · rw [if_neg c] at P1
      exact P1.elim
/-- xs.pop(i) -/
def popI (i : Nat) (k : Int) (δ : List Sl) : Rs AV := match δ[i]? with
  | some (.ol xs) => (match allFz xs with
    | some ds => (match ixN ds.length k with
      | some j => (match ds[j]? with
        | some d => if ds.length ≤ cap then .ok (.val d) (upS i (.ol ((ds.eraseIdx j).map .fz)) δ) else .bad
        | none => .bad)
      | none => .bad)
    | none => .bad)
  | _ => .bad
def sPop1 (fo fa : List Sl → Rs AV) : List Sl → Rs AV := fun δ => (sSt fo δ).bind fun x δ1 => if isLst δ1 x = true then (sTk fa δ1).val fun d δ2 => match x, d with
  | .ref i, .int k => popI i k δ2
  | _, _ => .bad
  else .bad
theorem pop_ok {K : PySem.W.Frag} {mg : Str → Option Value} {b : Bk} {Fz : Hp} {F : Nat → List Addr} {δ : List Sl} {σ : L2.St} {H : Hp} {Q : VK} {v : V} {i : Nat} {k : Int} (R : Rl K b Fz F δ σ H) (hv : σ[i]? = some (some v)) (P : Post K mg W b Fz σ Q (popI i k δ)) :
    ∃ l vs j u, v = .ref l ∧ H l = some (.lst vs) ∧ ixN vs.length k = some j ∧ vs[j]? = some u ∧ vs.length ≤ cap ∧ Q u (upd H l (.lst (vs.eraseIdx j))) := by
  unfold popI at P
  cases q : δ[i]? with
  | none => simp only [q] at P; exact P.elim
  | some s =>
    cases s with
    | ol xs =>
      simp only [q] at P
      cases q2 : allFz xs with
      | none => simp only [q2] at P; exact P.elim
      | some ds =>
        simp only [q2] at P
        cases q3 : ixN ds.length k with
        | none => simp only [q3] at P; exact P.elim
        | some j =>
          simp only [q3] at P
          cases q4 : ds[j]? with
          | none => simp only [q4] at P; exact P.elim
          | some d =>
            simp only [q4] at P
            by_cases c : ds.length ≤ cap
            · rw [if_pos c] at P
              obtain ⟨l, vs, g, e1, e2, e3, e4, e5⟩ := R.own q hv
              subst e1
              have rp := e3.allFz q2
              obtain ⟨u, hu, ru⟩ := rp.get q4
              have R' := R.mut (g := []) q hv (ElL.ofFz (rp.eraseIdx j)) (by simp) (fun a ha => nomatch ha)
              exact ⟨l, vs, j, u, rfl, e2, by rw [rp.len]; exact q3, hu, by rw [rp.len]; exact c, P u _ Fz _ (Same.refl _) R' ru⟩
            · rw [if_neg c] at P
              exact P.elim
    | _ => simp only [q] at P; exact P.elim
theorem se_pop1 (ho : SE X W pin o fo) (ha : SE X W pin e fa) (hbase : attributeBase o "pop" X.env (eval o X.env) = eval o X.env := by rfl) (hline : (apos.endLine == cpos.line) = true := by rfl)
    (hs : starEach [e] X.env = (false, eval e X.env) :: starEach [] X.env := by rfl) (hfew : ((backTo cpos (starEach [e] X.env)).all (fun x => !x.1) && (backToKw cpos (keywordEach [] X.env)).all (fun x => x.1.isSome)
      && decide ([e].length + ([] : List Keyword).length + (if ([] : List Keyword).isEmpty then 0 else 1) < 30)) = true := by rfl) :
    SE X W pin (.Call (.Attribute o "pop" apos) [e] [] cpos) (sPop1 fo fa) :=
  pe_mono (pe_bm PySem.F.plainAttrs_list PySem.F.slot_list_pop PySem.F.type_list_pop mt_popAt (se_st ho) (pa_cons (se_tk ha) pa_nil hs) hbase hfew hline hs rfl) fun σ H Q ⟨b, Fz, F, δ, hp, R, P⟩ => by
    refine rd_bind hp R P fun v H1 Fz1 F1 x δ1 s1 R1 A1 P1 => ?_
    by_cases c : isLst δ1 x = true
    · rw [if_pos c] at P1
      refine ⟨isLst_ty R1 A1 c, ?_⟩
      refine rd_val hp R1 P1 fun w H2 Fz2 F2 d δ2 s2 R2 A2 P2 => ?_
      cases x with
      | val e => exact P2.elim
      | tmp s => exact P2.elim
      | ref i =>
        cases d with
        | int k =>
          cases (show Rp X.K Fz2 w (.int k) from A2)
          obtain ⟨l, vs, j, u, e1, e2, e3, e4, e5, e6⟩ := pop_ok R2 (show σ[i]? = some (some v) from A1) P2
          obtain ⟨k1, k2, k3, k4⟩ := ixN_seq e3
          have : vs.length ≤ 1000000 := e5
          exact ⟨l, vs, k, j, u, e1, rfl, e2, by omega, by omega, k1, e4, e6⟩
        | _ => exact P2.elim
    · rw [if_neg c] at P1
      exact P1.elim
end
inductive Ot where
  | nx (δ : List Sl) | rt (s : Sl) (δ : List Sl) | bk (δ : List Sl) | ct (δ : List Sl) | er (x : Exn) (δ : List Sl) | bad
section
variable (K : PySem.W.Frag) (mg : Str → Option Value) (W : WX)
def PostXS (b : Bk) (Fz : Hp) (x : Exn) (δ : List Sl) : Prop := ∀ c dd σ' H' Fz' F', Same Fz Fz' → Rl K b Fz' F' δ σ' H' → ExR K mg Fz' H' x c dd → W c dd σ' H'
def PostS (b : Bk) (Fz : Hp) (D : Ends) : Ot → Prop
  | .nx δ => ∀ σ' H' Fz' F', Same Fz Fz' → Rl K b Fz' F' δ σ' H' → D.nx σ' H'
  | .rt s δ => ∀ v σ' H' Fz' F', Same Fz Fz' → Rl K b Fz' F' δ σ' H' → AvR K b Fz' F' H' σ' v (.tmp s) → D.rt v H'
  | .bk δ => ∀ σ' H' Fz' F', Same Fz Fz' → Rl K b Fz' F' δ σ' H' → D.bk σ' H'
  | .ct δ => ∀ σ' H' Fz' F', Same Fz Fz' → Rl K b Fz' F' δ σ' H' → D.ct σ' H'
  | .er x δ => PostXS K mg W b Fz x δ
  | .bad => False
def rdS (pin : List Nat) (f : List Sl → Ot) : TS := fun D σ H => ∃ b Fz F δ, b.pin = pin ∧ Rl K b Fz F δ σ H ∧ PostS K mg W b Fz D (f δ)
end
abbrev SS (X : Cx) (W : WX) (pin : List Nat) (st : Stmt) (f : List Sl → Ot) : Prop := PS X st (rdS X.K X.mg W pin f)
abbrev SSs (X : Cx) (W : WX) (pin : List Nat) (st : List Stmt) (f : List Sl → Ot) : Prop := PSs X st (rdS X.K X.mg W pin f)
theorem ps_mono {X : Cx} {st : Stmt} {t t' : TS} (h : PS X st t) (i : ∀ D σ H, t' D σ H → t D σ H) : PS X st t' := ⟨fun pins s σ H D I q => h.run pins s σ H D I (i D σ H q)⟩
theorem pss_mono {X : Cx} {st : List Stmt} {t t' : TS} (h : PSs X st t) (i : ∀ D σ H, t' D σ H → t D σ H) : PSs X st t' := ⟨fun pins s σ H D I q => h.run pins s σ H D I (i D σ H q)⟩
def Rs.ot {α : Type} (r : Rs α) (k : α → List Sl → Ot) : Ot := match r with
  | .ok a δ => k a δ
  | .er x δ => .er x δ
  | .bad => .bad
def oNext : List Sl → Ot := fun δ => .nx δ
def oSeq (f g : List Sl → Ot) : List Sl → Ot := fun δ => match f δ with
  | .nx δ' => g δ'
  | r => r
def oIf (t : List Sl → Rs Bool) (f g : List Sl → Ot) : List Sl → Ot := fun δ => (t δ).ot fun k δ' => if k = true then f δ' else g δ'
def oDrop (f : List Sl → Rs AV) : List Sl → Ot := fun δ => (f δ).ot fun _ δ' => .nx δ'
def oRet (f : List Sl → Rs AV) : List Sl → Ot := fun δ => (sMv f δ).ot fun a δ' => match a with
  | .val d => .rt (.fz d) δ'
  | .tmp s => .rt s δ'
  | .ref _ => .bad
section
variable {K : PySem.W.Frag} {mg : Str → Option Value} {W : WX} {pin : List Nat} {b : Bk} {Fz Fz1 : Hp}
theorem PostXS.le {x : Exn} {δ : List Sl} (s : Same Fz Fz1) (p : PostXS K mg W b Fz x δ) : PostXS K mg W b Fz1 x δ := fun c dd σ' H' Fz' F' s' R e => p c dd σ' H' Fz' F' (s.trans s') R e
theorem PostXS.at_ {x : Exn} {δ : List Sl} {σ : L2.St} (p : PostXS K mg W b Fz x δ) : PostX K mg W b Fz σ x δ := fun c dd H' Fz' F' s' R e => p c dd σ H' Fz' F' s' R e
theorem PostS.le {D : Ends} {r : Ot} (s : Same Fz Fz1) (p : PostS K mg W b Fz D r) : PostS K mg W b Fz1 D r := by
  cases r with
  | nx δ => exact fun σ' H' Fz' F' s' R => p σ' H' Fz' F' (s.trans s') R
  | rt t δ => exact fun v σ' H' Fz' F' s' R A => p v σ' H' Fz' F' (s.trans s') R A
  | bk δ => exact fun σ' H' Fz' F' s' R => p σ' H' Fz' F' (s.trans s') R
  | ct δ => exact fun σ' H' Fz' F' s' R => p σ' H' Fz' F' (s.trans s') R
  | er x δ => exact PostXS.le s p
  | bad => exact p
/-- behind an expression -/
theorem rdS_bind {f : List Sl → Rs AV} {σ : L2.St} {H : Hp} {F : Nat → List Addr} {δ : List Sl} {k : AV → List Sl → Ot} {D : Ends} {R : VK} (hp : b.pin = pin) (Rr : Rl K b Fz F δ σ H) (P : PostS K mg W b Fz D ((f δ).ot k))
    (h : ∀ v H' Fz' F' a δ', Same Fz Fz' → Rl K b Fz' F' δ' σ H' → AvR K b Fz' F' H' σ v a → PostS K mg W b Fz' D (k a δ') → R v H') : rdE K mg W pin f σ H R := by
  refine ⟨b, Fz, F, δ, hp, Rr, ?_⟩
  cases q : f δ with
  | bad => rw [q] at P; exact P
  | er x δ' => rw [q] at P; exact PostXS.at_ P
  | ok a δ' =>
    rw [q] at P
    exact fun v H' Fz' F' s R' A => h v H' Fz' F' a δ' s R' A (PostS.le s P)
theorem rdS_bindT {t : List Sl → Rs Bool} {σ : L2.St} {H : Hp} {F : Nat → List Addr} {δ : List Sl} {k : Bool → List Sl → Ot} {D : Ends} {R : Bool → Hp → Prop} (hp : b.pin = pin) (Rr : Rl K b Fz F δ σ H) (P : PostS K mg W b Fz D ((t δ).ot k))
    (h : ∀ c H' Fz' F' δ', Same Fz Fz' → Rl K b Fz' F' δ' σ H' → PostS K mg W b Fz' D (k c δ') → R c H') : rdT K mg W pin t σ H R := by
  refine ⟨b, Fz, F, δ, hp, Rr, ?_⟩
  cases q : t δ with
  | bad => rw [q] at P; exact P
  | er x δ' => rw [q] at P; exact PostXS.at_ P
  | ok a δ' =>
    rw [q] at P
    exact fun H' Fz' F' s R' => h a H' Fz' F' δ' s R' (PostS.le s P)
end
section
variable {X : Cx} {W : WX} {pin : List Nat} {st : Stmt} {rest : List Stmt} {e c : Expr} {pos : Pos} {f : List Sl → Rs AV} {t : List Sl → Rs Bool} {u w : List Sl → Ot}
theorem ss_nil : SSs X W pin [] oNext := pss_mono pss_nil fun D σ H ⟨b, Fz, F, δ, hp, R, P⟩ => P σ H Fz F (Same.refl _) R
theorem seq_ok {K : PySem.W.Frag} {mg : Str → Option Value} : ∀ D σ H, rdS K mg W pin (oSeq u w) D σ H → tSeq (rdS K mg W pin u) (rdS K mg W pin w) D σ H := fun D σ H ⟨b, Fz, F, δ, hp, R, P⟩ => by
  refine ⟨b, Fz, F, δ, hp, R, ?_⟩
  unfold oSeq at P
  cases q : u δ with
  | nx δ' =>
    rw [q] at P
    exact fun σ' H' Fz' F' s R' => ⟨b, Fz', F', δ', hp, R', PostS.le s P⟩
  | rt s δ' => rw [q] at P; exact P
  | bk δ' => rw [q] at P; exact P
  | ct δ' => rw [q] at P; exact P
  | er x δ' => rw [q] at P; exact P
  | bad => rw [q] at P; exact P
theorem ss_cons (h1 : SS X W pin st u) (h2 : SSs X W pin rest w) : SSs X W pin (st :: rest) (oSeq u w) := pss_mono (pss_cons h1 h2) seq_ok
theorem ss_one (h1 : SS X W pin st u) : SSs X W pin [st] u := pss_one h1
theorem ss_expr (h : SE X W pin e f) (hs : swapsWith e none pos.line X.env = pure false := by rfl) : SS X W pin (.Expr e pos) (oDrop f) := ps_mono (ps_expr h hs) fun D σ H ⟨b, Fz, F, δ, hp, R, P⟩ =>
  rdS_bind hp R P fun v H' Fz' F' a δ' s R' A P' => P' σ H' Fz' F' (Same.refl _) R'
theorem ss_ret (h : SE X W pin e f) : SS X W pin (.Return (some e) pos) (oRet f) := ps_mono (ps_ret (se_mv h)) fun D σ H ⟨b, Fz, F, δ, hp, R, P⟩ =>
  rdS_bind hp R P fun v H' Fz' F' a δ' s R' A P' => by
    cases a with
    | val d => exact P' v σ H' Fz' F' (Same.refl _) R' ⟨rfl, [], ⟨rfl, v, rfl, A⟩, List.nodup_nil, fun _ z => nomatch z⟩
    | tmp s => exact P' v σ H' Fz' F' (Same.refl _) R' A
    | ref i => exact P'.elim
theorem ss_if {a d : List Stmt} (hc : ST X W pin c t) (ha : SSs X W pin a u) (hb : SSs X W pin d w) : SS X W pin (.If c a d pos) (oIf t u w) := ps_mono (ps_if hc ha hb) fun D σ H ⟨b, Fz, F, δ, hp, R, P⟩ =>
  rdS_bindT hp R P fun k H' Fz' F' δ' s R' P' => by
    by_cases e : k = true
    · rw [if_pos e] at P' ⊢
      exact ⟨b, Fz', F', δ', hp, R', P'⟩
    · rw [if_neg e] at P' ⊢
      exact ⟨b, Fz', F', δ', hp, R', P'⟩
def oWh (t : List Sl → Rs Bool) (f : List Sl → Ot) : Nat → List Sl → Ot
  | 0, _ => .bad
  | n + 1, δ => (t δ).ot fun k δ1 => if k = true then (match f δ1 with
    | .nx δ2 => oWh t f n δ2
    | .ct δ2 => oWh t f n δ2
    | .bk δ2 => .nx δ2
    | r => r) else .nx δ1
theorem ss_while (n : Nat) {body : List Stmt} (hp : PassesOwn (model X.prog X.w) X.A X.env X.xe) (hc : ST X W pin c t) (hb : SSs X W pin body u) : SS X W pin (.While c body [] pos) (oWh t u n) := ps_mono (ps_while hp hc hb) fun D σ H ⟨b, Fz, F, δ, hpin, R, P⟩ => by
  refine ⟨fun m σ H => ∃ Fz F δ, Rl X.K b Fz F δ σ H ∧ PostS X.K X.mg W b Fz D (oWh t u m δ), ⟨n, Fz, F, δ, R, P⟩, ?_⟩
  rintro m σ1 H1 ⟨Fz1, F1, δ1, R1, P1⟩
  cases m with
  | zero => exact P1.elim
  | succ m =>
    refine rdS_bindT hpin R1 P1 fun k H' Fz' F' δ' s R' P' => ?_
    by_cases e : k = true
    · rw [if_pos e] at P' ⊢
      refine ⟨fun σ H => ∃ Fz F δ, Rl X.K b Fz F δ σ H ∧ PostS X.K X.mg W b Fz D (oWh t u m δ), fun σ2 H2 h => ⟨m, Nat.lt_succ_self m, h⟩, b, Fz', F', δ', hpin, R', ?_⟩
      cases q : u δ' with
      | nx δ2 => rw [q] at P'; exact fun σ3 H3 Fz3 F3 s3 R3 => ⟨Fz3, F3, δ2, R3, PostS.le s3 P'⟩
      | ct δ2 => rw [q] at P'; exact fun σ3 H3 Fz3 F3 s3 R3 => ⟨Fz3, F3, δ2, R3, PostS.le s3 P'⟩
      | bk δ2 => rw [q] at P'; exact P'
      | rt s δ2 => rw [q] at P'; exact P'
      | er x δ2 => rw [q] at P'; exact P'
      | bad => rw [q] at P'; exact P'
    · rw [if_neg e] at P' ⊢
      exact P' σ1 H' Fz' F' (Same.refl _) R'
end
end Hb
namespace Hb
open PySem PySem.Spec PyProof.Rows L2
/-- only the slots ts were stored -/
def Stored (ts : List Nat) (σ σ' : L2.St) : Prop := σ'.length = σ.length ∧ ∀ k, k ∉ ts → σ'[k]? = σ[k]?
theorem Stored.refl (ts : List Nat) (σ : L2.St) : Stored ts σ σ := ⟨rfl, fun _ _ => rfl⟩
section
variable (K : PySem.W.Frag) (mg : Str → Option Value) (W : WX)
def PostG (b : Bk) (Fz : Hp) (ts : List Nat) (σ : L2.St) (Q : L2.St → Hp → Prop) : Rs Unit → Prop
  | .ok _ δ => ∀ σ' H' Fz' F', Same Fz Fz' → Rl K b Fz' F' δ σ' H' → Stored ts σ σ' → Q σ' H'
  | .er x δ => PostXS K mg W b Fz x δ
  | .bad => False
def rdG (pin ts : List Nat) (t : AV → List Sl → Rs Unit) : TG := fun v σ H Q => ∃ b Fz F δ a, b.pin = pin ∧ Rl K b Fz F δ σ H ∧ AvR K b Fz F H σ v a ∧ PostG K mg W b Fz ts σ Q (t a δ)
def rdGs (pin ts : List Nat) (t : List PyData → List Sl → Rs Unit) : TGs := fun vs σ H Q => ∃ b Fz F δ ds, b.pin = pin ∧ Rl K b Fz F δ σ H ∧ RpL K Fz vs ds ∧ PostG K mg W b Fz ts σ Q (t ds δ)
end
abbrev SG (X : Cx) (W : WX) (pin ts : List Nat) (e : Expr) (t : AV → List Sl → Rs Unit) : Prop := PG X e (rdG X.K X.mg W pin ts t)
abbrev SGs (X : Cx) (W : WX) (pin ts : List Nat) (es : List Expr) (t : List PyData → List Sl → Rs Unit) : Prop := PGs X es (rdGs X.K X.mg W pin ts t)
theorem pg_mono {X : Cx} {e : Expr} {t t' : TG} (h : PG X e t) (i : ∀ v σ H Q, t' v σ H Q → t v σ H Q) : PG X e t' := ⟨fun pins s σ H v u Q I r q => h.run pins s σ H v u Q I r (i v σ H Q q)⟩
theorem pgs_mono {X : Cx} {e : List Expr} {t t' : TGs} (h : PGs X e t) (i : ∀ v σ H Q, t' v σ H Q → t v σ H Q) : PGs X e t' := ⟨fun pins s σ H v u Q I r q => h.run pins s σ H v u Q I r (i v σ H Q q)⟩
def tgN (i : Nat) (a : AV) (δ : List Sl) : Rs Unit := match a with
  | .val d => .ok () (upS i (.fz d) δ)
  | .tmp s => .ok () (upS i s δ)
  | .ref _ => .bad
def tgNil (ds : List PyData) (δ : List Sl) : Rs Unit := match ds with
  | [] => .ok () δ
  | _ => .bad
def tgCons (t : AV → List Sl → Rs Unit) (u : List PyData → List Sl → Rs Unit) (ds : List PyData) (δ : List Sl) : Rs Unit := match ds with
  | [] => .bad
  | d :: ds => (t (.val d) δ).bind fun _ δ' => u ds δ'
def tgT (n : Nat) (u : List PyData → List Sl → Rs Unit) (a : AV) (δ : List Sl) : Rs Unit := match a with
  | .val (.tuple ds) => if ds.length = n then u ds δ else .bad
  | _ => .bad
section
variable {K : PySem.W.Frag} {mg : Str → Option Value} {W : WX} {pin ts us : List Nat}
theorem PostG.le {b : Bk} {Fz Fz1 : Hp} {σ : L2.St} {Q : L2.St → Hp → Prop} {r : Rs Unit} (s : Same Fz Fz1) (p : PostG K mg W b Fz ts σ Q r) : PostG K mg W b Fz1 ts σ Q r := by
  cases r with
  | ok a δ => exact fun σ' H' Fz' F' s' R e => p σ' H' Fz' F' (s.trans s') R e
  | er x δ => exact PostXS.le s p
  | bad => exact p
theorem upd_slot {σ : L2.St} {i k : Nat} {v : V} (h : k ≠ i) : (σ.set i (some v))[k]? = σ[k]? := List.getElem?_set_ne (Ne.symm h)
/-- a name gets a value -/
theorem Rl.name {b : Bk} {Fz : Hp} {F : Nat → List Addr} {δ : List Sl} {σ : L2.St} {H : Hp} {i : Nat} {v : V} {s : Sl} {g : List Addr} (R : Rl K b Fz F δ σ H) (hi : i ∉ b.pin) (ht : s.tree.isSome = true) (hs : SlH K Fz H [] g (some v) s) (hn : g.Nodup)
    (hg : ∀ a ∈ g, Fz a = none ∧ b.B a = none ∧ H a ≠ none ∧ ∀ i, a ∉ F i) : Rl K b Fz (fun k => if k = i then g else F k) (upS i s δ) (σ.set i (some v)) H := by
  refine R.put (Same.refl _) R.le R.base (List.length_set) (fun k hk => upd_slot hk) (.inr hi) (fun hlt => ?_) (fun x j z => by subst z; cases ht) hn (fun a ha => (hg a ha).1) (fun a ha => (hg a ha).2.1) (fun a ha k _ => (hg a ha).2.2.2 k) (fun a ha => (hg a ha).2.2.1) (fun _ _ _ _ => rfl) (fun k _ a ha => R.offF k a ha) (fun _ _ => rfl) hs.noT
  rw [List.getElem?_set_self (by rw [R.len]; exact hlt)]
  cases s with
  | no => cases ht
  | al x j => cases ht
  | fz d => exact hs
  | ol xs => exact hs
  | od kvs => exact hs
theorem tgN_ok {b : Bk} {Fz : Hp} {F : Nat → List Addr} {δ : List Sl} {σ : L2.St} {H : Hp} {i : Nat} {v : V} {a : AV} {Q : L2.St → Hp → Prop} (hi : i ∈ ts) (hpin : i ∉ b.pin) (R : Rl K b Fz F δ σ H) (A : AvR K b Fz F H σ v a) (P : PostG K mg W b Fz ts σ Q (tgN i a δ)) : Q (σ.set i (some v)) H := by
  have fr : Stored ts σ (σ.set i (some v)) := ⟨List.length_set, fun k hk => upd_slot fun z => hk (by rw [z]; exact hi)⟩
  cases a with
  | val d => exact P _ H Fz _ (Same.refl _) (R.name hpin rfl (g := []) ⟨rfl, v, rfl, A⟩ List.nodup_nil fun _ z => nomatch z) fr
  | tmp s =>
    obtain ⟨ht, g, h1, h2, h3⟩ := A
    exact P _ H Fz _ (Same.refl _) (R.name hpin ht h1 h2 h3) fr
  | ref j => exact P.elim
end
section
variable {X : Cx} {W : WX} {pin ts us : List Nat} {pos : Pos}
theorem sg_name (i : Nat) {x : Str} (hN : X.N.Nodup) (hi : X.N[i]? = some x) (hx : Loc X.env.scope x) (hp : i ∉ pin) (hf : X.fn x = true ∨ X.env.scope.names.lookup x = some .local := by first | exact .inl rfl | exact .inr rfl | assumption) : SG X W pin [i] (.Name x pos) (tgN i) :=
  pg_mono (pg_name hN hi hx hf) fun v σ H Q ⟨b, Fz, F, δ, a, hpin, R, A, P⟩ => tgN_ok (List.mem_singleton.mpr rfl) (by rw [hpin]; exact hp) R A P
theorem sgs_nil : SGs X W pin [] [] tgNil := pgs_mono pgs_nil fun vs σ H Q ⟨b, Fz, F, δ, ds, hpin, R, A, P⟩ => by
  cases A with
  | nil => exact ⟨rfl, P σ H Fz F (Same.refl _) R (Stored.refl _ _)⟩
  | cons h t => exact P.elim
theorem sgs_cons {e : Expr} {es : List Expr} {t : AV → List Sl → Rs Unit} {u : List PyData → List Sl → Rs Unit} (h1 : SG X W pin ts e t) (h2 : SGs X W pin us es u)
    (hs : (assignEach (e :: es) X.env).map (·.2) = assign e X.env :: (assignEach es X.env).map (·.2) := by rfl) : SGs X W pin (ts ++ us) (e :: es) (tgCons t u) := pgs_mono (pgs_cons h1 h2 hs) fun vs σ H Q ⟨b, Fz, F, δ, ds, hpin, R, A, P⟩ => by
  cases A with
  | nil => exact P.elim
  | @cons v0 vs0 d ds h r =>
    refine ⟨_, _, rfl, b, Fz, F, δ, .val d, hpin, R, h, ?_⟩
    have P : PostG X.K X.mg W b Fz (ts ++ us) σ Q ((t (.val d) δ).bind fun _ δ' => u ds δ') := P
    cases q : t (.val d) δ with
    | bad => rw [q] at P; exact P
    | er x δ' => rw [q] at P; exact P
    | ok a δ' =>
      rw [q] at P
      have P : PostG X.K X.mg W b Fz (ts ++ us) σ Q (u ds δ') := P
      intro σ1 H1 Fz1 F1 s1 R1 fr1
      refine ⟨b, Fz1, F1, δ', ds, hpin, R1, r.mono s1, ?_⟩
      cases q2 : u ds δ' with
      | bad => rw [q2] at P; exact P
      | er x δ2 => rw [q2] at P; exact PostXS.le s1 P
      | ok a δ2 =>
        rw [q2] at P
        exact fun σ2 H2 Fz2 F2 s2 R2 fr2 => P σ2 H2 Fz2 F2 (s1.trans s2) R2 ⟨fr2.1.trans fr1.1, fun k hk => (fr2.2 k fun z => hk (List.mem_append_right _ z)).trans (fr1.2 k fun z => hk (List.mem_append_left _ z))⟩
theorem sg_tup {es : List Expr} {k n : Nat} {u : List PyData → List Sl → Rs Unit} (hc : X.calm = true) (h : SGs X W pin ts es u)
    (hn : (assignEach es X.env).length = n := by rfl) (hst : (assignEach es X.env).findIdx? (·.1) = none := by rfl) : SG X W pin ts (.Tuple es k pos) (tgT n u) := pg_mono (pg_tup hc h hn hst) fun v σ H Q ⟨b, Fz, F, δ, a, hpin, R, A, P⟩ => by
  cases a with
  | tmp s => exact P.elim
  | ref i => exact P.elim
  | val d =>
    cases d with
    | tuple ds =>
      have P : PostG X.K X.mg W b Fz ts σ Q (if ds.length = n then u ds δ else .bad) := P
      by_cases c : ds.length = n
      · rw [if_pos c] at P
        cases (show Rp X.K Fz v (.tuple ds) from A) with
        | tup h1 h2 => exact ⟨_, _, rfl, SqT.of (R.le _ _ h1), by rw [h2.len]; exact c, b, Fz, F, δ, ds, hpin, R, h2, P⟩
      · rw [if_neg c] at P
        exact P.elim
    | _ => exact P.elim
def Rs.otU (r : Rs Unit) : Ot := match r with
  | .ok _ δ => .nx δ
  | .er x δ => .er x δ
  | .bad => .bad
def oAsg (f : List Sl → Rs AV) (t : AV → List Sl → Rs Unit) : List Sl → Ot := fun δ => (f δ).ot fun a δ' => (t a δ').otU
theorem asg_ok {K : PySem.W.Frag} {mg : Str → Option Value} {f : List Sl → Rs AV} {t : AV → List Sl → Rs Unit} : ∀ D σ H, rdS K mg W pin (oAsg f t) D σ H → tAsg (rdE K mg W pin f) (rdG K mg W pin ts t) D σ H := fun D σ H ⟨b, Fz, F, δ, hp, R, P⟩ => by
  refine rdS_bind hp R P fun v H' Fz' F' a δ' s R' A P' => ?_
  refine ⟨b, Fz', F', δ', a, hp, R', A, ?_⟩
  cases q : t a δ' with
  | bad => rw [q] at P'; exact P'
  | er x δ2 => rw [q] at P'; exact P'
  | ok u δ2 =>
    rw [q] at P'
    exact fun σ2 H2 Fz2 F2 s2 R2 _ => P' σ2 H2 Fz2 F2 s2 R2
theorem ss_set (i : Nat) {x : Str} {e : Expr} {f : List Sl → Rs AV} {pos' : Pos} (hN : X.N.Nodup) (hi : X.N[i]? = some x) (hx : Loc X.env.scope x) (hp : i ∉ pin) (he : SE X W pin e f) (hs : swapsWith e (some (.Name x pos')) pos.line X.env = pure false := by rfl) (hf : X.fn x = true ∨ X.env.scope.names.lookup x = some .local := by first | exact .inl rfl | exact .inr rfl | assumption) :
    SS X W pin (.Assign [.Name x pos'] e pos) (oAsg f (tgN i)) := ps_mono (ps_set hN hi hx he hs hf) fun D σ H h => by
  obtain ⟨b, Fz, F, δ, hpin, R, P⟩ := h
  refine rdS_bind hpin R P fun v H' Fz' F' a δ' s R' A P' => ?_
  refine tgN_ok (K := X.K) (mg := X.mg) (W := W) (b := b) (ts := [i]) (List.mem_singleton.mpr rfl) (by rw [hpin]; exact hp) R' A ?_
  cases q : tgN i a δ' with
  | bad => rw [q] at P'; exact P'
  | er x δ2 => rw [q] at P'; exact P'
  | ok u δ2 =>
    rw [q] at P'
    exact fun σ2 H2 Fz2 F2 s2 R2 _ => P' σ2 H2 Fz2 F2 s2 R2
theorem ss_asg {tg e : Expr} {f : List Sl → Rs AV} {t : AV → List Sl → Rs Unit} (he : SE X W pin e f) (hg : SG X W pin ts tg t) (hs : swapsWithSole [tg] e pos.line X.env = pure false := by rfl) (hw : swappedStores [tg] e X.env = pure none := by rfl)
    (h1 : (assignEach [tg] X.env).map (·.2) = [assign tg X.env] := by rfl) : SS X W pin (.Assign [tg] e pos) (oAsg f t) := ps_mono (ps_asg he hg hs hw h1) asg_ok
/-- x[i] = v -/
def setA (x y : AV) (d : PyData) (δ : List Sl) : Rs Unit := match x, rdC δ y with
  | .ref k, some (.int i) => (match δ[k]? with
    | some (.ol xs) => (match ixN xs.length i with
      | some j => (match allFz xs with
        | some ds => .ok () (upS k (.ol ((ds.set j d).map .fz)) δ)
        | none => .bad)
      | none => .bad)
    | some (.al x j) => (match δ[x]? with
      | some (.ol es) => (match es[j]? with
        | some (.ow ys) => (match ixN ys.length i with
          | some m => .ok () (δ.set x (.ol (es.set j (.ow (ys.set m d)))))
          | none => .bad)
        | _ => .bad)
      | _ => .bad)
    | _ => .bad)
  | _, _ => .bad
def tgS (fo fi : List Sl → Rs AV) (a : AV) (δ : List Sl) : Rs Unit := match a with
  | .val d => (sSt fo δ).bind fun x δ1 => (sSt fi δ1).bind fun y δ2 => setA x y d δ2
  | _ => .bad
theorem ElL.set_ow {K : PySem.W.Frag} {Fz H : Hp} {a : Addr} {ws : List V} {ys : List PyData} (hr : RpL K Fz ws ys) : ∀ {f : List Addr} {vs : List V} {es : List El} {j : Nat} {xs : List PyData}, ElL K Fz H f vs es → f.Nodup → es[j]? = some (.ow xs) → vs[j]? = some (.ref a) →
    a ∈ f ∧ ElL K Fz (upd H a (.lst ws)) f vs (es.set j (.ow ys))
  | _, _, _, _, _, .nil, _, e, _ => by simp at e
  | _, _, _, 0, xs, .cons (f := f) (g := g) (v := v) h t, nd, e, e2 => by
    simp at e e2
    subst e e2
    obtain ⟨a', us, e3, e4, e5, e6⟩ := h
    cases e3
    subst e4
    rw [List.nodup_append] at nd
    refine ⟨by simp, .cons ⟨a, ws, rfl, rfl, upd_same, hr⟩ (t.keeps (Same.refl _) fun c hc => upd_ne fun z => ?_)⟩
    subst z
    exact nd.2.2 c (by simp) c hc rfl
  | _, _, _, j + 1, xs, .cons (f := f) (g := g) (v := v) (e := e0) h t, nd, e, e2 => by
    rw [List.nodup_append] at nd
    obtain ⟨h1, h2⟩ := ElL.set_ow hr t nd.2.1 (by simpa using e) (by simpa using e2)
    refine ⟨List.mem_append_right _ h1, .cons (h.keeps (Same.refl _) fun c hc => upd_ne fun z => ?_) h2⟩
    subst z
    exact nd.2.2 c hc c h1 rfl
/-- a row of a list of one's own changes -/
theorem Rl.row {K : PySem.W.Frag} {b : Bk} {Fz : Hp} {F : Nat → List Addr} {δ : List Sl} {σ : L2.St} {H : Hp} (R : Rl K b Fz F δ σ H) {x j : Nat} {es : List El} {xs ys : List PyData} {l a : Addr} {vs ws : List V}
    (hs : δ[x]? = some (.ol es)) (hv : σ[x]? = some (some (.ref l))) (hl : H l = some (.lst vs)) (hj : es[j]? = some (.ow xs)) (ha : vs[j]? = some (.ref a)) (hr : RpL K Fz ws ys) : Rl K b Fz F (δ.set x (.ol (es.set j (.ow ys)))) σ (upd H a (.lst ws)) := by
  obtain ⟨l', vs', g, e1, e2, e3, e4⟩ := R.slot x _ hs
  rw [hv] at e1
  cases e1
  rw [hl] at e3
  cases e3
  have nd := R.nd x
  rw [e2] at nd
  obtain ⟨nl, ng⟩ := List.nodup_cons.mp nd
  obtain ⟨h1, h2⟩ := ElL.set_ow hr e4 ng hj ha
  have hal : a ≠ l := fun z => nl (by rw [← z]; exact h1)
  have haF : a ∈ F x := by rw [e2]; exact List.mem_cons_of_mem _ h1
  have hlF : l ∈ F x := by rw [e2]; exact List.mem_cons_self
  have xl : x < δ.length := (List.getElem?_eq_some_iff.mp hs).1
  have ne : ∀ c, Fz c ≠ none → c ≠ a := fun c hc z => hc (by rw [z]; exact R.offF x a haF)
  have neB : ∀ c, b.B c ≠ none → c ≠ a := fun c hc z => hc (by rw [z]; exact R.offB x a haF)
  refine ⟨fun c o e => ?_, fun c o e => ?_, by rw [List.length_set]; exact R.len, fun k t e => ?_, R.nd, R.dj, R.offF, R.offB, fun k c hc => ?_, R.keep, R.f0, R.pin, fun k y m e => ?_, fun k c hc => ?_, R.tb.upd (.inr (R.noT x a haF)), R.tp⟩
  · rw [upd_ne (ne c (by rw [e]; simp))]
    exact R.le c o e
  · rw [upd_ne (neB c (by rw [e]; simp))]
    exact R.base c o e
  · by_cases hk : k = x
    · subst hk
      rw [List.getElem?_set_self xl] at e
      cases e
      rw [hv]
      exact ⟨l, vs, g, rfl, e2, by rw [upd_ne hal.symm]; exact hl, h2⟩
    · rw [List.getElem?_set_ne (Ne.symm hk)] at e
      refine (R.slot k t e).keeps (Same.refl _) (fun c hc => upd_ne fun z => hk (R.dj k x a (by rw [← z]; exact hc) haF)) fun y m ey c hc => upd_ne fun z => ?_
      subst ey
      subst z
      obtain ⟨xs', f1⟩ := R.als k y m e
      obtain ⟨l2, vs2, g2, p1, p2, p3, p4⟩ := R.slot y _ f1
      rw [hc] at p1
      cases p1
      have hyx : y = x := R.dj y x c (by rw [p2]; exact List.mem_cons_self) haF
      subst hyx
      rw [hv] at hc
      cases hc
      exact hal rfl
  · by_cases z : c = a
    · rw [z, upd_same]; simp
    · rw [upd_ne z]; exact R.on k c hc
  · by_cases hk : k = x
    · subst hk
      rw [List.getElem?_set_self xl] at e
      cases e
    · rw [List.getElem?_set_ne (Ne.symm hk)] at e
      obtain ⟨xs', f1⟩ := R.als k y m e
      by_cases hy : y = x
      · subst hy
        exact ⟨_, List.getElem?_set_self xl⟩
      · exact ⟨xs', by rw [List.getElem?_set_ne (Ne.symm hy)]; exact f1⟩
  · by_cases z : c = a
    · rw [z, upd_same]; exact .lst
    · rw [upd_ne z]; exact R.noT k c hc
theorem sg_sub {o i : Expr} {fo fi : List Sl → Rs AV} (ho : SE X W pin o fo) (hi : SE X W pin i fi)
    (ha : ∀ v, assign (.Subscript o i pos) X.env v = (do
      let ov ← holding [v] (eval o X.env)
      let iv ← holding [v, ov] (eval i X.env)
      standAt pos
      holding [v, ov, iv] (setItem ov iv v)
      release [v, ov, iv] []) := by intro _; rfl) : SG X W pin [] (.Subscript o i pos) (tgS fo fi) := pg_mono (pg_sub (se_st ho) (se_st hi) set_list ha) fun v σ H Q ⟨b, Fz, F, δ, a, hpin, R, A, P⟩ => by
  cases a with
  | tmp s => exact P.elim
  | ref i => exact P.elim
  | val d =>
    have A : Rp X.K Fz v d := A
    have P : PostG X.K X.mg W b Fz [] σ Q ((sSt fo δ).bind fun x δ1 => (sSt fi δ1).bind fun y δ2 => setA x y d δ2) := P
    -- the two operands
    have two : ∀ (f : List Sl → Rs AV) (Fz1 : Hp) (F1 : Nat → List Addr) (δ1 : List Sl) (H1 : Hp) (k : AV → List Sl → Rs Unit) (R' : VK), Rl X.K b Fz1 F1 δ1 σ H1 → PostG X.K X.mg W b Fz1 [] σ Q ((sSt f δ1).bind k) →
        (∀ v H' Fz' F' x δ', Same Fz1 Fz' → Rl X.K b Fz' F' δ' σ H' → AvS X.K Fz' σ v x → PostG X.K X.mg W b Fz' [] σ Q (k x δ') → R' v H') → rdE X.K X.mg W pin (sSt f) σ H1 R' := fun f Fz1 F1 δ1 H1 k R' Rr PP h => by
      refine ⟨b, Fz1, F1, δ1, hpin, Rr, ?_⟩
      cases q : sSt f δ1 with
      | bad => rw [q] at PP; exact PP
      | er x δ' => rw [q] at PP; exact PostXS.at_ PP
      | ok a δ' =>
        rw [q] at PP
        intro v H' Fz' F' s R2 A2
        cases a with
        | tmp t => exact absurd q (sSt_notmp _ _ _ _)
        | val d => exact h v H' Fz' F' (.val d) δ' s R2 A2 (PostG.le s PP)
        | ref i => exact h v H' Fz' F' (.ref i) δ' s R2 A2 (PostG.le s PP)
    refine two fo Fz F δ H _ _ R P fun ov H1 Fz1 F1 x δ1 s1 R1 A1 P1 => ?_
    refine two fi Fz1 F1 δ1 H1 _ _ R1 P1 fun iv H2 Fz2 F2 y δ2 s2 R2 A2 P2 => ?_
    have A0 : Rp X.K Fz2 v d := (A.mono s1).mono s2
    have A1 := A1.le s2
    unfold setA at P2
    cases x with
    | val e => cases q : rdC δ2 y <;> exact P2.elim
    | tmp e => exact A1.elim
    | ref k =>
      cases q : rdC δ2 y with
      | none => simp only [q] at P2; exact P2.elim
      | some n =>
        cases n with
        | int n =>
          simp only [q] at P2
          have ei := rpc_int (rdC_ok R2 A2 q)
          have hv : σ[k]? = some (some ov) := A1
          cases q2 : δ2[k]? with
          | none => simp only [q2] at P2; exact P2.elim
          | some t =>
            cases t with
            | ol xs =>
              simp only [q2] at P2
              cases q3 : ixN xs.length n with
              | none => simp only [q3] at P2; exact P2.elim
              | some j =>
                simp only [q3] at P2
                cases q4 : allFz xs with
                | none => simp only [q4] at P2; exact P2.elim
                | some ds =>
                  simp only [q4] at P2
                  obtain ⟨l, vs, g, e1, e2, e3, e4, e5⟩ := R2.own q2 hv
                  subst e1
                  have rp := e3.allFz q4
                  have R' := R2.mut (g := []) q2 hv (ElL.ofFz (rp.set A0 j)) (by simp) (fun a ha => nomatch ha)
                  exact ⟨l, vs, n, j, rfl, ei, e2, by rw [e3.len]; exact q3, P2 _ _ Fz2 _ (Same.refl _) R' (Stored.refl _ _)⟩
            | al x j =>
              simp only [q2] at P2
              cases q3 : δ2[x]? with
              | none => simp only [q3] at P2; exact P2.elim
              | some t =>
                cases t with
                | ol es =>
                  simp only [q3] at P2
                  cases q4 : es[j]? with
                  | none => simp only [q4] at P2; exact P2.elim
                  | some el =>
                    cases el with
                    | fz d' => simp only [q4] at P2; exact P2.elim
                    | ow ys =>
                      simp only [q4] at P2
                      cases q5 : ixN ys.length n with
                      | none => simp only [q5] at P2; exact P2.elim
                      | some m =>
                        simp only [q5] at P2
                        obtain ⟨_, l, c, vs, f1, f2, f3, f4⟩ := R2.slot k _ q2
                        rw [hv] at f4
                        cases f4
                        obtain ⟨g, ⟨c', ws, g1, g2, g3, g4⟩, _⟩ := R2.al q2 q3 q4 hv
                        cases g1
                        have R' := R2.row q3 f1 f2 q4 f3 (g4.set A0 m)
                        exact ⟨c, ws, n, m, rfl, ei, g3, by rw [g4.len]; exact q5, P2 _ _ Fz2 _ (Same.refl _) R' (Stored.refl _ _)⟩
                | _ => simp only [q3] at P2; exact P2.elim
            | _ => simp only [q2] at P2; exact P2.elim
        | _ => simp only [q] at P2; exact P2.elim
end
end Hb
namespace Hb
open PySem PySem.Spec PyProof.Rows L2
/-- J gives the trees ds, one a turn -/
def Wk (K : PySem.W.Frag) (Fz0 : Hp) (J : It) (ds : List PyData) : Prop := ∀ b Fz F δ σ H, Same Fz0 Fz → Rl K b Fz F δ σ H →
  (∀ i, i < ds.length → J.go i H ∧ ∀ x H', J.yld i H x H' → ∃ Fz' d, ds[i]? = some d ∧ Same Fz Fz' ∧ Rl K b Fz' F δ σ H' ∧ Rp K Fz' x d) ∧ J.stop ds.length H
section
variable (K : PySem.W.Frag) (mg : Str → Option Value) (W : WX)
def PostI (b : Bk) (Fz : Hp) (σ : L2.St) (R : It → Hp → Prop) : Rs (List PyData) → Prop
  | .ok ds δ => ∀ J H' Fz' F', Same Fz Fz' → Rl K b Fz' F' δ σ H' → Wk K Fz' J ds → R J H'
  | .er x δ => PostX K mg W b Fz σ x δ
  | .bad => False
def rdI (pin : List Nat) (w : List Sl → Rs (List PyData)) : TI := fun σ H R => ∃ b Fz F δ, b.pin = pin ∧ Rl K b Fz F δ σ H ∧ PostI K mg W b Fz σ R (w δ)
end
abbrev SI (X : Cx) (W : WX) (pin : List Nat) (tg iter : Expr) (w : List Sl → Rs (List PyData)) : Prop := PI X tg iter (rdI X.K X.mg W pin w)
theorem pi_mono {X : Cx} {tg iter : Expr} {t t' : TI} (h : PI X tg iter t) (i : ∀ σ H R, t' σ H R → t σ H R) : PI X tg iter t' := ⟨fun pins s σ H R I q => h.run pins s σ H R I (i σ H R q)⟩
theorem pi_or {X : Cx} {tg iter : Expr} {t t' : TI} (h : PI X tg iter t) (h' : PI X tg iter t') : PI X tg iter (fun σ H R => t σ H R ∨ t' σ H R) := ⟨fun pins s σ H R I q => q.elim (h.run pins s σ H R I) (h'.run pins s σ H R I)⟩
section
variable {K : PySem.W.Frag} {mg : Str → Option Value} {W : WX} {pin : List Nat}
theorem PostI.le {b : Bk} {Fz Fz1 : Hp} {σ : L2.St} {R : It → Hp → Prop} {r : Rs (List PyData)} (s : Same Fz Fz1) (p : PostI K mg W b Fz σ R r) : PostI K mg W b Fz1 σ R r := by
  cases r with
  | ok a δ => exact fun J H' Fz' F' s' R e => p J H' Fz' F' (s.trans s') R e
  | er x δ => exact PostX.le s p
  | bad => exact p
theorem rd_valI {f : List Sl → Rs AV} {σ : L2.St} {H : Hp} {b : Bk} {Fz : Hp} {F : Nat → List Addr} {δ : List Sl} {k : PyData → List Sl → Rs (List PyData)} {Q : It → Hp → Prop} {R : VK} (hp : b.pin = pin) (Rr : Rl K b Fz F δ σ H) (P : PostI K mg W b Fz σ Q ((sTk f δ).val k))
    (h : ∀ v H' Fz' F' d δ', Same Fz Fz' → Rl K b Fz' F' δ' σ H' → Rp K Fz' v d → PostI K mg W b Fz' σ Q (k d δ') → R v H') : rdE K mg W pin (sTk f) σ H R := by
  refine ⟨b, Fz, F, δ, hp, Rr, ?_⟩
  cases q : sTk f δ with
  | bad => rw [q] at P; exact P
  | er x δ' => rw [q] at P; exact P
  | ok a δ' =>
    rw [q] at P
    intro v H' Fz' F' s R' A
    cases a with
    | tmp t => exact False.elim P
    | ref i => exact False.elim P
    | val d => exact h v H' Fz' F' d δ' s R' A (PostI.le s P)
theorem wk_list {Fz0 : Hp} {a : Addr} {vs : List V} {ds : List PyData} (h : SqX K Fz0 a vs) (r : RpL K Fz0 vs ds) : Wk K Fz0 (Itl K a) ds := fun b Fz F δ σ H s R => by
  have hq : SqL K H a vs := (same_sqX (s.trans R.le) h).sq
  refine ⟨fun i hi => ?_, ⟨vs, hq, by rw [r.len]; exact Nat.le_refl _⟩⟩
  obtain ⟨v, e1, e2⟩ := r.get (List.getElem?_eq_getElem hi)
  refine ⟨⟨vs, v, hq, e1⟩, fun x H' y => ?_⟩
  obtain ⟨rfl, y⟩ := y
  have := y vs hq
  rw [e1] at this
  cases this
  exact ⟨Fz, _, List.getElem?_eq_getElem hi, Same.refl _, R, e2.mono s⟩
theorem wk_tup {Fz0 : Hp} {a : Addr} {vs : List V} {ds : List PyData} (h : SqT K Fz0 a vs) (r : RpL K Fz0 vs ds) : Wk K Fz0 (Itt K a) ds := fun b Fz F δ σ H s R => by
  have hq : SqT K H a vs := same_sqT (s.trans R.le) h
  refine ⟨fun i hi => ?_, ⟨vs, hq, by rw [r.len]; exact Nat.le_refl _⟩⟩
  obtain ⟨v, e1, e2⟩ := r.get (List.getElem?_eq_getElem hi)
  refine ⟨⟨vs, v, hq, e1⟩, fun x H' y => ?_⟩
  obtain ⟨rfl, y⟩ := y
  have := y vs hq
  rw [e1] at this
  cases this
  exact ⟨Fz, _, List.getElem?_eq_getElem hi, Same.refl _, R, e2.mono s⟩
def rangeD (lo : Int) (n : Nat) : List PyData := (List.range n).map fun i => .int (lo + (i : Nat))
theorem rangeD_len (lo : Int) (n : Nat) : (rangeD lo n).length = n := by simp [rangeD]
theorem rangeD_at {lo : Int} {n i : Nat} (h : i < n) : (rangeD lo n)[i]? = some (.int (lo + (i : Nat))) := by
  unfold rangeD
  rw [List.getElem?_map, List.getElem?_range h]
  rfl
theorem wk_range {Fz0 : Hp} (lo : Int) (n : Nat) : Wk K Fz0 (Itr lo n) (rangeD lo n) := fun b Fz F δ σ H s R => by
  rw [rangeD_len]
  refine ⟨fun i hi => ⟨hi, fun x H' y => ?_⟩, Nat.le_refl n⟩
  obtain ⟨rfl, rfl⟩ := y
  exact ⟨Fz, _, rangeD_at hi, Same.refl _, R, .int _⟩
def enumD (ds : List PyData) : List PyData := ds.zipIdx.map fun p => .tuple [.int (p.2 : Nat), p.1]
theorem enumD_len (ds : List PyData) : (enumD ds).length = ds.length := by simp [enumD]
theorem enumD_at {ds : List PyData} {i : Nat} {d : PyData} (h : ds[i]? = some d) : (enumD ds)[i]? = some (.tuple [.int (i : Nat), d]) := by
  unfold enumD
  rw [List.getElem?_map, List.getElem?_zipIdx, h]
  simp
theorem wk_enum {Fz0 : Hp} {a : Addr} {vs : List V} {ds : List PyData} (h : SqX K Fz0 a vs) (r : RpL K Fz0 vs ds) : Wk K Fz0 (Ite K a) (enumD ds) := fun b Fz F δ σ H s R => by
  have hq : SqL K H a vs := (same_sqX (s.trans R.le) h).sq
  rw [enumD_len]
  refine ⟨fun i hi => ?_, ⟨vs, hq, by rw [r.len]; exact Nat.le_refl _⟩⟩
  obtain ⟨v, e1, e2⟩ := r.get (List.getElem?_eq_getElem hi)
  refine ⟨⟨vs, v, hq, e1⟩, fun x H' y => ?_⟩
  obtain ⟨T, u, rfl, nT, rfl, y⟩ := y
  have := y vs hq
  rw [e1] at this
  cases this
  obtain ⟨s2, R2⟩ := R.newF nT (.tup [.int (i : Nat), v])
  exact ⟨_, _, enumD_at (List.getElem?_eq_getElem hi), s2, R2, .tup upd_same (.cons (.int _) (.cons (e2.mono (s.trans s2)) .nil))⟩
end
def wSeq (f : List Sl → Rs AV) : List Sl → Rs (List PyData) := fun δ => (sTk f δ).val fun d δ' => match seqD d with
  | some ds => .ok ds δ'
  | none => .bad
def wEnum (f : List Sl → Rs AV) : List Sl → Rs (List PyData) := fun δ => (sTk f δ).val fun d δ' => match d with
  | .list ds => .ok (enumD ds) δ'
  | _ => .bad
def wRng1 (f : List Sl → Rs AV) : List Sl → Rs (List PyData) := fun δ => (sTk f δ).val fun d δ' => match d with
  | .int n => if -(2 ^ 62) ≤ n ∧ n < 2 ^ 62 then .ok (rangeD 0 n.toNat) δ' else .bad
  | _ => .bad
def wRng2 (f g : List Sl → Rs AV) : List Sl → Rs (List PyData) := fun δ => (sTk f δ).val fun d δ1 => (sTk g δ1).val fun e δ2 => match d, e with
  | .int i, .int j => if -(2 ^ 62) ≤ i ∧ i < 2 ^ 62 ∧ -(2 ^ 62) ≤ j ∧ j < 2 ^ 62 then .ok (rangeD i (j - i).toNat) δ2 else .bad
  | _, _ => .bad
section
variable {X : Cx} {W : WX} {pin : List Nat} {f g : List Sl → Rs AV} {e c tg : Expr} {p pos tpos : Pos} {elts : List Expr} {kk : Nat}
theorem si_seq (h : SE X W pin e f) : SI X W pin tg e (wSeq f) := pi_mono (pi_or (pi_list (se_tk h)) (pi_tup (se_tk h))) fun σ H R ⟨b, Fz, F, δ, hp, Rr, P⟩ => by
  have P0 := P
  unfold wSeq at P
  cases q : sTk f δ with
  | bad => rw [q] at P; exact P.elim
  | er x δ' =>
    rw [q] at P
    exact .inl ⟨b, Fz, F, δ, hp, Rr, by rw [q]; exact P⟩
  | ok a δ' =>
    rw [q] at P
    cases a with
    | tmp t => exact P.elim
    | ref i => exact P.elim
    | val d =>
      cases d with
      | list ds =>
        refine .inl ⟨b, Fz, F, δ, hp, Rr, ?_⟩
        rw [q]
        intro v H' Fz' F' s R' A
        cases (show Rp X.K Fz' v (.list ds) from A) with
        | lst h1 h2 => exact ⟨_, rfl, ⟨_, (same_sqX R'.le h1).sq⟩, P (Itl X.K _) H' Fz' F' s R' (wk_list h1 h2)⟩
      | tuple ds =>
        refine .inr ⟨b, Fz, F, δ, hp, Rr, ?_⟩
        rw [q]
        intro v H' Fz' F' s R' A
        cases (show Rp X.K Fz' v (.tuple ds) from A) with
        | tup h1 h2 => exact ⟨_, rfl, ⟨_, SqT.of (R'.le _ _ h1)⟩, P (Itt X.K _) H' Fz' F' s R' (wk_tup (SqT.of h1) h2)⟩
      | _ => exact P.elim
theorem si_rng1 (hg : Gl X "range") (hm : X.mg "range" = none) (h : SE X W pin e f) (hs : starEach [e] X.env = [(false, eval e X.env)] := by rfl) : SI X W pin tg (.Call (.Name "range" p) [e] [] pos) (wRng1 f) :=
  pi_mono (pi_range1 hg hm (pa_cons (se_tk h) pa_nil hs) hs) fun σ H R ⟨b, Fz, F, δ, hp, Rr, P⟩ => by
    refine rd_valI hp Rr P fun v H' Fz' F' d δ' s R' A P' => ?_
    cases d with
    | int n =>
      cases A
      have P' : PostI X.K X.mg W b Fz' σ R (if -(2 ^ 62) ≤ n ∧ n < 2 ^ 62 then .ok (rangeD 0 n.toNat) δ' else .bad) := P'
      by_cases c : -(2 ^ 62) ≤ n ∧ n < 2 ^ 62
      · rw [if_pos c] at P'
        exact ⟨n, rfl, c.1, c.2, P' _ H' Fz' F' (Same.refl _) R' (wk_range 0 n.toNat)⟩
      · rw [if_neg c] at P'
        exact P'.elim
    | _ => exact P'.elim
theorem si_rng2 (hg : Gl X "range") (hm : X.mg "range" = none) (h : SE X W pin e f) (h2 : SE X W pin c g) (hs : starEach [e, c] X.env = [(false, eval e X.env), (false, eval c X.env)] := by rfl) (hs2 : starEach [c] X.env = [(false, eval c X.env)] := by rfl) : SI X W pin tg (.Call (.Name "range" p) [e, c] [] pos) (wRng2 f g) :=
  pi_mono (pi_range2 hg hm (pa_cons (se_tk h) (pa_cons (se_tk h2) pa_nil hs2) (by rw [hs, hs2])) hs hs2) fun σ H R ⟨b, Fz, F, δ, hp, Rr, P⟩ => by
    refine rd_valI hp Rr P fun v H1 Fz1 F1 d δ1 s1 R1 A1 P1 => ?_
    refine rd_valI hp R1 P1 fun w H2 Fz2 F2 e δ2 s2 R2 A2 P2 => ?_
    cases d with
    | int i =>
      cases e with
      | int j =>
        cases A1
        cases A2
        have P2 : PostI X.K X.mg W b Fz2 σ R (if -(2 ^ 62) ≤ i ∧ i < 2 ^ 62 ∧ -(2 ^ 62) ≤ j ∧ j < 2 ^ 62 then .ok (rangeD i (j - i).toNat) δ2 else .bad) := P2
        by_cases c : -(2 ^ 62) ≤ i ∧ i < 2 ^ 62 ∧ -(2 ^ 62) ≤ j ∧ j < 2 ^ 62
        · rw [if_pos c] at P2
          exact ⟨i, j, rfl, c, P2 _ H2 Fz2 F2 (Same.refl _) R2 (wk_range i (j - i).toNat)⟩
        · rw [if_neg c] at P2
          exact P2.elim
      | _ => exact P2.elim
    | _ => exact P2.elim
theorem si_enum (hg : Gl X "enumerate") (hm : X.mg "enumerate" = none) (h : SE X W pin e f) (hs : starEach [e] X.env = [(false, eval e X.env)] := by rfl) : SI X W pin (.Tuple elts kk tpos) (.Call (.Name "enumerate" p) [e] [] pos) (wEnum f) :=
  pi_mono (pi_enum hg hm (pa_cons (se_tk h) pa_nil hs) hs) fun σ H R ⟨b, Fz, F, δ, hp, Rr, P⟩ => by
    refine rd_valI hp Rr P fun v H' Fz' F' d δ' s R' A P' => ?_
    cases d with
    | list ds =>
      cases A with
      | lst h1 h2 => exact ⟨_, _, rfl, (same_sqX R'.le h1).sq, P' _ H' Fz' F' (Same.refl _) R' (wk_enum h1 h2)⟩
    | _ => exact P'.elim
end
def forL (t : AV → List Sl → Rs Unit) (f : List Sl → Ot) : List PyData → List Sl → Ot
  | [], δ => .nx δ
  | d :: r, δ => match t (.val d) δ with
    | .ok _ δ1 => (match f δ1 with
      | .nx δ2 => forL t f r δ2
      | .ct δ2 => forL t f r δ2
      | .bk δ2 => .nx δ2
      | o => o)
    | .er x δ1 => .er x δ1
    | .bad => .bad
def oFor (w : List Sl → Rs (List PyData)) (t : AV → List Sl → Rs Unit) (f : List Sl → Ot) : List Sl → Ot := fun δ => (w δ).ot fun ds δ' => forL t f ds δ'
theorem ss_for {X : Cx} {W : WX} {pin ts : List Nat} {tg iter : Expr} {body : List Stmt} {w : List Sl → Rs (List PyData)} {t : AV → List Sl → Rs Unit} {u : List Sl → Ot} {pos : Pos} (hp : PassesOwn (model X.prog X.w) X.A X.env X.xe) (hc : X.calm = true) (hi : SI X W pin tg iter w) (hg : SG X W pin ts tg t) (hb : SSs X W pin body u)
    (hs : ∀ x, foldedSetIterable iter X.env x = pure x := by intro _; rfl) : SS X W pin (.For tg iter body [] pos) (oFor w t u) := ps_mono (ps_for hp hc hi hg hb hs) fun D σ H ⟨b, Fz, F, δ, hpin, R, P⟩ => by
  unfold oFor at P
  refine ⟨b, Fz, F, δ, hpin, R, ?_⟩
  cases q : w δ with
  | bad => rw [q] at P; exact P
  | er x δ' => rw [q] at P; exact PostXS.at_ P
  | ok ds δ' =>
    rw [q] at P
    have P : PostS X.K X.mg W b Fz D (forL t u ds δ') := P
    intro J H1 Fz1 F1 s1 R1 hw
    refine ⟨fun i m σ H => m = ds.length - i ∧ i ≤ ds.length ∧ ∃ Fz F δ, Same Fz1 Fz ∧ Rl X.K b Fz F δ σ H ∧ PostS X.K X.mg W b Fz D (forL t u (ds.drop i) δ), ⟨ds.length, by simp, Nat.zero_le _, Fz1, F1, δ', Same.refl _, R1, by rw [List.drop_zero]; exact PostS.le s1 P⟩, ?_⟩
    rintro i m σ2 H2 ⟨rfl, hi, Fz2, F2, δ2, s2, R2, P2⟩
    obtain ⟨go, stop⟩ := hw b Fz2 F2 δ2 σ2 H2 s2 R2
    by_cases hlt : i < ds.length
    · obtain ⟨g1, g2⟩ := go i hlt
      refine .inr ⟨g1, fun σ H => ∃ Fz F δ, Same Fz1 Fz ∧ Rl X.K b Fz F δ σ H ∧ PostS X.K X.mg W b Fz D (forL t u (ds.drop (i + 1)) δ), fun σ3 H3 h3 => ⟨ds.length - (i + 1), by omega, rfl, hlt, h3⟩, fun x H3 y => ?_⟩
      obtain ⟨Fz3, d, e1, s3, R3, r3⟩ := g2 x H3 y
      have ed : ds.drop i = d :: ds.drop (i + 1) := by
        rw [List.drop_eq_getElem_cons hlt]
        rw [List.getElem?_eq_getElem hlt] at e1
        rw [Option.some.inj e1]
      rw [ed] at P2
      unfold forL at P2
      refine ⟨b, Fz3, F2, δ2, .val d, hpin, R3, r3, ?_⟩
      cases q2 : t (.val d) δ2 with
      | bad => rw [q2] at P2; exact P2
      | er x δ3 => rw [q2] at P2; exact PostXS.le s3 P2
      | ok a δ3 =>
        simp only [q2] at P2
        intro σ4 H4 Fz4 F4 s4 R4 _
        refine ⟨b, Fz4, F4, δ3, hpin, R4, ?_⟩
        have s24 := s3.trans s4
        cases q3 : u δ3 with
        | nx δ4 =>
          simp only [q3] at P2
          exact fun σ5 H5 Fz5 F5 s5 R5 => ⟨Fz5, F5, δ4, (s2.trans s24).trans s5, R5, PostS.le (s24.trans s5) P2⟩
        | ct δ4 =>
          simp only [q3] at P2
          exact fun σ5 H5 Fz5 F5 s5 R5 => ⟨Fz5, F5, δ4, (s2.trans s24).trans s5, R5, PostS.le (s24.trans s5) P2⟩
        | bk δ4 => simp only [q3] at P2; exact PostS.le s24 P2
        | rt s δ4 => simp only [q3] at P2; exact PostS.le (r := .rt s δ4) s24 P2
        | er x δ4 => simp only [q3] at P2; exact PostS.le (r := .er x δ4) s24 P2
        | bad => simp only [q3] at P2; exact P2
    · have e : i = ds.length := by omega
      subst e
      rw [List.drop_length] at P2
      exact .inl ⟨stop, P2 σ2 H2 Fz2 F2 (Same.refl _) R2⟩
end Hb
namespace Hb
open PySem PySem.Spec PyProof.Rows L2
abbrev gd (b : Bk) (H : Hp) (g : List Addr) : Bk := ⟨Hb.addF b.B H g, b.F0, b.pin, b.so, b.T⟩
section
variable {K : PySem.W.Frag} {b : Bk} {Fz : Hp} {F : Nat → List Addr} {δ : List Sl} {σ : L2.St} {H : Hp}
theorem Rl.guard (R : Rl K b Fz F δ σ H) {g : List Addr} (hg : ∀ a ∈ g, Fz a = none ∧ b.B a = none ∧ ∀ k, a ∉ F k) (hp : ∀ a ∈ g, Pl (H a)) : Rl K (gd b H g) Fz F δ σ H where
  le := R.le
  base := addF_le R.base
  len := R.len
  slot := R.slot
  nd := R.nd
  dj := R.dj
  offF := R.offF
  offB := fun i a ha => by
    show Hb.addF b.B H g a = none
    rw [addF_out (fun z => (hg a z).2.2 i ha)]
    exact R.offB i a ha
  on := R.on
  keep := fun a ha => by
    have ha : Hb.addF b.B H g a ≠ none := ha
    show Fz a = b.F0 a ∨ ((∃ xs, Hb.addF b.B H g a = some (.tup xs)) ∧ Fz a = Hb.addF b.B H g a)
    by_cases q : a ∈ g
    · left
      rw [(hg a q).1]
      cases e : b.F0 a with
      | none => rfl
      | some o => exact absurd (hg a q).2.1 (R.f0 a (by rw [e]; simp))
    · rw [addF_out q] at ha ⊢
      exact R.keep a ha
  f0 := fun a ha => by
    have h := R.f0 a ha
    show Hb.addF b.B H g a ≠ none
    rw [addF_out fun z => h (hg a z).2.1]
    exact h
  pin := R.pin
  als := R.als
  noT := R.noT
  tb := fun p hq => ⟨(R.tb p hq).1, (R.tb p hq).2.1, by
    show Hb.addF b.B H g p.1 = none
    rw [addF_out fun z => R.tb.tbl hq (hp _ z)]
    exact (R.tb p hq).2.2⟩
  tp := R.tp
theorem Rl.guarded {H' Fz' : Hp} {F' : Nat → List Addr} {δ' : List Sl} {σ' : L2.St} {g : List Addr} (R : Rl K (gd b H g) Fz' F' δ' σ' H') (hB : ∀ a ∈ g, b.B a = none) (f0 : ∀ a, b.F0 a ≠ none → b.B a ≠ none) (hH : ∀ a ∈ g, H a ≠ none) (hT : ∀ a ∈ g, Pl (H a)) :
    ∀ a ∈ g, H' a = H a ∧ Fz' a = none ∧ ∀ k, a ∉ F' k := fun a ha => by
  have e : (gd b H g).B a = H a := addF_in ha
  have n : (gd b H g).B a ≠ none := by rw [e]; exact hH a ha
  refine ⟨?_, ?_, fun k hk => n (R.offB k a hk)⟩
  · cases q : H a with
    | none => exact absurd q (hH a ha)
    | some o => exact R.base a o (e.trans q)
  · rcases R.keep a n with k | ⟨⟨xs, k⟩, _⟩
    · rw [k]
      cases q : b.F0 a with
      | none => rfl
      | some o => exact absurd (hB a ha) (f0 a (by rw [q]; simp))
    · rw [e] at k
      exact ((hT a ha).tup k).elim
theorem Rl.unguard {H' : Hp} {g : List Addr} (R : Rl K (gd b H g) Fz F δ σ H') (hB : ∀ a ∈ g, b.B a = none) (f0 : ∀ a, b.F0 a ≠ none → b.B a ≠ none) : Rl K b Fz F δ σ H' where
  le := R.le
  base := fun a o e => R.base a o (by
    show Hb.addF b.B H g a = some o
    rw [addF_out fun z => by rw [hB a z] at e; cases e]
    exact e)
  len := R.len
  slot := R.slot
  nd := R.nd
  dj := R.dj
  offF := R.offF
  offB := fun i a ha => by
    have h : Hb.addF b.B H g a = none := R.offB i a ha
    by_cases q : a ∈ g
    · exact hB a q
    · rw [addF_out q] at h
      exact h
  on := R.on
  keep := fun a ha => by
    have eb : (gd b H g).B a = b.B a := addF_out fun z => ha (hB a z)
    have h := R.keep a (by rw [eb]; exact ha)
    rw [eb] at h
    exact h
  f0 := f0
  pin := R.pin
  als := R.als
  noT := R.noT
  tb := fun p hq => ⟨(R.tb p hq).1, (R.tb p hq).2.1, by
    have h : Hb.addF b.B H g p.1 = none := (R.tb p hq).2.2
    by_cases q : p.1 ∈ g
    · exact hB _ q
    · rwa [addF_out q] at h⟩
  tp := R.tp
/-- what nobody here knows of changes -/
theorem Rl.other (R : Rl K b Fz F δ σ H) {D : Addr} {o : HO} (h1 : Fz D = none) (h2 : b.B D = none) (h3 : ∀ k, D ∉ F k) (h4 : Pl (H D)) : Rl K b Fz F δ σ (upd H D o) where
  le := fun a x e => by
    rw [upd_ne fun z => by rw [z, h1] at e; cases e]
    exact R.le a x e
  base := fun a x e => by
    rw [upd_ne fun z => by rw [z, h2] at e; cases e]
    exact R.base a x e
  len := R.len
  slot := fun i s e => (R.slot i s e).keeps (Same.refl _) (fun a ha => upd_ne fun z => h3 i (by rw [← z]; exact ha)) fun x j ej a ha => upd_ne fun z => by
    subst ej
    subst z
    obtain ⟨xs, hx⟩ := R.als i x j e
    obtain ⟨l, vs, g, p1, p2, _⟩ := R.slot x _ hx
    rw [ha] at p1
    cases p1
    exact h3 x (by rw [p2]; exact List.mem_cons_self)
  nd := R.nd
  dj := R.dj
  offF := R.offF
  offB := R.offB
  on := fun i a ha => by
    rw [upd_ne fun z => h3 i (by rw [← z]; exact ha)]
    exact R.on i a ha
  keep := R.keep
  f0 := R.f0
  pin := R.pin
  als := R.als
  noT := fun i a ha => by
    rw [upd_ne fun z => h3 i (by rw [← z]; exact ha)]
    exact R.noT i a ha
  tb := R.tb.upd (.inr h4)
  tp := R.tp
def plainS : Option Sl → Bool
  | some .no => true
  | some (.fz _) => true
  | _ => false
def okW (vs : List Nat) (δ : List Sl) : Bool := vs.all fun v => plainS δ[v]?
def wipeD (vs : List Nat) (δ : List Sl) : List Sl := vs.foldr (fun v δ => δ.set v .no) δ
def unw (vs : List Nat) (δ δ' : List Sl) : List Sl := vs.foldr (fun v δ' => upS v (δ[v]?.getD .no) δ') δ'
theorem Rl.wipe1 (R : Rl K b Fz F δ σ H) {v : Nat} (hv : plainS δ[v]? = true) (hp : v ∉ b.pin) : Rl K b Fz F (δ.set v .no) (σ.set v none) H := by
  have hF : F v = [] := by
    cases q : δ[v]? with
    | none => rw [q] at hv; cases hv
    | some s =>
      have h := R.slot v s q
      rw [q] at hv
      cases s with
      | no => exact h
      | fz d => exact h.1
      | _ => cases hv
  have hx : ∀ (x : Nat) xs, δ[x]? = some (.ol xs) → x ≠ v := fun x xs e z => by
    rw [z] at e
    rw [e] at hv
    cases hv
  refine ⟨R.le, R.base, by rw [List.length_set, List.length_set]; exact R.len, fun i s e => ?_, R.nd, R.dj, R.offF, R.offB, R.on, R.keep, R.f0, fun i hi => ?_, fun i x j e => ?_, R.noT, R.tb, R.tp⟩
  · by_cases q : i = v
    · subst q
      have hl : i < δ.length := by
        have := (List.getElem?_eq_some_iff.mp e).1
        rwa [List.length_set] at this
      rw [List.getElem?_set_self hl] at e
      cases e
      exact hF
    · rw [List.getElem?_set_ne (Ne.symm q)] at e
      have h := R.slot i s e
      rw [List.getElem?_set_ne (Ne.symm q)]
      cases s with
      | al x j =>
        obtain ⟨h0, a, c, ws, h1, h2⟩ := h
        obtain ⟨xs, e2⟩ := R.als i x j e
        exact ⟨h0, a, c, ws, by rw [List.getElem?_set_ne (Ne.symm (hx x xs e2))]; exact h1, h2⟩
      | no => exact h
      | fz d => exact h
      | ol xs => exact h
      | od kvs => exact h
  · rw [List.getElem?_set_ne fun z => hp (by rw [z]; exact hi)]
    exact R.pin i hi
  · by_cases q : i = v
    · subst q
      have hl : i < δ.length := by
        have := (List.getElem?_eq_some_iff.mp e).1
        rwa [List.length_set] at this
      rw [List.getElem?_set_self hl] at e
      cases e
    · rw [List.getElem?_set_ne (Ne.symm q)] at e
      obtain ⟨xs, e2⟩ := R.als i x j e
      exact ⟨xs, by rw [List.getElem?_set_ne (Ne.symm (hx x xs e2))]; exact e2⟩
theorem plain_wipe {v : Nat} {δ : List Sl} (h : plainS δ[v]? = true) : ∀ vs : List Nat, plainS (wipeD vs δ)[v]? = true
  | [] => h
  | w :: vs => by
    show plainS ((wipeD vs δ).set w .no)[v]? = true
    have ih := plain_wipe h vs
    by_cases e : v = w
    · subst e
      by_cases hl : v < (wipeD vs δ).length
      · rw [List.getElem?_set_self hl]; rfl
      · rw [List.getElem?_eq_none (by omega)] at ih
        cases ih
    · rw [List.getElem?_set_ne (Ne.symm e)]
      exact ih
theorem Rl.wipe (R : Rl K b Fz F δ σ H) : ∀ {vs : List Nat}, okW vs δ = true → (∀ v ∈ vs, v ∉ b.pin) → Rl K b Fz F (wipeD vs δ) (L2.wipe σ vs) H
  | [], _, _ => R
  | v :: vs, h, hp => by
    have h' : plainS δ[v]? = true ∧ okW vs δ = true := by
      unfold okW at h ⊢
      rwa [List.all_cons, Bool.and_eq_true] at h
    exact (R.wipe h'.2 fun w hw => hp w (List.mem_cons_of_mem _ hw)).wipe1 (plain_wipe h'.1 vs) (hp v List.mem_cons_self)
theorem wipe_get {σ : L2.St} {k : Nat} : ∀ {vs : List Nat}, k ∉ vs → (L2.wipe σ vs)[k]? = σ[k]?
  | [], _ => rfl
  | v :: vs, h => by
    unfold L2.wipe
    rw [List.getElem?_set_ne fun z => h (by rw [z]; exact List.mem_cons_self)]
    exact wipe_get fun z => h (List.mem_cons_of_mem _ z)
theorem wipe_in {σ : L2.St} {k : Nat} : ∀ {vs : List Nat}, k ∈ vs → k < σ.length → (L2.wipe σ vs)[k]? = some none
  | v :: vs, h, hl => by
    unfold L2.wipe
    by_cases e : k = v
    · subst e
      rw [List.getElem?_set_self (by rw [L2.wipe_length]; exact hl)]
    · rw [List.getElem?_set_ne (Ne.symm e)]
      exact wipe_in ((List.mem_cons.mp h).resolve_left e) hl
theorem wipe_eq {σ σ2 : L2.St} {vs : List Nat} (hl : σ2.length = σ.length) (h : ∀ k, k ∉ vs → σ2[k]? = σ[k]?) : L2.wipe σ2 vs = L2.wipe σ vs := by
  refine List.ext_getElem? fun k => ?_
  by_cases q : k ∈ vs
  · by_cases hk : k < σ.length
    · rw [wipe_in q hk, wipe_in q (by rw [hl]; exact hk)]
    · rw [List.getElem?_eq_none (by rw [L2.wipe_length]; omega), List.getElem?_eq_none (by rw [L2.wipe_length]; omega)]
  · rw [wipe_get q, wipe_get q]
    exact h k q
def rst (vs : List Nat) (σ σ2 : L2.St) : L2.St := vs.foldr (fun v τ => τ.set v (σ[v]?.join)) σ2
theorem rst_len (vs : List Nat) (σ σ2 : L2.St) : (rst vs σ σ2).length = σ2.length := by
  induction vs with
  | nil => rfl
  | cons v vs ih =>
    show ((rst vs σ σ2).set v _).length = _
    rw [List.length_set, ih]
theorem rst_eq {vs : List Nat} {σ σ2 : L2.St} (hl : σ2.length = σ.length) (h : ∀ k, k ∉ vs → σ2[k]? = σ[k]?) : rst vs σ σ2 = σ := by
  have key : ∀ ws : List Nat, ∀ k, (k ∈ ws → (rst ws σ σ2)[k]? = σ[k]?) ∧ (k ∉ ws → (rst ws σ σ2)[k]? = σ2[k]?) := by
    intro ws
    induction ws with
    | nil => exact fun k => ⟨(fun z => nomatch z), fun _ => rfl⟩
    | cons v ws ih =>
      intro k
      have e : rst (v :: ws) σ σ2 = (rst ws σ σ2).set v (σ[v]?.join) := rfl
      rw [e]
      by_cases q : k = v
      · subst q
        refine ⟨fun _ => ?_, fun z => absurd List.mem_cons_self z⟩
        by_cases hk : k < σ.length
        · rw [List.getElem?_set_self (by rw [rst_len]; omega), List.getElem?_eq_getElem hk]
          rfl
        · rw [List.getElem?_eq_none (by rw [List.length_set, rst_len]; omega), List.getElem?_eq_none (by omega)]
      · rw [List.getElem?_set_ne (Ne.symm q)]
        exact ⟨fun z => (ih k).1 ((List.mem_cons.mp z).resolve_left q), fun z => (ih k).2 fun y => z (List.mem_cons_of_mem _ y)⟩
  refine List.ext_getElem? fun k => ?_
  by_cases q : k ∈ vs
  · exact (key vs k).1 q
  · rw [(key vs k).2 q]
    exact h k q
/-- the outer slots come back -/
theorem Rl.unwipe {δ' : List Sl} {σ2 : L2.St} (R2 : Rl K b Fz F δ' σ2 H) (hl : σ2.length = σ.length) : ∀ {vs : List Nat}, (∀ v ∈ vs, v ∉ b.pin) → (∀ v ∈ vs, ∀ s, δ[v]? = some s → SlH K Fz H [] [] (σ[v]?.join) s ∧ (∀ x j, s ≠ .al x j)) →
    ∃ F', Rl K b Fz F' (unw vs δ δ') (rst vs σ σ2) H ∧ ∀ k a, a ∈ F' k → a ∈ F k
  | [], _, _ => ⟨F, R2, fun _ _ h => h⟩
  | v :: vs, hp, hs => by
    obtain ⟨F1, R1, h1⟩ := Rl.unwipe R2 hl (vs := vs) (fun w hw => hp w (List.mem_cons_of_mem _ hw)) fun w hw => hs w (List.mem_cons_of_mem _ hw)
    have e1 : rst (v :: vs) σ σ2 = (rst vs σ σ2).set v (σ[v]?.join) := rfl
    have e2 : unw (v :: vs) δ δ' = upS v (δ[v]?.getD .no) (unw vs δ δ') := rfl
    rw [e1, e2]
    refine ⟨fun k => if k = v then [] else F1 k, R1.put (Same.refl _) R1.le R1.base List.length_set (fun k hk => List.getElem?_set_ne (Ne.symm hk)) (.inr (hp v List.mem_cons_self)) (fun hlt => ?_) (fun x j z => ?_) List.nodup_nil (fun _ z => nomatch z) (fun _ z => nomatch z) (fun _ z => nomatch z) (fun _ z => nomatch z) (fun _ _ _ _ => rfl) (fun k _ a ha => R1.offF k a ha) (fun _ _ => rfl), fun k a ha => ?_⟩
    · rw [List.getElem?_set_self (by rw [R1.len]; exact hlt)]
      cases q : δ[v]? with
      | none => exact rfl
      | some s =>
        obtain ⟨g1, g2⟩ := hs v List.mem_cons_self s q
        cases s with
        | al x j => exact absurd rfl (g2 x j)
        | no => exact g1
        | fz d => exact g1
        | ol xs => exact g1
        | od kvs => exact g1
    · cases q : δ[v]? with
      | none => rw [q] at z; cases z
      | some s =>
        rw [q] at z
        exact absurd z ((hs v List.mem_cons_self s q).2 x j)
    · have ha : a ∈ (if k = v then [] else F1 k) := ha
      by_cases q : k = v
      · rw [if_pos q] at ha; cases ha
      · rw [if_neg q] at ha
        exact h1 k a ha
end
abbrev W0 : WX := fun _ _ _ _ => False
/-- an item for the list: a tree, or (w) a list of its own -/
def elOf (w : Bool) : AV → Option El
  | .val d => some (.fz d)
  | .tmp (.ol xs) => if w = true then (allFz xs).map .ow else none
  | _ => none
def lcL (w : Bool) (vs : List Nat) (t : AV → List Sl → Rs Unit) (tt : List Sl → Rs Bool) (f : List Sl → Rs AV) : List PyData → List El → List Sl → Rs (List El)
  | [], es, δ => .ok es δ
  | d :: r, es, δ => if okW vs δ = true then (match t (.val d) (wipeD vs δ) with
    | .ok _ δ1 => (match tt δ1 with
      | .ok k δ2 => if k = true then (match f δ2 with
        | .ok a δ3 => (match elOf w a with
          | some e => if es.length ≤ cap then lcL w vs t tt f r (es ++ [e]) (unw vs δ δ3) else .bad
          | none => .bad)
        | _ => .bad) else lcL w vs t tt f r es (unw vs δ δ2)
      | _ => .bad)
    | _ => .bad) else .bad
def sLc (w : Bool) (wi : List Sl → Rs (List PyData)) (vs : List Nat) (t : AV → List Sl → Rs Unit) (tt : List Sl → Rs Bool) (f : List Sl → Rs AV) : List Sl → Rs AV := fun δ => (wi δ).bind fun ds δ1 => (lcL w vs t tt f ds [] δ1).bind fun es δ2 => .ok (.tmp (.ol es)) δ2
def tOk : List Sl → Rs Bool := fun δ => .ok true δ
theorem elOf_ok {K : PySem.W.Frag} {b : Bk} {Fz : Hp} {F : Nat → List Addr} {σ : L2.St} {H : Hp} {w : Bool} {a : AV} {e : El} {y : V} (A : AvR K b Fz F H σ y a) (h : elOf w a = some e) :
    ∃ g, ElR K Fz H g y e ∧ g.Nodup ∧ ∀ a ∈ g, Fz a = none ∧ b.B a = none ∧ H a ≠ none ∧ ∀ i, a ∉ F i := by
  cases a with
  | val d => cases h; exact ⟨[], ⟨rfl, A⟩, List.nodup_nil, fun _ z => nomatch z⟩
  | ref i => cases h
  | tmp s =>
    cases s with
    | ol xs =>
      unfold elOf at h
      by_cases c : w = true
      · simp only [if_pos c] at h
        cases q : allFz xs with
        | none => rw [q] at h; cases h
        | some ds =>
          rw [q] at h
          cases h
          obtain ⟨_, g, ⟨l, vs, g', e1, e2, e3, e4⟩, hn, hg⟩ := A
          cases e1
          have rp := e4.allFz q
          refine ⟨[l], ⟨l, vs, rfl, rfl, e3, rp⟩, by simp, fun c hc => hg c ?_⟩
          rw [List.mem_singleton] at hc
          rw [hc, e2]
          exact List.mem_cons_self
      · simp only [if_neg c] at h
        cases h
    | _ => cases h
theorem lc_ok {K : PySem.W.Frag} {mg : Str → Option Value} {W : WX} {pin ts vs : List Nat} {w : Bool} {wi : List Sl → Rs (List PyData)} {t : AV → List Sl → Rs Unit} {tt : List Sl → Rs Bool} {f : List Sl → Rs AV} {tT : TT} (hv : ∀ v ∈ vs, v ∉ pin) (hts : ∀ v ∈ ts, v ∈ vs) (hT : ∀ σ H Q, rdT K mg W0 pin tt σ H Q → tT σ H Q) :
    ∀ σ H Q, rdE K mg W pin (sLc w wi vs t tt f) σ H Q → tLc (rdI K mg W pin wi) (rdG K mg W0 pin ts t) tT (rdE K mg W0 pin f) vs σ H Q := fun σ H Q ⟨b, Fz, F, δ, hpin, R, P⟩ => by
  refine ⟨b, Fz, F, δ, hpin, R, ?_⟩
  unfold sLc at P
  cases q : wi δ with
  | bad => rw [q] at P; exact P
  | er x δ' => rw [q] at P; exact P
  | ok ds δ1 =>
    rw [q] at P
    have P : Post K mg W b Fz σ Q ((lcL w vs t tt f ds [] δ1).bind fun es δ2 => .ok (.tmp (.ol es)) δ2) := P
    intro J H1 Fz1 F1 s1 R1 hw D hD
    obtain ⟨d1, d2, d3⟩ := R1.offN hD
    refine ⟨fun i m H => m = ds.length - i ∧ i ≤ ds.length ∧ ∃ Fz F δ acc es g, Same Fz1 Fz ∧ Rl K b Fz F δ σ H ∧ H D = some (.lst acc) ∧ ElL K Fz H g acc es ∧ (D :: g).Nodup ∧ (∀ a ∈ D :: g, Fz a = none ∧ b.B a = none ∧ H a ≠ none ∧ ∀ k, a ∉ F k) ∧ Post K mg W b Fz σ Q ((lcL w vs t tt f (ds.drop i) es δ).bind fun es δ2 => .ok (.tmp (.ol es)) δ2),
      ⟨ds.length, by simp, Nat.zero_le _, Fz1, F1, δ1, [], [], [], Same.refl _, R1.new hD _, upd_same, .nil, by simp, fun a ha => ?_, by rw [List.drop_zero]; exact P.le s1⟩, ?_⟩
    · rw [List.mem_singleton] at ha
      subst ha
      exact ⟨d1, d2, by rw [upd_same]; simp, d3⟩
    rintro i m H2 ⟨rfl, hi, Fz2, F2, δ2, acc, es, g, s2, R2, hacc, hes, hnd, hg, P2⟩
    have gB : ∀ a ∈ D :: g, b.B a = none := fun a ha => (hg a ha).2.1
    have gH : ∀ a ∈ D :: g, H2 a ≠ none := fun a ha => (hg a ha).2.2.1
    have gT : ∀ a ∈ D :: g, Pl (H2 a) := fun a ha => by
      rcases List.mem_cons.mp ha with z | z
      · rw [z, hacc]; exact .lst
      · exact hes.noT a z
    have Rg := R2.guard (g := D :: g) (fun a ha => ⟨(hg a ha).1, (hg a ha).2.1, (hg a ha).2.2.2⟩) gT
    obtain ⟨go, stop⟩ := hw _ Fz2 F2 δ2 σ H2 s2 Rg
    by_cases hlt : i < ds.length
    · obtain ⟨g1, g2⟩ := go i hlt
      refine .inr ⟨g1, fun H => ∃ Fz F δ acc es g, Same Fz1 Fz ∧ Rl K b Fz F δ σ H ∧ H D = some (.lst acc) ∧ ElL K Fz H g acc es ∧ (D :: g).Nodup ∧ (∀ a ∈ D :: g, Fz a = none ∧ b.B a = none ∧ H a ≠ none ∧ ∀ k, a ∉ F k) ∧ Post K mg W b Fz σ Q ((lcL w vs t tt f (ds.drop (i + 1)) es δ).bind fun es δ2 => .ok (.tmp (.ol es)) δ2),
        fun H3 h3 => ⟨ds.length - (i + 1), by omega, rfl, hlt, h3⟩, fun x H3 y => ?_⟩
      obtain ⟨Fz3, d, e1, s3, R3, r3⟩ := g2 x H3 y
      have ed : ds.drop i = d :: ds.drop (i + 1) := by
        rw [List.drop_eq_getElem_cons hlt]
        rw [List.getElem?_eq_getElem hlt] at e1
        rw [Option.some.inj e1]
      rw [ed] at P2
      unfold lcL at P2
      by_cases cw : okW vs δ2 = true
      · rw [if_pos cw] at P2
        have hvb : ∀ v ∈ vs, v ∉ b.pin := by rw [hpin]; exact hv
        have R4 := R3.wipe cw hvb
        -- how it ends for a state behind the turn
        have back : ∀ {δ5 : List Sl} {σ5 : L2.St} {H5 Fz5 : Hp} {F5 : Nat → List Addr}, Same Fz2 Fz5 → Rl K (gd b H2 (D :: g)) Fz5 F5 δ5 σ5 H5 → σ5.length = σ.length → (∀ k, k ∉ vs → σ5[k]? = σ[k]?) → ∃ F6, Rl K b Fz5 F6 (unw vs δ2 δ5) σ H5 ∧ ∀ k a, a ∈ F6 k → a ∈ F5 k := by
          intro δ5 σ5 H5 Fz5 F5 s25 R5 hl5 fr5
          have R6 := R5.unguard gB R2.f0
          obtain ⟨F6, R7, h7⟩ := Rl.unwipe (σ := σ) (δ := δ2) R6 hl5 (vs := vs) hvb fun v hvv s hs => by
            have h0 := R2.slot v s hs
            have hpl : plainS δ2[v]? = true := by
              unfold okW at cw
              exact List.all_eq_true.mp cw v hvv
            rw [hs] at hpl
            cases s with
            | no => exact ⟨rfl, fun x j z => nomatch z⟩
            | fz d' =>
              obtain ⟨_, v', k1, k2⟩ := h0
              exact ⟨⟨rfl, v', k1, k2.mono s25⟩, fun x j z => nomatch z⟩
            | _ => cases hpl
          rw [rst_eq hl5 fr5] at R7
          exact ⟨F6, R7, h7⟩
        have fits : ∀ {δ5 : List Sl} {σ5 : L2.St} {H5 Fz5 : Hp} {F5 : Nat → List Addr}, Rl K (gd b H2 (D :: g)) Fz5 F5 δ5 σ5 H5 → ∀ a ∈ D :: g, H5 a = H2 a ∧ Fz5 a = none ∧ ∀ k, a ∉ F5 k := fun R5 => R5.guarded gB R2.f0 gH gT
        refine ⟨gd b H2 (D :: g), Fz3, F2, wipeD vs δ2, .val d, hpin, R4, r3, ?_⟩
        cases q2 : t (.val d) (wipeD vs δ2) with
        | bad => simp only [q2] at P2; exact P2
        | er x δ3 => simp only [q2] at P2; exact P2.elim
        | ok u δ3 =>
          simp only [q2] at P2
          intro σ4 H4 Fz4 F4 s4 R5 fr
          have hl4 : σ4.length = σ.length := by rw [fr.1, L2.wipe_length]
          have fr4 : ∀ k, k ∉ vs → σ4[k]? = σ[k]? := fun k hk => (fr.2 k fun z => hk (hts k z)).trans (wipe_get hk)
          refine ⟨wipe_eq hl4 fr4, ?_⟩
          have s24 : Same Fz2 Fz4 := s3.trans s4
          refine hT _ _ _ ⟨gd b H2 (D :: g), Fz4, F4, δ3, hpin, R5, ?_⟩
          cases q3 : tt δ3 with
          | bad => simp only [q3] at P2; exact P2.elim
          | er x δ4 => simp only [q3] at P2; exact P2.elim
          | ok k δ4 =>
            simp only [q3] at P2
            intro H5 Fz5 F5 s5 R6
            by_cases ck : k = true
            · rw [if_pos ck] at P2 ⊢
              refine ⟨gd b H2 (D :: g), Fz5, F5, δ4, hpin, R6, ?_⟩
              cases q4 : f δ4 with
              | bad => simp only [q4] at P2; exact P2.elim
              | er x δ5 => simp only [q4] at P2; exact P2.elim
              | ok a δ5 =>
                simp only [q4] at P2
                cases q5 : elOf w a with
                | none => simp only [q5] at P2; exact P2.elim
                | some e =>
                  simp only [q5] at P2
                  by_cases cl : es.length ≤ cap
                  · rw [if_pos cl] at P2
                    intro y H6 Fz6 F6 s6 R7 A
                    have s26 : Same Fz2 Fz6 := (s24.trans s5).trans s6
                    obtain ⟨ge, he, hne, hge⟩ := elOf_ok A q5
                    obtain ⟨F7, R8, h7⟩ := back s26 R7 hl4 fr4
                    have fit := fits R7
                    have fD := fit D List.mem_cons_self
                    have eD : H6 D = some (.lst acc) := fD.1.trans hacc
                    refine ⟨acc, eD, by rw [hes.len]; exact lt_line cl, ?_⟩
                    have gnot : ∀ a ∈ ge, a ∉ D :: g := fun a ha z => by
                      have h1 : (gd b H2 (D :: g)).B a = none := (hge a ha).2.1
                      have h2 : Hb.addF b.B H2 (D :: g) a = H2 a := addF_in z
                      have h3 : H2 a = none := h2.symm.trans h1
                      exact gH a z h3
                    have geB : ∀ a ∈ ge, b.B a = none := fun a ha => by
                      have h1 : Hb.addF b.B H2 (D :: g) a = none := (hge a ha).2.1
                      rwa [addF_out (gnot a ha)] at h1
                    have neD : ∀ a ∈ g, a ≠ D := fun a ha z => (List.nodup_cons.mp hnd).1 (by rw [← z]; exact ha)
                    have neD2 : ∀ a ∈ ge, a ≠ D := fun a ha z => gnot a ha (by rw [z]; exact List.mem_cons_self)
                    have R9 := R8.other (D := D) (o := .lst (acc ++ [y])) fD.2.1 (gB D List.mem_cons_self) (fun k hk => fD.2.2 k (h7 k D hk)) (by rw [fD.1.trans hacc]; exact .lst)
                    have E1 : ElL K Fz6 (upd H6 D (.lst (acc ++ [y]))) g acc es := hes.keeps s26 fun a ha => by
                      rw [upd_ne (neD a ha)]
                      exact (fit a (List.mem_cons_of_mem _ ha)).1
                    have E2 : ElL K Fz6 (upd H6 D (.lst (acc ++ [y]))) (ge ++ []) [y] [e] := .cons (he.keeps (Same.refl _) fun a ha => upd_ne (neD2 a ha)) .nil
                    rw [List.append_nil] at E2
                    refine ⟨Fz6, F7, _, acc ++ [y], es ++ [e], g ++ ge, s2.trans s26, R9, upd_same, E1.app E2, ?_, fun a ha => ?_, P2.le s26⟩
                    · rw [List.nodup_cons, List.nodup_append]
                      refine ⟨fun z => ?_, (List.nodup_cons.mp hnd).2, hne, fun a ha c hc z => ?_⟩
                      · rcases List.mem_append.mp z with z | z
                        · exact (List.nodup_cons.mp hnd).1 z
                        · exact gnot D z List.mem_cons_self
                      · subst z
                        exact gnot a hc (List.mem_cons_of_mem _ ha)
                    · have cases3 : a = D ∨ a ∈ g ∨ a ∈ ge := by
                        rcases List.mem_cons.mp ha with z | z
                        · exact .inl z
                        · exact .inr (List.mem_append.mp z)
                      rcases cases3 with z | z | z
                      · subst z
                        exact ⟨fD.2.1, gB a List.mem_cons_self, by rw [upd_same]; simp, fun k hk => fD.2.2 k (h7 k a hk)⟩
                      · have fa := fit a (List.mem_cons_of_mem _ z)
                        exact ⟨fa.2.1, gB a (List.mem_cons_of_mem _ z), by rw [upd_ne (neD a z), fa.1]; exact gH a (List.mem_cons_of_mem _ z), fun k hk => fa.2.2 k (h7 k a hk)⟩
                      · have fa := hge a z
                        exact ⟨fa.1, geB a z, by rw [upd_ne (neD2 a z)]; exact fa.2.2.1, fun k hk => fa.2.2.2 k (h7 k a hk)⟩
                  · rw [if_neg cl] at P2
                    exact P2.elim
            · rw [if_neg ck] at P2 ⊢
              have s25 : Same Fz2 Fz5 := s24.trans s5
              obtain ⟨F7, R8, h7⟩ := back s25 R6 hl4 fr4
              have fit := fits R6
              refine ⟨Fz5, F7, _, acc, es, g, s2.trans s25, R8, (fit D List.mem_cons_self).1.trans hacc, hes.keeps s25 fun a ha => (fit a (List.mem_cons_of_mem _ ha)).1, hnd, fun a ha => ?_, P2.le s25⟩
              have fa := fit a ha
              exact ⟨fa.2.1, gB a ha, by rw [fa.1]; exact gH a ha, fun k hk => fa.2.2 k (h7 k a hk)⟩
      · rw [if_neg cw] at P2
        exact P2.elim
    · have e : i = ds.length := by omega
      subst e
      rw [List.drop_length] at P2
      refine .inl ⟨stop, ?_⟩
      exact P2 (.ref D) H2 Fz2 F2 (Same.refl _) R2 ⟨rfl, D :: g, ⟨D, acc, g, rfl, rfl, hacc, hes⟩, hnd, fun a ha => hg a ha⟩
section
variable {X : Cx} {W : WX} {pin ts : List Nat} {elt tg iter : Expr} {ifs : List Expr} {scope : Scope} {own : List (Str × Nat)} {pos : Pos} {wi : List Sl → Rs (List PyData)} {t : AV → List Sl → Rs Unit} {tt : List Sl → Rs Bool} {f : List Sl → Rs AV}
/-- the block's context -/
abbrev BX (X : Cx) (scope : Scope) (s : Shared) (H : Hp) (C : Addr) (cl : List (Str × Addr)) (fp : List Addr) : Cx := X.blk s H scope (compEnvC scope cl C X.env) fp
abbrev STs (X : Cx) (pin : List Nat) (ifs : List Expr) (tt : List Sl → Rs Bool) : Prop := PTs X ifs (rdT X.K X.mg W0 pin tt)
theorem pts_mono {X : Cx} {es : List Expr} {t t' : TT} (h : PTs X es t) (i : ∀ σ H Q, t' σ H Q → t σ H Q) : PTs X es t' := ⟨fun pins s σ H Q I q => h.run pins s σ H Q I (i σ H Q q)⟩
theorem sts_nil {X : Cx} : STs X pin [] tOk := pts_mono pts_nil fun σ H Q ⟨b, Fz, F, δ, hp, R, P⟩ => P H Fz F (Same.refl _) R
theorem sts_one {X : Cx} {c : Expr} (h : ST X W0 pin c tt) : STs X pin [c] tt := pts_one h
theorem se_lc (w : Bool) (hc : X.calm = true) (hN : X.N.Nodup) (hi : SI X W pin tg iter wi) (ok : blkC X.N X.env.scope scope own = true) (hv : ∀ v ∈ own.map (·.2), v ∉ pin) (hts : ∀ v ∈ ts, v ∈ own.map (·.2))
    (hg : ∀ s H C cl fp, SG (BX X scope s H C cl fp) W0 pin ts tg t) (ht : ∀ s H C cl fp, STs (BX X scope s H C cl fp) pin ifs tt) (he : ∀ s H C cl fp, SE (BX X scope s H C cl fp) W0 pin elt f) (hs : ∀ x, foldedSetIterable iter X.env x = pure x := by intro _; rfl) :
    SE X W pin (.ListComp elt [⟨tg, iter, ifs, 0⟩] scope pos) (sLc w wi (own.map (·.2)) t tt f) :=
  pe_mono (pe_lc hc hN hi (blkOk_by ok) hg ht he hs) (lc_ok hv hts fun _ _ _ h => h)
end
end Hb
namespace Hb
open PySem PySem.Spec PyProof.Rows L2
/-- an argument: a tree that stands still; the slot k by reference; a new thing of the callee's own -/
inductive Ar where
  | fz (d : PyData) | io (k : Nat) | own (s : Sl)
def ArH (K : PySem.W.Frag) (Fz H : Hp) (σ : L2.St) (f : List Addr) (v : V) : Ar → Prop
  | .fz d => f = [] ∧ Rp K Fz v d
  | .io k => f = [] ∧ σ[k]? = some (some v)
  | .own s => s.tree.isSome = true ∧ SlH K Fz H [] f (some v) s
theorem ArH.noT {K : PySem.W.Frag} {Fz H : Hp} {σ : L2.St} {f : List Addr} {v : V} {a : Ar} (h : ArH K Fz H σ f v a) : ∀ c ∈ f, Pl (H c) := fun c hc => by
  cases a with
  | fz d => rw [h.1] at hc; cases hc
  | io k => rw [h.1] at hc; cases hc
  | own s => exact h.2.noT c hc
structure ArOk (K : PySem.W.Frag) (b : Bk) (Fz : Hp) (F : Nat → List Addr) (H : Hp) (σ : L2.St) (vs : List V) (ars : List Ar) (G : Nat → List Addr) : Prop where
  len : vs.length = ars.length
  at_ : ∀ (j : Nat) (a : Ar), ars[j]? = some a → ∃ v, vs[j]? = some v ∧ ArH K Fz H σ (G j) v a
  nd : ∀ j, (G j).Nodup
  dj : ∀ i j a, a ∈ G i → a ∈ G j → i = j
  off : ∀ j a, a ∈ G j → Fz a = none ∧ b.B a = none ∧ H a ≠ none ∧ ∀ k, a ∉ F k
section
variable (K : PySem.W.Frag) (mg : Str → Option Value) (W : WX)
def PostAr (b : Bk) (Fz : Hp) (σ : L2.St) (Q : List V → Hp → Prop) : Rs (List Ar) → Prop
  | .ok ars δ => ∀ vs H' Fz' F' G, Same Fz Fz' → Rl K b Fz' F' δ σ H' → ArOk K b Fz' F' H' σ vs ars G → Q vs H'
  | .er x δ => PostX K mg W b Fz σ x δ
  | .bad => False
def rdAr (pin : List Nat) (f : List Sl → Rs (List Ar)) : TA := fun σ H Q => ∃ b Fz F δ, b.pin = pin ∧ Rl K b Fz F δ σ H ∧ PostAr K mg W b Fz σ Q (f δ)
end
abbrev SAr (X : Cx) (W : WX) (pin : List Nat) (es : List Expr) (f : List Sl → Rs (List Ar)) : Prop := PA X es (rdAr X.K X.mg W pin f)
def rNil : List Sl → Rs (List Ar) := fun δ => .ok [] δ
def arOf : AV → Option Ar
  | .val d => some (.fz d)
  | .tmp s => some (.own s)
  | .ref _ => none
/-- a value, or a new thing -/
def rCons (f : List Sl → Rs AV) (g : List Sl → Rs (List Ar)) : List Sl → Rs (List Ar) := fun δ => (f δ).bind fun a δ1 => match arOf a with
  | some r => (g δ1).bind fun rs δ2 => .ok (r :: rs) δ2
  | none => .bad
/-- a name by reference -/
def rIo (k : Nat) (g : List Sl → Rs (List Ar)) : List Sl → Rs (List Ar) := fun δ => (sVar k δ).bind fun _ δ1 => (g δ1).bind fun rs δ2 => .ok (.io k :: rs) δ2
section
variable {K : PySem.W.Frag} {mg : Str → Option Value} {W : WX} {pin : List Nat}
theorem PostAr.le {b : Bk} {Fz Fz1 : Hp} {σ : L2.St} {Q : List V → Hp → Prop} {r : Rs (List Ar)} (s : Same Fz Fz1) (p : PostAr K mg W b Fz σ Q r) : PostAr K mg W b Fz1 σ Q r := by
  cases r with
  | ok a δ => exact fun v H' Fz' F' G s' R e => p v H' Fz' F' G (s.trans s') R e
  | er x δ => exact PostX.le s p
  | bad => exact p
theorem arOk_nil {b : Bk} {Fz : Hp} {F : Nat → List Addr} {H : Hp} {σ : L2.St} : ArOk K b Fz F H σ [] [] (fun _ => []) := ⟨rfl, fun j a h => by simp at h, fun _ => List.nodup_nil, fun _ _ _ h => (nomatch h), fun _ _ h => (nomatch h)⟩
/-- one more argument ahead of the rest, which was reckoned while its thing belonged to the ground -/
theorem ArOk.cons {b : Bk} {Fz1 Fz2 : Hp} {F1 F2 : Nat → List Addr} {H1 H2 : Hp} {δ2 : List Sl} {σ : L2.St} {v : V} {vs : List V} {a : Ar} {ars : List Ar} {g : List Addr} {G : Nat → List Addr} (hs : Same Fz1 Fz2) (h1 : ArH K Fz1 H1 σ g v a) (hn : g.Nodup)
    (hg : ∀ c ∈ g, Fz1 c = none ∧ b.B c = none ∧ H1 c ≠ none ∧ ∀ k, c ∉ F1 k) (f0 : ∀ c, b.F0 c ≠ none → b.B c ≠ none) (R2 : Rl K (gd b H1 g) Fz2 F2 δ2 σ H2) (h2 : ArOk K (gd b H1 g) Fz2 F2 H2 σ vs ars G) :
    ArOk K b Fz2 F2 H2 σ (v :: vs) (a :: ars) (fun j => match j with
      | 0 => g
      | j + 1 => G j) := by
  have fit := R2.guarded (fun c hc => (hg c hc).2.1) f0 (fun c hc => (hg c hc).2.2.1) h1.noT
  have notg : ∀ j c, c ∈ G j → c ∉ g := fun j c hc z => by
    have e1 : Hb.addF b.B H1 g c = none := (h2.off j c hc).2.1
    rw [addF_in z] at e1
    exact (hg c z).2.2.1 e1
  refine ⟨congrArg Nat.succ h2.len, fun j r e => ?_, fun j => ?_, fun i j c hi hj => ?_, fun j c hc => ?_⟩
  · cases j with
    | zero =>
      simp at e
      subst e
      refine ⟨v, rfl, ?_⟩
      cases a with
      | fz d => exact ⟨h1.1, h1.2.mono hs⟩
      | io k => exact h1
      | own s => exact ⟨h1.1, h1.2.keeps hs (fun c hc => (fit c hc).1) fun x j ej _ hx => by
          have := h1.1
          rw [ej] at this
          cases this⟩
    | succ j =>
      obtain ⟨u, e1, e2⟩ := h2.at_ j r (by simpa using e)
      exact ⟨u, by simpa using e1, e2⟩
  · cases j with
    | zero => exact hn
    | succ j => exact h2.nd j
  · cases i with
    | zero =>
      cases j with
      | zero => rfl
      | succ j => exact absurd hi (notg j c hj)
    | succ i =>
      cases j with
      | zero => exact absurd hj (notg i c hi)
      | succ j => exact congrArg Nat.succ (h2.dj i j c hi hj)
  · cases j with
    | zero =>
      obtain ⟨e1, e2, e3⟩ := fit c hc
      exact ⟨e2, (hg c hc).2.1, by rw [e1]; exact (hg c hc).2.2.1, e3⟩
    | succ j =>
      obtain ⟨e1, e2, e3⟩ := h2.off j c hc
      have e2 : Hb.addF b.B H1 g c = none := e2
      rw [addF_out (notg j c hc)] at e2
      exact ⟨e1, e2, e3⟩
end
section
variable {X : Cx} {W : WX} {pin : List Nat} {f : List Sl → Rs AV} {g : List Sl → Rs (List Ar)} {e : Expr} {es : List Expr}
theorem sr_nil : SAr X W pin [] rNil := pa_mono pa_nil fun σ H Q ⟨b, Fz, F, δ, hp, R, P⟩ => P [] H Fz F _ (Same.refl _) R arOk_nil
/-- the rest, while things of the ground's -/
theorem rest_ok {K : PySem.W.Frag} {mg : Str → Option Value} {b : Bk} {Fz1 : Hp} {F1 : Nat → List Addr} {δ1 : List Sl} {σ : L2.St} {H1 : Hp} {Q : List V → Hp → Prop} {v : V} {a : Ar} {gs : List Addr} (hp : b.pin = pin) (R1 : Rl K b Fz1 F1 δ1 σ H1) (h1 : ArH K Fz1 H1 σ gs v a) (hn : gs.Nodup)
    (hg : ∀ c ∈ gs, Fz1 c = none ∧ b.B c = none ∧ H1 c ≠ none ∧ ∀ k, c ∉ F1 k) (P : PostAr K mg W b Fz1 σ Q ((g δ1).bind fun rs δ2 => .ok (a :: rs) δ2)) : rdAr K mg W pin g σ H1 fun vs H2 => Q (v :: vs) H2 := by
  refine ⟨gd b H1 gs, Fz1, F1, δ1, hp, R1.guard (fun c hc => ⟨(hg c hc).1, (hg c hc).2.1, (hg c hc).2.2.2⟩) h1.noT, ?_⟩
  have un : ∀ {Fz' F' δ' H'}, Rl K (gd b H1 gs) Fz' F' δ' σ H' → Rl K b Fz' F' δ' σ H' := fun R => R.unguard (fun c hc => (hg c hc).2.1) R1.f0
  cases q : g δ1 with
  | bad => rw [q] at P; exact P
  | er x δ' =>
    rw [q] at P
    exact fun c dd H' Fz' F' s R e => P c dd H' Fz' F' s (un R) e
  | ok ars δ' =>
    rw [q] at P
    exact fun vs H' Fz' F' G s R A => P (v :: vs) H' Fz' F' _ s (un R) (ArOk.cons s h1 hn hg R1.f0 R A)
theorem sr_cons (h : SE X W pin e f) (h2 : SAr X W pin es g) (hs : starEach (e :: es) X.env = (false, eval e X.env) :: starEach es X.env := by rfl) : SAr X W pin (e :: es) (rCons f g) := pa_mono (pa_cons h h2 hs) fun σ H Q ⟨b, Fz, F, δ, hp, R, P⟩ => by
  refine ⟨b, Fz, F, δ, hp, R, ?_⟩
  unfold rCons at P
  cases q : f δ with
  | bad => rw [q] at P; exact P
  | er x δ' => rw [q] at P; exact P
  | ok a δ1 =>
    rw [q] at P
    intro v H1 Fz1 F1 s1 R1 A
    have P := PostAr.le s1 P
    cases a with
    | ref i => exact P.elim
    | val d => exact rest_ok hp R1 (a := .fz d) (gs := []) ⟨rfl, A⟩ List.nodup_nil (fun _ z => nomatch z) P
    | tmp s =>
      obtain ⟨ht, gs, k1, k2, k3⟩ := A
      exact rest_ok hp R1 (a := .own s) (gs := gs) ⟨ht, k1⟩ k2 k3 P
theorem sr_io (k : Nat) {x : Str} {pos : Pos} (hN : X.N[k]? = some x) (hv : Vis X.env.scope x) (h2 : SAr X W pin es g) (hd : (x == ("__debug__" : Str)) = false := by decide) (hcd : (x == ("__classdict__" : Str)) = false := by decide)
    (hs : starEach (.Name x pos :: es) X.env = (false, eval (.Name x pos) X.env) :: starEach es X.env := by rfl) : SAr X W pin (.Name x pos :: es) (rIo k g) := pa_mono (pa_cons (pe_var hN hv hd hcd) h2 hs) fun σ H Q ⟨b, Fz, F, δ, hp, R, P⟩ => by
  unfold rIo at P
  have hvar : ∃ v, σ[k]? = some (some v) ∧ ∃ a, sVar k δ = .ok a δ := by
    cases q : sVar k δ with
    | bad => rw [q] at P; exact P.elim
    | er x δ' => unfold sVar at q; split at q <;> cases q
    | ok a δ' =>
      unfold sVar at q
      cases q2 : δ[k]? with
      | none => rw [q2] at q; cases q
      | some s =>
        have h := R.slot k s q2
        rw [q2] at q
        cases s with
        | no => cases q
        | fz d => cases q; obtain ⟨_, v, e1, _⟩ := h; exact ⟨v, join_some e1, _, rfl⟩
        | ol xs => cases q; obtain ⟨a, _, _, e1, _⟩ := h; exact ⟨_, join_some e1, _, rfl⟩
        | od kvs => cases q; obtain ⟨a, e1, _⟩ := h; exact ⟨_, join_some e1, _, rfl⟩
        | al y j => cases q; obtain ⟨_, a, c, vs, _, _, _, e1⟩ := h; exact ⟨_, join_some e1, _, rfl⟩
  obtain ⟨v, e1, a, e2⟩ := hvar
  rw [e2] at P
  exact ⟨v, e1, rest_ok hp R (a := .io k) (gs := []) ⟨rfl, e1⟩ List.nodup_nil (fun _ z => nomatch z) P⟩
end
inductive FR where
  | ok (r : Sl) (δ : List Sl) | er (x : Exn) (δ : List Sl) | bad
section
variable (K : PySem.W.Frag) (mg : Str → Option Value)
def PostF (b : Bk) (Fz : Hp) (vs : List V) (Q : VK) (E : XK) : FR → Prop
  | .ok r δ => ∀ v H' Fz' F', Same Fz Fz' → Rl K b Fz' F' δ (vs.map some) H' → AvR K b Fz' F' H' (vs.map some) v (.tmp r) → Q v H'
  | .er x δ => ∀ c dd H' Fz' F', Same Fz Fz' → Rl K b Fz' F' δ (vs.map some) H' → ExR K mg Fz' H' x c dd → E c dd H'
  | .bad => False
/-- the promise: n parameters -/
def spF (n : Nat) (f : List Sl → FR) : Sp := fun vs H Q E => vs.length = n ∧ ∃ b Fz F δ, Rl K b Fz F δ (vs.map some) H ∧ PostF K mg b Fz vs Q E (f δ)
end
def argS (δ : List Sl) : Ar → Option Sl
  | .fz d => some (.fz d)
  | .own s => some s
  | .io k => match δ[k]? with
    | some (.fz d) => some (.fz d)
    | some (.ol xs) => some (.ol xs)
    | some (.od kvs) => some (.od kvs)
    | _ => none
def argsS (δ : List Sl) : List Ar → Option (List Sl)
  | [] => some []
  | a :: r => match argS δ a, argsS δ r with
    | some s, some l => some (s :: l)
    | _, _ => none
/-- the slots that were handed over -/
def iosOf (δ : List Sl) : List Ar → List Nat
  | [] => []
  | .io k :: r => (match δ[k]? with
    | some (.ol _) => k :: iosOf δ r
    | some (.od _) => k :: iosOf δ r
    | _ => iosOf δ r)
  | _ :: r => iosOf δ r
/-- .. and come back -/
def clr (ks : List Nat) (δ : List Sl) : List Sl := ks.foldr (fun k δ => upS k .no δ) δ
def noAl : Sl → Sl
  | .al _ _ => .no
  | s => s
def putB (ks : List Nat) : List Ar → List Sl → List Sl → List Sl
  | .io k :: r, s :: l, δ => putB ks r l (if k ∈ ks then upS k (noAl s) δ else δ)
  | .fz _ :: r, _ :: l, δ => putB ks r l δ
  | .own _ :: r, _ :: l, δ => putB ks r l δ
  | _, _, δ => δ
def AV.ofSl : Sl → AV
  | .fz d => .val d
  | s => .tmp s
def backS (ars : List Ar) (δ' δ : List Sl) : List Sl := putB (iosOf δ ars) ars δ' (clr (iosOf δ ars) δ)
def callF (f : List Sl → FR) (ars : List Ar) (δ : List Sl) : Rs AV := if (iosOf δ ars).Nodup then (match argsS δ ars with
  | some δa => (match f δa with
    | .ok r δ' => .ok (AV.ofSl r) (backS ars δ' δ)
    | .er x δ' => .er x (backS ars δ' δ)
    | .bad => .bad)
  | none => .bad) else .bad
def sCall (f : List Sl → FR) (dd : List PyData) (g : List Sl → Rs (List Ar)) : List Sl → Rs AV := fun δ => (g δ).bind fun ars δ1 => callF f (ars ++ dd.map .fz) δ1
section
variable {δ : List Sl}
def ownS : Option Sl → Bool
  | some (.ol _) => true
  | some (.od _) => true
  | _ => false
theorem ios_cons_io {k : Nat} {r : List Ar} : iosOf δ (.io k :: r) = if ownS δ[k]? = true then k :: iosOf δ r else iosOf δ r := by
  cases q : δ[k]? with
  | none => simp [iosOf, q, ownS]
  | some s => cases s <;> simp [iosOf, q, ownS]
theorem ios_mem {k : Nat} (c : ownS δ[k]? = true) : ∀ {ars : List Ar} {j : Nat}, ars[j]? = some (.io k) → k ∈ iosOf δ ars
  | [], _, h => by simp at h
  | a :: r, 0, h => by
    simp at h
    subst h
    rw [ios_cons_io, if_pos c]
    exact List.mem_cons_self
  | a :: r, j + 1, h => by
    have ih := ios_mem c (ars := r) (j := j) (by simpa using h)
    cases a with
    | fz d => exact ih
    | own s => exact ih
    | io m =>
      rw [ios_cons_io]
      by_cases e : ownS δ[m]? = true
      · rw [if_pos e]; exact List.mem_cons_of_mem _ ih
      · rw [if_neg e]; exact ih
theorem ios_uniq {k : Nat} (c : ownS δ[k]? = true) : ∀ {ars : List Ar} {i j : Nat}, (iosOf δ ars).Nodup → ars[i]? = some (.io k) → ars[j]? = some (.io k) → i = j
  | [], _, _, _, h, _ => by simp at h
  | a :: r, 0, 0, _, _, _ => rfl
  | a :: r, 0, j + 1, nd, h, h2 => by
    simp at h
    subst h
    rw [ios_cons_io, if_pos c] at nd
    exact absurd (ios_mem c (ars := r) (j := j) (by simpa using h2)) (List.nodup_cons.mp nd).1
  | a :: r, i + 1, 0, nd, h, h2 => by
    simp at h2
    subst h2
    rw [ios_cons_io, if_pos c] at nd
    exact absurd (ios_mem c (ars := r) (j := i) (by simpa using h)) (List.nodup_cons.mp nd).1
  | a :: r, i + 1, j + 1, nd, h, h2 => by
    have nd' : (iosOf δ r).Nodup := by
      cases a with
      | fz d => exact nd
      | own s => exact nd
      | io m =>
        rw [ios_cons_io] at nd
        by_cases e : ownS δ[m]? = true
        · rw [if_pos e] at nd; exact (List.nodup_cons.mp nd).2
        · rw [if_neg e] at nd; exact nd
    exact congrArg Nat.succ (ios_uniq c nd' (by simpa using h) (by simpa using h2))
theorem argsS_get : ∀ {ars : List Ar} {l : List Sl}, argsS δ ars = some l → l.length = ars.length ∧ ∀ (j : Nat) (a : Ar), ars[j]? = some a → ∃ s, l[j]? = some s ∧ argS δ a = some s
  | [], _, h => by
    cases h
    exact ⟨rfl, fun j a h => by simp at h⟩
  | a :: r, l, h => by
    unfold argsS at h
    cases q1 : argS δ a with
    | none => rw [q1] at h; cases h
    | some s =>
      cases q2 : argsS δ r with
      | none => rw [q1, q2] at h; cases h
      | some l' =>
        rw [q1, q2] at h
        cases h
        obtain ⟨e1, e2⟩ := argsS_get q2
        refine ⟨by simp [e1], fun j b hb => ?_⟩
        cases j with
        | zero =>
          simp at hb
          subst hb
          exact ⟨s, rfl, q1⟩
        | succ j =>
          obtain ⟨t, e3, e4⟩ := e2 j b (by simpa using hb)
          exact ⟨t, by simpa using e3, e4⟩
end
section
variable {K : PySem.W.Frag} {mg : Str → Option Value} {b : Bk} {Fz : Hp} {F : Nat → List Addr} {δ : List Sl} {σ : L2.St} {H : Hp}
theorem Rl.clear (R : Rl K b Fz F δ σ H) : ∀ ks : List Nat, Rl K b Fz (fun k => if k ∈ ks then [] else F k) (clr ks δ) σ H
  | [] => by
    have e : (fun k => if k ∈ ([] : List Nat) then [] else F k) = F := by funext k; simp
    rw [e]
    exact R
  | m :: ks => by
    have R1 := R.clear ks
    have R2 := R1.put (i := m) (s := .no) (g := []) (Same.refl _) R1.le R1.base rfl (fun _ _ => rfl) (.inl rfl) (fun _ => rfl) (fun x j z => nomatch z) List.nodup_nil (fun _ z => nomatch z) (fun _ z => nomatch z) (fun _ z => nomatch z) (fun _ z => nomatch z) (fun _ _ _ _ => rfl) (fun k _ a ha => R1.offF k a ha) (fun _ _ => rfl)
    have e : (fun k => if k = m then [] else if k ∈ ks then [] else F k) = fun k => if k ∈ m :: ks then [] else F k := by
      funext k
      by_cases q : k = m
      · simp [q]
      · simp [q]
    rw [e] at R2
    exact R2
theorem Rl.move (R : Rl K b Fz F δ σ H) {Fz' H' : Hp} (s : Same Fz Fz') (le : Same Fz' H') (base : Same b.B H') (hF : ∀ k a, a ∈ F k → H' a = H a ∧ Fz' a = none) (hB : ∀ a, b.B a ≠ none → Fz' a = Fz a ∨ ((∃ xs, b.B a = some (.tup xs)) ∧ Fz' a = b.B a)) (tb : Tb b Fz' H') : Rl K b Fz' F δ σ H' where
  le := le
  base := base
  len := R.len
  slot := fun i t e => (R.slot i t e).keeps s (fun a ha => (hF i a ha).1) fun x j ej a ha => by
    subst ej
    obtain ⟨xs, hx⟩ := R.als i x j e
    obtain ⟨l, vs, g, p1, p2, _⟩ := R.slot x _ hx
    rw [ha] at p1
    cases p1
    exact (hF x a (by rw [p2]; exact List.mem_cons_self)).1
  nd := R.nd
  dj := R.dj
  offF := fun i a ha => (hF i a ha).2
  offB := R.offB
  on := fun i a ha => by
    rw [(hF i a ha).1]
    exact R.on i a ha
  keep := fun a ha => by
    rcases hB a ha with z | z
    · rw [z]
      exact R.keep a ha
    · exact .inr z
  f0 := R.f0
  pin := R.pin
  als := R.als
  noT := fun i a ha => by
    rw [(hF i a ha).1]
    exact R.noT i a ha
  tb := tb
  tp := R.tp
theorem noAl_ok {Fz H : Hp} {σ1 σ2 : L2.St} {f : List Addr} {o : Option V} {s : Sl} (h : SlH K Fz H σ1 f o s) : SlH K Fz H σ2 f o (noAl s) := by
  cases s with
  | al x j => exact h.1
  | no => exact h
  | fz d => exact h
  | ol xs => exact h
  | od kvs => exact h
/-- the slots that were handed over come back, one by one -/
theorem Rl.putBack {ks : List Nat} {Fz' H' : Hp} {F' : Nat → List Addr} {δ' : List Sl} {vs : List V} {b' : Bk} (R' : Rl K b' Fz' F' δ' (vs.map some) H') (hb : ∀ a, b.B a ≠ none → b'.B a ≠ none) :
    ∀ (ars : List Ar) (l : List Sl) (j : Nat) (Fc : Nat → List Addr) (δc : List Sl), Rl K b Fz' Fc δc σ H' → l.length = ars.length → (∀ i s, l[i]? = some s → δ'[j + i]? = some s) → (∀ i k, ars[i]? = some (.io k) → ∃ v, vs[j + i]? = some v ∧ σ[k]? = some (some v)) →
      (∀ m a, a ∈ Fc m → b'.B a ≠ none ∨ ∃ i, i < j ∧ a ∈ F' i) → ∃ Fn, Rl K b Fz' Fn (putB ks ars l δc) σ H' ∧ ∀ m a, a ∈ Fn m → b'.B a ≠ none ∨ ∃ i, a ∈ F' i
  | [], l, j, Fc, δc, R, _, _, _, h => ⟨Fc, by cases l <;> exact R, fun m a ha => (h m a ha).imp id fun ⟨i, _, e⟩ => ⟨i, e⟩⟩
  | a :: r, [], _, _, _, _, hl, _, _, _ => by cases hl
  | .fz d :: r, s :: l, j, Fc, δc, R, hl, h1, h2, h3 => by
    refine Rl.putBack R' hb r l (j + 1) Fc δc R (by simpa using hl) (fun i t e => ?_) (fun i k e => ?_) fun m c hc => (h3 m c hc).imp id fun ⟨i, e1, e2⟩ => ⟨i, by omega, e2⟩
    · have := h1 (i + 1) t (by simpa using e)
      rwa [show j + (i + 1) = j + 1 + i by omega] at this
    · have := h2 (i + 1) k (by simpa using e)
      rwa [show j + (i + 1) = j + 1 + i by omega] at this
  | .own d :: r, s :: l, j, Fc, δc, R, hl, h1, h2, h3 => by
    refine Rl.putBack R' hb r l (j + 1) Fc δc R (by simpa using hl) (fun i t e => ?_) (fun i k e => ?_) fun m c hc => (h3 m c hc).imp id fun ⟨i, e1, e2⟩ => ⟨i, by omega, e2⟩
    · have := h1 (i + 1) t (by simpa using e)
      rwa [show j + (i + 1) = j + 1 + i by omega] at this
    · have := h2 (i + 1) k (by simpa using e)
      rwa [show j + (i + 1) = j + 1 + i by omega] at this
  | .io k :: r, s :: l, j, Fc, δc, R, hl, h1, h2, h3 => by
    have n1 : ∀ i t, l[i]? = some t → δ'[j + 1 + i]? = some t := fun i t e => by
      have := h1 (i + 1) t (by simpa using e)
      rwa [show j + (i + 1) = j + 1 + i by omega] at this
    have n2 : ∀ i k', r[i]? = some (.io k') → ∃ v, vs[j + 1 + i]? = some v ∧ σ[k']? = some (some v) := fun i k' e => by
      have := h2 (i + 1) k' (by simpa using e)
      rwa [show j + (i + 1) = j + 1 + i by omega] at this
    by_cases c : k ∈ ks
    · have e0 : putB ks (.io k :: r) (s :: l) δc = putB ks r l (upS k (noAl s) δc) := by
        show putB ks r l (if k ∈ ks then upS k (noAl s) δc else δc) = _
        rw [if_pos c]
      rw [e0]
      obtain ⟨v, v1, v2⟩ := h2 0 k rfl
      have hs := R'.slot j s (by simpa using h1 0 s rfl)
      have hvj : (vs.map some)[j]? = some (some v) := by
        rw [List.getElem?_map, show vs[j]? = some v by simpa using v1]
        rfl
      rw [hvj] at hs
      refine Rl.putBack R' hb r l (j + 1) _ _ (R.put (i := k) (s := noAl s) (g := F' j) (Same.refl _) R.le R.base rfl (fun _ _ => rfl) (.inl rfl) (fun _ => ?_) (fun x i z => ?_) (R'.nd j) (fun a ha => R'.offF j a ha) (fun a ha => ?_) (fun a ha m hm hin => ?_) (fun a ha => R'.on j a ha) (fun _ _ _ _ => rfl) (fun m _ a ha => R.offF m a ha) (fun _ _ => rfl) (fun a ha => R'.noT j a ha)) (by simpa using hl) n1 n2 (fun m a ha => ?_)
      · rw [v2]
        exact noAl_ok hs
      · cases s <;> cases z
      · cases q : b.B a with
        | none => rfl
        | some o => exact absurd (R'.offB j a ha) (hb a (by rw [q]; simp))
      · rcases h3 m a hin with z | ⟨i, z1, z2⟩
        · exact z (R'.offB j a ha)
        · have := R'.dj i j a z2 ha
          omega
      · have ha : a ∈ (if m = k then F' j else Fc m) := ha
        by_cases q : m = k
        · rw [if_pos q] at ha
          exact .inr ⟨j, Nat.lt_succ_self j, ha⟩
        · rw [if_neg q] at ha
          exact (h3 m a ha).imp id fun ⟨i, e1, e2⟩ => ⟨i, by omega, e2⟩
    · have e0 : putB ks (.io k :: r) (s :: l) δc = putB ks r l δc := by
        show putB ks r l (if k ∈ ks then upS k (noAl s) δc else δc) = _
        rw [if_neg c]
      rw [e0]
      exact Rl.putBack R' hb r l (j + 1) Fc δc R (by simpa using hl) n1 n2 fun m a ha => (h3 m a ha).imp id fun ⟨i, e1, e2⟩ => ⟨i, by omega, e2⟩
end
end Hb
namespace Hb
open PySem PySem.Spec PyProof.Rows L2
section
variable {K : PySem.W.Frag} {mg : Str → Option Value} {W : WX} {b : Bk} {Fz : Hp} {F : Nat → List Addr} {δ : List Sl} {σ : L2.St} {H : Hp}
/-- what is handed over -/
def passL (δ : List Sl) (F G : Nat → List Addr) (ars : List Ar) : List Addr := (iosOf δ ars).flatMap F ++ (List.range ars.length).flatMap G
/-- the callee's ground: all else -/
def calB (H : Hp) (p : List Addr) : Hp := fun a => if a ∈ p then none else H a
def calF0 (H Fz : Hp) (p : List Addr) : Hp := fun a => if a ∈ p then none else if H a = none then none else Fz a
def calF (δ : List Sl) (F G : Nat → List Addr) (ars : List Ar) (j : Nat) : List Addr := match ars[j]? with
  | some (.io k) => if ownS δ[k]? = true then F k else []
  | some (.own _) => G j
  | _ => []
theorem call_ok {Q : VK} {vs : List V} {ars : List Ar} {G : Nat → List Addr} {f : List Sl → FR} (R : Rl K b Fz F δ σ H) (A : ArOk K b Fz F H σ vs ars G) (P : Post K mg W b Fz σ Q (callF f ars δ)) :
    spF K mg ars.length f vs H Q (fun c dd H' => W c dd σ H') := by
  refine ⟨A.len, ?_⟩
  unfold callF at P
  by_cases nd : (iosOf δ ars).Nodup
  · rw [if_pos nd] at P
    cases q1 : argsS δ ars with
    | none => simp only [q1] at P; exact P.elim
    | some δa =>
      simp only [q1] at P
      obtain ⟨la, ga⟩ := argsS_get q1
      obtain ⟨p, hp⟩ : ∃ p, p = passL δ F G ars := ⟨_, rfl⟩
      have pio : ∀ k, k ∈ iosOf δ ars → ∀ a ∈ F k, a ∈ p := fun k hk a ha => by
        rw [hp]
        exact List.mem_append_left _ (List.mem_flatMap.mpr ⟨k, hk, ha⟩)
      have pown : ∀ j, j < ars.length → ∀ a ∈ G j, a ∈ p := fun j hj a ha => by
        rw [hp]
        exact List.mem_append_right _ (List.mem_flatMap.mpr ⟨j, List.mem_range.mpr hj, ha⟩)
      have pin : ∀ a ∈ p, (∃ k, k ∈ iosOf δ ars ∧ a ∈ F k) ∨ ∃ j, a ∈ G j := fun a ha => by
        rw [hp] at ha
        rcases List.mem_append.mp ha with z | z
        · obtain ⟨k, e1, e2⟩ := List.mem_flatMap.mp z
          exact .inl ⟨k, e1, e2⟩
        · obtain ⟨j, _, e2⟩ := List.mem_flatMap.mp z
          exact .inr ⟨j, e2⟩
      have pFz : ∀ a ∈ p, Fz a = none := fun a ha => (pin a ha).elim (fun ⟨k, _, e⟩ => R.offF k a e) fun ⟨j, e⟩ => (A.off j a e).1
      have pB : ∀ a ∈ p, b.B a = none := fun a ha => (pin a ha).elim (fun ⟨k, _, e⟩ => R.offB k a e) fun ⟨j, e⟩ => (A.off j a e).2.1
      have pPl : ∀ a ∈ p, Pl (H a) := fun a ha => by
        rw [hp] at ha
        rcases List.mem_append.mp ha with z | z
        · obtain ⟨k, _, e⟩ := List.mem_flatMap.mp z
          exact R.noT k a e
        · obtain ⟨j, hj, e⟩ := List.mem_flatMap.mp z
          have hj := List.mem_range.mp hj
          obtain ⟨v, _, e4⟩ := A.at_ j _ (List.getElem?_eq_getElem hj)
          exact e4.noT a e
      have getV : ∀ j a, ars[j]? = some a → ∃ s v, δa[j]? = some s ∧ argS δ a = some s ∧ vs[j]? = some v ∧ ArH K Fz H σ (G j) v a := fun j a e => by
        obtain ⟨s, e1, e2⟩ := ga j a e
        obtain ⟨v, e3, e4⟩ := A.at_ j a e
        exact ⟨s, v, e1, e2, e3, e4⟩
      have cF : ∀ j a, a ∈ calF δ F G ars j → (∃ k, ars[j]? = some (.io k) ∧ ownS δ[k]? = true ∧ a ∈ F k) ∨ ∃ s, ars[j]? = some (.own s) ∧ a ∈ G j := fun j a ha => by
        unfold calF at ha
        cases q : ars[j]? with
        | none => rw [q] at ha; cases ha
        | some r =>
          rw [q] at ha
          cases r with
          | fz d => cases ha
          | own s => exact .inr ⟨s, rfl, ha⟩
          | io k =>
            have ha : a ∈ (if ownS δ[k]? = true then F k else []) := ha
            by_cases c : ownS δ[k]? = true
            · rw [if_pos c] at ha
              exact .inl ⟨k, rfl, c, ha⟩
            · rw [if_neg c] at ha
              cases ha
      have cp : ∀ j a, a ∈ calF δ F G ars j → a ∈ p := fun j a ha => (cF j a ha).elim (fun ⟨k, e1, e2, e3⟩ => pio k (ios_mem e2 e1) a e3) fun ⟨s, e1, e2⟩ => pown j (List.getElem?_eq_some_iff.mp e1).1 a e2
      have Rc : Rl K ⟨calB H p, calF0 H Fz p, [], [], []⟩ Fz (calF δ F G ars) δa (vs.map some) H := by
        refine ⟨R.le, fun a o e => ?_, by rw [List.length_map, A.len, la], fun j s e => ?_, fun j => ?_, fun i j a h1 h2 => ?_, fun j a h => pFz a (cp j a h), fun j a h => if_pos (cp j a h), fun j a h => ?_, fun a h => .inl ?_, fun a h => ?_, fun _ z => (nomatch z), fun j x m e => ?_, fun j a h => ?_, .nil rfl, fun z => (nomatch z)⟩
        · have e : (if a ∈ p then none else H a) = some o := e
          by_cases c : a ∈ p
          · rw [if_pos c] at e; cases e
          · rw [if_neg c] at e; exact e
        · have hj : j < ars.length := by rw [← la]; exact (List.getElem?_eq_some_iff.mp e).1
          obtain ⟨s', v, e1, e2, e3, e4⟩ := getV j _ (List.getElem?_eq_getElem hj)
          rw [e] at e1
          cases e1
          have hv : (vs.map some)[j]?.join = some v := by rw [List.getElem?_map, e3]; rfl
          rw [hv]
          unfold calF
          rw [List.getElem?_eq_getElem hj]
          generalize ars[j] = r at e2 e4
          cases r with
          | fz d =>
            cases e2
            exact ⟨rfl, v, rfl, e4.2⟩
          | own t =>
            cases e2
            have h2 := e4.2
            cases s with
            | al x m => have := e4.1; cases this
            | no => exact h2
            | fz d => exact h2
            | ol xs => exact h2
            | od kvs => exact h2
          | io k =>
            have hk : σ[k]? = some (some v) := e4.2
            unfold argS at e2
            cases q2 : δ[k]? with
            | none => simp only [q2] at e2; cases e2
            | some t =>
              have hs := R.slot k t q2
              rw [hk] at hs
              cases t with
              | fz d => simp only [q2] at e2; cases e2; exact ⟨by simp [ownS, q2], hs.2⟩
              | ol xs => simp only [q2] at e2; cases e2; simp only [ownS, q2, if_true]; exact hs
              | od kvs => simp only [q2] at e2; cases e2; simp only [ownS, q2, if_true]; exact hs
              | no => simp only [q2] at e2; cases e2
              | al x m => simp only [q2] at e2; cases e2
        · unfold calF
          cases q : ars[j]? with
          | none => exact List.nodup_nil
          | some r =>
            cases r with
            | fz d => exact List.nodup_nil
            | own s => exact A.nd j
            | io k =>
              show (if ownS δ[k]? = true then F k else []).Nodup
              by_cases c : ownS δ[k]? = true
              · rw [if_pos c]; exact R.nd k
              · rw [if_neg c]; exact List.nodup_nil
        · rcases cF i a h1 with ⟨k, e1, e2, e3⟩ | ⟨s, e1, e2⟩
          · rcases cF j a h2 with ⟨m, f1, f2, f3⟩ | ⟨t, f1, f2⟩
            · have := R.dj k m a e3 f3
              subst this
              exact ios_uniq e2 nd e1 f1
            · exact absurd e3 ((A.off j a f2).2.2.2 k)
          · rcases cF j a h2 with ⟨m, f1, f2, f3⟩ | ⟨t, f1, f2⟩
            · exact absurd f3 ((A.off i a e2).2.2.2 m)
            · exact A.dj i j a e2 f2
        · rcases cF j a h with ⟨k, e1, e2, e3⟩ | ⟨s, e1, e2⟩
          · exact R.on k a e3
          · exact (A.off j a e2).2.2.1
        · have h : (if a ∈ p then none else H a) ≠ none := h
          show Fz a = if a ∈ p then none else if H a = none then none else Fz a
          by_cases c : a ∈ p
          · rw [if_pos c] at h; exact absurd rfl h
          · rw [if_neg c] at h ⊢
            rw [if_neg h]
        · have h : (if a ∈ p then none else if H a = none then none else Fz a) ≠ none := h
          show (if a ∈ p then none else H a) ≠ none
          by_cases c : a ∈ p
          · rw [if_pos c] at h; exact absurd rfl h
          · rw [if_neg c] at h ⊢
            by_cases c2 : H a = none
            · rw [if_pos c2] at h; exact absurd rfl h
            · exact c2
        · have hj : j < ars.length := by rw [← la]; exact (List.getElem?_eq_some_iff.mp e).1
          obtain ⟨s', v, e1, e2, e3, e4⟩ := getV j _ (List.getElem?_eq_getElem hj)
          rw [e] at e1
          cases e1
          generalize ars[j] = r at e2 e4
          cases r with
          | fz d => cases e2
          | own t =>
            cases e2
            have := e4.1
            cases this
          | io k =>
            unfold argS at e2
            cases q2 : δ[k]? with
            | none => simp only [q2] at e2; cases e2
            | some t => cases t <;> (simp only [q2] at e2; cases e2)
        · rcases cF j a h with ⟨k, e1, e2, e3⟩ | ⟨s, e1, e2⟩
          · exact R.noT k a e3
          · obtain ⟨v, _, e4⟩ := A.at_ j _ e1
            exact e4.noT a e2
      refine ⟨_, Fz, _, δa, Rc, ?_⟩
      have calN : ∀ a, H a ≠ none → a ∉ p → calB H p a ≠ none := fun a h1 h2 => by
        show (if a ∈ p then none else H a) ≠ none
        rw [if_neg h2]
        exact h1
      -- what comes back
      have fin : ∀ {δ' : List Sl} {H' Fz' : Hp} {F' : Nat → List Addr}, Same Fz Fz' → Rl K ⟨calB H p, calF0 H Fz p, [], [], []⟩ Fz' F' δ' (vs.map some) H' → ∃ Fn, Rl K b Fz' Fn (backS ars δ' δ) σ H' ∧ ∀ m a, a ∈ Fn m → calB H p a ≠ none ∨ ∃ i, a ∈ F' i := by
        intro δ' H' Fz' F' s R'
        have outF : ∀ k, k ∉ iosOf δ ars → ∀ a ∈ F k, a ∉ p := fun k hk a ha z => by
          rcases pin a z with ⟨m, e1, e2⟩ | ⟨j, e⟩
          · exact hk (by rw [R.dj k m a ha e2]; exact e1)
          · exact (A.off j a e).2.2.2 k ha
        have tb' : Tb b Fz' H' := fun q hq => by
          obtain ⟨t0, t1, t2⟩ := R.tb q hq
          have nt : q.1 ∉ p := fun z => R.tb.tbl hq (pPl _ z)
          have hx : ∀ a o, H a = some o → ¬Pl (some o) → H' a = some o := fun a o e n => R'.base a o (by
            show (if a ∈ p then none else H a) = some o
            rw [if_neg fun z => n (by rw [← e]; exact pPl a z)]
            exact e)
          refine ⟨tabS_keep t0 hx, ?_, t2⟩
          obtain ⟨ps, e0, _⟩ := t0
          rcases R'.keep q.1 (calN _ (by rw [e0]; simp) nt) with z | ⟨⟨xs, z⟩, _⟩
          · rw [z]
            show (if q.1 ∈ p then none else if H q.1 = none then none else Fz q.1) = none
            rw [if_neg nt, if_neg (by rw [e0]; simp)]
            exact t1
          · have z : (if q.1 ∈ p then none else H q.1) = some (.tup xs) := z
            rw [if_neg nt, e0] at z
            cases z
        have R1 := (R.clear (iosOf δ ars)).move (Fz' := Fz') (H' := H') s R'.le (fun a o e => ?_) (fun k a ha => ?_) (fun a ha => ?_) tb'
        · refine Rl.putBack (b := b) R' (fun a ha => ?_) ars δ' 0 _ _ R1 (by have := R'.len; rw [List.length_map, A.len] at this; exact this.symm) (fun i t e => by rwa [Nat.zero_add]) (fun i k e => ?_) (fun m a ha => ?_)
          · cases q : b.B a with
            | none => exact absurd q ha
            | some o => exact calN a (by rw [R.base a o q]; simp) fun z => by rw [pB a z] at q; cases q
          · obtain ⟨v, e1, e2⟩ := A.at_ i _ e
            exact ⟨v, by rwa [Nat.zero_add], e2.2⟩
          · have ha : a ∈ (if m ∈ iosOf δ ars then [] else F m) := ha
            by_cases c : m ∈ iosOf δ ars
            · rw [if_pos c] at ha; cases ha
            · rw [if_neg c] at ha
              exact .inl (calN a (R.on m a ha) (outF m c a ha))
        · have hn : a ∉ p := fun z => by rw [pB a z] at e; cases e
          exact R'.base a o (by
            show (if a ∈ p then none else H a) = some o
            rw [if_neg hn]
            exact R.base a o e)
        · have ha : a ∈ (if k ∈ iosOf δ ars then [] else F k) := ha
          by_cases c : k ∈ iosOf δ ars
          · rw [if_pos c] at ha; cases ha
          · rw [if_neg c] at ha
            have hn := outF k c a ha
            have nn := calN a (R.on k a ha) hn
            refine ⟨?_, ?_⟩
            · cases q : H a with
              | none => exact absurd q (R.on k a ha)
              | some o => exact R'.base a o (by
                  show (if a ∈ p then none else H a) = some o
                  rw [if_neg hn]
                  exact q)
            · rcases R'.keep a nn with z | ⟨⟨xs, z⟩, _⟩
              · rw [z]
                show (if a ∈ p then none else if H a = none then none else Fz a) = none
                rw [if_neg hn, if_neg (R.on k a ha)]
                exact R.offF k a ha
              · have z : (if a ∈ p then none else H a) = some (.tup xs) := z
                rw [if_neg hn] at z
                exact ((R.noT k a ha).tup z).elim
        · have hn : a ∉ p := fun z => ha (pB a z)
          have hH : H a ≠ none := by
            cases q : b.B a with
            | none => exact absurd q ha
            | some o => rw [R.base a o q]; simp
          have z := R'.keep a (calN a hH hn)
          have z : Fz' a = (if a ∈ p then none else if H a = none then none else Fz a) ∨ ((∃ xs, (if a ∈ p then none else H a) = some (.tup xs)) ∧ Fz' a = (if a ∈ p then none else H a)) := z
          rw [if_neg hn, if_neg hH, if_neg hn] at z
          rcases z with z | ⟨⟨xs, z1⟩, z2⟩
          · exact .inl z
          · cases qb : b.B a with
            | none => exact absurd qb ha
            | some o =>
              have h2 := R.base a o qb
              rw [z1] at h2
              cases h2
              exact .inr ⟨⟨xs, rfl⟩, z2.trans z1⟩
      cases q2 : f δa with
      | bad => simp only [q2] at P; exact P
      | er x δ' =>
        simp only [q2] at P
        intro c dd H' Fz' F' s R' e
        obtain ⟨Fn, Rn, _⟩ := fin s R'
        exact P c dd H' Fz' Fn s Rn e
      | ok r δ' =>
        simp only [q2] at P
        intro v H' Fz' F' s R' Ar
        obtain ⟨Fn, Rn, hn⟩ := fin s R'
        refine P v H' Fz' Fn s Rn ?_
        obtain ⟨ht, g, h1, h2, h3⟩ := Ar
        have gn : ∀ a ∈ g, calB H p a = none := fun a ha => (h3 a ha).2.1
        have gen : AvR K b Fz' Fn H' σ v (.tmp r) := ⟨ht, g, h1, h2, fun a ha => ⟨(h3 a ha).1, ?_, (h3 a ha).2.2.1, fun m hm => ?_⟩⟩
        · cases r with
          | fz d =>
            obtain ⟨e, v', e1, e2⟩ := h1
            cases e1
            exact e2
          | no => cases ht
          | al x j => cases ht
          | ol xs => exact gen
          | od kvs => exact gen
        · cases q : b.B a with
          | none => rfl
          | some o => exact absurd (gn a ha) (calN a (by rw [R.base a o q]; simp) fun z => by rw [pB a z] at q; cases q)
        · rcases hn m a hm with z | ⟨i, z⟩
          · exact z (gn a ha)
          · exact (h3 a ha).2.2.2 i z
  · rw [if_neg nd] at P
    exact P.elim
end
structure FnG (P : Program) (w : World) (K : PySem.W.Frag) (mg : Str → Option Value) (base : Heap) (k : Nat) (f : Addr) (fd : FuncData) (ps : List Str) (sp : Sp) : Prop where
  len : ∀ vs H Q E, sp vs H Q E → vs.length = ps.length
  run : ∀ (A : Around) (outer : List Env) (s : Shared) (H : Hp) (args : Args) (us : List Value) (vs : List V) (Q : VK) (E : XK), A.guards = some [] → Room k A → Env0 P w K mg base A outer s H → BindsTo s fd args (ps.zip us) → Vals vs us → sp vs H Q E →
    codeAny (model P w) A (.call (.ref f) args) (CR (L2.CX P w) outer P w H s Q E) s
theorem FnG.mono {P : Program} {w : World} {K : PySem.W.Frag} {mg : Str → Option Value} {base : Heap} {j k : Nat} {f : Addr} {fd : FuncData} {ps : List Str} {sp : Sp} (F : FnG P w K mg base j f fd ps sp) (h : j ≤ k) : FnG P w K mg base k f fd ps sp :=
  ⟨F.len, fun A outer s H args us vs Q E hg hr => F.run A outer s H args us vs Q E hg (hr.mono h)⟩
section
variable {X : Cx} {k : Nat} {f : Addr} {fd : FuncData} {ps : List Str} {W : WX} {pin : List Nat} {x : Str} {p pos : Pos} {e : Expr} {es : List Expr} {n : Nat} {F : List Sl → FR} {g : List Sl → Rs (List Ar)} {ds : List Value} {dd : List PyData}
/-- a call of it, by values -/
theorem run_G (G : FnG X.prog X.w X.K X.mg X.base k f fd ps (spF X.K X.mg n F)) (hr : Room k X.A) (hgd : X.A.guards = some []) {pins : List (Addr × Obj)} {σ : L2.St} {H : Hp} {s : Shared} {Q : VK} {us : List Value} {vs dvs : List V} (hx : PassesAt (L2.CX X.prog X.w) X σ (WE W σ))
    (hb : Binds X.K fd ps ds) (hd : Vals dvs ds) (I : Inv X pins σ H s) (r : Vals vs us) (h : spF X.K X.mg n F (vs ++ dvs) H Q (WE W σ)) : wpAny (model X.prog X.w) X.A (call (.ref f) us) (EP X pins σ Q) X.xe s := by
  have r2 := r.append hd
  have hl : (us ++ ds).length = ps.length := r2.length.symm.trans (G.len _ _ _ _ h)
  have go := G.run X.A X.stack s H ⟨us, []⟩ (us ++ ds) (vs ++ dvs) Q (WE W σ) hgd hr I.env0 (hb s us I.kIn hl) r2 h
  refine wpAny_call (codeAny_mono go fun res s' hq => ?_)
  match res, hq with
  | .error err, hq => exact hx pins H s err s' I hq
  | .ok (.ret u), hq => exact I.after hq
theorem arOk_dfl {K : PySem.W.Frag} {b : Bk} {Fz : Hp} {F : Nat → List Addr} {H : Hp} {σ : L2.St} {vs : List V} {ars : List Ar} {G : Nat → List Addr} (A : ArOk K b Fz F H σ vs ars G) {dvs : List V} (h : RpL K Fz dvs dd) :
    ArOk K b Fz F H σ (vs ++ dvs) (ars ++ dd.map .fz) (fun j => if j < ars.length then G j else []) := by
  refine ⟨by simp [A.len, h.len], fun j a e => ?_, fun j => ?_, fun i j a h1 h2 => ?_, fun j a h1 => ?_⟩
  · by_cases c : j < ars.length
    · rw [List.getElem?_append_left c] at e
      obtain ⟨v, e1, e2⟩ := A.at_ j a e
      exact ⟨v, by rw [List.getElem?_append_left (by rw [A.len]; exact c)]; exact e1, by rw [if_pos c]; exact e2⟩
    · rw [List.getElem?_append_right (by omega), List.getElem?_map] at e
      cases q : dd[j - ars.length]? with
      | none => rw [q] at e; cases e
      | some d =>
        rw [q] at e
        cases e
        obtain ⟨v, e1, e2⟩ := h.get q
        exact ⟨v, by rw [List.getElem?_append_right (by rw [A.len]; omega), A.len]; exact e1, by rw [if_neg c], e2⟩
  · by_cases c : j < ars.length
    · rw [if_pos c]; exact A.nd j
    · rw [if_neg c]; exact List.nodup_nil
  · have h1 : a ∈ (if i < ars.length then G i else []) := h1
    have h2 : a ∈ (if j < ars.length then G j else []) := h2
    by_cases c : i < ars.length
    · by_cases c2 : j < ars.length
      · rw [if_pos c] at h1
        rw [if_pos c2] at h2
        exact A.dj i j a h1 h2
      · rw [if_neg c2] at h2; cases h2
    · rw [if_neg c] at h1; cases h1
  · have h1 : a ∈ (if j < ars.length then G j else []) := h1
    by_cases c : j < ars.length
    · rw [if_pos c] at h1; exact A.off j a h1
    · rw [if_neg c] at h1; cases h1
theorem rpl_flat {K : PySem.W.Frag} {H : Hp} : ∀ {dd : List PyData}, dd.all flatD = true → RpL K H (dd.map dV) dd
  | [], _ => .nil
  | d :: dd, h => by
    rw [List.all_cons, Bool.and_eq_true] at h
    exact .cons (rp_flat h.1) (rpl_flat h.2)
theorem call_rd {K : PySem.W.Frag} {mg : Str → Option Value} {W : WX} (hflat : dd.all flatD = true) (hlen : ∀ δ ars δ', g δ = .ok ars δ' → ars.length + dd.length = n) : ∀ σ H Q, rdE K mg W pin (sCall F dd g) σ H Q → rdAr K mg W pin g σ H fun vs H1 => spF K mg n F (vs ++ dd.map dV) H1 Q (WE W σ) := fun σ H Q ⟨b, Fz, Ff, δ, hp, R, P⟩ => by
  refine ⟨b, Fz, Ff, δ, hp, R, ?_⟩
  unfold sCall at P
  cases q : g δ with
  | bad => rw [q] at P; exact P
  | er x δ' => rw [q] at P; exact P
  | ok ars δ' =>
    rw [q] at P
    intro vs H' Fz' F' G s R' A
    have A' := arOk_dfl (dd := dd) A (rpl_flat hflat)
    have h := call_ok (mg := mg) (W := W) (f := F) R' A' (Post.le s P)
    have e : (ars ++ dd.map Ar.fz).length = n := by
      rw [List.length_append, List.length_map]
      exact hlen _ _ _ q
    rw [e] at h
    exact h
theorem se_call (G : FnG X.prog X.w X.K X.mg X.base k f fd ps (spF X.K X.mg n F)) (hr : Room k X.A) (hgd : X.A.guards = some []) (hx : ∀ σ, PassesAt (L2.CX X.prog X.w) X σ (WE W σ)) (hg : Gl X x) (hm : X.mg x = some (.ref f)) (hk : PySem.W.keepIn X.K (.ref f) = true)
    (hb : Binds X.K fd ps ds) (hd : Vals (dd.map dV) ds) (hflat : dd.all flatD = true) (ha : SAr X W pin (e :: es) g) (hlen : ∀ δ ars δ', g δ = .ok ars δ' → ars.length + dd.length = n)
    (hdb : (x == ("__debug__" : Str)) = false := by decide) (he : starEach (e :: es) X.env = (false, eval e X.env) :: starEach es X.env := by rfl) (hpl : (backTo pos (starEach es X.env)).any (·.1) = false := by rfl) :
    SE X W pin (.Call (.Name x p) (e :: es) [] pos) (sCall F dd g) := by
  refine ⟨fun pins s σ H Q I h => wpAny_Call_Name_kw (ld_glob I hg hm ?_ hdb)⟩
  have h2 := call_rd (n := n) hflat hlen σ H Q h
  refine PySem.W.callWith_K (h₀ := X.base) I.ok.mod.kin hk (thn (ha.run pos pins s σ H _ I h2) fun us s1 q => ?_) he hpl
  obtain ⟨vs, H1, I1, r, q⟩ := q
  exact ⟨I1.kIn, run_G G hr hgd (hx σ) hb hd I1 r q⟩
theorem se_call0 (G : FnG X.prog X.w X.K X.mg X.base k f fd ps (spF X.K X.mg n F)) (hr : Room k X.A) (hgd : X.A.guards = some []) (hx : ∀ σ, PassesAt (L2.CX X.prog X.w) X σ (WE W σ)) (hg : Gl X x) (hm : X.mg x = some (.ref f)) (hk : PySem.W.keepIn X.K (.ref f) = true)
    (hb : Binds X.K fd ps ds) (hd : Vals (dd.map dV) ds) (hflat : dd.all flatD = true) (hlen : dd.length = n) (hdb : (x == ("__debug__" : Str)) = false := by decide) :
    SE X W pin (.Call (.Name x p) [] [] pos) (sCall F dd rNil) := by
  refine ⟨fun pins s σ H Q I h => wpAny_Call_Name_kw (ld_glob I hg hm ?_ hdb)⟩
  have h2 := call_rd (n := n) (g := rNil) hflat (fun δ ars δ' e => by cases e; simpa using hlen) σ H Q h
  obtain ⟨b, Fz, Ff, δ, hp, R, P⟩ := h2
  have q := P [] H Fz Ff _ (Same.refl _) R arOk_nil
  exact PySem.W.callWith_K0 I.kIn hk (run_G (us := []) G hr hgd (hx σ) hb hd I .nil q)
theorem len_rNil : ∀ δ ars δ', rNil δ = .ok ars δ' → ars.length = 0 := fun _ _ _ e => by cases e; rfl
theorem len_rCons {f : List Sl → Rs AV} {m : Nat} (h : ∀ δ ars δ', g δ = .ok ars δ' → ars.length = m) : ∀ δ ars δ', rCons f g δ = .ok ars δ' → ars.length = m + 1 := fun δ ars δ' e => by
  unfold rCons at e
  cases q : f δ with
  | bad => rw [q] at e; cases e
  | er x d => rw [q] at e; cases e
  | ok a δ1 =>
    rw [q] at e
    have e : (match arOf a with
      | some r => (g δ1).bind fun rs δ2 => .ok (r :: rs) δ2
      | none => .bad) = Rs.ok ars δ' := e
    cases q2 : arOf a with
    | none => simp only [q2] at e; cases e
    | some r =>
      simp only [q2] at e
      cases q3 : g δ1 with
      | bad => rw [q3] at e; cases e
      | er x d => rw [q3] at e; cases e
      | ok rs δ2 =>
        rw [q3] at e
        cases e
        simp [h _ _ _ q3]
theorem len_rIo {j m : Nat} (h : ∀ δ ars δ', g δ = .ok ars δ' → ars.length = m) : ∀ δ ars δ', rIo j g δ = .ok ars δ' → ars.length = m + 1 := fun δ ars δ' e => by
  unfold rIo at e
  cases q : sVar j δ with
  | bad => rw [q] at e; cases e
  | er x d => rw [q] at e; cases e
  | ok a δ1 =>
    rw [q] at e
    have e : ((g δ1).bind fun rs δ2 => Rs.ok (Ar.io j :: rs) δ2) = Rs.ok ars δ' := e
    cases q3 : g δ1 with
    | bad => rw [q3] at e; cases e
    | er x d => rw [q3] at e; cases e
    | ok rs δ2 =>
      rw [q3] at e
      cases e
      simp [h _ _ _ q3]
end
end Hb
namespace Hb
open PySem PySem.Spec PyProof.Rows L2
def outs (n : Nat) (pin : List Nat) (δ : List Sl) : List Sl := (List.range n).map fun i => if i ∈ pin then noAl ((δ[i]?).getD .no) else .no
def fnRun (n m : Nat) (pin : List Nat) (body : List Sl → Ot) : List Sl → FR := fun δ => match body (δ ++ List.replicate (m - n) .no) with
  | .nx δ' => .ok (.fz .none) (outs n pin δ')
  | .rt s δ' => .ok s (outs n pin δ')
  | .er x δ' => .er x (outs n pin δ')
  | _ => .bad
def oF (pin : List Nat) (n : Nat) (F : Nat → List Addr) : Nat → List Addr := fun i => if i < n ∧ i ∈ pin then F i else []
theorem no_al {s : Sl} {x j : Nat} : noAl s ≠ .al x j := by cases s <;> simp [noAl]
theorem start_get {N : List Str} {vs : List V} {i : Nat} (h : i < vs.length) : (L2.start N vs)[i]? = (vs.map some)[i]? := by
  unfold L2.start
  rw [List.getElem?_append_left (by simpa using h)]
section
variable {K : PySem.W.Frag} {mg : Str → Option Value} {b : Bk} {Fz : Hp} {F : Nat → List Addr} {δ : List Sl} {H : Hp} {vs : List V} {N : List Str} {pin : List Nat}
theorem rl_in (R : Rl K b Fz F δ (vs.map some) H) (hN : vs.length ≤ N.length) (hm : mkT ∈ pin → b.T = TK K) : Rl K ⟨b.B, b.F0, pin, L2.start N vs, b.T⟩ Fz (fun i => if i < vs.length then F i else []) (δ ++ List.replicate (N.length - vs.length) .no) (L2.start N vs) H := by
  have hl : δ.length = vs.length := by have := R.len; simpa using this.symm
  refine ⟨R.le, R.base, ?_, fun i s e => ?_, fun i => ?_, fun i j a h1 h2 => ?_, fun i a h => ?_, fun i a h => ?_, fun i a h => ?_, R.keep, R.f0, fun _ _ => rfl, fun i x j e => ?_, fun i a h => ?_, R.tb, hm⟩
  · unfold L2.start
    simp [hl]
  · by_cases c : i < vs.length
    · rw [List.getElem?_append_left (by omega)] at e
      rw [start_get c, if_pos c]
      have h := R.slot i s e
      cases s with
      | al x j =>
        obtain ⟨h1, a, b', ws, h2, h3⟩ := h
        refine ⟨h1, a, b', ws, ?_, h3⟩
        have hx : x < vs.length := by
          by_cases q : x < vs.length
          · exact q
          · rw [List.getElem?_eq_none (by simpa using q)] at h2
            cases h2
        rw [start_get hx]
        exact h2
      | no => exact h
      | fz d => exact h
      | ol xs => exact h
      | od kvs => exact h
    · rw [List.getElem?_append_right (by omega), List.getElem?_replicate] at e
      split at e
      · cases e
        exact if_neg c
      · cases e
  · by_cases c : i < vs.length
    · rw [if_pos c]; exact R.nd i
    · rw [if_neg c]; exact List.nodup_nil
  · have h1 : a ∈ (if i < vs.length then F i else []) := h1
    have h2 : a ∈ (if j < vs.length then F j else []) := h2
    by_cases c : i < vs.length
    · by_cases c2 : j < vs.length
      · rw [if_pos c] at h1
        rw [if_pos c2] at h2
        exact R.dj i j a h1 h2
      · rw [if_neg c2] at h2; cases h2
    · rw [if_neg c] at h1; cases h1
  · have h : a ∈ (if i < vs.length then F i else []) := h
    by_cases c : i < vs.length
    · rw [if_pos c] at h; exact R.offF i a h
    · rw [if_neg c] at h; cases h
  · have h : a ∈ (if i < vs.length then F i else []) := h
    by_cases c : i < vs.length
    · rw [if_pos c] at h; exact R.offB i a h
    · rw [if_neg c] at h; cases h
  · have h : a ∈ (if i < vs.length then F i else []) := h
    by_cases c : i < vs.length
    · rw [if_pos c] at h; exact R.on i a h
    · rw [if_neg c] at h; cases h
  · by_cases c : i < δ.length
    · rw [List.getElem?_append_left c] at e
      obtain ⟨xs, hx⟩ := R.als i x j e
      exact ⟨xs, by rw [List.getElem?_append_left (List.getElem?_eq_some_iff.mp hx).1]; exact hx⟩
    · rw [List.getElem?_append_right (by omega), List.getElem?_replicate] at e
      split at e <;> cases e
  · have h : a ∈ (if i < vs.length then F i else []) := h
    by_cases c : i < vs.length
    · rw [if_pos c] at h; exact R.noT i a h
    · rw [if_neg c] at h; cases h
theorem rl_out {Fz0 : Hp} {F0 : Nat → List Addr} {δ0 : List Sl} {H0 : Hp} (R0 : Rl K b Fz0 F0 δ0 (vs.map some) H0) {σ : L2.St} (R : Rl K ⟨b.B, b.F0, pin, L2.start N vs, b.T⟩ Fz F δ σ H) : Rl K b Fz (oF pin vs.length F) (outs vs.length pin δ) (vs.map some) H := by
  have inF : ∀ i a, a ∈ oF pin vs.length F i → i < vs.length ∧ i ∈ pin ∧ a ∈ F i := fun i a h => by
    unfold oF at h
    by_cases c : i < vs.length ∧ i ∈ pin
    · rw [if_pos c] at h
      exact ⟨c.1, c.2, h⟩
    · rw [if_neg c] at h
      cases h
  have gt : ∀ i, i < vs.length → (outs vs.length pin δ)[i]? = some (if i ∈ pin then noAl ((δ[i]?).getD .no) else .no) := fun i h => by
    unfold outs
    rw [List.getElem?_map, List.getElem?_range h]
    rfl
  refine ⟨R.le, R.base, by simp [outs], fun i s e => ?_, fun i => ?_, fun i j a h1 h2 => R.dj i j a (inF i a h1).2.2 (inF j a h2).2.2, fun i a h => R.offF i a (inF i a h).2.2, fun i a h => R.offB i a (inF i a h).2.2, fun i a h => R.on i a (inF i a h).2.2, R.keep, R.f0, R0.pin, fun i x j e => ?_, fun i a h => R.noT i a (inF i a h).2.2, R.tb, R0.tp⟩
  · have hi : i < vs.length := by
      have := (List.getElem?_eq_some_iff.mp e).1
      simpa [outs] using this
    rw [gt i hi] at e
    cases e
    unfold oF
    by_cases c : i ∈ pin
    · rw [if_pos c, if_pos ⟨hi, c⟩]
      have hp : σ[i]? = (L2.start N vs)[i]? := R.pin i c
      rw [start_get hi] at hp
      rw [← hp]
      cases q : δ[i]? with
      | none =>
        exfalso
        have h1 : i < σ.length := by
          have : σ[i]? = some (some vs[i]) := by rw [hp, List.getElem?_map, List.getElem?_eq_getElem hi]; rfl
          exact (List.getElem?_eq_some_iff.mp this).1
        rw [R.len] at h1
        rw [List.getElem?_eq_getElem h1] at q
        cases q
      | some t => exact noAl_ok (R.slot i t q)
    · rw [if_neg c, if_neg (fun z => c z.2)]
      rfl
  · unfold oF
    by_cases c : i < vs.length ∧ i ∈ pin
    · rw [if_pos c]; exact R.nd i
    · rw [if_neg c]; exact List.nodup_nil
  · have hi : i < vs.length := by
      have := (List.getElem?_eq_some_iff.mp e).1
      simpa [outs] using this
    rw [gt i hi] at e
    by_cases c : i ∈ pin
    · rw [if_pos c] at e
      exact absurd (Option.some.inj e) no_al
    · rw [if_neg c] at e
      cases e
theorem av_out {σ : L2.St} {v : V} {s : Sl} {n : Nat} (A : AvR K b Fz F H σ v (.tmp s)) : AvR K b Fz (oF pin n F) H (vs.map some) v (.tmp s) := by
  obtain ⟨h1, g, h2, h3, h4⟩ := A
  refine ⟨h1, g, h2, h3, fun a ha => ⟨(h4 a ha).1, (h4 a ha).2.1, (h4 a ha).2.2.1, fun i hi => ?_⟩⟩
  unfold oF at hi
  by_cases c : i < n ∧ i ∈ pin
  · rw [if_pos c] at hi
    exact (h4 a ha).2.2.2 i hi
  · rw [if_neg c] at hi
    cases hi
end
theorem body_okM {K : PySem.W.Frag} {mg : Str → Option Value} {N : List Str} {vs : List V} {H : Hp} {Q : VK} {E : XK} {n : Nat} {pin : List Nat} {body : List Sl → Ot} (hN : n ≤ N.length) (h : vs.length = n ∧ ∃ b Fz F δ, (mkT ∈ pin → b.T = TK K) ∧ Rl K b Fz F δ (vs.map some) H ∧ PostF K mg b Fz vs Q E (fnRun n N.length pin body δ)) :
    rdS K mg (fun cls d _ H => E cls d H) pin body { nx := fun _ H' => Q .non H', rt := Q } (L2.start N vs) H := by
  obtain ⟨hl, b, Fz, F, δ, hm, R, P⟩ := h
  subst hl
  refine ⟨_, Fz, _, _, rfl, rl_in (pin := pin) R hN hm, ?_⟩
  unfold fnRun at P
  cases q : body (δ ++ List.replicate (N.length - vs.length) .no) with
  | bad => rw [q] at P; exact P
  | bk δ' => rw [q] at P; exact P.elim
  | ct δ' => rw [q] at P; exact P.elim
  | nx δ' =>
    rw [q] at P
    exact fun σ' H' Fz' F' s R' => P .non H' Fz' _ s (rl_out R R') ⟨rfl, [], ⟨rfl, _, rfl, .non⟩, List.nodup_nil, fun _ z => nomatch z⟩
  | rt t δ' =>
    rw [q] at P
    exact fun v σ' H' Fz' F' s R' A => P v H' Fz' _ s (rl_out R R') (av_out (b := b) (σ := σ') A)
  | er x δ' =>
    rw [q] at P
    exact fun c dd σ' H' Fz' F' s R' e => P c dd H' Fz' _ s (rl_out R R') e
theorem body_ok {K : PySem.W.Frag} {mg : Str → Option Value} {N : List Str} {vs : List V} {H : Hp} {Q : VK} {E : XK} {n : Nat} {pin : List Nat} {body : List Sl → Ot} (hN : n ≤ N.length) (hm : mkT ∉ pin) (h : spF K mg n (fnRun n N.length pin body) vs H Q E) :
    rdS K mg (fun cls d _ H => E cls d H) pin body { nx := fun _ H' => Q .non H', rt := Q } (L2.start N vs) H := by
  obtain ⟨hl, b, Fz, F, δ, R, P⟩ := h
  exact body_okM hN ⟨hl, b, Fz, F, δ, fun z => absurd z hm, R, P⟩
/-- a def in which the table is followed -/
def spT (K : PySem.W.Frag) (mg : Str → Option Value) (n : Nat) (f : List Sl → FR) : Sp := fun vs H Q E => vs.length = n ∧ ∃ b Fz F δ, b.T = TK K ∧ Rl K b Fz F δ (vs.map some) H ∧ PostF K mg b Fz vs Q E (f δ)
theorem body_okT {K : PySem.W.Frag} {mg : Str → Option Value} {N : List Str} {vs : List V} {H : Hp} {Q : VK} {E : XK} {n : Nat} {pin : List Nat} {body : List Sl → Ot} (hN : n ≤ N.length) (h : spT K mg n (fnRun n N.length pin body) vs H Q E) :
    rdS K mg (fun cls d _ H => E cls d H) pin body { nx := fun _ H' => Q .non H', rt := Q } (L2.start N vs) H := by
  obtain ⟨hl, b, Fz, F, δ, e, R, P⟩ := h
  exact body_okM hN ⟨hl, b, Fz, F, δ, fun _ => e, R, P⟩
/-- the context of a def's body -/
abbrev GX (P : Program) (w : World) (K : PySem.W.Frag) (mg : Str → Option Value) (base : Heap) (N : List Str) (qual : Str) (scope : Scope) (f : Addr) (cd : Value) (A : Around) (outer : List Env) (s : Shared) (H : Hp) (E : XK) : Cx := cxOf (L2.CX P w) P w K mg base N qual scope f cd A outer s H E
abbrev GW (E : XK) : WX := fun cls d _ H => E cls d H
theorem fnG_ofM {P : Program} {w : World} {K : PySem.W.Frag} {mg : Str → Option Value} {base : Heap} {k : Nat} {f : Addr} {name qual : Str} {params : Arguments} {body : List Stmt} {scope : Scope} {dV kV doc pm cdv ct oc : Value} {an od : Option Addr}
    {osl : Array (Option Value)} {N ps : List Str} {n : Nat} {pin : List Nat} {fb : List Sl → Ot} (lk : K.lookup f = some ⟨oc, od, .func (PySem.W.fnOf name qual params body scope dV kV doc pm an cdv ct), osl⟩) (hcd : PySem.W.codeIn K cdv qual = true) (S : FnScope N ps scope)
    (hn : ps.length = n) (sp : Sp) (hs1 : ∀ vs H Q E, sp vs H Q E → vs.length = n) (hs2 : n ≤ N.length → ∀ vs H Q E, sp vs H Q E → rdS K mg (fun cls d _ H => E cls d H) pin fb { nx := fun _ H' => Q .non H', rt := Q } (L2.start N vs) H)
    (hbody : ∀ (A : Around) (outer : List Env) (s : Shared) (H : Hp) (E : XK), Room k (A.deeper (envOfC qual scope s.heap.objs.size f cdv)) → A.guards = some [] →
      SSs (GX P w K mg base N qual scope f cdv A outer s H E) (GW E) pin body fb) :
    FnG P w K mg base (k + 1) f (PySem.W.fnOf name qual params body scope dV kV doc pm an cdv ct) ps sp := by
  have hpl : n ≤ N.length := by have := congrArg List.length S.pre; rw [List.length_take] at this; omega
  refine ⟨fun vs H Q E h => (hs1 vs H Q E h).trans hn.symm, fun A outer s H args us vs Q E hgd hr e0 hb r hsp => ?_⟩
  have hl : vs.length = ps.length := (hs1 _ _ _ _ hsp).trans hn.symm
  have KX : K.In s.heap := e0.mod.kin.keeps fun b o e => (e0.bs b o e).1
  have lim : s.heap.NoLimit := e0.mod.nolimit.keeps fun b o e => (e0.bs b o e).1
  have hkind : ∀ y ∈ ps.zip us, scope.names.lookup y.1 = some .local ∨ (scope.names.lookup y.1 = some .cell ∧ ((cellsFrom (s.heap.objs.size + 1) scope.names []).lookup y.1).isSome = true) := fun ⟨n, v⟩ hy => by
    rcases S.par n (List.of_mem_zip hy).1 with q | q
    · exact .inl q
    · exact .inr ⟨q, PySem.W.cellsFrom_some _ _ _ (.inl q)⟩
  refine codeAny_call_function hr.depth (KX _ _ lk) rfl S.co S.gen rfl (PySem.W.codeRec_of KX hcd) (hb _ _ _ _ ?_)
  refine wpAny_newFunctionEnv_cells S.kind hkind fun env he s1 x => ?_
  subst he
  refine ⟨lim.keeps x.toInCall.keep, codeAny_func ?_⟩
  have ht := hbody A outer s H E (hr.deeper _) hgd
  have hq := hs2 hpl _ _ _ _ hsp
  have I : Inv (GX P w K mg base N qual scope f cdv A outer s H E) [] (L2.start N vs) H s1 := inv_start S hr.hd e0 hl r x
  refine wpAny_mono (ht.run [] s1 (L2.start N vs) H _ I hq) (fun fl s' hs => ?_) fun e s' hs => hs
  have fin : ∀ {σ' : L2.St} {H' : Hp} {v : V} {u : Value}, Inv (GX P w K mg base N qual scope f cdv A outer s H E) [] σ' H' s' → RelV v u → Q v H' → CE outer P w H s Q u s' :=
    fun {σ' H' v u} J rv q => ⟨v, H', J.os, J.bare, J.base, J.hok, rv, q⟩
  cases fl with
  | ret u =>
    obtain ⟨v, σ', H', J, rv, q⟩ := hs
    exact fin J rv q
  | next =>
    obtain ⟨σ', H', J, q⟩ := hs
    exact fin (v := V.non) (u := Value.none) J rfl q
  | brk =>
    obtain ⟨_, _, _, q⟩ := hs
    exact False.elim q
  | cont =>
    obtain ⟨_, _, _, q⟩ := hs
    exact False.elim q
theorem fnG_of {P : Program} {w : World} {K : PySem.W.Frag} {mg : Str → Option Value} {base : Heap} {k : Nat} {f : Addr} {name qual : Str} {params : Arguments} {body : List Stmt} {scope : Scope} {dV kV doc pm cdv ct oc : Value} {an od : Option Addr}
    {osl : Array (Option Value)} {N ps : List Str} {n : Nat} {pin : List Nat} {fb : List Sl → Ot} (lk : K.lookup f = some ⟨oc, od, .func (PySem.W.fnOf name qual params body scope dV kV doc pm an cdv ct), osl⟩) (hcd : PySem.W.codeIn K cdv qual = true) (S : FnScope N ps scope)
    (hn : ps.length = n)
    (hbody : ∀ (A : Around) (outer : List Env) (s : Shared) (H : Hp) (E : XK), Room k (A.deeper (envOfC qual scope s.heap.objs.size f cdv)) → A.guards = some [] →
      SSs (GX P w K mg base N qual scope f cdv A outer s H E) (GW E) pin body fb) (hm : mkT ∉ pin := by decide) :
    FnG P w K mg base (k + 1) f (PySem.W.fnOf name qual params body scope dV kV doc pm an cdv ct) ps (spF K mg n (fnRun n N.length pin fb)) :=
  fnG_ofM lk hcd S hn (spF K mg n (fnRun n N.length pin fb)) (fun _ _ _ _ h => h.1) (fun h _ _ _ _ z => body_ok h hm z) hbody
theorem fnG_ofT {P : Program} {w : World} {K : PySem.W.Frag} {mg : Str → Option Value} {base : Heap} {k : Nat} {f : Addr} {name qual : Str} {params : Arguments} {body : List Stmt} {scope : Scope} {dV kV doc pm cdv ct oc : Value} {an od : Option Addr}
    {osl : Array (Option Value)} {N ps : List Str} {n : Nat} {pin : List Nat} {fb : List Sl → Ot} (lk : K.lookup f = some ⟨oc, od, .func (PySem.W.fnOf name qual params body scope dV kV doc pm an cdv ct), osl⟩) (hcd : PySem.W.codeIn K cdv qual = true) (S : FnScope N ps scope)
    (hn : ps.length = n)
    (hbody : ∀ (A : Around) (outer : List Env) (s : Shared) (H : Hp) (E : XK), Room k (A.deeper (envOfC qual scope s.heap.objs.size f cdv)) → A.guards = some [] →
      SSs (GX P w K mg base N qual scope f cdv A outer s H E) (GW E) pin body fb) :
    FnG P w K mg base (k + 1) f (PySem.W.fnOf name qual params body scope dV kV doc pm an cdv ct) ps (spT K mg n (fnRun n N.length pin fb)) :=
  fnG_ofM lk hcd S hn (spT K mg n (fnRun n N.length pin fb)) (fun _ _ _ _ h => h.1) (fun h _ _ _ _ z => body_okT h z) hbody
theorem gx_pass {P : Program} {w : World} {K : PySem.W.Frag} {mg : Str → Option Value} {base : Heap} {N : List Str} {qual : Str} {scope : Scope} {f : Addr} {cd : Value} {A : Around} {outer : List Env} {s : Shared} {H : Hp} {E : XK} :
    ∀ σ, PassesAt (L2.CX P w) (GX P w K mg base N qual scope f cd A outer s H E) σ (WE (GW E) σ) := passAt (X := GX P w K mg base N qual scope f cd A outer s H E) (W := GW E) (takes_of rfl rfl rfl rfl)
theorem w0_pass {X : Cx} {P : Program} {w : World} : ∀ σ, PassesAt (L2.CX P w) X σ (WE W0 σ) := fun σ pins H s e s' I h => by
  obtain ⟨_, _, _, _, _, _, _, _, _, _, _, _, z⟩ := h
  exact z.elim
end Hb
namespace Hb
open PySem PySem.Spec PyProof.Rows L2
mutual
def shw : PyData → Bool
  | .none => true
  | .bool _ => true
  | .str _ => true
  | .int i => decide (i.natAbs.log2 < 1920)
  | .list xs => shwAll xs
  | .tuple xs => shwAll xs
  | .dict kvs => kvs.isEmpty
def shwAll : List PyData → Bool
  | [] => true
  | x :: xs => shw x && shwAll xs
end
section
variable {X : Cx} {pins : List (Addr × Obj)} {σ : L2.St} {H : Hp} {s : Shared}
def RR (X : Cx) (h : Heap) (u : Value) (d : PyData) : Prop := ∃ bs as, Reads h u d as ∧ ReadAtMost h d.depth bs ∧ ReprK X.prog X.w bs h d.depth u d.shown
def RRs (X : Cx) (h : Heap) (us : List Value) (ds : List PyData) : Prop := ∃ bs as, ReadsAll h us ds as ∧ ReadAtMost h (PyData.depthAll ds) bs ∧ ReprAllK X.prog X.w bs h (PyData.depthAll ds) us (PyData.shownAll ds)
theorem rr_cons {h : Heap} {u : Value} {us : List Value} {d : PyData} {ds : List PyData} : RR X h u d → RRs X h us ds → RRs X h (u :: us) (d :: ds) := fun ⟨b1, a1, r1, m1, k1⟩ ⟨b2, a2, r2, m2, k2⟩ => by
  refine ⟨b1 ++ b2, _, .cons r1 r2, ?_, ?_⟩
  · simp only [PyData.depthAll]
    exact (m1.mono (Nat.le_max_left _ _)).append (m2.mono (Nat.le_max_right _ _))
  · simp only [PyData.depthAll, PyData.shownAll]
    exact .cons ((k1.more fun b hb => List.mem_append_left _ hb).level_le (Nat.le_max_left _ _)) (k2.more_le (fun b hb => List.mem_append_right _ hb) (Nat.le_max_right _ _))
theorem rr_leaf {h : Heap} {u : Value} {d : PyData} (r : Reads h u d []) (k : ReprIs X.prog X.w u d.shown) : RR X h u d := ⟨[], _, r, fun _ z => (nomatch z), .of_is k _ _ _⟩
theorem rr_list {h : Heap} {a : Addr} {its : List Value} {n : Nat} {ds : List PyData} (e : h.get? a = some { cls := .type "list", data := .seq its.toArray n }) : RRs X h its ds → RR X h (.ref a) (.list ds) := fun ⟨bs, as, r, m, k⟩ => by
  have rr : Reads h (.ref a) (.list ds) _ := .list e rfl rfl (by simpa using r)
  have na : a ∉ bs := not_mem_of_deeper rr (by simp only [PyData.depth]; omega) m
  refine ⟨a :: bs, _, rr, ReadAtMost.cons rr (by simp only [PyData.depth]; omega) m, ?_⟩
  simp only [PyData.depth, PyData.shown]
  cases its with
  | nil =>
    cases r
    simp only [PyData.shownAll, listText_nil]
    exact ReprK.listEmpty e rfl rfl
  | cons x l => exact ReprK.list e rfl rfl na (by simpa using k.length_eq) fun i y q => k.item i y (by simpa using q)
theorem rr_tup {h : Heap} {a : Addr} {o : Obj} {its : List Value} {n : Nat} {ds : List PyData} (e : h.get? a = some o) (hc : o.cls = .type "tuple") (hd : o.data = .seq its.toArray n) : RRs X h its ds → RR X h (.ref a) (.tuple ds) := fun ⟨bs, as, r, m, k⟩ => by
  have rr : Reads h (.ref a) (.tuple ds) _ := .tuple e hc hd (by simpa using r)
  have na : a ∉ bs := not_mem_of_deeper rr (by simp only [PyData.depth]; omega) m
  refine ⟨a :: bs, _, rr, ReadAtMost.cons rr (by simp only [PyData.depth]; omega) m, ?_⟩
  simp only [PyData.depth, PyData.shown]
  exact ReprK.tuple e hc hd na (by simpa using k)
theorem rr_dic {h : Heap} {a : Addr} {o : Obj} {n : Nat} (e : h.get? a = some o) (hc : o.cls = .type "dict") (hd : o.data = .dict #[] n) (hs : (a == sysModules) = false) : RR X h (.ref a) (.dict []) := by
  have rr : Reads h (.ref a) (.dict []) _ := .dict e hc hd (by simpa using ReadsAll.nil) (by simpa using ReadsAll.nil)
  have m : ReadAtMost h (PyData.depthKv []) [] := fun _ z => (nomatch z)
  refine ⟨a :: [], _, rr, ReadAtMost.cons rr (by simp only [PyData.depth]; omega) m, ?_⟩
  simp only [PyData.depth, PyData.shown]
  exact ReprK.dict e hc hd hs (by simp) (by simpa [PyData.shownKv] using ReprEntriesK.nil)
mutual
theorem rr_of (I : Inv X pins σ H s) : ∀ {v : V} {d : PyData} {u : Value}, Rp X.K H v d → RelV v u → shw d = true → d.shown.length ≤ sizeLine → RR X s.heap u d
  | _, _, _, .non, e, _, _ => by
    obtain rfl : _ = Value.none := e
    exact rr_leaf .none (by simp only [PyData.shown]; exact ReprIs.none)
  | _, _, _, .bl b, e, _, _ => by
    obtain rfl : _ = Value.bool b := e
    exact rr_leaf (.bool b) (by simp only [PyData.shown]; exact ReprIs.bool b)
  | _, _, _, .int i, e, hs, _ => by
    obtain ⟨t, rfl⟩ := e
    exact rr_leaf (.int i t) (by simp only [PyData.shown]; exact ReprIs.int t (by simpa [shw] using hs))
  | _, _, _, .str x, e, _, hz => by
    obtain ⟨t, rfl⟩ := e
    exact rr_leaf (.str x t) (by simp only [PyData.shown] at hz ⊢; exact ReprIs.str x t hz)
  | _, _, _, .lst (ds := ds) h1 h2, e, hs, hz => by
    obtain rfl : _ = Value.ref _ := e
    obtain ⟨its, n, r, e, _⟩ := inv_lstX I h1
    have hz' : (listText (PyData.shownAll ds)).length ≤ sizeLine := by simpa only [PyData.shown] using hz
    exact rr_list e (rrs_of I h2 r (by simpa [shw] using hs) fun t ht => Nat.le_trans (listText_mem_le ht) hz')
  | _, _, _, .tup (ds := ds) h1 h2, e, hs, hz => by
    obtain rfl : _ = Value.ref _ := e
    obtain ⟨its, r, ⟨o, e, hc, n, hd⟩, _⟩ := I.tuple (SqT.of h1)
    have hz' : (tupleText (PyData.shownAll ds)).length ≤ sizeLine := by simpa only [PyData.shown] using hz
    exact rr_tup e hc hd (rrs_of I h2 r (by simpa [shw] using hs) fun t ht => Nat.le_trans (tupleText_mem_le ht) hz')
  | _, _, _, .dK h1 h2, e, hs, _ => by
    obtain rfl : _ = Value.ref _ := e
    cases h2 with
    | cons _ _ => simp [shw] at hs
    | nil =>
      obtain ⟨_, hy, vs, kv, o, es, ep, e, hx, hd, _, pr, _⟩ := I.hok _ _ h1
      cases kv
      have : es.toList = [] := by
        generalize es.toList = l at pr
        cases pr
        rfl
      have e2 : es = #[] := by simpa using this
      subst e2
      exact rr_dic e hx.1 hd hy
  | _, _, _, .dT h1 h2, e, hs, _ => by
    obtain rfl : _ = Value.ref _ := e
    cases h2 with
    | cons _ _ => simp [shw] at hs
    | nil =>
      obtain ⟨_, hy, xs, kv, o, es, ep, e, hx, hd, pr, _⟩ := I.hok _ _ h1
      cases kv
      have e2 : es = #[] := by simpa using pr
      subst e2
      exact rr_dic e hx.1 hd hy
theorem rrs_of (I : Inv X pins σ H s) : ∀ {vs : List V} {ds : List PyData} {us : List Value}, RpL X.K H vs ds → Vals vs us → shwAll ds = true → (∀ t ∈ PyData.shownAll ds, t.length ≤ sizeLine) → RRs X s.heap us ds
  | _, _, _, .nil, r, _, _ => by
    cases r
    exact ⟨[], _, .nil, fun _ z => (nomatch z), by simp only [PyData.shownAll]; exact .nil⟩
  | _, _, _, .cons (d := d) (ds := ds) h t, r, hs, hz => by
    cases r with
    | cons r1 r2 =>
      have hs2 : shw d = true ∧ shwAll ds = true := by simpa [shwAll] using hs
      exact rr_cons (rr_of I h r1 hs2.1 (hz _ (by simp only [PyData.shownAll]; exact List.mem_cons_self))) (rrs_of I t r2 hs2.2 fun t ht => hz _ (by simp only [PyData.shownAll]; exact List.mem_cons_of_mem _ ht))
end
/-- repr(v): no repr is running -/
def rRepr (K : PySem.W.Frag) : List V → Hp → VK → Prop := fun xs H Q => ∃ v d, xs = [v] ∧ Rp K H v d ∧ (shw d = true ∧ d.depth ≤ 60) ∧ d.shown.length ≤ sizeLine ∧ Q (.str d.shown) H
theorem call_reprT (hu : X.A.units + 64 < cLine) (hg : X.A.guards = some []) : CallR X (.builtin "repr") (rRepr X.K) := by
  intro pins s σ H xs us Q I r h
  obtain ⟨v, d, rfl, hr, ⟨hs, hd⟩, hz, q⟩ := h
  obtain ⟨u, rfl, rv⟩ := vals1 r
  have fin : ∀ h' tk tk2, (∀ b o, s.heap.get? b = some o → h'.get? b = some o) → EP X pins σ Q (.str d.shown tk) { s with heap := h', toks := tk2 } := fun h' tk tk2 k => ⟨.str d.shown, H, I.kept k, ⟨_, rfl⟩, q⟩
  cases hr with
  | non =>
    obtain rfl : _ = Value.none := rv
    exact PySem.P.repr_of_none (by simpa [PyData.shown] using fin s.heap _ _ fun _ _ e => e)
  | bl b =>
    obtain rfl : _ = Value.bool b := rv
    exact PySem.P.repr_of_bool (by simpa [PyData.shown] using fin s.heap _ _ fun _ _ e => e)
  | int i =>
    obtain ⟨t, rfl⟩ := rv
    exact PySem.P.repr_of_int (by simpa [shw] using hs) (by simpa [PyData.shown] using fin s.heap _ _ fun _ _ e => e)
  | str x =>
    obtain ⟨t, rfl⟩ := rv
    exact PySem.P.repr_of_str (by simpa [PyData.shown] using fin s.heap _ _ fun _ _ e => e) (by simpa [PyData.shown] using hz)
  | lst h1 h2 =>
    rename_i a xs ds
    obtain rfl : _ = Value.ref a := rv
    obtain ⟨its, n, r, e, _⟩ := inv_lstX I h1
    have hz' : (listText (PyData.shownAll ds)).length ≤ sizeLine := by simpa only [PyData.shown] using hz
    obtain ⟨bs, as, rs, m, k⟩ := rrs_of I h2 r (by simpa [shw] using hs) fun t ht => Nat.le_trans (listText_mem_le ht) hz'
    have rr : Reads s.heap (.ref a) (.list ds) _ := .list e rfl rfl (by simpa using rs)
    have na : a ∉ bs := not_mem_of_deeper rr (by simp only [PyData.depth]; omega) m
    simp only [PyData.depth] at hd
    simp only [PyData.shown] at fin
    refine call_repr_slot (T := "list") (by omega) ⟨_, e, rfl⟩ F.slot_list_repr.toG ?_
    cases its with
    | nil =>
      cases rs
      simp only [PyData.shownAll, listText_nil] at fin
      exact call_list_repr_empty ⟨_, e, rfl⟩ e rfl ⟨_, _, rfl, fin s.heap _ _ fun _ _ e => e⟩
    | cons x l =>
      exact call_list_reprK e rfl rfl na (by simpa using k.length_eq) (fun i y q => k.item i y (by simpa using q)) hg (fun b _ => Clear.nil b) (by show X.A.units + 1 + _ < cLine; omega) (fun _ _ e => e) (fun h' u tk kk => ⟨_, _, rfl, fin h' _ _ kk⟩) hz'
  | tup h1 h2 =>
    rename_i a xs ds
    obtain rfl : _ = Value.ref a := rv
    obtain ⟨its, r, ⟨o, e, hc, n, hdd⟩, _⟩ := I.tuple (SqT.of h1)
    have hz' : (tupleText (PyData.shownAll ds)).length ≤ sizeLine := by simpa only [PyData.shown] using hz
    obtain ⟨bs, as, rs, m, k⟩ := rrs_of I h2 r (by simpa [shw] using hs) fun t ht => Nat.le_trans (tupleText_mem_le ht) hz'
    have rr : Reads s.heap (.ref a) (.tuple ds) _ := .tuple e hc hdd (by simpa using rs)
    have na : a ∉ bs := not_mem_of_deeper rr (by simp only [PyData.depth]; omega) m
    simp only [PyData.depth] at hd
    simp only [PyData.shown] at fin
    refine call_repr_slot (T := "tuple") (by omega) ⟨_, e, hc⟩ F.slot_tuple_repr ?_
    exact call_tuple_reprK e hc hdd na (by simpa using k) hg (fun b _ => Clear.nil b) (by show X.A.units + 1 + _ < cLine; omega) (fun _ _ e => e) (fun h' u tk kk => ⟨_, _, rfl, fin h' _ _ kk⟩) hz'
  | dK h1 h2 =>
    cases h2 with
    | cons _ _ => simp [shw] at hs
    | nil =>
      rename_i a
      obtain rfl : _ = Value.ref a := rv
      obtain ⟨_, hy, vs, kv, o, es, ep, e, hx, hdd, _, pr, _⟩ := I.hok _ _ h1
      cases kv
      have e1 : es.toList = [] := by
        generalize es.toList = l at pr
        cases pr
        rfl
      have e2 : es = #[] := by simpa using e1
      subst e2
      simp only [PyData.shown] at fin hz
      refine call_repr_slot (T := "dict") (by omega) ⟨_, e, hx.1⟩ F.slot_dict_repr ?_
      exact call_dict_reprK (as := []) (d := 0) e hx.1 hdd hy (by simp) .nil hg (fun b _ => Clear.nil b) (by show X.A.units + 1 + _ < cLine; omega) (fun _ _ e => e) (fun h' u tk kk => ⟨_, _, rfl, by simpa [PyData.shownKv] using fin h' _ _ kk⟩) (by simpa [PyData.shownKv] using hz)
  | dT h1 h2 =>
    cases h2 with
    | cons _ _ => simp [shw] at hs
    | nil =>
      rename_i a
      obtain rfl : _ = Value.ref a := rv
      obtain ⟨_, hy, xs, kv, o, es, ep, e, hx, hdd, pr, _⟩ := I.hok _ _ h1
      cases kv
      have e2 : es = #[] := by simpa using pr
      subst e2
      simp only [PyData.shown] at fin hz
      refine call_repr_slot (T := "dict") (by omega) ⟨_, e, hx.1⟩ F.slot_dict_repr ?_
      exact call_dict_reprK (as := []) (d := 0) e hx.1 hdd hy (by simp) .nil hg (fun b _ => Clear.nil b) (by show X.A.units + 1 + _ < cLine; omega) (fun _ _ e => e) (fun h' u tk kk => ⟨_, _, rfl, by simpa [PyData.shownKv] using fin h' _ _ kk⟩) (by simpa [PyData.shownKv] using hz)
def reprD (d : PyData) : Option PyData := if (shw d = true ∧ d.depth ≤ 60) ∧ d.shown.length ≤ sizeLine then some (.str d.shown) else none
theorem c1_repr {K : PySem.W.Frag} {mg : Str → Option Value} {W : WX} {pin : List Nat} : C1 K mg W pin (rRepr K) (gRd reprD) := c1_rd fun v d e H Q r k f q => by
  unfold reprD at k
  split at k
  · rename_i h
    cases k
    exact ⟨v, d, rfl, r, h.1, h.2, q⟩
  · cases k
end
end Hb
namespace Hb
open PySem PySem.Spec PyProof.Rows L2
def rRepX (K : PySem.W.Frag) : R2 := fun x y H Q => ∃ l k xs, x = .ref l ∧ y = .int k ∧ SqX K H l xs ∧ -(2 ^ 63) ≤ k ∧ k < 2 ^ 63 ∧ xs.length * k.toNat ≤ sizeLine ∧
  ∀ p, H p = none → Q (.ref p) (upd H p (.lst (List.replicate k.toNat xs).flatten))
theorem op_repX {X : Cx} : OpR X (binaryOp .Mult) (rRepX X.K) := by
  intro pins s σ H x y v u Q I rx ry h
  obtain ⟨l, k, xs, rfl, rfl, hX, k1, k2, hz, q⟩ := h
  cases rx
  obtain ⟨t, rfl⟩ := ry
  obtain ⟨its, n, r, e, z⟩ := inv_lstX I hX
  have hl := r.length
  have hlen : its.toArray.size * k.toNat ≤ sizeLine := by rw [List.size_toArray, ← hl]; exact hz
  have line8 : (sizeLine : Nat) ≤ (2 ^ 63 - 1) / 8 := by decide
  have notcap : ¬ its.toArray.size * k.toNat > (2 ^ 63 - 1) / 8 := by omega
  have fit : ¬ (!Builtin.List.listFitsIndex k) = true := by
    rw [fitsIndex_both k1 k2]
    exact Bool.false_ne_true
  have notlong : ¬ Builtin.List.listTooLong (its.toArray.size * k.toNat) = true := by
    rw [notLongL hlen]
    exact Bool.false_ne_true
  have made : List.foldl (fun x1 x2 => x1 ++ x2) #[] (List.replicate (if its.toArray.isEmpty = true then 0 else k.toNat) its.toArray) = (List.replicate k.toNat its).flatten.toArray := by
    have f0 : ∀ m : Nat, List.foldl (fun x1 x2 => x1 ++ x2) #[] (List.replicate m its.toArray) = (List.replicate m its).flatten.toArray := fun m => by
      have g := foldl_rep its m []
      rwa [List.nil_append] at g
    rw [f0]
    cases its with
    | nil => simp
    | cons a r' => rw [if_neg (by simp)]
  refine wpAny_binaryOp_repeat_ref (T := "list") (U := "int") (by decide) ⟨_, e, rfl⟩ (fun s' => typeIs_int s' k t) noFill_list_mul F.fills_int_mul F.slot_int_rmul repeat_list F.slot_int_index.lookup
    (call_meets F.slot_int_rmul (typeIs_int s k t) F.entry_int_rmul (F.args_int_rmul_2 _ _) (int___rmul___int_list k t l its.toArray n)
      ⟨e, rfl, ⟨_, e, rfl⟩, call_meets F.slot_list_mul ⟨_, e, rfl⟩ F.entry_list_mul (F.args_list_mul_2 _ _) (AutoListH.list___mul___list_int_3 l its.toArray n k t fit notcap notlong) ⟨e, ?_⟩⟩)
  rw [made]
  exact ⟨.ref _, _, I.lnew (t' := s.toks) (r.rep k.toNat) (by rw [PyProof.Rows.lm_len_rep_flat, Nat.mul_comm]; exact hz), rfl, q _ I.fresh⟩
def rMulX (K : PySem.W.Frag) : R2 := fun x y H Q => (rI CMul (fun i j => .int (i * j)) x y H Q ∨ rI CMulW (fun i j => .int (i * j)) x y H Q) ∨ rRepX K x y H Q
theorem op_mulX2 {X : Cx} : OpR X (binaryOp .Mult) (rMulX X.K) := OpR.or (OpR.or op_mul op_mulW) op_repX
theorem RpL.rep {K : PySem.W.Frag} {H : Hp} {vs : List V} {ds : List PyData} (h : RpL K H vs ds) : ∀ k : Nat, RpL K H (List.replicate k vs).flatten (List.replicate k ds).flatten
  | 0 => .nil
  | k + 1 => by
    rw [List.replicate_succ, List.replicate_succ, List.flatten_cons, List.flatten_cons]
    exact h.append (RpL.rep h k)
def gMulX (x y : AV) (δ : List Sl) : Rs AV := match rdC δ x, rdC δ y with
  | some (.int i), some (.int j) => if i.natAbs < 2 ^ 64 ∨ j.natAbs < 2 ^ 64 then .ok (.val (.int (i * j))) δ else .bad
  | some (.list ds), some (.int k) => if ds.length ≤ 1000 ∧ 0 ≤ k ∧ k ≤ 1000 then .ok (.tmp (.ol ((List.replicate k.toNat ds).flatten.map .fz))) δ else .bad
  | _, _ => .bad
section
variable {K : PySem.W.Frag} {mg : Str → Option Value} {W : WX} {pin : List Nat}
theorem v2_mul : V2 K mg W pin (rMulX K) gMulX := by
  intro b Fz F δ σ H v w x y Q hp R A B P
  unfold gMulX at P
  cases q1 : rdC δ x with
  | none => simp only [q1] at P; exact P.elim
  | some d =>
    cases q2 : rdC δ y with
    | none => cases d <;> (simp only [q1, q2] at P; exact P.elim)
    | some e =>
      have h1 := rdC_ok R A q1
      have h2 := rdC_ok R B q2
      cases d with
      | int i =>
        cases e with
        | int j =>
          simp only [q1, q2] at P
          by_cases c : i.natAbs < 2 ^ 64 ∨ j.natAbs < 2 ^ 64
          · rw [if_pos c] at P
            exact .inl (.inl ⟨i, j, rpc_int h1, rpc_int h2, by unfold CMul; omega, P _ H Fz F (Same.refl _) R (.int _)⟩)
          · rw [if_neg c] at P; exact P.elim
        | _ => simp only [q1, q2] at P; exact P.elim
      | list ds =>
        cases e with
        | int k =>
          simp only [q1, q2] at P
          by_cases c : ds.length ≤ 1000 ∧ 0 ≤ k ∧ k ≤ 1000
          · rw [if_pos c] at P
            obtain ⟨a1, v1, e1, s1, r1⟩ := h1.list R.le
            have l1 := r1.len
            have hk : k.toNat ≤ 1000 := by omega
            refine .inr ⟨a1, k, v1, e1, rpc_int h2, s1, by omega, by omega, ?_, post_newL R (r1.rep k.toNat) P⟩
            have := Nat.mul_le_mul (Nat.le_of_eq l1) hk
            have h3 := Nat.mul_le_mul_right 1000 c.1
            rw [sizeLine_eq]
            omega
          · rw [if_neg c] at P; exact P.elim
        | _ => simp only [q1, q2] at P; exact P.elim
      | _ => cases e <;> (simp only [q1, q2] at P; exact P.elim)
end
section
variable {X : Cx} {W : WX} {pin : List Nat} {fa fb : List Sl → Rs AV} {a c : Expr} {pos : Pos}
theorem se_mul (ha : SE X W pin a fa) (hb : SE X W pin c fb) : SE X W pin (.BinOp a .Mult c pos) (s2 gMulX fa fb) := se_bin op_mulX2 v2_mul ha hb
def rgD (a b : Int) : List PyData := (List.range (b - a).toNat).map fun i => PyData.int (a + (i : Nat))
theorem rgD_rp {K : PySem.W.Frag} {H : Hp} (a b : Int) : RpL K H (rgV a b) (rgD a b) := by
  unfold rgV rgD
  generalize List.range _ = l
  induction l with
  | nil => exact .nil
  | cons i r ih => exact .cons (.int _) ih
def mkRg (a b : Int) (δ : List Sl) : Rs AV := if (-1000000 ≤ a ∧ a ≤ 1000000) ∧ -1000000 ≤ b ∧ b ≤ 1000000 then .ok (.tmp (.ol ((rgD a b).map .fz))) δ else .bad
def gRg1 (x : AV) (δ : List Sl) : Rs AV := match rdC δ x with
  | some (.int n) => mkRg 0 n δ
  | _ => .bad
theorem mkRg_ok {K : PySem.W.Frag} {mg : Str → Option Value} {b : Bk} {Fz : Hp} {F : Nat → List Addr} {δ : List Sl} {σ : L2.St} {H : Hp} {Q : VK} {m n : Int} (R : Rl K b Fz F δ σ H) (P : Post K mg W b Fz σ Q (mkRg m n δ)) :
    RgOk m n ∧ ∀ q, H q = none → Q (.ref q) (upd H q (.lst (rgV m n))) := by
  unfold mkRg at P
  by_cases c : (-1000000 ≤ m ∧ m ≤ 1000000) ∧ -1000000 ≤ n ∧ n ≤ 1000000
  · rw [if_pos c] at P
    exact ⟨by unfold RgOk; omega, post_newL R (rgD_rp m n) P⟩
  · rw [if_neg c] at P
    exact P.elim
theorem se_lrg1 {p p2 pos2 : Pos} (hc : X.calm = true) (hg : Gl X "list") (hm : X.mg "list" = none) (hg2 : Gl X "range") (hm2 : X.mg "range" = none) (ha : SE X W pin a fa) (na : starEach [a] X.env = (false, eval a X.env) :: starEach [] X.env := by rfl)
    (nb : starEach [.Call (.Name "range" p2) [a] [] pos2] X.env = (false, eval (.Call (.Name "range" p2) [a] [] pos2) X.env) :: starEach [] X.env := by rfl) :
    SE X W pin (.Call (.Name "list" p) [.Call (.Name "range" p2) [a] [] pos2] [] pos) (s1 gRg1 fa) := pe_mono (pe_listRg hc hg hm (prg_1 hg2 hm2 (se_st ha) na) nb) fun σ H Q ⟨b, Fz, F, δ, hp, R, P⟩ => by
  refine rd_bind hp R P fun v H1 Fz1 F1 x δ1 s1 R1 A1 P1 => ?_
  unfold gRg1 at P1
  cases q : rdC δ1 x with
  | none => simp only [q] at P1; exact P1.elim
  | some d =>
    cases d with
    | int n =>
      simp only [q] at P1
      exact ⟨n, rpc_int (rdC_ok R1 A1 q), mkRg_ok R1 P1⟩
    | _ => simp only [q] at P1; exact P1.elim
end
def strD : PyData → Option PyData
  | .int i => if i.natAbs.log2 < 1920 then some (.str (toString i)) else none
  | .str x => some (.str x)
  | _ => none
theorem call_strU {X : Cx} : CallR X (.type "str") (fun xs H Q => (∃ i, xs = [V.int i] ∧ i.natAbs.log2 < 1920 ∧ Q (.str (toString i)) H) ∨ ∃ a, xs = [V.str a] ∧ Q (.str a) H) := by
  intro pins s σ H xs us Q I r h
  rcases h with h | ⟨a, rfl, q⟩
  · exact call_str_int pins s σ H xs us Q I r h
  · obtain ⟨u, rfl, t, rfl⟩ := vals1 r
    exact PySem.P.str_of_str ⟨.str a, H, I, ⟨t, rfl⟩, q⟩
theorem c1_str {K : PySem.W.Frag} {mg : Str → Option Value} {W : WX} {pin : List Nat} : C1 K mg W pin (fun xs H Q => (∃ i, xs = [V.int i] ∧ i.natAbs.log2 < 1920 ∧ Q (.str (toString i)) H) ∨ ∃ a, xs = [V.str a] ∧ Q (.str a) H) (gRd strD) := c1_rd fun v d e H Q r k f q => by
  cases r with
  | int i =>
    have k : (if i.natAbs.log2 < 1920 then some (PyData.str (toString i)) else none) = some e := k
    by_cases c : i.natAbs.log2 < 1920
    · rw [if_pos c] at k
      cases k
      exact .inl ⟨i, rfl, c, q⟩
    · rw [if_neg c] at k
      cases k
  | str x =>
    cases k
    exact .inr ⟨x, rfl, q⟩
  | _ => cases k
def gIdx (x y : AV) (δ : List Sl) : Rs AV := match rdC δ x, rdC δ y with
  | some (.list ds), some d => if SeqAt.shaped (.list ds) = true ∧ SeqAt.shaped d = true then (match ds.findIdx? (fun z => PyData.eqv z d) with
    | some j => .ok (.val (.int (j : Nat))) δ
    | none => .bad) else .bad
  | _, _ => .bad
section
variable {X : Cx} {W : WX} {pin : List Nat} {fo fa : List Sl → Rs AV} {o e : Expr} {apos cpos : Pos}
def sIdx (fo fa : List Sl → Rs AV) : List Sl → Rs AV := fun δ => (sSt fo δ).bind fun x δ1 => if isLst δ1 x = true then (sSt fa δ1).bind fun y δ2 => gIdx x y δ2 else .bad
theorem se_index (hu : X.A.units + 65 < cLine) (ho : SE X W pin o fo) (ha : SE X W pin e fa) (hbase : attributeBase o "index" X.env (eval o X.env) = eval o X.env := by rfl) (hline : (apos.endLine == cpos.line) = true := by rfl)
    (hs : starEach [e] X.env = (false, eval e X.env) :: starEach [] X.env := by rfl) (hfew : ((backTo cpos (starEach [e] X.env)).all (fun x => !x.1) && (backToKw cpos (keywordEach [] X.env)).all (fun x => x.1.isSome)
      && decide ([e].length + ([] : List Keyword).length + (if ([] : List Keyword).isEmpty then 0 else 1) < 30)) = true := by rfl) :
    SE X W pin (.Call (.Attribute o "index" apos) [e] [] cpos) (sIdx fo fa) :=
  pe_mono (pe_bm PySem.F.plainAttrs_list PySem.F.slot_list_index PySem.F.type_list_index (mt_indexD hu) (se_st ho) (pa_cons (se_st ha) pa_nil hs) hbase hfew hline hs rfl) fun σ H Q ⟨b, Fz, F, δ, hp, R, P⟩ => by
    refine rd_bind hp R P fun v H1 Fz1 F1 x δ1 s1 R1 A1 P1 => ?_
    by_cases c : isLst δ1 x = true
    · rw [if_pos c] at P1
      refine ⟨isLst_ty R1 A1 c, ?_⟩
      refine rd_bind hp R1 P1 fun w H2 Fz2 F2 y δ2 s2 R2 A2 P2 => ?_
      have A1 := A1.le s2
      unfold gIdx at P2
      cases q : rdC δ2 x with
      | none => simp only [q] at P2; exact P2.elim
      | some d =>
        cases q2 : rdC δ2 y with
        | none => cases d <;> (simp only [q, q2] at P2; exact P2.elim)
        | some z =>
          cases d with
          | list ds =>
            simp only [q, q2] at P2
            by_cases c2 : SeqAt.shaped (.list ds) = true ∧ SeqAt.shaped z = true
            · rw [if_pos c2] at P2
              cases q3 : ds.findIdx? (fun u => PyData.eqv u z) with
              | none => simp only [q3] at P2; exact P2.elim
              | some j =>
                simp only [q3] at P2
                have r1 := (rdC_ok R2 A1 q).rp R2.le
                have r2 := (rdC_ok R2 A2 q2).rp R2.le
                obtain ⟨hj, hz, hn⟩ := List.findIdx?_eq_some_iff_getElem.mp q3
                cases r1 with
                | lst h1 h2 =>
                  exact ⟨_, w, z, ds, j, ds[j], rfl, rfl, rp_dp (.lst h1 h2) c2.1, rp_dp r2 c2.2, c2.1, c2.2, List.getElem?_eq_getElem hj, hz, fun m z' hm e => by
                    obtain ⟨hm2, e2⟩ := List.getElem?_eq_some_iff.mp e
                    subst e2
                    simpa using hn m hm, P2 _ H2 Fz2 F2 (Same.refl _) R2 (.int _)⟩
            · rw [if_neg c2] at P2; exact P2.elim
          | _ => cases z <;> (simp only [q, q2] at P2; exact P2.elim)
    · rw [if_neg c] at P1
      exact P1.elim
end
def noIo : List Ar → Bool
  | [] => true
  | .io _ :: _ => false
  | .fz _ :: r => noIo r
  | .own _ :: r => noIo r
def asgA : List Nat → List Ar → List Sl → Ot
  | [], [], δ => .nx δ
  | k :: ks, .fz d :: r, δ => asgA ks r (upS k (.fz d) δ)
  | k :: ks, .own s :: r, δ => asgA ks r (upS k s δ)
  | _, _, _ => .bad
def oPar (ks : List Nat) (g : List Sl → Rs (List Ar)) : List Sl → Ot := fun δ => match g δ with
  | .ok ars δ' => if noIo ars = true then asgA ks ars δ' else .bad
  | .er x δ' => .er x δ'
  | .bad => .bad
def setL (σ : L2.St) : List Nat → List V → L2.St
  | k :: ks, v :: vs => setL (σ.set k (some v)) ks vs
  | _, _ => σ
def ParH (K : PySem.W.Frag) (Fz H : Hp) (g : List Addr) (v : V) : Ar → Prop
  | .fz d => g = [] ∧ Rp K Fz v d
  | .own s => s.tree.isSome = true ∧ SlH K Fz H [] g (some v) s
  | .io _ => False
def ParOk (K : PySem.W.Frag) (b : Bk) (Fz H : Hp) : (Addr → Prop) → List V → List Ar → Prop
  | _, [], [] => True
  | U, v :: vs, a :: r => ∃ g : List Addr, ParH K Fz H g v a ∧ g.Nodup ∧ (∀ c ∈ g, Fz c = none ∧ b.B c = none ∧ H c ≠ none ∧ ¬U c) ∧ ParOk K b Fz H (fun c => U c ∨ c ∈ g) vs r
  | _, _, _ => False
theorem parOk_of {K : PySem.W.Frag} {b : Bk} {Fz H : Hp} {σ : L2.St} : ∀ {ars : List Ar} {vs : List V} {G : Nat → List Addr} {U : Addr → Prop}, vs.length = ars.length → (∀ (j : Nat) (a : Ar), ars[j]? = some a → ∃ v, vs[j]? = some v ∧ ArH K Fz H σ (G j) v a) → (∀ j, (G j).Nodup) →
    (∀ i j a, a ∈ G i → a ∈ G j → i = j) → (∀ j c, c ∈ G j → Fz c = none ∧ b.B c = none ∧ H c ≠ none ∧ ¬U c) → noIo ars = true → ParOk K b Fz H U vs ars
  | [], [], _, _, _, _, _, _, _, _ => trivial
  | [], v :: vs, _, _, h, _, _, _, _, _ => by cases h
  | a :: r, [], _, _, h, _, _, _, _, _ => by cases h
  | a :: r, v :: vs, G, U, h, hA, nd, dj, off, io => by
    obtain ⟨w, e1, e2⟩ := hA 0 a rfl
    cases e1
    refine ⟨G 0, ?_, nd 0, off 0, parOk_of (σ := σ) (G := fun j => G (j + 1)) (by simpa using h) (fun j c e => ?_) (fun j => nd _) (fun i j c h1 h2 => by have := dj _ _ c h1 h2; omega) (fun j c hc => ?_) ?_⟩
    · cases a with
      | fz d => exact e2
      | own s => exact e2
      | io k => cases io
    · obtain ⟨w, e3, e4⟩ := hA (j + 1) c (by simpa using e)
      exact ⟨w, by simpa using e3, e4⟩
    · obtain ⟨h1, h2, h3, h4⟩ := off (j + 1) c hc
      exact ⟨h1, h2, h3, fun z => z.elim h4 fun z => by have := dj _ _ c hc z; omega⟩
    · cases a with
      | fz d => exact io
      | own s => exact io
      | io k => cases io
theorem asgA_ok {K : PySem.W.Frag} {mg : Str → Option Value} {W : WX} {b : Bk} {Fz H : Hp} {D : Ends} : ∀ {ks : List Nat} {ars : List Ar} {vs : List V} {F : Nat → List Addr} {δ : List Sl} {σ : L2.St} {U : Addr → Prop}, (∀ k ∈ ks, k ∉ b.pin) → (∀ k c, c ∈ F k → U c) → Rl K b Fz F δ σ H → ParOk K b Fz H U vs ars →
    PostS K mg W b Fz D (asgA ks ars δ) → vs.length = ks.length ∧ D.nx (setL σ ks vs) H
  | [], [], [], F, δ, σ, U, _, _, R, A, P => ⟨rfl, P σ H Fz F (Same.refl _) R⟩
  | _, [], v :: vs, _, _, _, _, _, _, _, A, _ => A.elim
  | _, a :: r, [], _, _, _, _, _, _, _, A, _ => A.elim
  | [], .fz d :: r, _, _, _, _, _, _, _, _, _, P => P.elim
  | [], .own d :: r, _, _, _, _, _, _, _, _, _, P => P.elim
  | k :: ks, [], _, _, _, _, _, _, _, _, _, P => P.elim
  | _, .io m :: r, v :: vs, _, _, _, _, _, _, _, A, _ => by
    obtain ⟨_, z, _⟩ := A
    exact z.elim
  | k :: ks, .fz d :: r, v :: vs, F, δ, σ, U, hp, hU, R, A, P => by
    obtain ⟨g, ⟨h0, h1⟩, h2, h3, h4⟩ := A
    subst h0
    have R1 := R.name (s := .fz d) (v := v) (hp k List.mem_cons_self) rfl (g := []) ⟨rfl, v, rfl, h1⟩ List.nodup_nil fun _ z => nomatch z
    have hU2 : ∀ m c, c ∈ (fun m => if m = k then [] else F m) m → U c ∨ c ∈ ([] : List Addr) := fun m c hc => by
      have hc : c ∈ (if m = k then [] else F m) := hc
      by_cases e : m = k
      · rw [if_pos e] at hc; cases hc
      · rw [if_neg e] at hc; exact .inl (hU m c hc)
    obtain ⟨q1, q2⟩ := asgA_ok (fun m hm => hp m (List.mem_cons_of_mem _ hm)) hU2 R1 h4 P
    exact ⟨by simp [q1], q2⟩
  | k :: ks, .own s :: r, v :: vs, F, δ, σ, U, hp, hU, R, A, P => by
    obtain ⟨g, ⟨h0, h1⟩, h2, h3, h4⟩ := A
    have R1 := R.name (s := s) (v := v) (hp k List.mem_cons_self) h0 (g := g) h1 h2 fun c hc => ⟨(h3 c hc).1, (h3 c hc).2.1, (h3 c hc).2.2.1, fun m z => (h3 c hc).2.2.2 (hU m c z)⟩
    have hU2 : ∀ m c, c ∈ (fun m => if m = k then g else F m) m → U c ∨ c ∈ g := fun m c hc => by
      have hc : c ∈ (if m = k then g else F m) := hc
      by_cases e : m = k
      · rw [if_pos e] at hc; exact .inr hc
      · rw [if_neg e] at hc; exact .inl (hU m c hc)
    obtain ⟨q1, q2⟩ := asgA_ok (fun m hm => hp m (List.mem_cons_of_mem _ hm)) hU2 R1 h4 P
    exact ⟨by simp [q1], q2⟩
theorem par_ok {K : PySem.W.Frag} {mg : Str → Option Value} {W : WX} {pin ks : List Nat} {g : List Sl → Rs (List Ar)} {D : Ends} {σ : L2.St} {H : Hp} (hp : ∀ k ∈ ks, k ∉ pin) : rdS K mg W pin (oPar ks g) D σ H → rdAr K mg W pin g σ H fun vs H' => vs.length = ks.length ∧ D.nx (setL σ ks vs) H' :=
  fun ⟨b, Fz, F, δ, hb, R, P⟩ => by
    refine ⟨b, Fz, F, δ, hb, R, ?_⟩
    unfold oPar at P
    cases q : g δ with
    | bad => rw [q] at P; exact P
    | er x δ' => rw [q] at P; exact PostXS.at_ P
    | ok ars δ' =>
      rw [q] at P
      simp only at P
      by_cases c : noIo ars = true
      · rw [if_pos c] at P
        intro vs H' Fz' F' G s R' A
        exact asgA_ok (U := fun c => ∃ k, c ∈ F' k) (by rw [hb]; exact hp) (fun k c hc => ⟨k, hc⟩) R' (parOk_of A.len A.at_ A.nd A.dj (fun j c hc => ⟨(A.off j c hc).1, (A.off j c hc).2.1, (A.off j c hc).2.2.1, fun ⟨k, z⟩ => (A.off j c hc).2.2.2 k z⟩) c) (PostS.le s P)
      · rw [if_neg c] at P
        exact P.elim
section
variable {X : Cx} {W : WX} {pin : List Nat} {a c e : Expr} {g : List Sl → Rs (List Ar)} {pos : Pos}
theorem ss_par2 {i j : Nat} {x y : Str} {px py pt : Pos} {kt k2 pt2} (hc : X.calm = true) (hN : X.N.Nodup) (hi : X.N[i]? = some x) (hj : X.N[j]? = some y) (hij : i ≠ j) (hp : ∀ k ∈ [i, j], k ∉ pin)
    (hx : X.env.scope.names.lookup x = some .local) (hy : X.env.scope.names.lookup y = some .local) (ha : SAr X W pin [a, c] g)
    (hw : swappedStores [.Tuple [.Name x px, .Name y py] kt pt] (.Tuple [a, c] k2 pt2) X.env = pure (some [x, y]) := by rfl)
    (hs : swapsWithSole [.Tuple [.Name x px, .Name y py] kt pt] (.Tuple [a, c] k2 pt2) pos.line X.env = pure false := by rfl) :
    SS X W pin (.Assign [.Tuple [.Name x px, .Name y py] kt pt] (.Tuple [a, c] k2 pt2) pos) (oPar [i, j] g) := ps_mono (ps_par hc hN hi hj hij hx hy ha hw hs) fun D σ H h => by
  obtain ⟨b, Fz, F, δ, hb, R, P⟩ := par_ok hp h
  refine ⟨b, Fz, F, δ, hb, R, ?_⟩
  cases q : g δ with
  | bad => rw [q] at P; exact P
  | er x δ' => rw [q] at P; exact P
  | ok ars δ' =>
    rw [q] at P
    intro vs H' Fz' F' G s R' A
    obtain ⟨hl, q⟩ := P vs H' Fz' F' G s R' A
    match vs, hl with
    | [v, w], _ => exact ⟨v, w, rfl, q⟩
theorem ss_par3 {i j l : Nat} {x y z : Str} {px py pz pt : Pos} {kt k2 pt2} (hc : X.calm = true) (hN : X.N.Nodup) (hi : X.N[i]? = some x) (hj : X.N[j]? = some y) (hl : X.N[l]? = some z) (hij : i ≠ j) (hil : i ≠ l) (hjl : j ≠ l) (hp : ∀ k ∈ [i, j, l], k ∉ pin)
    (hx : X.env.scope.names.lookup x = some .local) (hy : X.env.scope.names.lookup y = some .local) (hz : X.env.scope.names.lookup z = some .local) (ha : SAr X W pin [a, c, e] g)
    (hw : swappedStores [.Tuple [.Name x px, .Name y py, .Name z pz] kt pt] (.Tuple [a, c, e] k2 pt2) X.env = pure (some [x, y, z]) := by rfl)
    (hs : swapsWithSole [.Tuple [.Name x px, .Name y py, .Name z pz] kt pt] (.Tuple [a, c, e] k2 pt2) pos.line X.env = pure false := by rfl) :
    SS X W pin (.Assign [.Tuple [.Name x px, .Name y py, .Name z pz] kt pt] (.Tuple [a, c, e] k2 pt2) pos) (oPar [i, j, l] g) := ps_mono (L2.ps_par3 hc hN hi hj hl hij hil hjl hx hy hz ha hw hs) fun D σ H h => by
  obtain ⟨b, Fz, F, δ, hb, R, P⟩ := par_ok hp h
  refine ⟨b, Fz, F, δ, hb, R, ?_⟩
  cases q : g δ with
  | bad => rw [q] at P; exact P
  | er x δ' => rw [q] at P; exact P
  | ok ars δ' =>
    rw [q] at P
    intro vs H' Fz' F' G s R' A
    obtain ⟨hl, q⟩ := P vs H' Fz' F' G s R' A
    match vs, hl with
    | [u, v, w], _ => exact ⟨u, v, w, rfl, q⟩
end
end Hb
namespace Hb
open PySem PySem.Spec PyProof.Rows L2
structure Dfn (P : Program) (w : World) (K : PySem.W.Frag) (mg : Str → Option Value) (base : Heap) (k : Nat) (x : Str) (n : Nat) (F : List Sl → FR) (m : Nat) (dd : List PyData) : Prop where
  ex : ∃ (f : Addr) (fd : FuncData) (ps : List Str) (ds : List Value), mg x = some (.ref f) ∧ PySem.W.keepIn K (.ref f) = true ∧ FnG P w K mg base k f fd ps (spF K mg n F) ∧ Binds K fd ps ds ∧ Vals (dd.map dV) ds ∧ m + dd.length = n ∧ dd.all flatD = true
theorem Dfn.mono {P : Program} {w : World} {K : PySem.W.Frag} {mg : Str → Option Value} {base : Heap} {k j : Nat} {x : Str} {n : Nat} {F : List Sl → FR} {m : Nat} {dd : List PyData} (D : Dfn P w K mg base k x n F m dd) (h : k ≤ j) : Dfn P w K mg base j x n F m dd := by
  obtain ⟨f, fd, ps, ds, h1, h2, h3, h4⟩ := D.ex
  exact ⟨f, fd, ps, ds, h1, h2, h3.mono h, h4⟩
section
variable {X : Cx} {k : Nat} {W : WX} {pin : List Nat} {x : Str} {p pos : Pos} {e : Expr} {es : List Expr} {n m : Nat} {F : List Sl → FR} {g : List Sl → Rs (List Ar)} {dd : List PyData}
theorem se_callD (D : Dfn X.prog X.w X.K X.mg X.base k x n F m dd) (hr : Room k X.A) (hgd : X.A.guards = some []) (hx : ∀ σ, PassesAt (L2.CX X.prog X.w) X σ (WE W σ)) (hg : Gl X x)
    (ha : SAr X W pin (e :: es) g) (hlen : ∀ δ ars δ', g δ = .ok ars δ' → ars.length = m)
    (hdb : (x == ("__debug__" : Str)) = false := by decide) (he : starEach (e :: es) X.env = (false, eval e X.env) :: starEach es X.env := by rfl) (hpl : (backTo pos (starEach es X.env)).any (·.1) = false := by rfl) :
    SE X W pin (.Call (.Name x p) (e :: es) [] pos) (sCall F dd g) := by
  obtain ⟨f, fd, ps, ds, hm, hk, G, hb, hd, hn, hf⟩ := D.ex
  exact se_call G hr hgd hx hg hm hk hb hd hf ha (fun δ ars δ' q => by rw [hlen δ ars δ' q]; exact hn) hdb he hpl
theorem se_callD0 (D : Dfn X.prog X.w X.K X.mg X.base k x n F 0 dd) (hr : Room k X.A) (hgd : X.A.guards = some []) (hx : ∀ σ, PassesAt (L2.CX X.prog X.w) X σ (WE W σ)) (hg : Gl X x) (hdb : (x == ("__debug__" : Str)) = false := by decide) :
    SE X W pin (.Call (.Name x p) [] [] pos) (sCall F dd rNil) := by
  obtain ⟨f, fd, ps, ds, hm, hk, G, hb, hd, hn, hf⟩ := D.ex
  exact se_call0 G hr hgd hx hg hm hk hb hd hf (by omega) hdb
end
section
variable {P : Program} {w : World} {K : PySem.W.Frag} {mg : Str → Option Value} {base : Heap} {name qual : Str} {params : Arguments} {body : List Stmt} {scope : Scope} {dvs : List V} {kws : List (Str × V)} {f : Addr} {fd : FuncData} {N ps : List Str} {n k : Nat} {pin : List Nat} {fb : List Sl → Ot}
theorem fnG_D (FD : FunD K name qual params body scope dvs kws f fd) (S : FnScope N ps scope) (hn : ps.length = n)
    (hbody : ∀ (cdv : Value) (A : Around) (outer : List Env) (s : Shared) (H : Hp) (E : XK), Room k (A.deeper (envOfC qual scope s.heap.objs.size f cdv)) → A.guards = some [] →
      SSs (GX P w K mg base N qual scope f cdv A outer s H E) (GW E) pin body fb) (hm : mkT ∉ pin := by decide) : FnG P w K mg base (k + 1) f fd ps (spF K mg n (fnRun n N.length pin fb)) := by
  obtain ⟨oc, od, dV, kV, doc, pm, an, cdv, ct, osl, rfl, lk, hcd, _, _⟩ := FD.ex
  exact fnG_of lk hcd S hn (hbody cdv) hm
theorem fnG_DT (FD : FunD K name qual params body scope dvs kws f fd) (S : FnScope N ps scope) (hn : ps.length = n)
    (hbody : ∀ (cdv : Value), (∀ p, He.fAd K p = f → cdv = .ref (He.codeOf K p)) → ∀ (A : Around) (outer : List Env) (s : Shared) (H : Hp) (E : XK), Room k (A.deeper (envOfC qual scope s.heap.objs.size f cdv)) → A.guards = some [] →
      SSs (GX P w K mg base N qual scope f cdv A outer s H E) (GW E) pin body fb) : FnG P w K mg base (k + 1) f fd ps (spT K mg n (fnRun n N.length pin fb)) := by
  obtain ⟨oc, od, dV, kV, doc, pm, an, cdv, ct, osl, rfl, lk, hcd, _, _⟩ := FD.ex
  refine fnG_ofT lk hcd S hn (hbody cdv fun p hp => ?_)
  obtain ⟨c, rfl⟩ := He.codeIn_ref hcd
  rw [← hp] at lk
  rw [He.codeOf_eq lk rfl]
end
end Hb
namespace Hb
open PySem PySem.Spec PyProof.Rows L2
def rEqE (K : PySem.W.Frag) (n : Bool) : R2 := fun x y H Q => ∃ a b xs, x = V.ref a ∧ y = V.ref b ∧ SqX K H a xs ∧ SqX K H b [] ∧ Q (.bl (n != xs.isEmpty)) H
section
variable {X : Cx}
theorem isList_of {h : Heap} {a : Addr} {its : List Value} {n : Nat} (e : h.get? a = some { cls := .type "list", data := .seq its.toArray n }) : h.IsList a its.toArray := ⟨_, e, rfl, n, rfl⟩
theorem op_eqE (hu : X.A.units + 64 < cLine) : OpR X (compareOp .Eq) (rEqE X.K false) := by
  intro pins s σ H x y v u Q I rx ry h
  obtain ⟨a, b, xs, rfl, rfl, h1, h2, q⟩ := h
  cases rx
  cases ry
  obtain ⟨i1, n1, r1, g1, _⟩ := inv_lstX I h1
  obtain ⟨i2, n2, r2, g2, _⟩ := inv_lstX I h2
  cases r2
  have hu0 : X.A.units < cLine := by omega
  cases r1 with
  | nil =>
    exact SeqAt.eq_listAt (e := fun _ => true) (isList_of g1) (isList_of g2) rfl hu0 (fun j h => nomatch h) ⟨.bl _, H, I, rfl, q⟩
  | cons r0 rt => exact SeqAt.eq_list_lengthsAt (isList_of g1) (isList_of g2) (by simp) hu0 ⟨.bl _, H, I, rfl, q⟩
theorem op_neE (hu : X.A.units + 64 < cLine) : OpR X (compareOp .NotEq) (rEqE X.K true) := by
  intro pins s σ H x y v u Q I rx ry h
  obtain ⟨a, b, xs, rfl, rfl, h1, h2, q⟩ := h
  cases rx
  cases ry
  obtain ⟨i1, n1, r1, g1, _⟩ := inv_lstX I h1
  obtain ⟨i2, n2, r2, g2, _⟩ := inv_lstX I h2
  cases r2
  have hu0 : X.A.units < cLine := by omega
  cases r1 with
  | nil => exact SeqAt.RcNeAt.lists (e := fun _ => true) (isList_of g1) (isList_of g2) rfl hu0 (fun j h => nomatch h) X.prog X.w _ _ ⟨.bl _, H, I, rfl, q⟩
  | cons r0 rt => exact SeqAt.RcNeAt.lists_lengths (isList_of g1) (isList_of g2) (by simp) hu0 X.prog X.w _ _ ⟨.bl _, H, I, rfl, q⟩
end
def gEqE (n : Bool) (x y : AV) (δ : List Sl) : Rs AV := match rdA δ x, rdA δ y with
  | some (.list ds), some (.list []) => .ok (.val (.bool (n != ds.isEmpty))) δ
  | _, _ => .bad
section
variable {K : PySem.W.Frag} {mg : Str → Option Value} {W : WX} {pin : List Nat}
theorem v2_eqE {n : Bool} : V2 K mg W pin (rEqE K n) (gEqE n) := by
  intro b Fz F δ σ H v w x y Q hp R A B P
  unfold gEqE at P
  cases q1 : rdA δ x with
  | none => simp only [q1] at P; exact P.elim
  | some d =>
    cases q2 : rdA δ y with
    | none => cases d <;> (simp only [q1, q2] at P; exact P.elim)
    | some e =>
      cases d with
      | list ds =>
        cases e with
        | list es =>
          cases es with
          | cons e0 er => simp only [q1, q2] at P; exact P.elim
          | nil =>
            simp only [q1, q2] at P
            have r1 := rdA_ok R A q1
            have r2 := rdA_ok R B q2
            cases r1 with
            | lst s1 l1 =>
              cases r2 with
              | lst s2 l2 =>
                cases l2
                refine ⟨_, _, _, rfl, rfl, s1, s2, ?_⟩
                have := P _ H Fz F (Same.refl _) R (.bl _)
                cases l1 with
                | nil => exact this
                | cons _ _ => exact this
        | _ => simp only [q1, q2] at P; exact P.elim
      | _ => cases e <;> (simp only [q1, q2] at P; exact P.elim)
end
section
variable {X : Cx} {W : WX} {pin : List Nat} {fa fb : List Sl → Rs AV} {a c : Expr} {pos : Pos}
theorem se_eqE (hu : X.A.units + 64 < cLine) (ha : SE X W pin a fa) (hb : SE X W pin c fb) : SE X W pin (.Compare a [.Eq] [c] pos) (s2 (gEqE false) fa fb) := se_cmp (op_eqE hu) v2_eqE ha hb (nomark _)
theorem st_neE (hu : X.A.units + 64 < cLine) (ha : SE X W pin a fa) (hb : SE X W pin c fb) : ST X W pin (.Compare a [.NotEq] [c] pos) (sTst (s2 (gEqE true) fa fb)) := st_cmp (op_neE hu) v2_eqE ha hb (nomark _)
end
def rEqS (n : Bool) : R2 := fun x y H Q => ∃ i j : Str, x = V.str i ∧ y = V.str j ∧ Q (.bl (n != (i.cps.toList == j.cps.toList))) H
section
variable {X : Cx}
theorem op_eqS : OpR X (compareOp .Eq) (rEqS false) := by
  intro pins s σ H x y v u Q I rx ry h
  obtain ⟨i, j, rfl, rfl, q⟩ := h
  obtain ⟨t, rfl⟩ := rx
  obtain ⟨t', rfl⟩ := ry
  exact PySem.P.eq_str ⟨.bl _, H, I, rfl, by simpa using q⟩
end
def gEqS (n : Bool) (x y : AV) (δ : List Sl) : Rs AV := match rdC δ x, rdC δ y with
  | some (.str i), some (.str j) => .ok (.val (.bool (n != (i.cps.toList == j.cps.toList)))) δ
  | _, _ => .bad
section
variable {K : PySem.W.Frag} {mg : Str → Option Value} {W : WX} {pin : List Nat}
theorem v2_eqS {n : Bool} : V2 K mg W pin (rEqS n) (gEqS n) := by
  intro b Fz F δ σ H v w x y Q hp R A B P
  unfold gEqS at P
  cases q1 : rdC δ x with
  | none => simp only [q1] at P; exact P.elim
  | some d =>
    cases q2 : rdC δ y with
    | none => cases d <;> (simp only [q1, q2] at P; exact P.elim)
    | some e =>
      cases d with
      | str i =>
        cases e with
        | str j =>
          simp only [q1, q2] at P
          exact ⟨i, j, rpc_str (rdC_ok R A q1), rpc_str (rdC_ok R B q2), P _ H Fz F (Same.refl _) R (.bl _)⟩
        | _ => simp only [q1, q2] at P; exact P.elim
      | _ => cases e <;> (simp only [q1, q2] at P; exact P.elim)
end
section
variable {X : Cx} {W : WX} {pin : List Nat} {fa fb : List Sl → Rs AV} {a c : Expr} {pos : Pos}
theorem st_eqS (ha : SE X W pin a fa) (hb : SE X W pin c fb) : ST X W pin (.Compare a [.Eq] [c] pos) (sTst (s2 (gEqS false) fa fb)) := st_cmp op_eqS v2_eqS ha hb (nomark _)
end
end Hb
namespace Hb
open PySem PySem.Spec PyProof.Rows L2
section
variable {X : Cx} {pins : List (Addr × Obj)} {σ : L2.St} {H : Hp} {s : Shared}
mutual
def noDic : PyData → Bool
  | .list xs => noDics xs
  | .tuple xs => noDics xs
  | .dict _ => false
  | _ => true
def noDics : List PyData → Bool
  | [] => true
  | x :: r => noDic x && noDics r
end
mutual
theorem reads_of (I : Inv X pins σ H s) : ∀ {v : V} {d : PyData} {u : Value}, Rp X.K H v d → RelV v u → noDic d = true → ∃ as, Reads s.heap u d as
  | _, _, _, .non, e, _ => by
    obtain rfl : _ = Value.none := e
    exact ⟨_, .none⟩
  | _, _, _, .bl b, e, _ => by
    obtain rfl : _ = Value.bool b := e
    exact ⟨_, .bool b⟩
  | _, _, _, .int i, e, _ => by
    obtain ⟨t, rfl⟩ := e
    exact ⟨_, .int i t⟩
  | _, _, _, .str x, e, _ => by
    obtain ⟨t, rfl⟩ := e
    exact ⟨_, .str x t⟩
  | _, _, _, .lst (ds := ds) h1 h2, e, hs => by
    obtain rfl : _ = Value.ref _ := e
    obtain ⟨its, n, r, e, _⟩ := inv_lstX I h1
    obtain ⟨as, q⟩ := readsAll_of I h2 r (by simpa [noDic] using hs)
    exact ⟨_, .list e rfl rfl (by simpa using q)⟩
  | _, _, _, .tup (ds := ds) h1 h2, e, hs => by
    obtain rfl : _ = Value.ref _ := e
    obtain ⟨its, r, ⟨o, e, hc, n, hd⟩, _⟩ := I.tuple (SqT.of h1)
    obtain ⟨as, q⟩ := readsAll_of I h2 r (by simpa [noDic] using hs)
    exact ⟨_, .tuple e hc hd (by simpa using q)⟩
  | _, _, _, .dK h1 h2, _, hs => by simp [noDic] at hs
  | _, _, _, .dT h1 h2, _, hs => by simp [noDic] at hs
theorem readsAll_of (I : Inv X pins σ H s) : ∀ {vs : List V} {ds : List PyData} {us : List Value}, RpL X.K H vs ds → Vals vs us → noDics ds = true → ∃ as, ReadsAll s.heap us ds as
  | _, _, _, .nil, r, _ => by
    cases r
    exact ⟨_, .nil⟩
  | _, _, _, .cons (d := d) (ds := ds) h t, r, hs => by
    cases r with
    | cons r1 r2 =>
      have hs2 : noDic d = true ∧ noDics ds = true := by simpa [noDics] using hs
      obtain ⟨a1, q1⟩ := reads_of I h r1 hs2.1
      obtain ⟨a2, q2⟩ := readsAll_of I t r2 hs2.2
      exact ⟨_, .cons q1 q2⟩
end
end
def isT1 : PyData → Bool
  | .tuple (_ :: _) => true
  | _ => false
def isNT : PyData → Bool
  | .none => false
  | .tuple _ => false
  | _ => true
def sortOk (ds : List PyData) : Bool := (ds.all fun d => ds.all fun e => PySem.W.alike d e) && (ds.all isT1 || ds.all isNT) && ds.all (fun d => decide (d.depth ≤ 60)) && noDics ds && decide (ds.length ≤ cap)
theorem sortOk_ok {ds : List PyData} (h : sortOk ds = true) : PySem.W.AllAlike ds ∧ PySem.W.Sortable ds ∧ (∀ d ∈ ds, d.depth ≤ 60) ∧ noDics ds = true ∧ ds.length ≤ cap := by
  unfold sortOk at h
  simp only [Bool.and_eq_true, Bool.or_eq_true, List.all_eq_true, decide_eq_true_eq] at h
  obtain ⟨⟨⟨⟨h1, h2⟩, h3⟩, h4⟩, h5⟩ := h
  refine ⟨fun d hd e he => h1 d hd e he, ?_, h3, h4, h5⟩
  rcases h2 with h2 | h2
  · refine .inl fun d hd => ?_
    have := h2 d hd
    cases d with
    | tuple xs =>
      cases xs with
      | nil => cases this
      | cons x r => exact ⟨x, r, rfl⟩
    | _ => cases this
  · refine .inr fun d hd => ?_
    have := h2 d hd
    exact ⟨fun z => (by rw [z] at this; cases this), fun xs z => (by rw [z] at this; cases this)⟩
def rSortedD (K : PySem.W.Frag) : List V → Hp → VK → Prop := fun vs H Q => ∃ (a : Addr) (bs : List (V × PyData)), vs = [V.ref a] ∧ SqX K H a (bs.map Prod.fst) ∧ (∀ p ∈ bs, Rp K H p.1 p.2) ∧ sortOk (bs.map Prod.snd) = true ∧
  ∀ p, H p = none → Q (.ref p) (upd H p (.lst ((bs.mergeSort (PySem.W.dataLe false Prod.snd)).map Prod.fst)))
theorem vals_each : ∀ {bs : List (V × PyData)} {us : List Value}, Vals (bs.map Prod.fst) us → PySem.W.EachIs (fun (u : Value) (p : V × PyData) => RelV p.1 u) us bs
  | [], _, .nil => .nil
  | p :: bs, _, .cons h t => .cons h (vals_each t)
theorem each_vals : ∀ {bs : List (V × PyData)} {us : List Value}, PySem.W.EachIs (fun (u : Value) (p : V × PyData) => RelV p.1 u) us bs → Vals (bs.map Prod.fst) us
  | _, _, .nil => .nil
  | _, _, .cons h t => .cons h (each_vals t)
theorem each_mem {R : Value → V × PyData → Prop} : ∀ {us : List Value} {bs : List (V × PyData)}, PySem.W.EachIs R us bs → PySem.W.EachIs (fun u p => R u p ∧ p ∈ bs) us bs
  | _, _, .nil => .nil
  | _, _, .cons h t => .cons ⟨h, List.mem_cons_self⟩ ((each_mem t).mono fun _ _ ⟨a, b⟩ => ⟨a, List.mem_cons_of_mem _ b⟩)
theorem noDics_mem : ∀ {ds : List PyData}, noDics ds = true → ∀ d ∈ ds, noDic d = true
  | [], _, _, h => by cases h
  | x :: r, h, d, hd => by
    have h : (noDic x && noDics r) = true := h
    rw [Bool.and_eq_true] at h
    rcases List.mem_cons.mp hd with e | e
    · rw [e]; exact h.1
    · exact noDics_mem h.2 d e
theorem cr_sortedD {X : Cx} (hu : X.A.units + 64 < cLine) : CallR X (.builtin "sorted") (rSortedD X.K) := by
  intro pins s σ H vs us Q I r h
  obtain ⟨a, bs, rfl, hX, hr, ok, q⟩ := h
  obtain ⟨h1, h2, h3, h4, h5⟩ := sortOk_ok ok
  obtain ⟨its, n, rv, e, hz⟩ := inv_lstX I hX
  rw [Vals.ref1 r]
  have ev := vals_each rv
  have er : PySem.W.EachIs (fun v (b : V × PyData) => ∃ as, Reads s.heap v b.2 as) its bs := (each_mem ev).mono fun u p ⟨z, hp⟩ => reads_of I (hr p hp) z (noDics_mem h4 _ (List.mem_map.mpr ⟨p, hp, rfl⟩))
  have hl : s.heap.IsList a its.toArray := ⟨_, e, rfl, n, rfl⟩
  refine PySem.W.sorted_data (enc := Prod.snd) hl ev er h1 h2 (by rw [List.length_map] at h5; exact le_line h5) (fun b hb => ?_) fun out ho eo => ?_
  · have := h3 b.2 (List.mem_map.mpr ⟨b, hb, rfl⟩)
    show X.A.units + 2 + _ < cLine
    omega
  · obtain ⟨ep, he'⟩ := PyProof.Rows.sortedAll_at s.heap its out.toArray
    have vo := each_vals eo
    refine ⟨.ref _, upd H (s.heap.objs.size + 1) (.lst ((bs.mergeSort (PySem.W.dataLe false Prod.snd)).map Prod.fst)), I.laid (t' := s.toks) (fun _ _ => PyProof.Rows.sortedAll_old) (Nat.le_succ _) ⟨?_, out, ep, vo, he'⟩, rfl, q _ (I.hok.fresh (Nat.le_succ _))⟩
    rw [List.length_map, List.length_mergeSort]
    rw [List.length_map] at h5
    exact le_line h5
def gSortD (x : AV) (δ : List Sl) : Rs AV := match rdC δ x with
  | some (.list ds) => if sortOk ds = true then .ok (.tmp (.ol ((ds.mergeSort (PySem.W.dataLe false fun d => d)).map .fz))) δ else .bad
  | _ => .bad
theorem rpl_zip {K : PySem.W.Frag} {H : Hp} : ∀ {vs : List V} {ds : List PyData}, RpL K H vs ds → ∃ bs : List (V × PyData), bs.map Prod.fst = vs ∧ bs.map Prod.snd = ds ∧ ∀ p ∈ bs, Rp K H p.1 p.2
  | _, _, .nil => ⟨[], rfl, rfl, fun _ z => nomatch z⟩
  | _, _, .cons (v := v) (d := d) h t => by
    obtain ⟨bs, e1, e2, e3⟩ := rpl_zip t
    refine ⟨(v, d) :: bs, by simp [e1], by simp [e2], fun p hp => ?_⟩
    rcases List.mem_cons.mp hp with e | e
    · rw [e]; exact h
    · exact e3 p e
theorem rpl_of_zip {K : PySem.W.Frag} {H : Hp} : ∀ {bs : List (V × PyData)}, (∀ p ∈ bs, Rp K H p.1 p.2) → RpL K H (bs.map Prod.fst) (bs.map Prod.snd)
  | [], _ => .nil
  | p :: r, h => .cons (h p List.mem_cons_self) (rpl_of_zip fun q hq => h q (List.mem_cons_of_mem _ hq))
theorem c1_sortD {K : PySem.W.Frag} {mg : Str → Option Value} {W : WX} {pin : List Nat} : C1 K mg W pin (rSortedD K) gSortD := by
  intro b Fz F δ σ H v x Q hp R A P
  unfold gSortD at P
  cases q : rdC δ x with
  | none => simp only [q] at P; exact P.elim
  | some d =>
    have h := rdC_ok R A q
    cases d with
    | list ds =>
      simp only [q] at P
      by_cases c : sortOk ds = true
      · rw [if_pos c] at P
        obtain ⟨a, vs, e1, s1, r1⟩ := h.list R.le
        obtain ⟨bs, e2, e3, e4⟩ := rpl_zip r1
        subst e2 e3
        refine ⟨a, bs, by rw [e1], s1, fun p hp => (e4 p hp).mono R.le, c, fun p np => ?_⟩
        have em : (bs.mergeSort (PySem.W.dataLe false Prod.snd)).map Prod.snd = (bs.map Prod.snd).mergeSort (PySem.W.dataLe false fun d => d) := PySem.W.sort_maps Prod.snd fun _ _ _ _ => rfl
        have rp : RpL K Fz ((bs.mergeSort (PySem.W.dataLe false Prod.snd)).map Prod.fst) ((bs.map Prod.snd).mergeSort (PySem.W.dataLe false fun d => d)) := by
          rw [← em]
          exact rpl_of_zip fun p hp => e4 p (List.mem_mergeSort.mp hp)
        exact post_newL R rp P p np
      · rw [if_neg c] at P
        exact P.elim
    | _ => simp only [q] at P; exact P.elim
abbrev gFdivW := gI (fun _ j => decide (0 < j ∧ j < 2 ^ 1000)) (· / ·)
abbrev gPowW := gI (fun i j => decide (0 ≤ j ∧ j ≤ 64 ∧ i.natAbs < 2 ^ 1024)) (fun i j => i ^ j.toNat)
theorem log2_of {n k : Nat} (h : n < 2 ^ k) (hk : 0 < k) : n.log2 < k := by
  by_cases z : n = 0
  · subst z; simpa using hk
  · exact (Nat.log2_lt z).mpr h
def CPowW (i j : Int) : Prop := 0 ≤ j ∧ (Builtin.Int.intBits i : Int) * j ≤ 2 ^ 27
theorem op_powW {X : Cx} : OpR X (binaryOp .Pow) (rI CPowW fun i j => .int (i ^ j.toNat)) := opI fun _ _ _ _ _ _ _ hc q => PyProof.Rows.pow_int hc.1 hc.2 q
section
variable {X : Cx} {W : WX} {pin : List Nat} {fa fb : List Sl → Rs AV} {a c : Expr} {pos : Pos}
theorem se_fdivW (ha : SE X W pin a fa) (hb : SE X W pin c fb) : SE X W pin (.BinOp a .FloorDiv c pos) (s2 gFdivW fa fb) := se_bin op_fdivW (v2_i fun i j h => by
  obtain ⟨h1, h2⟩ := (of_decide_eq_true h : 0 < j ∧ j < 2 ^ 1000)
  refine ⟨h1, Nat.lt_of_lt_of_le (log2_of (k := 1000) ?_ (by decide)) (by decide)⟩
  omega) ha hb
theorem se_powW (ha : SE X W pin a fa) (hb : SE X W pin c fb) : SE X W pin (.BinOp a .Pow c pos) (s2 gPowW fa fb) := se_bin op_powW (v2_i fun i j h => by
  obtain ⟨h1, h2, h3⟩ := (of_decide_eq_true h : 0 ≤ j ∧ j ≤ 64 ∧ i.natAbs < 2 ^ 1024)
  refine ⟨h1, ?_⟩
  have hb : Builtin.Int.intBits i ≤ 1024 := by
    unfold Builtin.Int.intBits
    split
    · omega
    · have := log2_of h3 (by decide)
      omega
  have h4 : (Builtin.Int.intBits i : Int) * j ≤ 1024 * j := Int.mul_le_mul_of_nonneg_right (by omega) h1
  omega) ha hb
end
end Hb
namespace Hb
open PySem PySem.Spec PyProof.Rows L2
end Hb
namespace Hb
open PySem PySem.Spec PyProof.Rows L2
def keyOf : PyData → Option Key
  | .int i => some (.inl i)
  | .str x => some (.inr x)
  | _ => none
theorem keyOf_D (k : Key) : keyOf (kD k) = some k := by cases k <;> rfl
theorem keyOf_eq {d : PyData} {k : Key} (h : keyOf d = some k) : d = kD k := by
  cases d <;> first | (cases h; rfl) | cases h
def lookK (kvs : List (PyData × PyData)) (k : Key) : Option PyData := (kvs.find? fun p => decide (keyOf p.1 = some k)).map (·.2)
section
variable {K : PySem.W.Frag} {H : Hp}
theorem RpK.look : ∀ {ws : List (Key × V)} {kvs : List (PyData × PyData)} {k : Key} {d : PyData}, RpK K H ws kvs → lookK kvs k = some d → ∃ v, valV ws k = some v ∧ Rp K H v d
  | _, _, k, d, .nil, h => by cases h
  | _, _, k, d, .cons (k := k0) (v := v0) (vs := ws) (d := d0) (ds := kvs) r t, h => by
    unfold lookK at h
    rw [List.find?_cons] at h
    rw [keyOf_D] at h
    by_cases c : k0 = k
    · rw [decide_eq_true (by rw [c])] at h
      cases h
      exact ⟨v0, valV_pos (p := (k0, v0)) c, r⟩
    · have hn : ¬ some k0 = some k := fun z => c (Option.some.inj z)
      rw [decide_eq_false hn] at h
      obtain ⟨v, e1, e2⟩ := RpK.look t h
      exact ⟨v, by rw [valV_neg (p := (k0, v0)) c]; exact e1, e2⟩
end
/-- the dict's tree, where it is one -/
def dicA (δ : List Sl) (x : AV) : Option (List (PyData × PyData)) := match rdA δ x with
  | some (.dict kvs) => some kvs
  | _ => none
/-- its items stand still -/
theorem dic_ok {K : PySem.W.Frag} {b : Bk} {Fz : Hp} {F : Nat → List Addr} {δ : List Sl} {σ : L2.St} {H : Hp} (R : Rl K b Fz F δ σ H) {v : V} {x : AV} {kvs : List (PyData × PyData)} (A : AvS K Fz σ v x) (h : dicA δ x = some kvs) :
    ∃ a, v = .ref a ∧ ((∃ ws, H a = some (.dK ws) ∧ RpK K Fz ws kvs) ∨ ∃ ws, H a = some (.dT ws) ∧ RpT K Fz ws kvs) := by
  unfold dicA at h
  have q : rdA δ x = some (.dict kvs) := by
    cases q : rdA δ x with
    | none => rw [q] at h; cases h
    | some d => rw [q] at h; cases d <;> first | (cases h; rfl) | cases h
  have frz : ∀ {u : V}, Rp K Fz u (.dict kvs) → ∃ a, u = .ref a ∧ ((∃ ws, H a = some (.dK ws) ∧ RpK K Fz ws kvs) ∨ ∃ ws, H a = some (.dT ws) ∧ RpT K Fz ws kvs) := fun r => by
    cases r with
    | dK h1 h2 => exact ⟨_, rfl, .inl ⟨_, R.le _ _ h1, h2⟩⟩
    | dT h1 h2 => exact ⟨_, rfl, .inr ⟨_, R.le _ _ h1, h2⟩⟩
  cases x with
  | val d => cases q; exact frz A
  | tmp t => cases q
  | ref i =>
    have hv : σ[i]? = some (some v) := A
    simp only [rdA] at q
    cases q1 : δ[i]? with
    | none => simp only [q1] at q; cases q
    | some s =>
      have hs := R.slot i s q1
      rw [hv] at hs
      cases s with
      | no => simp only [q1] at q; cases q
      | fz d =>
        simp only [q1] at q
        cases q
        obtain ⟨_, v', e1, e2⟩ := hs
        cases e1
        exact frz e2
      | ol xs => simp only [q1] at q; cases q
      | od ks =>
        simp only [q1] at q
        cases q
        obtain ⟨a, e1, _, e3⟩ := hs
        cases e1
        exact ⟨a, rfl, e3⟩
      | al y j =>
        simp only [q1] at q
        cases q2 : δ[y]? with
        | none => simp only [q2] at q; cases q
        | some t =>
          cases t with
          | ol xs =>
            simp only [q2] at q
            cases q3 : xs[j]? with
            | none => rw [q3] at q; cases q
            | some e =>
              rw [q3] at q
              obtain ⟨g, e1, _⟩ := R.al q1 q2 q3 hv
              cases e with
              | fz d => cases q; exact frz e1.2
              | ow ys => cases q
          | _ => simp only [q2] at q; cases q
section
variable {X : Cx} {W : WX} {pin : List Nat} {fa fb : List Sl → Rs AV} {a c : Expr} {pos : Pos}
theorem pe_or {e : Expr} {t t' : TE} (h : PE X e t) (h' : PE X e t') : PE X e (fun σ H Q => t σ H Q ∨ t' σ H Q) := ⟨fun pins s σ H Q I q => q.elim (h.run pins s σ H Q I) (h'.run pins s σ H Q I)⟩
theorem rpc_key {K : PySem.W.Frag} {Fz H : Hp} {v : V} {d : PyData} {k : Key} (h : RpC K Fz H v d) (e : keyOf d = some k) : v = kV k := by
  have := keyOf_eq e
  subst this
  rcases h with h | ⟨_, _, _, _, e2, _⟩
  · cases k with
    | inl i => cases h; rfl
    | inr x => cases h; rfl
  · cases k <;> cases e2
theorem rd_bind' {K : PySem.W.Frag} {mg : Str → Option Value} {σ : L2.St} {H : Hp} {b : Bk} {Fz : Hp} {F : Nat → List Addr} {δ : List Sl} {k : AV → List Sl → Rs AV} {Q R : VK} (hp : b.pin = pin) (Rr : Rl K b Fz F δ σ H) (P : Post K mg W b Fz σ Q ((sSt fa δ).bind k))
    (h : ∀ v H' Fz' F' x δ', sSt fa δ = .ok x δ' → Same Fz Fz' → Rl K b Fz' F' δ' σ H' → AvS K Fz' σ v x → Post K mg W b Fz' σ Q (k x δ') → R v H') : rdE K mg W pin (sSt fa) σ H R := by
  refine ⟨b, Fz, F, δ, hp, Rr, ?_⟩
  cases q : sSt fa δ with
  | bad => rw [q] at P; exact P
  | er x δ' => rw [q] at P; exact P
  | ok a δ' =>
    rw [q] at P
    intro v H' Fz' F' s R' A
    cases a with
    | tmp t => exact absurd q (sSt_notmp _ _ _ _)
    | val d => exact h v H' Fz' F' (.val d) δ' q s R' A (Post.le s P)
    | ref i => exact h v H' Fz' F' (.ref i) δ' q s R' A (Post.le s P)
theorem rdE_mono {K : PySem.W.Frag} {mg : Str → Option Value} {f : List Sl → Rs AV} {σ : L2.St} {H : Hp} {Q Q' : VK} (h : rdE K mg W pin f σ H Q) (i : ∀ v H', Q v H' → Q' v H') : rdE K mg W pin f σ H Q' := by
  obtain ⟨b, Fz, F, δ, hp, R, P⟩ := h
  refine ⟨b, Fz, F, δ, hp, R, ?_⟩
  cases q : f δ with
  | bad => rw [q] at P; exact P
  | er x δ' => rw [q] at P; exact P
  | ok a δ' =>
    rw [q] at P
    exact fun v H' Fz' F' s R' A => i v H' (P v H' Fz' F' s R' A)
theorem lookT {K : PySem.W.Frag} {H : Hp} (k : Key) : ∀ {ws : List (List Key × V)} {kvs : List (PyData × PyData)}, RpT K H ws kvs → lookK kvs k = none
  | _, _, .nil => rfl
  | _, _, .cons _ t => by
    have ih := lookT k t
    unfold lookK at ih ⊢
    rw [List.find?_cons]
    simpa [keyOf] using ih
/-- one of two readings, by what the first operand's tree is behind both -/
theorem t2_or {t t' : TE} {r : R2} {g gd : AV → AV → List Sl → Rs AV} {D : AV → List Sl → Bool}
    (ht : ∀ σ H Q, tOp r (rdE X.K X.mg W pin (sSt fa)) (rdE X.K X.mg W pin (sSt fb)) σ H Q → t σ H Q)
    (ht' : ∀ σ H Q, rdE X.K X.mg W pin (sSt fa) σ H (fun v H1 => rdE X.K X.mg W pin (sSt fb) σ H1 fun w H2 => ∃ b Fz F δ x y, Rl X.K b Fz F δ σ H2 ∧ AvS X.K Fz σ v x ∧ AvS X.K Fz σ w y ∧ b.pin = pin ∧ D x δ = true ∧ Post X.K X.mg W b Fz σ Q (gd x y δ)) → t' σ H Q)
    (hv : V2 X.K X.mg W pin r g) : ∀ σ H Q, rdE X.K X.mg W pin (s2 (fun x y δ => if D x δ = true then gd x y δ else g x y δ) fa fb) σ H Q → t σ H Q ∨ t' σ H Q := fun σ H Q ⟨b, Fz, F, δ, hp, R, P⟩ => by
  have P : Post X.K X.mg W b Fz σ Q ((sSt fa δ).bind fun x δ1 => (sSt fb δ1).bind fun y δ2 => if D x δ2 = true then gd x y δ2 else g x y δ2) := P
  by_cases dic : ∃ x δ1 y δ2, sSt fa δ = .ok x δ1 ∧ sSt fb δ1 = .ok y δ2 ∧ D x δ2 = true
  · obtain ⟨x0, d1, y0, d2, q1, q2, q3⟩ := dic
    refine .inr (ht' σ H Q (rd_bind' hp R P fun v H1 Fz1 F1 x δ1 e1 s1 R1 A1 P1 => rd_bind' hp R1 P1 fun w H2 Fz2 F2 y δ2 e2 s2 R2 A2 P2 => ?_))
    rw [q1] at e1
    cases e1
    rw [q2] at e2
    cases e2
    rw [if_pos q3] at P2
    exact ⟨b, Fz2, F2, _, _, _, R2, A1.le s2, A2, hp, q3, P2⟩
  · refine .inl (ht σ H Q (rd_bind' hp R P fun v H1 Fz1 F1 x δ1 e1 s1 R1 A1 P1 => rd_bind' hp R1 P1 fun w H2 Fz2 F2 y δ2 e2 s2 R2 A2 P2 => ?_))
    have q3 : ¬ D x δ2 = true := fun z => dic ⟨x, δ1, y, δ2, e1, e2, z⟩
    rw [if_neg q3] at P2
    exact hv b Fz2 F2 δ2 σ H2 v w x y Q hp R2 (A1.le s2) A2 P2
def isDic (x : AV) (δ : List Sl) : Bool := (dicA δ x).isSome
def gDix (x y : AV) (δ : List Sl) : Rs AV := match dicA δ x, (rdC δ y).bind keyOf with
  | some kvs, some k => (match lookK kvs k with
    | some d => .ok (.val d) δ
    | none => .bad)
  | _, _ => .bad
/-- x[i]: of a list, a tuple, a dict -/
def gIx2 (x y : AV) (δ : List Sl) : Rs AV := if isDic x δ = true then gDix x y δ else gIx x y δ
theorem se_ix2 (hu : X.A.units + 64 < cLine) (ha : SE X W pin a fa) (hb : SE X W pin c fb) (hs : PlainIx c := by intro _ _; rfl) (hs2 : NoSl c := by intro _ _; rfl) : SE X W pin (.Subscript a c pos) (s2 gIx2 fa fb) :=
  pe_mono (pe_or (pe_ix ix_U (se_st ha) (se_st hb) hs) (pe_dget (by omega) (se_st ha) (se_st hb) hs2)) (t2_or (r := rIxU X.K) (g := gIx) (gd := gDix) (D := isDic) (fun _ _ _ h => h) (fun σ H Q h => by
    refine rdE_mono h fun v H1 h => rdE_mono h fun w H2 ⟨b, Fz, F, δ, x, y, R, A, B, hp, hD, P⟩ => ?_
    unfold isDic at hD
    cases q : dicA δ x with
    | none => rw [q] at hD; cases hD
    | some kvs =>
      obtain ⟨a', e1, e2⟩ := dic_ok R A q
      unfold gDix at P
      cases q2 : (rdC δ y).bind keyOf with
      | none => simp only [q, q2] at P; exact P.elim
      | some k =>
        cases q3 : lookK kvs k with
        | none => simp only [q, q2, q3] at P; exact P.elim
        | some d =>
          simp only [q, q2, q3] at P
          obtain ⟨kd, f1, f2⟩ := Option.bind_eq_some_iff.mp q2
          have ew := rpc_key (rdC_ok R B f1) f2
          rcases e2 with ⟨ws, g1, g2⟩ | ⟨ws, g1, g2⟩
          · obtain ⟨u, h1, h2⟩ := g2.look q3
            exact ⟨a', u, e1, .inl ⟨ws, k, .inl g1, ew, h1.symm⟩, P u H2 Fz F (Same.refl _) R h2⟩
          · rw [lookT k g2] at q3
            cases q3) v2_ix)
end
end Hb
namespace Hb
open PySem PySem.Spec PyProof.Rows L2
def frzS (δ : List Sl) : Sl → Sl
  | .no => .no
  | .fz d => .fz d
  | .ol xs => .fz (.list (xs.map El.d))
  | .od kvs => .fz (.dict kvs)
  | .al x j => match δ[x]? with
    | some (.ol xs) => (match xs[j]? with
      | some e => .fz e.d
      | none => .no)
    | _ => .no
def scalD : PyData → Bool
  | .none => true
  | .bool _ => true
  | .int _ => true
  | .str _ => true
  | _ => false
theorem frz_al {δ : List Sl} {s : Sl} {x j : Nat} : frzS δ s ≠ .al x j := by
  unfold frzS
  split
  · simp
  · simp
  · simp
  · simp
  · split
    · split <;> simp
    · simp
section
variable {X : Cx} {W : WX} {pin : List Nat} {e : Expr} {f : List Sl → Rs AV}
theorem Rl.still {K : PySem.W.Frag} {b : Bk} {Fz : Hp} {F : Nat → List Addr} {δ : List Sl} {σ : L2.St} {H : Hp} (R : Rl K b Fz F δ σ H) : Rl K ⟨H, H, unm b.pin, b.so, []⟩ H (fun _ => []) (δ.map (frzS δ)) σ H where
  le := Same.refl _
  base := Same.refl _
  len := by rw [List.length_map]; exact R.len
  slot := fun i s hs => by
    rw [List.getElem?_map] at hs
    cases q : δ[i]? with
    | none => rw [q] at hs; cases hs
    | some s0 =>
      rw [q] at hs
      cases Option.some.inj hs
      have h := R.slot i s0 q
      have rd : ∀ {v : V} {d : PyData}, σ[i]? = some (some v) → rdA δ (.ref i) = some d → Rp K H v d := fun hv hd => rdA_ok R (a := .ref i) hv hd
      cases s0 with
      | no => exact rfl
      | fz d =>
        obtain ⟨_, v, e1, r⟩ := h
        exact ⟨rfl, v, e1, r.mono R.le⟩
      | ol xs =>
        obtain ⟨a, vs, g, e1, _⟩ := h
        exact ⟨rfl, _, e1, rd (join_some e1) (by simp only [rdA, q]; rfl)⟩
      | od kvs =>
        obtain ⟨a, e1, _⟩ := h
        exact ⟨rfl, _, e1, rd (join_some e1) (by simp only [rdA, q]; rfl)⟩
      | al x j =>
        obtain ⟨_, a, c, vs, _, _, _, e1⟩ := h
        show SlH K H H σ [] _ (match δ[x]? with
          | some (.ol xs) => (match xs[j]? with
            | some e => .fz e.d
            | none => .no)
          | _ => .no)
        cases q2 : δ[x]? with
        | none => exact rfl
        | some t =>
          cases t with
          | ol xs =>
            cases q3 : xs[j]? with
            | none => simp only [q3]; exact rfl
            | some el =>
              simp only [q3]
              exact ⟨rfl, _, e1, rd (join_some e1) (by simp only [rdA, q, q2, q3]; rfl)⟩
          | _ => exact rfl
  nd := fun _ => List.nodup_nil
  dj := fun _ _ _ h => nomatch h
  offF := fun _ _ h => nomatch h
  offB := fun _ _ h => nomatch h
  on := fun _ _ h => nomatch h
  keep := fun _ _ => .inl rfl
  noT := fun _ _ h => nomatch h
  tb := .nil rfl
  tp := fun z => absurd z mk_unm
  f0 := fun _ h => h
  pin := fun i hi => R.pin i (unm_sub hi)
  als := fun i x j h => by
    rw [List.getElem?_map] at h
    cases q : δ[i]? with
    | none => rw [q] at h; cases h
    | some s0 =>
      rw [q] at h
      exact absurd (Option.some.inj h) frz_al
end
end Hb
namespace Hb
open PySem PySem.Spec PyProof.Rows L2
end Hb
namespace Hb
open PySem PySem.Spec PyProof.Rows L2
end Hb
namespace Hb
open PySem PySem.Spec PyProof.Rows L2
end Hb
namespace Hb
open PySem PySem.Spec PyProof.Rows L2
end Hb
namespace Hb
open PySem PySem.Spec PyProof.Rows L2
end Hb
namespace Hb
open PySem PySem.Spec PyProof.Rows L2
end Hb
namespace Hb
open PySem PySem.Spec PyProof.Rows L2
/-- what is known of a class of errors -/
structure ExcC (K : PySem.W.Frag) (mg : Str → Option Value) (C : Str) (c : Addr) : Prop where
  q : PySem.W.excIn K c He.veBase "ValueError.__new__" = true
  k : PySem.W.keepIn K (.ref c) = true
  b : PySem.W.subIn K (.ref c) (.type "BaseException") = some true
  t : PySem.W.typeIn K (.ref c) = some (.type "type")
  g : mg C = some (.ref c)
def oRaise (C : Str) : List Sl → Ot := fun δ => .er ⟨C, none⟩ δ
section
variable {X : Cx} {W : WX} {pin : List Nat}
theorem ss_raise {C m : Str} {c : Addr} {j : Nat} {p p2 pos pos' : Pos} (hc : X.calm = true) (tk : Takes X W) (e : ExcC X.K X.mg C c) (hg : Gl X C) (hdb : (C == ("__debug__" : Str)) = false := by decide) :
    SS X W pin (.Raise (some (.Call (.Name C p) [.Constant (.str m) j p2] [] pos)) none pos') (oRaise C) :=
  ps_mono (ps_raise hc tk (pmk_own PySem.F.excBase_ValueError e.q e.g e.k (raises_own e.b e.t) hg hdb)) fun D σ H ⟨b, Fz, F, δ, hp, R, P⟩ => P (.ref c) none σ H Fz F (Same.refl _) R ⟨⟨c, e.g, rfl⟩, rfl⟩
/-- the except clauses -/
inductive HdO (X : Cx) (W : WX) (pin : List Nat) : List ExceptHandler → List (Str × (List Sl → Ot)) → Prop
  | nil : HdO X W pin [] []
  | cons {C : Str} {c : Addr} {b₀ : Stmt} {suite : List Stmt} {np pos' : Pos} {hds : List ExceptHandler} {l : List (Str × (List Sl → Ot))} {h : List Sl → Ot} (g : X.mg C = some (.ref c)) (hg : Gl X C) (hd : (C == ("__debug__" : Str)) = false)
      (hsu : ∀ (a : Addr) (oe : Obj) (pn : List (Addr × Obj)), SSs (X.suite a ((a, oe) :: pn)) W pin (b₀ :: suite) h) (r : HdO X W pin hds l) :
      HdO X W pin (.ExceptHandler (some (.Name C np)) none (b₀ :: suite) pos' :: hds) ((C, h) :: l)
end
/-- the def's own errors go out -/
theorem gx_takes {P : Program} {w : World} {K : PySem.W.Frag} {mg : Str → Option Value} {base : Heap} {N : List Str} {qual : Str} {scope : Scope} {f : Addr} {cd : Value} {A : Around} {outer : List Env} {s : Shared} {H : Hp} {E : XK} :
    Takes (GX P w K mg base N qual scope f cd A outer s H E) (GW E) := takes_of rfl rfl rfl rfl
theorem excC_of {K : PySem.W.Frag} {h : Heap} {mg : Str → Option Value} (X : K.In h) (G : h.Ns mainGlobals mg) {C : Str} (g : mg C = some (.ref (He.ga K C))) (c : (He.Fa.exc C).ok K = true) : ExcC K mg C (He.ga K C) :=
  let ⟨a, b, d, e⟩ := He.exc_ok c
  ⟨a, b, d, e, g⟩
end Hb
namespace Hb
open PySem PySem.Spec PyProof.Rows L2
end Hb
namespace Hb
open PySem PySem.Spec PyProof.Rows L2
end Hb
namespace Hb
open PySem PySem.Spec PyProof.Rows L2
end Hb
namespace Hb
open PySem PySem.Spec PyProof.Rows L2
end Hb
namespace Hb
open PySem PySem.Spec PyProof.Rows L2
end Hb
namespace Hb
open PySem PySem.Spec PyProof.Rows L2
section
variable {K : PySem.W.Frag} {H : Hp}
end
theorem unl1 {n : Nat} (h : n + 64 < cLine) : n + 1 < cLine := by omega
theorem unl0 {n : Nat} (h : n + 64 < cLine) : n < cLine := by omega
end Hb
namespace Hb
open PySem PySem.Spec PyProof.Rows L2
end Hb
namespace Hb
open PySem PySem.Spec PyProof.Rows L2
open PySem.W (AlikeAll)
end Hb
namespace Hb
open PySem PySem.Spec PyProof.Rows L2
end Hb
namespace Hb
open PySem PySem.Spec PyProof.Rows L2
end Hb
namespace Hb
open PySem PySem.Spec PyProof.Rows L2
end Hb
namespace Hb
open PySem PySem.Spec PyProof.Rows L2
end Hb
namespace Hb
open PySem PySem.Spec PyProof.Rows L2
end Hb
namespace Hb
open PySem PySem.Spec PyProof.Rows L2
theorem oRet_if (t : List Sl → Rs Bool) (f g : List Sl → Rs AV) : oRet (sIf t f g) = oIf t (oRet f) (oRet g) := by
  funext δ
  simp only [oRet, oIf, sIf, sMv]
  cases t δ with
  | bad => rfl
  | er x δ' => rfl
  | ok k δ' => cases k <;> rfl
section
variable {X : Cx} {W : WX} {pin : List Nat} {a c d : Expr} {t : List Sl → Rs Bool} {f g : List Sl → Rs AV} {p pos : Pos}
theorem ss_retIf (hc : ST X W pin a t) (ha : SE X W pin c f) (hb : SE X W pin d g) : SS X W pin (.Return (some (.IfExp a c d p)) pos) (oIf t (oRet f) (oRet g)) := by
  rw [← oRet_if]
  exact ss_ret (se_if hc ha hb)
end
end Hb
namespace Hb
open PySem PySem.Spec PyProof.Rows L2
end Hb
namespace Hb
open PySem PySem.Spec PyProof.Rows L2
end Hb
namespace Hb
open PySem PySem.Spec PyProof.Rows L2
section
variable {X : Cx} {pins : List (Addr × Obj)} {σ : L2.St} {H : Hp} {s : Shared} {a : Addr}
end
end Hb
namespace Hb
open PySem PySem.Spec PyProof.Rows L2
section
variable {X : Cx} {W : WX} {pin : List Nat} {pos : Pos}
end
end Hb
namespace Hb
open PySem PySem.Spec PyProof.Rows L2
end Hb
namespace Hb
open PySem PySem.Spec PyProof.Rows L2
section
variable {X : Cx} {W : WX} {pin : List Nat} {es ns : List Expr} {g : List Sl → Rs (List Ar)} {pos : Pos}
end
end Hb
namespace Hb
open PySem PySem.Spec PyProof.Rows L2
open PySem.W (AlikeAll)
end Hb
namespace Hb
open PySem PySem.Spec PyProof.Rows L2
end Hb
namespace Hb
open PySem PySem.Spec PyProof.Rows L2
end Hb
namespace Hb
open PySem PySem.Spec PyProof.Rows L2
end Hb
namespace Hb
open PySem PySem.Spec PyProof.Rows L2
end Hb
namespace Hb
open PySem PySem.Spec PyProof.Rows L2
end Hb
namespace Hb
open PySem PySem.Spec PyProof.Rows L2
end Hb
namespace Hb
open PySem PySem.Spec PyProof.Rows L2
end Hb
namespace Hb
open PySem PySem.Spec PyProof.Rows L2
end Hb
namespace Hb
open PySem PySem.Spec PyProof.Rows L2
end Hb
namespace Hb
open PySem L2 PySem.F
end Hb
namespace Hb
open PySem PySem.Spec PyProof.Rows L2
end Hb
namespace Hb
open PySem L2 PySem.F
end Hb
namespace Hb
open PySem PySem.Spec PyProof.Rows L2
end Hb
namespace Hb
open PySem PySem.Spec PyProof.Rows L2
section
variable {K : PySem.W.Frag} {mg : Str → Option Value} {W : WX} {b : Bk} {Fz : Hp} {F : Nat → List Addr} {δ : List Sl} {σ : L2.St} {H : Hp}
theorem call_okT {Q : VK} {vs : List V} {ars : List Ar} {G : Nat → List Addr} {f : List Sl → FR} (R : Rl K b Fz F δ σ H) (A : ArOk K b Fz F H σ vs ars G) (hT : b.T = TK K) (P : Post K mg W b Fz σ Q (callF f ars δ)) :
    spT K mg ars.length f vs H Q (fun c dd H' => W c dd σ H') := by
  refine ⟨A.len, ?_⟩
  unfold callF at P
  by_cases nd : (iosOf δ ars).Nodup
  · rw [if_pos nd] at P
    cases q1 : argsS δ ars with
    | none => simp only [q1] at P; exact P.elim
    | some δa =>
      simp only [q1] at P
      obtain ⟨la, ga⟩ := argsS_get q1
      obtain ⟨p, hp⟩ : ∃ p, p = passL δ F G ars ++ b.T.map Prod.fst := ⟨_, rfl⟩
      have pio : ∀ k, k ∈ iosOf δ ars → ∀ a ∈ F k, a ∈ p := fun k hk a ha => by
        rw [hp]
        exact List.mem_append_left _ (List.mem_append_left _ (List.mem_flatMap.mpr ⟨k, hk, ha⟩))
      have pown : ∀ j, j < ars.length → ∀ a ∈ G j, a ∈ p := fun j hj a ha => by
        rw [hp]
        exact List.mem_append_left _ (List.mem_append_right _ (List.mem_flatMap.mpr ⟨j, List.mem_range.mpr hj, ha⟩))
      have pin : ∀ a ∈ p, (∃ k, k ∈ iosOf δ ars ∧ a ∈ F k) ∨ (∃ j, a ∈ G j) ∨ ∃ q ∈ b.T, a = q.1 := fun a ha => by
        rw [hp] at ha
        rcases List.mem_append.mp ha with z | z
        · rcases List.mem_append.mp z with z | z
          · obtain ⟨k, e1, e2⟩ := List.mem_flatMap.mp z
            exact .inl ⟨k, e1, e2⟩
          · obtain ⟨j, _, e2⟩ := List.mem_flatMap.mp z
            exact .inr (.inl ⟨j, e2⟩)
        · obtain ⟨q, h1, h2⟩ := List.mem_map.mp z
          exact .inr (.inr ⟨q, h1, h2.symm⟩)
      have pFz : ∀ a ∈ p, Fz a = none := fun a ha => by
        rcases pin a ha with ⟨k, _, e⟩ | ⟨j, e⟩ | ⟨q, h, rfl⟩
        · exact R.offF k a e
        · exact (A.off j a e).1
        · exact (R.tb q h).2.1
      have pB : ∀ a ∈ p, b.B a = none := fun a ha => by
        rcases pin a ha with ⟨k, _, e⟩ | ⟨j, e⟩ | ⟨q, h, rfl⟩
        · exact R.offB k a e
        · exact (A.off j a e).2.1
        · exact (R.tb q h).2.2
      have pT : ∀ q ∈ b.T, q.1 ∈ p := fun q h => by
        rw [hp]
        exact List.mem_append_right _ (List.mem_map.mpr ⟨q, h, rfl⟩)
      have getV : ∀ j a, ars[j]? = some a → ∃ s v, δa[j]? = some s ∧ argS δ a = some s ∧ vs[j]? = some v ∧ ArH K Fz H σ (G j) v a := fun j a e => by
        obtain ⟨s, e1, e2⟩ := ga j a e
        obtain ⟨v, e3, e4⟩ := A.at_ j a e
        exact ⟨s, v, e1, e2, e3, e4⟩
      have cF : ∀ j a, a ∈ calF δ F G ars j → (∃ k, ars[j]? = some (.io k) ∧ ownS δ[k]? = true ∧ a ∈ F k) ∨ ∃ s, ars[j]? = some (.own s) ∧ a ∈ G j := fun j a ha => by
        unfold calF at ha
        cases q : ars[j]? with
        | none => rw [q] at ha; cases ha
        | some r =>
          rw [q] at ha
          cases r with
          | fz d => cases ha
          | own s => exact .inr ⟨s, rfl, ha⟩
          | io k =>
            have ha : a ∈ (if ownS δ[k]? = true then F k else []) := ha
            by_cases c : ownS δ[k]? = true
            · rw [if_pos c] at ha
              exact .inl ⟨k, rfl, c, ha⟩
            · rw [if_neg c] at ha
              cases ha
      have cp : ∀ j a, a ∈ calF δ F G ars j → a ∈ p := fun j a ha => (cF j a ha).elim (fun ⟨k, e1, e2, e3⟩ => pio k (ios_mem e2 e1) a e3) fun ⟨s, e1, e2⟩ => pown j (List.getElem?_eq_some_iff.mp e1).1 a e2
      have Rc : Rl K ⟨calB H p, calF0 H Fz p, [], [], b.T⟩ Fz (calF δ F G ars) δa (vs.map some) H := by
        refine ⟨R.le, fun a o e => ?_, by rw [List.length_map, A.len, la], fun j s e => ?_, fun j => ?_, fun i j a h1 h2 => ?_, fun j a h => pFz a (cp j a h), fun j a h => if_pos (cp j a h), fun j a h => ?_, fun a h => .inl ?_, fun a h => ?_, fun _ z => (nomatch z), fun j x m e => ?_, fun j a h => ?_, fun q h => ⟨(R.tb q h).1, (R.tb q h).2.1, if_pos (pT q h)⟩, fun z => (nomatch z)⟩
        · have e : (if a ∈ p then none else H a) = some o := e
          by_cases c : a ∈ p
          · rw [if_pos c] at e; cases e
          · rw [if_neg c] at e; exact e
        · have hj : j < ars.length := by rw [← la]; exact (List.getElem?_eq_some_iff.mp e).1
          obtain ⟨s', v, e1, e2, e3, e4⟩ := getV j _ (List.getElem?_eq_getElem hj)
          rw [e] at e1
          cases e1
          have hv : (vs.map some)[j]?.join = some v := by rw [List.getElem?_map, e3]; rfl
          rw [hv]
          unfold calF
          rw [List.getElem?_eq_getElem hj]
          generalize ars[j] = r at e2 e4
          cases r with
          | fz d =>
            cases e2
            exact ⟨rfl, v, rfl, e4.2⟩
          | own t =>
            cases e2
            have h2 := e4.2
            cases s with
            | al x m => have := e4.1; cases this
            | no => exact h2
            | fz d => exact h2
            | ol xs => exact h2
            | od kvs => exact h2
          | io k =>
            have hk : σ[k]? = some (some v) := e4.2
            unfold argS at e2
            cases q2 : δ[k]? with
            | none => simp only [q2] at e2; cases e2
            | some t =>
              have hs := R.slot k t q2
              rw [hk] at hs
              cases t with
              | fz d => simp only [q2] at e2; cases e2; exact ⟨by simp [ownS, q2], hs.2⟩
              | ol xs => simp only [q2] at e2; cases e2; simp only [ownS, q2, if_true]; exact hs
              | od kvs => simp only [q2] at e2; cases e2; simp only [ownS, q2, if_true]; exact hs
              | no => simp only [q2] at e2; cases e2
              | al x m => simp only [q2] at e2; cases e2
        · unfold calF
          cases q : ars[j]? with
          | none => exact List.nodup_nil
          | some r =>
            cases r with
            | fz d => exact List.nodup_nil
            | own s => exact A.nd j
            | io k =>
              show (if ownS δ[k]? = true then F k else []).Nodup
              by_cases c : ownS δ[k]? = true
              · rw [if_pos c]; exact R.nd k
              · rw [if_neg c]; exact List.nodup_nil
        · rcases cF i a h1 with ⟨k, e1, e2, e3⟩ | ⟨s, e1, e2⟩
          · rcases cF j a h2 with ⟨m, f1, f2, f3⟩ | ⟨t, f1, f2⟩
            · have := R.dj k m a e3 f3
              subst this
              exact ios_uniq e2 nd e1 f1
            · exact absurd e3 ((A.off j a f2).2.2.2 k)
          · rcases cF j a h2 with ⟨m, f1, f2, f3⟩ | ⟨t, f1, f2⟩
            · exact absurd f3 ((A.off i a e2).2.2.2 m)
            · exact A.dj i j a e2 f2
        · rcases cF j a h with ⟨k, e1, e2, e3⟩ | ⟨s, e1, e2⟩
          · exact R.on k a e3
          · exact (A.off j a e2).2.2.1
        · have h : (if a ∈ p then none else H a) ≠ none := h
          show Fz a = if a ∈ p then none else if H a = none then none else Fz a
          by_cases c : a ∈ p
          · rw [if_pos c] at h; exact absurd rfl h
          · rw [if_neg c] at h ⊢
            rw [if_neg h]
        · have h : (if a ∈ p then none else if H a = none then none else Fz a) ≠ none := h
          show (if a ∈ p then none else H a) ≠ none
          by_cases c : a ∈ p
          · rw [if_pos c] at h; exact absurd rfl h
          · rw [if_neg c] at h ⊢
            by_cases c2 : H a = none
            · rw [if_pos c2] at h; exact absurd rfl h
            · exact c2
        · have hj : j < ars.length := by rw [← la]; exact (List.getElem?_eq_some_iff.mp e).1
          obtain ⟨s', v, e1, e2, e3, e4⟩ := getV j _ (List.getElem?_eq_getElem hj)
          rw [e] at e1
          cases e1
          generalize ars[j] = r at e2 e4
          cases r with
          | fz d => cases e2
          | own t =>
            cases e2
            have := e4.1
            cases this
          | io k =>
            unfold argS at e2
            cases q2 : δ[k]? with
            | none => simp only [q2] at e2; cases e2
            | some t => cases t <;> (simp only [q2] at e2; cases e2)
        · rcases cF j a h with ⟨k, e1, e2, e3⟩ | ⟨s, e1, e2⟩
          · exact R.noT k a e3
          · obtain ⟨v, _, e4⟩ := A.at_ j _ e1
            exact e4.noT a e2
      refine ⟨⟨calB H p, calF0 H Fz p, [], [], b.T⟩, Fz, _, δa, hT, Rc, ?_⟩
      have calN : ∀ a, H a ≠ none → a ∉ p → calB H p a ≠ none := fun a h1 h2 => by
        show (if a ∈ p then none else H a) ≠ none
        rw [if_neg h2]
        exact h1
      -- what comes back
      have fin : ∀ {δ' : List Sl} {H' Fz' : Hp} {F' : Nat → List Addr}, Same Fz Fz' → Rl K ⟨calB H p, calF0 H Fz p, [], [], b.T⟩ Fz' F' δ' (vs.map some) H' → ∃ Fn, Rl K b Fz' Fn (backS ars δ' δ) σ H' ∧ ∀ m a, a ∈ Fn m → calB H p a ≠ none ∨ ∃ i, a ∈ F' i := by
        intro δ' H' Fz' F' s R'
        have outF : ∀ k, k ∉ iosOf δ ars → ∀ a ∈ F k, a ∉ p := fun k hk a ha z => by
          rcases pin a z with ⟨m, e1, e2⟩ | ⟨j, e⟩ | ⟨q, h, rfl⟩
          · exact hk (by rw [R.dj k m a ha e2]; exact e1)
          · exact (A.off j a e).2.2.2 k ha
          · exact R.tb.tbl h (R.noT k _ ha)
        have tb' : Tb b Fz' H' := fun q h => ⟨(R'.tb q h).1, (R'.tb q h).2.1, (R.tb q h).2.2⟩
        have R1 := (R.clear (iosOf δ ars)).move (Fz' := Fz') (H' := H') s R'.le (fun a o e => ?_) (fun k a ha => ?_) (fun a ha => ?_) tb'
        · refine Rl.putBack (b := b) R' (fun a ha => ?_) ars δ' 0 _ _ R1 (by have := R'.len; rw [List.length_map, A.len] at this; exact this.symm) (fun i t e => by rwa [Nat.zero_add]) (fun i k e => ?_) (fun m a ha => ?_)
          · cases q : b.B a with
            | none => exact absurd q ha
            | some o => exact calN a (by rw [R.base a o q]; simp) fun z => by rw [pB a z] at q; cases q
          · obtain ⟨v, e1, e2⟩ := A.at_ i _ e
            exact ⟨v, by rwa [Nat.zero_add], e2.2⟩
          · have ha : a ∈ (if m ∈ iosOf δ ars then [] else F m) := ha
            by_cases c : m ∈ iosOf δ ars
            · rw [if_pos c] at ha; cases ha
            · rw [if_neg c] at ha
              exact .inl (calN a (R.on m a ha) (outF m c a ha))
        · have hn : a ∉ p := fun z => by rw [pB a z] at e; cases e
          exact R'.base a o (by
            show (if a ∈ p then none else H a) = some o
            rw [if_neg hn]
            exact R.base a o e)
        · have ha : a ∈ (if k ∈ iosOf δ ars then [] else F k) := ha
          by_cases c : k ∈ iosOf δ ars
          · rw [if_pos c] at ha; cases ha
          · rw [if_neg c] at ha
            have hn := outF k c a ha
            have nn := calN a (R.on k a ha) hn
            refine ⟨?_, ?_⟩
            · cases q : H a with
              | none => exact absurd q (R.on k a ha)
              | some o => exact R'.base a o (by
                  show (if a ∈ p then none else H a) = some o
                  rw [if_neg hn]
                  exact q)
            · rcases R'.keep a nn with z | ⟨⟨xs, z⟩, _⟩
              · rw [z]
                show (if a ∈ p then none else if H a = none then none else Fz a) = none
                rw [if_neg hn, if_neg (R.on k a ha)]
                exact R.offF k a ha
              · have z : (if a ∈ p then none else H a) = some (.tup xs) := z
                rw [if_neg hn] at z
                exact ((R.noT k a ha).tup z).elim
        · have hn : a ∉ p := fun z => ha (pB a z)
          have hH : H a ≠ none := by
            cases q : b.B a with
            | none => exact absurd q ha
            | some o => rw [R.base a o q]; simp
          have z := R'.keep a (calN a hH hn)
          have z : Fz' a = (if a ∈ p then none else if H a = none then none else Fz a) ∨ ((∃ xs, (if a ∈ p then none else H a) = some (.tup xs)) ∧ Fz' a = (if a ∈ p then none else H a)) := z
          rw [if_neg hn, if_neg hH, if_neg hn] at z
          rcases z with z | ⟨⟨xs, z1⟩, z2⟩
          · exact .inl z
          · cases qb : b.B a with
            | none => exact absurd qb ha
            | some o =>
              have h2 := R.base a o qb
              rw [z1] at h2
              cases h2
              exact .inr ⟨⟨xs, rfl⟩, z2.trans z1⟩
      cases q2 : f δa with
      | bad => simp only [q2] at P; exact P
      | er x δ' =>
        simp only [q2] at P
        intro c dd H' Fz' F' s R' e
        obtain ⟨Fn, Rn, _⟩ := fin s R'
        exact P c dd H' Fz' Fn s Rn e
      | ok r δ' =>
        simp only [q2] at P
        intro v H' Fz' F' s R' Ar
        obtain ⟨Fn, Rn, hn⟩ := fin s R'
        refine P v H' Fz' Fn s Rn ?_
        obtain ⟨ht, g, h1, h2, h3⟩ := Ar
        have gn : ∀ a ∈ g, calB H p a = none := fun a ha => (h3 a ha).2.1
        have gen : AvR K b Fz' Fn H' σ v (.tmp r) := ⟨ht, g, h1, h2, fun a ha => ⟨(h3 a ha).1, ?_, (h3 a ha).2.2.1, fun m hm => ?_⟩⟩
        · cases r with
          | fz d =>
            obtain ⟨e, v', e1, e2⟩ := h1
            cases e1
            exact e2
          | no => cases ht
          | al x j => cases ht
          | ol xs => exact gen
          | od kvs => exact gen
        · cases q : b.B a with
          | none => rfl
          | some o => exact absurd (gn a ha) (calN a (by rw [R.base a o q]; simp) fun z => by rw [pB a z] at q; cases q)
        · rcases hn m a hm with z | ⟨i, z⟩
          · exact z (gn a ha)
          · exact (h3 a ha).2.2.2 i z
  · rw [if_neg nd] at P
    exact P.elim
end
section
variable {X : Cx} {k : Nat} {f : Addr} {fd : FuncData} {ps : List Str} {W : WX} {pin : List Nat} {x : Str} {p pos : Pos} {e : Expr} {es : List Expr} {n : Nat} {F : List Sl → FR} {g : List Sl → Rs (List Ar)} {ds : List Value} {dd : List PyData}
theorem run_GT (G : FnG X.prog X.w X.K X.mg X.base k f fd ps (spT X.K X.mg n F)) (hr : Room k X.A) (hgd : X.A.guards = some []) {pins : List (Addr × Obj)} {σ : L2.St} {H : Hp} {s : Shared} {Q : VK} {us : List Value} {vs dvs : List V} (hx : PassesAt (L2.CX X.prog X.w) X σ (WE W σ))
    (hb : Binds X.K fd ps ds) (hd : Vals dvs ds) (I : Inv X pins σ H s) (r : Vals vs us) (h : spT X.K X.mg n F (vs ++ dvs) H Q (WE W σ)) : wpAny (model X.prog X.w) X.A (call (.ref f) us) (EP X pins σ Q) X.xe s := by
  have r2 := r.append hd
  have hl : (us ++ ds).length = ps.length := r2.length.symm.trans (G.len _ _ _ _ h)
  have go := G.run X.A X.stack s H ⟨us, []⟩ (us ++ ds) (vs ++ dvs) Q (WE W σ) hgd hr I.env0 (hb s us I.kIn hl) r2 h
  refine wpAny_call (codeAny_mono go fun res s' hq => ?_)
  match res, hq with
  | .error err, hq => exact hx pins H s err s' I hq
  | .ok (.ret u), hq => exact I.after hq
theorem call_rdT (hT : mkT ∈ pin) {K : PySem.W.Frag} {mg : Str → Option Value} {W : WX} (hflat : dd.all flatD = true) (hlen : ∀ δ ars δ', g δ = .ok ars δ' → ars.length + dd.length = n) : ∀ σ H Q, rdE K mg W pin (sCall F dd g) σ H Q → rdAr K mg W pin g σ H fun vs H1 => spT K mg n F (vs ++ dd.map dV) H1 Q (WE W σ) := fun σ H Q ⟨b, Fz, Ff, δ, hp, R, P⟩ => by
  refine ⟨b, Fz, Ff, δ, hp, R, ?_⟩
  unfold sCall at P
  cases q : g δ with
  | bad => rw [q] at P; exact P
  | er x δ' => rw [q] at P; exact P
  | ok ars δ' =>
    rw [q] at P
    intro vs H' Fz' F' G s R' A
    have A' := arOk_dfl (dd := dd) A (rpl_flat hflat)
    have h := call_okT (mg := mg) (W := W) (f := F) R' A' (R'.tp (by rw [hp]; exact hT)) (Post.le s P)
    have e : (ars ++ dd.map Ar.fz).length = n := by
      rw [List.length_append, List.length_map]
      exact hlen _ _ _ q
    rw [e] at h
    exact h
theorem se_callT (hT : mkT ∈ pin) (G : FnG X.prog X.w X.K X.mg X.base k f fd ps (spT X.K X.mg n F)) (hr : Room k X.A) (hgd : X.A.guards = some []) (hx : ∀ σ, PassesAt (L2.CX X.prog X.w) X σ (WE W σ)) (hg : Gl X x) (hm : X.mg x = some (.ref f)) (hk : PySem.W.keepIn X.K (.ref f) = true)
    (hb : Binds X.K fd ps ds) (hd : Vals (dd.map dV) ds) (hflat : dd.all flatD = true) (ha : SAr X W pin (e :: es) g) (hlen : ∀ δ ars δ', g δ = .ok ars δ' → ars.length + dd.length = n)
    (hdb : (x == ("__debug__" : Str)) = false := by decide) (he : starEach (e :: es) X.env = (false, eval e X.env) :: starEach es X.env := by rfl) (hpl : (backTo pos (starEach es X.env)).any (·.1) = false := by rfl) :
    SE X W pin (.Call (.Name x p) (e :: es) [] pos) (sCall F dd g) := by
  refine ⟨fun pins s σ H Q I h => wpAny_Call_Name_kw (ld_glob I hg hm ?_ hdb)⟩
  have h2 := call_rdT hT (n := n) hflat hlen σ H Q h
  refine PySem.W.callWith_K (h₀ := X.base) I.ok.mod.kin hk (thn (ha.run pos pins s σ H _ I h2) fun us s1 q => ?_) he hpl
  obtain ⟨vs, H1, I1, r, q⟩ := q
  exact ⟨I1.kIn, run_GT G hr hgd (hx σ) hb hd I1 r q⟩
end
structure DfnT (P : Program) (w : World) (K : PySem.W.Frag) (mg : Str → Option Value) (base : Heap) (k : Nat) (x : Str) (n : Nat) (F : List Sl → FR) (m : Nat) (dd : List PyData) : Prop where
  ex : ∃ (f : Addr) (fd : FuncData) (ps : List Str) (ds : List Value), mg x = some (.ref f) ∧ PySem.W.keepIn K (.ref f) = true ∧ FnG P w K mg base k f fd ps (spT K mg n F) ∧ Binds K fd ps ds ∧ Vals (dd.map dV) ds ∧ m + dd.length = n ∧ dd.all flatD = true
theorem DfnT.mono {P : Program} {w : World} {K : PySem.W.Frag} {mg : Str → Option Value} {base : Heap} {k j : Nat} {x : Str} {n : Nat} {F : List Sl → FR} {m : Nat} {dd : List PyData} (D : DfnT P w K mg base k x n F m dd) (h : k ≤ j) : DfnT P w K mg base j x n F m dd := by
  obtain ⟨f, fd, ps, ds, h1, h2, h3, h4⟩ := D.ex
  exact ⟨f, fd, ps, ds, h1, h2, h3.mono h, h4⟩
section
variable {X : Cx} {k : Nat} {W : WX} {pin : List Nat} {x : Str} {p pos : Pos} {e : Expr} {es : List Expr} {n m : Nat} {F : List Sl → FR} {g : List Sl → Rs (List Ar)} {dd : List PyData}
theorem se_callDT (hT : mkT ∈ pin) (D : DfnT X.prog X.w X.K X.mg X.base k x n F m dd) (hr : Room k X.A) (hgd : X.A.guards = some []) (hx : ∀ σ, PassesAt (L2.CX X.prog X.w) X σ (WE W σ)) (hg : Gl X x)
    (ha : SAr X W pin (e :: es) g) (hlen : ∀ δ ars δ', g δ = .ok ars δ' → ars.length = m)
    (hdb : (x == ("__debug__" : Str)) = false := by decide) (he : starEach (e :: es) X.env = (false, eval e X.env) :: starEach es X.env := by rfl) (hpl : (backTo pos (starEach es X.env)).any (·.1) = false := by rfl) :
    SE X W pin (.Call (.Name x p) (e :: es) [] pos) (sCall F dd g) := by
  obtain ⟨f, fd, ps, ds, hm, hk, G, hb, hd, hn, hf⟩ := D.ex
  exact se_callT hT G hr hgd hx hg hm hk hb hd hf ha (fun δ ars δ' q => by rw [hlen δ ars δ' q]; exact hn) hdb he hpl
end
end Hb
namespace Hb
open PySem PySem.Spec PyProof.Rows L2
/-- an exception of the class D stands at a since the def was entered, and nobody follows it -/
structure ExAt (X : Cx) (D a : Addr) : Prop where
  C : L2.ExcC X.K D
  ob : ∃ (oe : Obj) (vs : Array Value), X.s_0.heap.get? a = some oe ∧ Zc (.ref D) none oe ∧ oe.data = .fields vs
  h0 : X.H_0 a = none
  nf : a ∉ X.fs
  ex : X.ex = []
section
variable {X : Cx} {D a : Addr} {i j : Nat}
theorem ExAt.inst (E : ExAt X D a) {pins : List (Addr × Obj)} {σ : L2.St} {H : Hp} {s : Shared} (I : Inv X pins σ H s) : ∃ oe, PySem.W.InstAt s.heap a oe D none := by
  obtain ⟨oe, vs, h1, h2, h3⟩ := E.ob
  have hget : s.heap.get? a = some oe := I.base.keep a oe h1 E.h0 E.nf (by rw [E.ex]; simp)
  refine ⟨oe, ?_⟩
  obtain ⟨oc, od, oda, osl⟩ := oe
  obtain ⟨z1, z2⟩ := h2
  dsimp only at z1 z2 h3
  subst z1 z2 h3
  exact ⟨hget, rfl, rfl, trivial⟩
def rIsX (K : PySem.W.Frag) (D a : Addr) : List V → Hp → VK → Prop := fun xs H Q => ∃ (c : V) (cv : Value) (b : Bool), xs = [.ref a, c] ∧ ClsV c cv ∧ PySem.W.kitOne K (.ref D) cv = some b ∧ Q (.bl b) H
theorem call_isX (E : ExAt X D a) : CallR X (.builtin "isinstance") (rIsX X.K D a) := by
  intro pins s σ H xs us Q I r h
  obtain ⟨c, cv, b, rfl, hcv, e, q⟩ := h
  obtain ⟨u1, u2, rfl, r1, r2⟩ := vals2 r
  cases (show u1 = Value.ref a from r1)
  have ec := hcv.eq r2
  subst ec
  obtain ⟨oe, J⟩ := E.inst I
  exact PySem.W.kia_one (PySem.W.handS_kitx_exc E.C.hg E.C.hk E.C.hs E.C.hd E.C.ha E.C.hn E.C.ht E.C.hm) I.kIn J e (fun z => nomatch z) fun tk => ⟨.bl b, H, I.tok tk, rfl, q⟩
def rIsXT (K : PySem.W.Frag) (D a : Addr) : List V → Hp → VK → Prop := fun xs H Q => ∃ (tp : Addr) (cs : List V) (us : List Value) (b : Bool), xs = [.ref a, .ref tp] ∧ H tp = some (.tup cs) ∧ Paired ClsV cs us ∧ PySem.W.kitAny K (.ref D) us = some b ∧ Q (.bl b) H
theorem call_isXT (E : ExAt X D a) : CallR X (.builtin "isinstance") (rIsXT X.K D a) := by
  intro pins s σ H xs us Q I r h
  obtain ⟨tp, cs, ws, b, rfl, hT, k, e, q⟩ := h
  obtain ⟨u1, u2, rfl, r1, r2⟩ := vals2 r
  cases (show u1 = Value.ref a from r1)
  cases (show u2 = Value.ref tp from r2)
  obtain ⟨oe, J⟩ := E.inst I
  obtain ⟨_, its, rv, o, h1, h2, n, h3⟩ := (show ObjOk X.prog X.w H s.heap tp (.tup cs) from I.hok tp _ hT)
  have e3 := ClsV.all k rv
  subst e3
  obtain ⟨oc, od, dt, sl⟩ := o
  simp only at h2 h3
  subst h2 h3
  exact PySem.W.kia_tup (PySem.W.handS_kitx_exc E.C.hg E.C.hk E.C.hs E.C.hd E.C.ha E.C.hn E.C.ht E.C.hm) I.kIn J h1 e (fun z => nomatch z) fun tk => ⟨.bl b, H, I.tok tk, rfl, q⟩
theorem paired_own : ∀ Cs : List Addr, Paired ClsV (Cs.map V.ref) (Cs.map Value.ref)
  | [] => .nil
  | c :: r => .cons (.own c) (paired_own r)
/-- whether the caught one is of a class, or of one of some -/
def tIsX (i : Nat) (a : Addr) (b : Bool) : TT := fun σ H Q => σ[i]? = some (some (.ref a)) ∧ ∀ H', Same H H' → Q b H'
variable {x y z : Str} {p p1 p2 p3 p4 pos pos2 : Pos} {b b2 : Bool}
theorem pt_isX (E : ExAt X D a) (hx : X.N[i]? = some x) (vx : Vis X.env.scope x) (hg : Gl X "isinstance") (hm : X.mg "isinstance" = none) {C : Addr} (hgy : Gl X y) (hy : X.mg y = some (.ref C)) (hk : PySem.W.kitOne X.K (.ref D) (.ref C) = some b)
    (dy : (y == ("__debug__" : Str)) = false := by decide) (dx : (x == ("__debug__" : Str)) = false := by decide) (cx : (x == ("__classdict__" : Str)) = false := by decide)
    (he : starEach [.Name x p1, .Name y p2] X.env = (false, eval (.Name x p1) X.env) :: starEach [.Name y p2] X.env := by rfl) :
    PT X (.Call (.Name "isinstance" p) [.Name x p1, .Name y p2] [] pos) (tIsX i a b) :=
  pt_mono (pt_val (pe_callB (call_isX E) hg hm PyProof.Rows.boot_isinstance (pa_cons (pe_var hx vx dx cx) (pa_cons (pe_glob hgy hy (v := .ref C) rfl dy) pa_nil) he) (by decide) (by decide) he)) fun σ H Q ⟨h1, h2⟩ =>
    ⟨.ref a, h1, .ref C, .ref C, b, rfl, .own C, hk, b, rfl, h2 H (Same.refl _)⟩
theorem pt_isXB (E : ExAt X D a) (hx : X.N[i]? = some x) (vx : Vis X.env.scope x) (hg : Gl X "isinstance") (hm : X.mg "isinstance" = none) {T : String} (hgy : Gl X y) (hy : X.mg y = none) (hb : bootBuiltins y = some (.type T)) (hk : PySem.W.kitOne X.K (.ref D) (.type T) = some b)
    (hn : y ≠ "__name__" := by decide) (dy : (y == ("__debug__" : Str)) = false := by decide) (dx : (x == ("__debug__" : Str)) = false := by decide) (cx : (x == ("__classdict__" : Str)) = false := by decide)
    (he : starEach [.Name x p1, .Name y p2] X.env = (false, eval (.Name x p1) X.env) :: starEach [.Name y p2] X.env := by rfl) :
    PT X (.Call (.Name "isinstance" p) [.Name x p1, .Name y p2] [] pos) (tIsX i a b) :=
  pt_mono (pt_val (pe_callB (call_isX E) hg hm PyProof.Rows.boot_isinstance (pa_cons (pe_var hx vx dx cx) (pa_cons (pe_bltn (v := .ty T) hgy hy hb rfl hn dy) pa_nil) he) (by decide) (by decide) he)) fun σ H Q ⟨h1, h2⟩ =>
    ⟨.ref a, h1, .ty T, .type T, b, rfl, .ty T, hk, b, rfl, h2 H (Same.refl _)⟩
theorem pt_isXT (E : ExAt X D a) (hx : X.N[i]? = some x) (vx : Vis X.env.scope x) (hg : Gl X "isinstance") (hm : X.mg "isinstance" = none) {es : List Expr} {k : Nat} {Cs : List Addr} (hes : PA X es (fun σ H Q => Q (Cs.map V.ref) H)) (hl : Cs.length ≤ sizeLine) (hk : PySem.W.kitAny X.K (.ref D) (Cs.map Value.ref) = some b)
    (dx : (x == ("__debug__" : Str)) = false := by decide) (cx : (x == ("__classdict__" : Str)) = false := by decide)
    (he : starEach [.Name x p1, .Tuple es k p2] X.env = (false, eval (.Name x p1) X.env) :: starEach [.Tuple es k p2] X.env := by rfl) (he2 : starEach [.Tuple es k p2] X.env = (false, eval (.Tuple es k p2) X.env) :: starEach [] X.env := by rfl) :
    PT X (.Call (.Name "isinstance" p) [.Name x p1, .Tuple es k p2] [] pos) (tIsX i a b) :=
  pt_mono (pt_val (pe_callB (call_isXT E) hg hm PyProof.Rows.boot_isinstance (pa_cons (pe_var hx vx dx cx) (pa_cons (pe_tup hes) pa_nil he2) he) (by decide) (by decide) he)) fun σ H Q ⟨h1, h2⟩ => by
    exact ⟨.ref a, h1, by rw [List.length_map]; exact hl, fun q hq => ⟨q, _, _, b, rfl, upd_same, paired_own Cs, hk, b, rfl, h2 _ (same_new hq)⟩⟩
/-- all but the list at l is as it was -/
def SameX (l : Addr) (H H' : Hp) : Prop := ∀ c o, c ≠ l → H c = some o → H' c = some o
theorem SameX.trans {l : Addr} {H H1 H2 : Hp} (h : SameX l H H1) (h2 : SameX l H1 H2) : SameX l H H2 := fun c o n e => h2 c o n (h c o n e)
theorem SameX.of {l : Addr} {H H' : Hp} (h : Same H H') : SameX l H H' := fun c o _ e => h c o e
/-- if it is of the class: the word is appended -/
def tStep (i j : Nat) (a : Addr) (b : Bool) (w : Str) : TS := fun Dn σ H => σ[i]? = some (some (.ref a)) ∧ ∃ l ws, σ[j]? = some (some (.ref l)) ∧ H l = some (.lst ws) ∧ ws.length ≤ 100 ∧ ∀ H', SameX l H H' → H' l = some (.lst (if b = true then ws ++ [.str w] else ws)) → Dn.nx σ H'
theorem ps_step {test : Expr} {w : Str} {q : Nat} {apos cpos epos : Pos} (ht : PT X test (tIsX i a b)) (hj : X.N[j]? = some z) (vj : Vis X.env.scope z) (dz : (z == ("__debug__" : Str)) = false := by decide) (cz : (z == ("__classdict__" : Str)) = false := by decide)
    (hbase : attributeBase (.Name z p3) "append" X.env (eval (.Name z p3) X.env) = eval (.Name z p3) X.env := by rfl) (hline : (apos.endLine == cpos.line) = true := by rfl)
    (hfew : ((backTo cpos (starEach [.Constant (.str w) q p4] X.env)).all (fun x => !x.1) && (backToKw cpos (keywordEach [] X.env)).all (fun x => x.1.isSome)
      && decide ([Expr.Constant (.str w) q p4].length + ([] : List Keyword).length + (if ([] : List Keyword).isEmpty then 0 else 1) < 30)) = true := by rfl)
    (hs : starEach [.Constant (.str w) q p4] X.env = (false, eval (.Constant (.str w) q p4) X.env) :: starEach [] X.env := by rfl)
    (hsw : swapsWith (.Call (.Attribute (.Name z p3) "append" apos) [.Constant (.str w) q p4] [] cpos) none epos.line X.env = pure false := by rfl) :
    PS X (.If test [.Expr (.Call (.Attribute (.Name z p3) "append" apos) [.Constant (.str w) q p4] [] cpos) epos] [] pos) (tStep i j a b w) :=
  ps_mono (ps_if ht (pss_one (ps_expr (pe_bm PySem.F.plainAttrs_list PySem.F.slot_list_append PySem.F.type_list_append mt_append (pe_var hj vj dz cz) (pa_cons pe_str pa_nil hs) hbase hfew hline hs rfl) hsw)) pss_nil) fun Dn σ H ⟨h1, l, ws, h2, h3, h4, h5⟩ => by
    refine ⟨h1, fun H' hs => ?_⟩
    cases b with
    | true =>
      refine ⟨.ref l, h2, .inl ⟨rfl, ws, .inl (.inl (hs _ _ h3))⟩, l, ws, .str w, rfl, rfl, hs _ _ h3, Nat.lt_of_le_of_lt h4 (by decide), ?_⟩
      exact h5 _ (fun c o n e => by rw [upd_ne n]; exact hs _ _ e) upd_same
    | false => exact h5 _ (.of hs) (hs _ _ h3)
abbrev Stp : Type := Stmt × Bool × Str
def wordsOf : List Stp → List V
  | [] => []
  | s :: r => (if s.2.1 = true then [V.str s.2.2] else []) ++ wordsOf r
theorem pss_steps {rp : Pos} (hj : X.N[j]? = some z) (vj : Vis X.env.scope z) (dz : (z == ("__debug__" : Str)) = false := by decide) (cz : (z == ("__classdict__" : Str)) = false := by decide) : ∀ steps : List Stp, (∀ st ∈ steps, PS X st.1 (tStep i j a st.2.1 st.2.2)) →
    PSs X (steps.map (·.1) ++ [.Return (some (.Name z p1)) rp]) (fun Dn σ H => σ[i]? = some (some (.ref a)) ∧ ∃ l ws, σ[j]? = some (some (.ref l)) ∧ H l = some (.lst ws) ∧ ws.length + steps.length ≤ 100 ∧ ∀ H', SameX l H H' → H' l = some (.lst (ws ++ wordsOf steps)) → Dn.rt (.ref l) H')
  | [], _ => pss_mono (pss_one (ps_ret (pe_var hj vj dz cz))) fun Dn σ H ⟨h1, l, ws, h2, h3, h4, h5⟩ => ⟨.ref l, h2, h5 H (fun _ _ _ e => e) (by rw [h3, wordsOf, List.append_nil])⟩
  | s :: r, hs => pss_mono (pss_cons (hs s List.mem_cons_self) (pss_steps hj vj dz cz r fun st h => hs st (List.mem_cons_of_mem _ h))) fun Dn σ H ⟨h1, l, ws, h2, h3, h4, h5⟩ => by
    rw [List.length_cons] at h4
    refine ⟨h1, l, ws, h2, h3, by omega, fun H' hx hl => ?_⟩
    refine ⟨h1, l, _, h2, hl, ?_, fun H2 hx2 hl2 => h5 H2 (hx.trans hx2) ?_⟩
    · split
      · rw [List.length_append, List.length_singleton]; omega
      · omega
    · rw [hl2, wordsOf]
      split
      · rw [List.append_assoc]
      · rfl
end
/-- the context in which an exception stays pinned -/
abbrev keepX (X : Cx) (a : Addr) (oe : Obj) : Cx := { X with pn := (a, oe) :: X.pn }
section
variable {X : Cx} {D a : Addr} {oe : Obj}
theorem keepX_ok (ok : X.Ok) : (keepX X a oe).Ok :=
  ⟨ok.mod, ok.kind, ok.glob, ok.blt, ok.above, ok.inj, ok.has, ok.cab, ok.hd, ok.frames, ok.stk, ok.exf, ok.bs, ok.bsz, ok.noex, ok.exfs, ok.funs, ok.frf⟩
theorem keepX_back (ok : (keepX X a oe).Ok) : X.Ok :=
  ⟨ok.mod, ok.kind, ok.glob, ok.blt, ok.above, ok.inj, ok.has, ok.cab, ok.hd, ok.frames, ok.stk, ok.exf, ok.bs, ok.bsz, ok.noex, ok.exfs, ok.funs, ok.frf⟩
/-- what is known of the words of an exception of the class D: a def handed it tells them -/
structure WordsD (X : Cx) (D : Addr) (ws : List V) (k : Nat) (x : Str) : Prop where
  ex : ∃ (g : Addr) (pg : Arguments) (bg : List Stmt) (sg : Scope) (dV kV doc pm cdv ct oc : Value) (an od : Option Addr) (osl : Array (Option Value)) (Ng : List Str) (y : Str),
    X.mg x = some (.ref g) ∧ PySem.W.keepIn X.K (.ref g) = true ∧ X.K.lookup g = some ⟨oc, od, .func (PySem.W.fnOf x x pg bg sg dV kV doc pm an cdv ct), osl⟩ ∧ PySem.W.codeIn X.K cdv x = true ∧
    L2.Binds X.K (PySem.W.fnOf x x pg bg sg dV kV doc pm an cdv ct) [y] [] ∧ FnScope Ng [y] sg ∧
    ∀ (a : Addr) (A : Around) (outer : List Env) (s : Shared) (H : Hp), Room k (A.deeper (envOfC x sg s.heap.objs.size g cdv)) → ExAt (cxOf C8.CX0 X.prog X.w X.K X.mg X.base Ng x sg g cdv A outer s H C8.E0) D a →
      ∃ t, PSs (cxOf C8.CX0 X.prog X.w X.K X.mg X.base Ng x sg g cdv A outer s H C8.E0) bg t ∧
        ∀ Q : VK, (∀ l H', H l = none → Same H H' → H' l = some (.lst ws) → Q (.ref l) H') → t { nx := fun _ H' => Q .non H', rt := Q } (L2.start Ng [.ref a]) H
/-- its words, a new list -/
def tWords (i : Nat) (a : Addr) (ws : List V) : TE := fun σ H Q => σ[i]? = some (some (.ref a)) ∧ ∀ l H', H l = none → Same H H' → H' l = some (.lst ws) → Q (.ref l) H'
theorem pe_words {ws : List V} {k i : Nat} {x z : Str} {p p1 pos : Pos} (Wd : WordsD X D ws k x) (C : L2.ExcC X.K D) (hz : Zc (.ref D) none oe) (hf : ∃ vs, oe.data = .fields vs) (hr : Room (k + 1) X.A) (hg : Gl X x) (hi : X.N[i]? = some z) (vz : Vis X.env.scope z)
    (hdb : (x == ("__debug__" : Str)) = false := by decide) (dz : (z == ("__debug__" : Str)) = false := by decide) (cz : (z == ("__classdict__" : Str)) = false := by decide)
    (he : starEach [.Name z p1] X.env = (false, eval (.Name z p1) X.env) :: starEach [] X.env := by rfl) (hpl : (backTo pos (starEach [] X.env)).any (·.1) = false := by rfl) :
    PE (keepX X a oe) (.Call (.Name x p) [.Name z p1] [] pos) (tWords i a ws) := by
  obtain ⟨g, pg, bg, sg, dV, kV, doc, pm, cdv, ct, oc, an, od, osl, Ng, y, hm, hk, lk, hcg, hb, Sg, hB⟩ := Wd.ex
  refine ⟨fun pins s σ H Q I h => wpAny_Call_Name_kw (ld_glob (X := keepX X a oe) I hg hm ?_ hdb)⟩
  obtain ⟨h1, h2⟩ := h
  have ha : PA (keepX X a oe) [.Name z p1] (fun σ H Q => σ[i]? = some (some (.ref a)) ∧ Q [.ref a] H) := pa_mono (pa_cons (pe_var (X := keepX X a oe) hi vz dz cz) pa_nil he) fun σ H Q ⟨e, q⟩ => ⟨.ref a, e, q⟩
  refine PySem.W.callWith_K (h₀ := X.base) I.ok.mod.kin hk (thn (ha.run pos pins s σ H (fun vs H1 => vs = [.ref a] ∧ H1 = H) I ⟨h1, rfl, rfl⟩) fun us s1 q => ?_) he hpl
  obtain ⟨vs, H1, I1, r, rfl, rfl⟩ := q
  obtain ⟨u, rfl, ru⟩ := Vals.one r
  cases (show u = Value.ref a from ru)
  obtain ⟨hget, hn, hL, hF, _⟩ := I1.pin (a, oe) (List.mem_append.mpr (.inl List.mem_cons_self))
  have rc : codeAny (model X.prog X.w) X.A (.call (.ref g) ⟨[.ref a], []⟩) (CR C8.CX0 X.stack X.prog X.w H1 s1 Q C8.E0) s1 := by
    refine LamX.run_ofS (N := Ng) (ps := [y]) (us := [.ref a]) (vs := [.ref a]) lk hcg Sg hr I1.env0 (hb s1 [.ref a] I1.kIn rfl) (.cons rfl .nil) rfl fun hr' => ?_
    obtain ⟨vs, hv⟩ := hf
    have E : ExAt (cxOf C8.CX0 X.prog X.w X.K X.mg X.base Ng x sg g cdv X.A X.stack s1 H1 C8.E0) D a := ⟨C, ⟨oe, vs, hget, hz, hv⟩, hn, fun q => by
      rcases List.mem_cons.mp (I1.stkSub _ q) with e | e
      · exact hL e
      · exact hF e, rfl⟩
    obtain ⟨t, ht, hq⟩ := hB a X.A X.stack s1 H1 hr' E
    exact ⟨t, ht, hq Q h2⟩
  refine ⟨I1.kIn, wpAny_call (codeAny_mono rc fun r s2 hq => ?_)⟩
  cases r with
  | error e => exact (show False from hq).elim
  | ok fl =>
    cases fl with
    | ret u => exact I1.after hq
    | next => exact False.elim hq
    | brk => exact False.elim hq
    | cont => exact False.elim hq
end
end Hb
namespace Hb
open PySem PySem.Spec PyProof.Rows L2
def wAsK (K : PySem.W.Frag) (c : Value) (i : Nat) (ts : Addr → Value → Option Addr → TS) (tkp : Addr → Value → Option Addr → TS) (Wout : WX) (D : Ends) : WX := fun cls d σ H =>
  ∃ b, PySem.W.exmOne K cls c = some b ∧ (b = true → ∀ a, H a = none → ts a cls d { nx := fun σ' H' => tkp a cls d D (σ'.set i none) H', rt := fun _ _ => False } (σ.set i (some (.ref a))) H) ∧
    (b = false → Wout cls d σ H)
def MidK (X : Cx) (pins : List (Addr × Obj)) (D : Ends) (tr : TS) (tkp : Addr → Value → Option Addr → TS) (f : Flow) (s' : Shared) : Prop :=
  SP X pins { D with nx := tr D } f s' ∨ (f = .next ∧ ∃ a oe cls d vs σ' H', Inv X ((a, oe) :: pins) σ' H' s' ∧ Zc cls d oe ∧ oe.data = .fields vs ∧ tkp a cls d D σ' H')
section
variable {X : Cx} {pins : List (Addr × Obj)} {σ : L2.St} {H : Hp} {s : Shared} {a : Addr} {oe : Obj}
theorem unsuiteK (S : Inv (X.suite a ((a, oe) :: (X.pn ++ pins))) [] σ H s) (ok : X.Ok) : Inv X ((a, oe) :: pins) σ H s :=
  ⟨ok, S.os, S.bare, S.base, S.loc, S.cell, S.free, S.freeC, fun p hp => S.pin p (by
    rw [List.append_nil]
    rcases List.mem_append.mp hp with h | h
    · exact List.mem_cons_of_mem _ (List.mem_append_left _ h)
    · rcases List.mem_cons.mp h with e | h
      · rw [e]; exact List.mem_cons_self
      · exact List.mem_cons_of_mem _ (List.mem_append_right _ h)), S.hok, S.len⟩
theorem toKeep (I : Inv X ((a, oe) :: pins) σ H s) : Inv (keepX X a oe) pins σ H s :=
  ⟨keepX_ok I.ok, I.os, I.bare, I.base, I.loc, I.cell, I.free, I.freeC, fun p hp => I.pin p (by
    rcases List.mem_append.mp hp with h | h
    · rcases List.mem_cons.mp h with e | h
      · rw [e]; exact List.mem_append_right _ List.mem_cons_self
      · exact List.mem_append_left _ h
    · exact List.mem_append_right _ (List.mem_cons_of_mem _ h)), I.hok, I.len⟩
theorem ofKeep (I : Inv (keepX X a oe) pins σ H s) : Inv X pins σ H s :=
  ⟨keepX_back I.ok, I.os, I.bare, I.base, I.loc, I.cell, I.free, I.freeC, fun p hp => I.pin p (by
    rcases List.mem_append.mp hp with h | h
    · exact List.mem_append_left _ (List.mem_cons_of_mem _ h)
    · exact List.mem_append_right _ h), I.hok, I.len⟩
end
section
variable {X : Cx} {x n : Str} {c : Value} {i : Nat} {body suite rest : List Stmt} {b₀ : Stmt} {np pos pos' : Pos} {tb : WX → TS} {ts : Addr → Value → Option Addr → TS} {Wout : WX} {tr : TS} {tkp : Addr → Value → Option Addr → TS}
theorem try_keep (hs : X.stack = X.env :: X.outer) (hf : X.env.frame = some X.env.locals) (hN : X.N.Nodup) (hi : X.N[i]? = some n) (hln : X.env.kindOf n = some .local) (hc : Names X x c) (tk : Takes X Wout)
    (hb : ∀ (W : WX) (pn : List (Addr × Obj)) (xe : Value → Shared → Prop), Takes (X.tr pn xe) W → PassesOwn (model X.prog X.w) X.A X.env xe → PSs (X.tr pn xe) body (tb W))
    (hsu : ∀ (a : Addr) (oe : Obj) (cls : Value) (d : Option Addr) (pn : List (Addr × Obj)), Zc cls d oe → (∃ vs, oe.data = .fields vs) → PSs (X.suite a ((a, oe) :: pn)) (b₀ :: suite) (ts a cls d)) :
    ∀ (pins : List (Addr × Obj)) (s : Shared) (σ : L2.St) (H : Hp) (D : Ends), Inv X pins σ H s → tb (wAsK X.K c i ts tkp Wout D) { D with nx := tr D } σ H →
      wpAny (model X.prog X.w) X.A (exec (.Try body [.ExceptHandler (some (.Name x np)) (some n) (b₀ :: suite) pos'] [] [] pos) X.env) (MidK X pins D tr tkp) X.xe s := by
  intro pins s σ H D I h
  have ok := I.ok
  have hfr : X.A.frames = some (X.env :: X.outer) := by rw [ok.frames, hs]
  have hloc : Loc X.env.scope n := .inl hln
  refine wpAny_Try_except ?_
  refine wpAny_mono ((hb (wAsK X.K c i ts tkp Wout D) (X.pn ++ pins) (fun e s₁ => wpAny (model X.prog X.w) X.A (noteFrame e X.env) (fun _ s₂ => wpAny (model X.prog X.w) X.A (setFlight e none) (fun _ s₃ =>
    wpAny (model X.prog X.w) X.A (handleBy e X.env [.ExceptHandler (some (.Name x np)) (some n) (b₀ :: suite) pos']) (MidK X pins D tr tkp) X.xe s₃) X.xe s₂) X.xe s₁) (fun u s' xx => ?_) PassesOwn.looking).run [] s σ H { D with nx := tr D } (I.toTry _) h) (fun f s1 hsp => ?_) (fun e s1 he => he)
  · -- the catch
    obtain ⟨a, B, sI, pins', σ', H', cls, d, rfl, J', nb, up, sky, na, os, ag, b, hb1, hyes, hno⟩ := xx
    have J : Inv X pins σ' H' sI := J'.ofTry ok
    have sky' : Sky B (X.env :: X.outer) a (Zc cls d) X.env.locals s'.heap := by rw [← hs]; exact sky
    show wpAny (model X.prog X.w) X.A (noteFrame (.ref a) X.env) _ _ _
    refine Sky.land Zc.steady hfr hf sky' fun h3 fl3 up3 => ?_
    have J3 : Inv X pins σ' H' { s' with heap := h3 } := J.landed nb fl3.1 (up.trans up3) os ag
    obtain ⟨oe3, vs3, he3, hz3, hd3⟩ := fl3.there
    have notFr : ∀ {h : Heap} {o : Obj} {vs : Array Value}, h.FunFrames B (X.env :: X.outer) → h.get? a = some o → o.data = .fields vs → a ∉ frs (X.env :: X.outer) := fun {h o vs} ff e dd hm => by
      obtain ⟨_, o', e', hnf⟩ := ff.mem hm
      rw [e] at e'; cases e'
      exact hnf _ dd
    have nfr := notFr fl3.2.2.1 he3 hd3
    have nL : a ≠ X.env.locals := fun z => nfr (List.mem_filterMap.mpr ⟨X.env, List.mem_cons_self, by rw [hf, z]⟩)
    have nF : a ∉ X.fs := fun hm => by
      obtain ⟨e, he, q⟩ := List.mem_filterMap.mp hm
      exact nfr (List.mem_filterMap.mpr ⟨e, List.mem_cons_of_mem _ he, q⟩)
    have S3 := J3.suite he3 hd3 na nL nF
    refine wpAny_handleBy_cons (codeAny_handlers_test ?_) (by intro q; cases q)
    have LT : PySem.W.Looks (model X.prog X.w) h3 (typeOf (.ref a)) cls := fun A Q E s k q => wpAny_typeOf_ref (k _ _ he3) (by rw [hz3.1]; exact q)
    have LM := PySem.W.exm_one (M := model X.prog X.w) (J3.kIn) LT hb1
    have test : ∀ {Q : Value → Shared → Prop} {E : Value → Shared → Prop}, Q c { s' with heap := h3 } → wpAny (model X.prog X.w) (X.A.mark (some (.ref a))) (eval (.Name x np) X.env) Q E { s' with heap := h3 } := fun {Q E} q => by
      obtain ⟨hg, hdbg, hm | ⟨hm, hv, hnn⟩⟩ := hc
      · exact ld_glob (X := X.suite a ((a, oe3) :: (X.pn ++ pins))) S3 hg hm q hdbg
      · exact ld_blt (X := X.suite a ((a, oe3) :: (X.pn ++ pins))) S3 hg hm hv q hnn hdbg
    refine test (LM.here ?_)
    cases b with
    | true =>
      refine codeAny_handlers_suite_as ?_
      refine HandSPX.lands_againZ fl3 fun h4 fl4 up4 => ?_
      have J4 : Inv X pins σ' H' { s' with heap := h4 } := J.landed nb fl4.1 ((up.trans up3).trans up4) os ag
      obtain ⟨oe4, vs4, he4, hz4, hd4⟩ := fl4.there
      have S4 := J4.suite he4 hd4 na nL nF
      refine store_ok (X := X.suite a ((a, oe4) :: (X.pn ++ pins))) (v := .ref a) S4 hN hi hloc rfl (fun s5 S5 => ?_) (.inr hln)
      refine wpAny_mono ((hsu a oe4 cls d (X.pn ++ pins) hz4 ⟨_, hd4⟩).run [] s5 _ H' _ S5 (hyes rfl a na)) (fun f s6 hsp => ?_) (fun _ _ z => False.elim z)
      have end_ : ∀ {σ6 : L2.St} {H6 : Hp} {Q : Shared → Prop}, Inv (X.suite a ((a, oe4) :: (X.pn ++ pins))) [] σ6 H6 s6 → (∀ s7, Inv X ((a, oe4) :: pins) (σ6.set i none) H6 s7 → Q s7) →
          wpAny (model X.prog X.w) X.A (do bindName X.env n .none; unbindBehindTheSuite X.env n pos') (fun _ s7 => Q s7) X.xe s6 := fun {σ6 H6 Q} S6 hq => gone_ok (unsuiteK S6 ok) hN hi hln hq
      cases f with
      | next =>
        obtain ⟨σ6, H6, S6, q6⟩ := hsp
        exact end_ S6 fun s7 J7 => .inr ⟨rfl, _, _, cls, d, _, _, _, J7, hz4, hd4, q6⟩
      | brk =>
        obtain ⟨σ6, H6, S6, q6⟩ := hsp
        exact q6.elim
      | cont =>
        obtain ⟨σ6, H6, S6, q6⟩ := hsp
        exact q6.elim
      | ret u =>
        obtain ⟨v6, σ6, H6, S6, r6, q6⟩ := hsp
        exact q6.elim
    | false =>
      show wpAny _ X.A (handleBy (.ref a) X.env []) _ _ _
      refine wpAny_handleBy_nil ?_
      obtain ⟨k1, k2, k3, oe, vs, T, oT, ts', he, hz, hd, h1, hr⟩ := id fl3
      unfold PySem.passOn
      refine wpAny_bind (wpAny_field he hd h1 ?_)
      rw [if_neg (show ¬ ((Value.ref T == Value.none) = true) from by simp)]
      have fin : wpAny (model X.prog X.w) X.A (setFlight (.ref a) X.env.frame) (fun _ s4 => wpAny (model X.prog X.w) X.A (throw (.ref a) : Sem Flow) (MidK X pins D tr tkp) X.xe s4) X.xe { s' with heap := h3 } := by
        rw [hf]
        refine HandSPX.setFlight_upZ fl3 fun h4 hh4 up4 => wpAny_throw (tk _ _ ?_)
        exact ⟨a, B, sI, pins, σ', H', cls, d, rfl, J, nb, (up.trans up3).trans up4, .inr (.inr (by rw [hs]; exact hh4)), na, os, ag, hno rfl⟩
      first
        | exact wpAny_bind (wpAny_pure (wpAny_bind fin))
        | exact wpAny_bind fin
  · cases f with
    | next =>
      obtain ⟨σ', H', J', q⟩ := hsp
      exact wpAny_execs_nil (.inl ⟨σ', H', J'.ofTry ok, q⟩)
    | brk =>
      obtain ⟨σ', H', J', q⟩ := hsp
      exact .inl ⟨σ', H', J'.ofTry ok, q⟩
    | cont =>
      obtain ⟨σ', H', J', q⟩ := hsp
      exact .inl ⟨σ', H', J'.ofTry ok, q⟩
    | ret u =>
      obtain ⟨v, σ', H', J', r, q⟩ := hsp
      exact .inl ⟨v, σ', H', J'.ofTry ok, r, q⟩
theorem pss_tryKeep (hs : X.stack = X.env :: X.outer) (hf : X.env.frame = some X.env.locals) (hN : X.N.Nodup) (hi : X.N[i]? = some n) (hln : X.env.kindOf n = some .local) (hc : Names X x c) (tk : Takes X Wout)
    (hb : ∀ (W : WX) (pn : List (Addr × Obj)) (xe : Value → Shared → Prop), Takes (X.tr pn xe) W → PassesOwn (model X.prog X.w) X.A X.env xe → PSs (X.tr pn xe) body (tb W))
    (hsu : ∀ (a : Addr) (oe : Obj) (cls : Value) (d : Option Addr) (pn : List (Addr × Obj)), Zc cls d oe → (∃ vs, oe.data = .fields vs) → PSs (X.suite a ((a, oe) :: pn)) (b₀ :: suite) (ts a cls d))
    (hr : PSs X rest tr) (hk : ∀ (a : Addr) (oe : Obj) (cls : Value) (d : Option Addr), Zc cls d oe → (∃ vs, oe.data = .fields vs) → PSs (keepX X a oe) rest (tkp a cls d)) :
    PSs X (.Try body [.ExceptHandler (some (.Name x np)) (some n) (b₀ :: suite) pos'] [] [] pos :: rest) (fun D σ H => tb (wAsK X.K c i ts tkp Wout D) { D with nx := tr D } σ H) := by
  refine ⟨fun pins s σ H D I h => ?_⟩
  refine wpAny_execs_cons (thn (try_keep hs hf hN hi hln hc tk hb hsu pins s σ H D I h) fun f s1 q => ?_)
  rcases q with q | ⟨rfl, a, oe, cls, d, vs, σ', H', J, hz, hd, q⟩
  · cases f with
    | next =>
      obtain ⟨σ', H', I', q⟩ := q
      exact hr.run pins s1 σ' H' D I' q
    | ret v => exact q
    | brk => exact q
    | cont => exact q
  · refine wpAny_mono ((hk a oe cls d hz ⟨vs, hd⟩).run pins s1 σ' H' D (toKeep J) q) (fun f s2 z => ?_) fun _ _ z => z
    cases f with
    | next =>
      obtain ⟨σ2, H2, I2, z⟩ := z
      exact ⟨σ2, H2, ofKeep I2, z⟩
    | brk =>
      obtain ⟨σ2, H2, I2, z⟩ := z
      exact ⟨σ2, H2, ofKeep I2, z⟩
    | cont =>
      obtain ⟨σ2, H2, I2, z⟩ := z
      exact ⟨σ2, H2, ofKeep I2, z⟩
    | ret u =>
      obtain ⟨v, σ2, H2, I2, r, z⟩ := z
      exact ⟨v, σ2, H2, ofKeep I2, r, z⟩
end
end Hb
namespace Hb
open PySem PySem.Spec PyProof.Rows L2
theorem pe_never {X : Cx} {e : Expr} : PE X e (fun _ _ _ => False) := ⟨fun _ _ _ _ _ _ h => h.elim⟩
/-- what the error of a call is told as -/
def TWords (X : Cx) (CB : Addr) (k : Nat) (wd : Str) : (XK → Hp → VK → Prop) → Hp → VK → Prop := fun tl H Q =>
  tl (fun cls d H1 => PySem.W.exmOne X.K cls (.ref CB) = some true ∧ d = none ∧ ∃ Dc ws, cls = .ref Dc ∧ L2.ExcC X.K Dc ∧ WordsD X Dc ws k wd ∧ ∀ l H2, H1 l = none → Same H1 H2 → H2 l = some (.lst ws) → Q (.ref l) H2) H
    (fun _ H1 => ∀ l, H1 l = none → Q (.ref l) (upd H1 l (.lst [])))
section
variable {X : Cx} {a cv e y B wd : Str} {q : Str} {sg : Scope} {g CB : Addr} {cdg : Value} {k : Nat} {N : List Str} {p1 p2 p3 p4 p5 p6 p7 p8 p9 q0 q1 q2 q3 q4 q5 q6 q7 q8 q9 r1 r2 : Pos} {j0 j1 : Nat}
theorem WordsD.cong {X Z : Cx} (h1 : Z.prog = X.prog) (h2 : Z.w = X.w) (h3 : Z.K = X.K) (h4 : Z.mg = X.mg) (h5 : Z.base = X.base) {D : Addr} {ws : List V} {k : Nat} {x : Str} (W : WordsD X D ws k x) : WordsD Z D ws k x := by
  obtain ⟨W⟩ := W
  rw [← h1, ← h2, ← h3, ← h4, ← h5] at W
  exact ⟨W⟩
theorem told_words {scope : Scope} (hsc : sg = scope)
    (hB : sg.names.lookup B = some .globalImplicit) (hmB : X.mg B = some (.ref CB)) (hdB : (B == ("__debug__" : Str)) = false) (hwd : sg.names.lookup wd = some .globalImplicit) (hdw : (wd == ("__debug__" : Str)) = false)
    (hcv : sg.names.lookup cv = some .local) (he : sg.names.lookup e = some .local) (nd : [a, cv, e].Nodup)
    (dcv : (cv == ("__debug__" : Str)) = false) (ccv : (cv == ("__classdict__" : Str)) = false) (de : (e == ("__debug__" : Str)) = false) (ce : (e == ("__classdict__" : Str)) = false)
    (hr : ∀ s : Shared, Room (k + 1) (X.A.deeper (envOfC y sg s.heap.objs.size g cdg))) :
    LamX.GivesTo X [a, cv, e] y sg g cdg
      [.Assign [.Name cv p1] (.Constant .none j0 p2) p3,
       .Try [.Expr (.Call (.Name a p4) [] [] p5) p6] [.ExceptHandler (some (.Name B p7)) (some e) [.Assign [.Name cv p8] (.Name e p9) q0] q1] [] [] q2,
       .Return (some (.IfExp (.Compare (.Name cv q3) [.Is] [.Constant .none j1 q4] q5) (.List [] q6) (.Call (.Name wd q7) [.Name cv q8] [] q9) r1)) r2]
      a q (TWords X CB k wd) := by
  intro f c' s H Q tl act hco h
  have n1 : a ≠ cv := fun z => by simp [z] at nd
  have loc1 : Loc sg cv := .inl hcv
  have v1 : Vis sg cv := .inl hcv
  have v2 : Vis sg e := .inl he
  let Z := (cxOf C8.CX0 X.prog X.w X.K X.mg X.base [a, cv, e] y sg g cdg X.A X.stack s H C8.E0).nox
  have hgB : Gl Z B := hB
  have hgW : Gl Z wd := hwd
  let tr : TS := fun D σ H => σ[1]? = some (some .non) ∧ ∀ l, H l = none → D.rt (.ref l) (upd H l (.lst []))
  let tkp : Addr → Value → Option Addr → TS := fun ae cls d D σ H => σ[1]? = some (some (.ref ae)) ∧ ∃ Dc ws, cls = .ref Dc ∧ d = none ∧ L2.ExcC X.K Dc ∧ WordsD X Dc ws k wd ∧ ∀ l H2, H l = none → Same H H2 → H2 l = some (.lst ws) → D.rt (.ref l) H2
  let tb : WX → TS := fun W D σ H => ∃ Ech : XK, (∀ cls d σ' H', σ'.length = 3 → Ech cls d H' → W cls d σ' H') ∧ σ[0]? = some (some (.ref f)) ∧ H c' = some (LamX.CodeO c' q) ∧ tl Ech H fun _ H1 => D.nx σ H1
  have rest1 : PSs Z [.Return (some (.IfExp (.Compare (.Name cv q3) [.Is] [.Constant .none j1 q4] q5) (.List [] q6) (.Call (.Name wd q7) [.Name cv q8] [] q9) r1)) r2] tr :=
    pss_mono (pss_one (ps_ret (pe_ifExp (pt_cmp (pc_isN (pe_var (X := Z) (i := 1) rfl v1 dcv ccv))) (pe_lst pa_nil) pe_never))) fun D σ H ⟨h1, h2⟩ => ⟨.non, h1, true, rfl, Nat.zero_le _, h2⟩
  have hk : ∀ (ae : Addr) (oe : Obj) (cls : Value) (d : Option Addr), Zc cls d oe → (∃ vs, oe.data = .fields vs) → PSs (keepX Z ae oe) [.Return (some (.IfExp (.Compare (.Name cv q3) [.Is] [.Constant .none j1 q4] q5) (.List [] q6) (.Call (.Name wd q7) [.Name cv q8] [] q9) r1)) r2] (tkp ae cls d) := fun ae oe cls d hz hf => by
    refine ⟨fun pins s σ H D I hh => ?_⟩
    obtain ⟨h1, Dc, ws, rfl, rfl, C, Wd, h2⟩ := hh
    have Wz : WordsD Z Dc ws k wd := WordsD.cong (X := X) (Z := Z) rfl rfl rfl rfl rfl Wd
    exact (pss_one (ps_ret (pe_ifExp (pt_cmp (pc_isN (pe_var (X := keepX Z ae oe) (i := 1) rfl v1 dcv ccv))) pe_never (pe_words (X := Z) (i := 1) Wz C hz hf (hr _) hgW rfl v1 hdw dcv ccv)))).run pins s σ H D I ⟨.ref ae, h1, false, rfl, h1, h2⟩
  refine ⟨_, pss_cons (ps_set (X := Z) (i := 1) nd rfl loc1 pe_non) (pss_tryKeep (X := Z) (c := .ref CB) (Wout := fun _ _ _ _ => False) (i := 2) (tb := tb) (ts := fun _ _ _ => tAsg (tVar 2) (gName 1)) (tr := tr) (tkp := tkp) rfl rfl nd rfl he ⟨hgB, hdB, .inl hmB⟩ LamX.takes0 (fun W pn xe tk _ => ?_) (fun ae oe cls d pn _ _ => pss_one (ps_set (X := Z.suite ae ((ae, oe) :: pn)) (i := 1) nd rfl loc1 (pe_var (i := 2) rfl v2 de ce))) rest1 hk), ?_⟩
  · refine ⟨fun pins s' σ H D I h' => ?_⟩
    obtain ⟨Ech, hW, h1, h2, h3⟩ := h'
    have tk' : Takes (Z.tr pn xe) fun cls d σ H => σ.length = 3 → W cls d σ H := fun u s2 ⟨a0, B0, sI, pins0, σ0, H0, cls, d, e1, I0, nb, up, sky, na, os, ag, w⟩ => tk u s2 ⟨a0, B0, sI, pins0, σ0, H0, cls, d, e1, I0, nb, up, sky, na, os, ag, w I0.len⟩
    have hp := act (fun cls d σ H => σ.length = 3 → W cls d σ H) pn xe Ech p4 p5 tk' fun cls d σ' H' hE hl => hW cls d σ' H' hl hE
    exact (pss_one (ps_expr (pos := p6) hp)).run pins s' σ H D I ⟨h1, h2, h3⟩
  · show tb _ _ _ H
    refine ⟨fun cls d H1 => PySem.W.exmOne X.K cls (.ref CB) = some true ∧ d = none ∧ ∃ Dc ws, cls = .ref Dc ∧ L2.ExcC X.K Dc ∧ WordsD X Dc ws k wd ∧ ∀ l H2, H1 l = none → Same H1 H2 → H2 l = some (.lst ws) → Q (.ref l) H2, fun cls d σ' H1 hl hE => ?_, rfl, hco, ?_⟩
    · obtain ⟨hx, hd, Dc, ws, hcl, C, Wd, hq⟩ := hE
      refine ⟨true, hx, fun _ ae hn => ?_, fun z => nomatch z⟩
      refine ⟨.ref ae, by rw [List.getElem?_set_self (by omega)], ?_, Dc, ws, hcl, hd, C, Wd, hq⟩
      rw [List.getElem?_set_ne (by omega), List.getElem?_set_self (by rw [List.length_set]; omega)]
    · have e0 : (fun (_ : V) H1 => tr { nx := fun _ H' => Q .non H', rt := Q } (List.set (L2.start [a, cv, e] [V.ref f]) 1 (some V.non)) H1) = fun _ H1 => ∀ l, H1 l = none → Q (.ref l) (upd H1 l (.lst [])) := by
        funext _ H1
        exact propext ⟨fun z => z.2, fun z => ⟨rfl, z⟩⟩
      show tl _ H (fun (_ : V) H1 => tr { nx := fun _ H' => Q .non H', rt := Q } (List.set (L2.start [a, cv, e] [V.ref f]) 1 (some V.non)) H1)
      rw [e0]
      exact h
end
end Hb
namespace Hb
open PySem PySem.Spec PyProof.Rows L2
def ExtP (P : Addr) (H H' : Hp) : Prop := ∀ b o, b ≠ P → H b = some o → H' b = some o
section
variable {X : Cx} {pins : List (Addr × Obj)} {σ : L2.St} {H : Hp} {s : Shared}
/-- the lambda is made: its code object is new, or found in the table -/
theorem lam_makeP {T : List (Addr × Str)} {c P : Addr} {params : Arguments} {body : Expr} {scope : Scope} {pos : Pos} {E : Value → Shared → Prop} {Q : Value → Shared → Prop} (I : Inv X pins σ H s) (TB : LamX.TabB X.base X.mg c P) (hcode : X.env.code = .ref c)
    (hm : (P, X.env.qual ++ "<lambda>") ∈ T) (hu : ∀ p ∈ T, p.1 = P → p.2 = X.env.qual ++ "<lambda>") (hT : LamX.Tabs T H) (hdef : defaultsOf params X.env = ([], [])) (hfree : ∀ y ∈ scope.names, y.2 = .free → ∃ c, X.env.cells.lookup y.1 = some c)
    (h : ∀ (f c' : Addr) (pm ctv : Value) (H1 : Hp) (s' : Shared), Inv X pins σ H1 s' → ExtP P H H1 → LamX.Tabs T H1 →
      s'.heap.get? f = some (PySem.W.kla_obj "<lambda>" (X.env.qual ++ "<lambda>") params body scope (cloFrom X.env.cells scope.names []) pm c' ctv) → H1 f = none → f ∉ frs X.stack → H1 c' = some (LamX.CodeO c' (X.env.qual ++ "<lambda>")) → Q (.ref f) s') :
    wpAny (model X.prog X.w) X.A (eval (.Lambda params body scope pos) X.env) Q E s := by
  obtain ⟨ps, hP, ht, ha⟩ := hT _ hm
  refine PySem.W.kla_eval hdef ?_
  have bP : s.heap.BuiltinsAt X.mg P := TB.bm.keeps I.bk
  have hP' : s.heap.get? P = some { cls := .none, data := .fields ps } := I.hok P _ hP
  have nofr : ∀ f, s.heap.objs.size ≤ f → f ∉ frs X.stack := fun f hf z => by
    rcases List.mem_cons.mp (I.stkSub _ z) with e | e
    · have h1 := I.lt
      rw [← e] at h1
      exact Nat.lt_irrefl _ (Nat.lt_of_lt_of_le h1 hf)
    · exact I.nofs hf e
  cases hc : codeAmong pos ps.toList with
  | none =>
    refine PySem.W.kla_makeFunction (mg := X.mg) (c := c) (P := P) (ps := ps) (closure_ok hfree) I.ok.glob (I.mod.glob.keeps I.bk) hcode (TB.code.keeps I.bk) hP' ht hc TB.gP bP fun c' ctv h' tk hx hge hlt hrec htb => ?_
    obtain ⟨c2, oc, vs, t, e2, hoc, hd, hv⟩ := hrec
    cases e2
    have hsz : s.heap.objs.size ≤ h'.objs.size := Nat.le_trans hge (Nat.le_of_lt hlt)
    have nC : H c' = none := I.hok.fresh hge
    have I1 := LamX.inv_table (t' := tk) (more := #[rawInt pos.line, rawInt pos.col, .ref c']) (h' := h'.push (PySem.W.kla_obj "<lambda>" (X.env.qual ++ "<lambda>") params body scope (cloFrom X.env.cells scope.names []) ((X.mg "__name__").getD .none) c' ctv)) I hP
      (fun b o hb e => Heap.get?_push_of_some _ (hx b o hb e)) (Heap.get?_push_of_some _ htb) hge ⟨oc, vs, t, Heap.get?_push_of_some _ hoc, hd, hv⟩
    have hE : ExtP P H (upd (upd H P (.tbl (ps ++ #[rawInt pos.line, rawInt pos.col, .ref c']))) c' (LamX.CodeO c' (X.env.qual ++ "<lambda>"))) := fun b o nb e => by
      rw [upd_ne (ne_of_none e nC), upd_ne nb]
      exact e
    have hcp : ∀ {c0 : Addr} {q : Str}, H c0 = some (LamX.CodeO c0 q) → c0 ≠ P := fun {c0 q} e z => by
      rw [z, hP] at e
      cases e
    have eL : (ps ++ #[rawInt pos.line, rawInt pos.col, .ref c']).toList = ps.toList ++ [rawInt pos.line, rawInt pos.col, .ref c'] := by simp
    refine h h'.objs.size c' ((X.mg "__name__").getD .none) ctv _ _ I1 hE (fun p hp => ?_) (Heap.get?_push_size _ rfl) ?_ (nofr _ hsz) upd_same
    · by_cases hb : p.1 = P
      · rw [hu p hp hb, hb]
        refine ⟨_, by rw [upd_ne (ne_of_none hP nC), upd_same], by rw [eL]; exact PySem.TriplesOk_snoc _ _ _ _ ht, fun p' cv hcv => ?_⟩
        rw [eL] at hcv
        rcases LamX.among_app _ ht hcv with z | z
        · obtain ⟨c0, e1, e2⟩ := ha p' cv z
          exact ⟨c0, e1, hE _ _ (hcp e2) e2⟩
        · exact ⟨c', z, upd_same⟩
      · obtain ⟨ps', a1, a2, a3⟩ := hT p hp
        refine ⟨ps', by rw [upd_ne (ne_of_none a1 nC), upd_ne hb]; exact a1, a2, fun p' cv hcv => ?_⟩
        obtain ⟨c0, e1, e2⟩ := a3 p' cv hcv
        exact ⟨c0, e1, hE _ _ (hcp e2) e2⟩
    · have n1 : h'.objs.size ≠ c' := Nat.ne_of_gt hlt
      have n2 : h'.objs.size ≠ P := Nat.ne_of_gt (Nat.lt_of_lt_of_le (Heap.lt_size hP') hsz)
      rw [upd_ne n1, upd_ne n2]
      exact I.hok.fresh hsz
  | some cv =>
    obtain ⟨c', e, hco⟩ := ha pos cv hc
    subst e
    refine PySem.W.kla_makeFunctionHit (mg := X.mg) (c := c) (P := P) (ps := ps) (closure_ok hfree) I.ok.glob (I.mod.glob.keeps I.bk) hcode (TB.code.keeps I.bk) hP' ht hc bP fun ctv h' tk hx hsz => ?_
    have I1 : Inv X pins σ H { s with heap := h'.push (PySem.W.kla_obj "<lambda>" (X.env.qual ++ "<lambda>") params body scope (cloFrom X.env.cells scope.names []) ((X.mg "__name__").getD .none) c' ctv), toks := tk } := I.kept fun b o e => Heap.get?_push_of_some _ (hx b o e)
    exact h h'.objs.size c' ((X.mg "__name__").getD .none) ctv H _ I1 (fun _ _ _ e => e) hT (Heap.get?_push_size _ rfl) (I.hok.fresh hsz) (nofr _ hsz) hco
end
section
variable {X : Cx} {pins : List (Addr × Obj)} {σ : L2.St} {H HZ : Hp} {s s1 : Shared}
/-- x(), in the def that got the lambda: Z is that def's context, entered at s -/
theorem pe_actG {CXg : CXT} {Eg : XK} {Ng : List Str} {qg : Str} {sg : Scope} {g f c' : Addr} {cdg pm ctv : Value} {params : Arguments} {body : Expr} {scope : Scope} {k i : Nat} {a : Str} {pn : List (Addr × Obj)} {xe : Value → Shared → Prop} {W : WX} {E : XK} {tb : TE} {p1 p2 : Pos}
    (I : Inv X pins σ H s) (L : LamX.LamS X.env.scope scope) (hf : s.heap.get? f = some (PySem.W.kla_obj "<lambda>" (X.env.qual ++ "<lambda>") params body scope (cloFrom X.env.cells scope.names []) pm c' ctv)) (hfn : H f = none) (hfr : f ∉ frs X.stack)
    (hbind : bindArgs (PySem.W.kla_fn "<lambda>" (X.env.qual ++ "<lambda>") params body scope (cloFrom X.env.cells scope.names []) pm (.ref c') ctv) ⟨[], []⟩ = pure [])
    (tk : Takes ((cxOf CXg X.prog X.w X.K X.mg X.base Ng qg sg g cdg X.A X.stack s H Eg).tr pn xe) W) (hW : ∀ cls d σ' H', E cls d H' → W cls d σ' H') (hr : Room (k + 1) (X.A.deeper (envOfC qg sg s.heap.objs.size g cdg)))
    (hbody : ∀ (A : Around) (outer : List Env) (s : Shared) (H : Hp), A.guards = X.A.guards → Room k (A.deeper (LamX.lamEnv X scope s.heap.objs.size f c')) → PE (LamX.lamCx X A outer s H E scope f c') body tb)
    (hN : Ng[i]? = some a) (hv : Vis sg a) (hd : (a == ("__debug__" : Str)) = false := by decide) (hcd : (a == ("__classdict__" : Str)) = false := by decide) :
    PE ((cxOf CXg X.prog X.w X.K X.mg X.base Ng qg sg g cdg X.A X.stack s H Eg).tr pn xe) (.Call (.Name a p1) [] [] p2)
      (fun σZ HZ Q => σZ[i]? = some (some (.ref f)) ∧ HZ c' = some (LamX.CodeO c' (X.env.qual ++ "<lambda>")) ∧ tb σ HZ Q) := by
  refine ⟨fun pinsZ sZ σZ HZ Q IZ h => ?_⟩
  obtain ⟨hs, hc, ht⟩ := h
  refine wpAny_Call_Name_kw (thn ((pe_var (pos := p1) (i := i) hN hv hd hcd).run pinsZ sZ σZ HZ (fun v H1 => v = .ref f ∧ H1 = HZ) IZ ⟨.ref f, hs, rfl, rfl⟩) fun u s1 ⟨v, H1, I1, r1, q1⟩ => ?_)
  obtain ⟨ev, eH⟩ := q1
  subst ev
  rw [eH] at I1
  obtain rfl : u = Value.ref f := r1
  have of1 : s1.heap.get? f = some (PySem.W.kla_obj "<lambda>" (X.env.qual ++ "<lambda>") params body scope (cloFrom X.env.cells scope.names []) pm c' ctv) := I1.base.keep f _ hf hfn hfr (fun z => nomatch (show f ∈ ([] : List Addr) from z))
  refine PySem.W.callWith_F0 ⟨_, _, _, _, of1⟩ ?_
  have un : Un (frs X.stack) [] H HZ s.heap s1.heap := I1.base
  obtain ⟨⟨oc, vs, t, hoc, hdc, hvc⟩, _, _⟩ := I1.hok c' _ hc
  have rc : codeAny (model X.prog X.w) (X.A.deeper (envOfC qg sg s.heap.objs.size g cdg)) (.call (.ref f) ⟨[], []⟩) (CR (L2.CX X.prog X.w) (envOfC qg sg s.heap.objs.size g cdg :: X.stack) X.prog X.w HZ s1 Q E) s1 := by
    refine PySem.W.kla_callFunE hr.depth of1 rfl L.co L.gen rfl ⟨c', oc, vs, t, rfl, hoc, hdc, hvc⟩ ?_
    rw [hbind]
    refine wpAny_pure (wpAny_newFunctionEnv (fun y hy => (L.own y hy).2) (fun y hy => absurd hy (by simp)) (fun h₁ hns hsb => ⟨I1.nolimit.fresh _ hsb, ?_⟩) L.kind)
    show codeAny _ _ (.expr body (LamX.lamEnv X scope s1.heap.objs.size f c')) _ _
    have kp : ∀ b o, s1.heap.get? b = some o → h₁.get? b = some o := fun b o e => hsb.extBut b o (Nat.ne_of_lt (Heap.lt_size e)) (Heap.get?_push_of_some _ e)
    have J : Inv (LamX.lamCx X (X.A.deeper (envOfC qg sg s.heap.objs.size g cdg)) (envOfC qg sg s.heap.objs.size g cdg :: X.stack) s1 HZ E scope f c') [] σ HZ { s1 with heap := h₁, toks := s1.toks + ([] : List (Str × Value)).length } :=
      LamX.lam_start2 I L I1.env0 hr.hd un hns kp
    refine PySem.W.kla_codeExpr (wpAny_mono ((hbody (X.A.deeper (envOfC qg sg s.heap.objs.size g cdg)) _ s1 HZ rfl (hr.deeper _)).run [] _ _ HZ Q J ht) (fun v s' hq => ?_) fun e s' hq => hq)
    obtain ⟨w', H', J', rv, q⟩ := hq
    exact ⟨w', H', J'.os, J'.bare, J'.base, J'.hok, rv, q⟩
  have hx : Passes (L2.CX X.prog X.w) ((cxOf CXg X.prog X.w X.K X.mg X.base Ng qg sg g cdg X.A X.stack s H Eg).tr pn xe) E := passes_call tk hW
  refine wpAny_call (codeAny_mono rc fun r s' hq => ?_)
  cases r with
  | error e => exact hx pinsZ σZ HZ s1 e s' I1 hq
  | ok fl =>
    cases fl with
    | ret u => exact I1.after hq
    | next => exact False.elim hq
    | brk => exact False.elim hq
    | cont => exact False.elim hq
end
def tLamP (P : Addr) (T : List (Addr × Str)) (TT : (XK → Hp → VK → Prop) → Hp → VK → Prop) (t : XK → TE) : TE := fun σ H Q => LamX.Tabs T H ∧ ∀ H1, ExtP P H H1 → LamX.Tabs T H1 → TT (fun E H' Q' => t E σ H' Q') H1 Q
section
variable {X : Cx}
/-- x(lambda: body) -/
theorem pe_lamcallP {T : List (Addr × Str)} {TT : (XK → Hp → VK → Prop) → Hp → VK → Prop} {x a : Str} {g c P : Addr} {k : Nat} {pg : Arguments} {bg : List Stmt} {sg : Scope} {dV kV doc pm cdv ct oc : Value} {an od : Option Addr} {osl : Array (Option Value)} {Ng : List Str}
    {params : Arguments} {body : Expr} {scope : Scope} {t : XK → TE} {p lpos pos : Pos} (hg : Gl X x) (hm : X.mg x = some (.ref g)) (hk : PySem.W.keepIn X.K (.ref g) = true)
    (lk : X.K.lookup g = some ⟨oc, od, .func (PySem.W.fnOf x x pg bg sg dV kV doc pm an cdv ct), osl⟩) (hcg : PySem.W.codeIn X.K cdv x = true) (hb : L2.Binds X.K (PySem.W.fnOf x x pg bg sg dV kV doc pm an cdv ct) [a] []) (Sg : FnScope Ng [a] sg) (hNg : Ng[0]? = some a) (hva : Vis sg a)
    (hG : LamX.GivesTo X Ng x sg g cdv bg a (X.env.qual ++ "<lambda>") TT)
    (TB : LamX.TabB X.base X.mg c P) (hcode : X.env.code = .ref c) (hmT : (P, X.env.qual ++ "<lambda>") ∈ T) (hu : ∀ p ∈ T, p.1 = P → p.2 = X.env.qual ++ "<lambda>") (hr : Room (k + 2) X.A) (L : LamX.LamS X.env.scope scope) (hdef : defaultsOf params X.env = ([], []))
    (hbind : ∀ (q : Str) (cl : List (Str × Addr)) (pm cv ctv : Value), bindArgs (PySem.W.kla_fn "<lambda>" q params body scope cl pm cv ctv) ⟨[], []⟩ = pure [])
    (hbody : ∀ (A : Around) (outer : List Env) (s : Shared) (H : Hp) (E : XK) (f c' : Addr), A.guards = X.A.guards → Room k (A.deeper (LamX.lamEnv X scope s.heap.objs.size f c')) → PE (LamX.lamCx X A outer s H E scope f c') body (t E))
    (hdb : (x == ("__debug__" : Str)) = false := by decide) (hd : (a == ("__debug__" : Str)) = false := by decide) (hcd : (a == ("__classdict__" : Str)) = false := by decide) :
    PE X (.Call (.Name x p) [.Lambda params body scope lpos] [] pos) (tLamP P T TT t) := by
  refine ⟨fun pins s σ H Q I h => ?_⟩
  obtain ⟨hT, h⟩ := h
  refine wpAny_Call_Name_kw (ld_glob I hg hm ?_ hdb)
  refine PySem.W.callWith_K (h₀ := X.base) I.ok.mod.kin hk ?_ (by rfl) (by rfl)
  show wpAny _ _ (spliced ((false, eval (.Lambda params body scope lpos) X.env) :: backTo pos (starEach [] X.env))) _ _ s
  refine Calls.spliced_cons (lam_makeP I TB hcode hmT hu hT hdef (L.has I.ok) fun f c' pm' ctv H1 s' I1 eN T1 hf hfn hfr hco => ?_)
  refine Calls.spliced_nil ⟨I1.kIn, ?_⟩
  have rc : codeAny (model X.prog X.w) X.A (.call (.ref g) ⟨[.ref f], []⟩) (CR C8.CX0 X.stack X.prog X.w H1 s' Q C8.E0) s' := by
    refine LamX.run_ofS (N := Ng) (ps := [a]) (us := [.ref f]) (vs := [.ref f]) lk hcg Sg hr I1.env0 (hb s' [.ref f] I1.kIn rfl) (.cons rfl .nil) rfl fun hr' => ?_
    obtain ⟨t', ht', hq'⟩ := hG f c' s' H1 Q (fun E H' Q' => t E σ H' Q') (fun W pn xe E p1 p2 tk hW => pe_actG (i := 0) I1 L hf hfn hfr (hbind _ _ _ _ _) tk hW hr' (fun A outer s H hg2 hr2 => hbody A outer s H E f c' hg2 hr2) hNg hva hd hcd) hco (h H1 eN T1)
    exact ⟨t', ht'.nox, hq'⟩
  refine wpAny_call (codeAny_mono rc fun r s2 hq => ?_)
  cases r with
  | error e => exact (show False from hq).elim
  | ok fl =>
    cases fl with
    | ret u => exact I1.after hq
    | next => exact False.elim hq
    | brk => exact False.elim hq
    | cont => exact False.elim hq
end
end Hb
namespace Hb
open PySem PySem.Spec PyProof.Rows L2
section
variable {K : PySem.W.Frag} {b : Bk} {Fz : Hp} {F : Nat → List Addr} {δ : List Sl} {σ : L2.St} {H : Hp}
theorem Rl.growP (R : Rl K b Fz F δ σ H) {P : Addr} {q : Str} {H' : Hp} (hP : (P, q) ∈ b.T) (s : ExtP P H H') (t : LamX.Tabs b.T H') : Rl K b Fz F δ σ H' := by
  obtain ⟨⟨ps, p1, _⟩, p2, p3⟩ := R.tb _ hP
  have nz : ∀ a, Fz a ≠ none → a ≠ P := fun a h z => h (by rw [z]; exact p2)
  have nb : ∀ a, b.B a ≠ none → a ≠ P := fun a h z => h (by rw [z]; exact p3)
  have no : ∀ i a, a ∈ F i → a ≠ P := fun i a h z => by
    have := (R.noT i a h).2.1 ps
    rw [z] at this
    exact this p1
  have eq : ∀ i a, a ∈ F i → H' a = H a := fun i a h => by
    cases q : H a with
    | none => exact absurd q (R.on i a h)
    | some o => exact s a o (no i a h) q
  exact
  { le := fun a o e => s a o (nz a (by rw [e]; simp)) (R.le a o e)
    base := fun a o e => s a o (nb a (by rw [e]; simp)) (R.base a o e)
    len := R.len
    slot := fun i s' e => (R.slot i s' e).keeps (Same.refl _) (eq i) fun x j ej a ha => by
      subst ej
      obtain ⟨xs, hx⟩ := R.als i x j e
      obtain ⟨l, vs, g, e1, e2, _⟩ := R.slot x _ hx
      rw [ha] at e1
      cases e1
      exact eq x a (by rw [e2]; exact List.mem_cons_self)
    nd := R.nd
    dj := R.dj
    offF := R.offF
    offB := R.offB
    on := fun i a h => by rw [eq i a h]; exact R.on i a h
    keep := R.keep
    f0 := R.f0
    pin := R.pin
    als := R.als
    noT := fun i a h => by rw [eq i a h]; exact R.noT i a h
    tb := fun p hp => ⟨t p hp, (R.tb p hp).2⟩
    tp := R.tp }
end
/-- what is read while all stands still, its value forgotten -/
def PostD (K : PySem.W.Frag) (mg : Str → Option Value) (W : WX) (b : Bk) (Fz : Hp) (σ : L2.St) (Q : VK) : Rs Unit → Prop
  | .ok _ δ => ∀ v H' Fz' F', Same Fz Fz' → Rl K b Fz' F' δ σ H' → Q v H'
  | .er x δ => PostX K mg W b Fz σ x δ
  | .bad => False
def rdEd (K : PySem.W.Frag) (mg : Str → Option Value) (W : WX) (pin : List Nat) (f : List Sl → Rs Unit) : TE := fun σ H Q => ∃ b Fz F δ, b.pin = pin ∧ Rl K b Fz F δ σ H ∧ PostD K mg W b Fz σ Q (f δ)
/-- the words of the error that f lets out, none if it lets out none -/
def sTold (tw : Exn → Option (List Str)) (f : List Sl → Rs Unit) : List Sl → Rs AV := fun δ => match f δ with
  | .ok _ δ' => .ok (.tmp (.ol [])) δ'
  | .er x δ' => (match tw x with
    | some ws => .ok (.tmp (.ol ((ws.map PyData.str).map .fz))) δ'
    | none => .bad)
  | .bad => .bad
/-- which words are told of an error -/
def TwOk (X : Cx) (CB : Addr) (k : Nat) (wd : Str) (tw : Exn → Option (List Str)) : Prop := ∀ xn ws, tw xn = some ws → xn.arg = none ∧ ∀ Dc, X.mg xn.cls = some (.ref Dc) → PySem.W.exmOne X.K (.ref Dc) (.ref CB) = some true ∧ L2.ExcC X.K Dc ∧ WordsD X Dc (ws.map V.str) k wd
theorem rpl_strs {K : PySem.W.Frag} {H : Hp} : ∀ ws : List Str, RpL K H (ws.map V.str) (ws.map PyData.str)
  | [] => .nil
  | w :: r => .cons (.str w) (rpl_strs r)
theorem told_rd {X : Cx} {W : WX} {pin : List Nat} {tw : Exn → Option (List Str)} {f : List Sl → Rs Unit} {CB P : Addr} {k : Nat} {wd : Str} (hT : mkT ∈ pin) (hP : (P, ("_law_raised.<locals>.<lambda>" : Str)) ∈ TK X.K) (ht : TwOk X CB k wd tw) : ∀ σ H Q, rdE X.K X.mg W pin (sTold tw f) σ H Q →
    tLamP P (TK X.K) (TWords X CB k wd) (fun E => rdEd X.K X.mg (fun cls d _ H => E cls d H) pin f) σ H Q := fun σ H Q ⟨b, Fz, F, δ, hp, R, P0⟩ => by
  have eT : b.T = TK X.K := R.tp (by rw [hp]; exact hT)
  refine ⟨fun p h => (R.tb p (by rw [eT]; exact h)).1, fun H1 e1 t1 => ?_⟩
  have R1 := R.growP (by rw [eT]; exact hP) e1 (by rw [eT]; exact t1)
  refine ⟨b, Fz, F, δ, hp, R1, ?_⟩
  unfold sTold at P0
  cases q : f δ with
  | bad => rw [q] at P0; exact P0
  | ok a δ' =>
    rw [q] at P0
    intro v H' Fz' F' s R' l hl
    exact post_newL (vs := []) (ds := []) R' .nil (P0.le s) l hl
  | er x δ' =>
    rw [q] at P0
    cases q2 : tw x with
    | none => simp only [q2] at P0; exact P0.elim
    | some ws =>
      simp only [q2] at P0
      intro c dd H' Fz' F' s R' ex
      obtain ⟨hn, h2⟩ := ht x ws q2
      obtain ⟨⟨C, hC, rfl⟩, hd⟩ := ex
      rw [hn] at hd
      obtain ⟨h3, h4, h5⟩ := h2 C hC
      refine ⟨h3, hd, C, _, rfl, h4, h5, fun l H2 hl s2 h6 => ?_⟩
      obtain ⟨n1, n2, n3⟩ := R'.offN hl
      refine P0 (.ref l) H2 Fz' F' s (R'.grow s2) ⟨rfl, [l], ⟨l, _, [], rfl, rfl, h6, ElL.ofFz (rpl_strs ws)⟩, by simp, fun a ha => ?_⟩
      rw [List.mem_singleton] at ha
      subst ha
      exact ⟨n1, n2, by rw [h6]; simp, n3⟩
/-- a def that calls what it gets and tells the words of the error -/
structure ToldD (X : Cx) (CB : Addr) (kw k : Nat) (wd x : Str) : Prop where
  ex : ∃ (g : Addr) (pg : Arguments) (bg : List Stmt) (sg : Scope) (dV kV doc pm cdv ct oc : Value) (an od : Option Addr) (osl : Array (Option Value)) (Ng : List Str) (a : Str),
    X.mg x = some (.ref g) ∧ PySem.W.keepIn X.K (.ref g) = true ∧ X.K.lookup g = some ⟨oc, od, .func (PySem.W.fnOf x x pg bg sg dV kV doc pm an cdv ct), osl⟩ ∧ PySem.W.codeIn X.K cdv x = true ∧
    L2.Binds X.K (PySem.W.fnOf x x pg bg sg dV kV doc pm an cdv ct) [a] [] ∧ FnScope Ng [a] sg ∧ Ng[0]? = some a ∧ Vis sg a ∧ (a == ("__debug__" : Str)) = false ∧ (a == ("__classdict__" : Str)) = false ∧
    ∀ q, LamX.GivesTo X Ng x sg g cdv bg a q (TWords X CB kw wd)
theorem se_told {X : Cx} {W : WX} {pin : List Nat} {tw : Exn → Option (List Str)} {f : List Sl → Rs Unit} {CB c P : Addr} {kw k : Nat} {wd x : Str} {params : Arguments} {body : Expr} {scope : Scope} {p lpos pos : Pos}
    (hT : mkT ∈ pin) (hP : (P, ("_law_raised.<locals>.<lambda>" : Str)) ∈ TK X.K) (hq : X.env.qual ++ "<lambda>" = ("_law_raised.<locals>.<lambda>" : Str)) (ht : TwOk X CB kw wd tw) (TD : ToldD X CB kw k wd x)
    (hg : Gl X x) (TB : LamX.TabB X.base X.mg c P) (hcode : X.env.code = .ref c) (hr : Room (k + 2) X.A) (L : LamX.LamS X.env.scope scope) (hdef : defaultsOf params X.env = ([], []))
    (hbind : ∀ (q : Str) (cl : List (Str × Addr)) (pm cv ctv : Value), bindArgs (PySem.W.kla_fn "<lambda>" q params body scope cl pm cv ctv) ⟨[], []⟩ = pure [])
    (hbody : ∀ (A : Around) (outer : List Env) (s : Shared) (H : Hp) (E : XK) (f' c' : Addr), A.guards = X.A.guards → Room k (A.deeper (LamX.lamEnv X scope s.heap.objs.size f' c')) → PE (LamX.lamCx X A outer s H E scope f' c') body (rdEd X.K X.mg (fun cls d _ H => E cls d H) pin f))
    (hdb : (x == ("__debug__" : Str)) = false := by decide) :
    SE X W pin (.Call (.Name x p) [.Lambda params body scope lpos] [] pos) (sTold tw f) := by
  obtain ⟨g, pg, bg, sg, dV, kV, doc, pm, cdv, ct, oc, an, od, osl, Ng, a, h1, h2, h3, h4, h5, h6, h7, h8, h9, h10, h11⟩ := TD.ex
  have one : ∀ p ∈ TK X.K, p.2 = X.env.qual ++ "<lambda>" := fun p hp => by
    rw [hq]
    rw [List.mem_singleton.mp hp]
  exact pe_mono (pe_lamcallP hg h1 h2 h3 h4 h5 h6 h7 h8 (h11 _) TB hcode (by rw [hq]; exact hP) (fun p hp _ => one p hp) hr L hdef hbind hbody hdb h9 h10) (told_rd hT hP ht)
/-- what is evaluated while all stands still, an error told without its value -/
def sBrwD (f : List Sl → Rs AV) : List Sl → Rs Unit := fun δ => match f (δ.map (frzS δ)) with
  | .ok _ _ => .ok () δ
  | .er x _ => if x.arg.isNone = true then .er x δ else .bad
  | .bad => .bad
theorem se_brwD {X : Cx} {W : WX} {pin : List Nat} {e : Expr} {f : List Sl → Rs AV} (h : SE X W (unm pin) e f) : PE X e (rdEd X.K X.mg W pin (sBrwD f)) := pe_mono h fun σ H Q ⟨b, Fz, F, δ, hp, R, P⟩ => by
  refine ⟨⟨H, H, unm b.pin, b.so, []⟩, H, fun _ => [], δ.map (frzS δ), by rw [← hp], R.still, ?_⟩
  unfold sBrwD at P
  cases q : f (δ.map (frzS δ)) with
  | bad => rw [q] at P; exact P.elim
  | er x δ' =>
    rw [q] at P
    simp only at P
    by_cases c : x.arg.isNone = true
    · rw [if_pos c] at P
      intro cc dd H' Fz' F' s1 R' ex
      have hs : Same H H' := s1.trans R'.le
      refine P cc dd H' Fz F (Same.refl _) (R.grow hs) ?_
      obtain ⟨h1, h2⟩ := ex
      refine ⟨h1, ?_⟩
      cases q2 : x.arg with
      | none => rw [q2] at h2; exact h2
      | some p => rw [q2] at c; cases c
    · rw [if_neg c] at P; exact P.elim
  | ok a δ' =>
    rw [q] at P
    intro v H' Fz' F' s1 R' A
    exact P v H' Fz F (Same.refl _) (R.grow (s1.trans R'.le))
theorem lam_pass {X : Cx} {A : Around} {outer : List Env} {s : Shared} {H : Hp} {E : XK} {scope : Scope} {f c : Addr} : ∀ σ, PassesAt (L2.CX X.prog X.w) (LamX.lamCx X A outer s H E scope f c) σ (WE (fun cls d _ H => E cls d H) σ) :=
  passAt (X := LamX.lamCx X A outer s H E scope f c) (W := fun cls d _ H => E cls d H) (takes_of rfl rfl rfl rfl)
end Hb
namespace Hb
open PySem PySem.Spec PyProof.Rows L2
theorem sp_lawT {K : PySem.W.Frag} {mg : Str → Option Value} {F : List Sl → FR} {H : Hp} {a : Addr} {ns : List Int} {δ : List Sl} (hP : ∀ p ∈ TK K, H p.1 = some (.tbl #[])) (hX : SqX K H a (ns.map V.int)) (h : F [.fz (.list (ns.map PyData.int))] = .ok (.fz (.bool true)) δ) :
    spT K mg 1 F [.ref a] H (fun v _ => v = .bl true) fun _ _ _ => False := by
  let G : Hp := fun c => if c ∈ (TK K).map (·.1) then none else H c
  have GH : Same G H := fun c o e => by
    have e : (if c ∈ (TK K).map (·.1) then none else H c) = some o := e
    by_cases q : c ∈ (TK K).map (·.1)
    · rw [if_pos q] at e; cases e
    · rw [if_neg q] at e; exact e
  have tt : ∀ c ∈ (TK K).map (·.1), H c = some (.tbl #[]) := fun c hc => by
    obtain ⟨p, hp, rfl⟩ := List.mem_map.mp hc
    exact hP p hp
  have hXG : SqX K G a (ns.map V.int) := by
    rcases hX with z | z
    · refine .inl ?_
      have na : a ∉ (TK K).map (·.1) := fun q => by
        have e := tt a q
        rcases z with z | ⟨o, z⟩ <;> (rw [e] at z; cases z)
      have e : G a = H a := if_neg na
      rcases z with z | ⟨o, z⟩
      · exact .inl (e.trans z)
      · exact .inr ⟨o, e.trans z⟩
    · exact .inr z
  have rL : ∀ ns : List Int, RpL K G (ns.map V.int) (ns.map PyData.int) := fun ns => by
    induction ns with
    | nil => exact .nil
    | cons n r ih => exact .cons (.int n) ih
  refine ⟨rfl, ⟨G, G, [], [], TK K⟩, G, fun _ => [], [.fz (.list (ns.map PyData.int))], rfl, ⟨GH, GH, rfl, fun i s e => ?_, fun _ => List.nodup_nil, fun _ _ _ z => (nomatch z), fun _ _ z => (nomatch z), fun _ _ z => (nomatch z), fun _ _ z => (nomatch z), fun _ _ => .inl rfl, fun _ h => h, fun _ z => (nomatch z), fun i x j e => ?_, fun _ _ z => (nomatch z), fun p hp => ⟨LamX.TabS.nil (hP p hp), if_pos (List.mem_map.mpr ⟨p, hp, rfl⟩), if_pos (List.mem_map.mpr ⟨p, hp, rfl⟩)⟩, fun z => (nomatch z)⟩, ?_⟩
  · cases i with
    | zero =>
      cases e
      exact ⟨rfl, _, rfl, .lst hXG (rL ns)⟩
    | succ i => cases e
  · cases i with
    | zero => cases e
    | succ i => cases e
  · rw [h]
    intro v H' Fz' F' s R A
    obtain ⟨_, g, ⟨_, v', e, r⟩, _⟩ := A
    cases e
    cases r
    rfl
/-- law_call with tables: cs, the code objects and their tables -/
theorem lawGT {P : Program} {w : World} {K : PySem.W.Frag} {mg mb : Str → Option Value} {k : Nat} {fa a : Addr} {cs : List (Addr × Addr)} {fd : FuncData} {x : Str} {sp : Sp} {s₁ : Shared} {vs : List Value} {ns : List Int}
    (KX : K.In s₁.heap) (hns : s₁.heap.Ns mainGlobals mg) (hb : s₁.heap.Ns builtinsNs mb) (hbb : ∀ x : Str, x ≠ "__name__" → mb x = bootBuiltins x) (hlim : s₁.heap.NoLimit) (hg : s₁.gens = #[])
    (hT : ∀ p ∈ cs, s₁.heap.get? p.2 = some { cls := .none, data := .fields #[] }) (nT : ∀ p ∈ cs, K.lookup p.2 = none) (C : ∀ p ∈ cs, PySem.W.CodeHd s₁.heap p.1 p.2)
    (hbm : ∃ (bm : Addr) (ob : Obj), mg "__builtins__" = some (.ref bm) ∧ bm ≠ builtinsNs ∧ s₁.heap.get? bm = some ob ∧ ob.cls = .type "module" ∧ ob.dict = some builtinsNs ∧ ob.data = .plain)
    (ha : s₁.heap.get? a = some { cls := .type "list", data := .seq vs.toArray }) (hi : IntsAre vs ns) (hl : ns.length ≤ sizeLine) (hr : Room k callerA)
    (F : ∀ base : Heap, K.In base → base.Ns mainGlobals mg → (∀ p ∈ cs, LamX.TabB base mg p.1 p.2) → FnG P w K mg base k fa fd [x] sp) (hbind : ∀ (s : Shared) (u : Value), BindsTo s fd ⟨[u], []⟩ [(x, u)])
    (hsp : ∀ H : Hp, (∀ p ∈ cs, H p.2 = some (.tbl #[])) → SqX K H a (ns.map V.int) → sp [.ref a] H (fun v _ => v = .bl true) fun _ _ _ => False) :
    codeAny (model P w) callerA (.call (.ref fa) ⟨[.ref a], []⟩) (fun r s' => r = .ok (.ret (.bool true)) ∧ OldK s₁.heap s'.heap ∧ s'.os = s₁.os ∧ AllBare s'.gens) s₁ := by
  have rv := vals_ints hi
  have lenV := hi.length
  have isT : ∀ b : Addr, b ∈ cs.map (·.2) → s₁.heap.get? b = some { cls := .none, data := .fields #[] } := fun b hb => by
    obtain ⟨p, hp, e⟩ := List.mem_map.mp hb
    rw [← e]
    exact hT p hp
  have aT : a ∉ cs.map (·.2) := fun z => by
    have q := isT a z
    rw [ha] at q
    have z' : Data.seq vs.toArray _ = Data.fields #[] := congrArg Obj.data (Option.some.inj q)
    cases z'
  have memT : ∀ p ∈ cs, p.2 ∈ cs.map (·.2) := fun p hp => List.mem_map.mpr ⟨p, hp, rfl⟩
  -- from an abstract heap in which nothing but the script and the tables may be tracked
  have core : ∀ H : Hp, (∀ p ∈ cs, H p.2 = some (.tbl #[])) → (∀ b, H b = none ∨ b ∈ cs.map (·.2) ∨ ∃ o xs, H b = some (.frz o (.lst xs))) → SqX K H a (ns.map V.int) → HOk P w H s₁.heap → (∀ b, H b ≠ none → b = a ∨ b ∈ cs.map (·.2)) → (H a ≠ none → K.lookup a = none) →
      codeAny (model P w) callerA (.call (.ref fa) ⟨[.ref a], []⟩) (fun r s' => r = .ok (.ret (.bool true)) ∧ OldK s₁.heap s'.heap ∧ s'.os = s₁.os ∧ AllBare s'.gens) s₁ := by
    intro H hH hO hS hok hA hK
    have base_of : ∀ {b : Addr} {o : Obj}, s₁.heap.get? b = some o → H b = none → (hidT s₁.heap H).get? b = some o := fun e n => hidT_get e n
    have noD : ∀ {b : Addr} {o : Obj}, s₁.heap.get? b = some o → (∀ vs n, o.data ≠ .seq vs n) → o.data ≠ .fields #[] → H b = none := fun {b o} e h1 h2 => by
      cases q : H b with
      | none => rfl
      | some u =>
        rcases hA b (by rw [q]; simp) with e' | e'
        · rw [e', ha] at e
          cases e
          exact (h1 _ _ rfl).elim
        · rw [isT b e'] at e
          cases e
          exact (h2 rfl).elim
    have noA : ∀ {b : Addr} {o : Obj} {es : Array DictEntry} {ep : Nat}, s₁.heap.get? b = some o → o.data = .dict es ep → H b = none := fun {b o es ep} e d => by
      refine noD e (fun vs n z => ?_) fun z => ?_
      · rw [d] at z
        cases z
      · rw [d] at z
        cases z
    have nsK : ∀ {b : Addr} {m : Str → Option Value}, s₁.heap.Ns b m → (hidT s₁.heap H).Ns b m := fun {b m} ⟨o, es, ep, e, d, r⟩ => ⟨o, es, ep, base_of e (noA e d), d, r⟩
    have hKb : K.In (hidT s₁.heap H) := fun b o e => base_of (KX b o e) (by
      cases q : H b with
      | none => rfl
      | some u =>
        rcases hA b (by rw [q]; simp) with e' | e'
        · rw [e'] at e q
          rw [hK (by rw [q]; simp)] at e
          cases e
        · obtain ⟨p, hp, ep⟩ := List.mem_map.mp e'
          rw [← ep, nT p hp] at e
          cases e)
    have hM : L2.Mod K mg (hidT s₁.heap H) := ⟨hKb, nsK hns, ⟨mb, nsK hb, hbb⟩, let ⟨mc, h1, h2⟩ := hlim; ⟨mc, nsK h1, h2⟩⟩
    have TB : ∀ p ∈ cs, LamX.TabB (hidT s₁.heap H) mg p.1 p.2 := fun p hp => by
      have hTp := hT p hp
      refine ⟨?_, ?_, fun z => ?_⟩
      · obtain ⟨o, us, file, tf, flags, tg, inF, text, tt, e1, r1, r2, r3, r4, r5, r6, r7, r8, hne⟩ := C p hp
        refine ⟨o, us, file, tf, flags, tg, inF, text, tt, base_of e1 (noD e1 (fun vs n z => ?_) fun z => ?_), r1, r2, r3, r4, r5, r6, r7, r8, hne⟩
        · rw [r2] at z
          cases z
        · rw [r2] at z
          cases z
          simp at r3
      · obtain ⟨bm, ob, b1, b2, b3, b4, b5, b6⟩ := hbm
        have nG : bm ≠ mainGlobals := fun q => by
          obtain ⟨o, es, ep, e, hd, _⟩ := hns
          rw [q, e] at b3
          cases b3
          rw [hd] at b6
          cases b6
        have nP : bm ≠ p.2 := fun q => by
          rw [q, hTp] at b3
          cases b3
          cases b6
        refine ⟨bm, ob, b1, b2, nG, nP, base_of b3 (noD b3 (fun vs n z => ?_) fun z => ?_), b4, b5, b6⟩
        · rw [b6] at z
          cases z
        · rw [b6] at z
          cases z
      · obtain ⟨o, es, ep, e, hd, _⟩ := hns
        rw [z, hTp] at e
        cases e
        cases hd
    have e0 : Env0 P w K mg (hidT s₁.heap H) callerA [] s₁ H := ⟨rfl, hM, fun b o e => of_hidT e, Nat.le_of_eq (hidT_size _ _), trivial, fun b hb => absurd (show b ∈ ([] : List Addr) from hb) (by simp), hok, .of_eq hg⟩
    refine codeAny_mono ((F _ hKb (nsK hns) TB).run callerA [] s₁ H ⟨[.ref a], []⟩ [.ref a] [.ref a] _ _ rfl hr e0 (hbind s₁ (.ref a)) (.cons rfl .nil) (hsp H hH hS)) fun r s' h => ?_
    cases r with
    | error e =>
      obtain ⟨_, _, _, _, _, _, _, _, _, _, _, _, z⟩ := h
      exact z.elim
    | ok fl =>
      cases fl with
      | next => exact False.elim h
      | brk => exact False.elim h
      | cont => exact False.elim h
      | ret u =>
        obtain ⟨v, H', os, bare, un, hok', r', q⟩ := h
        have q' : v = .bl true := q
        subst q'
        obtain rfl : u = Value.bool true := r'
        have key : ∀ b o, b ∉ cs.map (·.2) → s₁.heap.get? b = some o → s'.heap.get? b = some o := fun b o nb e => by
          cases q : H b with
          | none => exact un.keep b o e q (by intro z; exact absurd (show b ∈ ([] : List Addr) from z) (by simp)) (by simp)
          | some u =>
            rcases hO b with z | z | ⟨ob, xs, z⟩
            · rw [q] at z; cases z
            · exact absurd z nb
            · have z2 := un.frzs b ob _ z
              obtain ⟨e1, _⟩ := hok b _ z
              obtain ⟨e2, _⟩ := hok' b _ z2
              rw [e] at e1; cases e1
              exact e2
        have grown : ∀ p ∈ cs, ∃ more : Array Value, s'.heap.get? p.2 = some { cls := .none, data := .fields more } := fun p hp => by
          obtain ⟨more, z⟩ := un.tbls p.2 #[] (hH p hp)
          exact ⟨_, hok' p.2 _ z⟩
        refine ⟨rfl, ⟨fun b o e => ?_, fun b o e => ?_⟩, os, bare⟩
        · by_cases hb : b ∈ cs.map (·.2)
          · obtain ⟨p, hp, ep⟩ := List.mem_map.mp hb
            obtain ⟨more, hm⟩ := grown p hp
            rw [← ep] at e ⊢
            rw [hT p hp] at e
            cases e
            exact .inr (.inl ⟨((C p hp).tab (hT p hp)).isCodeTable, rfl, #[], more, rfl, by rw [Array.empty_append]; exact hm⟩)
          · exact .inl (key b o hb e)
        · by_cases hb : b ∈ cs.map (·.2)
          · obtain ⟨p, hp, ep⟩ := List.mem_map.mp hb
            obtain ⟨more, hm⟩ := grown p hp
            rw [← ep]
            exact ⟨_, hm⟩
          · exact ⟨o, key b o hb e⟩
  cases hk : K.lookup a with
  | some o =>
    have e := KX a o hk
    rw [ha] at e
    cases e
    refine core (fun b => if b ∈ cs.map (·.2) then some (.tbl #[]) else none) (fun p hp => if_pos (memT p hp)) (fun b => ?_) (.inr ⟨vs, 0, hk, by rw [lenV]; exact hl, rv⟩) (fun b u z => ?_) (fun b z => ?_) fun z => absurd (show (if a ∈ cs.map (·.2) then some (HO.tbl #[]) else none) = none from if_neg aT) z
    · by_cases hb : b ∈ cs.map (·.2)
      · exact .inr (.inl hb)
      · exact .inl (if_neg hb)
    · by_cases hb : b ∈ cs.map (·.2)
      · have z' := (if_pos hb).symm.trans z
        cases z'
        exact isT b hb
      · have z' := (if_neg hb).symm.trans z
        cases z'
    · by_cases hb : b ∈ cs.map (·.2)
      · exact .inr hb
      · exact absurd (if_neg hb) z
  | none =>
    refine core (fun b => if b = a then some (.frz { cls := .type "list", data := .seq vs.toArray } (.lst (ns.map V.int))) else if b ∈ cs.map (·.2) then some (.tbl #[]) else none) (fun p hp => (if_neg (show ¬ p.2 = a from fun z => aT (by rw [← z]; exact memT p hp))).trans (if_pos (memT p hp))) (fun b => ?_)
      (.inl (.inr ⟨{ cls := .type "list", data := .seq vs.toArray }, if_pos rfl⟩)) (fun b u z => ?_) (fun b z => ?_) fun _ => hk
    · by_cases hb : b = a
      · exact .inr (.inr ⟨_, _, if_pos hb⟩)
      · by_cases hb2 : b ∈ cs.map (·.2)
        · exact .inr (.inl hb2)
        · exact .inl ((if_neg hb).trans (if_neg hb2))
    · by_cases hb : b = a
      · have z' := (if_pos hb).symm.trans z
        cases z'
        rw [hb]
        exact ⟨ha, by rw [List.length_map]; exact hl, vs, _, rv, ha⟩
      · have z1 := (if_neg hb).symm.trans z
        by_cases hb2 : b ∈ cs.map (·.2)
        · have z' := (if_pos hb2).symm.trans z1
          cases z'
          exact isT b hb2
        · have z' := (if_neg hb2).symm.trans z1
          cases z'
    · by_cases hb : b = a
      · exact .inl hb
      · by_cases hb2 : b ∈ cs.map (·.2)
        · exact .inr hb2
        · exact absurd ((if_neg hb).trans (if_neg hb2)) z
theorem walkGT {l : PySem.W.OpenLaw} {n k : Nat} {q : Program} {loose : List Str} {XP : (Str → Option Value) → Heap → Prop} {YP : World → Heap → Prop} {d : DefRec} {x : Str}
    (hn : l.most = some n) (hn2 : n ≤ sizeLine) (hdf : d.params.defaults = []) (hr : Room k callerA)
    (FF : ∀ (w : World) (mg : Str → Option Value) (fa : Addr) (h : Heap), YP w h → h.Ns mainGlobals mg → mg d.name = some (.ref fa) →
      ∃ (K : PySem.W.Frag) (fd : FuncData) (cs : List (Addr × Addr)) (sp : Sp), K.In h ∧ (∀ p ∈ cs, h.get? p.2 = some { cls := .none, data := .fields #[] }) ∧ (∀ p ∈ cs, K.lookup p.2 = none) ∧ (∀ p ∈ cs, PySem.W.CodeHd h p.1 p.2) ∧ (∀ (s : Shared) (u : Value), BindsTo s fd ⟨[u], []⟩ [(x, u)]) ∧
        (∀ (H : Hp) (a : Addr) (ns : List Int), ns.length ≤ n → (∀ p ∈ cs, H p.2 = some (.tbl #[])) → SqX K H a (ns.map V.int) → sp [.ref a] H (fun v _ => v = .bl true) fun _ _ _ => False) ∧
        ∀ bs : Heap, K.In bs → bs.Ns mainGlobals mg → (∀ p ∈ cs, LamX.TabB bs mg p.1 p.2) → FnG l.prog w K mg bs k fa fd [x] sp) :
    PySem.W.WalkO q loose XP YP l.row.toRowW d [] (fun f vs => PySem.call f vs) := by
  refine Att.attach_call hn hdf fun w s₀ s₁ mg mb fa o pm cd doc a vs ns G Y ho hd hcd hmg hobj hints hlen hg => ?_
  obtain ⟨K, fd, cs, sp, KX, hT, nT, C, hb, hsp, hF⟩ := FF w mg fa _ Y G.T.g hmg
  exact lawGT KX G.T.g G.T.b G.T.builtins G.T.nolimit hg hT nT C G.T.bmain hobj hints (Nat.le_trans hlen hn2) hr hF hb fun H hH hS => hsp H a ns hlen hH hS
end Hb
namespace Hb
open PySem PySem.Spec PyProof.Rows L2
def rangeDn (lo : Int) (n : Nat) : List PyData := (List.range n).map fun i => .int (lo + (i : Nat) * (-1))
theorem rangeDn_len (lo : Int) (n : Nat) : (rangeDn lo n).length = n := by simp [rangeDn]
theorem rangeDn_at {lo : Int} {n i : Nat} (h : i < n) : (rangeDn lo n)[i]? = some (.int (lo + (i : Nat) * (-1))) := by
  unfold rangeDn
  rw [List.getElem?_map, List.getElem?_range h]
  rfl
section
variable {K : PySem.W.Frag}
theorem wk_rangeDn {Fz0 : Hp} (lo : Int) (n : Nat) : Wk K Fz0 (Itc lo (-1) n) (rangeDn lo n) := fun b Fz F δ σ H s R => by
  rw [rangeDn_len]
  refine ⟨fun i hi => ⟨hi, fun x H' y => ?_⟩, Nat.le_refl n⟩
  obtain ⟨rfl, rfl⟩ := y
  exact ⟨Fz, _, rangeDn_at hi, Same.refl _, R, .int _⟩
end
def wRngD (f g h : List Sl → Rs AV) : List Sl → Rs (List PyData) := fun δ => (sTk f δ).val fun d δ1 => (sTk g δ1).val fun e δ2 => (sTk h δ2).val fun u δ3 => match d, e, u with
  | .int i, .int j, .int c => if c = -1 ∧ -(2 ^ 62) ≤ i ∧ i < 2 ^ 62 ∧ -(2 ^ 62) ≤ j ∧ j < 2 ^ 62 then .ok (rangeDn i (i - j).toNat) δ3 else .bad
  | _, _, _ => .bad
section
variable {X : Cx} {W : WX} {pin : List Nat} {f g h : List Sl → Rs AV} {e c u tg : Expr} {p pos tpos : Pos}
theorem si_rngD (hg : Gl X "range") (hm : X.mg "range" = none) (h1 : SE X W pin e f) (h2 : SE X W pin c g) (h3 : SE X W pin u h) (hs : starEach [e, c, u] X.env = [(false, eval e X.env), (false, eval c X.env), (false, eval u X.env)] := by rfl)
    (hs2 : starEach [c, u] X.env = [(false, eval c X.env), (false, eval u X.env)] := by rfl) (hs3 : starEach [u] X.env = [(false, eval u X.env)] := by rfl) : SI X W pin tg (.Call (.Name "range" p) [e, c, u] [] pos) (wRngD f g h) :=
  pi_mono (pi_range3 hg hm (pa_cons (se_tk h1) (pa_cons (se_tk h2) (pa_cons (se_tk h3) pa_nil hs3) (by rw [hs2, hs3])) (by rw [hs, hs2])) (by rw [hs, hs2]) (by rw [hs2]; rfl)) fun σ H R ⟨b, Fz, F, δ, hp, Rr, P⟩ => by
    refine rd_valI hp Rr P fun v H1 Fz1 F1 d δ1 s1 R1 A1 P1 => ?_
    refine rd_valI hp R1 P1 fun w H2 Fz2 F2 e δ2 s2 R2 A2 P2 => ?_
    refine rd_valI hp R2 P2 fun z H3 Fz3 F3 y δ3 s3 R3 A3 P3 => ?_
    cases d with
    | int i =>
      cases e with
      | int j =>
        cases y with
        | int k =>
          cases A1
          cases A2
          cases A3
          have P4 : PostI X.K X.mg W b Fz3 σ R (if k = -1 ∧ -(2 ^ 62) ≤ i ∧ i < 2 ^ 62 ∧ -(2 ^ 62) ≤ j ∧ j < 2 ^ 62 then .ok (rangeDn i (i - j).toNat) δ3 else .bad) := P3
          by_cases q : k = -1 ∧ -(2 ^ 62) ≤ i ∧ i < 2 ^ 62 ∧ -(2 ^ 62) ≤ j ∧ j < 2 ^ 62
          · rw [if_pos q] at P4
            obtain ⟨rfl, q1, q2, q3, q4⟩ := q
            exact ⟨i, j, -1, _, rfl, RgC.neg q1 q2 q3 q4, P4 _ H3 Fz3 F3 (Same.refl _) R3 (wk_rangeDn i (i - j).toNat)⟩
          · rw [if_neg q] at P4
            exact P4.elim
        | _ => exact P3.elim
      | _ => exact P3.elim
    | _ => exact P3.elim
end
end Hb
namespace Hb
open PySem PySem.Spec PyProof.Rows L2
def excB (K : PySem.W.Frag) (D : Addr) : Bool :=
  decide (PySem.W.findIn K (.ref D) "__getattribute__" = some (some (.builtin "BaseException.__getattribute__"))) && (decide (PySem.W.findIn K (.ref D) "__getattr__" = some none) && (decide (PySem.W.subIn K (.ref D) (.type "BaseException") = some true) && (PySem.W.hasDictIn K D
    && (decide (PySem.W.findIn K (.ref D) "__class__" = some (some (.builtin "object.__class__"))) && (decide (PySem.W.specialIn K (.builtin "object.__class__") "__get__" = some (some (.builtin "getset_descriptor.__get__")))
      && (decide (PySem.W.takesIn K (.builtin "object.__class__") = some true) && decide (PySem.W.mroIn K D (.type "object") = some true)))))))
theorem and2 {a b : Bool} (h : (a && b) = true) : a = true ∧ b = true := by
  cases a <;> cases b <;> first | exact ⟨rfl, rfl⟩ | cases h
theorem excB_ok {K : PySem.W.Frag} {D : Addr} (h : excB K D = true) : L2.ExcC K D := by
  unfold excB at h
  obtain ⟨h1, h⟩ := and2 h
  obtain ⟨h2, h⟩ := and2 h
  obtain ⟨h3, h⟩ := and2 h
  obtain ⟨h4, h⟩ := and2 h
  obtain ⟨h5, h⟩ := and2 h
  obtain ⟨h6, h⟩ := and2 h
  obtain ⟨h7, h8⟩ := and2 h
  exact ⟨of_decide_eq_true h1, of_decide_eq_true h2, of_decide_eq_true h3, h4, of_decide_eq_true h5, of_decide_eq_true h6, of_decide_eq_true h7, of_decide_eq_true h8⟩
/-- the classes xs of errors among the classes ys, all of them of B and ValueErrors -/
def errB (xs ys : List Str) (B : Str) (K : PySem.W.Frag) : Bool := xs.all fun x => excB K (He.ga K x) && (decide (PySem.W.exmOne K (.ref (He.ga K x)) (.ref (He.ga K B)) = some true) && (decide (PySem.W.kitOne K (.ref (He.ga K x)) (.type "ValueError") = some true)
  && ys.all fun y => decide (PySem.W.kitOne K (.ref (He.ga K x)) (.ref (He.ga K y)) = some (decide (x = y)))))
section
variable {xs ys : List Str} {B x y : Str} {K : PySem.W.Frag}
theorem errB_exc (h : errB xs ys B K = true) (hx : x ∈ xs) : L2.ExcC K (He.ga K x) := excB_ok (and2 (List.all_eq_true.mp h x hx)).1
theorem errB_base (h : errB xs ys B K = true) (hx : x ∈ xs) : PySem.W.exmOne K (.ref (He.ga K x)) (.ref (He.ga K B)) = some true := of_decide_eq_true (and2 (and2 (List.all_eq_true.mp h x hx)).2).1
theorem errB_val (h : errB xs ys B K = true) (hx : x ∈ xs) : PySem.W.kitOne K (.ref (He.ga K x)) (.type "ValueError") = some true := of_decide_eq_true (and2 (and2 (and2 (List.all_eq_true.mp h x hx)).2).2).1
theorem errB_is (h : errB xs ys B K = true) (hx : x ∈ xs) (hy : y ∈ ys) : PySem.W.kitOne K (.ref (He.ga K x)) (.ref (He.ga K y)) = some (decide (x = y)) := of_decide_eq_true (List.all_eq_true.mp (and2 (and2 (and2 (List.all_eq_true.mp h x hx)).2).2).2 y hy)
theorem errB_any (h : errB xs ys B K = true) (hx : x ∈ xs) : ∀ zs : List Str, (∀ z ∈ zs, z ∈ ys) → PySem.W.kitAny K (.ref (He.ga K x)) ((zs.map (He.ga K)).map Value.ref) = some (zs.any fun z => decide (x = z))
  | [], _ => L2.kitAny_nil
  | z :: r, hz => by
    refine L2.kitAny_cons (errB_is h hx (hz z List.mem_cons_self)) (fun e => ?_) fun e => ?_
    · rw [errB_any h hx r fun z q => hz z (List.mem_cons_of_mem _ q)]
      rw [List.any_cons, e, Bool.false_or]
    · rw [List.any_cons, e, Bool.true_or]
end
/-- the words of the errors -/
def errW : List (Str × Str) := [("InvalidCount", "count"), ("InvalidBallot", "ballot"), ("InvalidBallots", "ballots"), ("InvalidLine", "line"), ("InvalidPlace", "place"), ("InvalidIndex", "index"), ("NotFalling", "falling")]
def errX : List Str := ["InvalidCount", "InvalidBallot", "InvalidBallots", "InvalidLine", "InvalidPlace", "InvalidIndex", "NotFalling"]
def errY : List Str := ["InvalidCount", "InvalidBallot", "InvalidBallots", "InvalidLine", "InvalidPlace", "InvalidIndex", "NoLine", "NotFalling", "EvenVoters", "InvalidCommand", "InvalidFixed", "InvalidLists", "InvalidPairs", "InvalidPeople", "InvalidTable", "InvalidTelling", "InvalidText", "InvalidVoters", "NoBallot", "NoRow", "NotFree", "NotMatching", "NothingToUndo", "NotTold"]
def twE : Exn → Option (List Str) := fun xn => if xn.arg.isNone = true then (errW.lookup xn.cls).map fun w => [w] else none
section
variable {X : Cx} {a : Addr} {c z : Str} {p1 p2 p3 p4 p5 : Pos}
theorem words_body {steps : List Stp} {bg : List Stmt} (hb : bg = .Assign [.Name z p1] (.List [] p2) p3 :: (steps.map (·.1) ++ [.Return (some (.Name z p4)) p5])) (hN : X.N = [c, z]) (nd : c ≠ z) (loc : Loc X.env.scope z) (dz : (z == ("__debug__" : Str)) = false) (cz : (z == ("__classdict__" : Str)) = false) (vj : Vis X.env.scope z) (hl : X.fn z = true ∨ X.env.scope.names.lookup z = some .local)
    (hs : ∀ st ∈ steps, PS X st.1 (tStep 0 1 a st.2.1 st.2.2)) (hn : steps.length ≤ 100) :
    ∃ t, PSs X bg t ∧
      ∀ (H : Hp) (Q : VK), (∀ l H', H l = none → Same H H' → H' l = some (.lst (wordsOf steps)) → Q (.ref l) H') → t { nx := fun _ H' => Q .non H', rt := Q } (L2.start [c, z] [.ref a]) H := by
  subst hb
  have ndN : X.N.Nodup := by rw [hN]; simp [nd]
  have hz : X.N[1]? = some z := by rw [hN]; rfl
  refine ⟨_, pss_cons (ps_set (i := 1) ndN hz loc (pe_lst pa_nil) (hf := hl)) (pss_steps hz vj dz cz steps hs), fun H Q h => ?_⟩
  refine ⟨Nat.zero_le _, fun l hl => ?_⟩
  refine ⟨rfl, l, [], rfl, upd_same, by rw [List.length_nil, Nat.zero_add]; exact hn, fun H' hx hl' => ?_⟩
  refine h l H' hl (fun b o e => ?_) (by rw [hl', List.nil_append])
  have nb : b ≠ l := ne_of_none e hl
  exact hx b o nb (by rw [upd_ne nb]; exact e)
theorem pt_orX {D : Addr} {A B : Expr} {i : Nat} {b b2 : Bool} {pos pos2 : Pos} (h : PT X A (tIsX i a b)) (h2 : PT X B (tIsX i a b2)) : PT X (.BoolOp .Or [A, .UnaryOp .Not B pos2] pos) (tIsX i a (b || !b2)) :=
  pt_mono (PW.pt (pw_or h (pw_or1 (pt_not h2)))) fun σ H Q ⟨h1, q⟩ => by
    refine ⟨h1, fun H1 s1 => ?_⟩
    cases b with
    | true => exact q H1 s1
    | false => exact ⟨h1, fun H2 s2 => q H2 (s1.trans s2)⟩
theorem pa_globs0 : PA X [] (fun σ H Q => Q (([] : List Addr).map V.ref) H) := pa_nil
theorem pa_globs {x : Str} {d : Addr} {p : Pos} {es : List Expr} {Cs : List Addr} (hg : Gl X x) (hm : X.mg x = some (.ref d)) (hr : PA X es (fun σ H Q => Q (Cs.map V.ref) H)) (hd : (x == ("__debug__" : Str)) = false := by decide)
    (hs : starEach (.Name x p :: es) X.env = (false, eval (.Name x p) X.env) :: starEach es X.env := by rfl) : PA X (.Name x p :: es) (fun σ H Q => Q ((d :: Cs).map V.ref) H) := pa_cons (pe_glob hg hm (v := .ref d) rfl hd) hr hs
end
/-- the words that are told of an error, where those of each class are shown -/
theorem twOk_of {X : Cx} {CB : Addr} {k : Nat} {wd : Str} (hg : ∀ x ∈ errX, X.mg x = some (.ref (He.ga X.K x))) (hb : ∀ x ∈ errX, PySem.W.exmOne X.K (.ref (He.ga X.K x)) (.ref CB) = some true) (hc : ∀ x ∈ errX, L2.ExcC X.K (He.ga X.K x))
    (hw : ∀ x ∈ errX, ∀ w, errW.lookup x = some w → WordsD X (He.ga X.K x) [.str w] k wd) : TwOk X CB k wd twE := fun xn ws e => by
  unfold twE at e
  by_cases c : xn.arg.isNone = true
  · rw [if_pos c] at e
    cases q : errW.lookup xn.cls with
    | none => rw [q] at e; cases e
    | some w =>
      rw [q] at e
      have e : some [w] = some ws := e
      cases e
      refine ⟨Option.isNone_iff_eq_none.mp c, fun Dc hm => ?_⟩
      have hx : xn.cls ∈ errX := by
        have : ∀ x : Str, ∀ w, errW.lookup x = some w → x ∈ errX := fun x w e => by
          have k1 : errX = errW.map Prod.fst := rfl
          rw [k1]
          clear k1
          generalize errW = L at e ⊢
          induction L with
          | nil => cases e
          | cons p r ih =>
            rw [List.lookup_cons] at e
            cases q2 : (x == p.1) with
            | true => exact List.mem_cons.mpr (.inl (beq_iff_eq.mp q2))
            | false => rw [q2] at e; exact List.mem_cons_of_mem _ (ih e)
        exact this _ _ q
      have e2 : Dc = He.ga X.K xn.cls := by
        rw [hg _ hx] at hm
        exact (Value.ref.inj (Option.some.inj hm)).symm
      rw [e2]
      exact ⟨hb _ hx, hc _ hx, hw _ hx w q⟩
  · rw [if_neg c] at e; cases e
end Hb
namespace Hb
open PySem PySem.Spec PyProof.Rows L2
theorem se_lamcall {Y : Cx} {A : Around} {outer : List Env} {s : Shared} {H : Hp} {E : XK} {scope : Scope} {f2 c2 : Addr} {k : Nat} {pin : List Nat} {x : Str} {p pos : Pos} {e : Expr} {es : List Expr} {n m : Nat} {F : List Sl → FR} {g : List Sl → Rs (List Ar)} {dd : List PyData}
    (D : Dfn Y.prog Y.w Y.K Y.mg Y.base k x n F m dd) (hr : Room k (A.deeper (LamX.lamEnv Y scope s.heap.objs.size f2 c2))) (hgd : A.guards = some []) (hg : Gl (LamX.lamCx Y A outer s H E scope f2 c2) x)
    (ha : SAr (LamX.lamCx Y A outer s H E scope f2 c2) (fun cls d _ H => E cls d H) (unm pin) (e :: es) g) (hlen : ∀ δ ars δ', g δ = .ok ars δ' → ars.length = m)
    (hdb : (x == ("__debug__" : Str)) = false := by decide) (he : starEach (e :: es) (LamX.lamCx Y A outer s H E scope f2 c2).env = (false, eval e (LamX.lamCx Y A outer s H E scope f2 c2).env) :: starEach es (LamX.lamCx Y A outer s H E scope f2 c2).env := by rfl) (hpl : (backTo pos (starEach es (LamX.lamCx Y A outer s H E scope f2 c2).env)).any (·.1) = false := by rfl) :
    PE (LamX.lamCx Y A outer s H E scope f2 c2) (.Call (.Name x p) (e :: es) [] pos) (rdEd Y.K Y.mg (fun cls d _ H => E cls d H) pin (sBrwD (sCall F dd g))) :=
  se_brwD (X := LamX.lamCx Y A outer s H E scope f2 c2) (se_callD (X := LamX.lamCx Y A outer s H E scope f2 c2) D hr hgd (fun σ => lam_pass (X := Y) (A := A) (outer := outer) (s := s) (H := H) (E := E) (scope := scope) (f := f2) (c := c2) σ) hg ha hlen hdb he hpl)
end Hb
namespace Hb
open PySem L2
section
variable {f fa fb fo : List Sl → Rs AV} {δ δ1 δ2 : List Sl} {a x y : AV} {d e : PyData} {u w : List Sl → Ot} {t : List Sl → Rs Bool}
@[simp] theorem e_sC : sC d δ = .ok (.val d) δ := rfl
@[simp] theorem e_val : sSt (fun δ => .ok (.val d) δ) δ = .ok (.val d) δ := rfl
@[simp] theorem e_bind {α β : Type} {v : α} {k : α → List Sl → Rs β} : (Rs.ok v δ).bind k = k v δ := rfl
@[simp] theorem e_bindb {α β : Type} {k : α → List Sl → Rs β} : (Rs.bad : Rs α).bind k = .bad := rfl
@[simp] theorem e_ot {α : Type} {v : α} {k : α → List Sl → Ot} : (Rs.ok v δ).ot k = k v δ := rfl
@[simp] theorem e_otU {v : Unit} : (Rs.ok v δ).otU = .nx δ := rfl
@[simp] theorem e_oNext : oNext δ = .nx δ := rfl
@[simp] theorem e_rdAv : rdA δ (.val d) = some d := rfl
@[simp] theorem e_rdCv : rdC δ (.val d) = some d := rfl
@[simp] theorem e_allFz (ds : List PyData) : allFz (ds.map El.fz) = some ds := by
  induction ds with
  | nil => rfl
  | cons d r ih => simp [allFz, ih]
end
end Hb
namespace Nv
open PySem Hb L2
/-- a value of Lean's, as a tree -/
class Enc (α : Type) where
  enc : α → PyData
open Enc (enc)
instance : Enc Int := ⟨.int⟩
instance : Enc Bool := ⟨.bool⟩
instance : Enc Str := ⟨.str⟩
instance : Enc Unit := ⟨fun _ => .none⟩
instance : Enc PyData := ⟨fun d => d⟩
instance {α : Type} [Enc α] : Enc (List α) := ⟨fun xs => .list (xs.map enc)⟩
instance {α : Type} [Enc α] : Enc (Option α) := ⟨fun x => match x with
  | none => .none
  | some x => enc x⟩
instance {α β : Type} [Enc α] [Enc β] : Enc (α × β) := ⟨fun x => .tuple [enc x.1, enc x.2]⟩
structure T3 (α β γ : Type) where
  a : α
  b : β
  c : γ
deriving DecidableEq
structure T4 (α β γ δ : Type) where
  a : α
  b : β
  c : γ
  d : δ
deriving DecidableEq
/-- a tuple of any length -/
structure Tp (α : Type) where
  l : List α
deriving DecidableEq
/-- a dict -/
structure Dc (κ α : Type) where
  l : List (κ × α)
deriving DecidableEq
instance {α β γ : Type} [Enc α] [Enc β] [Enc γ] : Enc (T3 α β γ) := ⟨fun x => .tuple [enc x.a, enc x.b, enc x.c]⟩
instance {α β γ δ : Type} [Enc α] [Enc β] [Enc γ] [Enc δ] : Enc (T4 α β γ δ) := ⟨fun x => .tuple [enc x.a, enc x.b, enc x.c, enc x.d]⟩
instance {α : Type} [Enc α] : Enc (Tp α) := ⟨fun x => .tuple (x.l.map enc)⟩
instance {κ α : Type} [Enc κ] [Enc α] : Enc (Dc κ α) := ⟨fun x => .dict (x.l.map fun p => (enc p.1, enc p.2))⟩
/-- a list of one's own whose items stand still; .. whose items are rows of one's own; a dict of one's own -/
def ow {α : Type} [Enc α] (xs : List α) : Sl := .ol ((xs.map enc).map .fz)
def oww {α : Type} [Enc α] (xs : List (List α)) : Sl := .ol (xs.map fun r => .ow (r.map enc))
def od {κ α : Type} [Enc κ] [Enc α] (x : Dc κ α) : Sl := .od (x.l.map fun p => (enc p.1, enc p.2))
section
variable {α : Type} [Enc α]
theorem map_fzd (ds : List PyData) : (ds.map El.fz).map El.d = ds := by
  rw [List.map_map]
  exact List.map_id' ds
theorem ow_tree (xs : List α) : (ow xs).tree = some (enc xs) := by
  show some (PyData.list _) = some (PyData.list _)
  rw [map_fzd]
theorem allFz_map : ∀ ds : List PyData, allFz (ds.map .fz) = some ds
  | [] => rfl
  | d :: r => by
    show (allFz (r.map .fz)).map (d :: ·) = _
    rw [allFz_map r]
    rfl
theorem oww_tree (xs : List (List α)) : (oww xs).tree = some (enc xs) := by
  show some (PyData.list _) = some (PyData.list _)
  rw [List.map_map]
  rfl
end
inductive Pt where
  | aa | any | pl | eq (s : Sl) | tr (d : PyData) | ts (d : PyData)
def isAl : Sl → Bool
  | .al _ _ => true
  | _ => false
def isLs : PyData → Bool
  | .list _ => true
  | _ => false
def Pt.Ok : Pt → Sl → Prop
  | .aa, _ => True
  | .any, s => isAl s = false
  | .pl, s => plainS (some s) = true
  | .eq t, s => s = t
  | .tr d, s => s.tree = some d ∧ (∃ ds : List PyData, s = .ol (ds.map .fz)) ∨ s = .fz d
  | .ts d, s => s.tree = some d ∧ (∃ ds : List PyData, s = .ol (ds.map .fz)) ∨ (s = .fz d ∧ isLs d = false)
abbrev Ga := List Pt
inductive Sat : Ga → List Sl → Prop
  | nil : Sat [] []
  | cons {p : Pt} {s : Sl} {Γ : Ga} {δ : List Sl} : p.Ok s → Sat Γ δ → Sat (p :: Γ) (s :: δ)
theorem Sat.get {Γ : Ga} {δ : List Sl} (h : Sat Γ δ) : ∀ {k : Nat} {p : Pt}, Γ[k]? = some p → ∃ s, δ[k]? = some s ∧ p.Ok s := by
  induction h with
  | nil => intro k p e; simp at e
  | cons h1 _ ih =>
    intro k p e
    cases k with
    | zero => simp at e; subst e; exact ⟨_, rfl, h1⟩
    | succ k => exact ih (by simpa using e)
theorem Sat.at_ {Γ : Ga} {δ : List Sl} (h : Sat Γ δ) {k : Nat} {s : Sl} (e : Γ[k]? = some (.eq s)) : δ[k]? = some s := by
  obtain ⟨t, e1, e2⟩ := h.get e
  rw [e1, show t = s from e2]
theorem Sat.set {Γ : Ga} {δ : List Sl} (h : Sat Γ δ) {p : Pt} {s : Sl} (hp : p.Ok s) : ∀ (k : Nat), Sat (Γ.set k p) (δ.set k s) := by
  induction h with
  | nil => intro k; cases k <;> exact .nil
  | cons h1 h2 ih =>
    intro k
    cases k with
    | zero => exact .cons hp h2
    | succ k => exact .cons h1 (ih k)
def dropP (i : Nat) : Pt → Pt
  | .eq (.al x j) => if x = i then .eq .no else .eq (.al x j)
  | p => p
def upP (i : Nat) (p : Pt) (Γ : Ga) : Ga := (Γ.map (dropP i)).set i p
def dropS (i : Nat) : Sl → Sl
  | .al x j => if x = i then .no else .al x j
  | s => s
theorem dropAl_eq (i : Nat) (δ : List Sl) : dropAl i δ = δ.map (dropS i) := by
  unfold dropAl
  congr 1
theorem dropP_ok {i : Nat} {p : Pt} {s : Sl} (h : p.Ok s) : (dropP i p).Ok (dropS i s) := by
  cases p with
  | aa => trivial
  | any =>
    cases s with
    | al x j => cases h
    | _ => exact h
  | pl =>
    cases s with
    | al x j => cases h
    | _ => exact h
  | eq t =>
    have h : s = t := h
    subst h
    cases s with
    | al x j =>
      show (if x = i then Pt.eq .no else .eq (.al x j)).Ok (if x = i then .no else .al x j)
      by_cases c : x = i
      · rw [if_pos c, if_pos c]; rfl
      · rw [if_neg c, if_neg c]; rfl
    | _ => rfl
  | tr d =>
    cases s with
    | al x j =>
      rcases h with ⟨h, _⟩ | h <;> cases h
    | _ => exact h
  | ts d =>
    cases s with
    | al x j =>
      rcases h with ⟨h, _⟩ | ⟨h, _⟩ <;> cases h
    | _ => exact h
theorem Sat.drop {Γ : Ga} {δ : List Sl} (h : Sat Γ δ) (i : Nat) : Sat (Γ.map (dropP i)) (dropAl i δ) := by
  rw [dropAl_eq]
  induction h with
  | nil => exact .nil
  | cons h1 _ ih => exact .cons (dropP_ok h1) ih
theorem Sat.up {Γ : Ga} {δ : List Sl} (h : Sat Γ δ) {i : Nat} {p : Pt} {s : Sl} (hp : p.Ok s) : Sat (upP i p Γ) (upS i s δ) := (h.drop i).set hp i
def calmP : Pt → Bool
  | .aa => false
  | .eq s => !isAl s
  | _ => true
/-- weaker -/
inductive PtLe : Pt → Pt → Prop
  | rfl {p : Pt} : PtLe p p
  | aa {p : Pt} : PtLe p .aa
  | any {p : Pt} (h : calmP p = true := by rfl) : PtLe p .any
  | no : PtLe (.eq .no) .pl
  | fz {d : PyData} : PtLe (.eq (.fz d)) .pl
  | trf {d : PyData} : PtLe (.eq (.fz d)) (.tr d)
  | tro {α : Type} [Enc α] {xs : List α} {d : PyData} : enc xs = d → PtLe (.eq (ow xs)) (.tr d)
  | tsf {d : PyData} (h : isLs d = false := by rfl) : PtLe (.eq (.fz d)) (.ts d)
  | tso {α : Type} [Enc α] {xs : List α} {d : PyData} : enc xs = d → PtLe (.eq (ow xs)) (.ts d)
  | tst {d : PyData} : PtLe (.ts d) (.tr d)
theorem PtLe.ok {p q : Pt} (h : PtLe p q) {s : Sl} (hs : p.Ok s) : q.Ok s := by
  cases h with
  | rfl => exact hs
  | aa => trivial
  | any h =>
    cases p with
    | aa => cases h
    | any => exact hs
    | pl => cases s <;> first | rfl | cases hs
    | eq t =>
      cases (show s = t from hs)
      show isAl s = false
      simpa [calmP] using h
    | tr d =>
      rcases hs with ⟨_, ds, rfl⟩ | rfl <;> rfl
    | ts d =>
      rcases hs with ⟨_, ds, rfl⟩ | ⟨rfl, _⟩ <;> rfl
  | no => cases (show s = .no from hs); rfl
  | fz => cases (show s = .fz _ from hs); rfl
  | trf => exact .inr hs
  | @tro α _ xs d e =>
    cases (show s = ow xs from hs)
    exact .inl ⟨by rw [← e]; exact ow_tree xs, xs.map enc, Eq.refl _⟩
  | tsf h => exact .inr ⟨hs, h⟩
  | @tso α _ xs d e =>
    cases (show s = ow xs from hs)
    exact .inl ⟨by rw [← e]; exact ow_tree xs, xs.map enc, Eq.refl _⟩
  | tst => exact hs.imp id And.left
inductive GaLe : Ga → Ga → Prop
  | nil : GaLe [] []
  | cons {p q : Pt} {Γ Δ : Ga} : PtLe p q → GaLe Γ Δ → GaLe (p :: Γ) (q :: Δ)
theorem Sat.wk {Γ Δ : Ga} {δ : List Sl} (h : Sat Γ δ) (l : GaLe Γ Δ) : Sat Δ δ := by
  induction l generalizing δ with
  | nil => exact h
  | cons h1 _ ih =>
    cases h with
    | cons a b => exact .cons (h1.ok a) (ih b)
section
variable {β : Type}
/-- what it gives, and what stands behind -/
def Ev (f : List Sl → Rs AV) (Γ : Ga) (p : Option β) (a : β → AV) (Γ' : β → Ga) : Prop := ∀ v, p = some v → ∀ δ, Sat Γ δ → ∃ δ', f δ = .ok (a v) δ' ∧ Sat (Γ' v) δ'
/-- nothing changes -/
def Pu (f : List Sl → Rs AV) (Γ : Ga) (p : Option β) (a : β → AV) : Prop := ∀ v, p = some v → ∀ δ, Sat Γ δ → f δ = .ok (a v) δ
/-- nothing changes, and its tree may be read -/
def Ra (f : List Sl → Rs AV) (Γ : Ga) (p : Option β) (d : β → PyData) : Prop := ∀ v, p = some v → ∀ δ, Sat Γ δ → ∃ a, sSt f δ = .ok a δ ∧ rdA δ a = some (d v)
def Rd (f : List Sl → Rs AV) (Γ : Ga) (p : Option β) (d : β → PyData) : Prop := ∀ v, p = some v → ∀ δ, Sat Γ δ → ∃ a, sSt f δ = .ok a δ ∧ rdC δ a = some (d v) ∧ rdA δ a = some (d v)
/-- a value -/
def Er (f : List Sl → Rs AV) (Γ : Ga) (p : Option β) (d : β → PyData) (Γ' : β → Ga) : Prop := ∀ v, p = some v → ∀ δ, Sat Γ δ → ∃ δ', sSt f δ = .ok (.val (d v)) δ' ∧ Sat (Γ' v) δ'
/-- its tree may be read -/
def Es (f : List Sl → Rs AV) (Γ : Ga) (p : Option β) (d : β → PyData) (Γ' : β → Ga) : Prop := ∀ v, p = some v → ∀ δ, Sat Γ δ → ∃ a δ', sSt f δ = .ok a δ' ∧ rdC δ' a = some (d v) ∧ rdA δ' a = some (d v) ∧ Sat (Γ' v) δ'
/-- tests -/
def Ts (t : List Sl → Rs Bool) (Γ : Ga) (p : Option Bool) : Prop := ∀ v, p = some v → ∀ δ, Sat Γ δ → t δ = .ok v δ
def Te (t : List Sl → Rs Bool) (Γ : Ga) (p : Option β) (k : β → Bool) (Γ' : β → Ga) : Prop := ∀ v, p = some v → ∀ δ, Sat Γ δ → ∃ δ', t δ = .ok (k v) δ' ∧ Sat (Γ' v) δ'
/-- statements -/
def Bl (f : List Sl → Ot) (Γ : Ga) (p : Option β) (R : β → Ot → Prop) : Prop := ∀ v, p = some v → ∀ δ, Sat Γ δ → R v (f δ)
end
section
variable {α β γ ε : Type} {f fa fb g : List Sl → Rs AV} {Γ : Ga} {Γ' : β → Ga} {p : Option β} {a : β → AV} {d : β → PyData}
theorem some_of {α : Type} {x v : α} (h : some x = some v) : v = x := (Option.some.inj h).symm
theorem bind_of {α β : Type} {p : Option α} {k : α → Option β} {v : β} (h : p.bind k = some v) : ∃ x, p = some x ∧ k x = some v := by
  cases p with
  | none => cases h
  | some x => exact ⟨x, rfl, h⟩
theorem sSt_val {δ δ' : List Sl} {x : PyData} (h : f δ = .ok (.val x) δ') : sSt f δ = .ok (.val x) δ' := by
  unfold sSt; rw [h]
theorem sSt_ref {δ δ' : List Sl} {x : Nat} (h : f δ = .ok (.ref x) δ') : sSt f δ = .ok (.ref x) δ' := by
  unfold sSt; rw [h]
theorem sSt_tmp {δ δ' : List Sl} {s : Sl} {x : PyData} (h : f δ = .ok (.tmp s) δ') (e : s.tree = some x) : sSt f δ = .ok (.val x) δ' := by
  unfold sSt; rw [h]; simp only [e]
theorem Pu.ev (h : Pu f Γ p a) : Ev f Γ p a fun _ => Γ := fun v e δ s => ⟨δ, h v e δ s, s⟩
theorem Pu.rd (h : Pu f Γ p fun v => .val (d v)) : Rd f Γ p d := fun v e δ s => ⟨_, sSt_val (h v e δ s), rfl, rfl⟩
theorem Pu.rdT {s : β → Sl} (h : Pu f Γ p fun v => .tmp (s v)) (ht : ∀ v, (s v).tree = some (d v)) : Rd f Γ p d := fun v e δ z => ⟨_, sSt_tmp (h v e δ z) (ht v), rfl, rfl⟩
theorem Rd.ra (h : Rd f Γ p d) : Ra f Γ p d := fun v e δ s => let ⟨x, h1, _, h3⟩ := h v e δ s; ⟨x, h1, h3⟩
theorem Ev.er (h : Ev f Γ p (fun v => .val (d v)) Γ') : Er f Γ p d Γ' := fun v e δ s => let ⟨δ', h1, h2⟩ := h v e δ s; ⟨δ', sSt_val h1, h2⟩
theorem Ev.erT {s : β → Sl} (h : Ev f Γ p (fun v => .tmp (s v)) Γ') (ht : ∀ v, (s v).tree = some (d v)) : Er f Γ p d Γ' := fun v e δ z => let ⟨δ', h1, h2⟩ := h v e δ z; ⟨δ', sSt_tmp h1 (ht v), h2⟩
theorem Er.es (h : Er f Γ p d Γ') : Es f Γ p d Γ' := fun v e δ s => let ⟨δ', h1, h2⟩ := h v e δ s; ⟨_, δ', h1, rfl, rfl, h2⟩
theorem Rd.es (h : Rd f Γ p d) : Es f Γ p d fun _ => Γ := fun v e δ s => let ⟨x, h1, h2, h3⟩ := h v e δ s; ⟨x, δ, h1, h2, h3, s⟩
theorem pu_c [Enc α] {x : α} {y : PyData} (h : enc x = y := by rfl) : Pu (sC y) Γ (some x) fun v => .val (enc v) := fun v e δ _ => by
  cases some_of e
  show _ = Rs.ok (AV.val (enc x)) δ
  rw [h]
  rfl
theorem pu_var [Enc α] {x : α} (k : Nat) (h : Γ[k]? = some (.eq (.fz (enc x)))) : Pu (sVar k) Γ (some x) fun v => .val (enc v) := fun v e δ s => by
  cases some_of e
  unfold sVar
  rw [s.at_ h]
theorem pu_own [Enc α] {x : List α} (k : Nat) (h : Γ[k]? = some (.eq (ow x))) : Pu (sVar k) Γ (some x) fun _ => .ref k := fun v e δ s => by
  cases some_of e
  unfold sVar
  rw [s.at_ h]
  rfl
theorem rd_own [Enc α] {x : List α} (k : Nat) (h : Γ[k]? = some (.eq (ow x))) : Rd (sVar k) Γ (some x) enc := fun v e δ s => by
  cases some_of e
  refine ⟨.ref k, sSt_ref (pu_own k h x rfl δ s), ?_, ?_⟩
  · simp only [rdC, s.at_ h, ow]
    show (allFz _).map _ = _
    rw [allFz_map]
    rfl
  · simp only [rdA, s.at_ h, ow]
    exact ow_tree x
theorem Pu.tkP (h : Pu f Γ p fun v => .val (d v)) : Pu (sTk f) Γ p (fun v => .val (d v)) := fun v e δ s => by unfold sTk; rw [sSt_val (h v e δ s)]
theorem Pu.tkTP {s : β → Sl} (h : Pu f Γ p fun v => .tmp (s v)) (ht : ∀ v, (s v).tree = some (d v)) : Pu (sTk f) Γ p (fun v => .val (d v)) := fun v e δ z => by unfold sTk; rw [sSt_tmp (h v e δ z) (ht v)]
theorem Ev.tk (h : Ev f Γ p (fun v => .val (d v)) Γ') : Ev (sTk f) Γ p (fun v => .val (d v)) Γ' := fun v e δ s => let ⟨δ', h1, h2⟩ := h v e δ s; ⟨δ', by unfold sTk; rw [sSt_val h1], h2⟩
theorem Ev.tkT {s : β → Sl} (h : Ev f Γ p (fun v => .tmp (s v)) Γ') (ht : ∀ v, (s v).tree = some (d v)) : Ev (sTk f) Γ p (fun v => .val (d v)) Γ' := fun v e δ z => let ⟨δ', h1, h2⟩ := h v e δ z; ⟨δ', by unfold sTk; rw [sSt_tmp h1 (ht v)], h2⟩
end
end Nv
namespace Nv
open PySem Hb L2
open Enc (enc)
section
variable {α β γ : Type} [Enc α] [Enc β]
def Op2 (g : AV → AV → List Sl → Rs AV) (op : α → β → Option γ) (a : γ → AV) : Prop := ∀ v w r δ x y, rdC δ x = some (enc v) → rdA δ x = some (enc v) → rdC δ y = some (enc w) → rdA δ y = some (enc w) → op v w = some r → g x y δ = .ok (a r) δ
def Op2A (g : AV → AV → List Sl → Rs AV) (op : α → β → Option γ) (a : γ → AV) : Prop := ∀ v w r δ x y, rdA δ x = some (enc v) → rdA δ y = some (enc w) → op v w = some r → g x y δ = .ok (a r) δ
def Op1 (g : AV → List Sl → Rs AV) (op : α → Option γ) (a : γ → AV) : Prop := ∀ v r δ x, rdC δ x = some (enc v) → rdA δ x = some (enc v) → op v = some r → g x δ = .ok (a r) δ
def Op1A (g : AV → List Sl → Rs AV) (op : α → Option γ) (a : γ → AV) : Prop := ∀ v r δ x, rdA δ x = some (enc v) → op v = some r → g x δ = .ok (a r) δ
end
section
variable {α β γ ε ζ : Type} [Enc α] [Enc β] {Γ : Ga} {fa fb : List Sl → Rs AV} {g : AV → AV → List Sl → Rs AV} {h : AV → List Sl → Rs AV} {op : α → β → Option γ} {op1 : α → Option γ} {a : γ → AV}
theorem Op2A.to (o : Op2A g op a) : Op2 g op a := fun v w r δ x y _ h1 _ h2 e => o v w r δ x y h1 h2 e
theorem pu2 (o : Op2 g op a) {pa : Option α} {pb : Option β} (ha : Rd fa Γ pa enc) (hb : Rd fb Γ pb enc) : Pu (s2 g fa fb) Γ (pa.bind fun v => pb.bind fun w => op v w) a := fun r e δ s => by
  obtain ⟨v, e1, e⟩ := bind_of e
  obtain ⟨w, e2, e⟩ := bind_of e
  obtain ⟨x, h1, h2, h3⟩ := ha v e1 δ s
  obtain ⟨y, k1, k2, k3⟩ := hb w e2 δ s
  unfold s2
  rw [h1]
  show (sSt fb δ).bind _ = _
  rw [k1]
  exact o v w r δ x y h2 h3 k2 k3 e
theorem pu2A (o : Op2A g op a) {pa : Option α} {pb : Option β} (ha : Ra fa Γ pa enc) (hb : Ra fb Γ pb enc) : Pu (s2 g fa fb) Γ (pa.bind fun v => pb.bind fun w => op v w) a := fun r e δ s => by
  obtain ⟨v, e1, e⟩ := bind_of e
  obtain ⟨w, e2, e⟩ := bind_of e
  obtain ⟨x, h1, h3⟩ := ha v e1 δ s
  obtain ⟨y, k1, k3⟩ := hb w e2 δ s
  unfold s2
  rw [h1]
  show (sSt fb δ).bind _ = _
  rw [k1]
  exact o v w r δ x y h3 k3 e
theorem pu1 (o : Op1 h op1 a) {pa : Option α} (ha : Rd fa Γ pa enc) : Pu (s1 h fa) Γ (pa.bind op1) a := fun r e δ s => by
  obtain ⟨v, e1, e⟩ := bind_of e
  obtain ⟨x, h1, h2, h3⟩ := ha v e1 δ s
  unfold s1
  rw [h1]
  exact o v r δ x h2 h3 e
theorem pu1A (o : Op1A h op1 a) {pa : Option α} (ha : Ra fa Γ pa enc) : Pu (s1 h fa) Γ (pa.bind op1) a := fun r e δ s => by
  obtain ⟨v, e1, e⟩ := bind_of e
  obtain ⟨x, h1, h3⟩ := ha v e1 δ s
  unfold s1
  rw [h1]
  exact o v r δ x h3 e
theorem Rd.any {f : List Sl → Rs AV} {p : Option α} (hh : Rd f Γ p enc) : Rd f Γ (p.bind fun d => some (enc d)) (enc : PyData → PyData) := fun r e δ s => by
  obtain ⟨v, e1, e⟩ := bind_of e
  cases some_of e
  exact hh _ e1 δ s
end
def addI (i j : Int) : Option Int := some (i + j)
def subI (i j : Int) : Option Int := some (i - j)
def mulI (i j : Int) : Option Int := if i.natAbs < 2 ^ 64 ∨ j.natAbs < 2 ^ 64 then some (i * j) else none
def modI (i j : Int) : Option Int := if 0 < j then some (i % j) else none
def ltI (i j : Int) : Option Bool := some (decide (i < j))
def leI (i j : Int) : Option Bool := some (decide (i ≤ j))
def geI (i j : Int) : Option Bool := some (decide (j ≤ i))
def maxI2 (i j : Int) : Option Int := some (if j > i then j else i)
def minI2 (i j : Int) : Option Int := some (if j < i then j else i)
def negI (i : Int) : Option Int := some (-i)
section
variable {g : Int → Int → Int} {C : Int → Int → Bool}
theorem op_gI {op : Int → Int → Option Int} (h : ∀ i j r, op i j = some r → C i j = true ∧ r = g i j) : Op2 (gI C g) op fun r => .val (enc r) := fun v w r δ x y h1 _ h2 _ e => by
  obtain ⟨c, rfl⟩ := h v w r e
  have h1 : rdC δ x = some (.int v) := h1
  have h2 : rdC δ y = some (.int w) := h2
  simp only [gI, h1, h2, c]
  rfl
theorem op_gI0 : Op2 (gI yes2 g) (fun i j => some (g i j)) fun r => .val (enc r) := op_gI fun i j r e => ⟨rfl, some_of e⟩
theorem op_gIc {C : Int → Int → Prop} [∀ i j, Decidable (C i j)] : Op2 (gI (fun i j => decide (C i j)) g) (fun i j => if C i j then some (g i j) else none) fun r => .val (enc r) := op_gI fun i j r e => by
  have e : (if C i j then some (g i j) else none) = some r := e
  by_cases c : C i j
  · rw [if_pos c] at e
    exact ⟨decide_eq_true c, some_of e⟩
  · rw [if_neg c] at e
    cases e
theorem op_gB {g : Int → Int → Bool} : Op2 (gB g) (fun i j => some (g i j)) fun r => .val (enc r) := fun v w r δ x y h1 _ h2 _ e => by
  have h1 : rdC δ x = some (.int v) := h1
  have h2 : rdC δ y = some (.int w) := h2
  cases some_of e
  simp only [gB, h1, h2]
  rfl
theorem op_sub : Op2 gSub subI fun r => .val (enc r) := op_gI0
theorem op_max2 : Op2 gMax2 maxI2 fun r => .val (enc r) := op_gI0
theorem op_min2 : Op2 gMin2 minI2 fun r => .val (enc r) := op_gI0
theorem op_mod : Op2 gMod modI fun r => .val (enc r) := op_gIc (C := fun _ j => 0 < j)
theorem op_lt : Op2 gLt ltI fun r => .val (enc r) := op_gB
theorem op_le : Op2 gLe leI fun r => .val (enc r) := op_gB
theorem op_ge : Op2 gGe geI fun r => .val (enc r) := op_gB
theorem op_neg : Op1 gNeg negI fun r => .val (enc r) := fun v r δ x h1 _ e => by
  have h1 : rdC δ x = some (.int v) := h1
  cases some_of e
  simp only [gNeg, h1]
  rfl
theorem op_add : Op2 gAdd addI fun r => .val (enc r) := fun v w r δ x y h1 _ h2 _ e => by
  have h1 : rdC δ x = some (.int v) := h1
  have h2 : rdC δ y = some (.int w) := h2
  cases some_of e
  simp only [gAdd, h1, h2]
  rfl
theorem op_mul : Op2 gMulX mulI fun r => .val (enc r) := fun v w r δ x y h1 _ h2 _ e => by
  have h1 : rdC δ x = some (.int v) := h1
  have h2 : rdC δ y = some (.int w) := h2
  unfold mulI at e
  by_cases c : v.natAbs < 2 ^ 64 ∨ w.natAbs < 2 ^ 64
  · rw [if_pos c] at e
    cases some_of e
    simp only [gMulX, h1, h2, if_pos c]
    rfl
  · rw [if_neg c] at e
    cases e
end
def catL {α : Type} (xs ys : List α) : Option (List α) := if xs.length ≤ cap ∧ ys.length ≤ cap then some (xs ++ ys) else none
def repL {α : Type} (xs : List α) (k : Int) : Option (List α) := if xs.length ≤ 1000 ∧ 0 ≤ k ∧ k ≤ 1000 then some (List.replicate k.toNat xs).flatten else none
def lenL {α : Type} (xs : List α) : Option Int := some xs.length
def lenA (d : PyData) : Option Int := (lenD d).bind fun d => match d with
  | .int i => some i
  | _ => none
def atL {α : Type} (xs : List α) (i : Int) : Option α := atI xs i
def cutL {α : Type} (xs : List α) (lo hi : Option Int) : List α := (xs.drop (HT.sIx xs.length 0 lo)).take (HT.sIx xs.length xs.length hi - HT.sIx xs.length 0 lo)
def rgL (a b : Int) : List Int := (List.range (b - a).toNat).map fun i => a + (i : Nat)
def rg1 (n : Int) : Option (List Int) := if (-1000000 ≤ (0 : Int) ∧ (0 : Int) ≤ 1000000) ∧ -1000000 ≤ n ∧ n ≤ 1000000 then some (rgL 0 n) else none
def absI (i : Int) : Option Int := some (if i < 0 then -i else i)
def intI (i : Int) : Option Int := some i
def intB (k : Bool) : Option Int := some (if k then 1 else 0)
def allB (ns : List Bool) : Option Bool := some (ns.all id)
def listL {α : Type} (xs : List α) : Option (List α) := some xs
def tupL {α : Type} (xs : List α) : Option (Tp α) := some ⟨xs⟩
def isiN (T : String) (d : PyData) : Option Bool := some (isiB (tyD d) T)
def reprN (d : PyData) : Option Str := if (shw d = true ∧ d.depth ≤ 60) ∧ d.shown.length ≤ sizeLine then some d.shown else none
def strI (i : Int) : Option Str := if i.natAbs.log2 < 1920 then some (toString i : String) else none
theorem allFz_inv : ∀ {xs : List El} {ds : List PyData}, allFz xs = some ds → xs = ds.map .fz
  | [], _, h => by cases h; rfl
  | .fz d :: r, ds, h => by
    have h : (allFz r).map (d :: ·) = some ds := h
    cases q : allFz r with
    | none => rw [q] at h; cases h
    | some es =>
      rw [q] at h
      cases h
      rw [allFz_inv q]
      rfl
  | .ow _ :: _, _, h => by cases h
section
variable {α β : Type} [Enc α] [Enc β]
theorem op_cat : Op2 gAdd (catL (α := α)) fun r => .tmp (ow r) := fun v w r δ x y h1 _ h2 _ e => by
  have h1 : rdC δ x = some (.list (v.map enc)) := h1
  have h2 : rdC δ y = some (.list (w.map enc)) := h2
  unfold catL at e
  by_cases c : v.length ≤ cap ∧ w.length ≤ cap
  · rw [if_pos c] at e
    cases some_of e
    simp only [gAdd, h1, h2, List.length_map, if_pos c, ow, List.map_append]
  · rw [if_neg c] at e
    cases e
theorem op_rep : Op2 gMulX (repL (α := α)) fun r => .tmp (ow r) := fun v w r δ x y h1 _ h2 _ e => by
  have h1 : rdC δ x = some (.list (v.map enc)) := h1
  have h2 : rdC δ y = some (.int w) := h2
  unfold repL at e
  by_cases c : v.length ≤ 1000 ∧ 0 ≤ w ∧ w ≤ 1000
  · rw [if_pos c] at e
    cases some_of e
    simp only [gMulX, h1, h2, List.length_map, if_pos c, ow]
    simp only [List.map_flatten, List.map_replicate]
  · rw [if_neg c] at e
    cases e
theorem item_list {δ : List Sl} {x : AV} {ds : List PyData} (h : rdC δ x = some (.list ds)) (i : Int) : itemA δ x (.int i) = atI ds i := by
  cases x with
  | val d => cases h; rfl
  | tmp s => cases h
  | ref k =>
    unfold rdC at h
    unfold itemA
    cases q : δ[k]? with
    | none => simp only [q] at h; cases h
    | some s =>
      cases s with
      | no => simp only [q] at h; cases h
      | od kvs => simp only [q] at h; cases h
      | fz d => simp only [q] at h ⊢; cases h; rfl
      | ol xs =>
        simp only [q] at h ⊢
        cases q2 : allFz xs with
        | none => rw [q2] at h; cases h
        | some es =>
          rw [q2] at h
          cases h
          rw [allFz_inv q2, atI_map]
          cases atI ds i <;> rfl
      | al y j =>
        simp only [q] at h ⊢
        cases q2 : δ[y]? with
        | none => simp only [q2] at h; cases h
        | some t =>
          cases t with
          | ol xs =>
            simp only [q2] at h ⊢
            cases q3 : xs[j]? with
            | none => rw [q3] at h; cases h
            | some el =>
              rw [q3] at h
              cases el with
              | fz d => cases h; rfl
              | ow ys => cases h; rfl
          | _ => simp only [q2] at h; cases h
theorem item_tup {δ : List Sl} {x : AV} {ds : List PyData} (h : rdC δ x = some (.tuple ds)) (i : Int) : itemA δ x (.int i) = atI ds i := by
  cases x with
  | val d => cases h; rfl
  | tmp s => cases h
  | ref k =>
    unfold rdC at h
    unfold itemA
    cases q : δ[k]? with
    | none => simp only [q] at h; cases h
    | some s =>
      cases s with
      | no => simp only [q] at h; cases h
      | od kvs => simp only [q] at h; cases h
      | fz d => simp only [q] at h ⊢; cases h; rfl
      | ol xs =>
        simp only [q] at h
        cases q2 : allFz xs with
        | none => rw [q2] at h; cases h
        | some es => rw [q2] at h; cases h
      | al y j =>
        simp only [q] at h ⊢
        cases q2 : δ[y]? with
        | none => simp only [q2] at h; cases h
        | some t =>
          cases t with
          | ol xs =>
            simp only [q2] at h ⊢
            cases q3 : xs[j]? with
            | none => rw [q3] at h; cases h
            | some el =>
              rw [q3] at h
              cases el with
              | fz d => cases h; rfl
              | ow ys => cases h
          | _ => simp only [q2] at h; cases h
theorem op_ix : Op2 gIx (atL (α := α)) fun r => .val (enc r) := fun v w r δ x y h1 _ h2 _ e => by
  have h2 : rdC δ y = some (.int w) := h2
  simp only [gIx, h2, item_list (show rdC δ x = some (.list (v.map enc)) from h1), atI_map]
  have e : atI v w = some r := e
  rw [e]
  rfl
/-- x[k], k written, of a tuple of other things -/
theorem pu_tix {γ : Type} [Enc γ] {Γ : Ga} {fa : List Sl → Rs AV} {pa : Option α} {π : α → γ} {k : Int} {ds : α → List PyData} (ha : Rd fa Γ pa enc) (h1 : ∀ v : α, enc v = .tuple (ds v)) (h2 : ∀ v, atI (ds v) k = some (enc (π v))) : Pu (s2 gIx fa (sC (.int k))) Γ (pa.bind fun v => some (π v)) fun r => .val (enc r) := fun r e δ s => by
  obtain ⟨v, e1, e⟩ := bind_of e
  cases some_of e
  obtain ⟨x, q1, q2, q3⟩ := ha v e1 δ s
  unfold Hb.s2
  rw [q1]
  show gIx x (.val (.int k)) δ = _
  rw [h1] at q2
  simp only [gIx, rdC, item_tup q2, h2]
theorem op_len : Op1A (gRd lenD) (lenL (α := α)) fun r => .val (enc r) := fun v r δ x h e => by
  have h : rdA δ x = some (.list (v.map enc)) := h
  cases some_of e
  simp only [gRd, h, Option.bind_some, lenD, List.length_map, flatD, if_true]
  rfl
theorem op_lenA : Op1A (gRd lenD) lenA fun r => .val (enc r) := fun v r δ x h e => by
  have h : rdA δ x = some v := h
  unfold lenA at e
  obtain ⟨d, e1, e2⟩ := bind_of e
  cases d with
  | int i =>
    cases some_of e2
    simp only [gRd, h, Option.bind_some, e1, flatD, if_true]
    rfl
  | _ => cases e2
theorem op_rd {k : PyData → Option PyData} {op : α → Option β} (hf : ∀ v r, op v = some r → k (enc v) = some (enc r) ∧ flatD (enc r) = true) : Op1A (gRd k) op fun r => .val (enc r) := fun v r δ x h e => by
  obtain ⟨h1, h2⟩ := hf v r e
  simp only [gRd, h, Option.bind_some, h1, h2, if_true]
theorem op_abs : Op1A (gRd absD) absI fun r => .val (enc r) := op_rd fun v r e => by cases some_of e; exact ⟨rfl, rfl⟩
theorem op_int : Op1A (gRd intD) intI fun r => .val (enc r) := op_rd fun v r e => by cases some_of e; exact ⟨rfl, rfl⟩
theorem op_intB : Op1A (gRd intD) intB fun r => .val (enc r) := op_rd fun v r e => by cases some_of e; exact ⟨rfl, rfl⟩
theorem op_all : Op1A (gRd (overB fun ns => some (.bool (ns.all id)))) allB fun r => .val (enc r) := op_rd fun v r e => by
  cases some_of e
  refine ⟨?_, rfl⟩
  show (boolsOf (v.map .bool)).bind _ = _
  rw [boolsOf_map]
  rfl
theorem op_isi {T : String} : Op1A (gIsi T) (isiN T) fun r => .val (enc r) := op_rd fun v r e => by
  cases some_of e
  exact ⟨rfl, rfl⟩
theorem op_repr : Op1A (gRd reprD) reprN fun r => .val (enc r) := op_rd fun v r e => by
  unfold reprN at e
  split at e
  · rename_i c
    cases some_of e
    exact ⟨if_pos c, rfl⟩
  · cases e
theorem op_strI : Op1A (gRd strD) strI fun r => .val (enc r) := op_rd fun v r e => by
  unfold strI at e
  split at e
  · rename_i c
    cases some_of e
    exact ⟨if_pos c, rfl⟩
  · cases e
theorem op_list : Op1 gList (listL (α := α)) fun r => .tmp (ow r) := fun v r δ x h _ e => by
  have h : rdC δ x = some (.list (v.map enc)) := h
  cases some_of e
  simp only [gList, h, ow]
theorem op_tup : Op1 gTuple (tupL (α := α)) fun r => .val (enc r) := fun v r δ x h _ e => by
  have h : rdC δ x = some (.list (v.map enc)) := h
  cases some_of e
  simp only [gTuple, h]
  rfl
theorem rgD_L (m n : Int) : rgD m n = (rgL m n).map enc := by
  unfold rgD rgL
  rw [List.map_map]
  rfl
theorem op_rg1 : Op1 gRg1 rg1 fun r => .tmp (ow r) := fun v r δ x h _ e => by
  have h : rdC δ x = some (.int v) := h
  unfold rg1 at e
  split at e
  · rename_i c
    cases some_of e
    simp only [gRg1, h, mkRg, if_pos c, rgD_L]
    rfl
  · cases e
end
end Nv
namespace Nv
open PySem Hb L2
open Enc (enc)
class EncEq (α : Type) [Enc α] [DecidableEq α] where
  n : Nat
  eqv : ∀ x y : α, PyData.eqv (enc x) (enc y) = decide (x = y)
  lay : ∀ x : α, (enc x).canLay0 = true
  dep : ∀ x : α, (enc x).depth ≤ n
class NotNone (α : Type) [Enc α] : Prop where
  a : ∀ x : α, PyData.eqv (enc x) .none = false
  b : ∀ x : α, PyData.eqv .none (enc x) = false
  c : ∀ x : α, enc x ≠ .none
instance : NotNone Int := ⟨fun _ => by simp [enc, PyData.eqv], fun _ => by simp [enc, PyData.eqv], fun _ h => nomatch h⟩
instance : NotNone Bool := ⟨fun _ => by simp [enc, PyData.eqv], fun _ => by simp [enc, PyData.eqv], fun _ h => nomatch h⟩
instance : NotNone Str := ⟨fun _ => by simp [enc, PyData.eqv], fun _ => by simp [enc, PyData.eqv], fun _ h => nomatch h⟩
instance {α : Type} [Enc α] : NotNone (List α) := ⟨fun _ => by simp [enc, PyData.eqv], fun _ => by simp [enc, PyData.eqv], fun _ h => nomatch h⟩
instance {α : Type} [Enc α] : NotNone (Tp α) := ⟨fun _ => by simp [enc, PyData.eqv], fun _ => by simp [enc, PyData.eqv], fun _ h => nomatch h⟩
instance {α β : Type} [Enc α] [Enc β] : NotNone (α × β) := ⟨fun _ => by simp [enc, PyData.eqv], fun _ => by simp [enc, PyData.eqv], fun _ h => nomatch h⟩
instance {α β γ : Type} [Enc α] [Enc β] [Enc γ] : NotNone (T3 α β γ) := ⟨fun _ => by simp [enc, PyData.eqv], fun _ => by simp [enc, PyData.eqv], fun _ h => nomatch h⟩
instance : EncEq Int := ⟨0, fun x y => by simp [enc, PyData.eqv]; by_cases h : x = y <;> simp [h], fun _ => by simp [enc, PyData.canLay0], fun _ => by simp [enc, PyData.depth]⟩
instance : EncEq Bool := ⟨0, fun x y => by cases x <;> cases y <;> simp [enc, PyData.eqv], fun _ => by simp [enc, PyData.canLay0], fun _ => by simp [enc, PyData.depth]⟩
instance : EncEq Unit := ⟨0, fun x y => by simp [enc, PyData.eqv], fun _ => by simp [enc, PyData.canLay0], fun _ => by simp [enc, PyData.depth]⟩
section
variable {α : Type} [Enc α] [DecidableEq α] [EncEq α]
theorem eqvAll_enc : ∀ xs ys : List α, PyData.eqvAll (xs.map enc) (ys.map enc) = decide (xs = ys)
  | [], [] => by simp [PyData.eqvAll]
  | [], y :: ys => by simp [PyData.eqvAll]
  | x :: xs, [] => by simp [PyData.eqvAll]
  | x :: xs, y :: ys => by
    simp only [List.map_cons, PyData.eqvAll, eqvAll_enc xs ys, EncEq.eqv]
    by_cases h : x = y <;> by_cases h2 : xs = ys <;> simp [h, h2]
theorem layAll_enc : ∀ xs : List α, PyData.canLayAll0 (xs.map enc) = true
  | [] => by simp [PyData.canLayAll0]
  | x :: xs => by simp [PyData.canLayAll0, EncEq.lay, layAll_enc xs]
theorem depAll_enc : ∀ xs : List α, PyData.depthAll (xs.map enc) ≤ EncEq.n α
  | [] => by simp [PyData.depthAll]
  | x :: xs => by
    have h1 := EncEq.dep x
    have h2 := depAll_enc xs
    simp only [List.map_cons, PyData.depthAll]
    omega
end
instance {α : Type} [Enc α] [DecidableEq α] [EncEq α] : EncEq (List α) := ⟨EncEq.n α + 1, fun x y => by
    show PyData.eqv (.list _) (.list _) = _
    simp only [PyData.eqv]
    exact eqvAll_enc x y, fun x => by
    show PyData.canLay0 (.list _) = true
    simp only [PyData.canLay0]
    exact layAll_enc x, fun x => by
    show PyData.depth (.list _) ≤ _
    simp only [PyData.depth]
    have := depAll_enc x
    omega⟩
instance {α : Type} [Enc α] [DecidableEq α] [EncEq α] : EncEq (Tp α) := ⟨EncEq.n α + 1, fun x y => by
    show PyData.eqv (.tuple _) (.tuple _) = _
    simp only [PyData.eqv]
    rw [eqvAll_enc]
    cases x; cases y
    simp, fun x => by
    show PyData.canLay0 (.tuple _) = true
    simp only [PyData.canLay0]
    exact layAll_enc x.l, fun x => by
    show PyData.depth (.tuple _) ≤ _
    simp only [PyData.depth]
    have := depAll_enc x.l
    omega⟩
instance {α β : Type} [Enc α] [DecidableEq α] [EncEq α] [Enc β] [DecidableEq β] [EncEq β] : EncEq (α × β) := ⟨max (EncEq.n α) (EncEq.n β) + 1, fun x y => by
    show PyData.eqv (.tuple _) (.tuple _) = _
    simp only [PyData.eqv, PyData.eqvAll, EncEq.eqv, Bool.and_true]
    cases x; cases y
    rw [← Bool.decide_and]
    simp, fun x => by
    show PyData.canLay0 (.tuple _) = true
    simp only [PyData.canLay0, PyData.canLayAll0, EncEq.lay, Bool.and_true], fun x => by
    show PyData.depth (.tuple _) ≤ _
    simp only [PyData.depth, PyData.depthAll]
    have h1 := EncEq.dep x.1
    have h2 := EncEq.dep x.2
    omega⟩
instance {α β γ : Type} [Enc α] [DecidableEq α] [EncEq α] [Enc β] [DecidableEq β] [EncEq β] [Enc γ] [DecidableEq γ] [EncEq γ] : EncEq (T3 α β γ) := ⟨max (EncEq.n α) (max (EncEq.n β) (EncEq.n γ)) + 1, fun x y => by
    show PyData.eqv (.tuple _) (.tuple _) = _
    simp only [PyData.eqv, PyData.eqvAll, EncEq.eqv, Bool.and_true]
    cases x; cases y
    rw [← Bool.decide_and, ← Bool.decide_and]
    simp, fun x => by
    show PyData.canLay0 (.tuple _) = true
    simp only [PyData.canLay0, PyData.canLayAll0, EncEq.lay, Bool.and_true], fun x => by
    show PyData.depth (.tuple _) ≤ _
    simp only [PyData.depth, PyData.depthAll]
    have h1 := EncEq.dep x.a
    have h2 := EncEq.dep x.b
    have h3 := EncEq.dep x.c
    omega⟩
instance {α : Type} [Enc α] [DecidableEq α] [EncEq α] [NotNone α] : EncEq (Option α) := ⟨EncEq.n α, fun x y => by
    cases x with
    | none =>
      cases y with
      | none => simp [enc, PyData.eqv]
      | some y => exact (NotNone.b y).trans (by simp)
    | some x =>
      cases y with
      | none => exact (NotNone.a x).trans (by simp)
      | some y =>
        show PyData.eqv (enc x) (enc y) = _
        rw [EncEq.eqv]
        simp, fun x => by
    cases x with
    | none => simp [enc, PyData.canLay0]
    | some x => exact EncEq.lay x, fun x => by
    cases x with
    | none => simp [enc, PyData.depth]
    | some x => exact EncEq.dep x⟩
def eqN {α : Type} [DecidableEq α] (x y : α) : Option Bool := some (decide (x = y))
def neN {α : Type} [DecidableEq α] (x y : α) : Option Bool := some (!decide (x = y))
def eqS (x y : Str) : Option Bool := some (x.cps.toList == y.cps.toList)
def idxL {α : Type} [DecidableEq α] (xs : List α) (x : α) : Option Int := (xs.findIdx? fun z => decide (z = x)).map fun i => (i : Int)
section
variable {α β : Type} [Enc α] [DecidableEq α] [EncEq α]
theorem shaped_enc (h : EncEq.n α ≤ 64) (x : α) : SeqAt.shaped (enc x) = true := by
  unfold SeqAt.shaped
  have := EncEq.dep x
  rw [EncEq.lay, Bool.true_and, decide_eq_true_eq]
  omega
theorem eqD_enc (h : EncEq.n α ≤ 64) (x y : α) : eqD (enc x) (enc y) = some (decide (x = y)) := by
  unfold eqD
  rw [if_pos ⟨shaped_enc h x, shaped_enc h y⟩, EncEq.eqv]
theorem op_eq (h : EncEq.n α ≤ 64 := by decide) : Op2A gEq (eqN (α := α)) fun r => .val (enc r) := fun v w r δ x y h1 h2 e => by
  cases some_of e
  simp only [gEq, h1, h2, eqD_enc h]
  rfl
theorem op_ne (h : EncEq.n α ≤ 64 := by decide) : Op2A gNe (neN (α := α)) fun r => .val (enc r) := fun v w r δ x y h1 h2 e => by
  cases some_of e
  simp only [gNe, h1, h2, eqD_enc h]
  rfl
theorem op_idx (h : EncEq.n α ≤ 63 := by decide) : Op2 gIdx (idxL (α := α)) fun r => .val (enc r) := fun v w r δ x y h1 _ h2 _ e => by
  have h1 : rdC δ x = some (.list (v.map enc)) := h1
  have hs : SeqAt.shaped (.list (v.map enc)) = true := shaped_enc (α := List α) (by show EncEq.n α + 1 ≤ 64; omega) v
  have ef : (v.map enc).findIdx? (fun z => PyData.eqv z (enc w)) = v.findIdx? fun z => decide (z = w) := by
    rw [List.findIdx?_map]
    congr 1
    funext z
    exact EncEq.eqv z w
  unfold idxL at e
  cases q : v.findIdx? fun z => decide (z = w) with
  | none => rw [q] at e; cases e
  | some j =>
    rw [q] at e
    cases some_of e
    simp only [gIdx, h1, h2, if_pos (And.intro hs (shaped_enc (by omega) w)), ef, q]
    rfl
end
section
variable {α β : Type} [Enc α] {Γ : Ga} {fa fb : List Sl → Rs AV}
theorem rdA_val (d : PyData) (δ : List Sl) : rdA δ (.val d) = some d := rfl
theorem pu_eqE {n : Bool} {pa : Option (List α)} (ha : Ra fa Γ pa enc) : Pu (s2 (gEqE n) fa (sLst lNil)) Γ (pa.bind fun x => some (n != x.isEmpty)) fun r => .val (enc r) := fun r e δ s => by
  obtain ⟨v, e1, e⟩ := bind_of e
  cases some_of e
  obtain ⟨x, h1, h3⟩ := ha v e1 δ s
  unfold s2
  rw [h1]
  have h3 : rdA δ x = some (.list (v.map enc)) := h3
  show gEqE n x (.val (.list [])) δ = _
  simp only [gEqE, h3, rdA_val, List.isEmpty_map]
  rfl
theorem ev_eqE {ε : Type} {n : Bool} {pa : Option ε} {va : ε → List α} {Γ' : ε → Ga} (ha : Es fa Γ pa (fun x => enc (va x)) Γ') : Ev (s2 (gEqE n) fa (sLst lNil)) Γ (pa.bind fun x => some (n != (va x).isEmpty, x)) (fun r => .val (enc r.1)) fun r => Γ' r.2 := fun r e δ s => by
  obtain ⟨v, e1, e⟩ := bind_of e
  cases some_of e
  obtain ⟨x, δ1, h1, h2, h3, s1⟩ := ha v e1 δ s
  refine ⟨δ1, ?_, s1⟩
  unfold s2
  rw [h1]
  have h3 : rdA δ1 x = some (.list ((va v).map enc)) := h3
  show gEqE n x (.val (.list [])) δ1 = _
  simp only [gEqE, h3, rdA_val, List.isEmpty_map]
  rfl
def noneD : PyData → Bool
  | .none => true
  | _ => false
theorem isD_none {d : PyData} : isD d .none = some (noneD d) := by cases d <;> rfl
theorem pu_isX {n : Bool} {pa : Option PyData} (ha : Ra fa Γ pa enc) : Pu (s2 (gIs n) fa (sC .none)) Γ (pa.bind fun d => some (if n = true then !(noneD d) else noneD d)) fun r => .val (enc r) := fun r e δ s => by
  obtain ⟨v, e1, e⟩ := bind_of e
  cases some_of e
  obtain ⟨x, h1, h3⟩ := ha v e1 δ s
  unfold s2
  rw [h1]
  have h3 : rdA δ x = some v := h3
  show gIs n x (.val .none) δ = _
  simp only [gIs, h3, rdA_val, isD_none]
  rfl
theorem isNone_m [NotNone α] (x : Option α) : noneD (enc x : PyData) = x.isNone := by
  cases x with
  | none => rfl
  | some x =>
    show noneD (enc x : PyData) = false
    have := NotNone.c x
    cases q : (enc x : PyData) <;> first | rfl | exact absurd q this
theorem pu_isN [NotNone α] {n : Bool} {pa : Option (Option α)} (ha : Ra fa Γ pa enc) : Pu (s2 (gIs n) fa (sC .none)) Γ (pa.bind fun x => some (if n = true then x.isSome else x.isNone)) fun r => .val (enc r) := fun r e δ s => by
  obtain ⟨v, e1, e⟩ := bind_of e
  have h : Ra fa Γ (some (enc v : PyData)) (enc : PyData → PyData) := fun u eu δ s => by
    cases some_of eu
    exact ha v e1 δ s
  have k := pu_isX (n := n) h r (by
    rw [← e]
    show some _ = some _
    rw [isNone_m]
    cases n with
    | false => rfl
    | true =>
      cases v <;> rfl) δ s
  exact k
theorem op_eqS : Op2 (gEqS false) eqS fun r => .val (enc r) := fun v w r δ x y h1 _ h2 _ e => by
  have h1 : rdC δ x = some (.str v) := h1
  have h2 : rdC δ y = some (.str w) := h2
  cases some_of e
  simp only [gEqS, h1, h2]
  show Rs.ok (AV.val (.bool _)) δ = Rs.ok (AV.val (.bool _)) δ
  cases (v.cps.toList == w.cps.toList) <;> rfl
end
section
variable {α β ε ζ : Type} {Γ : Ga} {f : List Sl → Rs AV} {t u : List Sl → Rs Bool}
theorem ts_tst {p : Option Bool} (h : Pu f Γ p fun b => .val (enc b)) : Ts (sTst f) Γ p := fun v e δ s => by
  unfold sTst
  rw [h v e δ s]
  rfl
theorem ts_truB {p : Option Bool} (h : Ra f Γ p enc) : Ts (sTru f) Γ p := fun v e δ s => by
  obtain ⟨x, h1, h2⟩ := h v e δ s
  unfold sTru
  rw [h1]
  show (match (rdA δ x).bind truD with
    | some k => Rs.ok k δ
    | none => .bad) = _
  rw [h2]
  rfl
theorem ts_not {p : Option Bool} (h : Ts t Γ p) : Ts (sNot t) Γ (p.bind fun b => some !b) := fun r e δ s => by
  obtain ⟨v, e1, e⟩ := bind_of e
  cases some_of e
  unfold sNot
  rw [h v e1 δ s]
  rfl
theorem ts_and {p q : Option Bool} (h : Ts t Γ p) (k : Ts u Γ q) : Ts (sAnd t u) Γ (p.bind fun b => if b = true then q else some false) := fun r e δ s => by
  obtain ⟨v, e1, e⟩ := bind_of e
  unfold sAnd
  rw [h v e1 δ s]
  cases v with
  | true => exact k r e δ s
  | false => cases some_of e; rfl
theorem ts_or {p q : Option Bool} (h : Ts t Γ p) (k : Ts u Γ q) : Ts (sOr t u) Γ (p.bind fun b => if b = true then some true else q) := fun r e δ s => by
  obtain ⟨v, e1, e⟩ := bind_of e
  unfold sOr
  rw [h v e1 δ s]
  cases v with
  | true => cases some_of e; rfl
  | false => exact k r e δ s
theorem ts_ok : Ts tOk Γ (some true) := fun r e δ s => by cases some_of e; rfl
theorem te_tst {p : Option ε} {k : ε → Bool} {Γ' : ε → Ga} (h : Ev f Γ p (fun v => .val (enc (k v))) Γ') : Te (sTst f) Γ p k Γ' := fun v e δ s => by
  obtain ⟨δ', h1, s1⟩ := h v e δ s
  refine ⟨δ', ?_, s1⟩
  unfold sTst
  rw [h1]
  rfl
theorem pu_if {fa fb : List Sl → Rs AV} {pt : Option Bool} {pa pb : Option β} {a : β → AV} (h : Ts t Γ pt) (ha : Pu fa Γ pa a) (hb : Pu fb Γ pb a) : Pu (sIf t fa fb) Γ (pt.bind fun c => if c = true then pa else pb) a := fun r e δ s => by
  obtain ⟨v, e1, e⟩ := bind_of e
  unfold sIf
  rw [h v e1 δ s]
  cases v with
  | true => exact ha r e δ s
  | false => exact hb r e δ s
theorem pu_andV {fa fb : List Sl → Rs AV} {pa pb : Option Bool} (ha : Pu fa Γ pa fun b => .val (enc b)) (hb : Pu fb Γ pb fun b => .val (enc b)) : Pu (sAndV fa fb) Γ (pa.bind fun b => if b = true then pb else some false) fun b => .val (enc b) := fun r e δ s => by
  obtain ⟨v, e1, e⟩ := bind_of e
  unfold sAndV
  rw [sSt_val (ha v e1 δ s)]
  cases v with
  | true => exact hb r e δ s
  | false => cases some_of e; rfl
theorem pu_orV {fa fb : List Sl → Rs AV} {pa pb : Option Bool} (ha : Pu fa Γ pa fun b => .val (enc b)) (hb : Pu fb Γ pb fun b => .val (enc b)) : Pu (sOrV fa fb) Γ (pa.bind fun b => if b = true then some true else pb) fun b => .val (enc b) := fun r e δ s => by
  obtain ⟨v, e1, e⟩ := bind_of e
  unfold sOrV
  rw [sSt_val (ha v e1 δ s)]
  cases v with
  | true => cases some_of e; rfl
  | false => exact hb r e δ s
end
end Nv
namespace Nv
open PySem Hb L2
open Enc (enc)
section
variable {α β γ ε ζ : Type} {Γ : Ga} {f : List Sl → Rs AV}
def DlP (g : List Sl → Rs (List PyData)) (Γ : Ga) (p : Option β) (ds : β → List PyData) : Prop := ∀ v, p = some v → ∀ δ, Sat Γ δ → g δ = .ok (ds v) δ
variable {g : List Sl → Rs (List PyData)}
theorem dp_nil : DlP lNil Γ (some ()) fun _ => [] := fun v _ δ _ => rfl
theorem dp_cons {p : Option ε} {d : ε → PyData} {q : Option ζ} {ds : ζ → List PyData} (h : Pu (sTk f) Γ p fun v => .val (d v)) (h2 : DlP g Γ q ds) : DlP (lCons f g) Γ (p.bind fun x => q.bind fun y => some (x, y)) fun v => d v.1 :: ds v.2 := fun r e δ s => by
  obtain ⟨v, e1, e⟩ := bind_of e
  obtain ⟨w, e2, e⟩ := bind_of e
  cases some_of e
  unfold lCons Rs.val
  rw [h v e1 δ s]
  show (g δ).bind _ = _
  rw [h2 w e2 δ s]
  rfl
theorem pu_lst [Enc α] {p : Option β} {ds : β → List PyData} (h : DlP g Γ p ds) (xs : β → List α) (hx : ∀ v, ds v = (xs v).map enc := by intro _; rfl) (hl : ∀ v, (xs v).length ≤ cap := by intro _; exact Nat.le_of_ble_eq_true rfl) : Pu (sLst g) Γ (p.bind fun v => some (xs v)) fun r => .tmp (ow r) := fun r e δ s => by
  obtain ⟨v, e1, e⟩ := bind_of e
  cases some_of e
  unfold sLst
  rw [h v e1 δ s]
  show (if (ds v).length ≤ cap then _ else _) = _
  rw [hx v, List.length_map, if_pos (hl v)]
  rfl
theorem pu_tup [Enc α] {p : Option β} {ds : β → List PyData} (h : DlP g Γ p ds) (t : β → α) (hx : ∀ v, enc (t v) = .tuple (ds v) := by intro _; rfl) (hl : ∀ v, (ds v).length ≤ cap := by intro _; exact Nat.le_of_ble_eq_true rfl) : Pu (sTup g) Γ (p.bind fun v => some (t v)) fun r => .val (enc r) := fun r e δ s => by
  obtain ⟨v, e1, e⟩ := bind_of e
  cases some_of e
  unfold sTup
  rw [h v e1 δ s]
  show (if (ds v).length ≤ cap then _ else _) = _
  rw [if_pos (hl v)]
  show Rs.ok (AV.val (.tuple (ds v))) δ = Rs.ok (AV.val (enc (t v))) δ
  rw [hx]
end
section
variable {α β γ ε ζ : Type} {Γ : Ga} {f fl fh : List Sl → Rs AV}
/-- a bound -/
inductive Sb (Γ : Ga) : Option (List Sl → Rs AV) → Option (Option Int) → Prop
  | no : Sb Γ none (some none)
  | yes {f : List Sl → Rs AV} {p : Option Int} : Rd f Γ p enc → Sb Γ (some f) (p.bind fun i => some (some i))
theorem Sb.run {o : Option (List Sl → Rs AV)} {p : Option (Option Int)} (h : Sb Γ o p) {v : Option Int} (e : p = some v) {δ : List Sl} (s : Sat Γ δ) : sPartO o δ = .ok v δ := by
  cases h with
  | no => cases some_of e; rfl
  | yes h =>
    obtain ⟨i, e1, e⟩ := bind_of e
    cases some_of e
    obtain ⟨x, h1, h2, _⟩ := h i e1 δ s
    show (sSt _ δ).bind _ = _
    rw [h1]
    show (match rdC δ x with
      | some (.int i) => Rs.ok (some i) δ
      | _ => .bad) = _
    rw [h2]
    rfl
theorem cutD_map [Enc α] (xs : List α) (lo hi : Option Int) : cutD (xs.map enc) lo hi = (cutL xs lo hi).map enc := by
  unfold cutD cutL
  rw [List.length_map, List.map_take, List.map_drop]
theorem pu_sl [Enc α] {p : Option (List α)} {ol oh : Option (List Sl → Rs AV)} {pl ph : Option (Option Int)} (h : Rd f Γ p enc) (hl : Sb Γ ol pl) (hh : Sb Γ oh ph) : Pu (sSl f ol oh) Γ (p.bind fun x => pl.bind fun l => ph.bind fun u => some (cutL x l u)) fun r => .tmp (ow r) := fun r e δ s => by
  obtain ⟨v, e1, e⟩ := bind_of e
  obtain ⟨l, e2, e⟩ := bind_of e
  obtain ⟨u, e3, e⟩ := bind_of e
  cases some_of e
  obtain ⟨x, h1, h2, _⟩ := h v e1 δ s
  have h2 : rdC δ x = some (.list (v.map enc)) := h2
  unfold sSl
  rw [h1]
  show (sPartO ol δ).bind _ = _
  rw [hl.run e2 s]
  show (sPartO oh δ).bind _ = _
  rw [hh.run e3 s]
  show gSl x l u δ = _
  simp only [gSl, h2, cutD_map]
  rfl
end
section
variable {α β γ ε ζ : Type} {Γ : Ga} {fo fa : List Sl → Rs AV}
theorem isLst_of [Enc α] {δ : List Sl} {x : AV} {v : List α} (h : rdA δ x = some (enc v)) : isLst δ x = true := by
  have h : rdA δ x = some (.list (v.map enc)) := h
  simp only [isLst, h]
theorem pu_idx [Enc α] [DecidableEq α] [EncEq α] {pa : Option (List α)} {pb : Option α} (ha : Rd fo Γ pa enc) (hb : Rd fa Γ pb enc) (hn : EncEq.n α ≤ 63 := by decide) : Pu (sIdx fo fa) Γ (pa.bind fun v => pb.bind fun w => idxL v w) fun r => .val (enc r) := fun r e δ s => by
  obtain ⟨v, e1, e⟩ := bind_of e
  obtain ⟨w, e2, e⟩ := bind_of e
  obtain ⟨x, h1, h2, h3⟩ := ha v e1 δ s
  obtain ⟨y, k1, k2, k3⟩ := hb w e2 δ s
  unfold sIdx
  rw [h1]
  show (if isLst δ x = true then _ else _) = _
  rw [if_pos (isLst_of h3), k1]
  exact op_idx hn v w r δ x y h2 h3 k2 k3 e
theorem sVar_own {k : Nat} {δ : List Sl} {xs : List El} (h : δ[k]? = some (.ol xs)) : sVar k δ = .ok (.ref k) δ := by
  unfold sVar; rw [h]
theorem isLst_ref {k : Nat} {δ : List Sl} {xs : List El} (h : δ[k]? = some (.ol xs)) : isLst δ (.ref k) = true := by
  simp only [isLst, rdA, h, Sl.tree]
def apL {α : Type} (xs : List α) (x : α) : Option (List α) := if xs.length ≤ cap then some (xs ++ [x]) else none
/-- the item's value in the words of what it gives -/
theorem ev_app [Enc α] {k : Nat} {p : Option ε} {va : ε → α} {xs : ε → List α} {Γ1 : ε → Ga} {s0 : Sl} {es : List El} (h0 : Γ[k]? = some (.eq s0)) (hs0 : s0 = .ol es) (ha : Ev (sTk fa) Γ p (fun x => .val (enc (va x))) Γ1) (h1 : ∀ x, (Γ1 x)[k]? = some (.eq (ow (xs x)))) :
    Ev (sApp (sVar k) fa) Γ (p.bind fun x => (apL (xs x) (va x)).bind fun ys => some (ys, x)) (fun _ => .val .none) fun r => upP k (.eq (ow r.1)) (Γ1 r.2) := fun r e δ s => by
  obtain ⟨v, e1, e⟩ := bind_of e
  obtain ⟨ys, e2, e⟩ := bind_of e
  cases some_of e
  obtain ⟨δ1, q1, s1⟩ := ha v e1 δ s
  subst hs0
  have hk := s.at_ h0
  have hk1 := s1.at_ (h1 v)
  unfold apL at e2
  by_cases c : (xs v).length ≤ cap
  · rw [if_pos c] at e2
    cases some_of e2
    refine ⟨_, ?_, s1.up (p := .eq (ow (xs v ++ [va v]))) rfl⟩
    unfold sApp
    rw [sSt_ref (sVar_own hk)]
    show (if isLst δ (.ref k) = true then _ else _) = _
    rw [if_pos (isLst_ref hk)]
    unfold Rs.val
    rw [q1]
    show appI k (enc (va v)) δ1 = _
    unfold appI
    rw [hk1]
    simp only [ow, List.length_map, if_pos c, List.map_append]
    rfl
  · rw [if_neg c] at e2
    cases e2
def popL {α : Type} (xs : List α) (i : Int) : Option (α × List α) := (ixN xs.length i).bind fun j => (xs[j]?).bind fun x => if xs.length ≤ cap then some (x, xs.eraseIdx j) else none
theorem erase_map {α β : Type} (f : α → β) : ∀ (xs : List α) (j : Nat), (xs.map f).eraseIdx j = (xs.eraseIdx j).map f
  | [], _ => rfl
  | x :: r, 0 => rfl
  | x :: r, j + 1 => by
    show f x :: (r.map f).eraseIdx j = f x :: (r.eraseIdx j).map f
    rw [erase_map f r j]
theorem popI_ok [Enc α] {k : Nat} {xs : List α} {i : Int} {r : α × List α} {δ : List Sl} (h : δ[k]? = some (ow xs)) (e : popL xs i = some r) : popI k i δ = .ok (.val (enc r.1)) (upS k (ow r.2) δ) := by
  obtain ⟨j, e1, e⟩ := bind_of e
  obtain ⟨x, e2, e⟩ := bind_of e
  by_cases c : xs.length ≤ cap
  · rw [if_pos c] at e
    cases some_of e
    unfold popI
    rw [h]
    simp only [ow, allFz_map, List.length_map, e1, List.getElem?_map, e2, Option.map_some, if_pos c, erase_map]
  · rw [if_neg c] at e
    cases e
theorem ev_pop1 [Enc α] {k : Nat} {p : Option ε} {va : ε → Int} {xs : ε → List α} {Γ1 : ε → Ga} {s0 : Sl} {es : List El} (h0 : Γ[k]? = some (.eq s0)) (hs0 : s0 = .ol es) (ha : Ev (sTk fa) Γ p (fun x => .val (enc (va x))) Γ1) (h1 : ∀ x, (Γ1 x)[k]? = some (.eq (ow (xs x)))) :
    Ev (sPop1 (sVar k) fa) Γ (p.bind fun x => (popL (xs x) (va x)).bind fun y => some (y, x)) (fun r => .val (enc r.1.1)) fun r => upP k (.eq (ow r.1.2)) (Γ1 r.2) := fun r e δ s => by
  obtain ⟨v, e1, e⟩ := bind_of e
  obtain ⟨y, e2, e⟩ := bind_of e
  cases some_of e
  obtain ⟨δ1, q1, s1⟩ := ha v e1 δ s
  subst hs0
  have hk := s.at_ h0
  have hk1 := s1.at_ (h1 v)
  refine ⟨_, ?_, s1.up (p := .eq (ow y.2)) rfl⟩
  unfold sPop1
  rw [sSt_ref (sVar_own hk)]
  show (if isLst δ (.ref k) = true then _ else _) = _
  rw [if_pos (isLst_ref hk)]
  unfold Rs.val
  rw [q1]
  exact popI_ok hk1 e2
end
section
variable {α β γ ε ζ ρ : Type} {Γ : Ga} {f : List Sl → Rs AV} {g : List Sl → Rs (List Ar)}
def Ag (g : List Sl → Rs (List Ar)) (Γ : Ga) (p : Option β) (as : β → List Ar) (Γ' : β → Ga) : Prop := ∀ v, p = some v → ∀ δ, Sat Γ δ → ∃ δ', g δ = .ok (as v) δ' ∧ Sat (Γ' v) δ'
def AgP (g : List Sl → Rs (List Ar)) (Γ : Ga) (p : Option β) (as : β → List Ar) : Prop := ∀ v, p = some v → ∀ δ, Sat Γ δ → g δ = .ok (as v) δ
def arV : AV → Ar
  | .val d => .fz d
  | .tmp s => .own s
  | .ref k => .io k
def noRef : AV → Bool
  | .ref _ => false
  | _ => true
theorem arOf_V {a : AV} (h : noRef a = true) : arOf a = some (arV a) := by cases a <;> first | rfl | cases h
theorem nodup1 (k : Nat) : [k].Nodup := by simp
theorem ap_nil : AgP rNil Γ (some ()) fun _ => [] := fun v _ δ _ => rfl
theorem ap_cons {p : Option ε} {a : ε → AV} {q : Option ζ} {as : ζ → List Ar} (h : Pu f Γ p a) (h2 : AgP g Γ q as) (hr : ∀ v, noRef (a v) = true := by intro _; rfl) : AgP (rCons f g) Γ (p.bind fun x => q.bind fun y => some (x, y)) fun v => arV (a v.1) :: as v.2 := fun z e δ s => by
  obtain ⟨v, e1, e⟩ := bind_of e
  obtain ⟨w, e2, e⟩ := bind_of e
  cases some_of e
  unfold rCons
  rw [h v e1 δ s]
  show (match arOf (a v) with
    | some r => (g δ).bind fun rs δ2 => Rs.ok (r :: rs) δ2
    | none => .bad) = _
  rw [arOf_V (hr v)]
  show (g δ).bind _ = _
  rw [h2 w e2 δ s]
  rfl
theorem ag_nil : Ag rNil Γ (some ()) (fun _ => []) fun _ => Γ := fun v _ δ s => ⟨δ, rfl, s⟩
theorem ag_cons {p : Option ε} {a : ε → AV} {Γ1 : ε → Ga} {q : ε → Option ζ} {as : ζ → List Ar} {Γ2 : ε → ζ → Ga} (h : Ev f Γ p a Γ1) (h2 : ∀ x, Ag g (Γ1 x) (q x) as (Γ2 x)) (hr : ∀ v, noRef (a v) = true := by intro _; rfl) : Ag (rCons f g) Γ (p.bind fun x => (q x).bind fun y => some (x, y)) (fun v => arV (a v.1) :: as v.2) fun v => Γ2 v.1 v.2 := fun z e δ s => by
  obtain ⟨v, e1, e⟩ := bind_of e
  obtain ⟨w, e2, e⟩ := bind_of e
  cases some_of e
  obtain ⟨δ1, h1, s1⟩ := h v e1 δ s
  obtain ⟨δ2, h3, s2⟩ := h2 v w e2 δ1 s1
  refine ⟨δ2, ?_, s2⟩
  unfold rCons
  rw [h1]
  show (match arOf (a v) with
    | some r => (g δ1).bind fun rs δ2 => Rs.ok (r :: rs) δ2
    | none => .bad) = _
  rw [arOf_V (hr v)]
  show (g δ1).bind _ = _
  rw [h3]
  rfl
def insOf : List Ar → Option (List Sl)
  | [] => some []
  | .fz d :: r => (insOf r).map (.fz d :: ·)
  | .own s :: r => (insOf r).map (s :: ·)
  | .io _ :: _ => none
theorem ins_args {δ : List Sl} : ∀ {as : List Ar} {l : List Sl}, insOf as = some l → argsS δ as = some l ∧ iosOf δ as = []
  | [], l, h => by cases h; exact ⟨rfl, rfl⟩
  | .fz d :: r, l, h => by
    have h : (insOf r).map (.fz d :: ·) = some l := h
    cases q : insOf r with
    | none => rw [q] at h; cases h
    | some m =>
      rw [q] at h
      cases h
      obtain ⟨h1, h2⟩ := ins_args (δ := δ) q
      exact ⟨by simp only [argsS, argS, h1], h2⟩
  | .own s :: r, l, h => by
    have h : (insOf r).map (s :: ·) = some l := h
    cases q : insOf r with
    | none => rw [q] at h; cases h
    | some m =>
      rw [q] at h
      cases h
      obtain ⟨h1, h2⟩ := ins_args (δ := δ) q
      exact ⟨by simp only [argsS, argS, h1], h2⟩
  | .io k :: r, l, h => by cases h
theorem putB_nil {δ : List Sl} : ∀ {as : List Ar} {l m : List Sl}, insOf as = some m → putB [] as l δ = δ
  | [], l, _, _ => by cases l <;> rfl
  | .fz d :: r, [], _, _ => rfl
  | .own s :: r, [], _, _ => rfl
  | .fz d :: r, s :: l, m, h => by
    have h : (insOf r).map (.fz d :: ·) = some m := h
    cases q : insOf r with
    | none => rw [q] at h; cases h
    | some m => exact putB_nil (as := r) q
  | .own t :: r, s :: l, m, h => by
    have h : (insOf r).map (t :: ·) = some m := h
    cases q : insOf r with
    | none => rw [q] at h; cases h
    | some m => exact putB_nil (as := r) q
  | .io k :: r, l, m, h => by cases h
theorem callF_pure {F : List Sl → FR} {as : List Ar} {l : List Sl} {δ o : List Sl} {r : Sl} (h : insOf as = some l) (hF : F l = .ok r o) : callF F as δ = .ok (AV.ofSl r) δ := by
  obtain ⟨h1, h2⟩ := ins_args (δ := δ) h
  unfold callF backS
  rw [h2]
  rw [if_pos List.nodup_nil, h1]
  simp only [hF]
  rw [putB_nil h]
  rfl
/-- F on what stands for v gives what stands for n v -/
def Fun (F : List Sl → FR) (n : Option ρ) (ins : List Sl) (ret : ρ → Sl) (out : ρ → List Sl) : Prop := ∀ r, n = some r → F ins = .ok (ret r) (out r)
theorem pu_call {F : List Sl → FR} {dd : List PyData} {q : Option β} {as : β → List Ar} {n : β → Option ρ} {ins : β → List Sl} {ret : ρ → Sl} {out : ρ → List Sl} (hg : AgP g Γ q as) (hF : ∀ v, Fun F (n v) (ins v) ret out) (hi : ∀ v, insOf (as v ++ dd.map .fz) = some (ins v) := by intro _; rfl) : Pu (sCall F dd g) Γ (q.bind n) fun r => AV.ofSl (ret r) := fun r e δ s => by
  obtain ⟨v, e1, e⟩ := bind_of e
  unfold sCall
  rw [hg v e1 δ s]
  exact callF_pure (hi v) (hF v r e)
/-- a slot handed over -/
theorem ag_io {k : Nat} {q : Option β} {as : β → List Ar} {Γ1 : β → Ga} {s0 : Sl} (h0 : Γ[k]? = some (.eq s0)) (ho : ownS (some s0) = true) (h : Ag g Γ q as Γ1) : Ag (rIo k g) Γ q (fun v => .io k :: as v) Γ1 := fun v e δ s => by
  obtain ⟨δ1, h1, s1⟩ := h v e δ s
  refine ⟨δ1, ?_, s1⟩
  have hk := s.at_ h0
  unfold rIo
  have hv : sVar k δ = .ok (.ref k) δ := by
    unfold sVar
    rw [hk]
    cases s0 <;> first | rfl | cases ho
  rw [hv]
  show (g δ).bind _ = _
  rw [h1]
  rfl
def insG (Γ : Ga) : List Ar → Option (List Sl)
  | [] => some []
  | .fz d :: r => (insG Γ r).map (.fz d :: ·)
  | .own s :: r => (insG Γ r).map (s :: ·)
  | .io k :: r => match Γ[k]? with
    | some (.eq s) => if ownS (some s) = true then (insG Γ r).map (s :: ·) else none
    | _ => none
def iosG : List Ar → List Nat
  | [] => []
  | .io k :: r => k :: iosG r
  | _ :: r => iosG r
def clrP (ks : List Nat) (Γ : Ga) : Ga := ks.foldr (fun k Γ => upP k (.eq .no) Γ) Γ
def putP : List Ar → List Sl → Ga → Ga
  | .io k :: r, s :: l, Γ => putP r l (upP k (.eq (noAl s)) Γ)
  | .fz _ :: r, _ :: l, Γ => putP r l Γ
  | .own _ :: r, _ :: l, Γ => putP r l Γ
  | _, _, Γ => Γ
def backP (Γ : Ga) (as : List Ar) (o : List Sl) : Ga := putP as o (clrP (iosG as) Γ)
theorem insG_ok {δ : List Sl} (s : Sat Γ δ) : ∀ {as : List Ar} {l : List Sl}, insG Γ as = some l → argsS δ as = some l ∧ iosOf δ as = iosG as
  | [], l, h => by cases h; exact ⟨rfl, rfl⟩
  | .fz d :: r, l, h => by
    have h : (insG Γ r).map (.fz d :: ·) = some l := h
    cases q : insG Γ r with
    | none => rw [q] at h; cases h
    | some m =>
      rw [q] at h
      cases h
      obtain ⟨h1, h2⟩ := insG_ok s q
      exact ⟨by simp only [argsS, argS, h1], h2⟩
  | .own t :: r, l, h => by
    have h : (insG Γ r).map (t :: ·) = some l := h
    cases q : insG Γ r with
    | none => rw [q] at h; cases h
    | some m =>
      rw [q] at h
      cases h
      obtain ⟨h1, h2⟩ := insG_ok s q
      exact ⟨by simp only [argsS, argS, h1], h2⟩
  | .io k :: r, l, h => by
    unfold insG at h
    cases q0 : Γ[k]? with
    | none => simp only [q0] at h; cases h
    | some p =>
      cases p with
      | eq t =>
        simp only [q0] at h
        by_cases c : ownS (some t) = true
        · rw [if_pos c] at h
          cases q : insG Γ r with
          | none => rw [q] at h; cases h
          | some m =>
            rw [q] at h
            cases h
            obtain ⟨h1, h2⟩ := insG_ok s q
            have hk := s.at_ q0
            refine ⟨?_, ?_⟩
            · simp only [argsS, h1, argS, hk]
              cases t <;> first | rfl | cases c
            · rw [ios_cons_io, if_pos (by rw [hk]; exact c), h2]
              rfl
        · rw [if_neg c] at h
          cases h
      | _ => simp only [q0] at h; cases h
theorem clrP_ok {δ : List Sl} (s : Sat Γ δ) : ∀ ks : List Nat, Sat (clrP ks Γ) (clr ks δ)
  | [] => s
  | k :: r => (clrP_ok s r).up (p := .eq .no) rfl
theorem putP_ok (ks : List Nat) : ∀ {as : List Ar} {o : List Sl} {Γ : Ga} {δ : List Sl}, Sat Γ δ → (∀ k ∈ iosG as, k ∈ ks) → Sat (putP as o Γ) (putB ks as o δ)
  | [], o, _, _, s, _ => by cases o <;> exact s
  | .fz d :: r, [], _, _, s, _ => s
  | .own t :: r, [], _, _, s, _ => s
  | .io k :: r, [], _, _, s, _ => s
  | .fz d :: r, t :: o, _, _, s, h => putP_ok ks (as := r) s h
  | .own u :: r, t :: o, _, _, s, h => putP_ok ks (as := r) s h
  | .io k :: r, t :: o, Γ, δ, s, h => by
    show Sat (putP r o (upP k (.eq (noAl t)) Γ)) (putB ks r o (if k ∈ ks then upS k (noAl t) δ else δ))
    rw [if_pos (h k List.mem_cons_self)]
    exact putP_ok ks (as := r) (s.up (p := .eq (noAl t)) rfl) fun j hj => h j (List.mem_cons_of_mem _ hj)
theorem ev_callG {F : List Sl → FR} {dd : List PyData} {q : Option β} {as : β → List Ar} {Γ1 : β → Ga} {n : β → Option ρ} {ins : β → List Sl} {ret : ρ → Sl} {out : ρ → List Sl} (hg : Ag g Γ q as Γ1) (hF : ∀ v, Fun F (n v) (ins v) ret out)
    (hi : ∀ v, insG (Γ1 v) (as v ++ dd.map .fz) = some (ins v) := by intro _; rfl) (hn : ∀ v, (iosG (as v ++ dd.map .fz)).Nodup := by intro _; first | exact nodup1 _ | exact List.nodup_nil | decide) :
    Ev (sCall F dd g) Γ (q.bind fun v => (n v).bind fun r => some (r, v)) (fun r => AV.ofSl (ret r.1)) (fun r => backP (Γ1 r.2) (as r.2 ++ dd.map .fz) (out r.1)) := fun r e δ s => by
  obtain ⟨v, e1, e⟩ := bind_of e
  obtain ⟨w, e2, e⟩ := bind_of e
  cases some_of e
  obtain ⟨δ1, h1, sa⟩ := hg v e1 δ s
  obtain ⟨k1, k2⟩ := insG_ok sa (hi v)
  refine ⟨backS (as v ++ dd.map .fz) (out w) δ1, ?_, ?_⟩
  · unfold sCall
    rw [h1]
    show callF F (as v ++ dd.map .fz) δ1 = _
    unfold callF
    rw [k2, if_pos (hn v), k1]
    simp only [hF v w e2]
  · unfold backS backP
    rw [k2]
    exact putP_ok _ (clrP_ok sa _) fun k hk => hk
end
end Nv
namespace Nv
open PySem Hb L2
open Enc (enc)
/-- a return -/
def RF {ρ : Type} (ret : ρ → Pt) (ΓR : ρ → Ga) (r : ρ) (o : Ot) : Prop := ∃ s δ', (o = .rt s δ' ∨ (o = .nx δ' ∧ s = .fz .none)) ∧ (ret r).Ok s ∧ Sat (ΓR r) δ'
/-- on to the next turn -/
def RS {σ : Type} (ΓS : σ → Ga) (s : σ) (o : Ot) : Prop := ∃ δ', (o = .nx δ' ∨ o = .ct δ') ∧ Sat (ΓS s) δ'
/-- a turn that may leave its loop -/
inductive Fl (ρ σ : Type) where
  | nx (s : σ) | bk (s : σ) | rt (r : ρ)
def Fl.el {ρ σ ζ : Type} (o : Fl ρ σ) (f : σ → Option ζ) (k : ρ → Option ζ) : Option ζ := match o with
  | .nx s => f s
  | .bk s => f s
  | .rt r => k r
def RL {ρ σ : Type} (R : ρ → Ot → Prop) (ΓS ΓB : σ → Ga) : Fl ρ σ → Ot → Prop
  | .nx s, o => ∃ δ', (o = .nx δ' ∨ o = .ct δ') ∧ Sat (ΓS s) δ'
  | .bk s, o => ∃ δ', o = .bk δ' ∧ Sat (ΓB s) δ'
  | .rt r, o => R r o ∧ ∃ s δ', o = .rt s δ'
section
variable {α β γ ε ζ ρ σ : Type} {Γ : Ga} {f : List Sl → Rs AV} {g h A B : List Sl → Ot} {R : ζ → Ot → Prop}
theorem seq_next (f : List Sl → Ot) : oSeq f oNext = f := by
  funext δ
  unfold oSeq
  cases f δ <;> rfl
theorem bl_last {p : Option ζ} (k : Bl (oSeq g oNext) Γ p R) : Bl g Γ p R := by rwa [seq_next] at k
theorem bl_next {p : Option ζ} (k : Bl g Γ p R) : Bl (oSeq oNext g) Γ p R := k
theorem bl_assoc {p : Option ζ} (k : Bl (oSeq A (oSeq B g)) Γ p R) : Bl (oSeq (oSeq A B) g) Γ p R := fun v e δ s => by
  have := k v e δ s
  unfold oSeq at this ⊢
  cases q : A δ <;> simp only [q] at this ⊢ <;> exact this
theorem nx_of {δ δ' : List Sl} (q : A δ = .nx δ') : oSeq A g δ = g δ' := by unfold oSeq; rw [q]
theorem bl_asgV {k : Nat} {p : Option ε} {d : ε → PyData} {Γ1 : ε → Ga} {kont : ε → Option ζ} (h : Ev f Γ p (fun v => .val (d v)) Γ1) (k2 : ∀ v, Bl g (upP k (.eq (.fz (d v))) (Γ1 v)) (kont v) R) : Bl (oSeq (oAsg f (tgN k)) g) Γ (p.bind kont) R := fun r e δ s => by
  obtain ⟨v, e1, e⟩ := bind_of e
  obtain ⟨δ1, h1, s1⟩ := h v e1 δ s
  rw [nx_of (show oAsg f (tgN k) δ = .nx (upS k (.fz (d v)) δ1) by unfold oAsg; rw [h1]; rfl)]
  exact k2 v r e _ (s1.up rfl)
theorem bl_asgT {k : Nat} {p : Option ε} {t : ε → Sl} {Γ1 : ε → Ga} {kont : ε → Option ζ} (h : Ev f Γ p (fun v => .tmp (t v)) Γ1) (k2 : ∀ v, Bl g (upP k (.eq (t v)) (Γ1 v)) (kont v) R) : Bl (oSeq (oAsg f (tgN k)) g) Γ (p.bind kont) R := fun r e δ s => by
  obtain ⟨v, e1, e⟩ := bind_of e
  obtain ⟨δ1, h1, s1⟩ := h v e1 δ s
  rw [nx_of (show oAsg f (tgN k) δ = .nx (upS k (t v) δ1) by unfold oAsg; rw [h1]; rfl)]
  exact k2 v r e _ (s1.up rfl)
theorem bl_expr {p : Option ε} {a : ε → AV} {Γ1 : ε → Ga} {kont : ε → Option ζ} (h : Ev f Γ p a Γ1) (k2 : ∀ v, Bl g (Γ1 v) (kont v) R) : Bl (oSeq (oDrop f) g) Γ (p.bind kont) R := fun r e δ s => by
  obtain ⟨v, e1, e⟩ := bind_of e
  obtain ⟨δ1, h1, s1⟩ := h v e1 δ s
  rw [nx_of (show oDrop f δ = .nx δ1 by unfold oDrop; rw [h1]; rfl)]
  exact k2 v r e _ s1
def stI {α : Type} (xs : List α) (i : Int) (v : α) : Option (List α) := (ixN xs.length i).map fun j => xs.set j v
theorem setA_own [Enc α] {k : Nat} {xs ys : List α} {i : Int} {v : α} {δ : List Sl} {y : AV} (h : δ[k]? = some (ow xs)) (hy : rdC δ y = some (.int i)) (e : stI xs i v = some ys) : setA (.ref k) y (enc v) δ = .ok () (upS k (ow ys) δ) := by
  unfold stI at e
  cases q : ixN xs.length i with
  | none => rw [q] at e; cases e
  | some j =>
    rw [q] at e
    cases some_of e
    unfold setA
    simp only [hy, h, ow, List.length_map, q, allFz_map, List.map_set]
theorem bl_set [Enc α] {k : Nat} {fi : List Sl → Rs AV} {p : Option ε} {va : ε → α} {Γ1 : ε → Ga} {xs : ε → List α} {pi : ε → Option Int} {kont : ε → List α → Option ζ} (h : Ev f Γ p (fun v => .val (enc (va v))) Γ1) (h0 : ∀ v, (Γ1 v)[k]? = some (.eq (ow (xs v)))) (hi : ∀ v, Rd fi (Γ1 v) (pi v) enc)
    (k2 : ∀ v ys, Bl g (upP k (.eq (ow ys)) (Γ1 v)) (kont v ys) R) : Bl (oSeq (oAsg f (tgS (sVar k) fi)) g) Γ (p.bind fun v => (pi v).bind fun i => (stI (xs v) i (va v)).bind (kont v)) R := fun r e δ s => by
  obtain ⟨v, e1, e⟩ := bind_of e
  obtain ⟨i, e2, e⟩ := bind_of e
  obtain ⟨ys, e3, e⟩ := bind_of e
  obtain ⟨δ1, h1, s1⟩ := h v e1 δ s
  obtain ⟨x, q1, q2, _⟩ := hi v i e2 δ1 s1
  have hk := s1.at_ (h0 v)
  rw [nx_of (show oAsg f (tgS (sVar k) fi) δ = .nx (upS k (ow ys) δ1) by
    unfold oAsg
    rw [h1]
    show (tgS (sVar k) fi (.val (enc (va v))) δ1).otU = _
    unfold tgS
    show ((sSt (sVar k) δ1).bind _).otU = _
    rw [sSt_ref (sVar_own hk)]
    show ((sSt fi δ1).bind _).otU = _
    rw [q1]
    show (setA (.ref k) x (enc (va v)) δ1).otU = _
    rw [setA_own hk q2 e3]
    rfl)]
  exact k2 v ys r e _ (s1.up rfl)
def asgP : List Nat → List Ar → Ga → Ga
  | k :: ks, .fz d :: r, Γ => asgP ks r (upP k (.eq (.fz d)) Γ)
  | k :: ks, .own s :: r, Γ => asgP ks r (upP k (.eq s) Γ)
  | _, _, Γ => Γ
def parOk : List Nat → List Ar → Bool
  | [], [] => true
  | _ :: ks, .fz _ :: r => parOk ks r
  | _ :: ks, .own _ :: r => parOk ks r
  | _, _ => false
theorem asgP_ok : ∀ {ks : List Nat} {as : List Ar} {Γ : Ga} {δ : List Sl}, Sat Γ δ → parOk ks as = true → noIo as = true ∧ ∃ δ', asgA ks as δ = .nx δ' ∧ Sat (asgP ks as Γ) δ'
  | [], [], Γ, δ, s, _ => ⟨rfl, δ, rfl, s⟩
  | [], _ :: _, _, _, _, h => by cases h
  | _ :: _, [], _, _, _, h => by cases h
  | k :: ks, .io j :: r, _, _, _, h => by cases h
  | k :: ks, .fz d :: r, Γ, δ, s, h => asgP_ok (ks := ks) (as := r) (s.up (i := k) (p := .eq (.fz d)) rfl) h
  | k :: ks, .own t :: r, Γ, δ, s, h => asgP_ok (ks := ks) (as := r) (s.up (i := k) (p := .eq t) rfl) h
theorem bl_par {ks : List Nat} {ga : List Sl → Rs (List Ar)} {p : Option ε} {as : ε → List Ar} {Γ1 : ε → Ga} {kont : ε → Option ζ} (h : Ag ga Γ p as Γ1) (k2 : ∀ v, Bl g (asgP ks (as v) (Γ1 v)) (kont v) R) (hp : ∀ v, parOk ks (as v) = true := by intro _; rfl) : Bl (oSeq (oPar ks ga) g) Γ (p.bind kont) R := fun r e δ s => by
  obtain ⟨v, e1, e⟩ := bind_of e
  obtain ⟨δ1, h1, s1⟩ := h v e1 δ s
  obtain ⟨n, δ2, h2, s2⟩ := asgP_ok s1 (hp v)
  rw [nx_of (show oPar ks ga δ = .nx δ2 by
    unfold oPar
    rw [h1]
    simp only [n, if_true, h2])]
  exact k2 v r e _ s2
theorem sMv_val {δ δ' : List Sl} {d : PyData} (h : f δ = .ok (.val d) δ') : sMv f δ = .ok (.val d) δ' := by unfold sMv; rw [h]
theorem sMv_tmp {δ δ' : List Sl} {t : Sl} (h : f δ = .ok (.tmp t) δ') : sMv f δ = .ok (.tmp t) δ' := by unfold sMv; rw [h]
theorem bl_retV {p : Option ε} {d : ε → PyData} {Γ1 : ε → Ga} {κ : ε → ζ} (h : Ev f Γ p (fun v => .val (d v)) Γ1) (k : ∀ v δ', Sat (Γ1 v) δ' → R (κ v) (.rt (.fz (d v)) δ')) : Bl (oRet f) Γ (p.bind fun v => some (κ v)) R := fun r e δ s => by
  obtain ⟨v, e1, e⟩ := bind_of e
  cases some_of e
  obtain ⟨δ1, h1, s1⟩ := h v e1 δ s
  have : oRet f δ = .rt (.fz (d v)) δ1 := by unfold oRet; rw [sMv_val h1]; rfl
  rw [this]
  exact k v δ1 s1
theorem bl_retT {p : Option ε} {t : ε → Sl} {Γ1 : ε → Ga} {κ : ε → ζ} (h : Ev f Γ p (fun v => .tmp (t v)) Γ1) (k : ∀ v δ', Sat (Γ1 v) δ' → R (κ v) (.rt (t v) δ')) : Bl (oRet f) Γ (p.bind fun v => some (κ v)) R := fun r e δ s => by
  obtain ⟨v, e1, e⟩ := bind_of e
  cases some_of e
  obtain ⟨δ1, h1, s1⟩ := h v e1 δ s
  have : oRet f δ = .rt (t v) δ1 := by unfold oRet; rw [sMv_tmp h1]; rfl
  rw [this]
  exact k v δ1 s1
/-- a name whose list is one's own -/
theorem bl_retO {k : Nat} {s0 : Sl} {κ : ζ} (h0 : Γ[k]? = some (.eq s0)) (ho : ownS (some s0) = true) (k2 : ∀ δ', Sat (upP k (.eq .no) Γ) δ' → R κ (.rt s0 δ')) : Bl (oRet (sVar k)) Γ (some κ) R := fun r e δ s => by
  cases some_of e
  have hk := s.at_ h0
  have h1 : sVar k δ = .ok (.ref k) δ := by
    unfold sVar
    rw [hk]
    cases s0 <;> first | rfl | cases ho
  have h2 : sMv (sVar k) δ = .ok (.tmp s0) (upS k .no δ) := by
    unfold sMv
    rw [h1]
    show moveI k δ = _
    unfold moveI
    rw [hk]
    cases s0 <;> first | rfl | cases ho
  have : oRet (sVar k) δ = .rt s0 (upS k .no δ) := by unfold oRet; rw [h2]; rfl
  rw [this]
  exact k2 _ (s.up (p := .eq .no) rfl)
theorem bl_retS {p : Option ζ} (k : Bl (oRet f) Γ p R) : Bl (oSeq (oRet f) g) Γ p R := fun v e δ s => by
  have := k v e δ s
  have h2 : oSeq (oRet f) g δ = oRet f δ := by
    unfold oSeq
    have : ∀ δ', oRet f δ ≠ .nx δ' := fun δ' q => by
      unfold oRet at q
      cases q2 : sMv f δ with
      | ok a δ2 => rw [q2] at q; cases a <;> cases q
      | er x δ2 => rw [q2] at q; cases q
      | bad => rw [q2] at q; cases q
    cases q : oRet f δ with
    | nx δ' => exact absurd q (this δ')
    | _ => rfl
  rwa [h2]
/-- a raise: not walked -/
theorem bl_bad {A : List Sl → Ot} : Bl A Γ (none : Option ζ) R := fun r e => nomatch e
theorem bl_end {κ : ζ} (k : ∀ δ', Sat Γ δ' → R κ (.nx δ')) : Bl oNext Γ (some κ) R := fun r e δ s => by
  cases some_of e
  exact k δ s
theorem bl_if {t : List Sl → Rs Bool} {p : Option ε} {k : ε → Bool} {Γ1 : ε → Ga} {pa pb : ε → Option ζ} (h : Te t Γ p k Γ1) (ha : ∀ v, Bl (oSeq A g) (Γ1 v) (pa v) R) (hb : ∀ v, Bl (oSeq B g) (Γ1 v) (pb v) R) : Bl (oSeq (oIf t A B) g) Γ (p.bind fun v => if k v = true then pa v else pb v) R := fun r e δ s => by
  obtain ⟨v, e1, e⟩ := bind_of e
  obtain ⟨δ1, h1, s1⟩ := h v e1 δ s
  have : oSeq (oIf t A B) g δ = if k v = true then oSeq A g δ1 else oSeq B g δ1 := by
    unfold oSeq oIf
    rw [h1]
    show (match (if k v = true then A δ1 else B δ1) with
      | .nx δ' => g δ'
      | r => r) = _
    by_cases c : k v = true
    · simp only [if_pos c] <;> rfl
    · simp only [if_neg c] <;> rfl
  rw [this]
  by_cases c : k v = true
  · rw [if_pos c] at e ⊢
    exact ha v r e δ1 s1
  · rw [if_neg c] at e ⊢
    exact hb v r e δ1 s1
end
section
variable {α β γ ε ζ ρ σ : Type} {Γ : Ga} {f g : List Sl → Rs AV}
def It (w : List Sl → Rs (List PyData)) (Γ : Ga) (p : Option β) (its : β → List PyData) (Γ' : β → Ga) : Prop := ∀ v, p = some v → ∀ δ, Sat Γ δ → ∃ δ', w δ = .ok (its v) δ' ∧ Sat (Γ' v) δ'
def ItP (w : List Sl → Rs (List PyData)) (Γ : Ga) (p : Option β) (its : β → List PyData) : Prop := ∀ v, p = some v → ∀ δ, Sat Γ δ → w δ = .ok (its v) δ
theorem ItP.it {w : List Sl → Rs (List PyData)} {p : Option β} {its : β → List PyData} (h : ItP w Γ p its) : It w Γ p its fun _ => Γ := fun v e δ s => ⟨δ, h v e δ s, s⟩
def seqA (d : PyData) : Option (List PyData) := seqD d
def enumL {α : Type} (xs : List α) : List (Int × α) := xs.zipIdx.map fun p => ((p.2 : Int), p.1)
def rgI (lo : Int) (n : Nat) : List Int := (List.range n).map fun i => lo + (i : Nat)
def ri1 (n : Int) : Option (List Int) := if -(2 ^ 62) ≤ n ∧ n < 2 ^ 62 then some (rgI 0 n.toNat) else none
def ri2 (i j : Int) : Option (List Int) := if -(2 ^ 62) ≤ i ∧ i < 2 ^ 62 ∧ -(2 ^ 62) ≤ j ∧ j < 2 ^ 62 then some (rgI i (j - i).toNat) else none
theorem enum_enc [Enc α] (xs : List α) : enumD (xs.map enc) = (enumL xs).map enc := by
  unfold enumD enumL
  rw [List.zipIdx_map, List.map_map, List.map_map]
  rfl
theorem rangeD_enc (lo : Int) (n : Nat) : rangeD lo n = (rgI lo n).map enc := by
  unfold rangeD rgI
  rw [List.map_map]
  rfl
theorem val_of {f : List Sl → Rs AV} {δ δ' : List Sl} {d : PyData} {k : PyData → List Sl → Rs γ} (h : f δ = .ok (.val d) δ') : (f δ).val k = k d δ' := by
  unfold Rs.val
  rw [h]
  rfl
theorem ip_seq [Enc α] {p : Option β} {xs : β → List α} (h : Pu (sTk f) Γ p fun v => .val (enc (xs v))) : ItP (wSeq f) Γ p fun v => (xs v).map enc := fun v e δ s => by
  unfold wSeq
  rw [val_of (h v e δ s)]
  rfl
theorem ip_seqA {p : Option PyData} (h : Pu (sTk f) Γ p fun v => .val (enc v)) : ItP (wSeq f) Γ (p.bind seqA) fun v => v.map enc := fun v e δ s => by
  obtain ⟨d, e1, e⟩ := bind_of e
  have e : seqD d = some v := e
  unfold wSeq
  rw [val_of (h d e1 δ s)]
  show (match seqD d with
    | some ds => Rs.ok ds δ
    | none => .bad) = _
  rw [e]
  show Rs.ok v δ = Rs.ok (v.map fun d => d) δ
  rw [List.map_id']
theorem ip_enum [Enc α] {p : Option β} {xs : β → List α} (h : Pu (sTk f) Γ p fun v => .val (enc (xs v))) : ItP (wEnum f) Γ p fun v => (enumL (xs v)).map enc := fun v e δ s => by
  unfold wEnum
  rw [val_of (h v e δ s)]
  exact congrArg (Rs.ok · δ) (enum_enc (xs v))
theorem ip_rng1 {p : Option Int} (h : Pu (sTk f) Γ p fun v => .val (enc v)) : ItP (wRng1 f) Γ (p.bind ri1) fun v => v.map enc := fun v e δ s => by
  obtain ⟨n, e1, e⟩ := bind_of e
  unfold ri1 at e
  split at e
  · rename_i c
    cases some_of e
    unfold wRng1
    rw [val_of (h n e1 δ s)]
    exact (if_pos c).trans (congrArg (Rs.ok · δ) (rangeD_enc _ _))
  · cases e
theorem ip_rng2 {p q : Option Int} (h : Pu (sTk f) Γ p fun v => .val (enc v)) (h2 : Pu (sTk g) Γ q fun v => .val (enc v)) : ItP (wRng2 f g) Γ (p.bind fun m => q.bind fun n => ri2 m n) fun v => v.map enc := fun v e δ s => by
  obtain ⟨m, e1, e⟩ := bind_of e
  obtain ⟨n, e2, e⟩ := bind_of e
  unfold ri2 at e
  split at e
  · rename_i c
    cases some_of e
    unfold wRng2
    rw [val_of (h m e1 δ s), val_of (h2 n e2 δ s)]
    exact (if_pos c).trans (congrArg (Rs.ok · δ) (rangeD_enc _ _))
  · cases e
/-- only the slots vs change -/
def Tg (vs : List Nat) (t : AV → List Sl → Rs Unit) (Γ : Ga) (d : PyData) (Γ' : Ga) : Prop := ∀ δ, Sat Γ δ → ∃ δ', t (.val d) δ = .ok () δ' ∧ Sat Γ' δ' ∧ ((∀ (i x j : Nat), δ[i]? = some (.al x j) → x ∉ vs) → δ'.length = δ.length ∧ (∀ k, k ∉ vs → δ'[k]? = δ[k]?) ∧ ∀ (i x j : Nat), δ'[i]? = some (.al x j) → x ∉ vs)
def Tgs (vs : List Nat) (t : List PyData → List Sl → Rs Unit) (Γ : Ga) (ds : List PyData) (Γ' : Ga) : Prop := ∀ δ, Sat Γ δ → ∃ δ', t ds δ = .ok () δ' ∧ Sat Γ' δ' ∧ ((∀ (i x j : Nat), δ[i]? = some (.al x j) → x ∉ vs) → δ'.length = δ.length ∧ (∀ k, k ∉ vs → δ'[k]? = δ[k]?) ∧ ∀ (i x j : Nat), δ'[i]? = some (.al x j) → x ∉ vs)
theorem upS_keep {k : Nat} {s : Sl} {δ : List Sl} (h : ∀ (i x j : Nat), δ[i]? = some (.al x j) → x ≠ k) : upS k s δ = δ.set k s := by
  have : dropAl k δ = δ := by
    rw [dropAl_eq]
    apply List.ext_getElem?
    intro i
    rw [List.getElem?_map]
    cases q : δ[i]? with
    | none => rfl
    | some t =>
      cases t with
      | al x j =>
        show some (if x = k then Sl.no else .al x j) = _
        rw [if_neg (h i x j q)]
      | _ => rfl
  unfold upS
  rw [this]
theorem tg_n {vs : List Nat} {k : Nat} {d : PyData} (hk : k ∈ vs := by decide) : Tg vs (tgN k) Γ d (upP k (.eq (.fz d)) Γ) := fun δ s => by
  refine ⟨upS k (.fz d) δ, rfl, s.up rfl, fun h => ?_⟩
  rw [upS_keep fun i x j e z => h i x j e (by rw [z]; exact hk)]
  refine ⟨by simp, fun j hj => List.getElem?_set_ne fun z => hj (by rw [← z]; exact hk), fun i x j e => ?_⟩
  rw [List.getElem?_set] at e
  by_cases c : k = i
  · rw [if_pos c] at e
    split at e <;> cases e
  · rw [if_neg c] at e
    exact h i x j e
theorem tgs_nil {vs : List Nat} : Tgs vs tgNil Γ [] Γ := fun δ s => ⟨δ, rfl, s, fun h => ⟨rfl, fun _ _ => rfl, h⟩⟩
theorem tgs_cons {vs : List Nat} {t : AV → List Sl → Rs Unit} {u : List PyData → List Sl → Rs Unit} {d : PyData} {ds : List PyData} {Γ1 Γ2 : Ga} (h : Tg vs t Γ d Γ1) (h2 : Tgs vs u Γ1 ds Γ2) : Tgs vs (tgCons t u) Γ (d :: ds) Γ2 := fun δ s => by
  obtain ⟨δ1, e1, s1, k1⟩ := h δ s
  obtain ⟨δ2, e2, s2, k2⟩ := h2 δ1 s1
  refine ⟨δ2, ?_, s2, fun hk => ?_⟩
  · unfold tgCons
    show (t (.val d) δ).bind _ = _
    rw [e1]
    exact e2
  · obtain ⟨a1, b1, c1⟩ := k1 hk
    obtain ⟨a2, b2, c2⟩ := k2 c1
    exact ⟨a2.trans a1, fun k z => (b2 k z).trans (b1 k z), c2⟩
theorem tg_t {vs : List Nat} {n : Nat} {u : List PyData → List Sl → Rs Unit} {ds : List PyData} {Γ1 : Ga} (h : Tgs vs u Γ ds Γ1) (hn : ds.length = n := by rfl) : Tg vs (tgT n u) Γ (.tuple ds) Γ1 := fun δ s => by
  obtain ⟨δ1, e1, s1, k1⟩ := h δ s
  refine ⟨δ1, ?_, s1, k1⟩
  unfold tgT
  show (if ds.length = n then u ds δ else .bad) = _
  rw [if_pos hn]
  exact e1
def forS : List α → σ → (σ → α → Option σ) → Option σ
  | [], s, _ => some s
  | x :: r, s, b => (b s x).bind fun s' => forS r s' b
def forF : List α → σ → (σ → α → Option (Fl ρ σ)) → Option (Fl ρ σ)
  | [], s, _ => some (.nx s)
  | x :: r, s, b => (b s x).bind fun o => match o with
    | .nx s' => forF r s' b
    | .bk s' => some (.bk s')
    | .rt v => some (.rt v)
variable {A g' B : List Sl → Ot} {R : ζ → Ot → Prop} {t : AV → List Sl → Rs Unit} {w : List Sl → Rs (List PyData)}
theorem forS_ok [Enc α] {vs : List Nat} {ΓL : σ → Ga} {ΓT : σ → α → Ga} {b : σ → α → Option σ} (ht : ∀ s x, Tg vs t (ΓL s) (enc x) (ΓT s x)) (hb : ∀ s x, Bl B (ΓT s x) (b s x) (RS ΓL)) : ∀ (xs : List α) (s r : σ), forS xs s b = some r → ∀ δ, Sat (ΓL s) δ → ∃ δ', forL t B (xs.map enc) δ = .nx δ' ∧ Sat (ΓL r) δ'
  | [], s, r, e, δ, sa => by
    cases some_of e
    exact ⟨δ, rfl, sa⟩
  | x :: xs, s, r, e, δ, sa => by
    obtain ⟨s', e1, e⟩ := bind_of e
    obtain ⟨δ1, h1, s1, _⟩ := ht s x δ sa
    obtain ⟨δ2, h2, s2⟩ := hb s x s' e1 δ1 s1
    obtain ⟨δ3, h3, s3⟩ := forS_ok ht hb xs s' r e δ2 s2
    refine ⟨δ3, ?_, s3⟩
    rw [List.map_cons]
    unfold forL
    rw [h1]
    rcases h2 with h2 | h2 <;> (simp only [h2]; exact h3)
theorem bl_for [Enc α] {vs : List Nat} {p : Option ε} {xs : ε → List α} {Γ1 : ε → Ga} {s0 : ε → σ} {ΓL : ε → σ → Ga} {ΓT : ε → σ → α → Ga} {b : ε → σ → α → Option σ} {kont : ε → σ → Option ζ} (hw : It w Γ p (fun v => (xs v).map enc) Γ1) (h0 : ∀ v, GaLe (Γ1 v) (ΓL v (s0 v)))
    (ht : ∀ v s x, Tg vs t (ΓL v s) (enc x) (ΓT v s x)) (hb : ∀ v s x, Bl B (ΓT v s x) (b v s x) (RS (ΓL v))) (hg : ∀ v s, Bl g' (ΓL v s) (kont v s) R) :
    Bl (oSeq (oFor w t B) g') Γ (p.bind fun v => (forS (xs v) (s0 v) (b v)).bind (kont v)) R := fun r e δ s => by
  obtain ⟨v, e1, e⟩ := bind_of e
  obtain ⟨q, e2, e⟩ := bind_of e
  obtain ⟨δ1, h1, s1⟩ := hw v e1 δ s
  obtain ⟨δ2, h2, s2⟩ := forS_ok (ht v) (hb v) (xs v) (s0 v) q e2 δ1 (s1.wk (h0 v))
  rw [nx_of (show oFor w t B δ = .nx δ2 by unfold oFor; rw [h1]; exact h2)]
  exact hg v q r e δ2 s2
theorem forF_ok [Enc α] {vs : List Nat} {ΓL : σ → Ga} {ΓT : σ → α → Ga} {b : σ → α → Option (Fl ρ σ)} {Q : ρ → Ot → Prop} (ht : ∀ s x, Tg vs t (ΓL s) (enc x) (ΓT s x)) (hb : ∀ s x, Bl B (ΓT s x) (b s x) (RL Q ΓL ΓL)) : ∀ (xs : List α) (s : σ) (r : Fl ρ σ), forF xs s b = some r → ∀ δ, Sat (ΓL s) δ → match r with
    | .nx r => ∃ δ', forL t B (xs.map enc) δ = .nx δ' ∧ Sat (ΓL r) δ'
    | .bk r => ∃ δ', forL t B (xs.map enc) δ = .nx δ' ∧ Sat (ΓL r) δ'
    | .rt v => Q v (forL t B (xs.map enc) δ) ∧ ∃ u δ', forL t B (xs.map enc) δ = .rt u δ'
  | [], s, r, e, δ, sa => by
    cases some_of e
    exact ⟨δ, rfl, sa⟩
  | x :: xs, s, r, e, δ, sa => by
    obtain ⟨o, e1, e⟩ := bind_of e
    obtain ⟨δ1, h1, s1, _⟩ := ht s x δ sa
    have h2 := hb s x o e1 δ1 s1
    have un : forL t B ((x :: xs).map enc) δ = match B δ1 with
      | .nx δ2 => forL t B (xs.map enc) δ2
      | .ct δ2 => forL t B (xs.map enc) δ2
      | .bk δ2 => .nx δ2
      | o => o := by
      rw [List.map_cons]
      rw [forL]
      rw [h1] <;> (dsimp only <;> (cases B δ1 <;> rfl))
    rw [un]
    cases o with
    | nx s' =>
      obtain ⟨δ2, h2, s2⟩ := h2
      have := forF_ok ht hb xs s' r e δ2 s2
      rcases h2 with h2 | h2 <;> (simp only [h2]; exact this)
    | bk s' =>
      cases some_of e
      obtain ⟨δ2, h2, s2⟩ := h2
      simp only [h2]
      exact ⟨δ2, rfl, s2⟩
    | rt v =>
      cases some_of e
      obtain ⟨h3, u, δ2, h4⟩ := h2
      rw [h4] at h3
      simp only [h4]
      refine ⟨h3, u, δ2, ?_⟩
      trivial
/-- a loop that may be left -/
theorem bl_forF [Enc α] {vs : List Nat} {Q : ρ → Ot → Prop} {p : Option ε} {xs : ε → List α} {Γ1 : ε → Ga} {s0 : ε → σ} {ΓL : ε → σ → Ga} {ΓT : ε → σ → α → Ga} {b : ε → σ → α → Option (Fl ρ σ)} {kr : ρ → Option ζ} {kont : ε → σ → Option ζ} (hw : It w Γ p (fun v => (xs v).map enc) Γ1) (h0 : ∀ v, GaLe (Γ1 v) (ΓL v (s0 v)))
    (ht : ∀ v s x, Tg vs t (ΓL v s) (enc x) (ΓT v s x)) (hb : ∀ v s x, Bl B (ΓT v s x) (b v s x) (RL Q (ΓL v) (ΓL v))) (hr : ∀ v z u δ', kr v = some z → Q v (.rt u δ') → R z (.rt u δ')) (hg : ∀ v s, Bl g' (ΓL v s) (kont v s) R) :
    Bl (oSeq (oFor w t B) g') Γ (p.bind fun v => (forF (xs v) (s0 v) (b v)).bind fun o => o.el (kont v) kr) R := fun r e δ s => by
  obtain ⟨v, e1, e⟩ := bind_of e
  obtain ⟨q, e2, e⟩ := bind_of e
  obtain ⟨δ1, h1, s1⟩ := hw v e1 δ s
  have h2 := forF_ok (Q := Q) (ht v) (hb v) (xs v) (s0 v) q e2 δ1 (s1.wk (h0 v))
  have un : oFor w t B δ = forL t B ((xs v).map enc) δ1 := by unfold oFor; rw [h1]; rfl
  cases q with
  | nx s' =>
    obtain ⟨δ2, h2, s2⟩ := h2
    rw [nx_of (un.trans h2)]
    exact hg v s' r e δ2 s2
  | bk s' =>
    obtain ⟨δ2, h2, s2⟩ := h2
    rw [nx_of (un.trans h2)]
    exact hg v s' r e δ2 s2
  | rt v' =>
    obtain ⟨h3, u, δ2, h4⟩ := h2
    have : oSeq (oFor w t B) g' δ = .rt u δ2 := by
      unfold oSeq
      rw [un, h4]
    rw [this]
    exact hr v' r u δ2 e (by rw [h4] at h3; exact h3)
def whS : Nat → σ → (σ → Option Bool) → (σ → Option σ) → Option σ
  | 0, _, _, _ => none
  | n + 1, s, c, b => (c s).bind fun k => if k = true then (b s).bind fun s' => whS n s' c b else some s
theorem whS_ok {tt : List Sl → Rs Bool} {ΓL : σ → Ga} {c : σ → Option Bool} {b : σ → Option σ} (hc : ∀ s, Ts tt (ΓL s) (c s)) (hb : ∀ s, Bl B (ΓL s) (b s) (RS ΓL)) : ∀ (n : Nat) (s r : σ), whS n s c b = some r → ∀ δ, Sat (ΓL s) δ → ∃ δ', oWh tt B n δ = .nx δ' ∧ Sat (ΓL r) δ'
  | 0, _, _, e, _, _ => by cases e
  | n + 1, s, r, e, δ, sa => by
    obtain ⟨k, e1, e⟩ := bind_of e
    have h1 := hc s k e1 δ sa
    unfold oWh
    rw [h1]
    show ∃ δ', (if k = true then _ else _) = _ ∧ _
    by_cases q : k = true
    · rw [if_pos q] at e
      simp only [if_pos q]
      obtain ⟨s', e2, e⟩ := bind_of e
      obtain ⟨δ2, h2, s2⟩ := hb s s' e2 δ sa
      obtain ⟨δ3, h3, s3⟩ := whS_ok hc hb n s' r e δ2 s2
      refine ⟨δ3, ?_, s3⟩
      rcases h2 with h2 | h2 <;> (simp only [h2]; exact h3)
    · rw [if_neg q] at e
      simp only [if_neg q]
      cases some_of e
      exact ⟨δ, rfl, sa⟩
theorem bl_wh {tt : List Sl → Rs Bool} {n : Nat} {s0 : σ} {ΓL : σ → Ga} {c : σ → Option Bool} {b : σ → Option σ} {kont : σ → Option ζ} (h0 : GaLe Γ (ΓL s0)) (hc : ∀ s, Ts tt (ΓL s) (c s)) (hb : ∀ s, Bl B (ΓL s) (b s) (RS ΓL)) (hg : ∀ s, Bl g' (ΓL s) (kont s) R) : Bl (oSeq (oWh tt B n) g') Γ ((whS n s0 c b).bind kont) R := fun r e δ s => by
  obtain ⟨q, e2, e⟩ := bind_of e
  obtain ⟨δ2, h2, s2⟩ := whS_ok hc hb n s0 q e2 δ (s.wk h0)
  rw [nx_of h2]
  exact hg q r e δ2 s2
end
end Nv
namespace Nv
open PySem Hb L2
open Enc (enc)
def calmE (vs : List Nat) : Pt → Bool
  | .aa => false
  | .eq (.al x _) => !vs.contains x
  | _ => true
def calm (vs : List Nat) (Γ : Ga) : Bool := Γ.all (calmE vs)
theorem calm_ok {vs : List Nat} {Γ : Ga} {δ : List Sl} (h : calm vs Γ = true) (s : Sat Γ δ) : ∀ (i x j : Nat), δ[i]? = some (.al x j) → x ∉ vs := by
  induction s with
  | nil => intro i x j e; simp at e
  | @cons p t Γ δ h1 _ ih =>
    have h : (calmE vs p && calm vs Γ) = true := h
    rw [Bool.and_eq_true] at h
    intro i x j e
    cases i with
    | zero =>
      simp at e
      subst e
      cases p with
      | aa => cases h.1
      | any => cases h1
      | pl => cases h1
      | tr d => rcases h1 with ⟨_, ds, z⟩ | z <;> cases z
      | ts d => rcases h1 with ⟨_, ds, z⟩ | ⟨z, _⟩ <;> cases z
      | eq u =>
        cases (show Sl.al x j = u from h1)
        have : (!vs.contains x) = true := h.1
        simpa using this
    | succ i => exact ih h.2 i x j (by simpa using e)
def plP : Pt → Bool
  | .pl => true
  | .eq .no => true
  | .eq (.fz _) => true
  | _ => false
theorem plP_ok {p : Pt} {s : Sl} (h : plP p = true) (hs : p.Ok s) : plainS (some s) = true := by
  cases p with
  | pl => exact hs
  | eq t =>
    cases (show s = t from hs)
    cases s <;> first | rfl | cases h
  | _ => cases h
def okP (vs : List Nat) (Γ : Ga) : Bool := vs.all fun v => match Γ[v]? with
  | some p => plP p
  | none => false
theorem okP_ok {vs : List Nat} {Γ : Ga} {δ : List Sl} (h : okP vs Γ = true) (s : Sat Γ δ) : okW vs δ = true := by
  unfold okW
  unfold okP at h
  rw [List.all_eq_true] at h ⊢
  intro v hv
  have := h v hv
  cases q : Γ[v]? with
  | none => rw [q] at this; cases this
  | some p =>
    rw [q] at this
    obtain ⟨t, e1, e2⟩ := s.get q
    rw [e1]
    exact plP_ok this e2
def wipeP (vs : List Nat) (Γ : Ga) : Ga := vs.foldr (fun v Γ => Γ.set v (.eq .no)) Γ
theorem wipeP_ok {Γ : Ga} {δ : List Sl} (s : Sat Γ δ) : ∀ vs : List Nat, Sat (wipeP vs Γ) (wipeD vs δ)
  | [] => s
  | v :: vs => (wipeP_ok s vs).set (p := .eq .no) rfl v
theorem wipe_len (δ : List Sl) : ∀ vs : List Nat, (wipeD vs δ).length = δ.length
  | [] => rfl
  | v :: vs => by
    show ((wipeD vs δ).set v .no).length = _
    rw [List.length_set, wipe_len δ vs]
theorem wipe_get (δ : List Sl) : ∀ (vs : List Nat) {k : Nat}, k ∉ vs → (wipeD vs δ)[k]? = δ[k]?
  | [], _, _ => rfl
  | v :: vs, k, h => by
    show ((wipeD vs δ).set v .no)[k]? = _
    rw [List.getElem?_set_ne (fun z => h (by rw [z]; exact List.mem_cons_self)), wipe_get δ vs fun z => h (List.mem_cons_of_mem _ z)]
theorem wipe_al {δ : List Sl} {P : Nat → Prop} (h : ∀ (i x j : Nat), δ[i]? = some (.al x j) → P x) : ∀ (vs : List Nat) (i x j : Nat), (wipeD vs δ)[i]? = some (.al x j) → P x
  | [], i, x, j, e => h i x j e
  | v :: vs, i, x, j, e => by
    have e : ((wipeD vs δ).set v .no)[i]? = some (.al x j) := e
    rw [List.getElem?_set] at e
    by_cases c : v = i
    · rw [if_pos c] at e
      split at e <;> cases e
    · rw [if_neg c] at e
      exact wipe_al h vs i x j e
/-- nothing but the block's own slots changed -/
theorem unw_id {vs : List Nat} {δ δ1 : List Sl} (hl : δ1.length = δ.length) (hk : ∀ k, k ∉ vs → δ1[k]? = δ[k]?) (ha : ∀ (i x j : Nat), δ1[i]? = some (.al x j) → x ∉ vs) (hw : okW vs δ = true) : unw vs δ δ1 = δ := by
  have key : ∀ us : List Nat, (∀ u ∈ us, u ∈ vs) → (unw us δ δ1).length = δ.length ∧ (∀ k, (k ∉ vs ∨ k ∈ us) → (unw us δ δ1)[k]? = δ[k]?) ∧ ∀ (i x j : Nat), (unw us δ δ1)[i]? = some (.al x j) → x ∉ vs := by
    intro us
    induction us with
    | nil => exact fun _ => ⟨hl, fun k h => h.elim (hk k) (fun z => nomatch z), ha⟩
    | cons u us ih =>
      intro hu
      obtain ⟨a, b, c⟩ := ih fun w hw => hu w (List.mem_cons_of_mem _ hw)
      have huv := hu u List.mem_cons_self
      have e : unw (u :: us) δ δ1 = (unw us δ δ1).set u (δ[u]?.getD .no) := upS_keep fun i x j e z => c i x j e (by rw [z]; exact huv)
      rw [e]
      have hp : plainS δ[u]? = true := List.all_eq_true.mp hw u huv
      refine ⟨by rw [List.length_set, a], fun k h => ?_, fun i x j q => ?_⟩
      · by_cases z : u = k
        · subst z
          rw [List.getElem?_set]
          rw [if_pos rfl]
          cases q : δ[u]? with
          | none => rw [q] at hp; cases hp
          | some t =>
            have : u < δ.length := (List.getElem?_eq_some_iff.mp q).1
            rw [if_pos (by rw [a]; exact this)]
            rfl
        · rw [List.getElem?_set_ne z]
          exact b k (h.imp id fun m => (List.mem_cons.mp m).elim (fun m => absurd m.symm z) id)
      · rw [List.getElem?_set] at q
        by_cases z : u = i
        · rw [if_pos z] at q
          split at q
          · cases q2 : δ[u]? with
            | none => rw [q2] at hp; cases hp
            | some t =>
              rw [q2] at q hp
              have : t = .al x j := Option.some.inj q
              subst this
              cases hp
          · cases q
        · rw [if_neg z] at q
          exact c i x j q
  obtain ⟨_, b, _⟩ := key vs fun _ h => h
  apply List.ext_getElem?
  intro k
  exact b k (if h : k ∈ vs then .inr h else .inl h)
section
variable {α β γ ε ζ ρ σ : Type} {Γ : Ga} {f : List Sl → Rs AV} {t : AV → List Sl → Rs Unit} {tt : List Sl → Rs Bool} {w : List Sl → Rs (List PyData)} {vs : List Nat}
def mapF : List α → (α → Option Bool) → (α → Option γ) → Option (List γ)
  | [], _, _ => some []
  | x :: r, c, g => (c x).bind fun b => if b = true then (g x).bind fun y => (mapF r c g).bind fun ys => some (y :: ys) else mapF r c g
theorem lcF [Enc α] {W : Bool} {a : γ → AV} {el : γ → El} (hel : ∀ y, elOf W (a y) = some (el y)) {ΓT : α → Ga} {pt : α → Option Bool} {pe : α → Option γ} (hok : okP vs Γ = true) (hc : calm vs Γ = true) (ht : ∀ x, Tg vs t (wipeP vs Γ) (enc x) (ΓT x)) (htt : ∀ x, Ts tt (ΓT x) (pt x)) (hf : ∀ x, Pu f (ΓT x) (pe x) a) :
    ∀ (xs : List α) (es : List El) (ys : List γ), mapF xs pt pe = some ys → es.length + xs.length ≤ cap → ∀ δ, Sat Γ δ → lcL W vs t tt f (xs.map enc) es δ = .ok (es ++ ys.map el) δ
  | [], es, ys, e, _, δ, _ => by
    cases some_of e
    simp [lcL]
  | x :: xs, es, ys, e, hl, δ, s => by
    obtain ⟨b, e1, e⟩ := bind_of e
    have hw := okP_ok hok s
    have hal := calm_ok hc s
    obtain ⟨δ1, h1, s1, k1⟩ := ht x (wipeD vs δ) (wipeP_ok s vs)
    obtain ⟨a1, b1, c1⟩ := k1 (wipe_al hal vs)
    have un : unw vs δ δ1 = δ := unw_id (by rw [a1, wipe_len]) (fun k hk => by rw [b1 k hk, wipe_get δ vs hk]) c1 hw
    have h2 := htt x b e1 δ1 s1
    rw [List.map_cons]
    simp only [List.length_cons] at hl
    unfold lcL
    rw [if_pos hw, h1]
    simp only [h2]
    cases b with
    | false =>
      rw [if_neg Bool.false_ne_true, un]
      exact lcF hel hok hc ht htt hf xs es ys (by simpa using e) (by omega) δ s
    | true =>
      rw [if_pos rfl] at e
      obtain ⟨y, e2, e⟩ := bind_of e
      obtain ⟨zs, e3, e⟩ := bind_of e
      cases some_of e
      have h3 := hf x y e2 δ1 s1
      simp only [if_true, h3, hel]
      rw [if_pos (by omega), un, lcF hel hok hc ht htt hf xs (es ++ [el y]) zs e3 (by simp; omega) δ s]
      simp
theorem el_val [Enc γ] {W : Bool} : ∀ y : γ, elOf W (.val (enc y)) = some (.fz (enc y)) := fun _ => rfl
theorem el_row [Enc γ] : ∀ y : List γ, elOf true (.tmp (ow y)) = some (.ow (y.map enc)) := fun y => by
  show (allFz _).map El.ow = _
  rw [allFz_map]
  rfl
theorem ow_els [Enc γ] (ys : List γ) : Sl.ol ([] ++ ys.map fun y => El.fz (enc y)) = ow ys := by
  unfold ow
  rw [List.nil_append, List.map_map]
  rfl
theorem pu_lc [Enc α] [Enc γ] {p : Option β} {xs : β → List α} {ΓT : β → α → Ga} {pt : β → α → Option Bool} {pe : β → α → Option γ} (hw : ItP w Γ p fun v => (xs v).map enc) (hok : okP vs Γ = true) (hc : calm vs Γ = true) (ht : ∀ v x, Tg vs t (wipeP vs Γ) (enc x) (ΓT v x)) (htt : ∀ v x, Ts tt (ΓT v x) (pt v x)) (hf : ∀ v x, Pu f (ΓT v x) (pe v x) fun y => .val (enc y)) :
    Pu (sLc false w vs t tt f) Γ (p.bind fun v => if (xs v).length ≤ cap then mapF (xs v) (pt v) (pe v) else none) fun r => .tmp (ow r) := fun r e δ s => by
  obtain ⟨v, e1, e⟩ := bind_of e
  by_cases c : (xs v).length ≤ cap
  · rw [if_pos c] at e
    unfold sLc
    rw [hw v e1 δ s]
    show (lcL false vs t tt f ((xs v).map enc) [] δ).bind _ = _
    rw [lcF el_val hok hc (ht v) (htt v) (hf v) (xs v) [] r e (by simpa using c) δ s]
    exact congrArg (fun z => Rs.ok (AV.tmp z) δ) (ow_els r)
  · rw [if_neg c] at e
    cases e
theorem pu_lcw [Enc α] [Enc γ] {p : Option β} {xs : β → List α} {ΓT : β → α → Ga} {pt : β → α → Option Bool} {pe : β → α → Option (List γ)} (hw : ItP w Γ p fun v => (xs v).map enc) (hok : okP vs Γ = true) (hc : calm vs Γ = true) (ht : ∀ v x, Tg vs t (wipeP vs Γ) (enc x) (ΓT v x)) (htt : ∀ v x, Ts tt (ΓT v x) (pt v x)) (hf : ∀ v x, Pu f (ΓT v x) (pe v x) fun y => .tmp (ow y)) :
    Pu (sLc true w vs t tt f) Γ (p.bind fun v => if (xs v).length ≤ cap then mapF (xs v) (pt v) (pe v) else none) fun r => .tmp (oww r) := fun r e δ s => by
  obtain ⟨v, e1, e⟩ := bind_of e
  by_cases c : (xs v).length ≤ cap
  · rw [if_pos c] at e
    unfold sLc
    rw [hw v e1 δ s]
    show (lcL true vs t tt f ((xs v).map enc) [] δ).bind _ = _
    rw [lcF el_row hok hc (ht v) (htt v) (hf v) (xs v) [] r e (by simpa using c) δ s]
    rfl
  · rw [if_neg c] at e
    cases e
end
section
variable {ρ : Type} {B : List Sl → Ot}
theorem sat_eqs : ∀ ss : List Sl, Sat (ss.map .eq) ss
  | [] => .nil
  | s :: r => .cons rfl (sat_eqs r)
/-- what pinned slots hold behind -/
def outsP (n : Nat) (pin : List Nat) (Γ : Ga) : Option (List Sl) := (List.range n).mapM fun i => if i ∈ pin then (match Γ[i]? with
  | some (.eq s) => some (noAl s)
  | _ => none) else some .no
theorem outsP_ok {n : Nat} {pin : List Nat} {Γ : Ga} {δ o : List Sl} (h : outsP n pin Γ = some o) (s : Sat Γ δ) : outs n pin δ = o := by
  unfold outsP at h
  unfold outs
  generalize List.range n = l at h
  induction l generalizing o with
  | nil => cases h; rfl
  | cons i r ih =>
    rw [List.mapM_cons] at h
    obtain ⟨x, e1, h⟩ := bind_of h
    obtain ⟨y, e2, h⟩ := bind_of h
    cases some_of h
    rw [List.map_cons, ih e2]
    congr 1
    by_cases c : i ∈ pin
    · rw [if_pos c] at e1 ⊢
      cases q : Γ[i]? with
      | none => rw [q] at e1; cases e1
      | some p =>
        rw [q] at e1
        cases p with
        | eq t =>
          cases some_of e1
          rw [s.at_ q]
          rfl
        | _ => cases e1
    · rw [if_neg c] at e1 ⊢
      exact (some_of e1).symm
theorem fun_of {n m : Nat} {pin : List Nat} {p : Option ρ} {ins : List Sl} {ret : ρ → Sl} {ΓR : ρ → Ga} {out : ρ → List Sl} (h : Bl B ((ins ++ List.replicate (m - n) Sl.no).map Pt.eq) p (RF (fun r => .eq (ret r)) ΓR)) (ho : ∀ r, outsP n pin (ΓR r) = some (out r) := by intro _; rfl) : Fun (fnRun n m pin B) p ins ret out := fun r e => by
  obtain ⟨s, δ', h1, h2, h3⟩ := h r e _ (sat_eqs _)
  cases (show s = ret r from h2)
  have ho := outsP_ok (ho r) h3
  unfold fnRun
  rcases h1 with h1 | ⟨h1, h4⟩
  · simp only [h1, ho]
  · simp only [h1, ho, h4]
end
theorem rf_eq {ρ : Type} {ret : ρ → Pt} {ΓR : ρ → Ga} {r : ρ} {s : Sl} {Γ : Ga} (h : (ret r).Ok s) (l : GaLe Γ (ΓR r)) : ∀ δ', Sat Γ δ' → RF ret ΓR r (.rt s δ') := fun δ' sa => ⟨s, δ', .inl rfl, h, sa.wk l⟩
theorem rf_nx {ρ : Type} {ret : ρ → Pt} {ΓR : ρ → Ga} {r : ρ} {Γ : Ga} (h : (ret r).Ok (.fz .none)) (l : GaLe Γ (ΓR r)) : ∀ δ', Sat Γ δ' → RF ret ΓR r (.nx δ') := fun δ' sa => ⟨.fz .none, δ', .inr ⟨rfl, rfl⟩, h, sa.wk l⟩
theorem rs_nx {σ : Type} {ΓS : σ → Ga} {r : σ} {Γ : Ga} (l : GaLe Γ (ΓS r)) : ∀ δ', Sat Γ δ' → RS ΓS r (.nx δ') := fun δ' sa => ⟨δ', .inl rfl, sa.wk l⟩
theorem rl_nx {ρ σ : Type} {Q : ρ → Ot → Prop} {ΓS ΓB : σ → Ga} {r : σ} {Γ : Ga} (l : GaLe Γ (ΓS r)) : ∀ δ', Sat Γ δ' → RL Q ΓS ΓB (.nx r) (.nx δ') := fun δ' sa => ⟨δ', .inl rfl, sa.wk l⟩
theorem rl_rt {ρ σ : Type} {Q : ρ → Ot → Prop} {ΓS ΓB : σ → Ga} {r : ρ} {Γ : Ga} {s : Sl} (h : ∀ δ', Sat Γ δ' → Q r (.rt s δ')) : ∀ δ', Sat Γ δ' → RL Q ΓS ΓB (.rt r) (.rt s δ') := fun δ' sa => ⟨h δ' sa, s, δ', rfl⟩
end Nv
namespace Nv
open PySem Hb L2
open Enc (enc)
section
variable {α β γ ε ζ : Type} [Enc α] [Enc β] {Γ : Ga} {fa fb : List Sl → Rs AV} {g : AV → AV → List Sl → Rs AV} {h : AV → List Sl → Rs AV} {op : α → β → Option γ} {op1 : α → Option γ} {a : γ → AV}
/-- with effects -/
theorem ev2g (o : Op2 g op a) {pa : Option ε} {va : ε → α} {Γ1 : ε → Ga} {pb : ε → Option ζ} {vb : ε → ζ → β} {Γ2 : ε → ζ → Ga} (ha : Er fa Γ pa (fun x => enc (va x)) Γ1) (hb : ∀ x, Es fb (Γ1 x) (pb x) (fun y => enc (vb x y)) (Γ2 x)) :
    Ev (s2 g fa fb) Γ (pa.bind fun x => (pb x).bind fun y => (op (va x) (vb x y)).bind fun r => some (r, x, y)) (fun r => a r.1) (fun r => Γ2 r.2.1 r.2.2) := fun r e δ s => by
  obtain ⟨v, e1, e⟩ := bind_of e
  obtain ⟨w, e2, e⟩ := bind_of e
  obtain ⟨z, q, e⟩ := bind_of e
  cases some_of e
  obtain ⟨δ1, h1, s1⟩ := ha v e1 δ s
  obtain ⟨y, δ2, k1, k2, k3, s2⟩ := hb v w e2 δ1 s1
  refine ⟨δ2, ?_, s2⟩
  unfold Hb.s2
  rw [h1]
  show (sSt fb δ1).bind _ = _
  rw [k1]
  exact o (va v) (vb v w) z δ2 (.val (enc (va v))) y rfl rfl k2 k3 q
/-- nothing given: a statement whose value is None -/
theorem Ts.te' {t : List Sl → Rs Bool} {p : Option Bool} (h : Ts t Γ p) : Te t Γ p (fun v => v) fun _ => Γ := fun v e δ s => ⟨δ, h v e δ s, s⟩
theorem pu_none : Pu (sC .none) Γ (some ()) fun v => .val (enc v) := fun v e δ _ => rfl
end
/-- a pure list display without items -/
theorem pu_nil {α : Type} [Enc α] {Γ : Ga} : Pu (sLst lNil) Γ (some ([] : List α)) fun r => .tmp (ow r) := fun v e δ _ => by
  cases some_of e
  rfl
theorem pu_nilT {α : Type} [Enc α] {Γ : Ga} : Pu (sTup lNil) Γ (some (Tp.mk ([] : List α))) fun r => .val (enc r) := fun v e δ _ => by
  cases some_of e
  rfl
theorem pu_dicn {κ α : Type} [Enc κ] [Enc α] {Γ : Ga} : Pu sDic0 Γ (some (Dc.mk ([] : List (κ × α)))) fun r => .tmp (od r) := fun v e δ _ => by
  cases some_of e
  rfl
section
variable {α β γ ε ζ ρ σ : Type} {Γ : Ga} {f fa fb : List Sl → Rs AV} {t : List Sl → Rs Bool}
/-- the same tree in another type -/
theorem pu_co [Enc α] [Enc β] (u : α → β) {p : Option α} (h : Pu f Γ p fun v => .val (enc v)) (hu : ∀ x, enc (u x) = enc x := by intro _; rfl) : Pu f Γ (p.bind fun x => some (u x)) fun v => .val (enc v) := fun r e δ s => by
  obtain ⟨v, e1, e⟩ := bind_of e
  cases some_of e
  show _ = Rs.ok (AV.val (enc (u v))) δ
  rw [hu]
  exact h v e1 δ s
def asIntA : PyData → Option Int
  | .int i => some i
  | _ => none
theorem _root_.Nv.Pu.asI {p : Option PyData} (hh : Pu f Γ p fun v => .val (enc v)) : Pu f Γ (p.bind fun d => asIntA d) fun v => .val (enc v) := fun r e δ s => by
  obtain ⟨v, e1, e⟩ := bind_of e
  cases v with
  | int i => cases some_of e; exact hh _ e1 δ s
  | _ => cases e
theorem _root_.Nv.Pu.un [Enc α] {p : Option (Option α)} (hh : Pu f Γ p fun v => .val (enc v)) : Pu f Γ (p.bind fun d => d) fun v : α => .val (enc v) := fun r e δ s => by
  obtain ⟨v, e1, e⟩ := bind_of e
  subst e
  exact hh _ e1 δ s
end
end Nv
namespace Nv
open PySem Hb L2
open Enc (enc)
section
variable {β ζ : Type} {Γ : Ga}
theorem bl_ga {f : List Sl → Ot} {p : Option ζ} {R : ζ → Ot → Prop} (Δ : Ga) (h : Γ = Δ) (k : Bl f Δ p R) : Bl f Γ p R := by subst h; exact k
theorem pu_ga {f : List Sl → Rs AV} {p : Option β} {a : β → AV} (Δ : Ga) (h : Γ = Δ) (k : Pu f Δ p a) : Pu f Γ p a := by subst h; exact k
theorem ts_ga {f : List Sl → Rs Bool} {p : Option Bool} (Δ : Ga) (h : Γ = Δ) (k : Ts f Δ p) : Ts f Γ p := by subst h; exact k
theorem es_ga {f : List Sl → Rs AV} {p : Option β} {d : β → PyData} {Γ' : β → Ga} (Δ : Ga) (h : Γ = Δ) (q : Es f Δ p d Γ') : Es f Γ p d Γ' := by subst h; exact q
theorem ag_ga {g : List Sl → Rs (List Ar)} {p : Option β} {as : β → List Ar} {Γ' : β → Ga} (Δ : Ga) (h : Γ = Δ) (q : Ag g Δ p as Γ') : Ag g Γ p as Γ' := by subst h; exact q
theorem sat_ga {Q : List Sl → Prop} (Δ : Ga) (h : Γ = Δ) (k : ∀ δ', Sat Δ δ' → Q δ') : ∀ δ', Sat Γ δ' → Q δ' := by subst h; exact k
end
end Nv
namespace Nv
open PySem Hb L2
open Enc (enc)
end Nv
namespace Nv
open PySem Hb L2
open Enc (enc)
section
variable {α β γ ε ζ : Type} {Γ : Ga} {fa fb fc : List Sl → Rs AV}
def fdivW (i j : Int) : Option Int := if 0 < j ∧ j < 2 ^ 1000 then some (i / j) else none
def powW (i j : Int) : Option Int := if 0 ≤ j ∧ j ≤ 64 ∧ i.natAbs < 2 ^ 1024 then some (i ^ j.toNat) else none
theorem op_fdivW : Op2 gFdivW fdivW fun r => .val (enc r) := op_gIc (C := fun _ j => 0 < j ∧ j < 2 ^ 1000)
theorem op_powW : Op2 gPowW powW fun r => .val (enc r) := op_gIc (C := fun i j => 0 ≤ j ∧ j ≤ 64 ∧ i.natAbs < 2 ^ 1024)
theorem noDics_ints : ∀ ns : List Int, noDics (ns.map .int) = true
  | [] => by simp [noDics]
  | n :: r => by simp [noDics, noDic, noDics_ints r]
theorem sortOk_ints {ns : List Int} (h : ns.length ≤ cap) : sortOk (ns.map .int) = true := by
  unfold sortOk
  simp only [Bool.and_eq_true, Bool.or_eq_true, List.all_eq_true, decide_eq_true_eq, List.mem_map, List.length_map]
  refine ⟨⟨⟨⟨?_, .inr ?_⟩, ?_⟩, noDics_ints ns⟩, h⟩
  · rintro _ ⟨i, _, rfl⟩ _ ⟨j, _, rfl⟩
    simp [PySem.W.alike]
  · rintro _ ⟨i, _, rfl⟩
    rfl
  · rintro _ ⟨i, _, rfl⟩
    simp [PyData.depth]
def srtAC : PyData → Option (List Int)
  | .list ds => (intsOf ds).bind fun ns => if ns.length ≤ cap then some (sortI ns) else none
  | _ => none
theorem sort_int (ns : List Int) : (ns.map PyData.int).mergeSort (PySem.W.dataLe false fun d => d) = (sortI ns).map .int := by
  unfold sortI
  refine (PySem.W.sort_maps PyData.int fun a _ b _ => ?_).symm
  have := congrFun (congrFun (PySem.W.dataLe_int (fun i : Int => i)) a) b
  exact this.symm
theorem op_srtAC : Op1 gSortD srtAC fun r => .tmp (ow r) := fun v r δ x h h' e => by
  have h : rdC δ x = some v := h
  cases v with
  | list ds =>
    have e : (intsOf ds).bind (fun ns => if ns.length ≤ cap then some (sortI ns) else none) = some r := e
    obtain ⟨ns, e1, e2⟩ := bind_of e
    have e3 := intsOf_eq e1
    subst e3
    by_cases c : ns.length ≤ cap
    · rw [if_pos c] at e2
      cases some_of e2
      simp only [gSortD, h, if_pos (sortOk_ints c), sort_int]
      rfl
    · rw [if_neg c] at e2
      cases e2
  | _ => cases e
end
end Nv
namespace Nv
open PySem Hb L2
open Enc (enc)
class EncKey (κ : Type) [Enc κ] where
  key : κ → Key
  h : ∀ k : κ, keyOf (enc k) = some (key k)
  inj : ∀ a b : κ, key a = key b → a = b
instance : EncKey Int := ⟨.inl, fun _ => rfl, fun _ _ h => Sum.inl.inj h⟩
instance : EncKey Str := ⟨.inr, fun _ => rfl, fun _ _ h => Sum.inr.inj h⟩
section
variable {α β γ κ : Type} [Enc α] [Enc β] [Enc κ] [DecidableEq κ] [EncKey κ] {Γ : Ga} {fa fb : List Sl → Rs AV}
theorem notDic_list {δ : List Sl} {x : AV} {ds : List PyData} (h : rdA δ x = some (.list ds)) : isDic x δ = false := by simp [isDic, dicA, h]
theorem notDic_tup {δ : List Sl} {x : AV} {ds : List PyData} (h : rdA δ x = some (.tuple ds)) : isDic x δ = false := by simp [isDic, dicA, h]
theorem op_ix2 : Op2 gIx2 (atL (α := α)) fun r => .val (enc r) := fun v w r δ x y h1 h1' h2 h2' e => by
  have : gIx2 x y δ = gIx x y δ := by unfold gIx2; rw [notDic_list (show rdA δ x = some (.list (v.map enc)) from h1')]; rfl
  rw [this]
  exact op_ix v w r δ x y h1 h1' h2 h2' e
theorem pu_tix2 {pa : Option α} {π : α → β} {k : Int} {ds : α → List PyData} (ha : Rd fa Γ pa enc) (h1 : ∀ v : α, enc v = .tuple (ds v)) (h2 : ∀ v, atI (ds v) k = some (enc (π v))) : Pu (s2 gIx2 fa (sC (.int k))) Γ (pa.bind fun v => some (π v)) fun r => .val (enc r) := fun r e δ s => by
  obtain ⟨v, e1, e'⟩ := bind_of e
  obtain ⟨x, q1, q2, q3⟩ := ha v e1 δ s
  have old := pu_tix (π := π) (k := k) ha h1 h2 r e δ s
  unfold Hb.s2 at old ⊢
  rw [q1] at old ⊢
  have nd : isDic x δ = false := notDic_tup (by rw [q3, h1])
  show gIx2 x (.val (.int k)) δ = _
  unfold gIx2
  rw [nd]
  exact old
end
section
variable {α : Type} [Enc α] {Γ : Ga} {f : List Sl → Rs AV} {p : Option (List α)}
theorem enc_any (xs : List α) : (enc (xs.map enc : List PyData) : PyData) = enc xs := by
  show PyData.list ((xs.map enc).map fun d => d) = PyData.list (xs.map enc)
  rw [List.map_id']
theorem Rd.anyL (hh : Rd f Γ p enc) : Rd f Γ (p.bind fun xs => some (xs.map enc)) (enc : List PyData → PyData) := fun r e δ s => by
  obtain ⟨v, e1, e⟩ := bind_of e
  cases some_of e
  rw [enc_any]
  exact hh _ e1 δ s
end
end Nv
namespace Nv
open PySem Hb L2
open Enc (enc)
section
variable {Γ : Ga} {f : List Sl → Rs AV} {p : Option PyData}
def asIL : PyData → Option (List Int)
  | .list ds => intsOf ds
  | _ => none
theorem asIL_enc {d : PyData} {ns : List Int} (h : asIL d = some ns) : (enc ns : PyData) = d := by
  cases d with
  | list es =>
    have := intsOf_eq (show intsOf es = some ns from h)
    subst this
    rfl
  | _ => cases h
theorem Pu.asIL (hh : Pu f Γ p fun v => .val (enc v)) : Pu f Γ (p.bind fun d => Nv.asIL d) fun v : List Int => .val (enc v) := fun r e δ s => by
  obtain ⟨v, e1, e⟩ := bind_of e
  show _ = Rs.ok (AV.val (enc r)) δ
  rw [asIL_enc e]
  exact hh _ e1 δ s
end
theorem Pu.mapV {α β : Type} [Enc α] {Γ : Ga} {f : List Sl → Rs AV} {p : Option β} (k : β → α) (h : Pu f Γ p fun x => .val (enc (k x))) : Pu f Γ (p.bind fun x => some (k x)) fun v => .val (enc v) := fun r e δ s => by
  obtain ⟨v, e1, e⟩ := bind_of e
  cases some_of e
  exact h v e1 δ s
theorem Pu.mapT {α β : Type} [Enc α] {Γ : Ga} {f : List Sl → Rs AV} {p : Option β} (k : β → List α) (h : Pu f Γ p fun x => .tmp (ow (k x))) : Pu f Γ (p.bind fun x => some (k x)) fun v => .tmp (ow v) := fun r e δ s => by
  obtain ⟨v, e1, e⟩ := bind_of e
  cases some_of e
  exact h v e1 δ s
end Nv
namespace Nv
open PySem Hb L2
open Enc (enc)
section
/-- as everything stands still, name by name -/
inductive FrzP : Pt → Pt → Prop
  | no : FrzP (.eq .no) (.eq .no)
  | fz {d : PyData} : FrzP (.eq (.fz d)) (.eq (.fz d))
  | ow {α : Type} [Enc α] {xs : List α} : FrzP (.eq (ow xs)) (.eq (.fz (enc xs)))
  | oww {α : Type} [Enc α] {xs : List (List α)} : FrzP (.eq (oww xs)) (.eq (.fz (enc xs)))
  | od {κ α : Type} [Enc κ] [Enc α] {xs : Dc κ α} : FrzP (.eq (od xs)) (.eq (.fz (enc xs)))
  | tr {d : PyData} : FrzP (.tr d) (.eq (.fz d))
  | ts {d : PyData} : FrzP (.ts d) (.eq (.fz d))
  | aa {p : Pt} : FrzP p .aa
inductive FrzG : Ga → Ga → Prop
  | nil : FrzG [] []
  | cons {p q : Pt} {Γ Δ : Ga} : FrzP p q → FrzG Γ Δ → FrzG (p :: Γ) (q :: Δ)
theorem FrzP.ok {p q : Pt} (z : FrzP p q) {s : Sl} (h : p.Ok s) (δ : List Sl) : q.Ok (frzS δ s) := by
  cases z with
  | no => cases (show s = .no from h); exact rfl
  | fz => cases (show s = .fz _ from h); exact rfl
  | @ow α _ xs =>
    cases (show s = Nv.ow xs from h)
    show Sl.fz _ = _
    exact congrArg Sl.fz (Option.some.inj (ow_tree xs))
  | @oww α _ xs =>
    cases (show s = Nv.oww xs from h)
    show Sl.fz _ = _
    exact congrArg Sl.fz (Option.some.inj (oww_tree xs))
  | od => cases (show s = Nv.od _ from h); exact rfl
  | tr =>
    rcases h with ⟨h, ds, rfl⟩ | rfl
    · show Sl.fz (.list _) = _
      exact congrArg Sl.fz (Option.some.inj h)
    · exact rfl
  | ts =>
    rcases h with ⟨h, ds, rfl⟩ | ⟨rfl, _⟩
    · show Sl.fz (.list _) = _
      exact congrArg Sl.fz (Option.some.inj h)
    · exact rfl
  | aa => trivial
theorem FrzG.sat {Γ Γ0 : Ga} (z : FrzG Γ Γ0) : ∀ {δ : List Sl}, Sat Γ δ → ∀ δ0, Sat Γ0 (δ.map (frzS δ0)) := by
  induction z with
  | nil => intro δ h δ0; cases h; exact .nil
  | cons z _ ih => intro δ h δ0; cases h with | cons h1 h2 => exact .cons (z.ok h1 δ0) (ih h2 δ0)
/-- its values hold nothing -/
class Scal (α : Type) [Enc α] : Prop where
  s : ∀ x : α, scalD (enc x) = true
instance : Scal Int := ⟨fun _ => rfl⟩
instance : Scal Bool := ⟨fun _ => rfl⟩
instance : Scal Str := ⟨fun _ => rfl⟩
instance : Scal Unit := ⟨fun _ => rfl⟩
instance {α : Type} [Enc α] [Scal α] : Scal (Option α) := ⟨fun x => match x with
  | none => rfl
  | some x => Scal.s x⟩
variable {α β γ ε : Type} {Γ : Ga} {f fa : List Sl → Rs AV}
end
end Nv
namespace Nv
open PySem Hb L2
open Enc (enc)
end Nv
namespace Nv
open PySem Hb L2
open Enc (enc)
end Nv
namespace Nv
open PySem Hb L2
open Enc (enc)
end Nv
namespace Nv
open PySem Hb L2
open Enc (enc)
end Nv
namespace Nv
open PySem Hb L2
open Enc (enc)
section
variable {α β γ ε ζ σ ρ : Type} {Γ Γx : Ga} {f : List Sl → Rs AV} {A g : List Sl → Ot} {R : ζ → Ot → Prop}
/-- it lets out an error of a class -/
def RX (Γx : Ga) : Str → Ot → Prop := fun C ot => ∃ δ', ot = .er ⟨C, none⟩ δ' ∧ Sat Γx δ'
def FunX (F : List Sl → FR) (p : Option Str) (ins : List Sl) : Prop := ∀ C, p = some C → ∃ δ', F ins = .er ⟨C, none⟩ δ'
def Xe (f : List Sl → Rs AV) (Γ : Ga) (p : Option Str) (Γx : Ga) : Prop := ∀ C, p = some C → ∀ δ, Sat Γ δ → ∃ δ', f δ = .er ⟨C, none⟩ δ' ∧ Sat Γx δ'
theorem bl_raiseS {C : Str} (l : GaLe Γ Γx) : Bl (oSeq (oRaise C) g) Γ (some C) (RX Γx) := fun r e δ s => by
  cases some_of e
  exact ⟨δ, rfl, s.wk l⟩
theorem bl_xor {p q : Option ζ} (h : Bl A Γ p R) (h2 : Bl A Γ q R) : Bl A Γ (Option.or p q) R := fun r e δ s => by
  cases p with
  | some x => exact h r (by simpa using e) δ s
  | none => exact h2 r (by simpa using e) δ s
theorem callF_er {F : List Sl → FR} {as : List Ar} {l o : List Sl} {δ : List Sl} {x : Exn} (h : insOf as = some l) (hF : F l = .er x o) : callF F as δ = .er x δ := by
  obtain ⟨h1, h2⟩ := ins_args (δ := δ) h
  unfold callF backS
  rw [h2]
  rw [if_pos List.nodup_nil, h1]
  simp only [hF]
  rw [putB_nil h]
  rfl
theorem xe_call {F : List Sl → FR} {dd : List PyData} {q : Option β} {as : β → List Ar} {x : β → Option Str} {ins : β → List Sl} {gg : List Sl → Rs (List Ar)} (hg : AgP gg Γ q as) (hX : ∀ v, FunX F (x v) (ins v)) (l : GaLe Γ Γx) (hi : ∀ v, insOf (as v ++ dd.map .fz) = some (ins v) := by intro _; rfl) : Xe (sCall F dd gg) Γ (q.bind x) Γx := fun C e δ s => by
  obtain ⟨v, e1, e⟩ := bind_of e
  obtain ⟨o, h⟩ := hX v C e
  refine ⟨δ, ?_, s.wk l⟩
  unfold sCall
  rw [hg v e1 δ s]
  exact callF_er (hi v) h
theorem Xe.st {p : Option Str} (h : Xe f Γ p Γx) : Xe (sSt f) Γ p Γx := fun C e δ s => by
  obtain ⟨δ', h1, h2⟩ := h C e δ s
  exact ⟨δ', by unfold sSt; rw [h1], h2⟩
theorem Xe.tk {p : Option Str} (h : Xe f Γ p Γx) : Xe (sTk f) Γ p Γx := fun C e δ s => by
  obtain ⟨δ', h1, h2⟩ := h.st C e δ s
  exact ⟨δ', by unfold sTk; rw [h1], h2⟩
theorem Xe.mv {p : Option Str} (h : Xe f Γ p Γx) : Xe (sMv f) Γ p Γx := fun C e δ s => by
  obtain ⟨δ', h1, h2⟩ := h C e δ s
  exact ⟨δ', by unfold sMv; rw [h1], h2⟩
theorem bl_exprX {p : Option Str} (h : Xe f Γ p Γx) : Bl (oSeq (oDrop f) g) Γ p (RX Γx) := fun C e δ s => by
  obtain ⟨δ', h1, h2⟩ := h C e δ s
  refine ⟨δ', ?_, h2⟩
  unfold oSeq oDrop
  rw [h1]; rfl
theorem bl_retX {p : Option Str} (h : Xe f Γ p Γx) : Bl (oRet f) Γ p (RX Γx) := fun C e δ s => by
  obtain ⟨δ', h1, h2⟩ := h.mv C e δ s
  refine ⟨δ', ?_, h2⟩
  unfold oRet
  rw [h1]; rfl
theorem bl_retXS {p : Option Str} (h : Xe f Γ p Γx) : Bl (oSeq (oRet f) g) Γ p (RX Γx) := fun C e δ s => by
  obtain ⟨δ', h1, h2⟩ := bl_retX h C e δ s
  refine ⟨δ', ?_, h2⟩
  unfold oSeq
  rw [h1]
theorem funx_of {n m : Nat} {pin : List Nat} {B : List Sl → Ot} {ins : List Sl} {p : Option Str} (h : Bl B Γ p (RX Γx)) (hs : Sat Γ (ins ++ List.replicate (m - n) .no)) : FunX (fnRun n m pin B) p ins := fun C e => by
  obtain ⟨δ', h1, _⟩ := h C e _ hs
  refine ⟨outs n pin δ', ?_⟩
  unfold fnRun
  rw [h1]
theorem funx_eq {n m : Nat} {pin : List Nat} {B : List Sl → Ot} {ins : List Sl} {p : Option Str} (h : Bl B ((ins ++ List.replicate (m - n) Sl.no).map Pt.eq) p (RX Γx)) : FunX (fnRun n m pin B) p ins := funx_of h (sat_eqs _)
end
end Nv
namespace Hb
open PySem L2
end Hb
namespace P
open PySem PySem.Spec PyProof.Rows L2 Hb Nv
open Enc (enc)
def B__law_cells : List Sl → Ot :=
    oRet (sSl (s2 gAdd (sVar 0) (sLst (lCons (sC (.int 0)) (lNil)))) none (some (s2 gMax2 (sC (.int 1)) (s2 gMin2 (sVar 1) (s1 (gRd lenD) (sVar 0))))))
def F__law_cells : List Sl → FR := fnRun 2 2 [] B__law_cells
def n__law_cells (a0 : (List Int)) (a1 : Int) : Option ((List Int)) :=
    (Option.bind (Option.bind (Option.bind (some a0) fun x4 => Option.bind (Option.bind (Option.bind (some (0 : Int)) fun x1 => Option.bind (some ()) fun x3 => some (x1, x3)) fun x2 => some ([(Prod.fst x2)] : (List Int))) fun x5 => catL x4 x5) fun x12 => Option.bind (some none) fun x13 => Option.bind (Option.bind (Option.bind (some (1 : Int)) fun x9 => Option.bind (Option.bind (some a1) fun x7 => Option.bind (Option.bind (some a0) fun x6 => lenL x6) fun x8 => minI2 x7 x8) fun x10 => maxI2 x9 x10) fun x11 => some (some x11)) fun x14 => some (cutL x12 x13 x14)) fun x15 => some x15)
theorem V__law_cells (a0 : (List Int)) (a1 : Int) : Fun F__law_cells (n__law_cells a0 a1) [.fz (enc a0), .fz (enc a1)] (fun r : ((List Int)) => ow (r : (List Int))) fun r => [.no, .no] :=
  fun_of (ΓR := fun r => [.aa, .aa]) (show Bl B__law_cells _ _ _ from (bl_ga [.eq (.fz (enc (a0 : (List Int)))), .eq (.fz (enc (a1 : Int)))] (by kernel_rfl) (bl_retT ((pu_sl (((pu2 Nv.op_cat ((pu_var 0 rfl)).rd (((pu_lst (dp_cons (pu_c).tkP dp_nil) (fun x2 => ([(Prod.fst x2)] : (List Int))))).rdT ow_tree))).rdT ow_tree) .no (.yes ((pu2 Nv.op_max2 (pu_c).rd ((pu2 Nv.op_min2 ((pu_var 1 rfl)).rd ((pu1A Nv.op_len (((pu_var 0 rfl)).rd).ra)).rd)).rd)).rd))).ev fun x15 => (rf_eq rfl (.cons .aa (.cons .aa .nil))))))
end P
namespace P
open PySem PySem.Spec PyProof.Rows L2 Hb Nv
open Enc (enc)
def B_is_integer : List Sl → Ot :=
    oSeq (oIf (sOr (sNot (sTru (s1 (gIsi "int") (sVar 0)))) (sTru (s1 (gIsi "bool") (sVar 0)))) (oRet (sC (.bool false))) (oNext))
    (oRet (sAndV (s2 gLe (sVar 1) (sVar 0)) (sOrV (s2 (gIs false) (sVar 2) (sC .none)) (s2 gLe (sVar 0) (sVar 2)))))
def F_is_integer : List Sl → FR := fnRun 3 3 [] B_is_integer
def n_is_integer (a0 : PyData) (a1 : Int) (a2 : (Option Int)) : Option (Bool) :=
    (Option.bind (Option.bind (Option.bind (Option.bind (some a0) fun x1 => isiN "int" x1) fun x3 => some !x3) fun x6 => if x6 = true then some true else (Option.bind (some a0) fun x4 => isiN "bool" x4)) fun x7 => if x7 = true then (Option.bind (some false) fun x8 => some x8) else (Option.bind (Option.bind (Option.bind (some a1) fun x10 => Option.bind (Option.bind (some a0) fun x9 => asIntA x9) fun x11 => leI x10 x11) fun x18 => if x18 = true then (Option.bind (Option.bind (some a2) fun x12 => some (if false = true then Option.isSome x12 else Option.isNone x12)) fun x17 => if x17 = true then some true else (Option.bind (Option.bind (some a0) fun x13 => asIntA x13) fun x15 => Option.bind (Option.bind (some a2) fun x14 => x14) fun x16 => leI x15 x16)) else some false) fun x19 => some x19))
theorem V_is_integer (a0 : PyData) (a1 : Int) (a2 : (Option Int)) : Fun F_is_integer (n_is_integer a0 a1 a2) [.fz (enc a0), .fz (enc a1), .fz (enc a2)] (fun r : (Bool) => .fz (enc (r : Bool))) fun r => [.no, .no, .no] :=
  fun_of (ΓR := fun r => [.aa, .aa, .aa]) (show Bl B_is_integer _ _ _ from (bl_ga [.eq (.fz (enc (a0 : PyData))), .eq (.fz (enc (a1 : Int))), .eq (.fz (enc (a2 : (Option Int))))] (by kernel_rfl) (bl_if (k := fun x7 => x7) ((ts_or (ts_not (ts_truB (((pu1A (Nv.op_isi (T := "int")) (((pu_var 0 rfl)).rd).ra)).rd).ra)) (ts_truB (((pu1A (Nv.op_isi (T := "bool")) (((pu_var 0 rfl)).rd).ra)).rd).ra))).te' (fun x7 => (bl_retS (bl_retV (pu_c).ev fun x8 => (rf_eq rfl (.cons .aa (.cons .aa (.cons .aa .nil))))))) fun x7 => (bl_next (bl_retV ((pu_andV (pu2 Nv.op_le ((pu_var 1 rfl)).rd ((Pu.asI (pu_var 0 rfl))).rd) (pu_orV (pu_isN (n := false) (((pu_var 2 rfl)).rd).ra) (pu2 Nv.op_le ((Pu.asI (pu_var 0 rfl))).rd ((Pu.un (pu_var 2 rfl))).rd)))).ev fun x19 => (rf_eq rfl (.cons .aa (.cons .aa (.cons .aa .nil)))))))))
end P
namespace P
open PySem PySem.Spec PyProof.Rows L2 Hb Nv
open Enc (enc)
def B_is_each_once : List Sl → Ot :=
    oSeq (oIf (sOr (sNot (sTru (s1 (gIsi "list") (sVar 1)))) (sOr (sTst (s2 gNe (s1 (gRd lenD) (sVar 1)) (sVar 0))) (sNot (sTru (s1 (gRd (overB fun ns => some (.bool (ns.all id)))) (sLc false (wSeq (sVar 1)) [2] (tgN 2) (tOk) (sTk (sCall F_is_integer [.none] (rCons (sTk (sVar 2)) (rCons (sC (.int 0)) (rNil))))))))))) (oRet (sC (.bool false))) (oNext))
    (oRet (s2 gEq (s1 (gSortD) (sVar 1)) (s1 gRg1 (sVar 0))))
def F_is_each_once : List Sl → FR := fnRun 2 3 [] B_is_each_once
def n_is_each_once (a0 : Int) (a1 : PyData) : Option (Bool) :=
    (Option.bind (Option.bind (Option.bind (Option.bind (some a1) fun x1 => isiN "list" x1) fun x3 => some !x3) fun x19 => if x19 = true then some true else (Option.bind (Option.bind (Option.bind (some a1) fun x4 => lenA x4) fun x5 => Option.bind (some a0) fun x6 => neN x5 x6) fun x18 => if x18 = true then some true else (Option.bind (Option.bind (Option.bind (Option.bind (some a1) fun x7 => seqA x7) fun x8 => if List.length (x8) ≤ cap then mapF x8 (fun x9 => (some true)) (fun x9 => (Option.bind (Option.bind (some x9) fun x10 => Option.bind (Option.bind (some (0 : Int)) fun x11 => Option.bind (some ()) fun x12 => some (x11, x12)) fun x13 => some (x10, x13)) fun x14 => n_is_integer ((Prod.fst x14) : PyData) ((Prod.fst (Prod.snd x14)) : Int) ((none : (Option Int)) : (Option Int)))) else none) fun x15 => allB x15) fun x17 => some !x17))) fun x20 => if x20 = true then (Option.bind (some false) fun x21 => some x21) else (Option.bind (Option.bind (Option.bind (some a1) fun x22 => srtAC x22) fun x24 => Option.bind (Option.bind (some a0) fun x23 => rg1 x23) fun x25 => eqN x24 x25) fun x26 => some x26))
theorem V_is_each_once (a0 : Int) (a1 : PyData) : Fun F_is_each_once (n_is_each_once a0 a1) [.fz (enc a0), .fz (enc a1)] (fun r : (Bool) => .fz (enc (r : Bool))) fun r => [.no, .no] :=
  fun_of (ΓR := fun r => [.aa, .aa, .aa]) (show Bl B_is_each_once _ _ _ from (bl_ga [.eq (.fz (enc (a0 : Int))), .eq (.fz (enc (a1 : PyData))), .eq .no] (by kernel_rfl) (bl_if (k := fun x20 => x20) ((ts_or (ts_not (ts_truB (((pu1A (Nv.op_isi (T := "list")) (((pu_var 1 rfl)).rd).ra)).rd).ra)) (ts_or (ts_tst (pu2A Nv.op_ne (((pu1A Nv.op_lenA (((pu_var 1 rfl)).rd).ra)).rd).ra (((pu_var 0 rfl)).rd).ra)) (ts_not (ts_truB (((pu1A Nv.op_all ((((pu_lc (vs := [2]) (ip_seqA ((pu_var 1 rfl)).tkP) rfl rfl (fun x8 x9 => tg_n) (fun x8 x9 => (ts_ga [.eq (.fz (enc (a0 : Int))), .eq (.fz (enc (a1 : PyData))), .eq (.fz (enc (x9 : PyData)))] (by kernel_rfl) ts_ok)) fun x8 x9 => (pu_ga [.eq (.fz (enc (a0 : Int))), .eq (.fz (enc (a1 : PyData))), .eq (.fz (enc (x9 : PyData)))] (by kernel_rfl) ((pu_call (ap_cons ((pu_var 2 rfl)).tkP (ap_cons pu_c ap_nil)) (fun x14 => V_is_integer ((Prod.fst x14) : PyData) ((Prod.fst (Prod.snd x14)) : Int) ((none : (Option Int)) : (Option Int))))).tkP))).rdT ow_tree)).ra)).rd).ra))))).te' (fun x20 => (bl_retS (bl_retV (pu_c).ev fun x21 => (rf_eq rfl (.cons .aa (.cons .aa (.cons .aa .nil))))))) fun x20 => (bl_next (bl_retV ((pu2A Nv.op_eq ((((pu1 Nv.op_srtAC ((pu_var 1 rfl)).rd)).rdT ow_tree)).ra ((((pu1 Nv.op_rg1 ((pu_var 0 rfl)).rd)).rdT ow_tree)).ra)).ev fun x26 => (rf_eq rfl (.cons .aa (.cons .aa (.cons .aa .nil)))))))))
end P
namespace P
open PySem PySem.Spec PyProof.Rows L2 Hb Nv
open Enc (enc)
def B_need_line : List Sl → Ot :=
    oSeq (oAsg (sTk (sIf (sAnd (sTst (s2 (gIs false) (sVar 1) (sC .none))) (sTru (s1 (gIsi "list") (sVar 0)))) (s1 (gRd lenD) (sVar 0)) (sVar 1))) (tgN 2))
    (oIf (sOr (sNot (sTru (sCall F_is_integer [] (rCons (sTk (sVar 2)) (rCons (sC (.int 1)) (rCons (sTk (sC (.int 12))) (rNil))))))) (sNot (sTru (sCall F_is_each_once [] (rCons (sTk (sVar 2)) (rCons (sTk (sVar 0)) (rNil))))))) (oRaise "InvalidLine") (oNext))
def F_need_line : List Sl → FR := fnRun 2 3 [] B_need_line
def n_need_line (a0 : PyData) (a1 : (Option Int)) : Option (Unit) :=
    (Option.bind (Option.bind (Option.bind (Option.bind (some a1) fun x1 => some (if false = true then Option.isSome x1 else Option.isNone x1)) fun x4 => if x4 = true then (Option.bind (some a0) fun x2 => isiN "list" x2) else some false) fun x7 => if x7 = true then (Option.bind (Option.bind (some a0) fun x5 => lenA x5) fun x6 => some ((some x6) : (Option Int))) else (some a1)) fun x8 => (Option.bind (Option.bind (Option.bind (Option.bind (Option.bind (some x8) fun x9 => Option.bind (Option.bind (some (1 : Int)) fun x10 => Option.bind (Option.bind (some (12 : Int)) fun x11 => Option.bind (some ()) fun x12 => some (x11, x12)) fun x13 => some (x10, x13)) fun x14 => some (x9, x14)) fun x15 => n_is_integer ((enc ((Prod.fst x15) : (Option Int))) : PyData) ((Prod.fst (Prod.snd x15)) : Int) ((some (Prod.fst (Prod.snd (Prod.snd x15)))) : (Option Int))) fun x17 => some !x17) fun x26 => if x26 = true then some true else (Option.bind (Option.bind (Option.bind (Option.bind (some x8) fun x19 => x19) fun x18 => Option.bind (Option.bind (some a0) fun x20 => Option.bind (some ()) fun x21 => some (x20, x21)) fun x22 => some (x18, x22)) fun x23 => n_is_each_once ((Prod.fst x23) : Int) ((Prod.fst (Prod.snd x23)) : PyData)) fun x25 => some !x25)) fun x27 => if x27 = true then none else some ()))
theorem V_need_line (a0 : PyData) (a1 : (Option Int)) : Fun F_need_line (n_need_line a0 a1) [.fz (enc a0), .fz (enc a1)] (fun r : (Unit) => .fz (enc (r : Unit))) fun r => [.no, .no] :=
  fun_of (ΓR := fun r => [.aa, .aa, .aa]) (show Bl B_need_line _ _ _ from (bl_ga [.eq (.fz (enc (a0 : PyData))), .eq (.fz (enc (a1 : (Option Int)))), .eq .no] (by kernel_rfl) (bl_asgV (((pu_if (ts_and (ts_tst (pu_isN (n := false) (((pu_var 1 rfl)).rd).ra)) (ts_truB (((pu1A (Nv.op_isi (T := "list")) (((pu_var 0 rfl)).rd).ra)).rd).ra)) (pu_co (fun x6 => ((some x6) : (Option Int))) (pu1A Nv.op_lenA (((pu_var 0 rfl)).rd).ra)) (pu_var 1 rfl))).tkP).ev fun x8 => (bl_ga [.eq (.fz (enc (a0 : PyData))), .eq (.fz (enc (a1 : (Option Int)))), .eq (.fz (enc (x8 : (Option Int))))] (by kernel_rfl) (bl_last (bl_if (k := fun x27 => x27) ((ts_or (ts_not (ts_truB (((pu_call (ap_cons ((pu_var 2 rfl)).tkP (ap_cons pu_c (ap_cons (pu_c).tkP ap_nil))) (fun x15 => V_is_integer ((enc ((Prod.fst x15) : (Option Int))) : PyData) ((Prod.fst (Prod.snd x15)) : Int) ((some (Prod.fst (Prod.snd (Prod.snd x15)))) : (Option Int))))).rd).ra)) (ts_not (ts_truB (((pu_call (ap_cons (Pu.un ((pu_var 2 rfl)).tkP) (ap_cons ((pu_var 0 rfl)).tkP ap_nil)) (fun x23 => V_is_each_once ((Prod.fst x23) : Int) ((Prod.fst (Prod.snd x23)) : PyData)))).rd).ra)))).te' (fun x27 => bl_bad) fun x27 => (bl_next (bl_end (rf_nx rfl (.cons .aa (.cons .aa (.cons .aa .nil))))))))))))
def x_need_line (a0 : PyData) (a1 : (Option Int)) : Option Str :=
    (Option.bind (Option.bind (Option.bind (Option.bind (some a1) fun x32 => some (if false = true then Option.isSome x32 else Option.isNone x32)) fun x35 => if x35 = true then (Option.bind (some a0) fun x33 => isiN "list" x33) else some false) fun x38 => if x38 = true then (Option.bind (Option.bind (some a0) fun x36 => lenA x36) fun x37 => some ((some x37) : (Option Int))) else (some a1)) fun x39 => (Option.bind (Option.bind (Option.bind (Option.bind (Option.bind (some x39) fun x40 => Option.bind (Option.bind (some (1 : Int)) fun x41 => Option.bind (Option.bind (some (12 : Int)) fun x42 => Option.bind (some ()) fun x43 => some (x42, x43)) fun x44 => some (x41, x44)) fun x45 => some (x40, x45)) fun x46 => n_is_integer ((enc ((Prod.fst x46) : (Option Int))) : PyData) ((Prod.fst (Prod.snd x46)) : Int) ((some (Prod.fst (Prod.snd (Prod.snd x46)))) : (Option Int))) fun x48 => some !x48) fun x57 => if x57 = true then some true else (Option.bind (Option.bind (Option.bind (Option.bind (some x39) fun x50 => x50) fun x49 => Option.bind (Option.bind (some a0) fun x51 => Option.bind (some ()) fun x52 => some (x51, x52)) fun x53 => some (x49, x53)) fun x54 => n_is_each_once ((Prod.fst x54) : Int) ((Prod.fst (Prod.snd x54)) : PyData)) fun x56 => some !x56)) fun x58 => if x58 = true then (some ("InvalidLine" : Str)) else none))
theorem X_need_line (a0 : PyData) (a1 : (Option Int)) : FunX F_need_line (x_need_line a0 a1) [.fz (enc a0), .fz (enc a1)] :=
  funx_eq (Γx := [.aa, .aa, .aa]) (show Bl B_need_line _ _ _ from (bl_ga [.eq (.fz (enc (a0 : PyData))), .eq (.fz (enc (a1 : (Option Int)))), .eq .no] (by kernel_rfl) (bl_asgV (((pu_if (ts_and (ts_tst (pu_isN (n := false) (((pu_var 1 rfl)).rd).ra)) (ts_truB (((pu1A (Nv.op_isi (T := "list")) (((pu_var 0 rfl)).rd).ra)).rd).ra)) (pu_co (fun x37 => ((some x37) : (Option Int))) (pu1A Nv.op_lenA (((pu_var 0 rfl)).rd).ra)) (pu_var 1 rfl))).tkP).ev fun x39 => (bl_ga [.eq (.fz (enc (a0 : PyData))), .eq (.fz (enc (a1 : (Option Int)))), .eq (.fz (enc (x39 : (Option Int))))] (by kernel_rfl) (bl_last (bl_if (k := fun x58 => x58) ((ts_or (ts_not (ts_truB (((pu_call (ap_cons ((pu_var 2 rfl)).tkP (ap_cons pu_c (ap_cons (pu_c).tkP ap_nil))) (fun x46 => V_is_integer ((enc ((Prod.fst x46) : (Option Int))) : PyData) ((Prod.fst (Prod.snd x46)) : Int) ((some (Prod.fst (Prod.snd (Prod.snd x46)))) : (Option Int))))).rd).ra)) (ts_not (ts_truB (((pu_call (ap_cons (Pu.un ((pu_var 2 rfl)).tkP) (ap_cons ((pu_var 0 rfl)).tkP ap_nil)) (fun x54 => V_is_each_once ((Prod.fst x54) : Int) ((Prod.fst (Prod.snd x54)) : PyData)))).rd).ra)))).te' (fun x58 => (bl_raiseS (.cons .aa (.cons .aa (.cons .aa .nil))))) fun x58 => (bl_next bl_bad)))))))
end P
namespace P
open PySem PySem.Spec PyProof.Rows L2 Hb Nv
open Enc (enc)
def B_are_each_once : List Sl → Ot :=
    oRet (sAndV (s1 (gIsi "list") (sVar 1)) (sAndV (s2 gLe (s1 (gRd lenD) (sVar 1)) (sC (.int 40))) (s1 (gRd (overB fun ns => some (.bool (ns.all id)))) (sLc false (wSeq (sVar 1)) [2] (tgN 2) (tOk) (sTk (sCall F_is_each_once [] (rCons (sTk (sVar 0)) (rCons (sTk (sVar 2)) (rNil)))))))))
def F_are_each_once : List Sl → FR := fnRun 2 3 [] B_are_each_once
def n_are_each_once (a0 : Int) (a1 : PyData) : Option (Bool) :=
    (Option.bind (Option.bind (Option.bind (some a1) fun x1 => isiN "list" x1) fun x15 => if x15 = true then (Option.bind (Option.bind (Option.bind (some a1) fun x2 => lenA x2) fun x3 => Option.bind (some (40 : Int)) fun x4 => leI x3 x4) fun x14 => if x14 = true then (Option.bind (Option.bind (Option.bind (some a1) fun x5 => seqA x5) fun x6 => if List.length (x6) ≤ cap then mapF x6 (fun x7 => (some true)) (fun x7 => (Option.bind (Option.bind (some a0) fun x8 => Option.bind (Option.bind (some x7) fun x9 => Option.bind (some ()) fun x10 => some (x9, x10)) fun x11 => some (x8, x11)) fun x12 => n_is_each_once ((Prod.fst x12) : Int) ((Prod.fst (Prod.snd x12)) : PyData))) else none) fun x13 => allB x13) else some false) else some false) fun x16 => some x16)
theorem V_are_each_once (a0 : Int) (a1 : PyData) : Fun F_are_each_once (n_are_each_once a0 a1) [.fz (enc a0), .fz (enc a1)] (fun r : (Bool) => .fz (enc (r : Bool))) fun r => [.no, .no] :=
  fun_of (ΓR := fun r => [.aa, .aa, .aa]) (show Bl B_are_each_once _ _ _ from (bl_ga [.eq (.fz (enc (a0 : Int))), .eq (.fz (enc (a1 : PyData))), .eq .no] (by kernel_rfl) (bl_retV ((pu_andV (pu1A (Nv.op_isi (T := "list")) (((pu_var 1 rfl)).rd).ra) (pu_andV (pu2 Nv.op_le ((pu1A Nv.op_lenA (((pu_var 1 rfl)).rd).ra)).rd (pu_c).rd) (pu1A Nv.op_all ((((pu_lc (vs := [2]) (ip_seqA ((pu_var 1 rfl)).tkP) rfl rfl (fun x6 x7 => tg_n) (fun x6 x7 => (ts_ga [.eq (.fz (enc (a0 : Int))), .eq (.fz (enc (a1 : PyData))), .eq (.fz (enc (x7 : PyData)))] (by kernel_rfl) ts_ok)) fun x6 x7 => (pu_ga [.eq (.fz (enc (a0 : Int))), .eq (.fz (enc (a1 : PyData))), .eq (.fz (enc (x7 : PyData)))] (by kernel_rfl) ((pu_call (ap_cons ((pu_var 0 rfl)).tkP (ap_cons ((pu_var 2 rfl)).tkP ap_nil)) (fun x12 => V_is_each_once ((Prod.fst x12) : Int) ((Prod.fst (Prod.snd x12)) : PyData)))).tkP))).rdT ow_tree)).ra)))).ev fun x16 => (rf_eq rfl (.cons .aa (.cons .aa (.cons .aa .nil)))))))
end P
namespace P
open PySem PySem.Spec PyProof.Rows L2 Hb Nv
open Enc (enc)
def B_need_ballots : List Sl → Ot :=
    oIf (sNot (sTru (sCall F_are_each_once [] (rCons (sTk (sVar 0)) (rCons (sTk (sVar 1)) (rNil)))))) (oRaise "InvalidBallots") (oNext)
def F_need_ballots : List Sl → FR := fnRun 2 2 [] B_need_ballots
def n_need_ballots (a0 : Int) (a1 : PyData) : Option (Unit) :=
    (Option.bind (Option.bind (Option.bind (Option.bind (some a0) fun x1 => Option.bind (Option.bind (some a1) fun x2 => Option.bind (some ()) fun x3 => some (x2, x3)) fun x4 => some (x1, x4)) fun x5 => n_are_each_once ((Prod.fst x5) : Int) ((Prod.fst (Prod.snd x5)) : PyData)) fun x7 => some !x7) fun x8 => if x8 = true then none else some ())
theorem V_need_ballots (a0 : Int) (a1 : PyData) : Fun F_need_ballots (n_need_ballots a0 a1) [.fz (enc a0), .fz (enc a1)] (fun r : (Unit) => .fz (enc (r : Unit))) fun r => [.no, .no] :=
  fun_of (ΓR := fun r => [.aa, .aa]) (show Bl B_need_ballots _ _ _ from (bl_ga [.eq (.fz (enc (a0 : Int))), .eq (.fz (enc (a1 : PyData)))] (by kernel_rfl) (bl_last (bl_if (k := fun x8 => x8) ((ts_not (ts_truB (((pu_call (ap_cons ((pu_var 0 rfl)).tkP (ap_cons ((pu_var 1 rfl)).tkP ap_nil)) (fun x5 => V_are_each_once ((Prod.fst x5) : Int) ((Prod.fst (Prod.snd x5)) : PyData)))).rd).ra))).te' (fun x8 => bl_bad) fun x8 => (bl_next (bl_end (rf_nx rfl (.cons .aa (.cons .aa .nil)))))))))
def x_need_ballots (a0 : Int) (a1 : PyData) : Option Str :=
    (Option.bind (Option.bind (Option.bind (Option.bind (some a0) fun x9 => Option.bind (Option.bind (some a1) fun x10 => Option.bind (some ()) fun x11 => some (x10, x11)) fun x12 => some (x9, x12)) fun x13 => n_are_each_once ((Prod.fst x13) : Int) ((Prod.fst (Prod.snd x13)) : PyData)) fun x15 => some !x15) fun x16 => if x16 = true then (some ("InvalidBallots" : Str)) else none)
theorem X_need_ballots (a0 : Int) (a1 : PyData) : FunX F_need_ballots (x_need_ballots a0 a1) [.fz (enc a0), .fz (enc a1)] :=
  funx_eq (Γx := [.aa, .aa]) (show Bl B_need_ballots _ _ _ from (bl_ga [.eq (.fz (enc (a0 : Int))), .eq (.fz (enc (a1 : PyData)))] (by kernel_rfl) (bl_last (bl_if (k := fun x16 => x16) ((ts_not (ts_truB (((pu_call (ap_cons ((pu_var 0 rfl)).tkP (ap_cons ((pu_var 1 rfl)).tkP ap_nil)) (fun x13 => V_are_each_once ((Prod.fst x13) : Int) ((Prod.fst (Prod.snd x13)) : PyData)))).rd).ra))).te' (fun x16 => (bl_raiseS (.cons .aa (.cons .aa .nil)))) fun x16 => (bl_next bl_bad)))))
end P
namespace P
open PySem PySem.Spec PyProof.Rows L2 Hb Nv
open Enc (enc)
def B_need_on_line_a : List Sl → Ot :=
    oSeq (oDrop (sCall F_need_line [.none] (rCons (sTk (sVar 0)) (rNil))))
    (oDrop (sCall F_need_ballots [] (rCons (sTk (s1 (gRd lenD) (sVar 0))) (rCons (sTk (sVar 1)) (rNil)))))
def F_need_on_line_a : List Sl → FR := fnRun 2 2 [] B_need_on_line_a
def n_need_on_line_a (a0 : PyData) (a1 : PyData) : Option (Unit) :=
    (Option.bind (Option.bind (Option.bind (some a0) fun x1 => Option.bind (some ()) fun x2 => some (x1, x2)) fun x3 => n_need_line ((Prod.fst x3) : PyData) ((none : (Option Int)) : (Option Int))) fun x4 => (Option.bind (Option.bind (Option.bind (Option.bind (some a0) fun x5 => lenA x5) fun x6 => Option.bind (Option.bind (some a1) fun x7 => Option.bind (some ()) fun x8 => some (x7, x8)) fun x9 => some (x6, x9)) fun x10 => n_need_ballots ((Prod.fst x10) : Int) ((Prod.fst (Prod.snd x10)) : PyData)) fun x11 => some ()))
theorem V_need_on_line_a (a0 : PyData) (a1 : PyData) : Fun F_need_on_line_a (n_need_on_line_a a0 a1) [.fz (enc a0), .fz (enc a1)] (fun r : (Unit) => .fz (enc (r : Unit))) fun r => [.no, .no] :=
  fun_of (ΓR := fun r => [.aa, .aa]) (show Bl B_need_on_line_a _ _ _ from (bl_ga [.eq (.fz (enc (a0 : PyData))), .eq (.fz (enc (a1 : PyData)))] (by kernel_rfl) (bl_expr ((pu_call (ap_cons ((pu_var 0 rfl)).tkP ap_nil) (fun x3 => V_need_line ((Prod.fst x3) : PyData) ((none : (Option Int)) : (Option Int))))).ev fun x4 => (bl_ga [.eq (.fz (enc (a0 : PyData))), .eq (.fz (enc (a1 : PyData)))] (by kernel_rfl) (bl_last (bl_expr ((pu_call (ap_cons ((pu1A Nv.op_lenA (((pu_var 0 rfl)).rd).ra)).tkP (ap_cons ((pu_var 1 rfl)).tkP ap_nil)) (fun x10 => V_need_ballots ((Prod.fst x10) : Int) ((Prod.fst (Prod.snd x10)) : PyData)))).ev fun x11 => (bl_ga [.eq (.fz (enc (a0 : PyData))), .eq (.fz (enc (a1 : PyData)))] (by kernel_rfl) (bl_end (rf_nx rfl (.cons .aa (.cons .aa .nil)))))))))))
def x_need_on_line_a (a0 : PyData) (a1 : PyData) : Option Str :=
    (Option.or (Option.bind (Option.bind (some a0) fun x12 => Option.bind (some ()) fun x13 => some (x12, x13)) fun x14 => x_need_line ((Prod.fst x14) : PyData) ((none : (Option Int)) : (Option Int))) (Option.bind (Option.bind (Option.bind (some a0) fun x15 => Option.bind (some ()) fun x16 => some (x15, x16)) fun x17 => n_need_line ((Prod.fst x17) : PyData) ((none : (Option Int)) : (Option Int))) fun x18 => (Option.or (Option.bind (Option.bind (Option.bind (some a0) fun x19 => lenA x19) fun x20 => Option.bind (Option.bind (some a1) fun x21 => Option.bind (some ()) fun x22 => some (x21, x22)) fun x23 => some (x20, x23)) fun x24 => x_need_ballots ((Prod.fst x24) : Int) ((Prod.fst (Prod.snd x24)) : PyData)) (Option.bind (Option.bind (Option.bind (Option.bind (some a0) fun x25 => lenA x25) fun x26 => Option.bind (Option.bind (some a1) fun x27 => Option.bind (some ()) fun x28 => some (x27, x28)) fun x29 => some (x26, x29)) fun x30 => n_need_ballots ((Prod.fst x30) : Int) ((Prod.fst (Prod.snd x30)) : PyData)) fun x31 => none))))
theorem X_need_on_line_a (a0 : PyData) (a1 : PyData) : FunX F_need_on_line_a (x_need_on_line_a a0 a1) [.fz (enc a0), .fz (enc a1)] :=
  funx_eq (Γx := [.aa, .aa]) (show Bl B_need_on_line_a _ _ _ from (bl_ga [.eq (.fz (enc (a0 : PyData))), .eq (.fz (enc (a1 : PyData)))] (by kernel_rfl) (bl_xor (bl_exprX (xe_call (ap_cons ((pu_var 0 rfl)).tkP ap_nil) (fun x14 => X_need_line ((Prod.fst x14) : PyData) ((none : (Option Int)) : (Option Int))) (.cons .aa (.cons .aa .nil)))) (bl_expr ((pu_call (ap_cons ((pu_var 0 rfl)).tkP ap_nil) (fun x17 => V_need_line ((Prod.fst x17) : PyData) ((none : (Option Int)) : (Option Int))))).ev fun x18 => (bl_ga [.eq (.fz (enc (a0 : PyData))), .eq (.fz (enc (a1 : PyData)))] (by kernel_rfl) (bl_last (bl_xor (bl_exprX (xe_call (ap_cons ((pu1A Nv.op_lenA (((pu_var 0 rfl)).rd).ra)).tkP (ap_cons ((pu_var 1 rfl)).tkP ap_nil)) (fun x24 => X_need_ballots ((Prod.fst x24) : Int) ((Prod.fst (Prod.snd x24)) : PyData)) (.cons .aa (.cons .aa .nil)))) (bl_expr ((pu_call (ap_cons ((pu1A Nv.op_lenA (((pu_var 0 rfl)).rd).ra)).tkP (ap_cons ((pu_var 1 rfl)).tkP ap_nil)) (fun x30 => V_need_ballots ((Prod.fst x30) : Int) ((Prod.fst (Prod.snd x30)) : PyData)))).ev fun x31 => (bl_ga [.eq (.fz (enc (a0 : PyData))), .eq (.fz (enc (a1 : PyData)))] (by kernel_rfl) bl_bad)))))))))
end P
namespace P
open PySem PySem.Spec PyProof.Rows L2 Hb Nv
open Enc (enc)
def B_ranks_in : List Sl → Ot :=
    oSeq (oAsg (s2 gMulX (sLst (lCons (sC (.int 0)) (lNil))) (s1 (gRd lenD) (sVar 0))) (tgN 1))
    (oSeq (oFor (wEnum (sVar 0)) (tgT 2 (tgCons (tgN 2) (tgCons (tgN 3) (tgNil)))) (oAsg (sVar 2) (tgS (sVar 1) (sVar 3))))
    (oRet (sVar 1)))
def F_ranks_in : List Sl → FR := fnRun 1 4 [] B_ranks_in
def n_ranks_in (a0 : (List Int)) : Option ((List Int)) :=
    (Option.bind (Option.bind (Option.bind (Option.bind (some (0 : Int)) fun x1 => Option.bind (some ()) fun x3 => some (x1, x3)) fun x2 => some ([(Prod.fst x2)] : (List Int))) fun x5 => Option.bind (Option.bind (some a0) fun x4 => lenL x4) fun x6 => repL x5 x6) fun x7 => (Option.bind (some a0) fun x8 => Option.bind (forS (enumL x8) (x7 : (List Int)) fun s10 x9 => (Option.bind (some (Prod.fst x9)) fun x11 => Option.bind (some (Prod.snd x9)) fun x12 => Option.bind (stI s10 x12 x11) fun x13 => some (x13 : (List Int)))) fun s10 => some s10))
theorem V_ranks_in (a0 : (List Int)) : Fun F_ranks_in (n_ranks_in a0) [.fz (enc a0)] (fun r : ((List Int)) => ow (r : (List Int))) fun r => [.no] :=
  fun_of (ΓR := fun r => [.aa, .aa, .aa, .aa]) (show Bl B_ranks_in _ _ _ from (bl_ga [.eq (.fz (enc (a0 : (List Int)))), .eq .no, .eq .no, .eq .no] (by kernel_rfl) (bl_asgT ((pu2 Nv.op_rep (((pu_lst (dp_cons (pu_c).tkP dp_nil) (fun x2 => ([(Prod.fst x2)] : (List Int))))).rdT ow_tree) ((pu1A Nv.op_len (((pu_var 0 rfl)).rd).ra)).rd)).ev fun x7 => (bl_ga [.eq (.fz (enc (a0 : (List Int)))), .eq (ow (x7 : (List Int))), .eq .no, .eq .no] (by kernel_rfl) (bl_for (vs := [2, 3]) (xs := fun x8 => (enumL x8)) (s0 := fun x8 => (x7 : (List Int))) (ΓL := fun x8 (s10 : (List Int)) => [.eq (.fz (enc (a0 : (List Int)))), .eq (ow (s10 : (List Int))), .pl, .pl]) ((ip_enum (xs := fun v => v) ((pu_var 0 rfl)).tkP)).it (fun x8 => (.cons .rfl (.cons .rfl (.cons .no (.cons .no .nil))))) (fun x8 s10 x9 => (tg_t (tgs_cons tg_n (tgs_cons tg_n tgs_nil)))) (fun x8 s10 x9 => (bl_ga [.eq (.fz (enc (a0 : (List Int)))), .eq (ow (s10 : (List Int))), .eq (.fz (enc ((Prod.fst x9) : Int))), .eq (.fz (enc ((Prod.snd x9) : Int)))] (by kernel_rfl) (bl_last (bl_set (k := 1) (va := fun x11 => x11) (xs := fun x11 => s10) ((pu_var 2 rfl)).ev (fun _ => rfl) (fun x11 => ((pu_var 3 rfl)).rd) fun x11 x13 => (bl_ga [.eq (.fz (enc (a0 : (List Int)))), .eq (ow (x13 : (List Int))), .eq (.fz (enc ((Prod.fst x9) : Int))), .eq (.fz (enc ((Prod.snd x9) : Int)))] (by kernel_rfl) (bl_end (rs_nx (.cons .rfl (.cons .rfl (.cons .fz (.cons .fz .nil))))))))))) fun x8 s10 => (bl_retO (k := 1) rfl rfl (sat_ga [.eq (.fz (enc (a0 : (List Int)))), .eq .no, .pl, .pl] (by kernel_rfl) (rf_eq rfl (.cons .aa (.cons .aa (.cons .aa (.cons .aa .nil))))))))))))
end P
namespace Nv
open PySem Hb L2
open Enc (enc)
section
variable {α β γ ε ρ ζ : Type} {f g : List Sl → Rs AV} {Γ : Ga}
def owO [Enc α] (v : Option (List α)) : Sl := match v with
  | none => .fz .none
  | some xs => ow xs
end
section
variable {α β γ ε ρ ζ : Type} {f : List Sl → Rs AV} {g A u : List Sl → Ot} {Γ Γ0 : Ga} {R : ζ → Ot → Prop}
/-- as everything stands still -/
inductive FrzQ : Ga → Ga → Prop
  | nil : FrzQ [] []
  | cons {p q : Pt} {Γ Δ : Ga} : FrzP p q → FrzQ Γ Δ → FrzQ (p :: Γ) (q :: Δ)
  | consO {α : Type} [Enc α] {v : Option (List α)} {Γ Δ : Ga} : FrzQ Γ Δ → FrzQ (.eq (owO v) :: Γ) (.eq (.fz (enc v)) :: Δ)
/-- an item of x is forgotten, name by name -/
inductive DrQ (x : Nat) : Ga → Ga → Prop
  | nil : DrQ x [] []
  | cons {p : Pt} {Γ Δ : Ga} : DrQ x Γ Δ → DrQ x (p :: Γ) (dropP x p :: Δ)
  | consO {α : Type} [Enc α] {v : Option (List α)} {Γ Δ : Ga} : DrQ x Γ Δ → DrQ x (.eq (owO v) :: Γ) (.eq (owO v) :: Δ)
end
end Nv
namespace Nv
open PySem Hb L2
open Enc (enc)
end Nv
namespace Nv
open PySem Hb L2
open Enc (enc)
/-- a turn: on, or out with more -/
inductive Fb (σ τ : Type) where
  | nx (s : σ) | bk (t : τ)
end Nv
namespace Nv
open PySem Hb L2
open Enc (enc)
end Nv
namespace Nv
open PySem Hb L2
open Enc (enc)
/-- tuples of whole numbers -/
class TKy (ξ : Type) [Enc ξ] where
  tp : ξ → Tp Int
  h : ∀ x : ξ, enc x = enc (tp x)
instance : TKy (Tp Int) := ⟨fun x => x, fun _ => rfl⟩
instance : TKy (Int × Int) := ⟨fun x => ⟨[x.1, x.2]⟩, fun _ => rfl⟩
instance : TKy (T3 Int Int Int) := ⟨fun x => ⟨[x.a, x.b, x.c]⟩, fun _ => rfl⟩
instance : TKy (T4 Int Int Int Int) := ⟨fun x => ⟨[x.a, x.b, x.c, x.d]⟩, fun _ => rfl⟩
end Nv
namespace Nv
open PySem Hb L2
open Enc (enc)
section
variable {ζ : Type} {Γ : Ga} {g : List Sl → Ot} {R : ζ → Ot → Prop}
theorem set_same {Γ : Ga} {k : Nat} {p : Pt} (h : Γ[k]? = some p) : Γ.set k p = Γ := by
  obtain ⟨hl, he⟩ := List.getElem?_eq_some_iff.mp h
  rw [← he, List.set_getElem_self]
theorem ow_anyL {α : Type} [Enc α] (xs : List α) : ow (xs.map enc : List PyData) = ow xs := by
  unfold ow
  rw [List.map_map]
  rfl
end
end Nv
namespace Nv
open PySem Hb L2
open Enc (enc)
end Nv
namespace Nv
open PySem Hb L2
open Enc (enc)
end Nv
namespace Nv
open PySem Hb L2
open Enc (enc)
end Nv
namespace Nv
open PySem Hb L2
open Enc (enc)
end Nv
namespace Nv
open PySem Hb L2
open Enc (enc)
end Nv
namespace Nv
open PySem Hb L2
open Enc (enc)
end Nv
namespace Nv
open PySem Hb L2
open Enc (enc)
end Nv
namespace Nv
open PySem Hb L2
open Enc (enc)
end Nv
namespace Nv
open PySem Hb L2
open Enc (enc)
/-- a value as one of a type, if it is one -/
class UnA (α : Type) [Enc α] where
  un : PyData → Option α
  h : ∀ {v : PyData} {w : α}, un v = some w → (enc w : PyData) = v
instance : UnA PyData := ⟨some, fun h => by cases h; rfl⟩
instance : UnA Int := ⟨fun v => match v with | .int i => some i | _ => none, fun {v w} h => by
  cases v <;> first | (cases h; rfl) | exact nomatch h⟩
instance : UnA Str := ⟨fun v => match v with | .str i => some i | _ => none, fun {v w} h => by
  cases v <;> first | (cases h; rfl) | exact nomatch h⟩
def unL [Enc α] [UnA α] : List PyData → Option (List α)
  | [] => some []
  | x :: r => (UnA.un x).bind fun y => (unL r).bind fun ys => some (y :: ys)
theorem unL_h [Enc α] [UnA α] : ∀ {xs : List PyData} {ys : List α}, unL xs = some ys → ys.map enc = xs
  | [], _, h => by cases h; rfl
  | x :: r, ys, h => by
    unfold unL at h
    obtain ⟨y, e1, h⟩ := bind_of h
    obtain ⟨zs, e2, h⟩ := bind_of h
    cases h
    rw [List.map_cons, UnA.h e1, unL_h e2]
instance [Enc α] [UnA α] : UnA (Tp α) := ⟨fun v => match v with | .tuple xs => (unL xs).bind fun ys => some ⟨ys⟩ | _ => none, fun {v w} h => by
  cases v with
  | tuple xs =>
    obtain ⟨ys, e, h⟩ := bind_of (p := unL xs) h
    cases h
    show PyData.tuple (ys.map enc) = _
    rw [unL_h e]
  | _ => exact nomatch h⟩
instance [Enc α] [UnA α] : UnA (List α) := ⟨fun v => match v with | .list xs => unL xs | _ => none, fun {v w} h => by
  cases v with
  | list xs =>
    show PyData.list (w.map enc) = _
    rw [unL_h (xs := xs) h]
  | _ => exact nomatch h⟩
instance [Enc α] [UnA α] [Enc β] [UnA β] : UnA (α × β) := ⟨fun v => match v with | .tuple [x, y] => (UnA.un x).bind fun a => (UnA.un y).bind fun b => some (a, b) | _ => none, fun {v w} h => by
  split at h
  · obtain ⟨a, e1, h⟩ := bind_of h
    obtain ⟨b, e2, h⟩ := bind_of h
    cases h
    show PyData.tuple [enc a, enc b] = _
    rw [UnA.h e1, UnA.h e2]
  · exact nomatch h⟩
instance [Enc α] [UnA α] [Enc β] [UnA β] [Enc γ] [UnA γ] : UnA (T3 α β γ) := ⟨fun v => match v with | .tuple [x, y, z] => (UnA.un x).bind fun a => (UnA.un y).bind fun b => (UnA.un z).bind fun c => some ⟨a, b, c⟩ | _ => none, fun {v w} h => by
  split at h
  · obtain ⟨a, e1, h⟩ := bind_of h
    obtain ⟨b, e2, h⟩ := bind_of h
    obtain ⟨c, e3, h⟩ := bind_of h
    cases h
    show PyData.tuple [enc a, enc b, enc c] = _
    rw [UnA.h e1, UnA.h e2, UnA.h e3]
  · exact nomatch h⟩
instance [Enc α] [UnA α] [Enc β] [UnA β] [Enc γ] [UnA γ] [Enc δ] [UnA δ] : UnA (T4 α β γ δ) := ⟨fun v => match v with | .tuple [x, y, z, t] => (UnA.un x).bind fun a => (UnA.un y).bind fun b => (UnA.un z).bind fun c => (UnA.un t).bind fun d => some ⟨a, b, c, d⟩ | _ => none, fun {v w} h => by
  split at h
  · obtain ⟨a, e1, h⟩ := bind_of h
    obtain ⟨b, e2, h⟩ := bind_of h
    obtain ⟨c, e3, h⟩ := bind_of h
    obtain ⟨d, e4, h⟩ := bind_of h
    cases h
    show PyData.tuple [enc a, enc b, enc c, enc d] = _
    rw [UnA.h e1, UnA.h e2, UnA.h e3, UnA.h e4]
  · exact nomatch h⟩
section
variable {α ζ : Type} {Γ : Ga} {g : List Sl → Ot} {R : ζ → Ot → Prop}
theorem bl_reA [Enc α] [UnA α] {k : Nat} {o : PyData} {p : α → Option ζ} (h0 : Γ[k]? = some (.eq (.fz (enc o)))) (h : ∀ y, Bl g (Γ.set k (.eq (.fz (enc y)))) (p y) R) : Bl g Γ ((UnA.un o).bind p) R := fun r e δ s => by
  obtain ⟨y, e1, e2⟩ := bind_of e
  refine h y r e2 δ ?_
  have : (enc y : PyData) = o := UnA.h e1
  rw [this, set_same (p := .eq (.fz o)) h0]
  exact s
end
end Nv
namespace P
open PySem PySem.Spec PyProof.Rows L2 Hb Nv
open Enc (enc)
def B_renamed_a : List Sl → Ot :=
    oSeq (oDrop (sCall F_need_on_line_a [] (rCons (sTk (sVar 0)) (rCons (sTk (sVar 1)) (rNil)))))
    (oSeq (oAsg (sTk (sCall F_ranks_in [] (rCons (sTk (sVar 0)) (rNil)))) (tgN 2))
    (oRet (sLc true (wSeq (sVar 1)) [3] (tgN 3) (tOk) (sLc false (wSeq (sVar 3)) [4] (tgN 4) (tOk) (sTk (s2 gIx2 (sVar 2) (sVar 4)))))))
def F_renamed_a : List Sl → FR := fnRun 2 5 [] B_renamed_a
def n_renamed_a (a0 : PyData) (a1 : PyData) : Option ((List (List Int))) :=
    (Option.bind (Option.bind (Option.bind (some a0) fun x1 => Option.bind (Option.bind (some a1) fun x2 => Option.bind (some ()) fun x3 => some (x2, x3)) fun x4 => some (x1, x4)) fun x5 => n_need_on_line_a ((Prod.fst x5) : PyData) ((Prod.fst (Prod.snd x5)) : PyData)) fun x6 => (Option.bind (Option.bind (Option.bind (Option.bind (some a0) fun x8 => asIL x8) fun x7 => Option.bind (some ()) fun x9 => some (x7, x9)) fun x10 => n_ranks_in ((Prod.fst x10) : (List Int))) fun x11 => (Option.bind (UnA.un a1 : Option ((List (List Int)))) fun x12 => (Option.bind (Option.bind (some x12) fun x13 => if List.length (x13) ≤ cap then mapF x13 (fun x14 => (some true)) (fun x14 => (Option.bind (some x14) fun x15 => if List.length (x15) ≤ cap then mapF x15 (fun x16 => (some true)) (fun x16 => (Option.bind (some x11) fun x17 => Option.bind (some x16) fun x18 => atL x17 x18)) else none)) else none) fun x19 => some x19))))
theorem V_renamed_a (a0 : PyData) (a1 : PyData) : Fun F_renamed_a (n_renamed_a a0 a1) [.fz (enc a0), .fz (enc a1)] (fun r : ((List (List Int))) => oww (r : (List (List Int)))) fun r => [.no, .no] :=
  fun_of (ΓR := fun r => [.aa, .aa, .aa, .aa, .aa]) (show Bl B_renamed_a _ _ _ from (bl_ga [.eq (.fz (enc (a0 : PyData))), .eq (.fz (enc (a1 : PyData))), .eq .no, .eq .no, .eq .no] (by kernel_rfl) (bl_expr ((pu_call (ap_cons ((pu_var 0 rfl)).tkP (ap_cons ((pu_var 1 rfl)).tkP ap_nil)) (fun x5 => V_need_on_line_a ((Prod.fst x5) : PyData) ((Prod.fst (Prod.snd x5)) : PyData)))).ev fun x6 => (bl_ga [.eq (.fz (enc (a0 : PyData))), .eq (.fz (enc (a1 : PyData))), .eq .no, .eq .no, .eq .no] (by kernel_rfl) (bl_asgV ((((pu_call (ap_cons (Pu.asIL ((pu_var 0 rfl)).tkP) ap_nil) (fun x10 => V_ranks_in ((Prod.fst x10) : (List Int))))).tkTP ow_tree)).ev fun x11 => (bl_ga [.eq (.fz (enc (a0 : PyData))), .eq (.fz (enc (a1 : PyData))), .eq (.fz (enc (x11 : (List Int)))), .eq .no, .eq .no] (by kernel_rfl) (bl_reA (k := 1) rfl fun x12 => (bl_ga [.eq (.fz (enc (a0 : PyData))), .eq (.fz (enc (x12 : (List (List Int))))), .eq (.fz (enc (x11 : (List Int)))), .eq .no, .eq .no] (by kernel_rfl) (bl_retT ((pu_lcw (vs := [3]) (ip_seq (xs := fun v => v) ((pu_var 1 rfl)).tkP) rfl rfl (fun x13 x14 => tg_n) (fun x13 x14 => (ts_ga [.eq (.fz (enc (a0 : PyData))), .eq (.fz (enc (x12 : (List (List Int))))), .eq (.fz (enc (x11 : (List Int)))), .eq (.fz (enc (x14 : (List Int)))), .eq .no] (by kernel_rfl) ts_ok)) fun x13 x14 => (pu_ga [.eq (.fz (enc (a0 : PyData))), .eq (.fz (enc (x12 : (List (List Int))))), .eq (.fz (enc (x11 : (List Int)))), .eq (.fz (enc (x14 : (List Int)))), .eq .no] (by kernel_rfl) (pu_lc (vs := [4]) (ip_seq (xs := fun v => v) ((pu_var 3 rfl)).tkP) rfl rfl (fun x15 x16 => tg_n) (fun x15 x16 => (ts_ga [.eq (.fz (enc (a0 : PyData))), .eq (.fz (enc (x12 : (List (List Int))))), .eq (.fz (enc (x11 : (List Int)))), .eq (.fz (enc (x14 : (List Int)))), .eq (.fz (enc (x16 : Int)))] (by kernel_rfl) ts_ok)) fun x15 x16 => (pu_ga [.eq (.fz (enc (a0 : PyData))), .eq (.fz (enc (x12 : (List (List Int))))), .eq (.fz (enc (x11 : (List Int)))), .eq (.fz (enc (x14 : (List Int)))), .eq (.fz (enc (x16 : Int)))] (by kernel_rfl) ((pu2 Nv.op_ix2 ((pu_var 2 rfl)).rd ((pu_var 4 rfl)).rd)).tkP))))).ev fun x19 => (rf_eq rfl (.cons .aa (.cons .aa (.cons .aa (.cons .aa (.cons .aa .nil)))))))))))))))
def x_renamed_a (a0 : PyData) (a1 : PyData) : Option Str :=
    (Option.or (Option.bind (Option.bind (some a0) fun x20 => Option.bind (Option.bind (some a1) fun x21 => Option.bind (some ()) fun x22 => some (x21, x22)) fun x23 => some (x20, x23)) fun x24 => x_need_on_line_a ((Prod.fst x24) : PyData) ((Prod.fst (Prod.snd x24)) : PyData)) (Option.bind (Option.bind (Option.bind (some a0) fun x25 => Option.bind (Option.bind (some a1) fun x26 => Option.bind (some ()) fun x27 => some (x26, x27)) fun x28 => some (x25, x28)) fun x29 => n_need_on_line_a ((Prod.fst x29) : PyData) ((Prod.fst (Prod.snd x29)) : PyData)) fun x30 => (Option.bind (Option.bind (Option.bind (Option.bind (some a0) fun x32 => asIL x32) fun x31 => Option.bind (some ()) fun x33 => some (x31, x33)) fun x34 => n_ranks_in ((Prod.fst x34) : (List Int))) fun x35 => (Option.bind (UnA.un a1 : Option ((List (List Int)))) fun x36 => none))))
theorem X_renamed_a (a0 : PyData) (a1 : PyData) : FunX F_renamed_a (x_renamed_a a0 a1) [.fz (enc a0), .fz (enc a1)] :=
  funx_eq (Γx := [.aa, .aa, .aa, .aa, .aa]) (show Bl B_renamed_a _ _ _ from (bl_ga [.eq (.fz (enc (a0 : PyData))), .eq (.fz (enc (a1 : PyData))), .eq .no, .eq .no, .eq .no] (by kernel_rfl) (bl_xor (bl_exprX (xe_call (ap_cons ((pu_var 0 rfl)).tkP (ap_cons ((pu_var 1 rfl)).tkP ap_nil)) (fun x24 => X_need_on_line_a ((Prod.fst x24) : PyData) ((Prod.fst (Prod.snd x24)) : PyData)) (.cons .aa (.cons .aa (.cons .aa (.cons .aa (.cons .aa .nil))))))) (bl_expr ((pu_call (ap_cons ((pu_var 0 rfl)).tkP (ap_cons ((pu_var 1 rfl)).tkP ap_nil)) (fun x29 => V_need_on_line_a ((Prod.fst x29) : PyData) ((Prod.fst (Prod.snd x29)) : PyData)))).ev fun x30 => (bl_ga [.eq (.fz (enc (a0 : PyData))), .eq (.fz (enc (a1 : PyData))), .eq .no, .eq .no, .eq .no] (by kernel_rfl) (bl_asgV ((((pu_call (ap_cons (Pu.asIL ((pu_var 0 rfl)).tkP) ap_nil) (fun x34 => V_ranks_in ((Prod.fst x34) : (List Int))))).tkTP ow_tree)).ev fun x35 => (bl_ga [.eq (.fz (enc (a0 : PyData))), .eq (.fz (enc (a1 : PyData))), .eq (.fz (enc (x35 : (List Int)))), .eq .no, .eq .no] (by kernel_rfl) (bl_reA (k := 1) rfl fun x36 => (bl_ga [.eq (.fz (enc (a0 : PyData))), .eq (.fz (enc (x36 : (List (List Int))))), .eq (.fz (enc (x35 : (List Int)))), .eq .no, .eq .no] (by kernel_rfl) bl_bad)))))))))
end P
namespace P
open PySem PySem.Spec PyProof.Rows L2 Hb Nv
open Enc (enc)
def B_need_count : List Sl → Ot :=
    oIf (sNot (sTru (sCall F_is_integer [] (rCons (sTk (sVar 0)) (rCons (sC (.int 1)) (rCons (sTk (sVar 1)) (rNil))))))) (oRaise "InvalidCount") (oNext)
def F_need_count : List Sl → FR := fnRun 2 2 [] B_need_count
def n_need_count (a0 : PyData) (a1 : Int) : Option (Unit) :=
    (Option.bind (Option.bind (Option.bind (Option.bind (some a0) fun x1 => Option.bind (Option.bind (some (1 : Int)) fun x2 => Option.bind (Option.bind (some a1) fun x3 => Option.bind (some ()) fun x4 => some (x3, x4)) fun x5 => some (x2, x5)) fun x6 => some (x1, x6)) fun x7 => n_is_integer ((Prod.fst x7) : PyData) ((Prod.fst (Prod.snd x7)) : Int) ((some (Prod.fst (Prod.snd (Prod.snd x7)))) : (Option Int))) fun x9 => some !x9) fun x10 => if x10 = true then none else some ())
theorem V_need_count (a0 : PyData) (a1 : Int) : Fun F_need_count (n_need_count a0 a1) [.fz (enc a0), .fz (enc a1)] (fun r : (Unit) => .fz (enc (r : Unit))) fun r => [.no, .no] :=
  fun_of (ΓR := fun r => [.aa, .aa]) (show Bl B_need_count _ _ _ from (bl_ga [.eq (.fz (enc (a0 : PyData))), .eq (.fz (enc (a1 : Int)))] (by kernel_rfl) (bl_last (bl_if (k := fun x10 => x10) ((ts_not (ts_truB (((pu_call (ap_cons ((pu_var 0 rfl)).tkP (ap_cons pu_c (ap_cons ((pu_var 1 rfl)).tkP ap_nil))) (fun x7 => V_is_integer ((Prod.fst x7) : PyData) ((Prod.fst (Prod.snd x7)) : Int) ((some (Prod.fst (Prod.snd (Prod.snd x7)))) : (Option Int))))).rd).ra))).te' (fun x10 => bl_bad) fun x10 => (bl_next (bl_end (rf_nx rfl (.cons .aa (.cons .aa .nil)))))))))
def x_need_count (a0 : PyData) (a1 : Int) : Option Str :=
    (Option.bind (Option.bind (Option.bind (Option.bind (some a0) fun x11 => Option.bind (Option.bind (some (1 : Int)) fun x12 => Option.bind (Option.bind (some a1) fun x13 => Option.bind (some ()) fun x14 => some (x13, x14)) fun x15 => some (x12, x15)) fun x16 => some (x11, x16)) fun x17 => n_is_integer ((Prod.fst x17) : PyData) ((Prod.fst (Prod.snd x17)) : Int) ((some (Prod.fst (Prod.snd (Prod.snd x17)))) : (Option Int))) fun x19 => some !x19) fun x20 => if x20 = true then (some ("InvalidCount" : Str)) else none)
theorem X_need_count (a0 : PyData) (a1 : Int) : FunX F_need_count (x_need_count a0 a1) [.fz (enc a0), .fz (enc a1)] :=
  funx_eq (Γx := [.aa, .aa]) (show Bl B_need_count _ _ _ from (bl_ga [.eq (.fz (enc (a0 : PyData))), .eq (.fz (enc (a1 : Int)))] (by kernel_rfl) (bl_last (bl_if (k := fun x20 => x20) ((ts_not (ts_truB (((pu_call (ap_cons ((pu_var 0 rfl)).tkP (ap_cons pu_c (ap_cons ((pu_var 1 rfl)).tkP ap_nil))) (fun x17 => V_is_integer ((Prod.fst x17) : PyData) ((Prod.fst (Prod.snd x17)) : Int) ((some (Prod.fst (Prod.snd (Prod.snd x17)))) : (Option Int))))).rd).ra))).te' (fun x20 => (bl_raiseS (.cons .aa (.cons .aa .nil)))) fun x20 => (bl_next bl_bad)))))
end P
namespace P
open PySem PySem.Spec PyProof.Rows L2 Hb Nv
open Enc (enc)
def B_is_ballot : List Sl → Ot :=
    oSeq (oDrop (sCall F_need_count [.int 12] (rCons (sTk (sVar 0)) (rNil))))
    (oRet (sCall F_is_each_once [] (rCons (sTk (sVar 0)) (rCons (sTk (sVar 1)) (rNil)))))
def F_is_ballot : List Sl → FR := fnRun 2 2 [] B_is_ballot
def n_is_ballot (a0 : PyData) (a1 : PyData) : Option (Bool) :=
    (Option.bind (Option.bind (Option.bind (some a0) fun x1 => Option.bind (some ()) fun x2 => some (x1, x2)) fun x3 => n_need_count ((Prod.fst x3) : PyData) ((12 : Int) : Int)) fun x4 => (Option.bind (Option.bind (Option.bind (Option.bind (some a0) fun x6 => asIntA x6) fun x5 => Option.bind (Option.bind (some a1) fun x7 => Option.bind (some ()) fun x8 => some (x7, x8)) fun x9 => some (x5, x9)) fun x10 => n_is_each_once ((Prod.fst x10) : Int) ((Prod.fst (Prod.snd x10)) : PyData)) fun x11 => some x11))
theorem V_is_ballot (a0 : PyData) (a1 : PyData) : Fun F_is_ballot (n_is_ballot a0 a1) [.fz (enc a0), .fz (enc a1)] (fun r : (Bool) => .fz (enc (r : Bool))) fun r => [.no, .no] :=
  fun_of (ΓR := fun r => [.aa, .aa]) (show Bl B_is_ballot _ _ _ from (bl_ga [.eq (.fz (enc (a0 : PyData))), .eq (.fz (enc (a1 : PyData)))] (by kernel_rfl) (bl_expr ((pu_call (ap_cons ((pu_var 0 rfl)).tkP ap_nil) (fun x3 => V_need_count ((Prod.fst x3) : PyData) ((12 : Int) : Int)))).ev fun x4 => (bl_ga [.eq (.fz (enc (a0 : PyData))), .eq (.fz (enc (a1 : PyData)))] (by kernel_rfl) (bl_retV ((pu_call (ap_cons (Pu.asI ((pu_var 0 rfl)).tkP) (ap_cons ((pu_var 1 rfl)).tkP ap_nil)) (fun x10 => V_is_each_once ((Prod.fst x10) : Int) ((Prod.fst (Prod.snd x10)) : PyData)))).ev fun x11 => (rf_eq rfl (.cons .aa (.cons .aa .nil))))))))
def x_is_ballot (a0 : PyData) (a1 : PyData) : Option Str :=
    (Option.or (Option.bind (Option.bind (some a0) fun x12 => Option.bind (some ()) fun x13 => some (x12, x13)) fun x14 => x_need_count ((Prod.fst x14) : PyData) ((12 : Int) : Int)) (Option.bind (Option.bind (Option.bind (some a0) fun x15 => Option.bind (some ()) fun x16 => some (x15, x16)) fun x17 => n_need_count ((Prod.fst x17) : PyData) ((12 : Int) : Int)) fun x18 => none))
theorem X_is_ballot (a0 : PyData) (a1 : PyData) : FunX F_is_ballot (x_is_ballot a0 a1) [.fz (enc a0), .fz (enc a1)] :=
  funx_eq (Γx := [.aa, .aa]) (show Bl B_is_ballot _ _ _ from (bl_ga [.eq (.fz (enc (a0 : PyData))), .eq (.fz (enc (a1 : PyData)))] (by kernel_rfl) (bl_xor (bl_exprX (xe_call (ap_cons ((pu_var 0 rfl)).tkP ap_nil) (fun x14 => X_need_count ((Prod.fst x14) : PyData) ((12 : Int) : Int)) (.cons .aa (.cons .aa .nil)))) (bl_expr ((pu_call (ap_cons ((pu_var 0 rfl)).tkP ap_nil) (fun x17 => V_need_count ((Prod.fst x17) : PyData) ((12 : Int) : Int)))).ev fun x18 => (bl_ga [.eq (.fz (enc (a0 : PyData))), .eq (.fz (enc (a1 : PyData)))] (by kernel_rfl) bl_bad)))))
end P
namespace P
open PySem PySem.Spec PyProof.Rows L2 Hb Nv
open Enc (enc)
def B_are_ballots : List Sl → Ot :=
    oSeq (oDrop (sCall F_need_count [.int 12] (rCons (sTk (sVar 0)) (rNil))))
    (oRet (sCall F_are_each_once [] (rCons (sTk (sVar 0)) (rCons (sTk (sVar 1)) (rNil)))))
def F_are_ballots : List Sl → FR := fnRun 2 2 [] B_are_ballots
def n_are_ballots (a0 : PyData) (a1 : PyData) : Option (Bool) :=
    (Option.bind (Option.bind (Option.bind (some a0) fun x1 => Option.bind (some ()) fun x2 => some (x1, x2)) fun x3 => n_need_count ((Prod.fst x3) : PyData) ((12 : Int) : Int)) fun x4 => (Option.bind (Option.bind (Option.bind (Option.bind (some a0) fun x6 => asIntA x6) fun x5 => Option.bind (Option.bind (some a1) fun x7 => Option.bind (some ()) fun x8 => some (x7, x8)) fun x9 => some (x5, x9)) fun x10 => n_are_each_once ((Prod.fst x10) : Int) ((Prod.fst (Prod.snd x10)) : PyData)) fun x11 => some x11))
theorem V_are_ballots (a0 : PyData) (a1 : PyData) : Fun F_are_ballots (n_are_ballots a0 a1) [.fz (enc a0), .fz (enc a1)] (fun r : (Bool) => .fz (enc (r : Bool))) fun r => [.no, .no] :=
  fun_of (ΓR := fun r => [.aa, .aa]) (show Bl B_are_ballots _ _ _ from (bl_ga [.eq (.fz (enc (a0 : PyData))), .eq (.fz (enc (a1 : PyData)))] (by kernel_rfl) (bl_expr ((pu_call (ap_cons ((pu_var 0 rfl)).tkP ap_nil) (fun x3 => V_need_count ((Prod.fst x3) : PyData) ((12 : Int) : Int)))).ev fun x4 => (bl_ga [.eq (.fz (enc (a0 : PyData))), .eq (.fz (enc (a1 : PyData)))] (by kernel_rfl) (bl_retV ((pu_call (ap_cons (Pu.asI ((pu_var 0 rfl)).tkP) (ap_cons ((pu_var 1 rfl)).tkP ap_nil)) (fun x10 => V_are_each_once ((Prod.fst x10) : Int) ((Prod.fst (Prod.snd x10)) : PyData)))).ev fun x11 => (rf_eq rfl (.cons .aa (.cons .aa .nil))))))))
def x_are_ballots (a0 : PyData) (a1 : PyData) : Option Str :=
    (Option.or (Option.bind (Option.bind (some a0) fun x12 => Option.bind (some ()) fun x13 => some (x12, x13)) fun x14 => x_need_count ((Prod.fst x14) : PyData) ((12 : Int) : Int)) (Option.bind (Option.bind (Option.bind (some a0) fun x15 => Option.bind (some ()) fun x16 => some (x15, x16)) fun x17 => n_need_count ((Prod.fst x17) : PyData) ((12 : Int) : Int)) fun x18 => none))
theorem X_are_ballots (a0 : PyData) (a1 : PyData) : FunX F_are_ballots (x_are_ballots a0 a1) [.fz (enc a0), .fz (enc a1)] :=
  funx_eq (Γx := [.aa, .aa]) (show Bl B_are_ballots _ _ _ from (bl_ga [.eq (.fz (enc (a0 : PyData))), .eq (.fz (enc (a1 : PyData)))] (by kernel_rfl) (bl_xor (bl_exprX (xe_call (ap_cons ((pu_var 0 rfl)).tkP ap_nil) (fun x14 => X_need_count ((Prod.fst x14) : PyData) ((12 : Int) : Int)) (.cons .aa (.cons .aa .nil)))) (bl_expr ((pu_call (ap_cons ((pu_var 0 rfl)).tkP ap_nil) (fun x17 => V_need_count ((Prod.fst x17) : PyData) ((12 : Int) : Int)))).ev fun x18 => (bl_ga [.eq (.fz (enc (a0 : PyData))), .eq (.fz (enc (a1 : PyData)))] (by kernel_rfl) bl_bad)))))
end P
namespace P
open PySem PySem.Spec PyProof.Rows L2 Hb Nv
open Enc (enc)
def B_need_ballot : List Sl → Ot :=
    oIf (sNot (sTru (sCall F_is_each_once [] (rCons (sTk (sVar 0)) (rCons (sTk (sVar 1)) (rNil)))))) (oRaise "InvalidBallot") (oNext)
def F_need_ballot : List Sl → FR := fnRun 2 2 [] B_need_ballot
def n_need_ballot (a0 : Int) (a1 : PyData) : Option (Unit) :=
    (Option.bind (Option.bind (Option.bind (Option.bind (some a0) fun x1 => Option.bind (Option.bind (some a1) fun x2 => Option.bind (some ()) fun x3 => some (x2, x3)) fun x4 => some (x1, x4)) fun x5 => n_is_each_once ((Prod.fst x5) : Int) ((Prod.fst (Prod.snd x5)) : PyData)) fun x7 => some !x7) fun x8 => if x8 = true then none else some ())
theorem V_need_ballot (a0 : Int) (a1 : PyData) : Fun F_need_ballot (n_need_ballot a0 a1) [.fz (enc a0), .fz (enc a1)] (fun r : (Unit) => .fz (enc (r : Unit))) fun r => [.no, .no] :=
  fun_of (ΓR := fun r => [.aa, .aa]) (show Bl B_need_ballot _ _ _ from (bl_ga [.eq (.fz (enc (a0 : Int))), .eq (.fz (enc (a1 : PyData)))] (by kernel_rfl) (bl_last (bl_if (k := fun x8 => x8) ((ts_not (ts_truB (((pu_call (ap_cons ((pu_var 0 rfl)).tkP (ap_cons ((pu_var 1 rfl)).tkP ap_nil)) (fun x5 => V_is_each_once ((Prod.fst x5) : Int) ((Prod.fst (Prod.snd x5)) : PyData)))).rd).ra))).te' (fun x8 => bl_bad) fun x8 => (bl_next (bl_end (rf_nx rfl (.cons .aa (.cons .aa .nil)))))))))
def x_need_ballot (a0 : Int) (a1 : PyData) : Option Str :=
    (Option.bind (Option.bind (Option.bind (Option.bind (some a0) fun x9 => Option.bind (Option.bind (some a1) fun x10 => Option.bind (some ()) fun x11 => some (x10, x11)) fun x12 => some (x9, x12)) fun x13 => n_is_each_once ((Prod.fst x13) : Int) ((Prod.fst (Prod.snd x13)) : PyData)) fun x15 => some !x15) fun x16 => if x16 = true then (some ("InvalidBallot" : Str)) else none)
theorem X_need_ballot (a0 : Int) (a1 : PyData) : FunX F_need_ballot (x_need_ballot a0 a1) [.fz (enc a0), .fz (enc a1)] :=
  funx_eq (Γx := [.aa, .aa]) (show Bl B_need_ballot _ _ _ from (bl_ga [.eq (.fz (enc (a0 : Int))), .eq (.fz (enc (a1 : PyData)))] (by kernel_rfl) (bl_last (bl_if (k := fun x16 => x16) ((ts_not (ts_truB (((pu_call (ap_cons ((pu_var 0 rfl)).tkP (ap_cons ((pu_var 1 rfl)).tkP ap_nil)) (fun x13 => V_is_each_once ((Prod.fst x13) : Int) ((Prod.fst (Prod.snd x13)) : PyData)))).rd).ra))).te' (fun x16 => (bl_raiseS (.cons .aa (.cons .aa .nil)))) fun x16 => (bl_next bl_bad)))))
end P
namespace P
open PySem PySem.Spec PyProof.Rows L2 Hb Nv
open Enc (enc)
def B_need_place : List Sl → Ot :=
    oIf (sNot (sTru (sCall F_is_integer [] (rCons (sTk (sVar 1)) (rCons (sC (.int 0)) (rCons (sTk (s2 gSub (sVar 0) (sC (.int 1)))) (rNil))))))) (oRaise "InvalidPlace") (oNext)
def F_need_place : List Sl → FR := fnRun 2 2 [] B_need_place
def n_need_place (a0 : Int) (a1 : PyData) : Option (Unit) :=
    (Option.bind (Option.bind (Option.bind (Option.bind (some a1) fun x1 => Option.bind (Option.bind (some (0 : Int)) fun x2 => Option.bind (Option.bind (Option.bind (some a0) fun x3 => Option.bind (some (1 : Int)) fun x4 => subI x3 x4) fun x5 => Option.bind (some ()) fun x6 => some (x5, x6)) fun x7 => some (x2, x7)) fun x8 => some (x1, x8)) fun x9 => n_is_integer ((Prod.fst x9) : PyData) ((Prod.fst (Prod.snd x9)) : Int) ((some (Prod.fst (Prod.snd (Prod.snd x9)))) : (Option Int))) fun x11 => some !x11) fun x12 => if x12 = true then none else some ())
theorem V_need_place (a0 : Int) (a1 : PyData) : Fun F_need_place (n_need_place a0 a1) [.fz (enc a0), .fz (enc a1)] (fun r : (Unit) => .fz (enc (r : Unit))) fun r => [.no, .no] :=
  fun_of (ΓR := fun r => [.aa, .aa]) (show Bl B_need_place _ _ _ from (bl_ga [.eq (.fz (enc (a0 : Int))), .eq (.fz (enc (a1 : PyData)))] (by kernel_rfl) (bl_last (bl_if (k := fun x12 => x12) ((ts_not (ts_truB (((pu_call (ap_cons ((pu_var 1 rfl)).tkP (ap_cons pu_c (ap_cons ((pu2 Nv.op_sub ((pu_var 0 rfl)).rd (pu_c).rd)).tkP ap_nil))) (fun x9 => V_is_integer ((Prod.fst x9) : PyData) ((Prod.fst (Prod.snd x9)) : Int) ((some (Prod.fst (Prod.snd (Prod.snd x9)))) : (Option Int))))).rd).ra))).te' (fun x12 => bl_bad) fun x12 => (bl_next (bl_end (rf_nx rfl (.cons .aa (.cons .aa .nil)))))))))
def x_need_place (a0 : Int) (a1 : PyData) : Option Str :=
    (Option.bind (Option.bind (Option.bind (Option.bind (some a1) fun x13 => Option.bind (Option.bind (some (0 : Int)) fun x14 => Option.bind (Option.bind (Option.bind (some a0) fun x15 => Option.bind (some (1 : Int)) fun x16 => subI x15 x16) fun x17 => Option.bind (some ()) fun x18 => some (x17, x18)) fun x19 => some (x14, x19)) fun x20 => some (x13, x20)) fun x21 => n_is_integer ((Prod.fst x21) : PyData) ((Prod.fst (Prod.snd x21)) : Int) ((some (Prod.fst (Prod.snd (Prod.snd x21)))) : (Option Int))) fun x23 => some !x23) fun x24 => if x24 = true then (some ("InvalidPlace" : Str)) else none)
theorem X_need_place (a0 : Int) (a1 : PyData) : FunX F_need_place (x_need_place a0 a1) [.fz (enc a0), .fz (enc a1)] :=
  funx_eq (Γx := [.aa, .aa]) (show Bl B_need_place _ _ _ from (bl_ga [.eq (.fz (enc (a0 : Int))), .eq (.fz (enc (a1 : PyData)))] (by kernel_rfl) (bl_last (bl_if (k := fun x24 => x24) ((ts_not (ts_truB (((pu_call (ap_cons ((pu_var 1 rfl)).tkP (ap_cons pu_c (ap_cons ((pu2 Nv.op_sub ((pu_var 0 rfl)).rd (pu_c).rd)).tkP ap_nil))) (fun x21 => V_is_integer ((Prod.fst x21) : PyData) ((Prod.fst (Prod.snd x21)) : Int) ((some (Prod.fst (Prod.snd (Prod.snd x21)))) : (Option Int))))).rd).ra))).te' (fun x24 => (bl_raiseS (.cons .aa (.cons .aa .nil)))) fun x24 => (bl_next bl_bad)))))
end P
namespace P
open PySem PySem.Spec PyProof.Rows L2 Hb Nv
open Enc (enc)
def B_is_above_a : List Sl → Ot :=
    oSeq (oDrop (sCall F_need_count [.int 12] (rCons (sTk (sVar 0)) (rNil))))
    (oSeq (oDrop (sCall F_need_ballot [] (rCons (sTk (sVar 0)) (rCons (sTk (sVar 1)) (rNil)))))
    (oSeq (oDrop (sCall F_need_place [] (rCons (sTk (sVar 0)) (rCons (sTk (sVar 2)) (rNil)))))
    (oSeq (oDrop (sCall F_need_place [] (rCons (sTk (sVar 0)) (rCons (sTk (sVar 3)) (rNil)))))
    (oRet (s2 gLt (sIdx (sVar 1) (sVar 2)) (sIdx (sVar 1) (sVar 3)))))))
def F_is_above_a : List Sl → FR := fnRun 4 4 [] B_is_above_a
def n_is_above_a (a0 : PyData) (a1 : PyData) (a2 : PyData) (a3 : PyData) : Option (Bool) :=
    (Option.bind (Option.bind (Option.bind (some a0) fun x1 => Option.bind (some ()) fun x2 => some (x1, x2)) fun x3 => n_need_count ((Prod.fst x3) : PyData) ((12 : Int) : Int)) fun x4 => (Option.bind (Option.bind (Option.bind (Option.bind (some a0) fun x6 => asIntA x6) fun x5 => Option.bind (Option.bind (some a1) fun x7 => Option.bind (some ()) fun x8 => some (x7, x8)) fun x9 => some (x5, x9)) fun x10 => n_need_ballot ((Prod.fst x10) : Int) ((Prod.fst (Prod.snd x10)) : PyData)) fun x11 => (Option.bind (Option.bind (Option.bind (Option.bind (some a0) fun x13 => asIntA x13) fun x12 => Option.bind (Option.bind (some a2) fun x14 => Option.bind (some ()) fun x15 => some (x14, x15)) fun x16 => some (x12, x16)) fun x17 => n_need_place ((Prod.fst x17) : Int) ((Prod.fst (Prod.snd x17)) : PyData)) fun x18 => (Option.bind (Option.bind (Option.bind (Option.bind (some a0) fun x20 => asIntA x20) fun x19 => Option.bind (Option.bind (some a3) fun x21 => Option.bind (some ()) fun x22 => some (x21, x22)) fun x23 => some (x19, x23)) fun x24 => n_need_place ((Prod.fst x24) : Int) ((Prod.fst (Prod.snd x24)) : PyData)) fun x25 => (Option.bind (UnA.un a1 : Option ((List Int))) fun x26 => (Option.bind (UnA.un a2 : Option (Int)) fun x27 => (Option.bind (UnA.un a3 : Option (Int)) fun x28 => (Option.bind (Option.bind (Option.bind (some x26) fun x29 => Option.bind (some x27) fun x30 => idxL x29 x30) fun x33 => Option.bind (Option.bind (some x26) fun x31 => Option.bind (some x28) fun x32 => idxL x31 x32) fun x34 => ltI x33 x34) fun x35 => some x35))))))))
theorem V_is_above_a (a0 : PyData) (a1 : PyData) (a2 : PyData) (a3 : PyData) : Fun F_is_above_a (n_is_above_a a0 a1 a2 a3) [.fz (enc a0), .fz (enc a1), .fz (enc a2), .fz (enc a3)] (fun r : (Bool) => .fz (enc (r : Bool))) fun r => [.no, .no, .no, .no] :=
  fun_of (ΓR := fun r => [.aa, .aa, .aa, .aa]) (show Bl B_is_above_a _ _ _ from (bl_ga [.eq (.fz (enc (a0 : PyData))), .eq (.fz (enc (a1 : PyData))), .eq (.fz (enc (a2 : PyData))), .eq (.fz (enc (a3 : PyData)))] (by kernel_rfl) (bl_expr ((pu_call (ap_cons ((pu_var 0 rfl)).tkP ap_nil) (fun x3 => V_need_count ((Prod.fst x3) : PyData) ((12 : Int) : Int)))).ev fun x4 => (bl_ga [.eq (.fz (enc (a0 : PyData))), .eq (.fz (enc (a1 : PyData))), .eq (.fz (enc (a2 : PyData))), .eq (.fz (enc (a3 : PyData)))] (by kernel_rfl) (bl_expr ((pu_call (ap_cons (Pu.asI ((pu_var 0 rfl)).tkP) (ap_cons ((pu_var 1 rfl)).tkP ap_nil)) (fun x10 => V_need_ballot ((Prod.fst x10) : Int) ((Prod.fst (Prod.snd x10)) : PyData)))).ev fun x11 => (bl_ga [.eq (.fz (enc (a0 : PyData))), .eq (.fz (enc (a1 : PyData))), .eq (.fz (enc (a2 : PyData))), .eq (.fz (enc (a3 : PyData)))] (by kernel_rfl) (bl_expr ((pu_call (ap_cons (Pu.asI ((pu_var 0 rfl)).tkP) (ap_cons ((pu_var 2 rfl)).tkP ap_nil)) (fun x17 => V_need_place ((Prod.fst x17) : Int) ((Prod.fst (Prod.snd x17)) : PyData)))).ev fun x18 => (bl_ga [.eq (.fz (enc (a0 : PyData))), .eq (.fz (enc (a1 : PyData))), .eq (.fz (enc (a2 : PyData))), .eq (.fz (enc (a3 : PyData)))] (by kernel_rfl) (bl_expr ((pu_call (ap_cons (Pu.asI ((pu_var 0 rfl)).tkP) (ap_cons ((pu_var 3 rfl)).tkP ap_nil)) (fun x24 => V_need_place ((Prod.fst x24) : Int) ((Prod.fst (Prod.snd x24)) : PyData)))).ev fun x25 => (bl_ga [.eq (.fz (enc (a0 : PyData))), .eq (.fz (enc (a1 : PyData))), .eq (.fz (enc (a2 : PyData))), .eq (.fz (enc (a3 : PyData)))] (by kernel_rfl) (bl_reA (k := 1) rfl fun x26 => (bl_ga [.eq (.fz (enc (a0 : PyData))), .eq (.fz (enc (x26 : (List Int)))), .eq (.fz (enc (a2 : PyData))), .eq (.fz (enc (a3 : PyData)))] (by kernel_rfl) (bl_reA (k := 2) rfl fun x27 => (bl_ga [.eq (.fz (enc (a0 : PyData))), .eq (.fz (enc (x26 : (List Int)))), .eq (.fz (enc (x27 : Int))), .eq (.fz (enc (a3 : PyData)))] (by kernel_rfl) (bl_reA (k := 3) rfl fun x28 => (bl_ga [.eq (.fz (enc (a0 : PyData))), .eq (.fz (enc (x26 : (List Int)))), .eq (.fz (enc (x27 : Int))), .eq (.fz (enc (x28 : Int)))] (by kernel_rfl) (bl_retV ((pu2 Nv.op_lt ((pu_idx ((pu_var 1 rfl)).rd ((pu_var 2 rfl)).rd)).rd ((pu_idx ((pu_var 1 rfl)).rd ((pu_var 3 rfl)).rd)).rd)).ev fun x35 => (rf_eq rfl (.cons .aa (.cons .aa (.cons .aa (.cons .aa .nil))))))))))))))))))))))
def x_is_above_a (a0 : PyData) (a1 : PyData) (a2 : PyData) (a3 : PyData) : Option Str :=
    (Option.or (Option.bind (Option.bind (some a0) fun x36 => Option.bind (some ()) fun x37 => some (x36, x37)) fun x38 => x_need_count ((Prod.fst x38) : PyData) ((12 : Int) : Int)) (Option.bind (Option.bind (Option.bind (some a0) fun x39 => Option.bind (some ()) fun x40 => some (x39, x40)) fun x41 => n_need_count ((Prod.fst x41) : PyData) ((12 : Int) : Int)) fun x42 => (Option.or (Option.bind (Option.bind (Option.bind (some a0) fun x44 => asIntA x44) fun x43 => Option.bind (Option.bind (some a1) fun x45 => Option.bind (some ()) fun x46 => some (x45, x46)) fun x47 => some (x43, x47)) fun x48 => x_need_ballot ((Prod.fst x48) : Int) ((Prod.fst (Prod.snd x48)) : PyData)) (Option.bind (Option.bind (Option.bind (Option.bind (some a0) fun x50 => asIntA x50) fun x49 => Option.bind (Option.bind (some a1) fun x51 => Option.bind (some ()) fun x52 => some (x51, x52)) fun x53 => some (x49, x53)) fun x54 => n_need_ballot ((Prod.fst x54) : Int) ((Prod.fst (Prod.snd x54)) : PyData)) fun x55 => (Option.or (Option.bind (Option.bind (Option.bind (some a0) fun x57 => asIntA x57) fun x56 => Option.bind (Option.bind (some a2) fun x58 => Option.bind (some ()) fun x59 => some (x58, x59)) fun x60 => some (x56, x60)) fun x61 => x_need_place ((Prod.fst x61) : Int) ((Prod.fst (Prod.snd x61)) : PyData)) (Option.bind (Option.bind (Option.bind (Option.bind (some a0) fun x63 => asIntA x63) fun x62 => Option.bind (Option.bind (some a2) fun x64 => Option.bind (some ()) fun x65 => some (x64, x65)) fun x66 => some (x62, x66)) fun x67 => n_need_place ((Prod.fst x67) : Int) ((Prod.fst (Prod.snd x67)) : PyData)) fun x68 => (Option.or (Option.bind (Option.bind (Option.bind (some a0) fun x70 => asIntA x70) fun x69 => Option.bind (Option.bind (some a3) fun x71 => Option.bind (some ()) fun x72 => some (x71, x72)) fun x73 => some (x69, x73)) fun x74 => x_need_place ((Prod.fst x74) : Int) ((Prod.fst (Prod.snd x74)) : PyData)) (Option.bind (Option.bind (Option.bind (Option.bind (some a0) fun x76 => asIntA x76) fun x75 => Option.bind (Option.bind (some a3) fun x77 => Option.bind (some ()) fun x78 => some (x77, x78)) fun x79 => some (x75, x79)) fun x80 => n_need_place ((Prod.fst x80) : Int) ((Prod.fst (Prod.snd x80)) : PyData)) fun x81 => (Option.bind (UnA.un a1 : Option ((List Int))) fun x82 => (Option.bind (UnA.un a2 : Option (Int)) fun x83 => (Option.bind (UnA.un a3 : Option (Int)) fun x84 => none)))))))))))
theorem X_is_above_a (a0 : PyData) (a1 : PyData) (a2 : PyData) (a3 : PyData) : FunX F_is_above_a (x_is_above_a a0 a1 a2 a3) [.fz (enc a0), .fz (enc a1), .fz (enc a2), .fz (enc a3)] :=
  funx_eq (Γx := [.aa, .aa, .aa, .aa]) (show Bl B_is_above_a _ _ _ from (bl_ga [.eq (.fz (enc (a0 : PyData))), .eq (.fz (enc (a1 : PyData))), .eq (.fz (enc (a2 : PyData))), .eq (.fz (enc (a3 : PyData)))] (by kernel_rfl) (bl_xor (bl_exprX (xe_call (ap_cons ((pu_var 0 rfl)).tkP ap_nil) (fun x38 => X_need_count ((Prod.fst x38) : PyData) ((12 : Int) : Int)) (.cons .aa (.cons .aa (.cons .aa (.cons .aa .nil)))))) (bl_expr ((pu_call (ap_cons ((pu_var 0 rfl)).tkP ap_nil) (fun x41 => V_need_count ((Prod.fst x41) : PyData) ((12 : Int) : Int)))).ev fun x42 => (bl_ga [.eq (.fz (enc (a0 : PyData))), .eq (.fz (enc (a1 : PyData))), .eq (.fz (enc (a2 : PyData))), .eq (.fz (enc (a3 : PyData)))] (by kernel_rfl) (bl_xor (bl_exprX (xe_call (ap_cons (Pu.asI ((pu_var 0 rfl)).tkP) (ap_cons ((pu_var 1 rfl)).tkP ap_nil)) (fun x48 => X_need_ballot ((Prod.fst x48) : Int) ((Prod.fst (Prod.snd x48)) : PyData)) (.cons .aa (.cons .aa (.cons .aa (.cons .aa .nil)))))) (bl_expr ((pu_call (ap_cons (Pu.asI ((pu_var 0 rfl)).tkP) (ap_cons ((pu_var 1 rfl)).tkP ap_nil)) (fun x54 => V_need_ballot ((Prod.fst x54) : Int) ((Prod.fst (Prod.snd x54)) : PyData)))).ev fun x55 => (bl_ga [.eq (.fz (enc (a0 : PyData))), .eq (.fz (enc (a1 : PyData))), .eq (.fz (enc (a2 : PyData))), .eq (.fz (enc (a3 : PyData)))] (by kernel_rfl) (bl_xor (bl_exprX (xe_call (ap_cons (Pu.asI ((pu_var 0 rfl)).tkP) (ap_cons ((pu_var 2 rfl)).tkP ap_nil)) (fun x61 => X_need_place ((Prod.fst x61) : Int) ((Prod.fst (Prod.snd x61)) : PyData)) (.cons .aa (.cons .aa (.cons .aa (.cons .aa .nil)))))) (bl_expr ((pu_call (ap_cons (Pu.asI ((pu_var 0 rfl)).tkP) (ap_cons ((pu_var 2 rfl)).tkP ap_nil)) (fun x67 => V_need_place ((Prod.fst x67) : Int) ((Prod.fst (Prod.snd x67)) : PyData)))).ev fun x68 => (bl_ga [.eq (.fz (enc (a0 : PyData))), .eq (.fz (enc (a1 : PyData))), .eq (.fz (enc (a2 : PyData))), .eq (.fz (enc (a3 : PyData)))] (by kernel_rfl) (bl_xor (bl_exprX (xe_call (ap_cons (Pu.asI ((pu_var 0 rfl)).tkP) (ap_cons ((pu_var 3 rfl)).tkP ap_nil)) (fun x74 => X_need_place ((Prod.fst x74) : Int) ((Prod.fst (Prod.snd x74)) : PyData)) (.cons .aa (.cons .aa (.cons .aa (.cons .aa .nil)))))) (bl_expr ((pu_call (ap_cons (Pu.asI ((pu_var 0 rfl)).tkP) (ap_cons ((pu_var 3 rfl)).tkP ap_nil)) (fun x80 => V_need_place ((Prod.fst x80) : Int) ((Prod.fst (Prod.snd x80)) : PyData)))).ev fun x81 => (bl_ga [.eq (.fz (enc (a0 : PyData))), .eq (.fz (enc (a1 : PyData))), .eq (.fz (enc (a2 : PyData))), .eq (.fz (enc (a3 : PyData)))] (by kernel_rfl) (bl_reA (k := 1) rfl fun x82 => (bl_ga [.eq (.fz (enc (a0 : PyData))), .eq (.fz (enc (x82 : (List Int)))), .eq (.fz (enc (a2 : PyData))), .eq (.fz (enc (a3 : PyData)))] (by kernel_rfl) (bl_reA (k := 2) rfl fun x83 => (bl_ga [.eq (.fz (enc (a0 : PyData))), .eq (.fz (enc (x82 : (List Int)))), .eq (.fz (enc (x83 : Int))), .eq (.fz (enc (a3 : PyData)))] (by kernel_rfl) (bl_reA (k := 3) rfl fun x84 => (bl_ga [.eq (.fz (enc (a0 : PyData))), .eq (.fz (enc (x82 : (List Int)))), .eq (.fz (enc (x83 : Int))), .eq (.fz (enc (x84 : Int)))] (by kernel_rfl) bl_bad))))))))))))))))))))
end P
namespace P
open PySem PySem.Spec PyProof.Rows L2 Hb Nv
open Enc (enc)
def B_pairs_turned : List Sl → Ot :=
    oSeq (oPar [3, 4, 5] (rCons (sTk (sCall F_ranks_in [] (rCons (sTk (sVar 0)) (rNil)))) (rCons (sTk (sCall F_ranks_in [] (rCons (sTk (sVar 1)) (rNil)))) (rCons (sLst (lNil)) (rNil)))))
    (oSeq (oFor (wRng1 (s1 (gRd lenD) (sVar 0))) (tgN 2) (oFor (wRng2 (s2 gAdd (sVar 2) (sC (.int 1))) (s1 (gRd lenD) (sVar 0))) (tgN 6) (oIf (sTst (s2 gNe (s2 gLt (s2 gIx2 (sVar 3) (sVar 2)) (s2 gIx2 (sVar 3) (sVar 6))) (s2 gLt (s2 gIx2 (sVar 4) (sVar 2)) (s2 gIx2 (sVar 4) (sVar 6))))) (oDrop (sApp (sVar 5) (sTup (lCons (sVar 2) (lCons (sVar 6) (lNil)))))) (oNext))))
    (oRet (sVar 5)))
def F_pairs_turned : List Sl → FR := fnRun 2 7 [] B_pairs_turned
def n_pairs_turned (a0 : (List Int)) (a1 : (List Int)) : Option ((List (Int × Int))) :=
    (Option.bind (Option.bind (Option.bind (Option.bind (some a0) fun x1 => Option.bind (some ()) fun x2 => some (x1, x2)) fun x3 => n_ranks_in ((Prod.fst x3) : (List Int))) fun x4 => Option.bind (Option.bind (Option.bind (Option.bind (some a1) fun x5 => Option.bind (some ()) fun x6 => some (x5, x6)) fun x7 => n_ranks_in ((Prod.fst x7) : (List Int))) fun x8 => Option.bind (Option.bind (some []) fun x9 => Option.bind (some ()) fun x10 => some (x9, x10)) fun x11 => some (x8, x11)) fun x12 => some (x4, x12)) fun x13 => (Option.bind (Option.bind (Option.bind (some a0) fun x14 => lenL x14) fun x15 => ri1 x15) fun x16 => Option.bind (forS x16 ((Prod.fst (Prod.snd (Prod.snd x13))) : (List (Int × Int))) fun s18 x17 => (Option.bind (Option.bind (Option.bind (some x17) fun x19 => Option.bind (some (1 : Int)) fun x20 => addI x19 x20) fun x22 => Option.bind (Option.bind (some a0) fun x21 => lenL x21) fun x23 => ri2 x22 x23) fun x24 => Option.bind (forS x24 (s18 : (List (Int × Int))) fun s26 x25 => (Option.bind (Option.bind (Option.bind (Option.bind (some (Prod.fst x13)) fun x27 => Option.bind (some x17) fun x28 => atL x27 x28) fun x31 => Option.bind (Option.bind (some (Prod.fst x13)) fun x29 => Option.bind (some x25) fun x30 => atL x29 x30) fun x32 => ltI x31 x32) fun x39 => Option.bind (Option.bind (Option.bind (some (Prod.fst (Prod.snd x13))) fun x33 => Option.bind (some x17) fun x34 => atL x33 x34) fun x37 => Option.bind (Option.bind (some (Prod.fst (Prod.snd x13))) fun x35 => Option.bind (some x25) fun x36 => atL x35 x36) fun x38 => ltI x37 x38) fun x40 => neN x39 x40) fun x41 => if x41 = true then (Option.bind (Option.bind (Option.bind (Option.bind (some x17) fun x42 => Option.bind (Option.bind (some x25) fun x43 => Option.bind (some ()) fun x45 => some (x43, x45)) fun x46 => some (x42, x46)) fun x44 => some (((Prod.fst x44), (Prod.fst (Prod.snd x44))) : (Int × Int))) fun x47 => Option.bind (apL s26 x47) fun x48 => some (x48, x47)) fun x49 => some ((Prod.fst x49) : (List (Int × Int)))) else some (s26 : (List (Int × Int))))) fun s26 => some (s26 : (List (Int × Int))))) fun s18 => some s18))
theorem V_pairs_turned (a0 : (List Int)) (a1 : (List Int)) : Fun F_pairs_turned (n_pairs_turned a0 a1) [.fz (enc a0), .fz (enc a1)] (fun r : ((List (Int × Int))) => ow (r : (List (Int × Int)))) fun r => [.no, .no] :=
  fun_of (ΓR := fun r => [.aa, .aa, .aa, .aa, .aa, .aa, .aa]) (show Bl B_pairs_turned _ _ _ from (bl_ga [.eq (.fz (enc (a0 : (List Int)))), .eq (.fz (enc (a1 : (List Int)))), .eq .no, .eq .no, .eq .no, .eq .no, .eq .no] (by kernel_rfl) (bl_par (ag_cons ((((pu_call (ap_cons ((pu_var 0 rfl)).tkP ap_nil) (fun x3 => V_ranks_in ((Prod.fst x3) : (List Int))))).tkTP ow_tree)).ev fun x4 => (ag_cons ((((pu_call (ap_cons ((pu_var 1 rfl)).tkP ap_nil) (fun x7 => V_ranks_in ((Prod.fst x7) : (List Int))))).tkTP ow_tree)).ev fun x8 => (ag_cons (pu_nil).ev fun x9 => ag_nil))) fun x13 => (bl_ga [.eq (.fz (enc (a0 : (List Int)))), .eq (.fz (enc (a1 : (List Int)))), .eq .no, .eq (.fz (enc ((Prod.fst x13) : (List Int)))), .eq (.fz (enc ((Prod.fst (Prod.snd x13)) : (List Int)))), .eq (ow ((Prod.fst (Prod.snd (Prod.snd x13))) : (List (Int × Int)))), .eq .no] (by kernel_rfl) (bl_for (vs := [2]) (xs := fun x16 => x16) (s0 := fun x16 => ((Prod.fst (Prod.snd (Prod.snd x13))) : (List (Int × Int)))) (ΓL := fun x16 (s18 : (List (Int × Int))) => [.eq (.fz (enc (a0 : (List Int)))), .eq (.fz (enc (a1 : (List Int)))), .pl, .eq (.fz (enc ((Prod.fst x13) : (List Int)))), .eq (.fz (enc ((Prod.fst (Prod.snd x13)) : (List Int)))), .eq (ow (s18 : (List (Int × Int)))), .pl]) ((ip_rng1 ((pu1A Nv.op_len (((pu_var 0 rfl)).rd).ra)).tkP)).it (fun x16 => (.cons .rfl (.cons .rfl (.cons .no (.cons .rfl (.cons .rfl (.cons .rfl (.cons .no .nil)))))))) (fun x16 s18 x17 => tg_n) (fun x16 s18 x17 => (bl_ga [.eq (.fz (enc (a0 : (List Int)))), .eq (.fz (enc (a1 : (List Int)))), .eq (.fz (enc (x17 : Int))), .eq (.fz (enc ((Prod.fst x13) : (List Int)))), .eq (.fz (enc ((Prod.fst (Prod.snd x13)) : (List Int)))), .eq (ow (s18 : (List (Int × Int)))), .pl] (by kernel_rfl) (bl_last (bl_for (vs := [6]) (xs := fun x24 => x24) (s0 := fun x24 => (s18 : (List (Int × Int)))) (ΓL := fun x24 (s26 : (List (Int × Int))) => [.eq (.fz (enc (a0 : (List Int)))), .eq (.fz (enc (a1 : (List Int)))), .eq (.fz (enc (x17 : Int))), .eq (.fz (enc ((Prod.fst x13) : (List Int)))), .eq (.fz (enc ((Prod.fst (Prod.snd x13)) : (List Int)))), .eq (ow (s26 : (List (Int × Int)))), .pl]) ((ip_rng2 ((pu2 Nv.op_add ((pu_var 2 rfl)).rd (pu_c).rd)).tkP ((pu1A Nv.op_len (((pu_var 0 rfl)).rd).ra)).tkP)).it (fun x24 => (.cons .rfl (.cons .rfl (.cons .rfl (.cons .rfl (.cons .rfl (.cons .rfl (.cons .rfl .nil)))))))) (fun x24 s26 x25 => tg_n) (fun x24 s26 x25 => (bl_ga [.eq (.fz (enc (a0 : (List Int)))), .eq (.fz (enc (a1 : (List Int)))), .eq (.fz (enc (x17 : Int))), .eq (.fz (enc ((Prod.fst x13) : (List Int)))), .eq (.fz (enc ((Prod.fst (Prod.snd x13)) : (List Int)))), .eq (ow (s26 : (List (Int × Int)))), .eq (.fz (enc (x25 : Int)))] (by kernel_rfl) (bl_last (bl_if (k := fun x41 => x41) ((ts_tst (pu2A Nv.op_ne (((pu2 Nv.op_lt ((pu2 Nv.op_ix2 ((pu_var 3 rfl)).rd ((pu_var 2 rfl)).rd)).rd ((pu2 Nv.op_ix2 ((pu_var 3 rfl)).rd ((pu_var 6 rfl)).rd)).rd)).rd).ra (((pu2 Nv.op_lt ((pu2 Nv.op_ix2 ((pu_var 4 rfl)).rd ((pu_var 2 rfl)).rd)).rd ((pu2 Nv.op_ix2 ((pu_var 4 rfl)).rd ((pu_var 6 rfl)).rd)).rd)).rd).ra))).te' (fun x41 => (bl_expr (ev_app (k := 5) (va := fun x47 => x47) (xs := fun x47 => s26) rfl rfl (((pu_tup (dp_cons ((pu_var 2 rfl)).tkP (dp_cons ((pu_var 6 rfl)).tkP dp_nil)) (fun x44 => (((Prod.fst x44), (Prod.fst (Prod.snd x44))) : (Int × Int))))).tkP).ev fun _ => rfl) fun x49 => (bl_ga [.eq (.fz (enc (a0 : (List Int)))), .eq (.fz (enc (a1 : (List Int)))), .eq (.fz (enc (x17 : Int))), .eq (.fz (enc ((Prod.fst x13) : (List Int)))), .eq (.fz (enc ((Prod.fst (Prod.snd x13)) : (List Int)))), .eq (ow ((Prod.fst x49) : (List (Int × Int)))), .eq (.fz (enc (x25 : Int)))] (by kernel_rfl) (bl_end (rs_nx (.cons .rfl (.cons .rfl (.cons .rfl (.cons .rfl (.cons .rfl (.cons .rfl (.cons .fz .nil)))))))))))) fun x41 => (bl_next (bl_end (rs_nx (.cons .rfl (.cons .rfl (.cons .rfl (.cons .rfl (.cons .rfl (.cons .rfl (.cons .fz .nil)))))))))))))) fun x24 s26 => (bl_end (rs_nx (.cons .rfl (.cons .rfl (.cons .fz (.cons .rfl (.cons .rfl (.cons .rfl (.cons .rfl .nil))))))))))))) fun x16 s18 => (bl_retO (k := 5) rfl rfl (sat_ga [.eq (.fz (enc (a0 : (List Int)))), .eq (.fz (enc (a1 : (List Int)))), .pl, .eq (.fz (enc ((Prod.fst x13) : (List Int)))), .eq (.fz (enc ((Prod.fst (Prod.snd x13)) : (List Int)))), .eq .no, .pl] (by kernel_rfl) (rf_eq rfl (.cons .aa (.cons .aa (.cons .aa (.cons .aa (.cons .aa (.cons .aa (.cons .aa .nil)))))))))))))))
end P
namespace P
open PySem PySem.Spec PyProof.Rows L2 Hb Nv
open Enc (enc)
def B_turned_pairs_a : List Sl → Ot :=
    oSeq (oDrop (sCall F_need_count [.int 12] (rCons (sTk (sVar 0)) (rNil))))
    (oSeq (oDrop (sCall F_need_ballot [] (rCons (sTk (sVar 0)) (rCons (sTk (sVar 1)) (rNil)))))
    (oSeq (oDrop (sCall F_need_ballot [] (rCons (sTk (sVar 0)) (rCons (sTk (sVar 2)) (rNil)))))
    (oRet (sCall F_pairs_turned [] (rCons (sTk (sVar 1)) (rCons (sTk (sVar 2)) (rNil)))))))
def F_turned_pairs_a : List Sl → FR := fnRun 3 3 [] B_turned_pairs_a
def n_turned_pairs_a (a0 : PyData) (a1 : PyData) (a2 : PyData) : Option ((List (Int × Int))) :=
    (Option.bind (Option.bind (Option.bind (some a0) fun x1 => Option.bind (some ()) fun x2 => some (x1, x2)) fun x3 => n_need_count ((Prod.fst x3) : PyData) ((12 : Int) : Int)) fun x4 => (Option.bind (Option.bind (Option.bind (Option.bind (some a0) fun x6 => asIntA x6) fun x5 => Option.bind (Option.bind (some a1) fun x7 => Option.bind (some ()) fun x8 => some (x7, x8)) fun x9 => some (x5, x9)) fun x10 => n_need_ballot ((Prod.fst x10) : Int) ((Prod.fst (Prod.snd x10)) : PyData)) fun x11 => (Option.bind (Option.bind (Option.bind (Option.bind (some a0) fun x13 => asIntA x13) fun x12 => Option.bind (Option.bind (some a2) fun x14 => Option.bind (some ()) fun x15 => some (x14, x15)) fun x16 => some (x12, x16)) fun x17 => n_need_ballot ((Prod.fst x17) : Int) ((Prod.fst (Prod.snd x17)) : PyData)) fun x18 => (Option.bind (Option.bind (Option.bind (Option.bind (some a1) fun x20 => asIL x20) fun x19 => Option.bind (Option.bind (Option.bind (some a2) fun x22 => asIL x22) fun x21 => Option.bind (some ()) fun x23 => some (x21, x23)) fun x24 => some (x19, x24)) fun x25 => n_pairs_turned ((Prod.fst x25) : (List Int)) ((Prod.fst (Prod.snd x25)) : (List Int))) fun x26 => some x26))))
theorem V_turned_pairs_a (a0 : PyData) (a1 : PyData) (a2 : PyData) : Fun F_turned_pairs_a (n_turned_pairs_a a0 a1 a2) [.fz (enc a0), .fz (enc a1), .fz (enc a2)] (fun r : ((List (Int × Int))) => ow (r : (List (Int × Int)))) fun r => [.no, .no, .no] :=
  fun_of (ΓR := fun r => [.aa, .aa, .aa]) (show Bl B_turned_pairs_a _ _ _ from (bl_ga [.eq (.fz (enc (a0 : PyData))), .eq (.fz (enc (a1 : PyData))), .eq (.fz (enc (a2 : PyData)))] (by kernel_rfl) (bl_expr ((pu_call (ap_cons ((pu_var 0 rfl)).tkP ap_nil) (fun x3 => V_need_count ((Prod.fst x3) : PyData) ((12 : Int) : Int)))).ev fun x4 => (bl_ga [.eq (.fz (enc (a0 : PyData))), .eq (.fz (enc (a1 : PyData))), .eq (.fz (enc (a2 : PyData)))] (by kernel_rfl) (bl_expr ((pu_call (ap_cons (Pu.asI ((pu_var 0 rfl)).tkP) (ap_cons ((pu_var 1 rfl)).tkP ap_nil)) (fun x10 => V_need_ballot ((Prod.fst x10) : Int) ((Prod.fst (Prod.snd x10)) : PyData)))).ev fun x11 => (bl_ga [.eq (.fz (enc (a0 : PyData))), .eq (.fz (enc (a1 : PyData))), .eq (.fz (enc (a2 : PyData)))] (by kernel_rfl) (bl_expr ((pu_call (ap_cons (Pu.asI ((pu_var 0 rfl)).tkP) (ap_cons ((pu_var 2 rfl)).tkP ap_nil)) (fun x17 => V_need_ballot ((Prod.fst x17) : Int) ((Prod.fst (Prod.snd x17)) : PyData)))).ev fun x18 => (bl_ga [.eq (.fz (enc (a0 : PyData))), .eq (.fz (enc (a1 : PyData))), .eq (.fz (enc (a2 : PyData)))] (by kernel_rfl) (bl_retT ((pu_call (ap_cons (Pu.asIL ((pu_var 1 rfl)).tkP) (ap_cons (Pu.asIL ((pu_var 2 rfl)).tkP) ap_nil)) (fun x25 => V_pairs_turned ((Prod.fst x25) : (List Int)) ((Prod.fst (Prod.snd x25)) : (List Int))))).ev fun x26 => (rf_eq rfl (.cons .aa (.cons .aa (.cons .aa .nil)))))))))))))
def x_turned_pairs_a (a0 : PyData) (a1 : PyData) (a2 : PyData) : Option Str :=
    (Option.or (Option.bind (Option.bind (some a0) fun x27 => Option.bind (some ()) fun x28 => some (x27, x28)) fun x29 => x_need_count ((Prod.fst x29) : PyData) ((12 : Int) : Int)) (Option.bind (Option.bind (Option.bind (some a0) fun x30 => Option.bind (some ()) fun x31 => some (x30, x31)) fun x32 => n_need_count ((Prod.fst x32) : PyData) ((12 : Int) : Int)) fun x33 => (Option.or (Option.bind (Option.bind (Option.bind (some a0) fun x35 => asIntA x35) fun x34 => Option.bind (Option.bind (some a1) fun x36 => Option.bind (some ()) fun x37 => some (x36, x37)) fun x38 => some (x34, x38)) fun x39 => x_need_ballot ((Prod.fst x39) : Int) ((Prod.fst (Prod.snd x39)) : PyData)) (Option.bind (Option.bind (Option.bind (Option.bind (some a0) fun x41 => asIntA x41) fun x40 => Option.bind (Option.bind (some a1) fun x42 => Option.bind (some ()) fun x43 => some (x42, x43)) fun x44 => some (x40, x44)) fun x45 => n_need_ballot ((Prod.fst x45) : Int) ((Prod.fst (Prod.snd x45)) : PyData)) fun x46 => (Option.or (Option.bind (Option.bind (Option.bind (some a0) fun x48 => asIntA x48) fun x47 => Option.bind (Option.bind (some a2) fun x49 => Option.bind (some ()) fun x50 => some (x49, x50)) fun x51 => some (x47, x51)) fun x52 => x_need_ballot ((Prod.fst x52) : Int) ((Prod.fst (Prod.snd x52)) : PyData)) (Option.bind (Option.bind (Option.bind (Option.bind (some a0) fun x54 => asIntA x54) fun x53 => Option.bind (Option.bind (some a2) fun x55 => Option.bind (some ()) fun x56 => some (x55, x56)) fun x57 => some (x53, x57)) fun x58 => n_need_ballot ((Prod.fst x58) : Int) ((Prod.fst (Prod.snd x58)) : PyData)) fun x59 => none))))))
theorem X_turned_pairs_a (a0 : PyData) (a1 : PyData) (a2 : PyData) : FunX F_turned_pairs_a (x_turned_pairs_a a0 a1 a2) [.fz (enc a0), .fz (enc a1), .fz (enc a2)] :=
  funx_eq (Γx := [.aa, .aa, .aa]) (show Bl B_turned_pairs_a _ _ _ from (bl_ga [.eq (.fz (enc (a0 : PyData))), .eq (.fz (enc (a1 : PyData))), .eq (.fz (enc (a2 : PyData)))] (by kernel_rfl) (bl_xor (bl_exprX (xe_call (ap_cons ((pu_var 0 rfl)).tkP ap_nil) (fun x29 => X_need_count ((Prod.fst x29) : PyData) ((12 : Int) : Int)) (.cons .aa (.cons .aa (.cons .aa .nil))))) (bl_expr ((pu_call (ap_cons ((pu_var 0 rfl)).tkP ap_nil) (fun x32 => V_need_count ((Prod.fst x32) : PyData) ((12 : Int) : Int)))).ev fun x33 => (bl_ga [.eq (.fz (enc (a0 : PyData))), .eq (.fz (enc (a1 : PyData))), .eq (.fz (enc (a2 : PyData)))] (by kernel_rfl) (bl_xor (bl_exprX (xe_call (ap_cons (Pu.asI ((pu_var 0 rfl)).tkP) (ap_cons ((pu_var 1 rfl)).tkP ap_nil)) (fun x39 => X_need_ballot ((Prod.fst x39) : Int) ((Prod.fst (Prod.snd x39)) : PyData)) (.cons .aa (.cons .aa (.cons .aa .nil))))) (bl_expr ((pu_call (ap_cons (Pu.asI ((pu_var 0 rfl)).tkP) (ap_cons ((pu_var 1 rfl)).tkP ap_nil)) (fun x45 => V_need_ballot ((Prod.fst x45) : Int) ((Prod.fst (Prod.snd x45)) : PyData)))).ev fun x46 => (bl_ga [.eq (.fz (enc (a0 : PyData))), .eq (.fz (enc (a1 : PyData))), .eq (.fz (enc (a2 : PyData)))] (by kernel_rfl) (bl_xor (bl_exprX (xe_call (ap_cons (Pu.asI ((pu_var 0 rfl)).tkP) (ap_cons ((pu_var 2 rfl)).tkP ap_nil)) (fun x52 => X_need_ballot ((Prod.fst x52) : Int) ((Prod.fst (Prod.snd x52)) : PyData)) (.cons .aa (.cons .aa (.cons .aa .nil))))) (bl_expr ((pu_call (ap_cons (Pu.asI ((pu_var 0 rfl)).tkP) (ap_cons ((pu_var 2 rfl)).tkP ap_nil)) (fun x58 => V_need_ballot ((Prod.fst x58) : Int) ((Prod.fst (Prod.snd x58)) : PyData)))).ev fun x59 => (bl_ga [.eq (.fz (enc (a0 : PyData))), .eq (.fz (enc (a1 : PyData))), .eq (.fz (enc (a2 : PyData)))] (by kernel_rfl) bl_bad)))))))))))
end P
namespace P
open PySem PySem.Spec PyProof.Rows L2 Hb Nv
open Enc (enc)
def B__law_call : List Sl → Ot :=
    oSeq (oIf (sTst (s2 gEq (sVar 0) (sC (.int 0)))) (oRet (sTk (sCall F_is_ballot [] (rCons (sTk (s2 gIx2 (sVar 1) (sC (.int 0)))) (rCons (sTk (s2 gIx2 (sVar 1) (sC (.int 1)))) (rNil)))))) (oNext))
    (oSeq (oIf (sTst (s2 gEq (sVar 0) (sC (.int 1)))) (oRet (sTk (sCall F_are_ballots [] (rCons (sTk (s2 gIx2 (sVar 1) (sC (.int 0)))) (rCons (sTk (s2 gIx2 (sVar 1) (sC (.int 1)))) (rNil)))))) (oNext))
    (oSeq (oIf (sTst (s2 gEq (sVar 0) (sC (.int 2)))) (oRet (sTk (sCall F_is_above_a [] (rCons (sTk (s2 gIx2 (sVar 1) (sC (.int 0)))) (rCons (sTk (s2 gIx2 (sVar 1) (sC (.int 1)))) (rCons (sTk (s2 gIx2 (sVar 1) (sC (.int 2)))) (rCons (sTk (s2 gIx2 (sVar 1) (sC (.int 3)))) (rNil)))))))) (oNext))
    (oSeq (oIf (sTst (s2 gEq (sVar 0) (sC (.int 3)))) (oRet (sTk (sCall F_turned_pairs_a [] (rCons (sTk (s2 gIx2 (sVar 1) (sC (.int 0)))) (rCons (sTk (s2 gIx2 (sVar 1) (sC (.int 1)))) (rCons (sTk (s2 gIx2 (sVar 1) (sC (.int 2)))) (rNil))))))) (oNext))
    (oRet (sTk (sCall F_renamed_a [] (rCons (sTk (s2 gIx2 (sVar 1) (sC (.int 0)))) (rCons (sTk (s2 gIx2 (sVar 1) (sC (.int 1)))) (rNil)))))))))
def F__law_call : List Sl → FR := fnRun 2 2 [] B__law_call
def n__law_call (a0 : Int) (a1 : (List PyData)) : Option (PyData) :=
    (Option.bind (Option.bind (some a0) fun x1 => Option.bind (some (0 : Int)) fun x2 => eqN x1 x2) fun x3 => if x3 = true then (Option.bind (Option.bind (Option.bind (Option.bind (some a1) fun x4 => Option.bind (some (0 : Int)) fun x5 => atL x4 x5) fun x6 => Option.bind (Option.bind (Option.bind (some a1) fun x7 => Option.bind (some (1 : Int)) fun x8 => atL x7 x8) fun x9 => Option.bind (some ()) fun x10 => some (x9, x10)) fun x11 => some (x6, x11)) fun x12 => n_is_ballot ((Prod.fst x12) : PyData) ((Prod.fst (Prod.snd x12)) : PyData)) fun x13 => some (enc (x13 : Bool))) else (Option.bind (Option.bind (some a0) fun x14 => Option.bind (some (1 : Int)) fun x15 => eqN x14 x15) fun x16 => if x16 = true then (Option.bind (Option.bind (Option.bind (Option.bind (some a1) fun x17 => Option.bind (some (0 : Int)) fun x18 => atL x17 x18) fun x19 => Option.bind (Option.bind (Option.bind (some a1) fun x20 => Option.bind (some (1 : Int)) fun x21 => atL x20 x21) fun x22 => Option.bind (some ()) fun x23 => some (x22, x23)) fun x24 => some (x19, x24)) fun x25 => n_are_ballots ((Prod.fst x25) : PyData) ((Prod.fst (Prod.snd x25)) : PyData)) fun x26 => some (enc (x26 : Bool))) else (Option.bind (Option.bind (some a0) fun x27 => Option.bind (some (2 : Int)) fun x28 => eqN x27 x28) fun x29 => if x29 = true then (Option.bind (Option.bind (Option.bind (Option.bind (some a1) fun x30 => Option.bind (some (0 : Int)) fun x31 => atL x30 x31) fun x32 => Option.bind (Option.bind (Option.bind (some a1) fun x33 => Option.bind (some (1 : Int)) fun x34 => atL x33 x34) fun x35 => Option.bind (Option.bind (Option.bind (some a1) fun x36 => Option.bind (some (2 : Int)) fun x37 => atL x36 x37) fun x38 => Option.bind (Option.bind (Option.bind (some a1) fun x39 => Option.bind (some (3 : Int)) fun x40 => atL x39 x40) fun x41 => Option.bind (some ()) fun x42 => some (x41, x42)) fun x43 => some (x38, x43)) fun x44 => some (x35, x44)) fun x45 => some (x32, x45)) fun x46 => n_is_above_a ((Prod.fst x46) : PyData) ((Prod.fst (Prod.snd x46)) : PyData) ((Prod.fst (Prod.snd (Prod.snd x46))) : PyData) ((Prod.fst (Prod.snd (Prod.snd (Prod.snd x46)))) : PyData)) fun x47 => some (enc (x47 : Bool))) else (Option.bind (Option.bind (some a0) fun x48 => Option.bind (some (3 : Int)) fun x49 => eqN x48 x49) fun x50 => if x50 = true then (Option.bind (Option.bind (Option.bind (Option.bind (some a1) fun x51 => Option.bind (some (0 : Int)) fun x52 => atL x51 x52) fun x53 => Option.bind (Option.bind (Option.bind (some a1) fun x54 => Option.bind (some (1 : Int)) fun x55 => atL x54 x55) fun x56 => Option.bind (Option.bind (Option.bind (some a1) fun x57 => Option.bind (some (2 : Int)) fun x58 => atL x57 x58) fun x59 => Option.bind (some ()) fun x60 => some (x59, x60)) fun x61 => some (x56, x61)) fun x62 => some (x53, x62)) fun x63 => n_turned_pairs_a ((Prod.fst x63) : PyData) ((Prod.fst (Prod.snd x63)) : PyData) ((Prod.fst (Prod.snd (Prod.snd x63))) : PyData)) fun x64 => some (enc (x64 : (List (Int × Int))))) else (Option.bind (Option.bind (Option.bind (Option.bind (some a1) fun x65 => Option.bind (some (0 : Int)) fun x66 => atL x65 x66) fun x67 => Option.bind (Option.bind (Option.bind (some a1) fun x68 => Option.bind (some (1 : Int)) fun x69 => atL x68 x69) fun x70 => Option.bind (some ()) fun x71 => some (x70, x71)) fun x72 => some (x67, x72)) fun x73 => n_renamed_a ((Prod.fst x73) : PyData) ((Prod.fst (Prod.snd x73)) : PyData)) fun x74 => some (enc (x74 : (List (List Int)))))))))
theorem V__law_call (a0 : Int) (a1 : (List PyData)) : Fun F__law_call (n__law_call a0 a1) [.fz (enc a0), .fz (enc a1)] (fun r : (PyData) => .fz (enc (r : PyData))) fun r => [.no, .no] :=
  fun_of (ΓR := fun r => [.aa, .aa]) (show Bl B__law_call _ _ _ from (bl_ga [.eq (.fz (enc (a0 : Int))), .eq (.fz (enc (a1 : (List PyData))))] (by kernel_rfl) (bl_if (k := fun x3 => x3) ((ts_tst (pu2A Nv.op_eq (((pu_var 0 rfl)).rd).ra ((pu_c).rd).ra))).te' (fun x3 => (bl_retS (bl_retV (((pu_call (ap_cons ((pu2 Nv.op_ix2 ((pu_var 1 rfl)).rd (pu_c).rd)).tkP (ap_cons ((pu2 Nv.op_ix2 ((pu_var 1 rfl)).rd (pu_c).rd)).tkP ap_nil)) (fun x12 => V_is_ballot ((Prod.fst x12) : PyData) ((Prod.fst (Prod.snd x12)) : PyData)))).tkP).ev fun x13 => (rf_eq rfl (.cons .aa (.cons .aa .nil)))))) fun x3 => (bl_next (bl_if (k := fun x16 => x16) ((ts_tst (pu2A Nv.op_eq (((pu_var 0 rfl)).rd).ra ((pu_c).rd).ra))).te' (fun x16 => (bl_retS (bl_retV (((pu_call (ap_cons ((pu2 Nv.op_ix2 ((pu_var 1 rfl)).rd (pu_c).rd)).tkP (ap_cons ((pu2 Nv.op_ix2 ((pu_var 1 rfl)).rd (pu_c).rd)).tkP ap_nil)) (fun x25 => V_are_ballots ((Prod.fst x25) : PyData) ((Prod.fst (Prod.snd x25)) : PyData)))).tkP).ev fun x26 => (rf_eq rfl (.cons .aa (.cons .aa .nil)))))) fun x16 => (bl_next (bl_if (k := fun x29 => x29) ((ts_tst (pu2A Nv.op_eq (((pu_var 0 rfl)).rd).ra ((pu_c).rd).ra))).te' (fun x29 => (bl_retS (bl_retV (((pu_call (ap_cons ((pu2 Nv.op_ix2 ((pu_var 1 rfl)).rd (pu_c).rd)).tkP (ap_cons ((pu2 Nv.op_ix2 ((pu_var 1 rfl)).rd (pu_c).rd)).tkP (ap_cons ((pu2 Nv.op_ix2 ((pu_var 1 rfl)).rd (pu_c).rd)).tkP (ap_cons ((pu2 Nv.op_ix2 ((pu_var 1 rfl)).rd (pu_c).rd)).tkP ap_nil)))) (fun x46 => V_is_above_a ((Prod.fst x46) : PyData) ((Prod.fst (Prod.snd x46)) : PyData) ((Prod.fst (Prod.snd (Prod.snd x46))) : PyData) ((Prod.fst (Prod.snd (Prod.snd (Prod.snd x46)))) : PyData)))).tkP).ev fun x47 => (rf_eq rfl (.cons .aa (.cons .aa .nil)))))) fun x29 => (bl_next (bl_if (k := fun x50 => x50) ((ts_tst (pu2A Nv.op_eq (((pu_var 0 rfl)).rd).ra ((pu_c).rd).ra))).te' (fun x50 => (bl_retS (bl_retV ((((pu_call (ap_cons ((pu2 Nv.op_ix2 ((pu_var 1 rfl)).rd (pu_c).rd)).tkP (ap_cons ((pu2 Nv.op_ix2 ((pu_var 1 rfl)).rd (pu_c).rd)).tkP (ap_cons ((pu2 Nv.op_ix2 ((pu_var 1 rfl)).rd (pu_c).rd)).tkP ap_nil))) (fun x63 => V_turned_pairs_a ((Prod.fst x63) : PyData) ((Prod.fst (Prod.snd x63)) : PyData) ((Prod.fst (Prod.snd (Prod.snd x63))) : PyData)))).tkTP ow_tree)).ev fun x64 => (rf_eq rfl (.cons .aa (.cons .aa .nil)))))) fun x50 => (bl_next (bl_retV ((((pu_call (ap_cons ((pu2 Nv.op_ix2 ((pu_var 1 rfl)).rd (pu_c).rd)).tkP (ap_cons ((pu2 Nv.op_ix2 ((pu_var 1 rfl)).rd (pu_c).rd)).tkP ap_nil)) (fun x73 => V_renamed_a ((Prod.fst x73) : PyData) ((Prod.fst (Prod.snd x73)) : PyData)))).tkTP oww_tree)).ev fun x74 => (rf_eq rfl (.cons .aa (.cons .aa .nil))))))))))))))
def x__law_call (a0 : Int) (a1 : (List PyData)) : Option Str :=
    (Option.bind (Option.bind (some a0) fun x75 => Option.bind (some (0 : Int)) fun x76 => eqN x75 x76) fun x77 => if x77 = true then (Option.bind (Option.bind (Option.bind (some a1) fun x78 => Option.bind (some (0 : Int)) fun x79 => atL x78 x79) fun x80 => Option.bind (Option.bind (Option.bind (some a1) fun x81 => Option.bind (some (1 : Int)) fun x82 => atL x81 x82) fun x83 => Option.bind (some ()) fun x84 => some (x83, x84)) fun x85 => some (x80, x85)) fun x86 => x_is_ballot ((Prod.fst x86) : PyData) ((Prod.fst (Prod.snd x86)) : PyData)) else (Option.bind (Option.bind (some a0) fun x87 => Option.bind (some (1 : Int)) fun x88 => eqN x87 x88) fun x89 => if x89 = true then (Option.bind (Option.bind (Option.bind (some a1) fun x90 => Option.bind (some (0 : Int)) fun x91 => atL x90 x91) fun x92 => Option.bind (Option.bind (Option.bind (some a1) fun x93 => Option.bind (some (1 : Int)) fun x94 => atL x93 x94) fun x95 => Option.bind (some ()) fun x96 => some (x95, x96)) fun x97 => some (x92, x97)) fun x98 => x_are_ballots ((Prod.fst x98) : PyData) ((Prod.fst (Prod.snd x98)) : PyData)) else (Option.bind (Option.bind (some a0) fun x99 => Option.bind (some (2 : Int)) fun x100 => eqN x99 x100) fun x101 => if x101 = true then (Option.bind (Option.bind (Option.bind (some a1) fun x102 => Option.bind (some (0 : Int)) fun x103 => atL x102 x103) fun x104 => Option.bind (Option.bind (Option.bind (some a1) fun x105 => Option.bind (some (1 : Int)) fun x106 => atL x105 x106) fun x107 => Option.bind (Option.bind (Option.bind (some a1) fun x108 => Option.bind (some (2 : Int)) fun x109 => atL x108 x109) fun x110 => Option.bind (Option.bind (Option.bind (some a1) fun x111 => Option.bind (some (3 : Int)) fun x112 => atL x111 x112) fun x113 => Option.bind (some ()) fun x114 => some (x113, x114)) fun x115 => some (x110, x115)) fun x116 => some (x107, x116)) fun x117 => some (x104, x117)) fun x118 => x_is_above_a ((Prod.fst x118) : PyData) ((Prod.fst (Prod.snd x118)) : PyData) ((Prod.fst (Prod.snd (Prod.snd x118))) : PyData) ((Prod.fst (Prod.snd (Prod.snd (Prod.snd x118)))) : PyData)) else (Option.bind (Option.bind (some a0) fun x119 => Option.bind (some (3 : Int)) fun x120 => eqN x119 x120) fun x121 => if x121 = true then (Option.bind (Option.bind (Option.bind (some a1) fun x122 => Option.bind (some (0 : Int)) fun x123 => atL x122 x123) fun x124 => Option.bind (Option.bind (Option.bind (some a1) fun x125 => Option.bind (some (1 : Int)) fun x126 => atL x125 x126) fun x127 => Option.bind (Option.bind (Option.bind (some a1) fun x128 => Option.bind (some (2 : Int)) fun x129 => atL x128 x129) fun x130 => Option.bind (some ()) fun x131 => some (x130, x131)) fun x132 => some (x127, x132)) fun x133 => some (x124, x133)) fun x134 => x_turned_pairs_a ((Prod.fst x134) : PyData) ((Prod.fst (Prod.snd x134)) : PyData) ((Prod.fst (Prod.snd (Prod.snd x134))) : PyData)) else (Option.bind (Option.bind (Option.bind (some a1) fun x135 => Option.bind (some (0 : Int)) fun x136 => atL x135 x136) fun x137 => Option.bind (Option.bind (Option.bind (some a1) fun x138 => Option.bind (some (1 : Int)) fun x139 => atL x138 x139) fun x140 => Option.bind (some ()) fun x141 => some (x140, x141)) fun x142 => some (x137, x142)) fun x143 => x_renamed_a ((Prod.fst x143) : PyData) ((Prod.fst (Prod.snd x143)) : PyData))))))
theorem X__law_call (a0 : Int) (a1 : (List PyData)) : FunX F__law_call (x__law_call a0 a1) [.fz (enc a0), .fz (enc a1)] :=
  funx_eq (Γx := [.aa, .aa]) (show Bl B__law_call _ _ _ from (bl_ga [.eq (.fz (enc (a0 : Int))), .eq (.fz (enc (a1 : (List PyData))))] (by kernel_rfl) (bl_if (k := fun x77 => x77) ((ts_tst (pu2A Nv.op_eq (((pu_var 0 rfl)).rd).ra ((pu_c).rd).ra))).te' (fun x77 => (bl_retXS (Xe.tk (xe_call (ap_cons ((pu2 Nv.op_ix2 ((pu_var 1 rfl)).rd (pu_c).rd)).tkP (ap_cons ((pu2 Nv.op_ix2 ((pu_var 1 rfl)).rd (pu_c).rd)).tkP ap_nil)) (fun x86 => X_is_ballot ((Prod.fst x86) : PyData) ((Prod.fst (Prod.snd x86)) : PyData)) (.cons .aa (.cons .aa .nil)))))) fun x77 => (bl_next (bl_if (k := fun x89 => x89) ((ts_tst (pu2A Nv.op_eq (((pu_var 0 rfl)).rd).ra ((pu_c).rd).ra))).te' (fun x89 => (bl_retXS (Xe.tk (xe_call (ap_cons ((pu2 Nv.op_ix2 ((pu_var 1 rfl)).rd (pu_c).rd)).tkP (ap_cons ((pu2 Nv.op_ix2 ((pu_var 1 rfl)).rd (pu_c).rd)).tkP ap_nil)) (fun x98 => X_are_ballots ((Prod.fst x98) : PyData) ((Prod.fst (Prod.snd x98)) : PyData)) (.cons .aa (.cons .aa .nil)))))) fun x89 => (bl_next (bl_if (k := fun x101 => x101) ((ts_tst (pu2A Nv.op_eq (((pu_var 0 rfl)).rd).ra ((pu_c).rd).ra))).te' (fun x101 => (bl_retXS (Xe.tk (xe_call (ap_cons ((pu2 Nv.op_ix2 ((pu_var 1 rfl)).rd (pu_c).rd)).tkP (ap_cons ((pu2 Nv.op_ix2 ((pu_var 1 rfl)).rd (pu_c).rd)).tkP (ap_cons ((pu2 Nv.op_ix2 ((pu_var 1 rfl)).rd (pu_c).rd)).tkP (ap_cons ((pu2 Nv.op_ix2 ((pu_var 1 rfl)).rd (pu_c).rd)).tkP ap_nil)))) (fun x118 => X_is_above_a ((Prod.fst x118) : PyData) ((Prod.fst (Prod.snd x118)) : PyData) ((Prod.fst (Prod.snd (Prod.snd x118))) : PyData) ((Prod.fst (Prod.snd (Prod.snd (Prod.snd x118)))) : PyData)) (.cons .aa (.cons .aa .nil)))))) fun x101 => (bl_next (bl_if (k := fun x121 => x121) ((ts_tst (pu2A Nv.op_eq (((pu_var 0 rfl)).rd).ra ((pu_c).rd).ra))).te' (fun x121 => (bl_retXS (Xe.tk (xe_call (ap_cons ((pu2 Nv.op_ix2 ((pu_var 1 rfl)).rd (pu_c).rd)).tkP (ap_cons ((pu2 Nv.op_ix2 ((pu_var 1 rfl)).rd (pu_c).rd)).tkP (ap_cons ((pu2 Nv.op_ix2 ((pu_var 1 rfl)).rd (pu_c).rd)).tkP ap_nil))) (fun x134 => X_turned_pairs_a ((Prod.fst x134) : PyData) ((Prod.fst (Prod.snd x134)) : PyData) ((Prod.fst (Prod.snd (Prod.snd x134))) : PyData)) (.cons .aa (.cons .aa .nil)))))) fun x121 => (bl_next (bl_retX (Xe.tk (xe_call (ap_cons ((pu2 Nv.op_ix2 ((pu_var 1 rfl)).rd (pu_c).rd)).tkP (ap_cons ((pu2 Nv.op_ix2 ((pu_var 1 rfl)).rd (pu_c).rd)).tkP ap_nil)) (fun x143 => X_renamed_a ((Prod.fst x143) : PyData) ((Prod.fst (Prod.snd x143)) : PyData)) (.cons .aa (.cons .aa .nil)))))))))))))))
end P
namespace Nv
open PySem Hb L2
open Enc (enc)
end Nv
namespace Nv
open PySem Hb L2
open Enc (enc)
end Nv
namespace Nv
open PySem Hb L2
open Enc (enc)
end Nv
namespace Nv
open PySem Hb L2
open Enc (enc)
end Nv
namespace Nv
open PySem Hb L2
open Enc (enc)
end Nv
namespace Nv
open PySem Hb L2
open Enc (enc)
end Nv
namespace Nv
open PySem Hb L2
open Enc (enc)
end Nv
namespace Nv
open PySem Hb L2
open Enc (enc)
end Nv
namespace Nv
open PySem Hb L2
open Enc (enc)
end Nv
namespace Nv
open PySem Hb L2
open Enc (enc)
end Nv
namespace Nv
open PySem Hb L2
open Enc (enc)
end Nv
namespace Nv
open PySem Hb L2
open Enc (enc)
end Nv
namespace Nv
open PySem Hb L2
open Enc (enc)
end Nv
namespace Nv
open PySem Hb L2
open Enc (enc)
end Nv
namespace Nv
open PySem Hb L2
open Enc (enc)
end Nv
namespace Nv
open PySem Hb L2
open Enc (enc)
end Nv
namespace Nv
open PySem Hb L2
open Enc (enc)
theorem pu_told {β : Type} {Γ Γ0 Γx : Ga} {tw : Exn → Option (List Str)} {f : List Sl → Rs AV} {pn : Option β} {a : β → AV} {Γ' : β → Ga} {px : Option Str} (hz : FrzG Γ Γ0) (h : Ev f Γ0 pn a Γ') (hx : Xe f Γ0 px Γx) :
    Pu (sTold tw (sBrwD f)) Γ (Option.or (pn.bind fun _ => some []) (px.bind fun C => tw ⟨C, none⟩)) fun ws => .tmp (ow (ws : List Str)) := fun ws e δ s => by
  cases q : pn with
  | some v =>
    rw [q] at e
    have e : some [] = some ws := e
    cases e
    obtain ⟨δ', h1, _⟩ := h v q _ (hz.sat s δ)
    unfold sTold sBrwD
    rw [h1]
    rfl
  | none =>
    rw [q] at e
    have e : px.bind (fun C => tw ⟨C, none⟩) = some ws := e
    obtain ⟨C, e1, e2⟩ := bind_of e
    obtain ⟨δ', h1, _⟩ := hx C e1 _ (hz.sat s δ)
    unfold sTold sBrwD
    rw [h1]
    show (match tw ⟨C, none⟩ with
      | some ws => Rs.ok (AV.tmp (.ol ((ws.map PyData.str).map .fz))) δ
      | none => .bad) = Rs.ok (AV.tmp (ow ws)) δ
    rw [e2]
    rfl
end Nv
namespace Nv
open PySem Hb L2
open Enc (enc)
def rgDn (lo : Int) (n : Nat) : List Int := (List.range n).map fun i => lo + (i : Nat) * (-1)
def riD (i j : Int) : Option (List Int) := if -(2 ^ 62) ≤ i ∧ i < 2 ^ 62 ∧ -(2 ^ 62) ≤ j ∧ j < 2 ^ 62 then some (rgDn i (i - j).toNat) else none
theorem rangeDn_enc (lo : Int) (n : Nat) : rangeDn lo n = (rgDn lo n).map enc := by
  unfold rangeDn rgDn
  rw [List.map_map]
  rfl
theorem ip_rngD {Γ : Ga} {f g h : List Sl → Rs AV} {p q : Option Int} (h1 : Pu (sTk f) Γ p fun v => .val (enc v)) (h2 : Pu (sTk g) Γ q fun v => .val (enc v)) (h3 : Pu (sTk h) Γ (some (-1 : Int)) fun v => .val (enc v)) : ItP (wRngD f g h) Γ (p.bind fun m => q.bind fun n => riD m n) fun v => v.map enc := fun v e δ s => by
  obtain ⟨m, e1, e⟩ := bind_of e
  obtain ⟨n, e2, e⟩ := bind_of e
  unfold riD at e
  split at e
  · rename_i c
    cases some_of e
    unfold wRngD
    rw [val_of (h1 m e1 δ s), val_of (h2 n e2 δ s), val_of (h3 (-1) rfl δ s)]
    exact (if_pos ⟨rfl, c⟩).trans (congrArg (Rs.ok · δ) (rangeDn_enc _ _))
  · cases e
theorem pu_anyT {α : Type} [Enc α] {Γ : Ga} {f : List Sl → Rs AV} {p : Option (List α)} (h : Pu f Γ p fun v => .tmp (ow v)) : Pu f Γ (p.bind fun v => some (v.map enc)) fun v => .tmp (ow (v : List PyData)) := fun v e δ s => by
  obtain ⟨w, e1, e2⟩ := bind_of e
  cases some_of e2
  refine (h w e1 δ s).trans ?_
  exact congrArg (fun z => Rs.ok (AV.tmp z) δ) (ow_anyL w).symm
def neLS (x y : List Str) : Option Bool := (eqD (enc x) (enc y)).map (! ·)
theorem op_neLS : Op2A gNe neLS fun r => .val (enc r) := fun v w r δ x y h1 h2 e => by
  have e : (eqD (enc v) (enc w)).map (! ·) = some r := e
  cases q : eqD (enc v) (enc w) with
  | none => rw [q] at e; cases e
  | some k =>
    rw [q] at e
    cases e
    simp only [gNe, h1, h2, q]
    rfl
end Nv
namespace P
open PySem PySem.Spec PyProof.Rows L2 Hb Nv
open Enc (enc)
def B__law_raised : List Sl → Ot :=
    oSeq (oAsg (sTk (s1 (gRd reprD) (sVar 1))) (tgN 2))
    (oSeq (oAsg (sTold twE (sBrwD (sCall F__law_call [] (rCons (sTk (sVar 0)) (rCons (sTk (sVar 1)) (rNil)))))) (tgN 3))
    (oIf (sTst (s2 (gEqS false) (s1 (gRd reprD) (sVar 1)) (sVar 2))) (oRet (sVar 3)) (oRet (sLst (lCons (sC (.str "changed")) (lNil))))))
def F__law_raised : List Sl → FR := fnRun 2 4 [1, 1000000] B__law_raised
def n__law_raised (a0 : Int) (a1 : (List PyData)) : Option ((List Str) × (List PyData)) :=
    (Option.bind (Option.bind (Option.bind (some a1) fun x1 => some (enc (x1 : (List PyData)))) fun x2 => reprN x2) fun x3 => (Option.bind (Option.or (Option.bind (Option.bind (Option.bind (some a0) fun x4 => Option.bind (Option.bind (some a1) fun x5 => Option.bind (some ()) fun x6 => some (x5, x6)) fun x7 => some (x4, x7)) fun x8 => n__law_call ((Prod.fst x8) : Int) ((Prod.fst (Prod.snd x8)) : (List PyData))) fun x10 => some ([] : List Str)) (Option.bind (Option.bind (Option.bind (some a0) fun x4 => Option.bind (Option.bind (some a1) fun x5 => Option.bind (some ()) fun x6 => some (x5, x6)) fun x7 => some (x4, x7)) fun x8 => x__law_call ((Prod.fst x8) : Int) ((Prod.fst (Prod.snd x8)) : (List PyData))) fun C9 => twE ⟨C9, none⟩)) fun x11 => (Option.bind (Option.bind (Option.bind (Option.bind (some a1) fun x12 => some (enc (x12 : (List PyData)))) fun x13 => reprN x13) fun x14 => Option.bind (some x3) fun x15 => eqS x14 x15) fun x16 => if x16 = true then some (x11, a1) else (Option.bind (Option.bind (Option.bind (some ("changed" : Str)) fun x17 => Option.bind (some ()) fun x19 => some (x17, x19)) fun x18 => some ([(Prod.fst x18)] : (List Str))) fun x20 => some (x20, a1)))))
theorem V__law_raised (a0 : Int) (a1 : (List PyData)) : Fun F__law_raised (n__law_raised a0 a1) [.fz (enc a0), ow a1] (fun r : ((List Str) × (List PyData)) => ow ((Prod.fst r) : (List Str))) fun r => [.no, ow (Prod.snd r)] :=
  fun_of (ΓR := fun r => [.aa, .eq (ow ((Prod.snd r) : (List PyData))), .aa, .aa]) (show Bl B__law_raised _ _ _ from (bl_ga [.eq (.fz (enc (a0 : Int))), .eq (ow (a1 : (List PyData))), .eq .no, .eq .no] (by kernel_rfl) (bl_asgV (((pu1A Nv.op_repr ((Rd.any (rd_own 1 rfl))).ra)).tkP).ev fun x3 => (bl_ga [.eq (.fz (enc (a0 : Int))), .eq (ow (a1 : (List PyData))), .eq (.fz (enc (x3 : Str))), .eq .no] (by kernel_rfl) (bl_asgT ((pu_told (tw := twE) (Γ0 := [.eq (.fz (enc (a0 : Int))), .eq (.fz (enc (a1 : (List PyData)))), .eq (.fz (enc (x3 : Str))), .eq .no]) (.cons .fz (.cons .ow (.cons .fz (.cons .no .nil)))) ((pu_call (ap_cons ((pu_var 0 rfl)).tkP (ap_cons ((pu_var 1 rfl)).tkP ap_nil)) (fun x8 => V__law_call ((Prod.fst x8) : Int) ((Prod.fst (Prod.snd x8)) : (List PyData))))).ev (xe_call (ap_cons ((pu_var 0 rfl)).tkP (ap_cons ((pu_var 1 rfl)).tkP ap_nil)) (fun x8 => X__law_call ((Prod.fst x8) : Int) ((Prod.fst (Prod.snd x8)) : (List PyData))) (.cons .aa (.cons .aa (.cons .aa (.cons .aa .nil))))))).ev fun x11 => (bl_ga [.eq (.fz (enc (a0 : Int))), .eq (ow (a1 : (List PyData))), .eq (.fz (enc (x3 : Str))), .eq (ow (x11 : (List Str)))] (by kernel_rfl) (bl_last (bl_if (k := fun x16 => x16) ((ts_tst (pu2 Nv.op_eqS ((pu1A Nv.op_repr ((Rd.any (rd_own 1 rfl))).ra)).rd ((pu_var 2 rfl)).rd))).te' (fun x16 => (bl_retS (bl_retO (k := 3) rfl rfl (sat_ga [.eq (.fz (enc (a0 : Int))), .eq (ow (a1 : (List PyData))), .eq (.fz (enc (x3 : Str))), .eq .no] (by kernel_rfl) (rf_eq rfl (.cons .aa (.cons .rfl (.cons .aa (.cons .aa .nil))))))))) fun x16 => (bl_retS (bl_retT ((pu_lst (dp_cons (pu_c).tkP dp_nil) (fun x18 => ([(Prod.fst x18)] : (List Str))))).ev fun x20 => (rf_eq rfl (.cons .aa (.cons .rfl (.cons .aa (.cons .aa .nil)))))))))))))))
end P
namespace P
open PySem PySem.Spec PyProof.Rows L2 Hb Nv
open Enc (enc)
def B__law_faults : List Sl → Ot :=
    oSeq (oAsg (s1 (gList) (sVar 1)) (tgN 3))
    (oSeq (oFor (wRngD (s2 gSub (s1 (gRd lenD) (sVar 2)) (sC (.int 1))) (s1 gNeg (sC (.int 1))) (s1 gNeg (sC (.int 1)))) (tgN 4) (oFor (wSeq (s2 gIx2 (s2 gIx2 (sVar 2) (sVar 4)) (sC (.int 0)))) (tgN 5) (oSeq (oIf (sTst (s2 gNe (sCall F__law_raised [] (rCons (sTk (sVar 0)) (rCons (s2 gAdd (s2 gAdd (sSl (sVar 1) none (some (sVar 4))) (sLst (lCons (sVar 5) (lNil)))) (sSl (sVar 1) (some (s2 gAdd (sVar 4) (sC (.int 1)))) none)) (rNil)))) (sLst (lCons (s2 gIx2 (s2 gIx2 (sVar 2) (sVar 4)) (sC (.int 1))) (lNil))))) (oRet (sC (.bool false))) (oNext))
    (oSeq (oAsg (sVar 5) (tgS (sVar 3) (sVar 4)))
    (oIf (sTst (s2 gNe (sCall F__law_raised [] (rCons (sTk (sVar 0)) (rIo 3 (rNil)))) (sLst (lCons (s2 gIx2 (s2 gIx2 (sVar 2) (sVar 4)) (sC (.int 1))) (lNil))))) (oRet (sC (.bool false))) (oNext))))))
    (oRet (s2 (gEqE false) (sCall F__law_raised [] (rCons (sTk (sVar 0)) (rIo 1 (rNil)))) (sLst (lNil)))))
def F__law_faults : List Sl → FR := fnRun 3 6 [1, 1000000] B__law_faults
def n__law_faults (a0 : Int) (a1 : (List PyData)) (a2 : (List ((List PyData) × Str))) : Option (Bool × (List PyData)) :=
    (Option.bind (Option.bind (some a1) fun x1 => listL x1) fun x2 => (Option.bind (Option.bind (Option.bind (Option.bind (some a2) fun x3 => lenL x3) fun x4 => Option.bind (some (1 : Int)) fun x5 => subI x4 x5) fun x8 => Option.bind (Option.bind (some (1 : Int)) fun x6 => negI x6) fun x9 => riD x8 x9) fun x10 => Option.bind (forF (ρ := (Bool × (List PyData))) x10 (x2 : (List PyData)) fun s12 x11 => (Option.bind (Option.bind (Option.bind (some a2) fun x13 => Option.bind (some x11) fun x14 => atL x13 x14) fun x15 => some (Prod.fst x15)) fun x16 => Option.bind (forF (ρ := (Bool × (List PyData))) x16 (s12 : (List PyData)) fun s18 x17 => (Option.bind (Option.bind (Option.bind (Option.bind (Option.bind (some a0) fun x19 => Option.bind (Option.bind (Option.bind (Option.bind (Option.bind (some a1) fun x21 => Option.bind (some none) fun x22 => Option.bind (Option.bind (some x11) fun x20 => some (some x20)) fun x23 => some (cutL x21 x22 x23)) fun x27 => Option.bind (Option.bind (Option.bind (some x17) fun x24 => Option.bind (some ()) fun x26 => some (x24, x26)) fun x25 => some ([(Prod.fst x25)] : (List PyData))) fun x28 => catL x27 x28) fun x35 => Option.bind (Option.bind (some a1) fun x32 => Option.bind (Option.bind (Option.bind (some x11) fun x29 => Option.bind (some (1 : Int)) fun x30 => addI x29 x30) fun x31 => some (some x31)) fun x33 => Option.bind (some none) fun x34 => some (cutL x32 x33 x34)) fun x36 => catL x35 x36) fun x37 => Option.bind (some ()) fun x38 => some (x37, x38)) fun x39 => some (x19, x39)) fun x40 => n__law_raised ((Prod.fst x40) : Int) ((Prod.fst (Prod.snd x40)) : (List PyData))) fun x41 => some (Prod.fst x41)) fun x48 => Option.bind (Option.bind (Option.bind (Option.bind (Option.bind (some a2) fun x42 => Option.bind (some x11) fun x43 => atL x42 x43) fun x44 => some (Prod.snd x44)) fun x45 => Option.bind (some ()) fun x47 => some (x45, x47)) fun x46 => some ([(Prod.fst x46)] : (List Str))) fun x49 => neLS x48 x49) fun x50 => if x50 = true then (Option.bind (some false) fun x51 => some (.rt (x51, a1))) else (Option.bind (some x17) fun x52 => Option.bind (some x11) fun x53 => Option.bind (stI s18 x53 x52) fun x54 => (Option.bind (Option.bind (Option.bind (Option.bind (some a0) fun x55 => Option.bind (some ()) fun x56 => some (x55, x56)) fun x57 => Option.bind (n__law_raised ((Prod.fst x57) : Int) (x54 : (List PyData))) fun x58 => some (x58, x57)) fun x59 => Option.bind (Option.bind (Option.bind (Option.bind (Option.bind (some a2) fun x62 => Option.bind (some x11) fun x63 => atL x62 x63) fun x64 => some (Prod.snd x64)) fun x65 => Option.bind (some ()) fun x67 => some (x65, x67)) fun x66 => some ([(Prod.fst x66)] : (List Str))) fun x60 => Option.bind (neLS (Prod.fst (Prod.fst x59)) x60) fun x61 => some (x61, x59, x60)) fun x69 => if (Prod.fst x69) = true then (Option.bind (some false) fun x70 => some (.rt (x70, a1))) else some (.nx ((Prod.snd (Prod.fst (Prod.fst (Prod.snd x69)))) : (List PyData))))))) fun o72 => Fl.el o72 (fun s18 => some (.nx (s18 : (List PyData)))) fun r71 => some (Fl.rt r71))) fun o80 => Fl.el o80 (fun s12 => (Option.bind (Option.bind (Option.bind (Option.bind (some a0) fun x73 => Option.bind (some ()) fun x74 => some (x73, x74)) fun x75 => Option.bind (n__law_raised ((Prod.fst x75) : Int) (a1 : (List PyData))) fun x76 => some (x76, x75)) fun x77 => some (false != List.isEmpty ((Prod.fst (Prod.fst x77))), x77)) fun x78 => some ((Prod.fst x78), (Prod.snd (Prod.fst (Prod.snd x78)))))) fun r79 => some r79))
theorem V__law_faults (a0 : Int) (a1 : (List PyData)) (a2 : (List ((List PyData) × Str))) : Fun F__law_faults (n__law_faults a0 a1 a2) [.fz (enc a0), ow a1, .fz (enc a2)] (fun r : (Bool × (List PyData)) => .fz (enc ((Prod.fst r) : Bool))) fun r => [.no, ow (Prod.snd r), .no] :=
  fun_of (ΓR := fun r => [.aa, .eq (ow ((Prod.snd r) : (List PyData))), .aa, .aa, .aa, .aa]) (show Bl B__law_faults _ _ _ from (bl_ga [.eq (.fz (enc (a0 : Int))), .eq (ow (a1 : (List PyData))), .eq (.fz (enc (a2 : (List ((List PyData) × Str))))), .eq .no, .eq .no, .eq .no] (by kernel_rfl) (bl_asgT ((pu1 Nv.op_list (rd_own 1 rfl))).ev fun x2 => (bl_ga [.eq (.fz (enc (a0 : Int))), .eq (ow (a1 : (List PyData))), .eq (.fz (enc (a2 : (List ((List PyData) × Str))))), .eq (ow (x2 : (List PyData))), .eq .no, .eq .no] (by kernel_rfl) (bl_forF (Q := (RF (ρ := (Bool × (List PyData))) (fun r => .eq (.fz (enc ((Prod.fst r) : Bool)))) fun r => [.aa, .eq (ow ((Prod.snd r) : (List PyData))), .aa, .aa, .aa, .aa])) (vs := [4]) (xs := fun x10 => x10) (s0 := fun x10 => (x2 : (List PyData))) (ΓL := fun x10 (s12 : (List PyData)) => [.eq (.fz (enc (a0 : Int))), .eq (ow (a1 : (List PyData))), .eq (.fz (enc (a2 : (List ((List PyData) × Str))))), .eq (ow (s12 : (List PyData))), .pl, .pl]) (kr := fun r79 => some r79) ((ip_rngD ((pu2 Nv.op_sub ((pu1A Nv.op_len (((pu_var 2 rfl)).rd).ra)).rd (pu_c).rd)).tkP ((pu1 Nv.op_neg (pu_c).rd)).tkP ((pu1 Nv.op_neg (pu_c).rd)).tkP)).it (fun x10 => (.cons .rfl (.cons .rfl (.cons .rfl (.cons .rfl (.cons .no (.cons .no .nil))))))) (fun x10 s12 x11 => tg_n) (fun x10 s12 x11 => (bl_ga [.eq (.fz (enc (a0 : Int))), .eq (ow (a1 : (List PyData))), .eq (.fz (enc (a2 : (List ((List PyData) × Str))))), .eq (ow (s12 : (List PyData))), .eq (.fz (enc (x11 : Int))), .pl] (by kernel_rfl) (bl_last (bl_forF (Q := (RF (ρ := (Bool × (List PyData))) (fun r => .eq (.fz (enc ((Prod.fst r) : Bool)))) fun r => [.aa, .eq (ow ((Prod.snd r) : (List PyData))), .aa, .aa, .aa, .aa])) (vs := [5]) (xs := fun x16 => x16) (s0 := fun x16 => (s12 : (List PyData))) (ΓL := fun x16 (s18 : (List PyData)) => [.eq (.fz (enc (a0 : Int))), .eq (ow (a1 : (List PyData))), .eq (.fz (enc (a2 : (List ((List PyData) × Str))))), .eq (ow (s18 : (List PyData))), .eq (.fz (enc (x11 : Int))), .pl]) (kr := fun r71 => some (Fl.rt r71)) ((ip_seq (xs := fun v => v) ((pu_tix2 (π := Prod.fst) ((pu2 Nv.op_ix2 ((pu_var 2 rfl)).rd ((pu_var 4 rfl)).rd)).rd (fun _ => rfl) fun _ => rfl)).tkP)).it (fun x16 => (.cons .rfl (.cons .rfl (.cons .rfl (.cons .rfl (.cons .rfl (.cons .rfl .nil))))))) (fun x16 s18 x17 => tg_n) (fun x16 s18 x17 => (bl_ga [.eq (.fz (enc (a0 : Int))), .eq (ow (a1 : (List PyData))), .eq (.fz (enc (a2 : (List ((List PyData) × Str))))), .eq (ow (s18 : (List PyData))), .eq (.fz (enc (x11 : Int))), .eq (.fz (enc (x17 : PyData)))] (by kernel_rfl) (bl_if (k := fun x50 => x50) ((ts_tst (pu2A Nv.op_neLS ((((Pu.mapT (fun x41 => (Prod.fst x41)) (pu_call (ap_cons ((pu_var 0 rfl)).tkP (ap_cons (pu2 Nv.op_cat (((pu2 Nv.op_cat (((pu_sl (rd_own 1 rfl) .no (.yes ((pu_var 4 rfl)).rd))).rdT ow_tree) (((pu_lst (dp_cons ((pu_var 5 rfl)).tkP dp_nil) (fun x25 => ([(Prod.fst x25)] : (List PyData))))).rdT ow_tree))).rdT ow_tree) (((pu_sl (rd_own 1 rfl) (.yes ((pu2 Nv.op_add ((pu_var 4 rfl)).rd (pu_c).rd)).rd) .no)).rdT ow_tree)) ap_nil)) (fun x40 => V__law_raised ((Prod.fst x40) : Int) ((Prod.fst (Prod.snd x40)) : (List PyData)))))).rdT ow_tree)).ra ((((pu_lst (dp_cons ((pu_tix2 (π := Prod.snd) ((pu2 Nv.op_ix2 ((pu_var 2 rfl)).rd ((pu_var 4 rfl)).rd)).rd (fun _ => rfl) fun _ => rfl)).tkP dp_nil) (fun x46 => ([(Prod.fst x46)] : (List Str))))).rdT ow_tree)).ra))).te' (fun x50 => (bl_retS (bl_retV (pu_c).ev fun x51 => (rl_rt (rf_eq rfl (.cons .aa (.cons .rfl (.cons .aa (.cons .aa (.cons .aa (.cons .aa .nil))))))))))) fun x50 => (bl_next (bl_set (k := 3) (va := fun x52 => x52) (xs := fun x52 => s18) ((pu_var 5 rfl)).ev (fun _ => rfl) (fun x52 => ((pu_var 4 rfl)).rd) fun x52 x54 => (bl_ga [.eq (.fz (enc (a0 : Int))), .eq (ow (a1 : (List PyData))), .eq (.fz (enc (a2 : (List ((List PyData) × Str))))), .eq (ow (x54 : (List PyData))), .eq (.fz (enc (x11 : Int))), .eq (.fz (enc (x17 : PyData)))] (by kernel_rfl) (bl_last (bl_if (k := fun x69 => (Prod.fst x69)) (te_tst (k := fun x68 => (Prod.fst x68)) (ev2g (Op2A.to Nv.op_neLS) (va := fun x59 => (Prod.fst (Prod.fst x59))) (vb := fun x59 x60 => x60) (((ev_callG (ag_cons (((pu_var 0 rfl)).tkP).ev fun x55 => (ag_io (k := 3) rfl rfl ag_nil)) (fun x57 => V__law_raised ((Prod.fst x57) : Int) (x54 : (List PyData))))).erT fun _ => ow_tree _) fun x59 => (es_ga [.eq (.fz (enc (a0 : Int))), .eq (ow (a1 : (List PyData))), .eq (.fz (enc (a2 : (List ((List PyData) × Str))))), .eq (ow ((Prod.snd (Prod.fst x59)) : (List PyData))), .eq (.fz (enc (x11 : Int))), .eq (.fz (enc (x17 : PyData)))] (by kernel_rfl) ((((pu_lst (dp_cons ((pu_tix2 (π := Prod.snd) ((pu2 Nv.op_ix2 ((pu_var 2 rfl)).rd ((pu_var 4 rfl)).rd)).rd (fun _ => rfl) fun _ => rfl)).tkP dp_nil) (fun x66 => ([(Prod.fst x66)] : (List Str))))).rdT ow_tree)).es))) (fun x69 => (bl_ga [.eq (.fz (enc (a0 : Int))), .eq (ow (a1 : (List PyData))), .eq (.fz (enc (a2 : (List ((List PyData) × Str))))), .eq (ow ((Prod.snd (Prod.fst (Prod.fst (Prod.snd x69)))) : (List PyData))), .eq (.fz (enc (x11 : Int))), .eq (.fz (enc (x17 : PyData)))] (by kernel_rfl) (bl_retS (bl_retV (pu_c).ev fun x70 => (rl_rt (rf_eq rfl (.cons .aa (.cons .rfl (.cons .aa (.cons .aa (.cons .aa (.cons .aa .nil)))))))))))) fun x69 => (bl_ga [.eq (.fz (enc (a0 : Int))), .eq (ow (a1 : (List PyData))), .eq (.fz (enc (a2 : (List ((List PyData) × Str))))), .eq (ow ((Prod.snd (Prod.fst (Prod.fst (Prod.snd x69)))) : (List PyData))), .eq (.fz (enc (x11 : Int))), .eq (.fz (enc (x17 : PyData)))] (by kernel_rfl) (bl_next (bl_end (rl_nx (.cons .rfl (.cons .rfl (.cons .rfl (.cons .rfl (.cons .rfl (.cons .fz .nil)))))))))))))))))) (fun v z u d hz h => by cases (Option.some.inj hz); exact ⟨h, u, d, rfl⟩) fun x16 s18 => (bl_end (rl_nx (.cons .rfl (.cons .rfl (.cons .rfl (.cons .rfl (.cons .fz (.cons .rfl .nil)))))))))))) (fun v z u d hz h => by cases (Option.some.inj hz); exact h) fun x10 s12 => (bl_retV (ev_eqE (va := fun x77 => (Prod.fst (Prod.fst x77))) ((((ev_callG (ag_cons (((pu_var 0 rfl)).tkP).ev fun x73 => (ag_io (k := 1) rfl rfl ag_nil)) (fun x75 => V__law_raised ((Prod.fst x75) : Int) (a1 : (List PyData))))).erT fun _ => ow_tree _)).es) fun x78 => (sat_ga [.eq (.fz (enc (a0 : Int))), .eq (ow ((Prod.snd (Prod.fst (Prod.snd x78))) : (List PyData))), .eq (.fz (enc (a2 : (List ((List PyData) × Str))))), .eq (ow (s12 : (List PyData))), .pl, .pl] (by kernel_rfl) (rf_eq rfl (.cons .aa (.cons .rfl (.cons .aa (.cons .aa (.cons .aa (.cons .aa .nil))))))))))))))
end P
namespace P
open PySem PySem.Spec PyProof.Rows L2 Hb Nv
open Enc (enc)
def B__law_draw : List Sl → Ot :=
    oSeq (oIf (sTst (s2 gGe (s2 gIx2 (sVar 0) (sC (.int 0))) (s2 gPowW (sC (.int 10)) (sC (.int 18))))) (oSeq (oAsg (s2 gMod (s1 (gRd intD) (s2 gIx2 (sVar 0) (sC (.int 0)))) (sVar 1)) (tgN 2))
    (oSeq (oAsg (s2 gFdivW (s2 gIx2 (sVar 0) (sC (.int 0))) (sVar 1)) (tgS (sVar 0) (sC (.int 0))))
    (oRet (sVar 2)))) (oNext))
    (oSeq (oAsg (s2 gMod (s1 (gRd intD) (s2 gAdd (s2 gMulX (s2 gIx2 (sVar 0) (sC (.int 1))) (sC (.int 69069))) (sC (.int 40503)))) (sC (.int 4294967291))) (tgS (sVar 0) (sC (.int 1))))
    (oSeq (oAsg (s2 gMod (s1 (gRd intD) (s2 gAdd (s2 gMulX (s2 gIx2 (sVar 0) (sC (.int 2))) (s2 gIx2 (sVar 0) (sC (.int 2)))) (s2 gIx2 (sVar 0) (sC (.int 1))))) (sC (.int 2147483587))) (tgS (sVar 0) (sC (.int 2))))
    (oRet (s2 gMod (s1 (gRd intD) (s2 gAdd (s2 gFdivW (s2 gIx2 (sVar 0) (sC (.int 1))) (sC (.int 32))) (s2 gFdivW (s2 gIx2 (sVar 0) (sC (.int 2))) (sC (.int 16))))) (sVar 1)))))
def F__law_draw : List Sl → FR := fnRun 2 3 [0] B__law_draw
def n__law_draw (a0 : (List Int)) (a1 : Int) : Option (Int × (List Int)) :=
    (Option.bind (Option.bind (Option.bind (some a0) fun x1 => Option.bind (some (0 : Int)) fun x2 => atL x1 x2) fun x5 => Option.bind (Option.bind (some (10 : Int)) fun x3 => Option.bind (some (18 : Int)) fun x4 => powW x3 x4) fun x6 => geI x5 x6) fun x7 => if x7 = true then (Option.bind (Option.bind (Option.bind (Option.bind (some a0) fun x8 => Option.bind (some (0 : Int)) fun x9 => atL x8 x9) fun x10 => intI x10) fun x11 => Option.bind (some a1) fun x12 => modI x11 x12) fun x13 => (Option.bind (Option.bind (Option.bind (some a0) fun x14 => Option.bind (some (0 : Int)) fun x15 => atL x14 x15) fun x16 => Option.bind (some a1) fun x17 => fdivW x16 x17) fun x18 => Option.bind (some (0 : Int)) fun x19 => Option.bind (stI a0 x19 x18) fun x20 => (Option.bind (some x13) fun x21 => some (x21, x20)))) else (Option.bind (Option.bind (Option.bind (Option.bind (Option.bind (Option.bind (some a0) fun x22 => Option.bind (some (1 : Int)) fun x23 => atL x22 x23) fun x24 => Option.bind (some (69069 : Int)) fun x25 => mulI x24 x25) fun x26 => Option.bind (some (40503 : Int)) fun x27 => addI x26 x27) fun x28 => intI x28) fun x29 => Option.bind (some (4294967291 : Int)) fun x30 => modI x29 x30) fun x31 => Option.bind (some (1 : Int)) fun x32 => Option.bind (stI a0 x32 x31) fun x33 => (Option.bind (Option.bind (Option.bind (Option.bind (Option.bind (Option.bind (some x33) fun x34 => Option.bind (some (2 : Int)) fun x35 => atL x34 x35) fun x38 => Option.bind (Option.bind (some x33) fun x36 => Option.bind (some (2 : Int)) fun x37 => atL x36 x37) fun x39 => mulI x38 x39) fun x42 => Option.bind (Option.bind (some x33) fun x40 => Option.bind (some (1 : Int)) fun x41 => atL x40 x41) fun x43 => addI x42 x43) fun x44 => intI x44) fun x45 => Option.bind (some (2147483587 : Int)) fun x46 => modI x45 x46) fun x47 => Option.bind (some (2 : Int)) fun x48 => Option.bind (stI x33 x48 x47) fun x49 => (Option.bind (Option.bind (Option.bind (Option.bind (Option.bind (Option.bind (some x49) fun x50 => Option.bind (some (1 : Int)) fun x51 => atL x50 x51) fun x52 => Option.bind (some (32 : Int)) fun x53 => fdivW x52 x53) fun x58 => Option.bind (Option.bind (Option.bind (some x49) fun x54 => Option.bind (some (2 : Int)) fun x55 => atL x54 x55) fun x56 => Option.bind (some (16 : Int)) fun x57 => fdivW x56 x57) fun x59 => addI x58 x59) fun x60 => intI x60) fun x61 => Option.bind (some a1) fun x62 => modI x61 x62) fun x63 => some (x63, x49)))))
theorem V__law_draw (a0 : (List Int)) (a1 : Int) : Fun F__law_draw (n__law_draw a0 a1) [ow a0, .fz (enc a1)] (fun r : (Int × (List Int)) => .fz (enc ((Prod.fst r) : Int))) fun r => [ow (Prod.snd r), .no] :=
  fun_of (ΓR := fun r => [.eq (ow ((Prod.snd r) : (List Int))), .aa, .aa]) (show Bl B__law_draw _ _ _ from (bl_ga [.eq (ow (a0 : (List Int))), .eq (.fz (enc (a1 : Int))), .eq .no] (by kernel_rfl) (bl_if (k := fun x7 => x7) ((ts_tst (pu2 Nv.op_ge ((pu2 Nv.op_ix2 (rd_own 0 rfl) (pu_c).rd)).rd ((pu2 Nv.op_powW (pu_c).rd (pu_c).rd)).rd))).te' (fun x7 => (bl_assoc (bl_asgV ((pu2 Nv.op_mod ((pu1A Nv.op_int (((pu2 Nv.op_ix2 (rd_own 0 rfl) (pu_c).rd)).rd).ra)).rd ((pu_var 1 rfl)).rd)).ev fun x13 => (bl_ga [.eq (ow (a0 : (List Int))), .eq (.fz (enc (a1 : Int))), .eq (.fz (enc (x13 : Int)))] (by kernel_rfl) (bl_assoc (bl_set (k := 0) (va := fun x18 => x18) (xs := fun x18 => a0) ((pu2 Nv.op_fdivW ((pu2 Nv.op_ix2 (rd_own 0 rfl) (pu_c).rd)).rd ((pu_var 1 rfl)).rd)).ev (fun _ => rfl) (fun x18 => (pu_c).rd) fun x18 x20 => (bl_ga [.eq (ow (x20 : (List Int))), .eq (.fz (enc (a1 : Int))), .eq (.fz (enc (x13 : Int)))] (by kernel_rfl) (bl_retS (bl_retV ((pu_var 2 rfl)).ev fun x21 => (rf_eq rfl (.cons .rfl (.cons .aa (.cons .aa .nil))))))))))))) fun x7 => (bl_next (bl_set (k := 0) (va := fun x31 => x31) (xs := fun x31 => a0) ((pu2 Nv.op_mod ((pu1A Nv.op_int (((pu2 Nv.op_add ((pu2 Nv.op_mul ((pu2 Nv.op_ix2 (rd_own 0 rfl) (pu_c).rd)).rd (pu_c).rd)).rd (pu_c).rd)).rd).ra)).rd (pu_c).rd)).ev (fun _ => rfl) (fun x31 => (pu_c).rd) fun x31 x33 => (bl_ga [.eq (ow (x33 : (List Int))), .eq (.fz (enc (a1 : Int))), .eq .no] (by kernel_rfl) (bl_set (k := 0) (va := fun x47 => x47) (xs := fun x47 => x33) ((pu2 Nv.op_mod ((pu1A Nv.op_int (((pu2 Nv.op_add ((pu2 Nv.op_mul ((pu2 Nv.op_ix2 (rd_own 0 rfl) (pu_c).rd)).rd ((pu2 Nv.op_ix2 (rd_own 0 rfl) (pu_c).rd)).rd)).rd ((pu2 Nv.op_ix2 (rd_own 0 rfl) (pu_c).rd)).rd)).rd).ra)).rd (pu_c).rd)).ev (fun _ => rfl) (fun x47 => (pu_c).rd) fun x47 x49 => (bl_ga [.eq (ow (x49 : (List Int))), .eq (.fz (enc (a1 : Int))), .eq .no] (by kernel_rfl) (bl_retV ((pu2 Nv.op_mod ((pu1A Nv.op_int (((pu2 Nv.op_add ((pu2 Nv.op_fdivW ((pu2 Nv.op_ix2 (rd_own 0 rfl) (pu_c).rd)).rd (pu_c).rd)).rd ((pu2 Nv.op_fdivW ((pu2 Nv.op_ix2 (rd_own 0 rfl) (pu_c).rd)).rd (pu_c).rd)).rd)).rd).ra)).rd ((pu_var 1 rfl)).rd)).ev fun x63 => (rf_eq rfl (.cons .rfl (.cons .aa (.cons .aa .nil)))))))))))))
end P
namespace P
open PySem PySem.Spec PyProof.Rows L2 Hb Nv
open Enc (enc)
def B__law_mixed : List Sl → Ot :=
    oSeq (oPar [2, 3] (rCons (s1 gRg1 (sVar 1)) (rCons (sLst (lNil)) (rNil))))
    (oSeq (oWh (sTst (s2 (gEqE true) (sVar 2) (sLst (lNil)))) (oDrop (sApp (sVar 3) (sPop1 (sVar 2) (sCall F__law_draw [] (rIo 0 (rCons (sTk (s1 (gRd lenD) (sVar 2))) (rNil))))))) 1000)
    (oRet (sVar 3)))
def F__law_mixed : List Sl → FR := fnRun 2 4 [0] B__law_mixed
def n__law_mixed (a0 : (List Int)) (a1 : Int) : Option ((List Int) × (List Int)) :=
    (Option.bind (Option.bind (Option.bind (some a1) fun x1 => rg1 x1) fun x2 => Option.bind (Option.bind (some []) fun x3 => Option.bind (some ()) fun x4 => some (x3, x4)) fun x5 => some (x2, x5)) fun x6 => (Option.bind (whS 1000 ((a0, (Prod.fst x6), (Prod.fst (Prod.snd x6))) : ((List Int) × (List Int) × (List Int))) (fun s7 => (Option.bind (some (Prod.fst (Prod.snd s7))) fun x8 => some (true != List.isEmpty x8))) fun s7 => (Option.bind (Option.bind (Option.bind (Option.bind (Option.bind (Option.bind (some (Prod.fst (Prod.snd s7))) fun x9 => lenL x9) fun x10 => Option.bind (some ()) fun x11 => some (x10, x11)) fun x12 => Option.bind (n__law_draw ((Prod.fst s7) : (List Int)) ((Prod.fst x12) : Int)) fun x13 => some (x13, x12)) fun x14 => Option.bind (popL (Prod.fst (Prod.snd s7)) (Prod.fst (Prod.fst x14))) fun x15 => some (x15, x14)) fun x16 => Option.bind (apL (Prod.snd (Prod.snd s7)) (Prod.fst (Prod.fst x16))) fun x17 => some (x17, x16)) fun x18 => some (((Prod.snd (Prod.fst (Prod.snd (Prod.snd x18)))), (Prod.snd (Prod.fst (Prod.snd x18))), (Prod.fst x18)) : ((List Int) × (List Int) × (List Int))))) fun s7 => some ((Prod.snd (Prod.snd s7)), (Prod.fst s7))))
theorem V__law_mixed (a0 : (List Int)) (a1 : Int) : Fun F__law_mixed (n__law_mixed a0 a1) [ow a0, .fz (enc a1)] (fun r : ((List Int) × (List Int)) => ow ((Prod.fst r) : (List Int))) fun r => [ow (Prod.snd r), .no] :=
  fun_of (ΓR := fun r => [.eq (ow ((Prod.snd r) : (List Int))), .aa, .aa, .aa]) (show Bl B__law_mixed _ _ _ from (bl_ga [.eq (ow (a0 : (List Int))), .eq (.fz (enc (a1 : Int))), .eq .no, .eq .no] (by kernel_rfl) (bl_par (ag_cons ((pu1 Nv.op_rg1 ((pu_var 1 rfl)).rd)).ev fun x2 => (ag_cons (pu_nil).ev fun x3 => ag_nil)) fun x6 => (bl_ga [.eq (ow (a0 : (List Int))), .eq (.fz (enc (a1 : Int))), .eq (ow ((Prod.fst x6) : (List Int))), .eq (ow ((Prod.fst (Prod.snd x6)) : (List Int)))] (by kernel_rfl) (bl_wh (s0 := ((a0, (Prod.fst x6), (Prod.fst (Prod.snd x6))) : ((List Int) × (List Int) × (List Int)))) (ΓL := fun (s7 : ((List Int) × (List Int) × (List Int))) => [.eq (ow ((Prod.fst s7) : (List Int))), .eq (.fz (enc (a1 : Int))), .eq (ow ((Prod.fst (Prod.snd s7)) : (List Int))), .eq (ow ((Prod.snd (Prod.snd s7)) : (List Int)))]) (.cons .rfl (.cons .rfl (.cons .rfl (.cons .rfl .nil)))) (fun s7 => (ts_tst (pu_eqE ((rd_own 2 rfl)).ra))) (fun s7 => (bl_last (bl_expr (ev_app (k := 3) (va := fun x16 => (Prod.fst (Prod.fst x16))) (xs := fun x16 => (Prod.snd (Prod.snd s7))) rfl rfl ((ev_pop1 (k := 2) (va := fun x14 => (Prod.fst (Prod.fst x14))) (xs := fun x14 => (Prod.fst (Prod.snd s7))) rfl rfl ((ev_callG (ag_io (k := 0) rfl rfl (ag_cons (((pu1A Nv.op_len ((rd_own 2 rfl)).ra)).tkP).ev fun x10 => ag_nil)) (fun x12 => V__law_draw ((Prod.fst s7) : (List Int)) ((Prod.fst x12) : Int)))).tk fun _ => rfl)).tk fun _ => rfl) fun x18 => (bl_ga [.eq (ow ((Prod.snd (Prod.fst (Prod.snd (Prod.snd x18)))) : (List Int))), .eq (.fz (enc (a1 : Int))), .eq (ow ((Prod.snd (Prod.fst (Prod.snd x18))) : (List Int))), .eq (ow ((Prod.fst x18) : (List Int)))] (by kernel_rfl) (bl_end (rs_nx (.cons .rfl (.cons .rfl (.cons .rfl (.cons .rfl .nil)))))))))) fun s7 => (bl_retO (k := 3) rfl rfl (sat_ga [.eq (ow ((Prod.fst s7) : (List Int))), .eq (.fz (enc (a1 : Int))), .eq (ow ((Prod.fst (Prod.snd s7)) : (List Int))), .eq .no] (by kernel_rfl) (rf_eq rfl (.cons .rfl (.cons .aa (.cons .aa (.cons .aa .nil))))))))))))
end P
namespace P
open PySem PySem.Spec PyProof.Rows L2 Hb Nv
open Enc (enc)
def B__law_bad_counts : List Sl → Ot :=
    oRet (sLst (lCons (sC .none) (lCons (sC (.bool true)) (lCons (sC (.bool false)) (lCons (sC (.int 0)) (lCons (s1 gNeg (sC (.int 1))) (lCons (s2 gAdd (sVar 0) (sC (.int 1))) (lCons (s2 gPowW (sC (.int 10)) (sC (.int 39))) (lCons (sC (.str "3")) (lCons (sC (.str "")) (lCons (sLst (lCons (sC (.int 3)) (lNil))) (lCons (sTup (lCons (sC (.int 3)) (lNil))) (lCons (sDic0) (lNil))))))))))))))
def F__law_bad_counts : List Sl → FR := fnRun 1 1 [] B__law_bad_counts
def n__law_bad_counts (a0 : Int) : Option ((List PyData)) :=
    (Option.bind (Option.bind (Option.bind (some ()) fun x1 => Option.bind (Option.bind (some true) fun x2 => Option.bind (Option.bind (some false) fun x3 => Option.bind (Option.bind (some (0 : Int)) fun x4 => Option.bind (Option.bind (Option.bind (some (1 : Int)) fun x5 => negI x5) fun x6 => Option.bind (Option.bind (Option.bind (some a0) fun x7 => Option.bind (some (1 : Int)) fun x8 => addI x7 x8) fun x9 => Option.bind (Option.bind (Option.bind (some (10 : Int)) fun x10 => Option.bind (some (39 : Int)) fun x11 => powW x10 x11) fun x12 => Option.bind (Option.bind (some ("3" : Str)) fun x13 => Option.bind (Option.bind (some ("" : Str)) fun x14 => Option.bind (Option.bind (Option.bind (Option.bind (some (3 : Int)) fun x15 => Option.bind (some ()) fun x17 => some (x15, x17)) fun x16 => some ([(Prod.fst x16)] : (List Int))) fun x18 => Option.bind (Option.bind (Option.bind (Option.bind (some (3 : Int)) fun x19 => Option.bind (some ()) fun x21 => some (x19, x21)) fun x20 => some ((Tp.mk [(Prod.fst x20)]) : (Tp Int))) fun x22 => Option.bind (Option.bind (some (Dc.mk [] : (Dc Int Int))) fun x23 => Option.bind (some ()) fun x25 => some (x23, x25)) fun x26 => some (x22, x26)) fun x27 => some (x18, x27)) fun x28 => some (x14, x28)) fun x29 => some (x13, x29)) fun x30 => some (x12, x30)) fun x31 => some (x9, x31)) fun x32 => some (x6, x32)) fun x33 => some (x4, x33)) fun x34 => some (x3, x34)) fun x35 => some (x2, x35)) fun x36 => some (x1, x36)) fun x24 => some ([(enc ((Prod.fst x24) : Unit)), (enc ((Prod.fst (Prod.snd x24)) : Bool)), (enc ((Prod.fst (Prod.snd (Prod.snd x24))) : Bool)), (enc ((Prod.fst (Prod.snd (Prod.snd (Prod.snd x24)))) : Int)), (enc ((Prod.fst (Prod.snd (Prod.snd (Prod.snd (Prod.snd x24))))) : Int)), (enc ((Prod.fst (Prod.snd (Prod.snd (Prod.snd (Prod.snd (Prod.snd x24)))))) : Int)), (enc ((Prod.fst (Prod.snd (Prod.snd (Prod.snd (Prod.snd (Prod.snd (Prod.snd x24))))))) : Int)), (enc ((Prod.fst (Prod.snd (Prod.snd (Prod.snd (Prod.snd (Prod.snd (Prod.snd (Prod.snd x24)))))))) : Str)), (enc ((Prod.fst (Prod.snd (Prod.snd (Prod.snd (Prod.snd (Prod.snd (Prod.snd (Prod.snd (Prod.snd x24))))))))) : Str)), (enc ((Prod.fst (Prod.snd (Prod.snd (Prod.snd (Prod.snd (Prod.snd (Prod.snd (Prod.snd (Prod.snd (Prod.snd x24)))))))))) : (List Int))), (enc ((Prod.fst (Prod.snd (Prod.snd (Prod.snd (Prod.snd (Prod.snd (Prod.snd (Prod.snd (Prod.snd (Prod.snd (Prod.snd x24))))))))))) : (Tp Int))), (enc ((Prod.fst (Prod.snd (Prod.snd (Prod.snd (Prod.snd (Prod.snd (Prod.snd (Prod.snd (Prod.snd (Prod.snd (Prod.snd (Prod.snd x24)))))))))))) : (Dc Int Int)))] : (List PyData))) fun x37 => some x37)
theorem V__law_bad_counts (a0 : Int) : Fun F__law_bad_counts (n__law_bad_counts a0) [.fz (enc a0)] (fun r : ((List PyData)) => ow (r : (List PyData))) fun r => [.no] :=
  fun_of (ΓR := fun r => [.aa]) (show Bl B__law_bad_counts _ _ _ from (bl_ga [.eq (.fz (enc (a0 : Int)))] (by kernel_rfl) (bl_retT ((pu_lst (dp_cons (pu_none).tkP (dp_cons (pu_c).tkP (dp_cons (pu_c).tkP (dp_cons (pu_c).tkP (dp_cons ((pu1 Nv.op_neg (pu_c).rd)).tkP (dp_cons ((pu2 Nv.op_add ((pu_var 0 rfl)).rd (pu_c).rd)).tkP (dp_cons ((pu2 Nv.op_powW (pu_c).rd (pu_c).rd)).tkP (dp_cons (pu_c).tkP (dp_cons (pu_c).tkP (dp_cons (((pu_lst (dp_cons (pu_c).tkP dp_nil) (fun x16 => ([(Prod.fst x16)] : (List Int))))).tkTP ow_tree) (dp_cons ((pu_tup (dp_cons (pu_c).tkP dp_nil) (fun x20 => ((Tp.mk [(Prod.fst x20)]) : (Tp Int))))).tkP (dp_cons ((pu_dicn).tkTP fun _ => rfl) dp_nil)))))))))))) (fun x24 => ([(enc ((Prod.fst x24) : Unit)), (enc ((Prod.fst (Prod.snd x24)) : Bool)), (enc ((Prod.fst (Prod.snd (Prod.snd x24))) : Bool)), (enc ((Prod.fst (Prod.snd (Prod.snd (Prod.snd x24)))) : Int)), (enc ((Prod.fst (Prod.snd (Prod.snd (Prod.snd (Prod.snd x24))))) : Int)), (enc ((Prod.fst (Prod.snd (Prod.snd (Prod.snd (Prod.snd (Prod.snd x24)))))) : Int)), (enc ((Prod.fst (Prod.snd (Prod.snd (Prod.snd (Prod.snd (Prod.snd (Prod.snd x24))))))) : Int)), (enc ((Prod.fst (Prod.snd (Prod.snd (Prod.snd (Prod.snd (Prod.snd (Prod.snd (Prod.snd x24)))))))) : Str)), (enc ((Prod.fst (Prod.snd (Prod.snd (Prod.snd (Prod.snd (Prod.snd (Prod.snd (Prod.snd (Prod.snd x24))))))))) : Str)), (enc ((Prod.fst (Prod.snd (Prod.snd (Prod.snd (Prod.snd (Prod.snd (Prod.snd (Prod.snd (Prod.snd (Prod.snd x24)))))))))) : (List Int))), (enc ((Prod.fst (Prod.snd (Prod.snd (Prod.snd (Prod.snd (Prod.snd (Prod.snd (Prod.snd (Prod.snd (Prod.snd (Prod.snd x24))))))))))) : (Tp Int))), (enc ((Prod.fst (Prod.snd (Prod.snd (Prod.snd (Prod.snd (Prod.snd (Prod.snd (Prod.snd (Prod.snd (Prod.snd (Prod.snd (Prod.snd x24)))))))))))) : (Dc Int Int)))] : (List PyData))))).ev fun x37 => (rf_eq rfl (.cons .aa .nil)))))
end P
namespace P
open PySem PySem.Spec PyProof.Rows L2 Hb Nv
open Enc (enc)
def B__law_bad_ballots : List Sl → Ot :=
    oSeq (oAsg (sTk (s1 gRg1 (sVar 0))) (tgN 1))
    (oSeq (oAsg (sTk (sLst (lCons (sC .none) (lCons (sC (.bool true)) (lCons (sC (.int 0)) (lCons (sC (.str "")) (lCons (sC (.str "0>1")) (lCons (sTup (lNil)) (lCons (sDic0) (lCons (s1 (gTuple) (sVar 1)) (lCons (s2 gAdd (sVar 1) (sLst (lCons (sVar 0) (lNil)))) (lCons (sSl (sVar 1) (some (sC (.int 1))) none) (lCons (sLst (lCons (sVar 1) (lNil))) (lCons (s2 gAdd (sSl (sVar 1) none (some (s1 gNeg (sC (.int 1))))) (sLst (lCons (sVar 0) (lNil)))) (lNil))))))))))))))) (tgN 2))
    (oSeq (oAsg (sTk (s2 gAdd (sVar 2) (sLst (lCons (s2 gAdd (sSl (sVar 1) none (some (s1 gNeg (sC (.int 1))))) (sLst (lCons (s1 gNeg (sC (.int 1))) (lNil)))) (lCons (s2 gAdd (sSl (sVar 1) none (some (s1 gNeg (sC (.int 1))))) (sLst (lCons (sC .none) (lNil)))) (lCons (s2 gAdd (sSl (sVar 1) none (some (s1 gNeg (sC (.int 1))))) (sLst (lCons (s1 (gRd strD) (s2 gSub (sVar 0) (sC (.int 1)))) (lNil)))) (lCons (s2 gAdd (sSl (sVar 1) none (some (s1 gNeg (sC (.int 1))))) (sLst (lCons (sLst (lCons (sC (.int 0)) (lNil))) (lNil)))) (lNil)))))))) (tgN 2))
    (oRet (s2 gAdd (sVar 2) (sLst (lCons (sLc false (wSeq (sVar 1)) [3] (tgN 3) (tOk) (sTk (sIf (sTst (s2 gLt (sVar 3) (sC (.int 2)))) (s2 gEq (sVar 3) (sC (.int 1))) (sVar 3)))) (lCons (sLc false (wSeq (sVar 1)) [3] (tgN 3) (tOk) (sTk (s2 gAdd (sVar 3) (sC (.int 1))))) (lCons (s2 gAdd (sSl (sVar 1) none (some (s1 gNeg (sC (.int 1))))) (sLst (lCons (s2 gPowW (sC (.int 10)) (sC (.int 39))) (lNil)))) (lNil)))))))))
def F__law_bad_ballots : List Sl → FR := fnRun 1 4 [] B__law_bad_ballots
def n__law_bad_ballots (a0 : Int) : Option ((List PyData)) :=
    (Option.bind (Option.bind (some a0) fun x1 => rg1 x1) fun x2 => (Option.bind (Option.bind (Option.bind (some ()) fun x3 => Option.bind (Option.bind (some true) fun x4 => Option.bind (Option.bind (some (0 : Int)) fun x5 => Option.bind (Option.bind (some ("" : Str)) fun x6 => Option.bind (Option.bind (some ("0>1" : Str)) fun x7 => Option.bind (Option.bind (some (Tp.mk [])) fun x8 => Option.bind (Option.bind (some (Dc.mk [] : (Dc Int Int))) fun x9 => Option.bind (Option.bind (Option.bind (some x2) fun x10 => tupL x10) fun x11 => Option.bind (Option.bind (Option.bind (some x2) fun x15 => Option.bind (Option.bind (Option.bind (some a0) fun x12 => Option.bind (some ()) fun x14 => some (x12, x14)) fun x13 => some ([(Prod.fst x13)] : (List Int))) fun x16 => catL x15 x16) fun x17 => Option.bind (Option.bind (Option.bind (some x2) fun x19 => Option.bind (Option.bind (some (1 : Int)) fun x18 => some (some x18)) fun x20 => Option.bind (some none) fun x21 => some (cutL x19 x20 x21)) fun x22 => Option.bind (Option.bind (Option.bind (Option.bind (some x2) fun x23 => Option.bind (some ()) fun x25 => some (x23, x25)) fun x24 => some ([(Prod.fst x24)] : (List (List Int)))) fun x26 => Option.bind (Option.bind (Option.bind (Option.bind (some x2) fun x29 => Option.bind (some none) fun x30 => Option.bind (Option.bind (Option.bind (some (1 : Int)) fun x27 => negI x27) fun x28 => some (some x28)) fun x31 => some (cutL x29 x30 x31)) fun x35 => Option.bind (Option.bind (Option.bind (some a0) fun x32 => Option.bind (some ()) fun x34 => some (x32, x34)) fun x33 => some ([(Prod.fst x33)] : (List Int))) fun x36 => catL x35 x36) fun x37 => Option.bind (some ()) fun x39 => some (x37, x39)) fun x40 => some (x26, x40)) fun x41 => some (x22, x41)) fun x42 => some (x17, x42)) fun x43 => some (x11, x43)) fun x44 => some (x9, x44)) fun x45 => some (x8, x45)) fun x46 => some (x7, x46)) fun x47 => some (x6, x47)) fun x48 => some (x5, x48)) fun x49 => some (x4, x49)) fun x50 => some (x3, x50)) fun x38 => some ([(enc ((Prod.fst x38) : Unit)), (enc ((Prod.fst (Prod.snd x38)) : Bool)), (enc ((Prod.fst (Prod.snd (Prod.snd x38))) : Int)), (enc ((Prod.fst (Prod.snd (Prod.snd (Prod.snd x38)))) : Str)), (enc ((Prod.fst (Prod.snd (Prod.snd (Prod.snd (Prod.snd x38))))) : Str)), (enc ((Prod.fst (Prod.snd (Prod.snd (Prod.snd (Prod.snd (Prod.snd x38)))))) : (Tp Int))), (enc ((Prod.fst (Prod.snd (Prod.snd (Prod.snd (Prod.snd (Prod.snd (Prod.snd x38))))))) : (Dc Int Int))), (enc ((Prod.fst (Prod.snd (Prod.snd (Prod.snd (Prod.snd (Prod.snd (Prod.snd (Prod.snd x38)))))))) : (Tp Int))), (enc ((Prod.fst (Prod.snd (Prod.snd (Prod.snd (Prod.snd (Prod.snd (Prod.snd (Prod.snd (Prod.snd x38))))))))) : (List Int))), (enc ((Prod.fst (Prod.snd (Prod.snd (Prod.snd (Prod.snd (Prod.snd (Prod.snd (Prod.snd (Prod.snd (Prod.snd x38)))))))))) : (List Int))), (enc ((Prod.fst (Prod.snd (Prod.snd (Prod.snd (Prod.snd (Prod.snd (Prod.snd (Prod.snd (Prod.snd (Prod.snd (Prod.snd x38))))))))))) : (List (List Int)))), (enc ((Prod.fst (Prod.snd (Prod.snd (Prod.snd (Prod.snd (Prod.snd (Prod.snd (Prod.snd (Prod.snd (Prod.snd (Prod.snd (Prod.snd x38)))))))))))) : (List Int)))] : (List PyData))) fun x51 => (Option.bind (Option.bind (some x51) fun x114 => Option.bind (Option.bind (Option.bind (Option.bind (Option.bind (some x2) fun x54 => Option.bind (some none) fun x55 => Option.bind (Option.bind (Option.bind (some (1 : Int)) fun x52 => negI x52) fun x53 => some (some x53)) fun x56 => some (cutL x54 x55 x56)) fun x61 => Option.bind (Option.bind (Option.bind (Option.bind (some (1 : Int)) fun x57 => negI x57) fun x58 => Option.bind (some ()) fun x60 => some (x58, x60)) fun x59 => some ([(Prod.fst x59)] : (List Int))) fun x62 => catL x61 x62) fun x63 => Option.bind (Option.bind (Option.bind (Option.bind (Option.bind (some x2) fun x66 => Option.bind (some none) fun x67 => Option.bind (Option.bind (Option.bind (some (1 : Int)) fun x64 => negI x64) fun x65 => some (some x65)) fun x68 => some (cutL x66 x67 x68)) fun x72 => some (List.map enc (x72 : (List Int)))) fun x74 => Option.bind (Option.bind (Option.bind (Option.bind (some ()) fun x69 => Option.bind (some ()) fun x71 => some (x69, x71)) fun x70 => some ([(Prod.fst x70)] : (List Unit))) fun x73 => some (List.map enc (x73 : (List Unit)))) fun x75 => catL x74 x75) fun x76 => Option.bind (Option.bind (Option.bind (Option.bind (Option.bind (some x2) fun x79 => Option.bind (some none) fun x80 => Option.bind (Option.bind (Option.bind (some (1 : Int)) fun x77 => negI x77) fun x78 => some (some x78)) fun x81 => some (cutL x79 x80 x81)) fun x88 => some (List.map enc (x88 : (List Int)))) fun x90 => Option.bind (Option.bind (Option.bind (Option.bind (Option.bind (Option.bind (some a0) fun x82 => Option.bind (some (1 : Int)) fun x83 => subI x82 x83) fun x84 => strI x84) fun x85 => Option.bind (some ()) fun x87 => some (x85, x87)) fun x86 => some ([(Prod.fst x86)] : (List Str))) fun x89 => some (List.map enc (x89 : (List Str)))) fun x91 => catL x90 x91) fun x92 => Option.bind (Option.bind (Option.bind (Option.bind (Option.bind (some x2) fun x95 => Option.bind (some none) fun x96 => Option.bind (Option.bind (Option.bind (some (1 : Int)) fun x93 => negI x93) fun x94 => some (some x94)) fun x97 => some (cutL x95 x96 x97)) fun x104 => some (List.map enc (x104 : (List Int)))) fun x106 => Option.bind (Option.bind (Option.bind (Option.bind (Option.bind (Option.bind (some (0 : Int)) fun x98 => Option.bind (some ()) fun x100 => some (x98, x100)) fun x99 => some ([(Prod.fst x99)] : (List Int))) fun x101 => Option.bind (some ()) fun x103 => some (x101, x103)) fun x102 => some ([(Prod.fst x102)] : (List (List Int)))) fun x105 => some (List.map enc (x105 : (List (List Int))))) fun x107 => catL x106 x107) fun x108 => Option.bind (some ()) fun x110 => some (x108, x110)) fun x111 => some (x92, x111)) fun x112 => some (x76, x112)) fun x113 => some (x63, x113)) fun x109 => some ([(enc ((Prod.fst x109) : (List Int))), (enc ((Prod.fst (Prod.snd x109)) : (List PyData))), (enc ((Prod.fst (Prod.snd (Prod.snd x109))) : (List PyData))), (enc ((Prod.fst (Prod.snd (Prod.snd (Prod.snd x109)))) : (List PyData)))] : (List PyData))) fun x115 => catL x114 x115) fun x116 => (Option.bind (Option.bind (some x116) fun x149 => Option.bind (Option.bind (Option.bind (Option.bind (some x2) fun x117 => if List.length (x117) ≤ cap then mapF x117 (fun x118 => (some true)) (fun x118 => (Option.bind (Option.bind (some x118) fun x119 => Option.bind (some (2 : Int)) fun x120 => ltI x119 x120) fun x125 => if x125 = true then (Option.bind (Option.bind (some x118) fun x121 => Option.bind (some (1 : Int)) fun x122 => eqN x121 x122) fun x123 => some ((enc (x123 : Bool)) : PyData)) else (Option.bind (some x118) fun x124 => some ((enc (x124 : Int)) : PyData)))) else none) fun x126 => Option.bind (Option.bind (Option.bind (some x2) fun x127 => if List.length (x127) ≤ cap then mapF x127 (fun x128 => (some true)) (fun x128 => (Option.bind (some x128) fun x129 => Option.bind (some (1 : Int)) fun x130 => addI x129 x130)) else none) fun x131 => Option.bind (Option.bind (Option.bind (Option.bind (some x2) fun x134 => Option.bind (some none) fun x135 => Option.bind (Option.bind (Option.bind (some (1 : Int)) fun x132 => negI x132) fun x133 => some (some x133)) fun x136 => some (cutL x134 x135 x136)) fun x142 => Option.bind (Option.bind (Option.bind (Option.bind (some (10 : Int)) fun x137 => Option.bind (some (39 : Int)) fun x138 => powW x137 x138) fun x139 => Option.bind (some ()) fun x141 => some (x139, x141)) fun x140 => some ([(Prod.fst x140)] : (List Int))) fun x143 => catL x142 x143) fun x144 => Option.bind (some ()) fun x146 => some (x144, x146)) fun x147 => some (x131, x147)) fun x148 => some (x126, x148)) fun x145 => some ([(enc ((Prod.fst x145) : (List PyData))), (enc ((Prod.fst (Prod.snd x145)) : (List Int))), (enc ((Prod.fst (Prod.snd (Prod.snd x145))) : (List Int)))] : (List PyData))) fun x150 => catL x149 x150) fun x151 => some x151))))
theorem V__law_bad_ballots (a0 : Int) : Fun F__law_bad_ballots (n__law_bad_ballots a0) [.fz (enc a0)] (fun r : ((List PyData)) => ow (r : (List PyData))) fun r => [.no] :=
  fun_of (ΓR := fun r => [.aa, .aa, .aa, .aa]) (show Bl B__law_bad_ballots _ _ _ from (bl_ga [.eq (.fz (enc (a0 : Int))), .eq .no, .eq .no, .eq .no] (by kernel_rfl) (bl_asgV ((((pu1 Nv.op_rg1 ((pu_var 0 rfl)).rd)).tkTP ow_tree)).ev fun x2 => (bl_ga [.eq (.fz (enc (a0 : Int))), .eq (.fz (enc (x2 : (List Int)))), .eq .no, .eq .no] (by kernel_rfl) (bl_asgV ((((pu_lst (dp_cons (pu_none).tkP (dp_cons (pu_c).tkP (dp_cons (pu_c).tkP (dp_cons (pu_c).tkP (dp_cons (pu_c).tkP (dp_cons (pu_nilT).tkP (dp_cons ((pu_dicn).tkTP fun _ => rfl) (dp_cons ((pu1 Nv.op_tup ((pu_var 1 rfl)).rd)).tkP (dp_cons (((pu2 Nv.op_cat ((pu_var 1 rfl)).rd (((pu_lst (dp_cons ((pu_var 0 rfl)).tkP dp_nil) (fun x13 => ([(Prod.fst x13)] : (List Int))))).rdT ow_tree))).tkTP ow_tree) (dp_cons (((pu_sl ((pu_var 1 rfl)).rd (.yes (pu_c).rd) .no)).tkTP ow_tree) (dp_cons (((pu_lst (dp_cons ((pu_var 1 rfl)).tkP dp_nil) (fun x24 => ([(Prod.fst x24)] : (List (List Int)))))).tkTP ow_tree) (dp_cons (((pu2 Nv.op_cat (((pu_sl ((pu_var 1 rfl)).rd .no (.yes ((pu1 Nv.op_neg (pu_c).rd)).rd))).rdT ow_tree) (((pu_lst (dp_cons ((pu_var 0 rfl)).tkP dp_nil) (fun x33 => ([(Prod.fst x33)] : (List Int))))).rdT ow_tree))).tkTP ow_tree) dp_nil)))))))))))) (fun x38 => ([(enc ((Prod.fst x38) : Unit)), (enc ((Prod.fst (Prod.snd x38)) : Bool)), (enc ((Prod.fst (Prod.snd (Prod.snd x38))) : Int)), (enc ((Prod.fst (Prod.snd (Prod.snd (Prod.snd x38)))) : Str)), (enc ((Prod.fst (Prod.snd (Prod.snd (Prod.snd (Prod.snd x38))))) : Str)), (enc ((Prod.fst (Prod.snd (Prod.snd (Prod.snd (Prod.snd (Prod.snd x38)))))) : (Tp Int))), (enc ((Prod.fst (Prod.snd (Prod.snd (Prod.snd (Prod.snd (Prod.snd (Prod.snd x38))))))) : (Dc Int Int))), (enc ((Prod.fst (Prod.snd (Prod.snd (Prod.snd (Prod.snd (Prod.snd (Prod.snd (Prod.snd x38)))))))) : (Tp Int))), (enc ((Prod.fst (Prod.snd (Prod.snd (Prod.snd (Prod.snd (Prod.snd (Prod.snd (Prod.snd (Prod.snd x38))))))))) : (List Int))), (enc ((Prod.fst (Prod.snd (Prod.snd (Prod.snd (Prod.snd (Prod.snd (Prod.snd (Prod.snd (Prod.snd (Prod.snd x38)))))))))) : (List Int))), (enc ((Prod.fst (Prod.snd (Prod.snd (Prod.snd (Prod.snd (Prod.snd (Prod.snd (Prod.snd (Prod.snd (Prod.snd (Prod.snd x38))))))))))) : (List (List Int)))), (enc ((Prod.fst (Prod.snd (Prod.snd (Prod.snd (Prod.snd (Prod.snd (Prod.snd (Prod.snd (Prod.snd (Prod.snd (Prod.snd (Prod.snd x38)))))))))))) : (List Int)))] : (List PyData))))).tkTP ow_tree)).ev fun x51 => (bl_ga [.eq (.fz (enc (a0 : Int))), .eq (.fz (enc (x2 : (List Int)))), .eq (.fz (enc (x51 : (List PyData)))), .eq .no] (by kernel_rfl) (bl_asgV ((((pu2 Nv.op_cat ((pu_var 2 rfl)).rd (((pu_lst (dp_cons (((pu2 Nv.op_cat (((pu_sl ((pu_var 1 rfl)).rd .no (.yes ((pu1 Nv.op_neg (pu_c).rd)).rd))).rdT ow_tree) (((pu_lst (dp_cons ((pu1 Nv.op_neg (pu_c).rd)).tkP dp_nil) (fun x59 => ([(Prod.fst x59)] : (List Int))))).rdT ow_tree))).tkTP ow_tree) (dp_cons (((pu2 Nv.op_cat (Rd.anyL (((pu_sl ((pu_var 1 rfl)).rd .no (.yes ((pu1 Nv.op_neg (pu_c).rd)).rd))).rdT ow_tree)) (Rd.anyL (((pu_lst (dp_cons (pu_none).tkP dp_nil) (fun x70 => ([(Prod.fst x70)] : (List Unit))))).rdT ow_tree)))).tkTP ow_tree) (dp_cons (((pu2 Nv.op_cat (Rd.anyL (((pu_sl ((pu_var 1 rfl)).rd .no (.yes ((pu1 Nv.op_neg (pu_c).rd)).rd))).rdT ow_tree)) (Rd.anyL (((pu_lst (dp_cons ((pu1A Nv.op_strI (((pu2 Nv.op_sub ((pu_var 0 rfl)).rd (pu_c).rd)).rd).ra)).tkP dp_nil) (fun x86 => ([(Prod.fst x86)] : (List Str))))).rdT ow_tree)))).tkTP ow_tree) (dp_cons (((pu2 Nv.op_cat (Rd.anyL (((pu_sl ((pu_var 1 rfl)).rd .no (.yes ((pu1 Nv.op_neg (pu_c).rd)).rd))).rdT ow_tree)) (Rd.anyL (((pu_lst (dp_cons (((pu_lst (dp_cons (pu_c).tkP dp_nil) (fun x99 => ([(Prod.fst x99)] : (List Int))))).tkTP ow_tree) dp_nil) (fun x102 => ([(Prod.fst x102)] : (List (List Int)))))).rdT ow_tree)))).tkTP ow_tree) dp_nil)))) (fun x109 => ([(enc ((Prod.fst x109) : (List Int))), (enc ((Prod.fst (Prod.snd x109)) : (List PyData))), (enc ((Prod.fst (Prod.snd (Prod.snd x109))) : (List PyData))), (enc ((Prod.fst (Prod.snd (Prod.snd (Prod.snd x109)))) : (List PyData)))] : (List PyData))))).rdT ow_tree))).tkTP ow_tree)).ev fun x116 => (bl_ga [.eq (.fz (enc (a0 : Int))), .eq (.fz (enc (x2 : (List Int)))), .eq (.fz (enc (x116 : (List PyData)))), .eq .no] (by kernel_rfl) (bl_retT ((pu2 Nv.op_cat ((pu_var 2 rfl)).rd (((pu_lst (dp_cons (((pu_lc (vs := [3]) (ip_seq (xs := fun v => v) ((pu_var 1 rfl)).tkP) rfl rfl (fun x117 x118 => tg_n) (fun x117 x118 => (ts_ga [.eq (.fz (enc (a0 : Int))), .eq (.fz (enc (x2 : (List Int)))), .eq (.fz (enc (x116 : (List PyData)))), .eq (.fz (enc (x118 : Int)))] (by kernel_rfl) ts_ok)) fun x117 x118 => (pu_ga [.eq (.fz (enc (a0 : Int))), .eq (.fz (enc (x2 : (List Int)))), .eq (.fz (enc (x116 : (List PyData)))), .eq (.fz (enc (x118 : Int)))] (by kernel_rfl) ((pu_if (ts_tst (pu2 Nv.op_lt ((pu_var 3 rfl)).rd (pu_c).rd)) (pu_co (fun x123 => ((enc (x123 : Bool)) : PyData)) (pu2A Nv.op_eq (((pu_var 3 rfl)).rd).ra ((pu_c).rd).ra)) (pu_co (fun x124 => ((enc (x124 : Int)) : PyData)) (pu_var 3 rfl)))).tkP))).tkTP ow_tree) (dp_cons (((pu_lc (vs := [3]) (ip_seq (xs := fun v => v) ((pu_var 1 rfl)).tkP) rfl rfl (fun x127 x128 => tg_n) (fun x127 x128 => (ts_ga [.eq (.fz (enc (a0 : Int))), .eq (.fz (enc (x2 : (List Int)))), .eq (.fz (enc (x116 : (List PyData)))), .eq (.fz (enc (x128 : Int)))] (by kernel_rfl) ts_ok)) fun x127 x128 => (pu_ga [.eq (.fz (enc (a0 : Int))), .eq (.fz (enc (x2 : (List Int)))), .eq (.fz (enc (x116 : (List PyData)))), .eq (.fz (enc (x128 : Int)))] (by kernel_rfl) ((pu2 Nv.op_add ((pu_var 3 rfl)).rd (pu_c).rd)).tkP))).tkTP ow_tree) (dp_cons (((pu2 Nv.op_cat (((pu_sl ((pu_var 1 rfl)).rd .no (.yes ((pu1 Nv.op_neg (pu_c).rd)).rd))).rdT ow_tree) (((pu_lst (dp_cons ((pu2 Nv.op_powW (pu_c).rd (pu_c).rd)).tkP dp_nil) (fun x140 => ([(Prod.fst x140)] : (List Int))))).rdT ow_tree))).tkTP ow_tree) dp_nil))) (fun x145 => ([(enc ((Prod.fst x145) : (List PyData))), (enc ((Prod.fst (Prod.snd x145)) : (List Int))), (enc ((Prod.fst (Prod.snd (Prod.snd x145))) : (List Int)))] : (List PyData))))).rdT ow_tree))).ev fun x151 => (rf_eq rfl (.cons .aa (.cons .aa (.cons .aa (.cons .aa .nil))))))))))))))
end P
namespace P
open PySem PySem.Spec PyProof.Rows L2 Hb Nv
open Enc (enc)
def B__law_bad_places : List Sl → Ot :=
    oRet (sLst (lCons (sC .none) (lCons (sC (.bool true)) (lCons (sC (.bool false)) (lCons (s1 gNeg (sC (.int 1))) (lCons (sVar 0) (lCons (s2 gPowW (sC (.int 10)) (sC (.int 39))) (lCons (sC (.str "0")) (lCons (sC (.str "")) (lCons (sLst (lCons (sC (.int 0)) (lNil))) (lCons (sTup (lCons (sC (.int 0)) (lNil))) (lCons (sDic0) (lNil)))))))))))))
def F__law_bad_places : List Sl → FR := fnRun 1 1 [] B__law_bad_places
def n__law_bad_places (a0 : Int) : Option ((List PyData)) :=
    (Option.bind (Option.bind (Option.bind (some ()) fun x1 => Option.bind (Option.bind (some true) fun x2 => Option.bind (Option.bind (some false) fun x3 => Option.bind (Option.bind (Option.bind (some (1 : Int)) fun x4 => negI x4) fun x5 => Option.bind (Option.bind (some a0) fun x6 => Option.bind (Option.bind (Option.bind (some (10 : Int)) fun x7 => Option.bind (some (39 : Int)) fun x8 => powW x7 x8) fun x9 => Option.bind (Option.bind (some ("0" : Str)) fun x10 => Option.bind (Option.bind (some ("" : Str)) fun x11 => Option.bind (Option.bind (Option.bind (Option.bind (some (0 : Int)) fun x12 => Option.bind (some ()) fun x14 => some (x12, x14)) fun x13 => some ([(Prod.fst x13)] : (List Int))) fun x15 => Option.bind (Option.bind (Option.bind (Option.bind (some (0 : Int)) fun x16 => Option.bind (some ()) fun x18 => some (x16, x18)) fun x17 => some ((Tp.mk [(Prod.fst x17)]) : (Tp Int))) fun x19 => Option.bind (Option.bind (some (Dc.mk [] : (Dc Int Int))) fun x20 => Option.bind (some ()) fun x22 => some (x20, x22)) fun x23 => some (x19, x23)) fun x24 => some (x15, x24)) fun x25 => some (x11, x25)) fun x26 => some (x10, x26)) fun x27 => some (x9, x27)) fun x28 => some (x6, x28)) fun x29 => some (x5, x29)) fun x30 => some (x3, x30)) fun x31 => some (x2, x31)) fun x32 => some (x1, x32)) fun x21 => some ([(enc ((Prod.fst x21) : Unit)), (enc ((Prod.fst (Prod.snd x21)) : Bool)), (enc ((Prod.fst (Prod.snd (Prod.snd x21))) : Bool)), (enc ((Prod.fst (Prod.snd (Prod.snd (Prod.snd x21)))) : Int)), (enc ((Prod.fst (Prod.snd (Prod.snd (Prod.snd (Prod.snd x21))))) : Int)), (enc ((Prod.fst (Prod.snd (Prod.snd (Prod.snd (Prod.snd (Prod.snd x21)))))) : Int)), (enc ((Prod.fst (Prod.snd (Prod.snd (Prod.snd (Prod.snd (Prod.snd (Prod.snd x21))))))) : Str)), (enc ((Prod.fst (Prod.snd (Prod.snd (Prod.snd (Prod.snd (Prod.snd (Prod.snd (Prod.snd x21)))))))) : Str)), (enc ((Prod.fst (Prod.snd (Prod.snd (Prod.snd (Prod.snd (Prod.snd (Prod.snd (Prod.snd (Prod.snd x21))))))))) : (List Int))), (enc ((Prod.fst (Prod.snd (Prod.snd (Prod.snd (Prod.snd (Prod.snd (Prod.snd (Prod.snd (Prod.snd (Prod.snd x21)))))))))) : (Tp Int))), (enc ((Prod.fst (Prod.snd (Prod.snd (Prod.snd (Prod.snd (Prod.snd (Prod.snd (Prod.snd (Prod.snd (Prod.snd (Prod.snd x21))))))))))) : (Dc Int Int)))] : (List PyData))) fun x33 => some x33)
theorem V__law_bad_places (a0 : Int) : Fun F__law_bad_places (n__law_bad_places a0) [.fz (enc a0)] (fun r : ((List PyData)) => ow (r : (List PyData))) fun r => [.no] :=
  fun_of (ΓR := fun r => [.aa]) (show Bl B__law_bad_places _ _ _ from (bl_ga [.eq (.fz (enc (a0 : Int)))] (by kernel_rfl) (bl_retT ((pu_lst (dp_cons (pu_none).tkP (dp_cons (pu_c).tkP (dp_cons (pu_c).tkP (dp_cons ((pu1 Nv.op_neg (pu_c).rd)).tkP (dp_cons ((pu_var 0 rfl)).tkP (dp_cons ((pu2 Nv.op_powW (pu_c).rd (pu_c).rd)).tkP (dp_cons (pu_c).tkP (dp_cons (pu_c).tkP (dp_cons (((pu_lst (dp_cons (pu_c).tkP dp_nil) (fun x13 => ([(Prod.fst x13)] : (List Int))))).tkTP ow_tree) (dp_cons ((pu_tup (dp_cons (pu_c).tkP dp_nil) (fun x17 => ((Tp.mk [(Prod.fst x17)]) : (Tp Int))))).tkP (dp_cons ((pu_dicn).tkTP fun _ => rfl) dp_nil))))))))))) (fun x21 => ([(enc ((Prod.fst x21) : Unit)), (enc ((Prod.fst (Prod.snd x21)) : Bool)), (enc ((Prod.fst (Prod.snd (Prod.snd x21))) : Bool)), (enc ((Prod.fst (Prod.snd (Prod.snd (Prod.snd x21)))) : Int)), (enc ((Prod.fst (Prod.snd (Prod.snd (Prod.snd (Prod.snd x21))))) : Int)), (enc ((Prod.fst (Prod.snd (Prod.snd (Prod.snd (Prod.snd (Prod.snd x21)))))) : Int)), (enc ((Prod.fst (Prod.snd (Prod.snd (Prod.snd (Prod.snd (Prod.snd (Prod.snd x21))))))) : Str)), (enc ((Prod.fst (Prod.snd (Prod.snd (Prod.snd (Prod.snd (Prod.snd (Prod.snd (Prod.snd x21)))))))) : Str)), (enc ((Prod.fst (Prod.snd (Prod.snd (Prod.snd (Prod.snd (Prod.snd (Prod.snd (Prod.snd (Prod.snd x21))))))))) : (List Int))), (enc ((Prod.fst (Prod.snd (Prod.snd (Prod.snd (Prod.snd (Prod.snd (Prod.snd (Prod.snd (Prod.snd (Prod.snd x21)))))))))) : (Tp Int))), (enc ((Prod.fst (Prod.snd (Prod.snd (Prod.snd (Prod.snd (Prod.snd (Prod.snd (Prod.snd (Prod.snd (Prod.snd (Prod.snd x21))))))))))) : (Dc Int Int)))] : (List PyData))))).ev fun x33 => (rf_eq rfl (.cons .aa .nil)))))
end P
namespace P
open PySem PySem.Spec PyProof.Rows L2 Hb Nv
open Enc (enc)
def B__law_bad_lines : List Sl → Ot :=
    oSeq (oAsg (sTk (sLst (lCons (sC .none) (lCons (sC (.bool true)) (lCons (sC (.int 0)) (lCons (sC (.str "")) (lCons (sC (.str "0-1")) (lCons (sTup (lNil)) (lCons (sLst (lNil)) (lCons (sDic0) (lCons (sTup (lCons (sC (.int 0)) (lCons (sC (.int 1)) (lNil)))) (lCons (sLst (lCons (sC (.int 1)) (lNil))) (lCons (sLst (lCons (sC (.int 0)) (lCons (sC (.int 0)) (lNil)))) (lCons (sLst (lCons (sC (.int 0)) (lCons (sC (.int 2)) (lNil)))) (lCons (sLst (lCons (sC (.int 1)) (lCons (sC (.int 2)) (lNil)))) (lCons (sLst (lCons (sC (.bool true)) (lCons (sC (.bool false)) (lNil)))) (lCons (sLst (lCons (sC .none) (lNil))) (lCons (sLst (lCons (sC (.str "0")) (lNil))) (lNil))))))))))))))))))) (tgN 0))
    (oRet (s2 gAdd (sVar 0) (sLst (lCons (s1 gRg1 (sC (.int 13))) (lCons (sLst (lCons (sC (.int 0)) (lCons (sC (.int 1)) (lCons (sC (.int 2)) (lCons (sC (.int 2)) (lNil)))))) (lCons (sLst (lCons (sC (.int 0)) (lCons (s1 gNeg (sC (.int 1))) (lNil)))) (lCons (sLst (lCons (sLst (lCons (sC (.int 0)) (lNil))) (lNil))) (lCons (sLst (lCons (sC (.bool false)) (lNil))) (lCons (sLst (lCons (sC (.int 0)) (lCons (s2 gPowW (sC (.int 10)) (sC (.int 39))) (lNil)))) (lCons (sLst (lCons (sC (.int 0)) (lCons (sC (.bool true)) (lNil)))) (lNil)))))))))))
def F__law_bad_lines : List Sl → FR := fnRun 0 1 [] B__law_bad_lines
def n__law_bad_lines  : Option ((List PyData)) :=
    (Option.bind (Option.bind (Option.bind (some ()) fun x1 => Option.bind (Option.bind (some true) fun x2 => Option.bind (Option.bind (some (0 : Int)) fun x3 => Option.bind (Option.bind (some ("" : Str)) fun x4 => Option.bind (Option.bind (some ("0-1" : Str)) fun x5 => Option.bind (Option.bind (some (Tp.mk [])) fun x6 => Option.bind (Option.bind (some []) fun x7 => Option.bind (Option.bind (some (Dc.mk [] : (Dc Int Int))) fun x8 => Option.bind (Option.bind (Option.bind (Option.bind (some (0 : Int)) fun x9 => Option.bind (Option.bind (some (1 : Int)) fun x10 => Option.bind (some ()) fun x12 => some (x10, x12)) fun x13 => some (x9, x13)) fun x11 => some (((Prod.fst x11), (Prod.fst (Prod.snd x11))) : (Int × Int))) fun x14 => Option.bind (Option.bind (Option.bind (Option.bind (some (1 : Int)) fun x15 => Option.bind (some ()) fun x17 => some (x15, x17)) fun x16 => some ([(Prod.fst x16)] : (List Int))) fun x18 => Option.bind (Option.bind (Option.bind (Option.bind (some (0 : Int)) fun x19 => Option.bind (Option.bind (some (0 : Int)) fun x20 => Option.bind (some ()) fun x22 => some (x20, x22)) fun x23 => some (x19, x23)) fun x21 => some ([(Prod.fst x21), (Prod.fst (Prod.snd x21))] : (List Int))) fun x24 => Option.bind (Option.bind (Option.bind (Option.bind (some (0 : Int)) fun x25 => Option.bind (Option.bind (some (2 : Int)) fun x26 => Option.bind (some ()) fun x28 => some (x26, x28)) fun x29 => some (x25, x29)) fun x27 => some ([(Prod.fst x27), (Prod.fst (Prod.snd x27))] : (List Int))) fun x30 => Option.bind (Option.bind (Option.bind (Option.bind (some (1 : Int)) fun x31 => Option.bind (Option.bind (some (2 : Int)) fun x32 => Option.bind (some ()) fun x34 => some (x32, x34)) fun x35 => some (x31, x35)) fun x33 => some ([(Prod.fst x33), (Prod.fst (Prod.snd x33))] : (List Int))) fun x36 => Option.bind (Option.bind (Option.bind (Option.bind (some true) fun x37 => Option.bind (Option.bind (some false) fun x38 => Option.bind (some ()) fun x40 => some (x38, x40)) fun x41 => some (x37, x41)) fun x39 => some ([(Prod.fst x39), (Prod.fst (Prod.snd x39))] : (List Bool))) fun x42 => Option.bind (Option.bind (Option.bind (Option.bind (some ()) fun x43 => Option.bind (some ()) fun x45 => some (x43, x45)) fun x44 => some ([(Prod.fst x44)] : (List Unit))) fun x46 => Option.bind (Option.bind (Option.bind (Option.bind (some ("0" : Str)) fun x47 => Option.bind (some ()) fun x49 => some (x47, x49)) fun x48 => some ([(Prod.fst x48)] : (List Str))) fun x50 => Option.bind (some ()) fun x52 => some (x50, x52)) fun x53 => some (x46, x53)) fun x54 => some (x42, x54)) fun x55 => some (x36, x55)) fun x56 => some (x30, x56)) fun x57 => some (x24, x57)) fun x58 => some (x18, x58)) fun x59 => some (x14, x59)) fun x60 => some (x8, x60)) fun x61 => some (x7, x61)) fun x62 => some (x6, x62)) fun x63 => some (x5, x63)) fun x64 => some (x4, x64)) fun x65 => some (x3, x65)) fun x66 => some (x2, x66)) fun x67 => some (x1, x67)) fun x51 => some ([(enc ((Prod.fst x51) : Unit)), (enc ((Prod.fst (Prod.snd x51)) : Bool)), (enc ((Prod.fst (Prod.snd (Prod.snd x51))) : Int)), (enc ((Prod.fst (Prod.snd (Prod.snd (Prod.snd x51)))) : Str)), (enc ((Prod.fst (Prod.snd (Prod.snd (Prod.snd (Prod.snd x51))))) : Str)), (enc ((Prod.fst (Prod.snd (Prod.snd (Prod.snd (Prod.snd (Prod.snd x51)))))) : (Tp Int))), (enc ((Prod.fst (Prod.snd (Prod.snd (Prod.snd (Prod.snd (Prod.snd (Prod.snd x51))))))) : (List Int))), (enc ((Prod.fst (Prod.snd (Prod.snd (Prod.snd (Prod.snd (Prod.snd (Prod.snd (Prod.snd x51)))))))) : (Dc Int Int))), (enc ((Prod.fst (Prod.snd (Prod.snd (Prod.snd (Prod.snd (Prod.snd (Prod.snd (Prod.snd (Prod.snd x51))))))))) : (Int × Int))), (enc ((Prod.fst (Prod.snd (Prod.snd (Prod.snd (Prod.snd (Prod.snd (Prod.snd (Prod.snd (Prod.snd (Prod.snd x51)))))))))) : (List Int))), (enc ((Prod.fst (Prod.snd (Prod.snd (Prod.snd (Prod.snd (Prod.snd (Prod.snd (Prod.snd (Prod.snd (Prod.snd (Prod.snd x51))))))))))) : (List Int))), (enc ((Prod.fst (Prod.snd (Prod.snd (Prod.snd (Prod.snd (Prod.snd (Prod.snd (Prod.snd (Prod.snd (Prod.snd (Prod.snd (Prod.snd x51)))))))))))) : (List Int))), (enc ((Prod.fst (Prod.snd (Prod.snd (Prod.snd (Prod.snd (Prod.snd (Prod.snd (Prod.snd (Prod.snd (Prod.snd (Prod.snd (Prod.snd (Prod.snd x51))))))))))))) : (List Int))), (enc ((Prod.fst (Prod.snd (Prod.snd (Prod.snd (Prod.snd (Prod.snd (Prod.snd (Prod.snd (Prod.snd (Prod.snd (Prod.snd (Prod.snd (Prod.snd (Prod.snd x51)))))))))))))) : (List Bool))), (enc ((Prod.fst (Prod.snd (Prod.snd (Prod.snd (Prod.snd (Prod.snd (Prod.snd (Prod.snd (Prod.snd (Prod.snd (Prod.snd (Prod.snd (Prod.snd (Prod.snd (Prod.snd x51))))))))))))))) : (List Unit))), (enc ((Prod.fst (Prod.snd (Prod.snd (Prod.snd (Prod.snd (Prod.snd (Prod.snd (Prod.snd (Prod.snd (Prod.snd (Prod.snd (Prod.snd (Prod.snd (Prod.snd (Prod.snd (Prod.snd x51)))))))))))))))) : (List Str)))] : (List PyData))) fun x68 => (Option.bind (Option.bind (some x68) fun x121 => Option.bind (Option.bind (Option.bind (Option.bind (some (13 : Int)) fun x69 => rg1 x69) fun x70 => Option.bind (Option.bind (Option.bind (Option.bind (some (0 : Int)) fun x71 => Option.bind (Option.bind (some (1 : Int)) fun x72 => Option.bind (Option.bind (some (2 : Int)) fun x73 => Option.bind (Option.bind (some (2 : Int)) fun x74 => Option.bind (some ()) fun x76 => some (x74, x76)) fun x77 => some (x73, x77)) fun x78 => some (x72, x78)) fun x79 => some (x71, x79)) fun x75 => some ([(Prod.fst x75), (Prod.fst (Prod.snd x75)), (Prod.fst (Prod.snd (Prod.snd x75))), (Prod.fst (Prod.snd (Prod.snd (Prod.snd x75))))] : (List Int))) fun x80 => Option.bind (Option.bind (Option.bind (Option.bind (some (0 : Int)) fun x81 => Option.bind (Option.bind (Option.bind (some (1 : Int)) fun x82 => negI x82) fun x83 => Option.bind (some ()) fun x85 => some (x83, x85)) fun x86 => some (x81, x86)) fun x84 => some ([(Prod.fst x84), (Prod.fst (Prod.snd x84))] : (List Int))) fun x87 => Option.bind (Option.bind (Option.bind (Option.bind (Option.bind (Option.bind (some (0 : Int)) fun x88 => Option.bind (some ()) fun x90 => some (x88, x90)) fun x89 => some ([(Prod.fst x89)] : (List Int))) fun x91 => Option.bind (some ()) fun x93 => some (x91, x93)) fun x92 => some ([(Prod.fst x92)] : (List (List Int)))) fun x94 => Option.bind (Option.bind (Option.bind (Option.bind (some false) fun x95 => Option.bind (some ()) fun x97 => some (x95, x97)) fun x96 => some ([(Prod.fst x96)] : (List Bool))) fun x98 => Option.bind (Option.bind (Option.bind (Option.bind (some (0 : Int)) fun x99 => Option.bind (Option.bind (Option.bind (some (10 : Int)) fun x100 => Option.bind (some (39 : Int)) fun x101 => powW x100 x101) fun x102 => Option.bind (some ()) fun x104 => some (x102, x104)) fun x105 => some (x99, x105)) fun x103 => some ([(Prod.fst x103), (Prod.fst (Prod.snd x103))] : (List Int))) fun x106 => Option.bind (Option.bind (Option.bind (Option.bind (some (0 : Int)) fun x107 => Option.bind (Option.bind (some true) fun x108 => Option.bind (some ()) fun x110 => some (x108, x110)) fun x111 => some (x107, x111)) fun x109 => some ([(enc ((Prod.fst x109) : Int)), (enc ((Prod.fst (Prod.snd x109)) : Bool))] : (List PyData))) fun x112 => Option.bind (some ()) fun x114 => some (x112, x114)) fun x115 => some (x106, x115)) fun x116 => some (x98, x116)) fun x117 => some (x94, x117)) fun x118 => some (x87, x118)) fun x119 => some (x80, x119)) fun x120 => some (x70, x120)) fun x113 => some ([(enc ((Prod.fst x113) : (List Int))), (enc ((Prod.fst (Prod.snd x113)) : (List Int))), (enc ((Prod.fst (Prod.snd (Prod.snd x113))) : (List Int))), (enc ((Prod.fst (Prod.snd (Prod.snd (Prod.snd x113)))) : (List (List Int)))), (enc ((Prod.fst (Prod.snd (Prod.snd (Prod.snd (Prod.snd x113))))) : (List Bool))), (enc ((Prod.fst (Prod.snd (Prod.snd (Prod.snd (Prod.snd (Prod.snd x113)))))) : (List Int))), (enc ((Prod.fst (Prod.snd (Prod.snd (Prod.snd (Prod.snd (Prod.snd (Prod.snd x113))))))) : (List PyData)))] : (List PyData))) fun x122 => catL x121 x122) fun x123 => some x123))
theorem V__law_bad_lines  : Fun F__law_bad_lines (n__law_bad_lines ) [] (fun r : ((List PyData)) => ow (r : (List PyData))) fun r => [] :=
  fun_of (ΓR := fun r => [.aa]) (show Bl B__law_bad_lines _ _ _ from (bl_ga [.eq .no] (by kernel_rfl) (bl_asgV ((((pu_lst (dp_cons (pu_none).tkP (dp_cons (pu_c).tkP (dp_cons (pu_c).tkP (dp_cons (pu_c).tkP (dp_cons (pu_c).tkP (dp_cons (pu_nilT).tkP (dp_cons ((pu_nil).tkTP ow_tree) (dp_cons ((pu_dicn).tkTP fun _ => rfl) (dp_cons ((pu_tup (dp_cons (pu_c).tkP (dp_cons (pu_c).tkP dp_nil)) (fun x11 => (((Prod.fst x11), (Prod.fst (Prod.snd x11))) : (Int × Int))))).tkP (dp_cons (((pu_lst (dp_cons (pu_c).tkP dp_nil) (fun x16 => ([(Prod.fst x16)] : (List Int))))).tkTP ow_tree) (dp_cons (((pu_lst (dp_cons (pu_c).tkP (dp_cons (pu_c).tkP dp_nil)) (fun x21 => ([(Prod.fst x21), (Prod.fst (Prod.snd x21))] : (List Int))))).tkTP ow_tree) (dp_cons (((pu_lst (dp_cons (pu_c).tkP (dp_cons (pu_c).tkP dp_nil)) (fun x27 => ([(Prod.fst x27), (Prod.fst (Prod.snd x27))] : (List Int))))).tkTP ow_tree) (dp_cons (((pu_lst (dp_cons (pu_c).tkP (dp_cons (pu_c).tkP dp_nil)) (fun x33 => ([(Prod.fst x33), (Prod.fst (Prod.snd x33))] : (List Int))))).tkTP ow_tree) (dp_cons (((pu_lst (dp_cons (pu_c).tkP (dp_cons (pu_c).tkP dp_nil)) (fun x39 => ([(Prod.fst x39), (Prod.fst (Prod.snd x39))] : (List Bool))))).tkTP ow_tree) (dp_cons (((pu_lst (dp_cons (pu_none).tkP dp_nil) (fun x44 => ([(Prod.fst x44)] : (List Unit))))).tkTP ow_tree) (dp_cons (((pu_lst (dp_cons (pu_c).tkP dp_nil) (fun x48 => ([(Prod.fst x48)] : (List Str))))).tkTP ow_tree) dp_nil)))))))))))))))) (fun x51 => ([(enc ((Prod.fst x51) : Unit)), (enc ((Prod.fst (Prod.snd x51)) : Bool)), (enc ((Prod.fst (Prod.snd (Prod.snd x51))) : Int)), (enc ((Prod.fst (Prod.snd (Prod.snd (Prod.snd x51)))) : Str)), (enc ((Prod.fst (Prod.snd (Prod.snd (Prod.snd (Prod.snd x51))))) : Str)), (enc ((Prod.fst (Prod.snd (Prod.snd (Prod.snd (Prod.snd (Prod.snd x51)))))) : (Tp Int))), (enc ((Prod.fst (Prod.snd (Prod.snd (Prod.snd (Prod.snd (Prod.snd (Prod.snd x51))))))) : (List Int))), (enc ((Prod.fst (Prod.snd (Prod.snd (Prod.snd (Prod.snd (Prod.snd (Prod.snd (Prod.snd x51)))))))) : (Dc Int Int))), (enc ((Prod.fst (Prod.snd (Prod.snd (Prod.snd (Prod.snd (Prod.snd (Prod.snd (Prod.snd (Prod.snd x51))))))))) : (Int × Int))), (enc ((Prod.fst (Prod.snd (Prod.snd (Prod.snd (Prod.snd (Prod.snd (Prod.snd (Prod.snd (Prod.snd (Prod.snd x51)))))))))) : (List Int))), (enc ((Prod.fst (Prod.snd (Prod.snd (Prod.snd (Prod.snd (Prod.snd (Prod.snd (Prod.snd (Prod.snd (Prod.snd (Prod.snd x51))))))))))) : (List Int))), (enc ((Prod.fst (Prod.snd (Prod.snd (Prod.snd (Prod.snd (Prod.snd (Prod.snd (Prod.snd (Prod.snd (Prod.snd (Prod.snd (Prod.snd x51)))))))))))) : (List Int))), (enc ((Prod.fst (Prod.snd (Prod.snd (Prod.snd (Prod.snd (Prod.snd (Prod.snd (Prod.snd (Prod.snd (Prod.snd (Prod.snd (Prod.snd (Prod.snd x51))))))))))))) : (List Int))), (enc ((Prod.fst (Prod.snd (Prod.snd (Prod.snd (Prod.snd (Prod.snd (Prod.snd (Prod.snd (Prod.snd (Prod.snd (Prod.snd (Prod.snd (Prod.snd (Prod.snd x51)))))))))))))) : (List Bool))), (enc ((Prod.fst (Prod.snd (Prod.snd (Prod.snd (Prod.snd (Prod.snd (Prod.snd (Prod.snd (Prod.snd (Prod.snd (Prod.snd (Prod.snd (Prod.snd (Prod.snd (Prod.snd x51))))))))))))))) : (List Unit))), (enc ((Prod.fst (Prod.snd (Prod.snd (Prod.snd (Prod.snd (Prod.snd (Prod.snd (Prod.snd (Prod.snd (Prod.snd (Prod.snd (Prod.snd (Prod.snd (Prod.snd (Prod.snd (Prod.snd x51)))))))))))))))) : (List Str)))] : (List PyData))))).tkTP ow_tree)).ev fun x68 => (bl_ga [.eq (.fz (enc (x68 : (List PyData))))] (by kernel_rfl) (bl_retT ((pu2 Nv.op_cat ((pu_var 0 rfl)).rd (((pu_lst (dp_cons (((pu1 Nv.op_rg1 (pu_c).rd)).tkTP ow_tree) (dp_cons (((pu_lst (dp_cons (pu_c).tkP (dp_cons (pu_c).tkP (dp_cons (pu_c).tkP (dp_cons (pu_c).tkP dp_nil)))) (fun x75 => ([(Prod.fst x75), (Prod.fst (Prod.snd x75)), (Prod.fst (Prod.snd (Prod.snd x75))), (Prod.fst (Prod.snd (Prod.snd (Prod.snd x75))))] : (List Int))))).tkTP ow_tree) (dp_cons (((pu_lst (dp_cons (pu_c).tkP (dp_cons ((pu1 Nv.op_neg (pu_c).rd)).tkP dp_nil)) (fun x84 => ([(Prod.fst x84), (Prod.fst (Prod.snd x84))] : (List Int))))).tkTP ow_tree) (dp_cons (((pu_lst (dp_cons (((pu_lst (dp_cons (pu_c).tkP dp_nil) (fun x89 => ([(Prod.fst x89)] : (List Int))))).tkTP ow_tree) dp_nil) (fun x92 => ([(Prod.fst x92)] : (List (List Int)))))).tkTP ow_tree) (dp_cons (((pu_lst (dp_cons (pu_c).tkP dp_nil) (fun x96 => ([(Prod.fst x96)] : (List Bool))))).tkTP ow_tree) (dp_cons (((pu_lst (dp_cons (pu_c).tkP (dp_cons ((pu2 Nv.op_powW (pu_c).rd (pu_c).rd)).tkP dp_nil)) (fun x103 => ([(Prod.fst x103), (Prod.fst (Prod.snd x103))] : (List Int))))).tkTP ow_tree) (dp_cons (((pu_lst (dp_cons (pu_c).tkP (dp_cons (pu_c).tkP dp_nil)) (fun x109 => ([(enc ((Prod.fst x109) : Int)), (enc ((Prod.fst (Prod.snd x109)) : Bool))] : (List PyData))))).tkTP ow_tree) dp_nil))))))) (fun x113 => ([(enc ((Prod.fst x113) : (List Int))), (enc ((Prod.fst (Prod.snd x113)) : (List Int))), (enc ((Prod.fst (Prod.snd (Prod.snd x113))) : (List Int))), (enc ((Prod.fst (Prod.snd (Prod.snd (Prod.snd x113)))) : (List (List Int)))), (enc ((Prod.fst (Prod.snd (Prod.snd (Prod.snd (Prod.snd x113))))) : (List Bool))), (enc ((Prod.fst (Prod.snd (Prod.snd (Prod.snd (Prod.snd (Prod.snd x113)))))) : (List Int))), (enc ((Prod.fst (Prod.snd (Prod.snd (Prod.snd (Prod.snd (Prod.snd (Prod.snd x113))))))) : (List PyData)))] : (List PyData))))).rdT ow_tree))).ev fun x123 => (rf_eq rfl (.cons .aa .nil)))))))
end P
namespace P
open PySem PySem.Spec PyProof.Rows L2 Hb Nv
open Enc (enc)
def B__law_bad_lists : List Sl → Ot :=
    oSeq (oAsg (sTk (s1 gRg1 (sVar 0))) (tgN 1))
    (oSeq (oAsg (sTk (sLst (lCons (sC .none) (lCons (sC (.bool true)) (lCons (sC (.int 0)) (lCons (sC (.str "")) (lCons (sTup (lNil)) (lCons (sDic0) (lCons (sTup (lCons (sVar 1) (lNil))) (lCons (s2 gMulX (sLst (lCons (sVar 1) (lNil))) (sC (.int 41))) (lCons (sLst (lCons (sC .none) (lNil))) (lCons (sLst (lCons (sC (.int 0)) (lNil))) (lCons (sLst (lCons (sLst (lNil)) (lNil))) (lCons (sLst (lCons (sLst (lCons (sVar 1) (lNil))) (lNil))) (lCons (sLst (lCons (sC (.str "0")) (lNil))) (lCons (sLst (lCons (sVar 1) (lCons (sC .none) (lNil)))) (lNil))))))))))))))))) (tgN 2))
    (oRet (s2 gAdd (sVar 2) (sLc false (wSeq (sCall F__law_bad_ballots [] (rCons (sTk (sVar 0)) (rNil)))) [3] (tgN 3) (tOk) (sTk (sLst (lCons (sVar 1) (lCons (sVar 3) (lNil)))))))))
def F__law_bad_lists : List Sl → FR := fnRun 1 4 [] B__law_bad_lists
def n__law_bad_lists (a0 : Int) : Option ((List PyData)) :=
    (Option.bind (Option.bind (some a0) fun x1 => rg1 x1) fun x2 => (Option.bind (Option.bind (Option.bind (some ()) fun x3 => Option.bind (Option.bind (some true) fun x4 => Option.bind (Option.bind (some (0 : Int)) fun x5 => Option.bind (Option.bind (some ("" : Str)) fun x6 => Option.bind (Option.bind (some (Tp.mk [])) fun x7 => Option.bind (Option.bind (some (Dc.mk [] : (Dc Int Int))) fun x8 => Option.bind (Option.bind (Option.bind (Option.bind (some x2) fun x9 => Option.bind (some ()) fun x11 => some (x9, x11)) fun x10 => some ((Tp.mk [(Prod.fst x10)]) : (Tp (List Int)))) fun x12 => Option.bind (Option.bind (Option.bind (Option.bind (Option.bind (some x2) fun x13 => Option.bind (some ()) fun x15 => some (x13, x15)) fun x14 => some ([(Prod.fst x14)] : (List (List Int)))) fun x16 => Option.bind (some (41 : Int)) fun x17 => repL x16 x17) fun x18 => Option.bind (Option.bind (Option.bind (Option.bind (some ()) fun x19 => Option.bind (some ()) fun x21 => some (x19, x21)) fun x20 => some ([(Prod.fst x20)] : (List Unit))) fun x22 => Option.bind (Option.bind (Option.bind (Option.bind (some (0 : Int)) fun x23 => Option.bind (some ()) fun x25 => some (x23, x25)) fun x24 => some ([(Prod.fst x24)] : (List Int))) fun x26 => Option.bind (Option.bind (Option.bind (Option.bind (some []) fun x27 => Option.bind (some ()) fun x29 => some (x27, x29)) fun x28 => some ([(Prod.fst x28)] : (List (List Int)))) fun x30 => Option.bind (Option.bind (Option.bind (Option.bind (Option.bind (Option.bind (some x2) fun x31 => Option.bind (some ()) fun x33 => some (x31, x33)) fun x32 => some ([(Prod.fst x32)] : (List (List Int)))) fun x34 => Option.bind (some ()) fun x36 => some (x34, x36)) fun x35 => some ([(Prod.fst x35)] : (List (List (List Int))))) fun x37 => Option.bind (Option.bind (Option.bind (Option.bind (some ("0" : Str)) fun x38 => Option.bind (some ()) fun x40 => some (x38, x40)) fun x39 => some ([(Prod.fst x39)] : (List Str))) fun x41 => Option.bind (Option.bind (Option.bind (Option.bind (some x2) fun x42 => Option.bind (Option.bind (some ()) fun x43 => Option.bind (some ()) fun x45 => some (x43, x45)) fun x46 => some (x42, x46)) fun x44 => some ([(some (Prod.fst x44)), (none : (Option (List Int)))] : (List (Option (List Int))))) fun x47 => Option.bind (some ()) fun x49 => some (x47, x49)) fun x50 => some (x41, x50)) fun x51 => some (x37, x51)) fun x52 => some (x30, x52)) fun x53 => some (x26, x53)) fun x54 => some (x22, x54)) fun x55 => some (x18, x55)) fun x56 => some (x12, x56)) fun x57 => some (x8, x57)) fun x58 => some (x7, x58)) fun x59 => some (x6, x59)) fun x60 => some (x5, x60)) fun x61 => some (x4, x61)) fun x62 => some (x3, x62)) fun x48 => some ([(enc ((Prod.fst x48) : Unit)), (enc ((Prod.fst (Prod.snd x48)) : Bool)), (enc ((Prod.fst (Prod.snd (Prod.snd x48))) : Int)), (enc ((Prod.fst (Prod.snd (Prod.snd (Prod.snd x48)))) : Str)), (enc ((Prod.fst (Prod.snd (Prod.snd (Prod.snd (Prod.snd x48))))) : (Tp Int))), (enc ((Prod.fst (Prod.snd (Prod.snd (Prod.snd (Prod.snd (Prod.snd x48)))))) : (Dc Int Int))), (enc ((Prod.fst (Prod.snd (Prod.snd (Prod.snd (Prod.snd (Prod.snd (Prod.snd x48))))))) : (Tp (List Int)))), (enc ((Prod.fst (Prod.snd (Prod.snd (Prod.snd (Prod.snd (Prod.snd (Prod.snd (Prod.snd x48)))))))) : (List (List Int)))), (enc ((Prod.fst (Prod.snd (Prod.snd (Prod.snd (Prod.snd (Prod.snd (Prod.snd (Prod.snd (Prod.snd x48))))))))) : (List Unit))), (enc ((Prod.fst (Prod.snd (Prod.snd (Prod.snd (Prod.snd (Prod.snd (Prod.snd (Prod.snd (Prod.snd (Prod.snd x48)))))))))) : (List Int))), (enc ((Prod.fst (Prod.snd (Prod.snd (Prod.snd (Prod.snd (Prod.snd (Prod.snd (Prod.snd (Prod.snd (Prod.snd (Prod.snd x48))))))))))) : (List (List Int)))), (enc ((Prod.fst (Prod.snd (Prod.snd (Prod.snd (Prod.snd (Prod.snd (Prod.snd (Prod.snd (Prod.snd (Prod.snd (Prod.snd (Prod.snd x48)))))))))))) : (List (List (List Int))))), (enc ((Prod.fst (Prod.snd (Prod.snd (Prod.snd (Prod.snd (Prod.snd (Prod.snd (Prod.snd (Prod.snd (Prod.snd (Prod.snd (Prod.snd (Prod.snd x48))))))))))))) : (List Str))), (enc ((Prod.fst (Prod.snd (Prod.snd (Prod.snd (Prod.snd (Prod.snd (Prod.snd (Prod.snd (Prod.snd (Prod.snd (Prod.snd (Prod.snd (Prod.snd (Prod.snd x48)))))))))))))) : (List (Option (List Int)))))] : (List PyData))) fun x63 => (Option.bind (Option.bind (some x63) fun x75 => Option.bind (Option.bind (Option.bind (Option.bind (Option.bind (some a0) fun x64 => Option.bind (some ()) fun x65 => some (x64, x65)) fun x66 => n__law_bad_ballots ((Prod.fst x66) : Int)) fun x67 => if List.length (x67) ≤ cap then mapF x67 (fun x68 => (some true)) (fun x68 => (Option.bind (Option.bind (some x2) fun x69 => Option.bind (Option.bind (some x68) fun x70 => Option.bind (some ()) fun x72 => some (x70, x72)) fun x73 => some (x69, x73)) fun x71 => some ([(enc ((Prod.fst x71) : (List Int))), (Prod.fst (Prod.snd x71))] : (List PyData)))) else none) fun x74 => some (List.map enc (x74 : (List (List PyData))))) fun x76 => catL x75 x76) fun x77 => some x77)))
theorem V__law_bad_lists (a0 : Int) : Fun F__law_bad_lists (n__law_bad_lists a0) [.fz (enc a0)] (fun r : ((List PyData)) => ow (r : (List PyData))) fun r => [.no] :=
  fun_of (ΓR := fun r => [.aa, .aa, .aa, .aa]) (show Bl B__law_bad_lists _ _ _ from (bl_ga [.eq (.fz (enc (a0 : Int))), .eq .no, .eq .no, .eq .no] (by kernel_rfl) (bl_asgV ((((pu1 Nv.op_rg1 ((pu_var 0 rfl)).rd)).tkTP ow_tree)).ev fun x2 => (bl_ga [.eq (.fz (enc (a0 : Int))), .eq (.fz (enc (x2 : (List Int)))), .eq .no, .eq .no] (by kernel_rfl) (bl_asgV ((((pu_lst (dp_cons (pu_none).tkP (dp_cons (pu_c).tkP (dp_cons (pu_c).tkP (dp_cons (pu_c).tkP (dp_cons (pu_nilT).tkP (dp_cons ((pu_dicn).tkTP fun _ => rfl) (dp_cons ((pu_tup (dp_cons ((pu_var 1 rfl)).tkP dp_nil) (fun x10 => ((Tp.mk [(Prod.fst x10)]) : (Tp (List Int)))))).tkP (dp_cons (((pu2 Nv.op_rep (((pu_lst (dp_cons ((pu_var 1 rfl)).tkP dp_nil) (fun x14 => ([(Prod.fst x14)] : (List (List Int)))))).rdT ow_tree) (pu_c).rd)).tkTP ow_tree) (dp_cons (((pu_lst (dp_cons (pu_none).tkP dp_nil) (fun x20 => ([(Prod.fst x20)] : (List Unit))))).tkTP ow_tree) (dp_cons (((pu_lst (dp_cons (pu_c).tkP dp_nil) (fun x24 => ([(Prod.fst x24)] : (List Int))))).tkTP ow_tree) (dp_cons (((pu_lst (dp_cons ((pu_nil).tkTP ow_tree) dp_nil) (fun x28 => ([(Prod.fst x28)] : (List (List Int)))))).tkTP ow_tree) (dp_cons (((pu_lst (dp_cons (((pu_lst (dp_cons ((pu_var 1 rfl)).tkP dp_nil) (fun x32 => ([(Prod.fst x32)] : (List (List Int)))))).tkTP ow_tree) dp_nil) (fun x35 => ([(Prod.fst x35)] : (List (List (List Int))))))).tkTP ow_tree) (dp_cons (((pu_lst (dp_cons (pu_c).tkP dp_nil) (fun x39 => ([(Prod.fst x39)] : (List Str))))).tkTP ow_tree) (dp_cons (((pu_lst (dp_cons ((pu_var 1 rfl)).tkP (dp_cons (pu_none).tkP dp_nil)) (fun x44 => ([(some (Prod.fst x44)), (none : (Option (List Int)))] : (List (Option (List Int))))))).tkTP ow_tree) dp_nil)))))))))))))) (fun x48 => ([(enc ((Prod.fst x48) : Unit)), (enc ((Prod.fst (Prod.snd x48)) : Bool)), (enc ((Prod.fst (Prod.snd (Prod.snd x48))) : Int)), (enc ((Prod.fst (Prod.snd (Prod.snd (Prod.snd x48)))) : Str)), (enc ((Prod.fst (Prod.snd (Prod.snd (Prod.snd (Prod.snd x48))))) : (Tp Int))), (enc ((Prod.fst (Prod.snd (Prod.snd (Prod.snd (Prod.snd (Prod.snd x48)))))) : (Dc Int Int))), (enc ((Prod.fst (Prod.snd (Prod.snd (Prod.snd (Prod.snd (Prod.snd (Prod.snd x48))))))) : (Tp (List Int)))), (enc ((Prod.fst (Prod.snd (Prod.snd (Prod.snd (Prod.snd (Prod.snd (Prod.snd (Prod.snd x48)))))))) : (List (List Int)))), (enc ((Prod.fst (Prod.snd (Prod.snd (Prod.snd (Prod.snd (Prod.snd (Prod.snd (Prod.snd (Prod.snd x48))))))))) : (List Unit))), (enc ((Prod.fst (Prod.snd (Prod.snd (Prod.snd (Prod.snd (Prod.snd (Prod.snd (Prod.snd (Prod.snd (Prod.snd x48)))))))))) : (List Int))), (enc ((Prod.fst (Prod.snd (Prod.snd (Prod.snd (Prod.snd (Prod.snd (Prod.snd (Prod.snd (Prod.snd (Prod.snd (Prod.snd x48))))))))))) : (List (List Int)))), (enc ((Prod.fst (Prod.snd (Prod.snd (Prod.snd (Prod.snd (Prod.snd (Prod.snd (Prod.snd (Prod.snd (Prod.snd (Prod.snd (Prod.snd x48)))))))))))) : (List (List (List Int))))), (enc ((Prod.fst (Prod.snd (Prod.snd (Prod.snd (Prod.snd (Prod.snd (Prod.snd (Prod.snd (Prod.snd (Prod.snd (Prod.snd (Prod.snd (Prod.snd x48))))))))))))) : (List Str))), (enc ((Prod.fst (Prod.snd (Prod.snd (Prod.snd (Prod.snd (Prod.snd (Prod.snd (Prod.snd (Prod.snd (Prod.snd (Prod.snd (Prod.snd (Prod.snd (Prod.snd x48)))))))))))))) : (List (Option (List Int)))))] : (List PyData))))).tkTP ow_tree)).ev fun x63 => (bl_ga [.eq (.fz (enc (a0 : Int))), .eq (.fz (enc (x2 : (List Int)))), .eq (.fz (enc (x63 : (List PyData)))), .eq .no] (by kernel_rfl) (bl_retT ((pu2 Nv.op_cat ((pu_var 2 rfl)).rd (Rd.anyL (((pu_lc (vs := [3]) (ip_seq (xs := fun v => v) (((pu_call (ap_cons ((pu_var 0 rfl)).tkP ap_nil) (fun x66 => V__law_bad_ballots ((Prod.fst x66) : Int)))).tkTP ow_tree)) rfl rfl (fun x67 x68 => tg_n) (fun x67 x68 => (ts_ga [.eq (.fz (enc (a0 : Int))), .eq (.fz (enc (x2 : (List Int)))), .eq (.fz (enc (x63 : (List PyData)))), .eq (.fz (enc (x68 : PyData)))] (by kernel_rfl) ts_ok)) fun x67 x68 => (pu_ga [.eq (.fz (enc (a0 : Int))), .eq (.fz (enc (x2 : (List Int)))), .eq (.fz (enc (x63 : (List PyData)))), .eq (.fz (enc (x68 : PyData)))] (by kernel_rfl) (((pu_lst (dp_cons ((pu_var 1 rfl)).tkP (dp_cons ((pu_var 3 rfl)).tkP dp_nil)) (fun x71 => ([(enc ((Prod.fst x71) : (List Int))), (Prod.fst (Prod.snd x71))] : (List PyData))))).tkTP ow_tree)))).rdT ow_tree)))).ev fun x77 => (rf_eq rfl (.cons .aa (.cons .aa (.cons .aa (.cons .aa .nil))))))))))))
end P
namespace P
open PySem PySem.Spec PyProof.Rows L2 Hb Nv
open Enc (enc)
def B__law_right_v20 : List Sl → Ot :=
    oSeq (oAsg (sTk (s2 gAdd (sC (.int 1)) (sCall F__law_draw [] (rIo 0 (rCons (sC (.int 12)) (rNil)))))) (tgN 1))
    (oSeq (oPar [2, 3] (rCons (sTk (sCall F__law_mixed [] (rIo 0 (rCons (sTk (sVar 1)) (rNil))))) (rCons (sTk (sCall F__law_mixed [] (rIo 0 (rCons (sTk (sVar 1)) (rNil))))) (rNil))))
    (oSeq (oPar [4, 5] (rCons (sTk (sTup (lCons (sCall F__law_bad_counts [] (rCons (sC (.int 12)) (rNil))) (lCons (sC (.str "count")) (lNil))))) (rCons (sTk (sTup (lCons (sCall F__law_bad_ballots [] (rCons (sTk (sVar 1)) (rNil))) (lCons (sC (.str "ballot")) (lNil))))) (rNil))))
    (oSeq (oPar [6, 7] (rCons (sTk (sTup (lCons (sCall F__law_bad_places [] (rCons (sTk (sVar 1)) (rNil))) (lCons (sC (.str "place")) (lNil))))) (rCons (sTk (sTup (lCons (sCall F__law_bad_lines [] rNil) (lCons (sC (.str "line")) (lNil))))) (rNil))))
    (oSeq (oIf (sOr (sNot (sTru (sCall F__law_faults [] (rCons (sC (.int 0)) (rCons (sLst (lCons (sVar 1) (lCons (sVar 2) (lNil)))) (rCons (sTk (sLst (lCons (sVar 4) (lNil)))) (rNil))))))) (sNot (sTru (sCall F__law_faults [] (rCons (sC (.int 1)) (rCons (sLst (lCons (sVar 1) (lCons (s2 gMulX (sLst (lCons (sVar 2) (lNil))) (sC (.int 40))) (lNil)))) (rCons (sTk (sLst (lCons (sVar 4) (lNil)))) (rNil)))))))) (oRet (sC (.bool false))) (oNext))
    (oSeq (oIf (sNot (sTru (sCall F__law_faults [] (rCons (sC (.int 2)) (rCons (sLst (lCons (sVar 1) (lCons (sVar 2) (lCons (s2 gSub (sVar 1) (sC (.int 1))) (lCons (sC (.int 0)) (lNil)))))) (rCons (sTk (sLst (lCons (sVar 4) (lCons (sVar 5) (lCons (sVar 6) (lCons (sVar 6) (lNil))))))) (rNil))))))) (oRet (sC (.bool false))) (oNext))
    (oSeq (oIf (sNot (sTru (sCall F__law_faults [] (rCons (sC (.int 3)) (rCons (sLst (lCons (sVar 1) (lCons (sVar 2) (lCons (sVar 3) (lNil))))) (rCons (sTk (sLst (lCons (sVar 4) (lCons (sVar 5) (lCons (sVar 5) (lNil)))))) (rNil))))))) (oRet (sC (.bool false))) (oNext))
    (oSeq (oIf (sNot (sTru (sCall F__law_faults [] (rCons (sC (.int 4)) (rCons (sLst (lCons (sVar 3) (lCons (s2 gMulX (sLst (lCons (sVar 2) (lNil))) (sC (.int 40))) (lNil)))) (rCons (sTk (sLst (lCons (sVar 7) (lCons (sTup (lCons (sCall F__law_bad_lists [] (rCons (sTk (sVar 1)) (rNil))) (lCons (sC (.str "ballots")) (lNil)))) (lNil))))) (rNil))))))) (oRet (sC (.bool false))) (oNext))
    (oRet (sCall F__law_faults [] (rCons (sC (.int 4)) (rCons (sLst (lCons (sVar 3) (lCons (sLst (lNil)) (lNil)))) (rCons (sTk (sLst (lCons (sVar 7) (lNil)))) (rNil)))))))))))))
def F__law_right_v20 : List Sl → FR := fnRun 1 8 [0, 1000000] B__law_right_v20
def n__law_right_v20 (a0 : (List Int)) : Option (Bool × (List Int)) :=
    (Option.bind (Option.bind (some (1 : Int)) fun x7 => Option.bind (Option.bind (Option.bind (some (12 : Int)) fun x1 => Option.bind (some ()) fun x2 => some (x1, x2)) fun x3 => Option.bind (n__law_draw (a0 : (List Int)) ((Prod.fst x3) : Int)) fun x4 => some (x4, x3)) fun x5 => Option.bind (addI x7 (Prod.fst (Prod.fst x5))) fun x6 => some (x6, x7, x5)) fun x8 => (Option.bind (Option.bind (Option.bind (Option.bind (some (Prod.fst x8)) fun x9 => Option.bind (some ()) fun x10 => some (x9, x10)) fun x11 => Option.bind (n__law_mixed ((Prod.snd (Prod.fst (Prod.snd (Prod.snd x8)))) : (List Int)) ((Prod.fst x11) : Int)) fun x12 => some (x12, x11)) fun x13 => Option.bind (Option.bind (Option.bind (Option.bind (some (Prod.fst x8)) fun x14 => Option.bind (some ()) fun x15 => some (x14, x15)) fun x16 => Option.bind (n__law_mixed ((Prod.snd (Prod.fst x13)) : (List Int)) ((Prod.fst x16) : Int)) fun x17 => some (x17, x16)) fun x18 => Option.bind (some ()) fun x19 => some (x18, x19)) fun x20 => some (x13, x20)) fun x21 => (Option.bind (Option.bind (Option.bind (Option.bind (Option.bind (Option.bind (some (12 : Int)) fun x22 => Option.bind (some ()) fun x23 => some (x22, x23)) fun x24 => n__law_bad_counts ((Prod.fst x24) : Int)) fun x25 => Option.bind (Option.bind (some ("count" : Str)) fun x26 => Option.bind (some ()) fun x28 => some (x26, x28)) fun x29 => some (x25, x29)) fun x27 => some (((Prod.fst x27), (Prod.fst (Prod.snd x27))) : ((List PyData) × Str))) fun x30 => Option.bind (Option.bind (Option.bind (Option.bind (Option.bind (Option.bind (some (Prod.fst x8)) fun x31 => Option.bind (some ()) fun x32 => some (x31, x32)) fun x33 => n__law_bad_ballots ((Prod.fst x33) : Int)) fun x34 => Option.bind (Option.bind (some ("ballot" : Str)) fun x35 => Option.bind (some ()) fun x37 => some (x35, x37)) fun x38 => some (x34, x38)) fun x36 => some (((Prod.fst x36), (Prod.fst (Prod.snd x36))) : ((List PyData) × Str))) fun x39 => Option.bind (some ()) fun x40 => some (x39, x40)) fun x41 => some (x30, x41)) fun x42 => (Option.bind (Option.bind (Option.bind (Option.bind (Option.bind (Option.bind (some (Prod.fst x8)) fun x43 => Option.bind (some ()) fun x44 => some (x43, x44)) fun x45 => n__law_bad_places ((Prod.fst x45) : Int)) fun x46 => Option.bind (Option.bind (some ("place" : Str)) fun x47 => Option.bind (some ()) fun x49 => some (x47, x49)) fun x50 => some (x46, x50)) fun x48 => some (((Prod.fst x48), (Prod.fst (Prod.snd x48))) : ((List PyData) × Str))) fun x51 => Option.bind (Option.bind (Option.bind (Option.bind (Option.bind (some ()) fun x52 => n__law_bad_lines ) fun x53 => Option.bind (Option.bind (some ("line" : Str)) fun x54 => Option.bind (some ()) fun x56 => some (x54, x56)) fun x57 => some (x53, x57)) fun x55 => some (((Prod.fst x55), (Prod.fst (Prod.snd x55))) : ((List PyData) × Str))) fun x58 => Option.bind (some ()) fun x59 => some (x58, x59)) fun x60 => some (x51, x60)) fun x61 => (Option.bind (Option.bind (Option.bind (Option.bind (Option.bind (Option.bind (some (0 : Int)) fun x62 => Option.bind (Option.bind (Option.bind (Option.bind (some (Prod.fst x8)) fun x63 => Option.bind (Option.bind (some (Prod.fst (Prod.fst (Prod.fst x21)))) fun x64 => Option.bind (some ()) fun x66 => some (x64, x66)) fun x67 => some (x63, x67)) fun x65 => some ([(enc ((Prod.fst x65) : Int)), (enc ((Prod.fst (Prod.snd x65)) : (List Int)))] : (List PyData))) fun x68 => Option.bind (Option.bind (Option.bind (Option.bind (some (Prod.fst x42)) fun x69 => Option.bind (some ()) fun x71 => some (x69, x71)) fun x70 => some ([(Prod.fst x70)] : (List ((List PyData) × Str)))) fun x72 => Option.bind (some ()) fun x73 => some (x72, x73)) fun x74 => some (x68, x74)) fun x75 => some (x62, x75)) fun x76 => n__law_faults ((Prod.fst x76) : Int) ((Prod.fst (Prod.snd x76)) : (List PyData)) ((Prod.fst (Prod.snd (Prod.snd x76))) : (List ((List PyData) × Str)))) fun x77 => some (Prod.fst x77)) fun x79 => some !x79) fun x103 => if x103 = true then some true else (Option.bind (Option.bind (Option.bind (Option.bind (some (1 : Int)) fun x80 => Option.bind (Option.bind (Option.bind (Option.bind (some (Prod.fst x8)) fun x81 => Option.bind (Option.bind (Option.bind (Option.bind (Option.bind (some (Prod.fst (Prod.fst (Prod.fst x21)))) fun x82 => Option.bind (some ()) fun x84 => some (x82, x84)) fun x83 => some ([(Prod.fst x83)] : (List (List Int)))) fun x85 => Option.bind (some (40 : Int)) fun x86 => repL x85 x86) fun x87 => Option.bind (some ()) fun x89 => some (x87, x89)) fun x90 => some (x81, x90)) fun x88 => some ([(enc ((Prod.fst x88) : Int)), (enc ((Prod.fst (Prod.snd x88)) : (List (List Int))))] : (List PyData))) fun x91 => Option.bind (Option.bind (Option.bind (Option.bind (some (Prod.fst x42)) fun x92 => Option.bind (some ()) fun x94 => some (x92, x94)) fun x93 => some ([(Prod.fst x93)] : (List ((List PyData) × Str)))) fun x95 => Option.bind (some ()) fun x96 => some (x95, x96)) fun x97 => some (x91, x97)) fun x98 => some (x80, x98)) fun x99 => n__law_faults ((Prod.fst x99) : Int) ((Prod.fst (Prod.snd x99)) : (List PyData)) ((Prod.fst (Prod.snd (Prod.snd x99))) : (List ((List PyData) × Str)))) fun x100 => some (Prod.fst x100)) fun x102 => some !x102)) fun x104 => if x104 = true then (Option.bind (some false) fun x105 => some (x105, (Prod.snd (Prod.fst (Prod.fst (Prod.snd x21)))))) else (Option.bind (Option.bind (Option.bind (Option.bind (Option.bind (some (2 : Int)) fun x106 => Option.bind (Option.bind (Option.bind (Option.bind (some (Prod.fst x8)) fun x107 => Option.bind (Option.bind (some (Prod.fst (Prod.fst (Prod.fst x21)))) fun x108 => Option.bind (Option.bind (Option.bind (some (Prod.fst x8)) fun x109 => Option.bind (some (1 : Int)) fun x110 => subI x109 x110) fun x111 => Option.bind (Option.bind (some (0 : Int)) fun x112 => Option.bind (some ()) fun x114 => some (x112, x114)) fun x115 => some (x111, x115)) fun x116 => some (x108, x116)) fun x117 => some (x107, x117)) fun x113 => some ([(enc ((Prod.fst x113) : Int)), (enc ((Prod.fst (Prod.snd x113)) : (List Int))), (enc ((Prod.fst (Prod.snd (Prod.snd x113))) : Int)), (enc ((Prod.fst (Prod.snd (Prod.snd (Prod.snd x113)))) : Int))] : (List PyData))) fun x118 => Option.bind (Option.bind (Option.bind (Option.bind (some (Prod.fst x42)) fun x119 => Option.bind (Option.bind (some (Prod.fst (Prod.snd x42))) fun x120 => Option.bind (Option.bind (some (Prod.fst x61)) fun x121 => Option.bind (Option.bind (some (Prod.fst x61)) fun x122 => Option.bind (some ()) fun x124 => some (x122, x124)) fun x125 => some (x121, x125)) fun x126 => some (x120, x126)) fun x127 => some (x119, x127)) fun x123 => some ([(Prod.fst x123), (Prod.fst (Prod.snd x123)), (Prod.fst (Prod.snd (Prod.snd x123))), (Prod.fst (Prod.snd (Prod.snd (Prod.snd x123))))] : (List ((List PyData) × Str)))) fun x128 => Option.bind (some ()) fun x129 => some (x128, x129)) fun x130 => some (x118, x130)) fun x131 => some (x106, x131)) fun x132 => n__law_faults ((Prod.fst x132) : Int) ((Prod.fst (Prod.snd x132)) : (List PyData)) ((Prod.fst (Prod.snd (Prod.snd x132))) : (List ((List PyData) × Str)))) fun x133 => some (Prod.fst x133)) fun x135 => some !x135) fun x136 => if x136 = true then (Option.bind (some false) fun x137 => some (x137, (Prod.snd (Prod.fst (Prod.fst (Prod.snd x21)))))) else (Option.bind (Option.bind (Option.bind (Option.bind (Option.bind (some (3 : Int)) fun x138 => Option.bind (Option.bind (Option.bind (Option.bind (some (Prod.fst x8)) fun x139 => Option.bind (Option.bind (some (Prod.fst (Prod.fst (Prod.fst x21)))) fun x140 => Option.bind (Option.bind (some (Prod.fst (Prod.fst (Prod.fst (Prod.snd x21))))) fun x141 => Option.bind (some ()) fun x143 => some (x141, x143)) fun x144 => some (x140, x144)) fun x145 => some (x139, x145)) fun x142 => some ([(enc ((Prod.fst x142) : Int)), (enc ((Prod.fst (Prod.snd x142)) : (List Int))), (enc ((Prod.fst (Prod.snd (Prod.snd x142))) : (List Int)))] : (List PyData))) fun x146 => Option.bind (Option.bind (Option.bind (Option.bind (some (Prod.fst x42)) fun x147 => Option.bind (Option.bind (some (Prod.fst (Prod.snd x42))) fun x148 => Option.bind (Option.bind (some (Prod.fst (Prod.snd x42))) fun x149 => Option.bind (some ()) fun x151 => some (x149, x151)) fun x152 => some (x148, x152)) fun x153 => some (x147, x153)) fun x150 => some ([(Prod.fst x150), (Prod.fst (Prod.snd x150)), (Prod.fst (Prod.snd (Prod.snd x150)))] : (List ((List PyData) × Str)))) fun x154 => Option.bind (some ()) fun x155 => some (x154, x155)) fun x156 => some (x146, x156)) fun x157 => some (x138, x157)) fun x158 => n__law_faults ((Prod.fst x158) : Int) ((Prod.fst (Prod.snd x158)) : (List PyData)) ((Prod.fst (Prod.snd (Prod.snd x158))) : (List ((List PyData) × Str)))) fun x159 => some (Prod.fst x159)) fun x161 => some !x161) fun x162 => if x162 = true then (Option.bind (some false) fun x163 => some (x163, (Prod.snd (Prod.fst (Prod.fst (Prod.snd x21)))))) else (Option.bind (Option.bind (Option.bind (Option.bind (Option.bind (some (4 : Int)) fun x164 => Option.bind (Option.bind (Option.bind (Option.bind (some (Prod.fst (Prod.fst (Prod.fst (Prod.snd x21))))) fun x165 => Option.bind (Option.bind (Option.bind (Option.bind (Option.bind (some (Prod.fst (Prod.fst (Prod.fst x21)))) fun x166 => Option.bind (some ()) fun x168 => some (x166, x168)) fun x167 => some ([(Prod.fst x167)] : (List (List Int)))) fun x169 => Option.bind (some (40 : Int)) fun x170 => repL x169 x170) fun x171 => Option.bind (some ()) fun x173 => some (x171, x173)) fun x174 => some (x165, x174)) fun x172 => some ([(enc ((Prod.fst x172) : (List Int))), (enc ((Prod.fst (Prod.snd x172)) : (List (List Int))))] : (List PyData))) fun x175 => Option.bind (Option.bind (Option.bind (Option.bind (some (Prod.fst (Prod.snd x61))) fun x176 => Option.bind (Option.bind (Option.bind (Option.bind (Option.bind (Option.bind (some (Prod.fst x8)) fun x177 => Option.bind (some ()) fun x178 => some (x177, x178)) fun x179 => n__law_bad_lists ((Prod.fst x179) : Int)) fun x180 => Option.bind (Option.bind (some ("ballots" : Str)) fun x181 => Option.bind (some ()) fun x183 => some (x181, x183)) fun x184 => some (x180, x184)) fun x182 => some (((Prod.fst x182), (Prod.fst (Prod.snd x182))) : ((List PyData) × Str))) fun x185 => Option.bind (some ()) fun x187 => some (x185, x187)) fun x188 => some (x176, x188)) fun x186 => some ([(Prod.fst x186), (Prod.fst (Prod.snd x186))] : (List ((List PyData) × Str)))) fun x189 => Option.bind (some ()) fun x190 => some (x189, x190)) fun x191 => some (x175, x191)) fun x192 => some (x164, x192)) fun x193 => n__law_faults ((Prod.fst x193) : Int) ((Prod.fst (Prod.snd x193)) : (List PyData)) ((Prod.fst (Prod.snd (Prod.snd x193))) : (List ((List PyData) × Str)))) fun x194 => some (Prod.fst x194)) fun x196 => some !x196) fun x197 => if x197 = true then (Option.bind (some false) fun x198 => some (x198, (Prod.snd (Prod.fst (Prod.fst (Prod.snd x21)))))) else (Option.bind (Option.bind (Option.bind (Option.bind (some (4 : Int)) fun x199 => Option.bind (Option.bind (Option.bind (Option.bind (Option.bind (some (Prod.fst (Prod.fst (Prod.fst (Prod.snd x21))))) fun x200 => Option.bind (Option.bind (some []) fun x201 => Option.bind (some ()) fun x203 => some (x201, x203)) fun x204 => some (x200, x204)) fun x202 => some ([(Prod.fst x202), (Prod.fst (Prod.snd x202))] : (List (List Int)))) fun x206 => some (List.map enc (x206 : (List (List Int))))) fun x205 => Option.bind (Option.bind (Option.bind (Option.bind (some (Prod.fst (Prod.snd x61))) fun x207 => Option.bind (some ()) fun x209 => some (x207, x209)) fun x208 => some ([(Prod.fst x208)] : (List ((List PyData) × Str)))) fun x210 => Option.bind (some ()) fun x211 => some (x210, x211)) fun x212 => some (x205, x212)) fun x213 => some (x199, x213)) fun x214 => n__law_faults ((Prod.fst x214) : Int) ((Prod.fst (Prod.snd x214)) : (List PyData)) ((Prod.fst (Prod.snd (Prod.snd x214))) : (List ((List PyData) × Str)))) fun x215 => some (Prod.fst x215)) fun x216 => some (x216, (Prod.snd (Prod.fst (Prod.fst (Prod.snd x21))))))))))))))
theorem V__law_right_v20 (a0 : (List Int)) : Fun F__law_right_v20 (n__law_right_v20 a0) [ow a0] (fun r : (Bool × (List Int)) => .fz (enc ((Prod.fst r) : Bool))) fun r => [ow (Prod.snd r)] :=
  fun_of (ΓR := fun r => [.eq (ow ((Prod.snd r) : (List Int))), .aa, .aa, .aa, .aa, .aa, .aa, .aa]) (show Bl B__law_right_v20 _ _ _ from (bl_ga [.eq (ow (a0 : (List Int))), .eq .no, .eq .no, .eq .no, .eq .no, .eq .no, .eq .no, .eq .no] (by kernel_rfl) (bl_asgV ((ev2g Nv.op_add (va := fun x7 => x7) (vb := fun x7 x5 => (Prod.fst (Prod.fst x5))) (pu_c).ev.er fun x7 => (((ev_callG (ag_io (k := 0) rfl rfl (ag_cons (pu_c).ev fun x1 => ag_nil)) (fun x3 => V__law_draw (a0 : (List Int)) ((Prod.fst x3) : Int)))).er).es)).tk fun x8 => (bl_ga [.eq (ow ((Prod.snd (Prod.fst (Prod.snd (Prod.snd x8)))) : (List Int))), .eq (.fz (enc ((Prod.fst x8) : Int))), .eq .no, .eq .no, .eq .no, .eq .no, .eq .no, .eq .no] (by kernel_rfl) (bl_par (ag_cons (((ev_callG (ag_io (k := 0) rfl rfl (ag_cons (((pu_var 1 rfl)).tkP).ev fun x9 => ag_nil)) (fun x11 => V__law_mixed ((Prod.snd (Prod.fst (Prod.snd (Prod.snd x8)))) : (List Int)) ((Prod.fst x11) : Int)))).tkT fun _ => ow_tree _) fun x13 => (ag_ga [.eq (ow ((Prod.snd (Prod.fst x13)) : (List Int))), .eq (.fz (enc ((Prod.fst x8) : Int))), .eq .no, .eq .no, .eq .no, .eq .no, .eq .no, .eq .no] (by kernel_rfl) (ag_cons (((ev_callG (ag_io (k := 0) rfl rfl (ag_cons (((pu_var 1 rfl)).tkP).ev fun x14 => ag_nil)) (fun x16 => V__law_mixed ((Prod.snd (Prod.fst x13)) : (List Int)) ((Prod.fst x16) : Int)))).tkT fun _ => ow_tree _) fun x18 => (ag_ga [.eq (ow ((Prod.snd (Prod.fst x18)) : (List Int))), .eq (.fz (enc ((Prod.fst x8) : Int))), .eq .no, .eq .no, .eq .no, .eq .no, .eq .no, .eq .no] (by kernel_rfl) ag_nil)))) fun x21 => (bl_ga [.eq (ow ((Prod.snd (Prod.fst (Prod.fst (Prod.snd x21)))) : (List Int))), .eq (.fz (enc ((Prod.fst x8) : Int))), .eq (.fz (enc ((Prod.fst (Prod.fst (Prod.fst x21))) : (List Int)))), .eq (.fz (enc ((Prod.fst (Prod.fst (Prod.fst (Prod.snd x21)))) : (List Int)))), .eq .no, .eq .no, .eq .no, .eq .no] (by kernel_rfl) (bl_par (ag_cons (((pu_tup (dp_cons (((pu_call (ap_cons pu_c ap_nil) (fun x24 => V__law_bad_counts ((Prod.fst x24) : Int)))).tkTP ow_tree) (dp_cons (pu_c).tkP dp_nil)) (fun x27 => (((Prod.fst x27), (Prod.fst (Prod.snd x27))) : ((List PyData) × Str))))).tkP).ev fun x30 => (ag_cons (((pu_tup (dp_cons (((pu_call (ap_cons ((pu_var 1 rfl)).tkP ap_nil) (fun x33 => V__law_bad_ballots ((Prod.fst x33) : Int)))).tkTP ow_tree) (dp_cons (pu_c).tkP dp_nil)) (fun x36 => (((Prod.fst x36), (Prod.fst (Prod.snd x36))) : ((List PyData) × Str))))).tkP).ev fun x39 => ag_nil)) fun x42 => (bl_ga [.eq (ow ((Prod.snd (Prod.fst (Prod.fst (Prod.snd x21)))) : (List Int))), .eq (.fz (enc ((Prod.fst x8) : Int))), .eq (.fz (enc ((Prod.fst (Prod.fst (Prod.fst x21))) : (List Int)))), .eq (.fz (enc ((Prod.fst (Prod.fst (Prod.fst (Prod.snd x21)))) : (List Int)))), .eq (.fz (enc ((Prod.fst x42) : ((List PyData) × Str)))), .eq (.fz (enc ((Prod.fst (Prod.snd x42)) : ((List PyData) × Str)))), .eq .no, .eq .no] (by kernel_rfl) (bl_par (ag_cons (((pu_tup (dp_cons (((pu_call (ap_cons ((pu_var 1 rfl)).tkP ap_nil) (fun x45 => V__law_bad_places ((Prod.fst x45) : Int)))).tkTP ow_tree) (dp_cons (pu_c).tkP dp_nil)) (fun x48 => (((Prod.fst x48), (Prod.fst (Prod.snd x48))) : ((List PyData) × Str))))).tkP).ev fun x51 => (ag_cons (((pu_tup (dp_cons (((pu_call ap_nil (fun x52 => V__law_bad_lines ))).tkTP ow_tree) (dp_cons (pu_c).tkP dp_nil)) (fun x55 => (((Prod.fst x55), (Prod.fst (Prod.snd x55))) : ((List PyData) × Str))))).tkP).ev fun x58 => ag_nil)) fun x61 => (bl_ga [.eq (ow ((Prod.snd (Prod.fst (Prod.fst (Prod.snd x21)))) : (List Int))), .eq (.fz (enc ((Prod.fst x8) : Int))), .eq (.fz (enc ((Prod.fst (Prod.fst (Prod.fst x21))) : (List Int)))), .eq (.fz (enc ((Prod.fst (Prod.fst (Prod.fst (Prod.snd x21)))) : (List Int)))), .eq (.fz (enc ((Prod.fst x42) : ((List PyData) × Str)))), .eq (.fz (enc ((Prod.fst (Prod.snd x42)) : ((List PyData) × Str)))), .eq (.fz (enc ((Prod.fst x61) : ((List PyData) × Str)))), .eq (.fz (enc ((Prod.fst (Prod.snd x61)) : ((List PyData) × Str))))] (by kernel_rfl) (bl_if (k := fun x104 => x104) ((ts_or (ts_not (ts_truB (((Pu.mapV (fun x77 => (Prod.fst x77)) (pu_call (ap_cons pu_c (ap_cons (pu_lst (dp_cons ((pu_var 1 rfl)).tkP (dp_cons ((pu_var 2 rfl)).tkP dp_nil)) (fun x65 => ([(enc ((Prod.fst x65) : Int)), (enc ((Prod.fst (Prod.snd x65)) : (List Int)))] : (List PyData)))) (ap_cons (((pu_lst (dp_cons ((pu_var 4 rfl)).tkP dp_nil) (fun x70 => ([(Prod.fst x70)] : (List ((List PyData) × Str)))))).tkTP ow_tree) ap_nil))) (fun x76 => V__law_faults ((Prod.fst x76) : Int) ((Prod.fst (Prod.snd x76)) : (List PyData)) ((Prod.fst (Prod.snd (Prod.snd x76))) : (List ((List PyData) × Str))))))).rd).ra)) (ts_not (ts_truB (((Pu.mapV (fun x100 => (Prod.fst x100)) (pu_call (ap_cons pu_c (ap_cons (pu_lst (dp_cons ((pu_var 1 rfl)).tkP (dp_cons (((pu2 Nv.op_rep (((pu_lst (dp_cons ((pu_var 2 rfl)).tkP dp_nil) (fun x83 => ([(Prod.fst x83)] : (List (List Int)))))).rdT ow_tree) (pu_c).rd)).tkTP ow_tree) dp_nil)) (fun x88 => ([(enc ((Prod.fst x88) : Int)), (enc ((Prod.fst (Prod.snd x88)) : (List (List Int))))] : (List PyData)))) (ap_cons (((pu_lst (dp_cons ((pu_var 4 rfl)).tkP dp_nil) (fun x93 => ([(Prod.fst x93)] : (List ((List PyData) × Str)))))).tkTP ow_tree) ap_nil))) (fun x99 => V__law_faults ((Prod.fst x99) : Int) ((Prod.fst (Prod.snd x99)) : (List PyData)) ((Prod.fst (Prod.snd (Prod.snd x99))) : (List ((List PyData) × Str))))))).rd).ra)))).te' (fun x104 => (bl_retS (bl_retV (pu_c).ev fun x105 => (rf_eq rfl (.cons .rfl (.cons .aa (.cons .aa (.cons .aa (.cons .aa (.cons .aa (.cons .aa (.cons .aa .nil)))))))))))) fun x104 => (bl_next (bl_if (k := fun x136 => x136) ((ts_not (ts_truB (((Pu.mapV (fun x133 => (Prod.fst x133)) (pu_call (ap_cons pu_c (ap_cons (pu_lst (dp_cons ((pu_var 1 rfl)).tkP (dp_cons ((pu_var 2 rfl)).tkP (dp_cons ((pu2 Nv.op_sub ((pu_var 1 rfl)).rd (pu_c).rd)).tkP (dp_cons (pu_c).tkP dp_nil)))) (fun x113 => ([(enc ((Prod.fst x113) : Int)), (enc ((Prod.fst (Prod.snd x113)) : (List Int))), (enc ((Prod.fst (Prod.snd (Prod.snd x113))) : Int)), (enc ((Prod.fst (Prod.snd (Prod.snd (Prod.snd x113)))) : Int))] : (List PyData)))) (ap_cons (((pu_lst (dp_cons ((pu_var 4 rfl)).tkP (dp_cons ((pu_var 5 rfl)).tkP (dp_cons ((pu_var 6 rfl)).tkP (dp_cons ((pu_var 6 rfl)).tkP dp_nil)))) (fun x123 => ([(Prod.fst x123), (Prod.fst (Prod.snd x123)), (Prod.fst (Prod.snd (Prod.snd x123))), (Prod.fst (Prod.snd (Prod.snd (Prod.snd x123))))] : (List ((List PyData) × Str)))))).tkTP ow_tree) ap_nil))) (fun x132 => V__law_faults ((Prod.fst x132) : Int) ((Prod.fst (Prod.snd x132)) : (List PyData)) ((Prod.fst (Prod.snd (Prod.snd x132))) : (List ((List PyData) × Str))))))).rd).ra))).te' (fun x136 => (bl_retS (bl_retV (pu_c).ev fun x137 => (rf_eq rfl (.cons .rfl (.cons .aa (.cons .aa (.cons .aa (.cons .aa (.cons .aa (.cons .aa (.cons .aa .nil)))))))))))) fun x136 => (bl_next (bl_if (k := fun x162 => x162) ((ts_not (ts_truB (((Pu.mapV (fun x159 => (Prod.fst x159)) (pu_call (ap_cons pu_c (ap_cons (pu_lst (dp_cons ((pu_var 1 rfl)).tkP (dp_cons ((pu_var 2 rfl)).tkP (dp_cons ((pu_var 3 rfl)).tkP dp_nil))) (fun x142 => ([(enc ((Prod.fst x142) : Int)), (enc ((Prod.fst (Prod.snd x142)) : (List Int))), (enc ((Prod.fst (Prod.snd (Prod.snd x142))) : (List Int)))] : (List PyData)))) (ap_cons (((pu_lst (dp_cons ((pu_var 4 rfl)).tkP (dp_cons ((pu_var 5 rfl)).tkP (dp_cons ((pu_var 5 rfl)).tkP dp_nil))) (fun x150 => ([(Prod.fst x150), (Prod.fst (Prod.snd x150)), (Prod.fst (Prod.snd (Prod.snd x150)))] : (List ((List PyData) × Str)))))).tkTP ow_tree) ap_nil))) (fun x158 => V__law_faults ((Prod.fst x158) : Int) ((Prod.fst (Prod.snd x158)) : (List PyData)) ((Prod.fst (Prod.snd (Prod.snd x158))) : (List ((List PyData) × Str))))))).rd).ra))).te' (fun x162 => (bl_retS (bl_retV (pu_c).ev fun x163 => (rf_eq rfl (.cons .rfl (.cons .aa (.cons .aa (.cons .aa (.cons .aa (.cons .aa (.cons .aa (.cons .aa .nil)))))))))))) fun x162 => (bl_next (bl_if (k := fun x197 => x197) ((ts_not (ts_truB (((Pu.mapV (fun x194 => (Prod.fst x194)) (pu_call (ap_cons pu_c (ap_cons (pu_lst (dp_cons ((pu_var 3 rfl)).tkP (dp_cons (((pu2 Nv.op_rep (((pu_lst (dp_cons ((pu_var 2 rfl)).tkP dp_nil) (fun x167 => ([(Prod.fst x167)] : (List (List Int)))))).rdT ow_tree) (pu_c).rd)).tkTP ow_tree) dp_nil)) (fun x172 => ([(enc ((Prod.fst x172) : (List Int))), (enc ((Prod.fst (Prod.snd x172)) : (List (List Int))))] : (List PyData)))) (ap_cons (((pu_lst (dp_cons ((pu_var 7 rfl)).tkP (dp_cons ((pu_tup (dp_cons (((pu_call (ap_cons ((pu_var 1 rfl)).tkP ap_nil) (fun x179 => V__law_bad_lists ((Prod.fst x179) : Int)))).tkTP ow_tree) (dp_cons (pu_c).tkP dp_nil)) (fun x182 => (((Prod.fst x182), (Prod.fst (Prod.snd x182))) : ((List PyData) × Str))))).tkP dp_nil)) (fun x186 => ([(Prod.fst x186), (Prod.fst (Prod.snd x186))] : (List ((List PyData) × Str)))))).tkTP ow_tree) ap_nil))) (fun x193 => V__law_faults ((Prod.fst x193) : Int) ((Prod.fst (Prod.snd x193)) : (List PyData)) ((Prod.fst (Prod.snd (Prod.snd x193))) : (List ((List PyData) × Str))))))).rd).ra))).te' (fun x197 => (bl_retS (bl_retV (pu_c).ev fun x198 => (rf_eq rfl (.cons .rfl (.cons .aa (.cons .aa (.cons .aa (.cons .aa (.cons .aa (.cons .aa (.cons .aa .nil)))))))))))) fun x197 => (bl_next (bl_retV ((Pu.mapV (fun x215 => (Prod.fst x215)) (pu_call (ap_cons pu_c (ap_cons (pu_anyT (pu_lst (dp_cons ((pu_var 3 rfl)).tkP (dp_cons ((pu_nil).tkTP ow_tree) dp_nil)) (fun x202 => ([(Prod.fst x202), (Prod.fst (Prod.snd x202))] : (List (List Int)))))) (ap_cons (((pu_lst (dp_cons ((pu_var 7 rfl)).tkP dp_nil) (fun x208 => ([(Prod.fst x208)] : (List ((List PyData) × Str)))))).tkTP ow_tree) ap_nil))) (fun x214 => V__law_faults ((Prod.fst x214) : Int) ((Prod.fst (Prod.snd x214)) : (List PyData)) ((Prod.fst (Prod.snd (Prod.snd x214))) : (List ((List PyData) × Str))))))).ev fun x216 => (rf_eq rfl (.cons .rfl (.cons .aa (.cons .aa (.cons .aa (.cons .aa (.cons .aa (.cons .aa (.cons .aa .nil))))))))))))))))))))))))))))
end P
namespace P
open PySem PySem.Spec PyProof.Rows L2 Hb Nv
open Enc (enc)
def B__law_tap : List Sl → Ot :=
    oSeq (oAsg (sTk (s2 gAdd (s2 gMulX (sC (.int 2)) (s1 (gRd absD) (sVar 0))) (s1 (gRd intD) (s2 gLt (sVar 0) (sC (.int 0)))))) (tgN 2))
    (oRet (sLst (lCons (sVar 2) (lCons (s2 gAdd (s2 gAdd (s2 gMod (s1 (gRd intD) (sVar 2)) (sC (.int 4294967291))) (s2 gMulX (sC (.int 977)) (sVar 1))) (sC (.int 1))) (lCons (s2 gAdd (s2 gAdd (s2 gMod (s1 (gRd intD) (sVar 2)) (sC (.int 2147483587))) (s2 gMulX (sC (.int 31)) (sVar 1))) (sC (.int 2))) (lNil))))))
def F__law_tap : List Sl → FR := fnRun 2 3 [] B__law_tap
def n__law_tap (a0 : Int) (a1 : Int) : Option ((List Int)) :=
    (Option.bind (Option.bind (Option.bind (some (2 : Int)) fun x2 => Option.bind (Option.bind (some a0) fun x1 => absI x1) fun x3 => mulI x2 x3) fun x7 => Option.bind (Option.bind (Option.bind (some a0) fun x4 => Option.bind (some (0 : Int)) fun x5 => ltI x4 x5) fun x6 => intB x6) fun x8 => addI x7 x8) fun x9 => (Option.bind (Option.bind (Option.bind (some x9) fun x10 => Option.bind (Option.bind (Option.bind (Option.bind (Option.bind (Option.bind (some x9) fun x11 => intI x11) fun x12 => Option.bind (some (4294967291 : Int)) fun x13 => modI x12 x13) fun x16 => Option.bind (Option.bind (some (977 : Int)) fun x14 => Option.bind (some a1) fun x15 => mulI x14 x15) fun x17 => addI x16 x17) fun x18 => Option.bind (some (1 : Int)) fun x19 => addI x18 x19) fun x20 => Option.bind (Option.bind (Option.bind (Option.bind (Option.bind (Option.bind (some x9) fun x21 => intI x21) fun x22 => Option.bind (some (2147483587 : Int)) fun x23 => modI x22 x23) fun x26 => Option.bind (Option.bind (some (31 : Int)) fun x24 => Option.bind (some a1) fun x25 => mulI x24 x25) fun x27 => addI x26 x27) fun x28 => Option.bind (some (2 : Int)) fun x29 => addI x28 x29) fun x30 => Option.bind (some ()) fun x32 => some (x30, x32)) fun x33 => some (x20, x33)) fun x34 => some (x10, x34)) fun x31 => some ([(Prod.fst x31), (Prod.fst (Prod.snd x31)), (Prod.fst (Prod.snd (Prod.snd x31)))] : (List Int))) fun x35 => some x35))
theorem V__law_tap (a0 : Int) (a1 : Int) : Fun F__law_tap (n__law_tap a0 a1) [.fz (enc a0), .fz (enc a1)] (fun r : ((List Int)) => ow (r : (List Int))) fun r => [.no, .no] :=
  fun_of (ΓR := fun r => [.aa, .aa, .aa]) (show Bl B__law_tap _ _ _ from (bl_ga [.eq (.fz (enc (a0 : Int))), .eq (.fz (enc (a1 : Int))), .eq .no] (by kernel_rfl) (bl_asgV (((pu2 Nv.op_add ((pu2 Nv.op_mul (pu_c).rd ((pu1A Nv.op_abs (((pu_var 0 rfl)).rd).ra)).rd)).rd ((pu1A Nv.op_intB (((pu2 Nv.op_lt ((pu_var 0 rfl)).rd (pu_c).rd)).rd).ra)).rd)).tkP).ev fun x9 => (bl_ga [.eq (.fz (enc (a0 : Int))), .eq (.fz (enc (a1 : Int))), .eq (.fz (enc (x9 : Int)))] (by kernel_rfl) (bl_retT ((pu_lst (dp_cons ((pu_var 2 rfl)).tkP (dp_cons ((pu2 Nv.op_add ((pu2 Nv.op_add ((pu2 Nv.op_mod ((pu1A Nv.op_int (((pu_var 2 rfl)).rd).ra)).rd (pu_c).rd)).rd ((pu2 Nv.op_mul (pu_c).rd ((pu_var 1 rfl)).rd)).rd)).rd (pu_c).rd)).tkP (dp_cons ((pu2 Nv.op_add ((pu2 Nv.op_add ((pu2 Nv.op_mod ((pu1A Nv.op_int (((pu_var 2 rfl)).rd).ra)).rd (pu_c).rd)).rd ((pu2 Nv.op_mul (pu_c).rd ((pu_var 1 rfl)).rd)).rd)).rd (pu_c).rd)).tkP dp_nil))) (fun x31 => ([(Prod.fst x31), (Prod.fst (Prod.snd x31)), (Prod.fst (Prod.snd (Prod.snd x31)))] : (List Int))))).ev fun x35 => (rf_eq rfl (.cons .aa (.cons .aa (.cons .aa .nil)))))))))
end P
namespace P
open PySem PySem.Spec PyProof.Rows L2 Hb Nv
open Enc (enc)
def B_law_v21 : List Sl → Ot :=
    oSeq (oAsg (sTk (sCall F__law_cells [] (rCons (sTk (sVar 0)) (rCons (sC (.int 3)) (rNil))))) (tgN 1))
    (oRet (s2 (gEqE false) (sLc false (wRng1 (s1 (gRd lenD) (sVar 1))) [2] (tgN 2) (sNot (sTru (sCall F__law_right_v20 [] (rCons (sCall F__law_tap [] (rCons (sTk (s2 gIx2 (sVar 1) (sVar 2))) (rCons (sTk (sVar 2)) (rNil)))) (rNil))))) (sTk (sVar 2))) (sLst (lNil))))
def F_law_v21 : List Sl → FR := fnRun 1 3 [1000000] B_law_v21
def n_law_v21 (a0 : (List Int)) : Option (Bool) :=
    (Option.bind (Option.bind (Option.bind (some a0) fun x1 => Option.bind (Option.bind (some (3 : Int)) fun x2 => Option.bind (some ()) fun x3 => some (x2, x3)) fun x4 => some (x1, x4)) fun x5 => n__law_cells ((Prod.fst x5) : (List Int)) ((Prod.fst (Prod.snd x5)) : Int)) fun x6 => (Option.bind (Option.bind (Option.bind (Option.bind (Option.bind (some x6) fun x7 => lenL x7) fun x8 => ri1 x8) fun x9 => if List.length (x9) ≤ cap then mapF x9 (fun x10 => (Option.bind (Option.bind (Option.bind (Option.bind (Option.bind (Option.bind (Option.bind (some x6) fun x11 => Option.bind (some x10) fun x12 => atL x11 x12) fun x13 => Option.bind (Option.bind (some x10) fun x14 => Option.bind (some ()) fun x15 => some (x14, x15)) fun x16 => some (x13, x16)) fun x17 => n__law_tap ((Prod.fst x17) : Int) ((Prod.fst (Prod.snd x17)) : Int)) fun x18 => Option.bind (some ()) fun x19 => some (x18, x19)) fun x20 => n__law_right_v20 ((Prod.fst x20) : (List Int))) fun x21 => some (Prod.fst x21)) fun x23 => some !x23)) (fun x10 => (some x10)) else none) fun x24 => some (false != List.isEmpty x24)) fun x25 => some x25))
theorem V_law_v21 (a0 : (List Int)) : Fun F_law_v21 (n_law_v21 a0) [.fz (enc a0)] (fun r : (Bool) => .fz (enc (r : Bool))) fun r => [.no] :=
  fun_of (ΓR := fun r => [.aa, .aa, .aa]) (show Bl B_law_v21 _ _ _ from (bl_ga [.eq (.fz (enc (a0 : (List Int)))), .eq .no, .eq .no] (by kernel_rfl) (bl_asgV ((((pu_call (ap_cons ((pu_var 0 rfl)).tkP (ap_cons pu_c ap_nil)) (fun x5 => V__law_cells ((Prod.fst x5) : (List Int)) ((Prod.fst (Prod.snd x5)) : Int)))).tkTP ow_tree)).ev fun x6 => (bl_ga [.eq (.fz (enc (a0 : (List Int)))), .eq (.fz (enc (x6 : (List Int)))), .eq .no] (by kernel_rfl) (bl_retV ((pu_eqE ((((pu_lc (vs := [2]) (ip_rng1 ((pu1A Nv.op_len (((pu_var 1 rfl)).rd).ra)).tkP) rfl rfl (fun x9 x10 => tg_n) (fun x9 x10 => (ts_ga [.eq (.fz (enc (a0 : (List Int)))), .eq (.fz (enc (x6 : (List Int)))), .eq (.fz (enc (x10 : Int)))] (by kernel_rfl) (ts_not (ts_truB (((Pu.mapV (fun x21 => (Prod.fst x21)) (pu_call (ap_cons (pu_call (ap_cons ((pu2 Nv.op_ix2 ((pu_var 1 rfl)).rd ((pu_var 2 rfl)).rd)).tkP (ap_cons ((pu_var 2 rfl)).tkP ap_nil)) (fun x17 => V__law_tap ((Prod.fst x17) : Int) ((Prod.fst (Prod.snd x17)) : Int))) ap_nil) (fun x20 => V__law_right_v20 ((Prod.fst x20) : (List Int)))))).rd).ra)))) fun x9 x10 => (pu_ga [.eq (.fz (enc (a0 : (List Int)))), .eq (.fz (enc (x6 : (List Int)))), .eq (.fz (enc (x10 : Int)))] (by kernel_rfl) ((pu_var 2 rfl)).tkP))).rdT ow_tree)).ra)).ev fun x25 => (rf_eq rfl (.cons .aa (.cons .aa (.cons .aa .nil)))))))))
end P
namespace K03
open PySem PySem.Spec PyProof.Rows L2 Hb P
def topS (i : Nat) : Stmt := PySem.Challenge.pw_hillballots_k03_errors_of_ballots.main.body.getD i (.Pass ⟨0, 0, 0, 0⟩)
def d__law_cells : He.DefD := ⟨("_law_cells", none), "_law_cells", "_law_cells", defArgs (topS 49), defBody (topS 49), defScope (topS 49), [], []⟩
def d_is_integer : He.DefD := ⟨("is_integer", none), "is_integer", "is_integer", defArgs (topS 29), defBody (topS 29), defScope (topS 29), [.non], []⟩
def d_is_each_once : He.DefD := ⟨("is_each_once", none), "is_each_once", "is_each_once", defArgs (topS 30), defBody (topS 30), defScope (topS 30), [], []⟩
def d_need_line : He.DefD := ⟨("need_line", none), "need_line", "need_line", defArgs (topS 35), defBody (topS 35), defScope (topS 35), [.non], []⟩
def d_are_each_once : He.DefD := ⟨("are_each_once", none), "are_each_once", "are_each_once", defArgs (topS 31), defBody (topS 31), defScope (topS 31), [], []⟩
def d_need_ballots : He.DefD := ⟨("need_ballots", none), "need_ballots", "need_ballots", defArgs (topS 34), defBody (topS 34), defScope (topS 34), [], []⟩
def d_need_on_line : He.DefD := ⟨("need_on_line", none), "need_on_line", "need_on_line", defArgs (topS 37), defBody (topS 37), defScope (topS 37), [], []⟩
def d_ranks_in : He.DefD := ⟨("ranks_in", none), "ranks_in", "ranks_in", defArgs (topS 38), defBody (topS 38), defScope (topS 38), [], []⟩
def d_renamed : He.DefD := ⟨("renamed", none), "renamed", "renamed", defArgs (topS 45), defBody (topS 45), defScope (topS 45), [], []⟩
def d_need_count : He.DefD := ⟨("need_count", none), "need_count", "need_count", defArgs (topS 32), defBody (topS 32), defScope (topS 32), [.int 12], []⟩
def d_is_ballot : He.DefD := ⟨("is_ballot", none), "is_ballot", "is_ballot", defArgs (topS 40), defBody (topS 40), defScope (topS 40), [], []⟩
def d_are_ballots : He.DefD := ⟨("are_ballots", none), "are_ballots", "are_ballots", defArgs (topS 41), defBody (topS 41), defScope (topS 41), [], []⟩
def d_need_ballot : He.DefD := ⟨("need_ballot", none), "need_ballot", "need_ballot", defArgs (topS 33), defBody (topS 33), defScope (topS 33), [], []⟩
def d_need_place : He.DefD := ⟨("need_place", none), "need_place", "need_place", defArgs (topS 36), defBody (topS 36), defScope (topS 36), [], []⟩
def d_is_above : He.DefD := ⟨("is_above", none), "is_above", "is_above", defArgs (topS 42), defBody (topS 42), defScope (topS 42), [], []⟩
def d_pairs_turned : He.DefD := ⟨("pairs_turned", none), "pairs_turned", "pairs_turned", defArgs (topS 43), defBody (topS 43), defScope (topS 43), [], []⟩
def d_turned_pairs : He.DefD := ⟨("turned_pairs", none), "turned_pairs", "turned_pairs", defArgs (topS 44), defBody (topS 44), defScope (topS 44), [], []⟩
def d__law_call : He.DefD := ⟨("_law_call", none), "_law_call", "_law_call", defArgs (topS 60), defBody (topS 60), defScope (topS 60), [], []⟩
def d__law_raised : He.DefD := ⟨("_law_raised", none), "_law_raised", "_law_raised", defArgs (topS 61), defBody (topS 61), defScope (topS 61), [], []⟩
def d__law_faults : He.DefD := ⟨("_law_faults", none), "_law_faults", "_law_faults", defArgs (topS 62), defBody (topS 62), defScope (topS 62), [], []⟩
def d__law_draw : He.DefD := ⟨("_law_draw", none), "_law_draw", "_law_draw", defArgs (topS 48), defBody (topS 48), defScope (topS 48), [], []⟩
def d__law_mixed : He.DefD := ⟨("_law_mixed", none), "_law_mixed", "_law_mixed", defArgs (topS 50), defBody (topS 50), defScope (topS 50), [], []⟩
def d__law_bad_counts : He.DefD := ⟨("_law_bad_counts", none), "_law_bad_counts", "_law_bad_counts", defArgs (topS 55), defBody (topS 55), defScope (topS 55), [], []⟩
def d__law_bad_ballots : He.DefD := ⟨("_law_bad_ballots", none), "_law_bad_ballots", "_law_bad_ballots", defArgs (topS 56), defBody (topS 56), defScope (topS 56), [], []⟩
def d__law_bad_places : He.DefD := ⟨("_law_bad_places", none), "_law_bad_places", "_law_bad_places", defArgs (topS 58), defBody (topS 58), defScope (topS 58), [], []⟩
def d__law_bad_lines : He.DefD := ⟨("_law_bad_lines", none), "_law_bad_lines", "_law_bad_lines", defArgs (topS 59), defBody (topS 59), defScope (topS 59), [], []⟩
def d__law_bad_lists : He.DefD := ⟨("_law_bad_lists", none), "_law_bad_lists", "_law_bad_lists", defArgs (topS 57), defBody (topS 57), defScope (topS 57), [], []⟩
def d__law_right : He.DefD := ⟨("_law_right", none), "_law_right", "_law_right", defArgs (topS 63), defBody (topS 63), defScope (topS 63), [], []⟩
def d__law_tap : He.DefD := ⟨("_law_tap", none), "_law_tap", "_law_tap", defArgs (topS 47), defBody (topS 47), defScope (topS 47), [], []⟩
def d_law : He.DefD := ⟨("law", none), "law", "law", defArgs (topS 64), defBody (topS 64), defScope (topS 64), [], []⟩
def d__law_told : He.DefD := ⟨("_law_told", none), "_law_told", "_law_told", defArgs (topS 54), defBody (topS 54), defScope (topS 54), [], []⟩
def d__law_words : He.DefD := ⟨("_law_words", none), "_law_words", "_law_words", defArgs (topS 53), defBody (topS 53), defScope (topS 53), [], []⟩
def fn : List He.DefD := [d__law_cells, d_is_integer, d_is_each_once, d_need_line, d_are_each_once, d_need_ballots, d_need_on_line, d_ranks_in, d_renamed, d_need_count, d_is_ballot, d_are_ballots, d_need_ballot, d_need_place, d_is_above, d_pairs_turned, d_turned_pairs, d__law_call, d__law_raised, d__law_faults, d__law_draw, d__law_mixed, d__law_bad_counts, d__law_bad_ballots, d__law_bad_places, d__law_bad_lines, d__law_bad_lists, d__law_right, d__law_tap, d_law, d__law_told, d__law_words]
def fa : List He.Fa := [.glo "_law_cells", .glo "is_integer", .glo "is_each_once", .glo "need_line", .glo "are_each_once", .glo "need_ballots", .glo "need_on_line", .glo "ranks_in", .glo "renamed", .glo "need_count", .glo "is_ballot", .glo "are_ballots", .glo "need_ballot", .glo "need_place", .glo "is_above", .glo "pairs_turned", .glo "turned_pairs", .glo "_law_call", .glo "_law_raised", .glo "_law_faults", .glo "_law_draw", .glo "_law_mixed", .glo "_law_bad_counts", .glo "_law_bad_ballots", .glo "_law_bad_places", .glo "_law_bad_lines", .glo "_law_bad_lists", .glo "_law_right", .glo "_law_tap", .glo "law", .glo "_law_told", .glo "_law_words", .int "MOST_BALLOTS" 40, .int "MOST_PLACES" 12, .free "ValueError", .free "abs", .free "all", .free "bool", .free "enumerate", .free "int", .free "isinstance", .free "len", .free "list", .free "max", .free "min", .free "range", .free "repr", .free "sorted", .free "str", .free "tuple", .glo "BallotError", .glo "EvenVoters", .glo "InvalidBallot", .glo "InvalidBallots", .glo "InvalidCommand", .glo "InvalidCount", .glo "InvalidFixed", .glo "InvalidIndex", .glo "InvalidLine", .glo "InvalidLists", .glo "InvalidPairs", .glo "InvalidPeople", .glo "InvalidPlace", .glo "InvalidTable", .glo "InvalidTelling", .glo "InvalidText", .glo "InvalidVoters", .glo "NoBallot", .glo "NoLine", .glo "NoRow", .glo "NotFalling", .glo "NotFree", .glo "NotMatching", .glo "NotTold", .glo "NothingToUndo", .exc "InvalidBallot", .exc "InvalidBallots", .exc "InvalidCount", .exc "InvalidLine", .exc "InvalidPlace"]
structure Ctx (K : PySem.W.Frag) (mg : Str → Option Value) : Prop where
  c : He.SaysD fa fn K
  ex : ∃ h : Heap, K.In h ∧ h.Ns mainGlobals mg
  x : errB errX errY "BallotError" K = true
variable {Pg : Program} {w : World} {K : PySem.W.Frag} {mg : Str → Option Value} {base : Heap}
theorem m_MOST_BALLOTS (Y : Ctx K mg) : ∃ t, mg "MOST_BALLOTS" = some (.int 40 t) := let ⟨_, X, G⟩ := Y.ex; He.int_ok X G (Y.c.fact 32)
theorem m_MOST_PLACES (Y : Ctx K mg) : ∃ t, mg "MOST_PLACES" = some (.int 12 t) := let ⟨_, X, G⟩ := Y.ex; He.int_ok X G (Y.c.fact 33)
theorem m_ValueError (Y : Ctx K mg) : mg "ValueError" = none := let ⟨_, X, G⟩ := Y.ex; He.free_ok X G (Y.c.fact 34)
theorem m_abs (Y : Ctx K mg) : mg "abs" = none := let ⟨_, X, G⟩ := Y.ex; He.free_ok X G (Y.c.fact 35)
theorem m_all (Y : Ctx K mg) : mg "all" = none := let ⟨_, X, G⟩ := Y.ex; He.free_ok X G (Y.c.fact 36)
theorem m_bool (Y : Ctx K mg) : mg "bool" = none := let ⟨_, X, G⟩ := Y.ex; He.free_ok X G (Y.c.fact 37)
theorem m_enumerate (Y : Ctx K mg) : mg "enumerate" = none := let ⟨_, X, G⟩ := Y.ex; He.free_ok X G (Y.c.fact 38)
theorem m_int (Y : Ctx K mg) : mg "int" = none := let ⟨_, X, G⟩ := Y.ex; He.free_ok X G (Y.c.fact 39)
theorem m_isinstance (Y : Ctx K mg) : mg "isinstance" = none := let ⟨_, X, G⟩ := Y.ex; He.free_ok X G (Y.c.fact 40)
theorem m_len (Y : Ctx K mg) : mg "len" = none := let ⟨_, X, G⟩ := Y.ex; He.free_ok X G (Y.c.fact 41)
theorem m_list (Y : Ctx K mg) : mg "list" = none := let ⟨_, X, G⟩ := Y.ex; He.free_ok X G (Y.c.fact 42)
theorem m_max (Y : Ctx K mg) : mg "max" = none := let ⟨_, X, G⟩ := Y.ex; He.free_ok X G (Y.c.fact 43)
theorem m_min (Y : Ctx K mg) : mg "min" = none := let ⟨_, X, G⟩ := Y.ex; He.free_ok X G (Y.c.fact 44)
theorem m_range (Y : Ctx K mg) : mg "range" = none := let ⟨_, X, G⟩ := Y.ex; He.free_ok X G (Y.c.fact 45)
theorem m_repr (Y : Ctx K mg) : mg "repr" = none := let ⟨_, X, G⟩ := Y.ex; He.free_ok X G (Y.c.fact 46)
theorem m_sorted (Y : Ctx K mg) : mg "sorted" = none := let ⟨_, X, G⟩ := Y.ex; He.free_ok X G (Y.c.fact 47)
theorem m_str (Y : Ctx K mg) : mg "str" = none := let ⟨_, X, G⟩ := Y.ex; He.free_ok X G (Y.c.fact 48)
theorem m_tuple (Y : Ctx K mg) : mg "tuple" = none := let ⟨_, X, G⟩ := Y.ex; He.free_ok X G (Y.c.fact 49)
theorem g_BallotError (Y : Ctx K mg) : mg "BallotError" = some (.ref (He.ga K "BallotError")) := let ⟨_, X, G⟩ := Y.ex; He.glo_ok X G (Y.c.fact 50)
theorem g_EvenVoters (Y : Ctx K mg) : mg "EvenVoters" = some (.ref (He.ga K "EvenVoters")) := let ⟨_, X, G⟩ := Y.ex; He.glo_ok X G (Y.c.fact 51)
theorem g_InvalidBallot (Y : Ctx K mg) : mg "InvalidBallot" = some (.ref (He.ga K "InvalidBallot")) := let ⟨_, X, G⟩ := Y.ex; He.glo_ok X G (Y.c.fact 52)
theorem g_InvalidBallots (Y : Ctx K mg) : mg "InvalidBallots" = some (.ref (He.ga K "InvalidBallots")) := let ⟨_, X, G⟩ := Y.ex; He.glo_ok X G (Y.c.fact 53)
theorem g_InvalidCommand (Y : Ctx K mg) : mg "InvalidCommand" = some (.ref (He.ga K "InvalidCommand")) := let ⟨_, X, G⟩ := Y.ex; He.glo_ok X G (Y.c.fact 54)
theorem g_InvalidCount (Y : Ctx K mg) : mg "InvalidCount" = some (.ref (He.ga K "InvalidCount")) := let ⟨_, X, G⟩ := Y.ex; He.glo_ok X G (Y.c.fact 55)
theorem g_InvalidFixed (Y : Ctx K mg) : mg "InvalidFixed" = some (.ref (He.ga K "InvalidFixed")) := let ⟨_, X, G⟩ := Y.ex; He.glo_ok X G (Y.c.fact 56)
theorem g_InvalidIndex (Y : Ctx K mg) : mg "InvalidIndex" = some (.ref (He.ga K "InvalidIndex")) := let ⟨_, X, G⟩ := Y.ex; He.glo_ok X G (Y.c.fact 57)
theorem g_InvalidLine (Y : Ctx K mg) : mg "InvalidLine" = some (.ref (He.ga K "InvalidLine")) := let ⟨_, X, G⟩ := Y.ex; He.glo_ok X G (Y.c.fact 58)
theorem g_InvalidLists (Y : Ctx K mg) : mg "InvalidLists" = some (.ref (He.ga K "InvalidLists")) := let ⟨_, X, G⟩ := Y.ex; He.glo_ok X G (Y.c.fact 59)
theorem g_InvalidPairs (Y : Ctx K mg) : mg "InvalidPairs" = some (.ref (He.ga K "InvalidPairs")) := let ⟨_, X, G⟩ := Y.ex; He.glo_ok X G (Y.c.fact 60)
theorem g_InvalidPeople (Y : Ctx K mg) : mg "InvalidPeople" = some (.ref (He.ga K "InvalidPeople")) := let ⟨_, X, G⟩ := Y.ex; He.glo_ok X G (Y.c.fact 61)
theorem g_InvalidPlace (Y : Ctx K mg) : mg "InvalidPlace" = some (.ref (He.ga K "InvalidPlace")) := let ⟨_, X, G⟩ := Y.ex; He.glo_ok X G (Y.c.fact 62)
theorem g_InvalidTable (Y : Ctx K mg) : mg "InvalidTable" = some (.ref (He.ga K "InvalidTable")) := let ⟨_, X, G⟩ := Y.ex; He.glo_ok X G (Y.c.fact 63)
theorem g_InvalidTelling (Y : Ctx K mg) : mg "InvalidTelling" = some (.ref (He.ga K "InvalidTelling")) := let ⟨_, X, G⟩ := Y.ex; He.glo_ok X G (Y.c.fact 64)
theorem g_InvalidText (Y : Ctx K mg) : mg "InvalidText" = some (.ref (He.ga K "InvalidText")) := let ⟨_, X, G⟩ := Y.ex; He.glo_ok X G (Y.c.fact 65)
theorem g_InvalidVoters (Y : Ctx K mg) : mg "InvalidVoters" = some (.ref (He.ga K "InvalidVoters")) := let ⟨_, X, G⟩ := Y.ex; He.glo_ok X G (Y.c.fact 66)
theorem g_NoBallot (Y : Ctx K mg) : mg "NoBallot" = some (.ref (He.ga K "NoBallot")) := let ⟨_, X, G⟩ := Y.ex; He.glo_ok X G (Y.c.fact 67)
theorem g_NoLine (Y : Ctx K mg) : mg "NoLine" = some (.ref (He.ga K "NoLine")) := let ⟨_, X, G⟩ := Y.ex; He.glo_ok X G (Y.c.fact 68)
theorem g_NoRow (Y : Ctx K mg) : mg "NoRow" = some (.ref (He.ga K "NoRow")) := let ⟨_, X, G⟩ := Y.ex; He.glo_ok X G (Y.c.fact 69)
theorem g_NotFalling (Y : Ctx K mg) : mg "NotFalling" = some (.ref (He.ga K "NotFalling")) := let ⟨_, X, G⟩ := Y.ex; He.glo_ok X G (Y.c.fact 70)
theorem g_NotFree (Y : Ctx K mg) : mg "NotFree" = some (.ref (He.ga K "NotFree")) := let ⟨_, X, G⟩ := Y.ex; He.glo_ok X G (Y.c.fact 71)
theorem g_NotMatching (Y : Ctx K mg) : mg "NotMatching" = some (.ref (He.ga K "NotMatching")) := let ⟨_, X, G⟩ := Y.ex; He.glo_ok X G (Y.c.fact 72)
theorem g_NotTold (Y : Ctx K mg) : mg "NotTold" = some (.ref (He.ga K "NotTold")) := let ⟨_, X, G⟩ := Y.ex; He.glo_ok X G (Y.c.fact 73)
theorem g_NothingToUndo (Y : Ctx K mg) : mg "NothingToUndo" = some (.ref (He.ga K "NothingToUndo")) := let ⟨_, X, G⟩ := Y.ex; He.glo_ok X G (Y.c.fact 74)
theorem e_InvalidBallot (Y : Ctx K mg) : ExcC K mg "InvalidBallot" (He.ga K "InvalidBallot") := let ⟨_, X, G⟩ := Y.ex; excC_of X G (g_InvalidBallot Y) (Y.c.fact 75)
theorem e_InvalidBallots (Y : Ctx K mg) : ExcC K mg "InvalidBallots" (He.ga K "InvalidBallots") := let ⟨_, X, G⟩ := Y.ex; excC_of X G (g_InvalidBallots Y) (Y.c.fact 76)
theorem e_InvalidCount (Y : Ctx K mg) : ExcC K mg "InvalidCount" (He.ga K "InvalidCount") := let ⟨_, X, G⟩ := Y.ex; excC_of X G (g_InvalidCount Y) (Y.c.fact 77)
theorem e_InvalidLine (Y : Ctx K mg) : ExcC K mg "InvalidLine" (He.ga K "InvalidLine") := let ⟨_, X, G⟩ := Y.ex; excC_of X G (g_InvalidLine Y) (Y.c.fact 78)
theorem e_InvalidPlace (Y : Ctx K mg) : ExcC K mg "InvalidPlace" (He.ga K "InvalidPlace") := let ⟨_, X, G⟩ := Y.ex; excC_of X G (g_InvalidPlace Y) (Y.c.fact 79)
def N__law_words : List Str := ["_law_caught", "_law_found"]
theorem S__law_words : FnScope N__law_words ["_law_caught"] (defScope (topS 53)) := ⟨rfl, rfl, rfl, by decide, rfl, by decide +kernel, by decide +kernel⟩
def N__law_told : List Str := ["_law_call_here", "_law_caught", "e"]
theorem S__law_told : FnScope N__law_told ["_law_call_here"] (defScope (topS 54)) := ⟨rfl, rfl, rfl, by decide, rfl, by decide +kernel, by decide +kernel⟩
def stps (x : Str) : List Stp := [((defBody (topS 53)).getD 1 (.Pass ⟨0, 0, 0, 0⟩), decide (x = "InvalidCount"), "count"),
  ((defBody (topS 53)).getD 2 (.Pass ⟨0, 0, 0, 0⟩), decide (x = "InvalidBallot"), "ballot"),
  ((defBody (topS 53)).getD 3 (.Pass ⟨0, 0, 0, 0⟩), decide (x = "InvalidBallots"), "ballots"),
  ((defBody (topS 53)).getD 4 (.Pass ⟨0, 0, 0, 0⟩), decide (x = "InvalidLine"), "line"),
  ((defBody (topS 53)).getD 5 (.Pass ⟨0, 0, 0, 0⟩), decide (x = "InvalidPlace"), "place"),
  ((defBody (topS 53)).getD 6 (.Pass ⟨0, 0, 0, 0⟩), decide (x = "InvalidIndex"), "index"),
  ((defBody (topS 53)).getD 7 (.Pass ⟨0, 0, 0, 0⟩), decide (x = "NoLine"), "none"),
  ((defBody (topS 53)).getD 8 (.Pass ⟨0, 0, 0, 0⟩), decide (x = "NotFalling"), "falling"),
  ((defBody (topS 53)).getD 9 (.Pass ⟨0, 0, 0, 0⟩), (["EvenVoters", "InvalidCommand", "InvalidFixed", "InvalidLists", "InvalidPairs", "InvalidPeople"] : List Str).any fun z => decide (x = z), "other"),
  ((defBody (topS 53)).getD 10 (.Pass ⟨0, 0, 0, 0⟩), (["InvalidTable", "InvalidTelling", "InvalidText", "InvalidVoters", "NoBallot", "NoRow", "NotFree"] : List Str).any fun z => decide (x = z), "other"),
  ((defBody (topS 53)).getD 11 (.Pass ⟨0, 0, 0, 0⟩), (((["NotMatching", "NothingToUndo", "NotTold"] : List Str).any fun z => decide (x = z)) || !(true)), "other")]
theorem stps_w : ∀ x ∈ errX, ∀ w, errW.lookup x = some w → wordsOf (stps x) = [.str w] := by
  unfold errX
  exact List.forall_mem_cons.mpr ⟨fun w e => by
    have e2 : errW.lookup ("InvalidCount" : Str) = some ("count" : Str) := by kernel_rfl
    cases Option.some.inj (e2.symm.trans e)
    kernel_rfl, List.forall_mem_cons.mpr ⟨fun w e => by
    have e2 : errW.lookup ("InvalidBallot" : Str) = some ("ballot" : Str) := by kernel_rfl
    cases Option.some.inj (e2.symm.trans e)
    kernel_rfl, List.forall_mem_cons.mpr ⟨fun w e => by
    have e2 : errW.lookup ("InvalidBallots" : Str) = some ("ballots" : Str) := by kernel_rfl
    cases Option.some.inj (e2.symm.trans e)
    kernel_rfl, List.forall_mem_cons.mpr ⟨fun w e => by
    have e2 : errW.lookup ("InvalidLine" : Str) = some ("line" : Str) := by kernel_rfl
    cases Option.some.inj (e2.symm.trans e)
    kernel_rfl, List.forall_mem_cons.mpr ⟨fun w e => by
    have e2 : errW.lookup ("InvalidPlace" : Str) = some ("place" : Str) := by kernel_rfl
    cases Option.some.inj (e2.symm.trans e)
    kernel_rfl, List.forall_mem_cons.mpr ⟨fun w e => by
    have e2 : errW.lookup ("InvalidIndex" : Str) = some ("index" : Str) := by kernel_rfl
    cases Option.some.inj (e2.symm.trans e)
    kernel_rfl, List.forall_mem_cons.mpr ⟨fun w e => by
    have e2 : errW.lookup ("NotFalling" : Str) = some ("falling" : Str) := by kernel_rfl
    cases Option.some.inj (e2.symm.trans e)
    kernel_rfl, fun _ h => nomatch h⟩⟩⟩⟩⟩⟩⟩
theorem wd_ {X : Cx} (Y : Ctx X.K X.mg) {x : Str} (hx : x ∈ errX) {w : Str} (hw : errW.lookup x = some w) : WordsD X (He.ga X.K x) [.str w] 1 "_law_words" := by
  obtain ⟨_, Xk, G⟩ := Y.ex
  obtain ⟨fd, FD⟩ := Y.c.def_ 31 (d := d__law_words)
  have hb : Binds X.K fd ["_law_caught"] [] := FD.bindsN fun _ _ _ _ _ _ us h => by
    match us, h with
    | [a0], _ => rfl
  have hk := FD.kp
  obtain ⟨oc, od, dV, kV, doc, pm, an, cdv, ct, osl, rfl, lk, hcd, _, _⟩ := FD.ex
  refine ⟨⟨_, _, _, _, _, _, _, _, _, _, _, _, _, _, N__law_words, "_law_caught", He.glo_ok Xk G (Y.c.fact 31), hk, lk, hcd, hb, S__law_words, fun a A outer s H hr E => ?_⟩⟩
  refine Exists.imp (fun t h => ⟨h.1, fun Q q => h.2 H Q fun l H' h1 h2 h3 => q l H' h1 h2 (h3.trans (by rw [stps_w x hx w hw]))⟩) (words_body (steps := stps x) (X := cxOf C8.CX0 X.prog X.w X.K X.mg X.base N__law_words "_law_words" _ _ cdv A outer s H C8.E0) rfl rfl (by decide) (.inl rfl) (by decide) (by decide) (.inl rfl) (by first | exact .inl rfl | exact .inr rfl) ?_ (by show 11 ≤ 100; decide))
  have Ea := E
  exact (List.forall_mem_cons.mpr ⟨ps_step (pt_isX Ea rfl (.inl rfl) rfl (m_isinstance Y) rfl (g_InvalidCount Y) (errB_is Y.x hx (by decide))) rfl (.inl rfl), (List.forall_mem_cons.mpr ⟨ps_step (pt_isX Ea rfl (.inl rfl) rfl (m_isinstance Y) rfl (g_InvalidBallot Y) (errB_is Y.x hx (by decide))) rfl (.inl rfl), (List.forall_mem_cons.mpr ⟨ps_step (pt_isX Ea rfl (.inl rfl) rfl (m_isinstance Y) rfl (g_InvalidBallots Y) (errB_is Y.x hx (by decide))) rfl (.inl rfl), (List.forall_mem_cons.mpr ⟨ps_step (pt_isX Ea rfl (.inl rfl) rfl (m_isinstance Y) rfl (g_InvalidLine Y) (errB_is Y.x hx (by decide))) rfl (.inl rfl), (List.forall_mem_cons.mpr ⟨ps_step (pt_isX Ea rfl (.inl rfl) rfl (m_isinstance Y) rfl (g_InvalidPlace Y) (errB_is Y.x hx (by decide))) rfl (.inl rfl), (List.forall_mem_cons.mpr ⟨ps_step (pt_isX Ea rfl (.inl rfl) rfl (m_isinstance Y) rfl (g_InvalidIndex Y) (errB_is Y.x hx (by decide))) rfl (.inl rfl), (List.forall_mem_cons.mpr ⟨ps_step (pt_isX Ea rfl (.inl rfl) rfl (m_isinstance Y) rfl (g_NoLine Y) (errB_is Y.x hx (by decide))) rfl (.inl rfl), (List.forall_mem_cons.mpr ⟨ps_step (pt_isX Ea rfl (.inl rfl) rfl (m_isinstance Y) rfl (g_NotFalling Y) (errB_is Y.x hx (by decide))) rfl (.inl rfl), (List.forall_mem_cons.mpr ⟨ps_step (pt_isXT (Cs := (["EvenVoters", "InvalidCommand", "InvalidFixed", "InvalidLists", "InvalidPairs", "InvalidPeople"] : List Str).map (He.ga X.K)) Ea rfl (.inl rfl) rfl (m_isinstance Y) (pa_globs rfl (g_EvenVoters Y) (pa_globs rfl (g_InvalidCommand Y) (pa_globs rfl (g_InvalidFixed Y) (pa_globs rfl (g_InvalidLists Y) (pa_globs rfl (g_InvalidPairs Y) (pa_globs rfl (g_InvalidPeople Y) pa_globs0)))))) (by rw [List.length_map]; decide) (errB_any Y.x hx ["EvenVoters", "InvalidCommand", "InvalidFixed", "InvalidLists", "InvalidPairs", "InvalidPeople"] (by decide))) rfl (.inl rfl), (List.forall_mem_cons.mpr ⟨ps_step (pt_isXT (Cs := (["InvalidTable", "InvalidTelling", "InvalidText", "InvalidVoters", "NoBallot", "NoRow", "NotFree"] : List Str).map (He.ga X.K)) Ea rfl (.inl rfl) rfl (m_isinstance Y) (pa_globs rfl (g_InvalidTable Y) (pa_globs rfl (g_InvalidTelling Y) (pa_globs rfl (g_InvalidText Y) (pa_globs rfl (g_InvalidVoters Y) (pa_globs rfl (g_NoBallot Y) (pa_globs rfl (g_NoRow Y) (pa_globs rfl (g_NotFree Y) pa_globs0))))))) (by rw [List.length_map]; decide) (errB_any Y.x hx ["InvalidTable", "InvalidTelling", "InvalidText", "InvalidVoters", "NoBallot", "NoRow", "NotFree"] (by decide))) rfl (.inl rfl), (List.forall_mem_cons.mpr ⟨ps_step (pt_orX (D := He.ga X.K x) (pt_isXT (Cs := (["NotMatching", "NothingToUndo", "NotTold"] : List Str).map (He.ga X.K)) Ea rfl (.inl rfl) rfl (m_isinstance Y) (pa_globs rfl (g_NotMatching Y) (pa_globs rfl (g_NothingToUndo Y) (pa_globs rfl (g_NotTold Y) pa_globs0))) (by rw [List.length_map]; decide) (errB_any Y.x hx ["NotMatching", "NothingToUndo", "NotTold"] (by decide))) (pt_isXB Ea rfl (.inl rfl) rfl (m_isinstance Y) rfl (m_ValueError Y) (by decide +kernel) (errB_val Y.x hx))) rfl (.inl rfl), (fun _ h => nomatch h)⟩)⟩)⟩)⟩)⟩)⟩)⟩)⟩)⟩)⟩)⟩)
theorem td_ {X : Cx} {k : Nat} (Y : Ctx X.K X.mg) (hr : Room 3 X.A) : ToldD X (He.ga X.K "BallotError") 1 k "_law_words" "_law_told" := by
  obtain ⟨_, Xk, G⟩ := Y.ex
  obtain ⟨fd, FD⟩ := Y.c.def_ 30 (d := d__law_told)
  have hb : Binds X.K fd ["_law_call_here"] [] := FD.bindsN fun _ _ _ _ _ _ us h => by
    match us, h with
    | [a0], _ => rfl
  have hk := FD.kp
  obtain ⟨oc, od, dV, kV, doc, pm, an, cdv, ct, osl, rfl, lk, hcd, _, _⟩ := FD.ex
  exact ⟨⟨_, _, _, _, _, _, _, _, _, _, _, _, _, _, N__law_told, "_law_call_here", He.glo_ok Xk G (Y.c.fact 30), hk, lk, hcd, hb, S__law_told, rfl, .inl rfl, by decide, by decide, fun q => told_words rfl rfl (g_BallotError Y) (by decide) rfl (by decide) rfl rfl (by decide) (by decide) (by decide) (by decide) (by decide) fun s => hr.deeper _⟩⟩
theorem tw_ {X : Cx} {k : Nat} (Y : Ctx X.K X.mg) : TwOk X (He.ga X.K "BallotError") 1 "_law_words" twE := by
  have gl : ∀ x ∈ errX, X.mg x = some (.ref (He.ga X.K x)) := by
    unfold errX
    exact List.forall_mem_cons.mpr ⟨g_InvalidCount Y, List.forall_mem_cons.mpr ⟨g_InvalidBallot Y, List.forall_mem_cons.mpr ⟨g_InvalidBallots Y, List.forall_mem_cons.mpr ⟨g_InvalidLine Y, List.forall_mem_cons.mpr ⟨g_InvalidPlace Y, List.forall_mem_cons.mpr ⟨g_InvalidIndex Y, List.forall_mem_cons.mpr ⟨g_NotFalling Y, fun _ h => nomatch h⟩⟩⟩⟩⟩⟩⟩
  exact twOk_of gl (fun x hx => errB_base Y.x hx) (fun x hx => errB_exc Y.x hx) fun x hx w hw => wd_ Y hx hw
def N__law_cells : List Str := ["_law_script", "_law_many"]
theorem W__law_cells (Y : Ctx K mg) {f : Addr} (cdv : Value) (A : Around) (outer : List Env) (s : Shared) (H : Hp) (E : XK) (hr : Room 0 (A.deeper (envOfC "_law_cells" (defScope (topS 49)) s.heap.objs.size f cdv))) (hgd : A.guards = some []) :
    SSs (GX Pg w K mg base N__law_cells "_law_cells" (defScope (topS 49)) f cdv A outer s H E) (GW E) [] (defBody (topS 49)) B__law_cells := by
  have h64 : (A.deeper (envOfC "_law_cells" (defScope (topS 49)) s.heap.objs.size f cdv)).units + 64 < cLine := hr.units
  have h65 : (A.deeper (envOfC "_law_cells" (defScope (topS 49)) s.heap.objs.size f cdv)).units + 65 < cLine := by have := hr.un; omega
  have h1 := unl1 h64
  have h0 := unl0 h64
  have nd : N__law_cells.Nodup := by decide
  exact (ss_one (ss_ret (se_sl (se_add (se_var 0) (se_lst (sa_cons se_int sa_nil))) .no (.yes (se_b2 (call_max2 rfl) c2_i rfl (m_max Y) (by decide +kernel) se_int (se_b2 (call_min2 rfl) c2_i rfl (m_min Y) (by decide +kernel) (se_var 1) (se_b1 call_lenU c1_len rfl (m_len Y) (by decide +kernel) (se_var 0))))))))
theorem S__law_cells : FnScope N__law_cells ["_law_script", "_law_many"] (defScope (topS 49)) := ⟨rfl, rfl, rfl, by decide, rfl, by decide +kernel, by decide +kernel⟩
theorem D__law_cells_2 (Y : Ctx K mg) : Dfn Pg w K mg base 1 "_law_cells" 2 F__law_cells 2 [] := by
  obtain ⟨_, X, G⟩ := Y.ex
  obtain ⟨fd, FD⟩ := Y.c.def_ 0 (d := d__law_cells)
  have hb : Binds K fd ["_law_script", "_law_many"] [] := FD.bindsN fun _ _ _ _ _ _ us h => by
    match us, h with
    | [a0, a1], _ => rfl
  exact ⟨⟨_, fd, ["_law_script", "_law_many"], [], He.glo_ok X G (Y.c.fact 0), FD.kp, fnG_D FD S__law_cells rfl fun cdv  A outer s H E hr hgd => W__law_cells Y  cdv  A outer s H E hr hgd, hb, .nil, rfl, rfl⟩⟩
def N_is_integer : List Str := ["value", "low", "high"]
theorem W_is_integer (Y : Ctx K mg) {f : Addr} (cdv : Value) (A : Around) (outer : List Env) (s : Shared) (H : Hp) (E : XK) (hr : Room 0 (A.deeper (envOfC "is_integer" (defScope (topS 29)) s.heap.objs.size f cdv))) (hgd : A.guards = some []) :
    SSs (GX Pg w K mg base N_is_integer "is_integer" (defScope (topS 29)) f cdv A outer s H E) (GW E) [] (defBody (topS 29)) B_is_integer := by
  have h64 : (A.deeper (envOfC "is_integer" (defScope (topS 29)) s.heap.objs.size f cdv)).units + 64 < cLine := hr.units
  have h65 : (A.deeper (envOfC "is_integer" (defScope (topS 29)) s.heap.objs.size f cdv)).units + 65 < cLine := by have := hr.un; omega
  have h1 := unl1 h64
  have h0 := unl0 h64
  have nd : N_is_integer.Nodup := by decide
  exact (ss_cons (ss_if (st_w (sw_or (st_not (st_tru (se_isi (T := "int") (by decide +kernel) rfl (m_isinstance Y) rfl (m_int Y) (by decide +kernel) (se_var 0)))) (sw_or1 (st_tru (se_isi (T := "bool") (by decide +kernel) rfl (m_isinstance Y) rfl (m_bool Y) (by decide +kernel) (se_var 0)))))) (ss_one (ss_ret se_bl)) ss_nil)
    (ss_one (ss_ret (se_and (se_le (se_var 1) (se_var 0)) (se_oneA (se_or (se_is (se_var 2) se_non) (se_oneO (se_le (se_var 0) (se_var 2)))))))))
theorem S_is_integer : FnScope N_is_integer ["value", "low", "high"] (defScope (topS 29)) := ⟨rfl, rfl, rfl, by decide, rfl, by decide +kernel, by decide +kernel⟩
theorem D_is_integer_2 (Y : Ctx K mg) : Dfn Pg w K mg base 1 "is_integer" 3 F_is_integer 2 [.none] := by
  obtain ⟨_, X, G⟩ := Y.ex
  obtain ⟨fd, FD⟩ := Y.c.def_ 1 (d := d_is_integer)
  have hb := FD.binds1 (ps := ["value", "low", "high"]) 2 0 (fun z => nomatch z) rfl fun T kV doc pm an cdv ct us its h1 h2 => by
    match us, h1, its, h2 with
    | [a0, a1], _, [b0], _ => exact ⟨_, rfl, rfl⟩
  obtain ⟨ds, r, hb⟩ := hb
  exact ⟨⟨_, fd, ["value", "low", "high"], ds, He.glo_ok X G (Y.c.fact 1), FD.kp, fnG_D FD S_is_integer rfl fun cdv A outer s H E hr hgd => W_is_integer Y cdv A outer s H E hr hgd, hb, r, rfl, rfl⟩⟩
theorem D_is_integer_3 (Y : Ctx K mg) : Dfn Pg w K mg base 1 "is_integer" 3 F_is_integer 3 [] := by
  obtain ⟨_, X, G⟩ := Y.ex
  obtain ⟨fd, FD⟩ := Y.c.def_ 1 (d := d_is_integer)
  have hb := FD.binds1 (ps := ["value", "low", "high"]) 3 1 (fun z => nomatch z) rfl fun T kV doc pm an cdv ct us its h1 h2 => by
    match us, h1, its, h2 with
    | [a0, a1, a2], _, [b0], _ => exact ⟨_, rfl, rfl⟩
  obtain ⟨ds, r, hb⟩ := hb
  exact ⟨⟨_, fd, ["value", "low", "high"], ds, He.glo_ok X G (Y.c.fact 1), FD.kp, fnG_D FD S_is_integer rfl fun cdv A outer s H E hr hgd => W_is_integer Y cdv A outer s H E hr hgd, hb, r, rfl, rfl⟩⟩
def N_is_each_once : List Str := ["count", "value", "item"]
theorem W_is_each_once (Y : Ctx K mg) {f : Addr} (cdv : Value) (A : Around) (outer : List Env) (s : Shared) (H : Hp) (E : XK) (hr : Room 1 (A.deeper (envOfC "is_each_once" (defScope (topS 30)) s.heap.objs.size f cdv))) (hgd : A.guards = some []) :
    SSs (GX Pg w K mg base N_is_each_once "is_each_once" (defScope (topS 30)) f cdv A outer s H E) (GW E) [] (defBody (topS 30)) B_is_each_once := by
  have h64 : (A.deeper (envOfC "is_each_once" (defScope (topS 30)) s.heap.objs.size f cdv)).units + 64 < cLine := hr.units
  have h65 : (A.deeper (envOfC "is_each_once" (defScope (topS 30)) s.heap.objs.size f cdv)).units + 65 < cLine := by have := hr.un; omega
  have h1 := unl1 h64
  have h0 := unl0 h64
  have nd : N_is_each_once.Nodup := by decide
  exact (ss_cons (ss_if (st_w (sw_or (st_not (st_tru (se_isi (T := "list") (by decide +kernel) rfl (m_isinstance Y) rfl (m_list Y) (by decide +kernel) (se_var 1)))) (sw_or (st_ne h64 (se_b1 call_lenU c1_len rfl (m_len Y) (by decide +kernel) (se_var 1)) (se_var 0)) (sw_or1 (st_not (st_tru (se_b1 (cr_all rfl) c1_all rfl (m_all Y) (by decide +kernel) (se_lc false rfl nd (si_seq (se_var 1)) (own := [("item", 2)]) (by kernel_rfl) (by decide) (by decide) (fun _ _ _ _ _ => (sg_name 2 nd rfl (by first | exact Or.inl rfl | exact Or.inr rfl) (by decide))) (fun _ _ _ _ _ => sts_nil) (fun _ _ _ _ _ => (se_tk (se_callD ((D_is_integer_2 Y).mono (by decide)) hr hgd w0_pass rfl (sr_cons (se_tk (se_var 2)) (sr_cons se_int sr_nil)) (len_rCons (len_rCons len_rNil))))))))))))) (ss_one (ss_ret se_bl)) ss_nil)
    (ss_one (ss_ret (se_eq h64 (se_b1 (cr_sortedD h64) c1_sortD rfl (m_sorted Y) (by decide +kernel) (se_var 1)) (se_lrg1 rfl rfl (m_list Y) rfl (m_range Y) (se_var 0))))))
theorem S_is_each_once : FnScope N_is_each_once ["count", "value"] (defScope (topS 30)) := ⟨rfl, rfl, rfl, by decide, rfl, by decide +kernel, by decide +kernel⟩
theorem D_is_each_once_2 (Y : Ctx K mg) : Dfn Pg w K mg base 2 "is_each_once" 2 F_is_each_once 2 [] := by
  obtain ⟨_, X, G⟩ := Y.ex
  obtain ⟨fd, FD⟩ := Y.c.def_ 2 (d := d_is_each_once)
  have hb : Binds K fd ["count", "value"] [] := FD.bindsN fun _ _ _ _ _ _ us h => by
    match us, h with
    | [a0, a1], _ => rfl
  exact ⟨⟨_, fd, ["count", "value"], [], He.glo_ok X G (Y.c.fact 2), FD.kp, fnG_D FD S_is_each_once rfl fun cdv  A outer s H E hr hgd => W_is_each_once Y  cdv  A outer s H E hr hgd, hb, .nil, rfl, rfl⟩⟩
def N_need_line : List Str := ["line", "count", "size"]
theorem W_need_line (Y : Ctx K mg) {f : Addr} (cdv : Value) (A : Around) (outer : List Env) (s : Shared) (H : Hp) (E : XK) (hr : Room 2 (A.deeper (envOfC "need_line" (defScope (topS 35)) s.heap.objs.size f cdv))) (hgd : A.guards = some []) :
    SSs (GX Pg w K mg base N_need_line "need_line" (defScope (topS 35)) f cdv A outer s H E) (GW E) [] (defBody (topS 35)) B_need_line := by
  have h64 : (A.deeper (envOfC "need_line" (defScope (topS 35)) s.heap.objs.size f cdv)).units + 64 < cLine := hr.units
  have h65 : (A.deeper (envOfC "need_line" (defScope (topS 35)) s.heap.objs.size f cdv)).units + 65 < cLine := by have := hr.un; omega
  have h1 := unl1 h64
  have h0 := unl0 h64
  have nd : N_need_line.Nodup := by decide
  exact (ss_cons (ss_set 2 nd rfl (by first | exact Or.inl rfl | exact Or.inr rfl) (by decide) (se_tk (se_if (st_w (sw_and (st_is (se_var 1) se_non) (sw_and1 (st_tru (se_isi (T := "list") (by decide +kernel) rfl (m_isinstance Y) rfl (m_list Y) (by decide +kernel) (se_var 0)))))) (se_b1 call_lenU c1_len rfl (m_len Y) (by decide +kernel) (se_var 0)) (se_var 1))))
    (ss_one (ss_if (st_w (sw_or (st_not (st_tru (se_callD ((D_is_integer_3 Y).mono (by decide)) hr hgd gx_pass rfl (sr_cons (se_tk (se_var 2)) (sr_cons se_int (sr_cons (se_tk (se_globI rfl (m_MOST_PLACES Y))) sr_nil))) (len_rCons (len_rCons (len_rCons len_rNil)))))) (sw_or1 (st_not (st_tru (se_callD ((D_is_each_once_2 Y).mono (by decide)) hr hgd gx_pass rfl (sr_cons (se_tk (se_var 2)) (sr_cons (se_tk (se_var 0)) sr_nil)) (len_rCons (len_rCons len_rNil)))))))) (ss_one (ss_raise rfl gx_takes (e_InvalidLine Y) rfl)) ss_nil)))
theorem S_need_line : FnScope N_need_line ["line", "count"] (defScope (topS 35)) := ⟨rfl, rfl, rfl, by decide, rfl, by decide +kernel, by decide +kernel⟩
theorem D_need_line_1 (Y : Ctx K mg) : Dfn Pg w K mg base 3 "need_line" 2 F_need_line 1 [.none] := by
  obtain ⟨_, X, G⟩ := Y.ex
  obtain ⟨fd, FD⟩ := Y.c.def_ 3 (d := d_need_line)
  have hb := FD.binds1 (ps := ["line", "count"]) 1 0 (fun z => nomatch z) rfl fun T kV doc pm an cdv ct us its h1 h2 => by
    match us, h1, its, h2 with
    | [a0], _, [b0], _ => exact ⟨_, rfl, rfl⟩
  obtain ⟨ds, r, hb⟩ := hb
  exact ⟨⟨_, fd, ["line", "count"], ds, He.glo_ok X G (Y.c.fact 3), FD.kp, fnG_D FD S_need_line rfl fun cdv A outer s H E hr hgd => W_need_line Y cdv A outer s H E hr hgd, hb, r, rfl, rfl⟩⟩
def N_are_each_once : List Str := ["count", "value", "one"]
theorem W_are_each_once (Y : Ctx K mg) {f : Addr} (cdv : Value) (A : Around) (outer : List Env) (s : Shared) (H : Hp) (E : XK) (hr : Room 2 (A.deeper (envOfC "are_each_once" (defScope (topS 31)) s.heap.objs.size f cdv))) (hgd : A.guards = some []) :
    SSs (GX Pg w K mg base N_are_each_once "are_each_once" (defScope (topS 31)) f cdv A outer s H E) (GW E) [] (defBody (topS 31)) B_are_each_once := by
  have h64 : (A.deeper (envOfC "are_each_once" (defScope (topS 31)) s.heap.objs.size f cdv)).units + 64 < cLine := hr.units
  have h65 : (A.deeper (envOfC "are_each_once" (defScope (topS 31)) s.heap.objs.size f cdv)).units + 65 < cLine := by have := hr.un; omega
  have h1 := unl1 h64
  have h0 := unl0 h64
  have nd : N_are_each_once.Nodup := by decide
  exact (ss_one (ss_ret (se_and (se_isi (T := "list") (by decide +kernel) rfl (m_isinstance Y) rfl (m_list Y) (by decide +kernel) (se_var 1)) (se_and (se_le (se_b1 call_lenU c1_len rfl (m_len Y) (by decide +kernel) (se_var 1)) (se_globI rfl (m_MOST_BALLOTS Y))) (se_oneA (se_b1 (cr_all rfl) c1_all rfl (m_all Y) (by decide +kernel) (se_lc false rfl nd (si_seq (se_var 1)) (own := [("one", 2)]) (by kernel_rfl) (by decide) (by decide) (fun _ _ _ _ _ => (sg_name 2 nd rfl (by first | exact Or.inl rfl | exact Or.inr rfl) (by decide))) (fun _ _ _ _ _ => sts_nil) (fun _ _ _ _ _ => (se_tk (se_callD ((D_is_each_once_2 Y).mono (by decide)) hr hgd w0_pass rfl (sr_cons (se_tk (se_var 0)) (sr_cons (se_tk (se_var 2)) sr_nil)) (len_rCons (len_rCons len_rNil))))))))))))
theorem S_are_each_once : FnScope N_are_each_once ["count", "value"] (defScope (topS 31)) := ⟨rfl, rfl, rfl, by decide, rfl, by decide +kernel, by decide +kernel⟩
theorem D_are_each_once_2 (Y : Ctx K mg) : Dfn Pg w K mg base 3 "are_each_once" 2 F_are_each_once 2 [] := by
  obtain ⟨_, X, G⟩ := Y.ex
  obtain ⟨fd, FD⟩ := Y.c.def_ 4 (d := d_are_each_once)
  have hb : Binds K fd ["count", "value"] [] := FD.bindsN fun _ _ _ _ _ _ us h => by
    match us, h with
    | [a0, a1], _ => rfl
  exact ⟨⟨_, fd, ["count", "value"], [], He.glo_ok X G (Y.c.fact 4), FD.kp, fnG_D FD S_are_each_once rfl fun cdv  A outer s H E hr hgd => W_are_each_once Y  cdv  A outer s H E hr hgd, hb, .nil, rfl, rfl⟩⟩
def N_need_ballots : List Str := ["count", "ballots"]
theorem W_need_ballots (Y : Ctx K mg) {f : Addr} (cdv : Value) (A : Around) (outer : List Env) (s : Shared) (H : Hp) (E : XK) (hr : Room 3 (A.deeper (envOfC "need_ballots" (defScope (topS 34)) s.heap.objs.size f cdv))) (hgd : A.guards = some []) :
    SSs (GX Pg w K mg base N_need_ballots "need_ballots" (defScope (topS 34)) f cdv A outer s H E) (GW E) [] (defBody (topS 34)) B_need_ballots := by
  have h64 : (A.deeper (envOfC "need_ballots" (defScope (topS 34)) s.heap.objs.size f cdv)).units + 64 < cLine := hr.units
  have h65 : (A.deeper (envOfC "need_ballots" (defScope (topS 34)) s.heap.objs.size f cdv)).units + 65 < cLine := by have := hr.un; omega
  have h1 := unl1 h64
  have h0 := unl0 h64
  have nd : N_need_ballots.Nodup := by decide
  exact (ss_one (ss_if (st_not (st_tru (se_callD ((D_are_each_once_2 Y).mono (by decide)) hr hgd gx_pass rfl (sr_cons (se_tk (se_var 0)) (sr_cons (se_tk (se_var 1)) sr_nil)) (len_rCons (len_rCons len_rNil))))) (ss_one (ss_raise rfl gx_takes (e_InvalidBallots Y) rfl)) ss_nil))
theorem S_need_ballots : FnScope N_need_ballots ["count", "ballots"] (defScope (topS 34)) := ⟨rfl, rfl, rfl, by decide, rfl, by decide +kernel, by decide +kernel⟩
theorem D_need_ballots_2 (Y : Ctx K mg) : Dfn Pg w K mg base 4 "need_ballots" 2 F_need_ballots 2 [] := by
  obtain ⟨_, X, G⟩ := Y.ex
  obtain ⟨fd, FD⟩ := Y.c.def_ 5 (d := d_need_ballots)
  have hb : Binds K fd ["count", "ballots"] [] := FD.bindsN fun _ _ _ _ _ _ us h => by
    match us, h with
    | [a0, a1], _ => rfl
  exact ⟨⟨_, fd, ["count", "ballots"], [], He.glo_ok X G (Y.c.fact 5), FD.kp, fnG_D FD S_need_ballots rfl fun cdv  A outer s H E hr hgd => W_need_ballots Y  cdv  A outer s H E hr hgd, hb, .nil, rfl, rfl⟩⟩
def N_need_on_line : List Str := ["line", "ballots"]
theorem W_need_on_line (Y : Ctx K mg) {f : Addr} (cdv : Value) (A : Around) (outer : List Env) (s : Shared) (H : Hp) (E : XK) (hr : Room 4 (A.deeper (envOfC "need_on_line" (defScope (topS 37)) s.heap.objs.size f cdv))) (hgd : A.guards = some []) :
    SSs (GX Pg w K mg base N_need_on_line "need_on_line" (defScope (topS 37)) f cdv A outer s H E) (GW E) [] (defBody (topS 37)) B_need_on_line_a := by
  have h64 : (A.deeper (envOfC "need_on_line" (defScope (topS 37)) s.heap.objs.size f cdv)).units + 64 < cLine := hr.units
  have h65 : (A.deeper (envOfC "need_on_line" (defScope (topS 37)) s.heap.objs.size f cdv)).units + 65 < cLine := by have := hr.un; omega
  have h1 := unl1 h64
  have h0 := unl0 h64
  have nd : N_need_on_line.Nodup := by decide
  exact (ss_cons (ss_expr (se_callD ((D_need_line_1 Y).mono (by decide)) hr hgd gx_pass rfl (sr_cons (se_tk (se_var 0)) sr_nil) (len_rCons len_rNil)))
    (ss_one (ss_expr (se_callD ((D_need_ballots_2 Y).mono (by decide)) hr hgd gx_pass rfl (sr_cons (se_tk (se_b1 call_lenU c1_len rfl (m_len Y) (by decide +kernel) (se_var 0))) (sr_cons (se_tk (se_var 1)) sr_nil)) (len_rCons (len_rCons len_rNil))))))
theorem S_need_on_line : FnScope N_need_on_line ["line", "ballots"] (defScope (topS 37)) := ⟨rfl, rfl, rfl, by decide, rfl, by decide +kernel, by decide +kernel⟩
theorem D_need_on_line_2 (Y : Ctx K mg) : Dfn Pg w K mg base 5 "need_on_line" 2 F_need_on_line_a 2 [] := by
  obtain ⟨_, X, G⟩ := Y.ex
  obtain ⟨fd, FD⟩ := Y.c.def_ 6 (d := d_need_on_line)
  have hb : Binds K fd ["line", "ballots"] [] := FD.bindsN fun _ _ _ _ _ _ us h => by
    match us, h with
    | [a0, a1], _ => rfl
  exact ⟨⟨_, fd, ["line", "ballots"], [], He.glo_ok X G (Y.c.fact 6), FD.kp, fnG_D FD S_need_on_line rfl fun cdv  A outer s H E hr hgd => W_need_on_line Y  cdv  A outer s H E hr hgd, hb, .nil, rfl, rfl⟩⟩
def N_ranks_in : List Str := ["ballot", "found", "index", "place"]
theorem W_ranks_in (Y : Ctx K mg) {f : Addr} (cdv : Value) (A : Around) (outer : List Env) (s : Shared) (H : Hp) (E : XK) (hr : Room 0 (A.deeper (envOfC "ranks_in" (defScope (topS 38)) s.heap.objs.size f cdv))) (hgd : A.guards = some []) :
    SSs (GX Pg w K mg base N_ranks_in "ranks_in" (defScope (topS 38)) f cdv A outer s H E) (GW E) [] (defBody (topS 38)) B_ranks_in := by
  have h64 : (A.deeper (envOfC "ranks_in" (defScope (topS 38)) s.heap.objs.size f cdv)).units + 64 < cLine := hr.units
  have h65 : (A.deeper (envOfC "ranks_in" (defScope (topS 38)) s.heap.objs.size f cdv)).units + 65 < cLine := by have := hr.un; omega
  have h1 := unl1 h64
  have h0 := unl0 h64
  have nd : N_ranks_in.Nodup := by decide
  exact (ss_cons (ss_set 1 nd rfl (by first | exact Or.inl rfl | exact Or.inr rfl) (by decide) (se_mul (se_lst (sa_cons se_int sa_nil)) (se_b1 call_lenU c1_len rfl (m_len Y) (by decide +kernel) (se_var 0))))
    (ss_cons (ss_for (passes_of rfl) rfl (si_enum rfl (m_enumerate Y) (se_var 0)) (sg_tup rfl (sgs_cons (sg_name 2 nd rfl (by first | exact Or.inl rfl | exact Or.inr rfl) (by decide)) (sgs_cons (sg_name 3 nd rfl (by first | exact Or.inl rfl | exact Or.inr rfl) (by decide)) sgs_nil))) (ss_one (ss_asg (se_var 2) (sg_sub (se_var 1) (se_var 3)))))
    (ss_one (ss_ret (se_var 1)))))
theorem S_ranks_in : FnScope N_ranks_in ["ballot"] (defScope (topS 38)) := ⟨rfl, rfl, rfl, by decide, rfl, by decide +kernel, by decide +kernel⟩
theorem D_ranks_in_1 (Y : Ctx K mg) : Dfn Pg w K mg base 1 "ranks_in" 1 F_ranks_in 1 [] := by
  obtain ⟨_, X, G⟩ := Y.ex
  obtain ⟨fd, FD⟩ := Y.c.def_ 7 (d := d_ranks_in)
  have hb : Binds K fd ["ballot"] [] := FD.bindsN fun _ _ _ _ _ _ us h => by
    match us, h with
    | [a0], _ => rfl
  exact ⟨⟨_, fd, ["ballot"], [], He.glo_ok X G (Y.c.fact 7), FD.kp, fnG_D FD S_ranks_in rfl fun cdv  A outer s H E hr hgd => W_ranks_in Y  cdv  A outer s H E hr hgd, hb, .nil, rfl, rfl⟩⟩
def N_renamed : List Str := ["line", "ballots", "ranks", "ballot", "place"]
theorem W_renamed (Y : Ctx K mg) {f : Addr} (cdv : Value) (A : Around) (outer : List Env) (s : Shared) (H : Hp) (E : XK) (hr : Room 5 (A.deeper (envOfC "renamed" (defScope (topS 45)) s.heap.objs.size f cdv))) (hgd : A.guards = some []) :
    SSs (GX Pg w K mg base N_renamed "renamed" (defScope (topS 45)) f cdv A outer s H E) (GW E) [] (defBody (topS 45)) B_renamed_a := by
  have h64 : (A.deeper (envOfC "renamed" (defScope (topS 45)) s.heap.objs.size f cdv)).units + 64 < cLine := hr.units
  have h65 : (A.deeper (envOfC "renamed" (defScope (topS 45)) s.heap.objs.size f cdv)).units + 65 < cLine := by have := hr.un; omega
  have h1 := unl1 h64
  have h0 := unl0 h64
  have nd : N_renamed.Nodup := by decide
  exact (ss_cons (ss_expr (se_callD ((D_need_on_line_2 Y).mono (by decide)) hr hgd gx_pass rfl (sr_cons (se_tk (se_var 0)) (sr_cons (se_tk (se_var 1)) sr_nil)) (len_rCons (len_rCons len_rNil))))
    (ss_cons (ss_set 2 nd rfl (by first | exact Or.inl rfl | exact Or.inr rfl) (by decide) (se_tk (se_callD ((D_ranks_in_1 Y).mono (by decide)) hr hgd gx_pass rfl (sr_cons (se_tk (se_var 0)) sr_nil) (len_rCons len_rNil))))
    (ss_one (ss_ret (se_lc true rfl nd (si_seq (se_var 1)) (own := [("ballot", 3)]) (by kernel_rfl) (by decide) (by decide) (fun _ _ _ _ _ => (sg_name 3 nd rfl (by first | exact Or.inl rfl | exact Or.inr rfl) (by decide))) (fun _ _ _ _ _ => sts_nil) (fun _ _ _ _ _ => (se_lc false rfl nd (si_seq (se_var 3)) (own := [("place", 4)]) (by kernel_rfl) (by decide) (by decide) (fun _ _ _ _ _ => (sg_name 4 nd rfl (by first | exact Or.inl rfl | exact Or.inr rfl) (by decide))) (fun _ _ _ _ _ => sts_nil) (fun _ _ _ _ _ => (se_tk (se_ix2 h64 (se_var 2) (se_var 4)))))))))))
theorem S_renamed : FnScope N_renamed ["line", "ballots"] (defScope (topS 45)) := ⟨rfl, rfl, rfl, by decide, rfl, by decide +kernel, by decide +kernel⟩
theorem D_renamed_2 (Y : Ctx K mg) : Dfn Pg w K mg base 6 "renamed" 2 F_renamed_a 2 [] := by
  obtain ⟨_, X, G⟩ := Y.ex
  obtain ⟨fd, FD⟩ := Y.c.def_ 8 (d := d_renamed)
  have hb : Binds K fd ["line", "ballots"] [] := FD.bindsN fun _ _ _ _ _ _ us h => by
    match us, h with
    | [a0, a1], _ => rfl
  exact ⟨⟨_, fd, ["line", "ballots"], [], He.glo_ok X G (Y.c.fact 8), FD.kp, fnG_D FD S_renamed rfl fun cdv  A outer s H E hr hgd => W_renamed Y  cdv  A outer s H E hr hgd, hb, .nil, rfl, rfl⟩⟩
def N_need_count : List Str := ["count", "most"]
theorem W_need_count (Y : Ctx K mg) {f : Addr} (cdv : Value) (A : Around) (outer : List Env) (s : Shared) (H : Hp) (E : XK) (hr : Room 1 (A.deeper (envOfC "need_count" (defScope (topS 32)) s.heap.objs.size f cdv))) (hgd : A.guards = some []) :
    SSs (GX Pg w K mg base N_need_count "need_count" (defScope (topS 32)) f cdv A outer s H E) (GW E) [] (defBody (topS 32)) B_need_count := by
  have h64 : (A.deeper (envOfC "need_count" (defScope (topS 32)) s.heap.objs.size f cdv)).units + 64 < cLine := hr.units
  have h65 : (A.deeper (envOfC "need_count" (defScope (topS 32)) s.heap.objs.size f cdv)).units + 65 < cLine := by have := hr.un; omega
  have h1 := unl1 h64
  have h0 := unl0 h64
  have nd : N_need_count.Nodup := by decide
  exact (ss_one (ss_if (st_not (st_tru (se_callD ((D_is_integer_3 Y).mono (by decide)) hr hgd gx_pass rfl (sr_cons (se_tk (se_var 0)) (sr_cons se_int (sr_cons (se_tk (se_var 1)) sr_nil))) (len_rCons (len_rCons (len_rCons len_rNil)))))) (ss_one (ss_raise rfl gx_takes (e_InvalidCount Y) rfl)) ss_nil))
theorem S_need_count : FnScope N_need_count ["count", "most"] (defScope (topS 32)) := ⟨rfl, rfl, rfl, by decide, rfl, by decide +kernel, by decide +kernel⟩
theorem D_need_count_1 (Y : Ctx K mg) : Dfn Pg w K mg base 2 "need_count" 2 F_need_count 1 [.int 12] := by
  obtain ⟨_, X, G⟩ := Y.ex
  obtain ⟨fd, FD⟩ := Y.c.def_ 9 (d := d_need_count)
  have hb := FD.binds1 (ps := ["count", "most"]) 1 0 (fun z => nomatch z) rfl fun T kV doc pm an cdv ct us its h1 h2 => by
    match us, h1, its, h2 with
    | [a0], _, [b0], _ => exact ⟨_, rfl, rfl⟩
  obtain ⟨ds, r, hb⟩ := hb
  exact ⟨⟨_, fd, ["count", "most"], ds, He.glo_ok X G (Y.c.fact 9), FD.kp, fnG_D FD S_need_count rfl fun cdv A outer s H E hr hgd => W_need_count Y cdv A outer s H E hr hgd, hb, r, rfl, rfl⟩⟩
def N_is_ballot : List Str := ["count", "value"]
theorem W_is_ballot (Y : Ctx K mg) {f : Addr} (cdv : Value) (A : Around) (outer : List Env) (s : Shared) (H : Hp) (E : XK) (hr : Room 2 (A.deeper (envOfC "is_ballot" (defScope (topS 40)) s.heap.objs.size f cdv))) (hgd : A.guards = some []) :
    SSs (GX Pg w K mg base N_is_ballot "is_ballot" (defScope (topS 40)) f cdv A outer s H E) (GW E) [] (defBody (topS 40)) B_is_ballot := by
  have h64 : (A.deeper (envOfC "is_ballot" (defScope (topS 40)) s.heap.objs.size f cdv)).units + 64 < cLine := hr.units
  have h65 : (A.deeper (envOfC "is_ballot" (defScope (topS 40)) s.heap.objs.size f cdv)).units + 65 < cLine := by have := hr.un; omega
  have h1 := unl1 h64
  have h0 := unl0 h64
  have nd : N_is_ballot.Nodup := by decide
  exact (ss_cons (ss_expr (se_callD ((D_need_count_1 Y).mono (by decide)) hr hgd gx_pass rfl (sr_cons (se_tk (se_var 0)) sr_nil) (len_rCons len_rNil)))
    (ss_one (ss_ret (se_callD ((D_is_each_once_2 Y).mono (by decide)) hr hgd gx_pass rfl (sr_cons (se_tk (se_var 0)) (sr_cons (se_tk (se_var 1)) sr_nil)) (len_rCons (len_rCons len_rNil))))))
theorem S_is_ballot : FnScope N_is_ballot ["count", "value"] (defScope (topS 40)) := ⟨rfl, rfl, rfl, by decide, rfl, by decide +kernel, by decide +kernel⟩
theorem D_is_ballot_2 (Y : Ctx K mg) : Dfn Pg w K mg base 3 "is_ballot" 2 F_is_ballot 2 [] := by
  obtain ⟨_, X, G⟩ := Y.ex
  obtain ⟨fd, FD⟩ := Y.c.def_ 10 (d := d_is_ballot)
  have hb : Binds K fd ["count", "value"] [] := FD.bindsN fun _ _ _ _ _ _ us h => by
    match us, h with
    | [a0, a1], _ => rfl
  exact ⟨⟨_, fd, ["count", "value"], [], He.glo_ok X G (Y.c.fact 10), FD.kp, fnG_D FD S_is_ballot rfl fun cdv  A outer s H E hr hgd => W_is_ballot Y  cdv  A outer s H E hr hgd, hb, .nil, rfl, rfl⟩⟩
def N_are_ballots : List Str := ["count", "value"]
theorem W_are_ballots (Y : Ctx K mg) {f : Addr} (cdv : Value) (A : Around) (outer : List Env) (s : Shared) (H : Hp) (E : XK) (hr : Room 3 (A.deeper (envOfC "are_ballots" (defScope (topS 41)) s.heap.objs.size f cdv))) (hgd : A.guards = some []) :
    SSs (GX Pg w K mg base N_are_ballots "are_ballots" (defScope (topS 41)) f cdv A outer s H E) (GW E) [] (defBody (topS 41)) B_are_ballots := by
  have h64 : (A.deeper (envOfC "are_ballots" (defScope (topS 41)) s.heap.objs.size f cdv)).units + 64 < cLine := hr.units
  have h65 : (A.deeper (envOfC "are_ballots" (defScope (topS 41)) s.heap.objs.size f cdv)).units + 65 < cLine := by have := hr.un; omega
  have h1 := unl1 h64
  have h0 := unl0 h64
  have nd : N_are_ballots.Nodup := by decide
  exact (ss_cons (ss_expr (se_callD ((D_need_count_1 Y).mono (by decide)) hr hgd gx_pass rfl (sr_cons (se_tk (se_var 0)) sr_nil) (len_rCons len_rNil)))
    (ss_one (ss_ret (se_callD ((D_are_each_once_2 Y).mono (by decide)) hr hgd gx_pass rfl (sr_cons (se_tk (se_var 0)) (sr_cons (se_tk (se_var 1)) sr_nil)) (len_rCons (len_rCons len_rNil))))))
theorem S_are_ballots : FnScope N_are_ballots ["count", "value"] (defScope (topS 41)) := ⟨rfl, rfl, rfl, by decide, rfl, by decide +kernel, by decide +kernel⟩
theorem D_are_ballots_2 (Y : Ctx K mg) : Dfn Pg w K mg base 4 "are_ballots" 2 F_are_ballots 2 [] := by
  obtain ⟨_, X, G⟩ := Y.ex
  obtain ⟨fd, FD⟩ := Y.c.def_ 11 (d := d_are_ballots)
  have hb : Binds K fd ["count", "value"] [] := FD.bindsN fun _ _ _ _ _ _ us h => by
    match us, h with
    | [a0, a1], _ => rfl
  exact ⟨⟨_, fd, ["count", "value"], [], He.glo_ok X G (Y.c.fact 11), FD.kp, fnG_D FD S_are_ballots rfl fun cdv  A outer s H E hr hgd => W_are_ballots Y  cdv  A outer s H E hr hgd, hb, .nil, rfl, rfl⟩⟩
def N_need_ballot : List Str := ["count", "ballot"]
theorem W_need_ballot (Y : Ctx K mg) {f : Addr} (cdv : Value) (A : Around) (outer : List Env) (s : Shared) (H : Hp) (E : XK) (hr : Room 2 (A.deeper (envOfC "need_ballot" (defScope (topS 33)) s.heap.objs.size f cdv))) (hgd : A.guards = some []) :
    SSs (GX Pg w K mg base N_need_ballot "need_ballot" (defScope (topS 33)) f cdv A outer s H E) (GW E) [] (defBody (topS 33)) B_need_ballot := by
  have h64 : (A.deeper (envOfC "need_ballot" (defScope (topS 33)) s.heap.objs.size f cdv)).units + 64 < cLine := hr.units
  have h65 : (A.deeper (envOfC "need_ballot" (defScope (topS 33)) s.heap.objs.size f cdv)).units + 65 < cLine := by have := hr.un; omega
  have h1 := unl1 h64
  have h0 := unl0 h64
  have nd : N_need_ballot.Nodup := by decide
  exact (ss_one (ss_if (st_not (st_tru (se_callD ((D_is_each_once_2 Y).mono (by decide)) hr hgd gx_pass rfl (sr_cons (se_tk (se_var 0)) (sr_cons (se_tk (se_var 1)) sr_nil)) (len_rCons (len_rCons len_rNil))))) (ss_one (ss_raise rfl gx_takes (e_InvalidBallot Y) rfl)) ss_nil))
theorem S_need_ballot : FnScope N_need_ballot ["count", "ballot"] (defScope (topS 33)) := ⟨rfl, rfl, rfl, by decide, rfl, by decide +kernel, by decide +kernel⟩
theorem D_need_ballot_2 (Y : Ctx K mg) : Dfn Pg w K mg base 3 "need_ballot" 2 F_need_ballot 2 [] := by
  obtain ⟨_, X, G⟩ := Y.ex
  obtain ⟨fd, FD⟩ := Y.c.def_ 12 (d := d_need_ballot)
  have hb : Binds K fd ["count", "ballot"] [] := FD.bindsN fun _ _ _ _ _ _ us h => by
    match us, h with
    | [a0, a1], _ => rfl
  exact ⟨⟨_, fd, ["count", "ballot"], [], He.glo_ok X G (Y.c.fact 12), FD.kp, fnG_D FD S_need_ballot rfl fun cdv  A outer s H E hr hgd => W_need_ballot Y  cdv  A outer s H E hr hgd, hb, .nil, rfl, rfl⟩⟩
def N_need_place : List Str := ["count", "place"]
theorem W_need_place (Y : Ctx K mg) {f : Addr} (cdv : Value) (A : Around) (outer : List Env) (s : Shared) (H : Hp) (E : XK) (hr : Room 1 (A.deeper (envOfC "need_place" (defScope (topS 36)) s.heap.objs.size f cdv))) (hgd : A.guards = some []) :
    SSs (GX Pg w K mg base N_need_place "need_place" (defScope (topS 36)) f cdv A outer s H E) (GW E) [] (defBody (topS 36)) B_need_place := by
  have h64 : (A.deeper (envOfC "need_place" (defScope (topS 36)) s.heap.objs.size f cdv)).units + 64 < cLine := hr.units
  have h65 : (A.deeper (envOfC "need_place" (defScope (topS 36)) s.heap.objs.size f cdv)).units + 65 < cLine := by have := hr.un; omega
  have h1 := unl1 h64
  have h0 := unl0 h64
  have nd : N_need_place.Nodup := by decide
  exact (ss_one (ss_if (st_not (st_tru (se_callD ((D_is_integer_3 Y).mono (by decide)) hr hgd gx_pass rfl (sr_cons (se_tk (se_var 1)) (sr_cons se_int (sr_cons (se_tk (se_sub (se_var 0) se_int)) sr_nil))) (len_rCons (len_rCons (len_rCons len_rNil)))))) (ss_one (ss_raise rfl gx_takes (e_InvalidPlace Y) rfl)) ss_nil))
theorem S_need_place : FnScope N_need_place ["count", "place"] (defScope (topS 36)) := ⟨rfl, rfl, rfl, by decide, rfl, by decide +kernel, by decide +kernel⟩
theorem D_need_place_2 (Y : Ctx K mg) : Dfn Pg w K mg base 2 "need_place" 2 F_need_place 2 [] := by
  obtain ⟨_, X, G⟩ := Y.ex
  obtain ⟨fd, FD⟩ := Y.c.def_ 13 (d := d_need_place)
  have hb : Binds K fd ["count", "place"] [] := FD.bindsN fun _ _ _ _ _ _ us h => by
    match us, h with
    | [a0, a1], _ => rfl
  exact ⟨⟨_, fd, ["count", "place"], [], He.glo_ok X G (Y.c.fact 13), FD.kp, fnG_D FD S_need_place rfl fun cdv  A outer s H E hr hgd => W_need_place Y  cdv  A outer s H E hr hgd, hb, .nil, rfl, rfl⟩⟩
def N_is_above : List Str := ["count", "ballot", "one", "other"]
theorem W_is_above (Y : Ctx K mg) {f : Addr} (cdv : Value) (A : Around) (outer : List Env) (s : Shared) (H : Hp) (E : XK) (hr : Room 3 (A.deeper (envOfC "is_above" (defScope (topS 42)) s.heap.objs.size f cdv))) (hgd : A.guards = some []) :
    SSs (GX Pg w K mg base N_is_above "is_above" (defScope (topS 42)) f cdv A outer s H E) (GW E) [] (defBody (topS 42)) B_is_above_a := by
  have h64 : (A.deeper (envOfC "is_above" (defScope (topS 42)) s.heap.objs.size f cdv)).units + 64 < cLine := hr.units
  have h65 : (A.deeper (envOfC "is_above" (defScope (topS 42)) s.heap.objs.size f cdv)).units + 65 < cLine := by have := hr.un; omega
  have h1 := unl1 h64
  have h0 := unl0 h64
  have nd : N_is_above.Nodup := by decide
  exact (ss_cons (ss_expr (se_callD ((D_need_count_1 Y).mono (by decide)) hr hgd gx_pass rfl (sr_cons (se_tk (se_var 0)) sr_nil) (len_rCons len_rNil)))
    (ss_cons (ss_expr (se_callD ((D_need_ballot_2 Y).mono (by decide)) hr hgd gx_pass rfl (sr_cons (se_tk (se_var 0)) (sr_cons (se_tk (se_var 1)) sr_nil)) (len_rCons (len_rCons len_rNil))))
    (ss_cons (ss_expr (se_callD ((D_need_place_2 Y).mono (by decide)) hr hgd gx_pass rfl (sr_cons (se_tk (se_var 0)) (sr_cons (se_tk (se_var 2)) sr_nil)) (len_rCons (len_rCons len_rNil))))
    (ss_cons (ss_expr (se_callD ((D_need_place_2 Y).mono (by decide)) hr hgd gx_pass rfl (sr_cons (se_tk (se_var 0)) (sr_cons (se_tk (se_var 3)) sr_nil)) (len_rCons (len_rCons len_rNil))))
    (ss_one (ss_ret (se_lt (se_index h65 (se_var 1) (se_var 2)) (se_index h65 (se_var 1) (se_var 3)))))))))
theorem S_is_above : FnScope N_is_above ["count", "ballot", "one", "other"] (defScope (topS 42)) := ⟨rfl, rfl, rfl, by decide, rfl, by decide +kernel, by decide +kernel⟩
theorem D_is_above_4 (Y : Ctx K mg) : Dfn Pg w K mg base 4 "is_above" 4 F_is_above_a 4 [] := by
  obtain ⟨_, X, G⟩ := Y.ex
  obtain ⟨fd, FD⟩ := Y.c.def_ 14 (d := d_is_above)
  have hb : Binds K fd ["count", "ballot", "one", "other"] [] := FD.bindsN fun _ _ _ _ _ _ us h => by
    match us, h with
    | [a0, a1, a2, a3], _ => rfl
  exact ⟨⟨_, fd, ["count", "ballot", "one", "other"], [], He.glo_ok X G (Y.c.fact 14), FD.kp, fnG_D FD S_is_above rfl fun cdv  A outer s H E hr hgd => W_is_above Y  cdv  A outer s H E hr hgd, hb, .nil, rfl, rfl⟩⟩
def N_pairs_turned : List Str := ["ballot", "second", "one", "ranks", "others", "found", "other"]
theorem W_pairs_turned (Y : Ctx K mg) {f : Addr} (cdv : Value) (A : Around) (outer : List Env) (s : Shared) (H : Hp) (E : XK) (hr : Room 1 (A.deeper (envOfC "pairs_turned" (defScope (topS 43)) s.heap.objs.size f cdv))) (hgd : A.guards = some []) :
    SSs (GX Pg w K mg base N_pairs_turned "pairs_turned" (defScope (topS 43)) f cdv A outer s H E) (GW E) [] (defBody (topS 43)) B_pairs_turned := by
  have h64 : (A.deeper (envOfC "pairs_turned" (defScope (topS 43)) s.heap.objs.size f cdv)).units + 64 < cLine := hr.units
  have h65 : (A.deeper (envOfC "pairs_turned" (defScope (topS 43)) s.heap.objs.size f cdv)).units + 65 < cLine := by have := hr.un; omega
  have h1 := unl1 h64
  have h0 := unl0 h64
  have nd : N_pairs_turned.Nodup := by decide
  exact (ss_cons (ss_par3 rfl nd rfl rfl rfl (by decide) (by decide) (by decide) (by decide) rfl rfl rfl (sr_cons (se_tk (se_callD ((D_ranks_in_1 Y).mono (by decide)) hr hgd gx_pass rfl (sr_cons (se_tk (se_var 0)) sr_nil) (len_rCons len_rNil))) (sr_cons (se_tk (se_callD ((D_ranks_in_1 Y).mono (by decide)) hr hgd gx_pass rfl (sr_cons (se_tk (se_var 1)) sr_nil) (len_rCons len_rNil))) (sr_cons (se_lst sa_nil) sr_nil))))
    (ss_cons (ss_for (passes_of rfl) rfl (si_rng1 rfl (m_range Y) (se_b1 call_lenU c1_len rfl (m_len Y) (by decide +kernel) (se_var 0))) (sg_name 2 nd rfl (by first | exact Or.inl rfl | exact Or.inr rfl) (by decide)) (ss_one (ss_for (passes_of rfl) rfl (si_rng2 rfl (m_range Y) (se_add (se_var 2) se_int) (se_b1 call_lenU c1_len rfl (m_len Y) (by decide +kernel) (se_var 0))) (sg_name 6 nd rfl (by first | exact Or.inl rfl | exact Or.inr rfl) (by decide)) (ss_one (ss_if (st_ne h64 (se_lt (se_ix2 h64 (se_var 3) (se_var 2)) (se_ix2 h64 (se_var 3) (se_var 6))) (se_lt (se_ix2 h64 (se_var 4) (se_var 2)) (se_ix2 h64 (se_var 4) (se_var 6)))) (ss_one (ss_expr (se_app (se_var 5) (se_tup (sa_cons (se_var 2) (sa_cons (se_var 6) sa_nil)))))) ss_nil)))))
    (ss_one (ss_ret (se_var 5)))))
theorem S_pairs_turned : FnScope N_pairs_turned ["ballot", "second"] (defScope (topS 43)) := ⟨rfl, rfl, rfl, by decide, rfl, by decide +kernel, by decide +kernel⟩
theorem D_pairs_turned_2 (Y : Ctx K mg) : Dfn Pg w K mg base 2 "pairs_turned" 2 F_pairs_turned 2 [] := by
  obtain ⟨_, X, G⟩ := Y.ex
  obtain ⟨fd, FD⟩ := Y.c.def_ 15 (d := d_pairs_turned)
  have hb : Binds K fd ["ballot", "second"] [] := FD.bindsN fun _ _ _ _ _ _ us h => by
    match us, h with
    | [a0, a1], _ => rfl
  exact ⟨⟨_, fd, ["ballot", "second"], [], He.glo_ok X G (Y.c.fact 15), FD.kp, fnG_D FD S_pairs_turned rfl fun cdv  A outer s H E hr hgd => W_pairs_turned Y  cdv  A outer s H E hr hgd, hb, .nil, rfl, rfl⟩⟩
def N_turned_pairs : List Str := ["count", "ballot", "second_ballot"]
theorem W_turned_pairs (Y : Ctx K mg) {f : Addr} (cdv : Value) (A : Around) (outer : List Env) (s : Shared) (H : Hp) (E : XK) (hr : Room 3 (A.deeper (envOfC "turned_pairs" (defScope (topS 44)) s.heap.objs.size f cdv))) (hgd : A.guards = some []) :
    SSs (GX Pg w K mg base N_turned_pairs "turned_pairs" (defScope (topS 44)) f cdv A outer s H E) (GW E) [] (defBody (topS 44)) B_turned_pairs_a := by
  have h64 : (A.deeper (envOfC "turned_pairs" (defScope (topS 44)) s.heap.objs.size f cdv)).units + 64 < cLine := hr.units
  have h65 : (A.deeper (envOfC "turned_pairs" (defScope (topS 44)) s.heap.objs.size f cdv)).units + 65 < cLine := by have := hr.un; omega
  have h1 := unl1 h64
  have h0 := unl0 h64
  have nd : N_turned_pairs.Nodup := by decide
  exact (ss_cons (ss_expr (se_callD ((D_need_count_1 Y).mono (by decide)) hr hgd gx_pass rfl (sr_cons (se_tk (se_var 0)) sr_nil) (len_rCons len_rNil)))
    (ss_cons (ss_expr (se_callD ((D_need_ballot_2 Y).mono (by decide)) hr hgd gx_pass rfl (sr_cons (se_tk (se_var 0)) (sr_cons (se_tk (se_var 1)) sr_nil)) (len_rCons (len_rCons len_rNil))))
    (ss_cons (ss_expr (se_callD ((D_need_ballot_2 Y).mono (by decide)) hr hgd gx_pass rfl (sr_cons (se_tk (se_var 0)) (sr_cons (se_tk (se_var 2)) sr_nil)) (len_rCons (len_rCons len_rNil))))
    (ss_one (ss_ret (se_callD ((D_pairs_turned_2 Y).mono (by decide)) hr hgd gx_pass rfl (sr_cons (se_tk (se_var 1)) (sr_cons (se_tk (se_var 2)) sr_nil)) (len_rCons (len_rCons len_rNil))))))))
theorem S_turned_pairs : FnScope N_turned_pairs ["count", "ballot", "second_ballot"] (defScope (topS 44)) := ⟨rfl, rfl, rfl, by decide, rfl, by decide +kernel, by decide +kernel⟩
theorem D_turned_pairs_3 (Y : Ctx K mg) : Dfn Pg w K mg base 4 "turned_pairs" 3 F_turned_pairs_a 3 [] := by
  obtain ⟨_, X, G⟩ := Y.ex
  obtain ⟨fd, FD⟩ := Y.c.def_ 16 (d := d_turned_pairs)
  have hb : Binds K fd ["count", "ballot", "second_ballot"] [] := FD.bindsN fun _ _ _ _ _ _ us h => by
    match us, h with
    | [a0, a1, a2], _ => rfl
  exact ⟨⟨_, fd, ["count", "ballot", "second_ballot"], [], He.glo_ok X G (Y.c.fact 16), FD.kp, fnG_D FD S_turned_pairs rfl fun cdv  A outer s H E hr hgd => W_turned_pairs Y  cdv  A outer s H E hr hgd, hb, .nil, rfl, rfl⟩⟩
def N__law_call : List Str := ["_law_which", "_law_args"]
theorem W__law_call (Y : Ctx K mg) {f : Addr} (cdv : Value) (A : Around) (outer : List Env) (s : Shared) (H : Hp) (E : XK) (hr : Room 6 (A.deeper (envOfC "_law_call" (defScope (topS 60)) s.heap.objs.size f cdv))) (hgd : A.guards = some []) :
    SSs (GX Pg w K mg base N__law_call "_law_call" (defScope (topS 60)) f cdv A outer s H E) (GW E) [] (defBody (topS 60)) B__law_call := by
  have h64 : (A.deeper (envOfC "_law_call" (defScope (topS 60)) s.heap.objs.size f cdv)).units + 64 < cLine := hr.units
  have h65 : (A.deeper (envOfC "_law_call" (defScope (topS 60)) s.heap.objs.size f cdv)).units + 65 < cLine := by have := hr.un; omega
  have h1 := unl1 h64
  have h0 := unl0 h64
  have nd : N__law_call.Nodup := by decide
  exact (ss_cons (ss_if (st_eq h64 (se_var 0) se_int) (ss_one (ss_ret (se_tk (se_callD ((D_is_ballot_2 Y).mono (by decide)) hr hgd gx_pass rfl (sr_cons (se_tk (se_ix2 h64 (se_var 1) se_int)) (sr_cons (se_tk (se_ix2 h64 (se_var 1) se_int)) sr_nil)) (len_rCons (len_rCons len_rNil)))))) ss_nil)
    (ss_cons (ss_if (st_eq h64 (se_var 0) se_int) (ss_one (ss_ret (se_tk (se_callD ((D_are_ballots_2 Y).mono (by decide)) hr hgd gx_pass rfl (sr_cons (se_tk (se_ix2 h64 (se_var 1) se_int)) (sr_cons (se_tk (se_ix2 h64 (se_var 1) se_int)) sr_nil)) (len_rCons (len_rCons len_rNil)))))) ss_nil)
    (ss_cons (ss_if (st_eq h64 (se_var 0) se_int) (ss_one (ss_ret (se_tk (se_callD ((D_is_above_4 Y).mono (by decide)) hr hgd gx_pass rfl (sr_cons (se_tk (se_ix2 h64 (se_var 1) se_int)) (sr_cons (se_tk (se_ix2 h64 (se_var 1) se_int)) (sr_cons (se_tk (se_ix2 h64 (se_var 1) se_int)) (sr_cons (se_tk (se_ix2 h64 (se_var 1) se_int)) sr_nil)))) (len_rCons (len_rCons (len_rCons (len_rCons len_rNil)))))))) ss_nil)
    (ss_cons (ss_if (st_eq h64 (se_var 0) se_int) (ss_one (ss_ret (se_tk (se_callD ((D_turned_pairs_3 Y).mono (by decide)) hr hgd gx_pass rfl (sr_cons (se_tk (se_ix2 h64 (se_var 1) se_int)) (sr_cons (se_tk (se_ix2 h64 (se_var 1) se_int)) (sr_cons (se_tk (se_ix2 h64 (se_var 1) se_int)) sr_nil))) (len_rCons (len_rCons (len_rCons len_rNil))))))) ss_nil)
    (ss_one (ss_ret (se_tk (se_callD ((D_renamed_2 Y).mono (by decide)) hr hgd gx_pass rfl (sr_cons (se_tk (se_ix2 h64 (se_var 1) se_int)) (sr_cons (se_tk (se_ix2 h64 (se_var 1) se_int)) sr_nil)) (len_rCons (len_rCons len_rNil))))))))))
theorem S__law_call : FnScope N__law_call ["_law_which", "_law_args"] (defScope (topS 60)) := ⟨rfl, rfl, rfl, by decide, rfl, by decide +kernel, by decide +kernel⟩
theorem D__law_call_2 (Y : Ctx K mg) : Dfn Pg w K mg base 7 "_law_call" 2 F__law_call 2 [] := by
  obtain ⟨_, X, G⟩ := Y.ex
  obtain ⟨fd, FD⟩ := Y.c.def_ 17 (d := d__law_call)
  have hb : Binds K fd ["_law_which", "_law_args"] [] := FD.bindsN fun _ _ _ _ _ _ us h => by
    match us, h with
    | [a0, a1], _ => rfl
  exact ⟨⟨_, fd, ["_law_which", "_law_args"], [], He.glo_ok X G (Y.c.fact 17), FD.kp, fnG_D FD S__law_call rfl fun cdv  A outer s H E hr hgd => W__law_call Y  cdv  A outer s H E hr hgd, hb, .nil, rfl, rfl⟩⟩
def N__law_raised : List Str := ["_law_which", "_law_args", "_law_before", "_law_found"]
theorem W__law_raised (Y : Ctx K mg) (TB : LamX.TabB base mg (He.cT K ("_law_raised", none)).1 (He.cT K ("_law_raised", none)).2) {f : Addr} (cdv : Value) (hcd : cdv = .ref (He.cT K ("_law_raised", none)).1) (A : Around) (outer : List Env) (s : Shared) (H : Hp) (E : XK) (hr : Room 10 (A.deeper (envOfC "_law_raised" (defScope (topS 61)) s.heap.objs.size f cdv))) (hgd : A.guards = some []) :
    SSs (GX Pg w K mg base N__law_raised "_law_raised" (defScope (topS 61)) f cdv A outer s H E) (GW E) [1, 1000000] (defBody (topS 61)) B__law_raised := by
  have h64 : (A.deeper (envOfC "_law_raised" (defScope (topS 61)) s.heap.objs.size f cdv)).units + 64 < cLine := hr.units
  have h65 : (A.deeper (envOfC "_law_raised" (defScope (topS 61)) s.heap.objs.size f cdv)).units + 65 < cLine := by have := hr.un; omega
  have h1 := unl1 h64
  have h0 := unl0 h64
  have nd : N__law_raised.Nodup := by decide
  have TW_ := tw_ (X := GX Pg w K mg base N__law_raised "_law_raised" (defScope (topS 61)) f cdv A outer s H E) (k := 1) Y
  have TD_ := td_ (X := GX Pg w K mg base N__law_raised "_law_raised" (defScope (topS 61)) f cdv A outer s H E) (k := 7) Y (hr.mono (by decide))
  exact (ss_cons (ss_set 2 nd rfl (by first | exact Or.inl rfl | exact Or.inr rfl) (by decide) (se_tk (se_b1 (call_reprT h64 hgd) c1_repr rfl (m_repr Y) (by decide +kernel) (se_var 1))))
    (ss_cons (ss_set 3 nd rfl (by first | exact Or.inl rfl | exact Or.inr rfl) (by decide) (se_told (kw := 1) (k := 7) (by decide) (List.mem_singleton.mpr rfl) rfl TW_ TD_ rfl TB hcd (hr.mono (by decide)) (LamX.lamS_by (by kernel_rfl)) rfl (fun _ _ _ _ _ => rfl) (fun A outer s H E f2 c2 hg hr2 => (se_lamcall ((D__law_call_2 Y).mono (by decide)) hr2 (hg.trans hgd) rfl (sr_cons (se_tk (se_var 0)) (sr_cons (se_tk (se_var 1)) sr_nil)) (len_rCons (len_rCons len_rNil))))))
    (ss_one (ss_retIf (st_eqS (se_b1 (call_reprT h64 hgd) c1_repr rfl (m_repr Y) (by decide +kernel) (se_var 1)) (se_var 2)) (se_var 3) (se_lst (sa_cons se_str sa_nil))))))
theorem S__law_raised : FnScope N__law_raised ["_law_which", "_law_args"] (defScope (topS 61)) := ⟨rfl, rfl, rfl, by decide, rfl, by decide +kernel, by decide +kernel⟩
theorem D__law_raised_2 (Y : Ctx K mg) (TB : LamX.TabB base mg (He.cT K ("_law_raised", none)).1 (He.cT K ("_law_raised", none)).2) : DfnT Pg w K mg base 11 "_law_raised" 2 F__law_raised 2 [] := by
  obtain ⟨_, X, G⟩ := Y.ex
  obtain ⟨fd, FD⟩ := Y.c.def_ 18 (d := d__law_raised)
  have hb : Binds K fd ["_law_which", "_law_args"] [] := FD.bindsN fun _ _ _ _ _ _ us h => by
    match us, h with
    | [a0, a1], _ => rfl
  exact ⟨⟨_, fd, ["_law_which", "_law_args"], [], He.glo_ok X G (Y.c.fact 18), FD.kp, fnG_DT FD S__law_raised rfl fun cdv hp A outer s H E hr hgd => W__law_raised Y TB cdv (hp ("_law_raised", none) rfl) A outer s H E hr hgd, hb, .nil, rfl, rfl⟩⟩
def N__law_faults : List Str := ["_law_which", "_law_args", "_law_bad", "_law_later", "_law_place", "_law_value"]
theorem W__law_faults (Y : Ctx K mg) (TB : LamX.TabB base mg (He.cT K ("_law_raised", none)).1 (He.cT K ("_law_raised", none)).2) {f : Addr} (cdv : Value) (A : Around) (outer : List Env) (s : Shared) (H : Hp) (E : XK) (hr : Room 11 (A.deeper (envOfC "_law_faults" (defScope (topS 62)) s.heap.objs.size f cdv))) (hgd : A.guards = some []) :
    SSs (GX Pg w K mg base N__law_faults "_law_faults" (defScope (topS 62)) f cdv A outer s H E) (GW E) [1, 1000000] (defBody (topS 62)) B__law_faults := by
  have h64 : (A.deeper (envOfC "_law_faults" (defScope (topS 62)) s.heap.objs.size f cdv)).units + 64 < cLine := hr.units
  have h65 : (A.deeper (envOfC "_law_faults" (defScope (topS 62)) s.heap.objs.size f cdv)).units + 65 < cLine := by have := hr.un; omega
  have h1 := unl1 h64
  have h0 := unl0 h64
  have nd : N__law_faults.Nodup := by decide
  exact (ss_cons (ss_set 3 nd rfl (by first | exact Or.inl rfl | exact Or.inr rfl) (by decide) (se_t1 call_list_of c1_list rfl (m_list Y) (by decide +kernel) (se_var 1)))
    (ss_cons (ss_for (passes_of rfl) rfl (si_rngD rfl (m_range Y) (se_sub (se_b1 call_lenU c1_len rfl (m_len Y) (by decide +kernel) (se_var 2)) se_int) (se_neg se_int) (se_neg se_int)) (sg_name 4 nd rfl (by first | exact Or.inl rfl | exact Or.inr rfl) (by decide)) (ss_one (ss_for (passes_of rfl) rfl (si_seq (se_ix2 h64 (se_ix2 h64 (se_var 2) (se_var 4)) se_int)) (sg_name 5 nd rfl (by first | exact Or.inl rfl | exact Or.inr rfl) (by decide)) (ss_cons (ss_if (st_ne h64 (se_callDT (by decide) ((D__law_raised_2 Y TB).mono (by decide)) hr hgd gx_pass rfl (sr_cons (se_tk (se_var 0)) (sr_cons (se_add (se_add (se_sl (se_var 1) .no (.yes (se_var 4))) (se_lst (sa_cons (se_var 5) sa_nil))) (se_sl (se_var 1) (.yes (se_add (se_var 4) se_int)) .no)) sr_nil)) (len_rCons (len_rCons len_rNil))) (se_lst (sa_cons (se_ix2 h64 (se_ix2 h64 (se_var 2) (se_var 4)) se_int) sa_nil))) (ss_one (ss_ret se_bl)) ss_nil)
    (ss_cons (ss_asg (se_var 5) (sg_sub (se_var 3) (se_var 4)))
    (ss_one (ss_if (st_ne h64 (se_callDT (by decide) ((D__law_raised_2 Y TB).mono (by decide)) hr hgd gx_pass rfl (sr_cons (se_tk (se_var 0)) (sr_io 3 rfl (by first | exact Or.inl rfl | exact Or.inr (Or.inl rfl) | exact Or.inr (Or.inr rfl)) sr_nil)) (len_rCons (len_rIo len_rNil))) (se_lst (sa_cons (se_ix2 h64 (se_ix2 h64 (se_var 2) (se_var 4)) se_int) sa_nil))) (ss_one (ss_ret se_bl)) ss_nil)))))))
    (ss_one (ss_ret (se_eqE h64 (se_callDT (by decide) ((D__law_raised_2 Y TB).mono (by decide)) hr hgd gx_pass rfl (sr_cons (se_tk (se_var 0)) (sr_io 1 rfl (by first | exact Or.inl rfl | exact Or.inr (Or.inl rfl) | exact Or.inr (Or.inr rfl)) sr_nil)) (len_rCons (len_rIo len_rNil))) (se_lst sa_nil))))))
theorem S__law_faults : FnScope N__law_faults ["_law_which", "_law_args", "_law_bad"] (defScope (topS 62)) := ⟨rfl, rfl, rfl, by decide, rfl, by decide +kernel, by decide +kernel⟩
theorem D__law_faults_3 (Y : Ctx K mg) (TB : LamX.TabB base mg (He.cT K ("_law_raised", none)).1 (He.cT K ("_law_raised", none)).2) : DfnT Pg w K mg base 12 "_law_faults" 3 F__law_faults 3 [] := by
  obtain ⟨_, X, G⟩ := Y.ex
  obtain ⟨fd, FD⟩ := Y.c.def_ 19 (d := d__law_faults)
  have hb : Binds K fd ["_law_which", "_law_args", "_law_bad"] [] := FD.bindsN fun _ _ _ _ _ _ us h => by
    match us, h with
    | [a0, a1, a2], _ => rfl
  exact ⟨⟨_, fd, ["_law_which", "_law_args", "_law_bad"], [], He.glo_ok X G (Y.c.fact 19), FD.kp, fnG_DT FD S__law_faults rfl fun cdv hp A outer s H E hr hgd => W__law_faults Y TB cdv  A outer s H E hr hgd, hb, .nil, rfl, rfl⟩⟩
def N__law_draw : List Str := ["_law_tap_here", "_law_bound", "_law_found"]
theorem W__law_draw (Y : Ctx K mg) {f : Addr} (cdv : Value) (A : Around) (outer : List Env) (s : Shared) (H : Hp) (E : XK) (hr : Room 0 (A.deeper (envOfC "_law_draw" (defScope (topS 48)) s.heap.objs.size f cdv))) (hgd : A.guards = some []) :
    SSs (GX Pg w K mg base N__law_draw "_law_draw" (defScope (topS 48)) f cdv A outer s H E) (GW E) [0] (defBody (topS 48)) B__law_draw := by
  have h64 : (A.deeper (envOfC "_law_draw" (defScope (topS 48)) s.heap.objs.size f cdv)).units + 64 < cLine := hr.units
  have h65 : (A.deeper (envOfC "_law_draw" (defScope (topS 48)) s.heap.objs.size f cdv)).units + 65 < cLine := by have := hr.un; omega
  have h1 := unl1 h64
  have h0 := unl0 h64
  have nd : N__law_draw.Nodup := by decide
  exact (ss_cons (ss_if (st_ge (se_ix2 h64 (se_var 0) se_int) (se_powW se_int se_int)) (ss_cons (ss_set 2 nd rfl (by first | exact Or.inl rfl | exact Or.inr rfl) (by decide) (se_mod (se_t1 call_int1 c1_int rfl (m_int Y) (by decide +kernel) (se_ix2 h64 (se_var 0) se_int)) (se_var 1)))
    (ss_cons (ss_asg (se_fdivW (se_ix2 h64 (se_var 0) se_int) (se_var 1)) (sg_sub (se_var 0) se_int))
    (ss_one (ss_ret (se_var 2))))) ss_nil)
    (ss_cons (ss_asg (se_mod (se_t1 call_int1 c1_int rfl (m_int Y) (by decide +kernel) (se_add (se_mul (se_ix2 h64 (se_var 0) se_int) se_int) se_int)) se_int) (sg_sub (se_var 0) se_int))
    (ss_cons (ss_asg (se_mod (se_t1 call_int1 c1_int rfl (m_int Y) (by decide +kernel) (se_add (se_mul (se_ix2 h64 (se_var 0) se_int) (se_ix2 h64 (se_var 0) se_int)) (se_ix2 h64 (se_var 0) se_int))) se_int) (sg_sub (se_var 0) se_int))
    (ss_one (ss_ret (se_mod (se_t1 call_int1 c1_int rfl (m_int Y) (by decide +kernel) (se_add (se_fdivW (se_ix2 h64 (se_var 0) se_int) se_int) (se_fdivW (se_ix2 h64 (se_var 0) se_int) se_int))) (se_var 1)))))))
theorem S__law_draw : FnScope N__law_draw ["_law_tap_here", "_law_bound"] (defScope (topS 48)) := ⟨rfl, rfl, rfl, by decide, rfl, by decide +kernel, by decide +kernel⟩
theorem D__law_draw_2 (Y : Ctx K mg) : Dfn Pg w K mg base 1 "_law_draw" 2 F__law_draw 2 [] := by
  obtain ⟨_, X, G⟩ := Y.ex
  obtain ⟨fd, FD⟩ := Y.c.def_ 20 (d := d__law_draw)
  have hb : Binds K fd ["_law_tap_here", "_law_bound"] [] := FD.bindsN fun _ _ _ _ _ _ us h => by
    match us, h with
    | [a0, a1], _ => rfl
  exact ⟨⟨_, fd, ["_law_tap_here", "_law_bound"], [], He.glo_ok X G (Y.c.fact 20), FD.kp, fnG_D FD S__law_draw rfl fun cdv  A outer s H E hr hgd => W__law_draw Y  cdv  A outer s H E hr hgd, hb, .nil, rfl, rfl⟩⟩
def N__law_mixed : List Str := ["_law_tap_here", "_law_count", "_law_left", "_law_found"]
theorem W__law_mixed (Y : Ctx K mg) {f : Addr} (cdv : Value) (A : Around) (outer : List Env) (s : Shared) (H : Hp) (E : XK) (hr : Room 1 (A.deeper (envOfC "_law_mixed" (defScope (topS 50)) s.heap.objs.size f cdv))) (hgd : A.guards = some []) :
    SSs (GX Pg w K mg base N__law_mixed "_law_mixed" (defScope (topS 50)) f cdv A outer s H E) (GW E) [0] (defBody (topS 50)) B__law_mixed := by
  have h64 : (A.deeper (envOfC "_law_mixed" (defScope (topS 50)) s.heap.objs.size f cdv)).units + 64 < cLine := hr.units
  have h65 : (A.deeper (envOfC "_law_mixed" (defScope (topS 50)) s.heap.objs.size f cdv)).units + 65 < cLine := by have := hr.un; omega
  have h1 := unl1 h64
  have h0 := unl0 h64
  have nd : N__law_mixed.Nodup := by decide
  exact (ss_cons (ss_par2 rfl nd rfl rfl (by decide) (by decide) rfl rfl (sr_cons (se_lrg1 rfl rfl (m_list Y) rfl (m_range Y) (se_var 1)) (sr_cons (se_lst sa_nil) sr_nil)))
    (ss_cons (ss_while 1000 (passes_of rfl) (st_neE h64 (se_var 2) (se_lst sa_nil)) (ss_one (ss_expr (se_app (se_var 3) (se_pop1 (se_var 2) (se_callD ((D__law_draw_2 Y).mono (by decide)) hr hgd gx_pass rfl (sr_io 0 rfl (by first | exact Or.inl rfl | exact Or.inr (Or.inl rfl) | exact Or.inr (Or.inr rfl)) (sr_cons (se_tk (se_b1 call_lenU c1_len rfl (m_len Y) (by decide +kernel) (se_var 2))) sr_nil)) (len_rIo (len_rCons len_rNil))))))))
    (ss_one (ss_ret (se_var 3)))))
theorem S__law_mixed : FnScope N__law_mixed ["_law_tap_here", "_law_count"] (defScope (topS 50)) := ⟨rfl, rfl, rfl, by decide, rfl, by decide +kernel, by decide +kernel⟩
theorem D__law_mixed_2 (Y : Ctx K mg) : Dfn Pg w K mg base 2 "_law_mixed" 2 F__law_mixed 2 [] := by
  obtain ⟨_, X, G⟩ := Y.ex
  obtain ⟨fd, FD⟩ := Y.c.def_ 21 (d := d__law_mixed)
  have hb : Binds K fd ["_law_tap_here", "_law_count"] [] := FD.bindsN fun _ _ _ _ _ _ us h => by
    match us, h with
    | [a0, a1], _ => rfl
  exact ⟨⟨_, fd, ["_law_tap_here", "_law_count"], [], He.glo_ok X G (Y.c.fact 21), FD.kp, fnG_D FD S__law_mixed rfl fun cdv  A outer s H E hr hgd => W__law_mixed Y  cdv  A outer s H E hr hgd, hb, .nil, rfl, rfl⟩⟩
def N__law_bad_counts : List Str := ["_law_most_here"]
theorem W__law_bad_counts (Y : Ctx K mg) {f : Addr} (cdv : Value) (A : Around) (outer : List Env) (s : Shared) (H : Hp) (E : XK) (hr : Room 0 (A.deeper (envOfC "_law_bad_counts" (defScope (topS 55)) s.heap.objs.size f cdv))) (hgd : A.guards = some []) :
    SSs (GX Pg w K mg base N__law_bad_counts "_law_bad_counts" (defScope (topS 55)) f cdv A outer s H E) (GW E) [] (defBody (topS 55)) B__law_bad_counts := by
  have h64 : (A.deeper (envOfC "_law_bad_counts" (defScope (topS 55)) s.heap.objs.size f cdv)).units + 64 < cLine := hr.units
  have h65 : (A.deeper (envOfC "_law_bad_counts" (defScope (topS 55)) s.heap.objs.size f cdv)).units + 65 < cLine := by have := hr.un; omega
  have h1 := unl1 h64
  have h0 := unl0 h64
  have nd : N__law_bad_counts.Nodup := by decide
  exact (ss_one (ss_ret (se_lst (sa_cons se_non (sa_cons se_bl (sa_cons se_bl (sa_cons se_int (sa_cons (se_neg se_int) (sa_cons (se_add (se_var 0) se_int) (sa_cons (se_powW se_int se_int) (sa_cons se_str (sa_cons se_str (sa_cons (se_lst (sa_cons se_int sa_nil)) (sa_cons (se_tup (sa_cons se_int sa_nil)) (sa_cons se_dic0 sa_nil)))))))))))))))
theorem S__law_bad_counts : FnScope N__law_bad_counts ["_law_most_here"] (defScope (topS 55)) := ⟨rfl, rfl, rfl, by decide, rfl, by decide +kernel, by decide +kernel⟩
theorem D__law_bad_counts_1 (Y : Ctx K mg) : Dfn Pg w K mg base 1 "_law_bad_counts" 1 F__law_bad_counts 1 [] := by
  obtain ⟨_, X, G⟩ := Y.ex
  obtain ⟨fd, FD⟩ := Y.c.def_ 22 (d := d__law_bad_counts)
  have hb : Binds K fd ["_law_most_here"] [] := FD.bindsN fun _ _ _ _ _ _ us h => by
    match us, h with
    | [a0], _ => rfl
  exact ⟨⟨_, fd, ["_law_most_here"], [], He.glo_ok X G (Y.c.fact 22), FD.kp, fnG_D FD S__law_bad_counts rfl fun cdv  A outer s H E hr hgd => W__law_bad_counts Y  cdv  A outer s H E hr hgd, hb, .nil, rfl, rfl⟩⟩
def N__law_bad_ballots : List Str := ["_law_count", "_law_good", "_law_found", "_law_one"]
theorem W__law_bad_ballots (Y : Ctx K mg) {f : Addr} (cdv : Value) (A : Around) (outer : List Env) (s : Shared) (H : Hp) (E : XK) (hr : Room 0 (A.deeper (envOfC "_law_bad_ballots" (defScope (topS 56)) s.heap.objs.size f cdv))) (hgd : A.guards = some []) :
    SSs (GX Pg w K mg base N__law_bad_ballots "_law_bad_ballots" (defScope (topS 56)) f cdv A outer s H E) (GW E) [] (defBody (topS 56)) B__law_bad_ballots := by
  have h64 : (A.deeper (envOfC "_law_bad_ballots" (defScope (topS 56)) s.heap.objs.size f cdv)).units + 64 < cLine := hr.units
  have h65 : (A.deeper (envOfC "_law_bad_ballots" (defScope (topS 56)) s.heap.objs.size f cdv)).units + 65 < cLine := by have := hr.un; omega
  have h1 := unl1 h64
  have h0 := unl0 h64
  have nd : N__law_bad_ballots.Nodup := by decide
  exact (ss_cons (ss_set 1 nd rfl (by first | exact Or.inl rfl | exact Or.inr rfl) (by decide) (se_tk (se_lrg1 rfl rfl (m_list Y) rfl (m_range Y) (se_var 0))))
    (ss_cons (ss_set 2 nd rfl (by first | exact Or.inl rfl | exact Or.inr rfl) (by decide) (se_tk (se_lst (sa_cons se_non (sa_cons se_bl (sa_cons se_int (sa_cons se_str (sa_cons se_str (sa_cons (se_tup sa_nil) (sa_cons se_dic0 (sa_cons (se_t1 call_tuple_of c1_tuple rfl (m_tuple Y) (by decide +kernel) (se_var 1)) (sa_cons (se_add (se_var 1) (se_lst (sa_cons (se_var 0) sa_nil))) (sa_cons (se_sl (se_var 1) (.yes se_int) .no) (sa_cons (se_lst (sa_cons (se_var 1) sa_nil)) (sa_cons (se_add (se_sl (se_var 1) .no (.yes (se_neg se_int))) (se_lst (sa_cons (se_var 0) sa_nil))) sa_nil)))))))))))))))
    (ss_cons (ss_set 2 nd rfl (by first | exact Or.inl rfl | exact Or.inr rfl) (by decide) (se_tk (se_add (se_var 2) (se_lst (sa_cons (se_add (se_sl (se_var 1) .no (.yes (se_neg se_int))) (se_lst (sa_cons (se_neg se_int) sa_nil))) (sa_cons (se_add (se_sl (se_var 1) .no (.yes (se_neg se_int))) (se_lst (sa_cons se_non sa_nil))) (sa_cons (se_add (se_sl (se_var 1) .no (.yes (se_neg se_int))) (se_lst (sa_cons (se_t1 call_strU c1_str rfl (m_str Y) (by decide +kernel) (se_sub (se_var 0) se_int)) sa_nil))) (sa_cons (se_add (se_sl (se_var 1) .no (.yes (se_neg se_int))) (se_lst (sa_cons (se_lst (sa_cons se_int sa_nil)) sa_nil))) sa_nil))))))))
    (ss_one (ss_ret (se_add (se_var 2) (se_lst (sa_cons (se_lc false rfl nd (si_seq (se_var 1)) (own := [("_law_one", 3)]) (by kernel_rfl) (by decide) (by decide) (fun _ _ _ _ _ => (sg_name 3 nd rfl (by first | exact Or.inl rfl | exact Or.inr rfl) (by decide))) (fun _ _ _ _ _ => sts_nil) (fun _ _ _ _ _ => (se_tk (se_if (st_lt (se_var 3) se_int) (se_eq h64 (se_var 3) se_int) (se_var 3))))) (sa_cons (se_lc false rfl nd (si_seq (se_var 1)) (own := [("_law_one", 3)]) (by kernel_rfl) (by decide) (by decide) (fun _ _ _ _ _ => (sg_name 3 nd rfl (by first | exact Or.inl rfl | exact Or.inr rfl) (by decide))) (fun _ _ _ _ _ => sts_nil) (fun _ _ _ _ _ => (se_tk (se_add (se_var 3) se_int)))) (sa_cons (se_add (se_sl (se_var 1) .no (.yes (se_neg se_int))) (se_lst (sa_cons (se_powW se_int se_int) sa_nil))) sa_nil))))))))))
theorem S__law_bad_ballots : FnScope N__law_bad_ballots ["_law_count"] (defScope (topS 56)) := ⟨rfl, rfl, rfl, by decide, rfl, by decide +kernel, by decide +kernel⟩
theorem D__law_bad_ballots_1 (Y : Ctx K mg) : Dfn Pg w K mg base 1 "_law_bad_ballots" 1 F__law_bad_ballots 1 [] := by
  obtain ⟨_, X, G⟩ := Y.ex
  obtain ⟨fd, FD⟩ := Y.c.def_ 23 (d := d__law_bad_ballots)
  have hb : Binds K fd ["_law_count"] [] := FD.bindsN fun _ _ _ _ _ _ us h => by
    match us, h with
    | [a0], _ => rfl
  exact ⟨⟨_, fd, ["_law_count"], [], He.glo_ok X G (Y.c.fact 23), FD.kp, fnG_D FD S__law_bad_ballots rfl fun cdv  A outer s H E hr hgd => W__law_bad_ballots Y  cdv  A outer s H E hr hgd, hb, .nil, rfl, rfl⟩⟩
def N__law_bad_places : List Str := ["_law_count"]
theorem W__law_bad_places (Y : Ctx K mg) {f : Addr} (cdv : Value) (A : Around) (outer : List Env) (s : Shared) (H : Hp) (E : XK) (hr : Room 0 (A.deeper (envOfC "_law_bad_places" (defScope (topS 58)) s.heap.objs.size f cdv))) (hgd : A.guards = some []) :
    SSs (GX Pg w K mg base N__law_bad_places "_law_bad_places" (defScope (topS 58)) f cdv A outer s H E) (GW E) [] (defBody (topS 58)) B__law_bad_places := by
  have h64 : (A.deeper (envOfC "_law_bad_places" (defScope (topS 58)) s.heap.objs.size f cdv)).units + 64 < cLine := hr.units
  have h65 : (A.deeper (envOfC "_law_bad_places" (defScope (topS 58)) s.heap.objs.size f cdv)).units + 65 < cLine := by have := hr.un; omega
  have h1 := unl1 h64
  have h0 := unl0 h64
  have nd : N__law_bad_places.Nodup := by decide
  exact (ss_one (ss_ret (se_lst (sa_cons se_non (sa_cons se_bl (sa_cons se_bl (sa_cons (se_neg se_int) (sa_cons (se_var 0) (sa_cons (se_powW se_int se_int) (sa_cons se_str (sa_cons se_str (sa_cons (se_lst (sa_cons se_int sa_nil)) (sa_cons (se_tup (sa_cons se_int sa_nil)) (sa_cons se_dic0 sa_nil))))))))))))))
theorem S__law_bad_places : FnScope N__law_bad_places ["_law_count"] (defScope (topS 58)) := ⟨rfl, rfl, rfl, by decide, rfl, by decide +kernel, by decide +kernel⟩
theorem D__law_bad_places_1 (Y : Ctx K mg) : Dfn Pg w K mg base 1 "_law_bad_places" 1 F__law_bad_places 1 [] := by
  obtain ⟨_, X, G⟩ := Y.ex
  obtain ⟨fd, FD⟩ := Y.c.def_ 24 (d := d__law_bad_places)
  have hb : Binds K fd ["_law_count"] [] := FD.bindsN fun _ _ _ _ _ _ us h => by
    match us, h with
    | [a0], _ => rfl
  exact ⟨⟨_, fd, ["_law_count"], [], He.glo_ok X G (Y.c.fact 24), FD.kp, fnG_D FD S__law_bad_places rfl fun cdv  A outer s H E hr hgd => W__law_bad_places Y  cdv  A outer s H E hr hgd, hb, .nil, rfl, rfl⟩⟩
def N__law_bad_lines : List Str := ["_law_found"]
theorem W__law_bad_lines (Y : Ctx K mg) {f : Addr} (cdv : Value) (A : Around) (outer : List Env) (s : Shared) (H : Hp) (E : XK) (hr : Room 0 (A.deeper (envOfC "_law_bad_lines" (defScope (topS 59)) s.heap.objs.size f cdv))) (hgd : A.guards = some []) :
    SSs (GX Pg w K mg base N__law_bad_lines "_law_bad_lines" (defScope (topS 59)) f cdv A outer s H E) (GW E) [] (defBody (topS 59)) B__law_bad_lines := by
  have h64 : (A.deeper (envOfC "_law_bad_lines" (defScope (topS 59)) s.heap.objs.size f cdv)).units + 64 < cLine := hr.units
  have h65 : (A.deeper (envOfC "_law_bad_lines" (defScope (topS 59)) s.heap.objs.size f cdv)).units + 65 < cLine := by have := hr.un; omega
  have h1 := unl1 h64
  have h0 := unl0 h64
  have nd : N__law_bad_lines.Nodup := by decide
  exact (ss_cons (ss_set 0 nd rfl (by first | exact Or.inl rfl | exact Or.inr rfl) (by decide) (se_tk (se_lst (sa_cons se_non (sa_cons se_bl (sa_cons se_int (sa_cons se_str (sa_cons se_str (sa_cons (se_tup sa_nil) (sa_cons (se_lst sa_nil) (sa_cons se_dic0 (sa_cons (se_tup (sa_cons se_int (sa_cons se_int sa_nil))) (sa_cons (se_lst (sa_cons se_int sa_nil)) (sa_cons (se_lst (sa_cons se_int (sa_cons se_int sa_nil))) (sa_cons (se_lst (sa_cons se_int (sa_cons se_int sa_nil))) (sa_cons (se_lst (sa_cons se_int (sa_cons se_int sa_nil))) (sa_cons (se_lst (sa_cons se_bl (sa_cons se_bl sa_nil))) (sa_cons (se_lst (sa_cons se_non sa_nil)) (sa_cons (se_lst (sa_cons se_str sa_nil)) sa_nil)))))))))))))))))))
    (ss_one (ss_ret (se_add (se_var 0) (se_lst (sa_cons (se_lrg1 rfl rfl (m_list Y) rfl (m_range Y) se_int) (sa_cons (se_lst (sa_cons se_int (sa_cons se_int (sa_cons se_int (sa_cons se_int sa_nil))))) (sa_cons (se_lst (sa_cons se_int (sa_cons (se_neg se_int) sa_nil))) (sa_cons (se_lst (sa_cons (se_lst (sa_cons se_int sa_nil)) sa_nil)) (sa_cons (se_lst (sa_cons se_bl sa_nil)) (sa_cons (se_lst (sa_cons se_int (sa_cons (se_powW se_int se_int) sa_nil))) (sa_cons (se_lst (sa_cons se_int (sa_cons se_bl sa_nil))) sa_nil))))))))))))
theorem S__law_bad_lines : FnScope N__law_bad_lines [] (defScope (topS 59)) := ⟨rfl, rfl, rfl, by decide, rfl, by decide +kernel, by decide +kernel⟩
theorem D__law_bad_lines_0 (Y : Ctx K mg) : Dfn Pg w K mg base 1 "_law_bad_lines" 0 F__law_bad_lines 0 [] := by
  obtain ⟨_, X, G⟩ := Y.ex
  obtain ⟨fd, FD⟩ := Y.c.def_ 25 (d := d__law_bad_lines)
  have hb : Binds K fd [] [] := FD.bindsN fun _ _ _ _ _ _ us h => by
    match us, h with
    | [], _ => rfl
  exact ⟨⟨_, fd, [], [], He.glo_ok X G (Y.c.fact 25), FD.kp, fnG_D FD S__law_bad_lines rfl fun cdv  A outer s H E hr hgd => W__law_bad_lines Y  cdv  A outer s H E hr hgd, hb, .nil, rfl, rfl⟩⟩
def N__law_bad_lists : List Str := ["_law_count", "_law_good", "_law_found", "_law_one"]
theorem W__law_bad_lists (Y : Ctx K mg) {f : Addr} (cdv : Value) (A : Around) (outer : List Env) (s : Shared) (H : Hp) (E : XK) (hr : Room 1 (A.deeper (envOfC "_law_bad_lists" (defScope (topS 57)) s.heap.objs.size f cdv))) (hgd : A.guards = some []) :
    SSs (GX Pg w K mg base N__law_bad_lists "_law_bad_lists" (defScope (topS 57)) f cdv A outer s H E) (GW E) [] (defBody (topS 57)) B__law_bad_lists := by
  have h64 : (A.deeper (envOfC "_law_bad_lists" (defScope (topS 57)) s.heap.objs.size f cdv)).units + 64 < cLine := hr.units
  have h65 : (A.deeper (envOfC "_law_bad_lists" (defScope (topS 57)) s.heap.objs.size f cdv)).units + 65 < cLine := by have := hr.un; omega
  have h1 := unl1 h64
  have h0 := unl0 h64
  have nd : N__law_bad_lists.Nodup := by decide
  exact (ss_cons (ss_set 1 nd rfl (by first | exact Or.inl rfl | exact Or.inr rfl) (by decide) (se_tk (se_lrg1 rfl rfl (m_list Y) rfl (m_range Y) (se_var 0))))
    (ss_cons (ss_set 2 nd rfl (by first | exact Or.inl rfl | exact Or.inr rfl) (by decide) (se_tk (se_lst (sa_cons se_non (sa_cons se_bl (sa_cons se_int (sa_cons se_str (sa_cons (se_tup sa_nil) (sa_cons se_dic0 (sa_cons (se_tup (sa_cons (se_var 1) sa_nil)) (sa_cons (se_mul (se_lst (sa_cons (se_var 1) sa_nil)) se_int) (sa_cons (se_lst (sa_cons se_non sa_nil)) (sa_cons (se_lst (sa_cons se_int sa_nil)) (sa_cons (se_lst (sa_cons (se_lst sa_nil) sa_nil)) (sa_cons (se_lst (sa_cons (se_lst (sa_cons (se_var 1) sa_nil)) sa_nil)) (sa_cons (se_lst (sa_cons se_str sa_nil)) (sa_cons (se_lst (sa_cons (se_var 1) (sa_cons se_non sa_nil))) sa_nil)))))))))))))))))
    (ss_one (ss_ret (se_add (se_var 2) (se_lc false rfl nd (si_seq (se_callD ((D__law_bad_ballots_1 Y).mono (by decide)) hr hgd gx_pass rfl (sr_cons (se_tk (se_var 0)) sr_nil) (len_rCons len_rNil))) (own := [("_law_one", 3)]) (by kernel_rfl) (by decide) (by decide) (fun _ _ _ _ _ => (sg_name 3 nd rfl (by first | exact Or.inl rfl | exact Or.inr rfl) (by decide))) (fun _ _ _ _ _ => sts_nil) (fun _ _ _ _ _ => (se_tk (se_lst (sa_cons (se_var 1) (sa_cons (se_var 3) sa_nil)))))))))))
theorem S__law_bad_lists : FnScope N__law_bad_lists ["_law_count"] (defScope (topS 57)) := ⟨rfl, rfl, rfl, by decide, rfl, by decide +kernel, by decide +kernel⟩
theorem D__law_bad_lists_1 (Y : Ctx K mg) : Dfn Pg w K mg base 2 "_law_bad_lists" 1 F__law_bad_lists 1 [] := by
  obtain ⟨_, X, G⟩ := Y.ex
  obtain ⟨fd, FD⟩ := Y.c.def_ 26 (d := d__law_bad_lists)
  have hb : Binds K fd ["_law_count"] [] := FD.bindsN fun _ _ _ _ _ _ us h => by
    match us, h with
    | [a0], _ => rfl
  exact ⟨⟨_, fd, ["_law_count"], [], He.glo_ok X G (Y.c.fact 26), FD.kp, fnG_D FD S__law_bad_lists rfl fun cdv  A outer s H E hr hgd => W__law_bad_lists Y  cdv  A outer s H E hr hgd, hb, .nil, rfl, rfl⟩⟩
def N__law_right : List Str := ["_law_tap_here", "_law_count", "_law_row", "_law_path", "_law_counts", "_law_ones", "_law_spots", "_law_paths"]
theorem W__law_right (Y : Ctx K mg) (TB : LamX.TabB base mg (He.cT K ("_law_raised", none)).1 (He.cT K ("_law_raised", none)).2) {f : Addr} (cdv : Value) (A : Around) (outer : List Env) (s : Shared) (H : Hp) (E : XK) (hr : Room 12 (A.deeper (envOfC "_law_right" (defScope (topS 63)) s.heap.objs.size f cdv))) (hgd : A.guards = some []) :
    SSs (GX Pg w K mg base N__law_right "_law_right" (defScope (topS 63)) f cdv A outer s H E) (GW E) [0, 1000000] (defBody (topS 63)) B__law_right_v20 := by
  have h64 : (A.deeper (envOfC "_law_right" (defScope (topS 63)) s.heap.objs.size f cdv)).units + 64 < cLine := hr.units
  have h65 : (A.deeper (envOfC "_law_right" (defScope (topS 63)) s.heap.objs.size f cdv)).units + 65 < cLine := by have := hr.un; omega
  have h1 := unl1 h64
  have h0 := unl0 h64
  have nd : N__law_right.Nodup := by decide
  exact (ss_cons (ss_set 1 nd rfl (by first | exact Or.inl rfl | exact Or.inr rfl) (by decide) (se_tk (se_add se_int (se_callD ((D__law_draw_2 Y).mono (by decide)) hr hgd gx_pass rfl (sr_io 0 rfl (by first | exact Or.inl rfl | exact Or.inr (Or.inl rfl) | exact Or.inr (Or.inr rfl)) (sr_cons se_int sr_nil)) (len_rIo (len_rCons len_rNil))))))
    (ss_cons (ss_par2 rfl nd rfl rfl (by decide) (by decide) rfl rfl (sr_cons (se_tk (se_callD ((D__law_mixed_2 Y).mono (by decide)) hr hgd gx_pass rfl (sr_io 0 rfl (by first | exact Or.inl rfl | exact Or.inr (Or.inl rfl) | exact Or.inr (Or.inr rfl)) (sr_cons (se_tk (se_var 1)) sr_nil)) (len_rIo (len_rCons len_rNil)))) (sr_cons (se_tk (se_callD ((D__law_mixed_2 Y).mono (by decide)) hr hgd gx_pass rfl (sr_io 0 rfl (by first | exact Or.inl rfl | exact Or.inr (Or.inl rfl) | exact Or.inr (Or.inr rfl)) (sr_cons (se_tk (se_var 1)) sr_nil)) (len_rIo (len_rCons len_rNil)))) sr_nil)))
    (ss_cons (ss_par2 rfl nd rfl rfl (by decide) (by decide) rfl rfl (sr_cons (se_tk (se_tup (sa_cons (se_callD ((D__law_bad_counts_1 Y).mono (by decide)) hr hgd gx_pass rfl (sr_cons se_int sr_nil) (len_rCons len_rNil)) (sa_cons se_str sa_nil)))) (sr_cons (se_tk (se_tup (sa_cons (se_callD ((D__law_bad_ballots_1 Y).mono (by decide)) hr hgd gx_pass rfl (sr_cons (se_tk (se_var 1)) sr_nil) (len_rCons len_rNil)) (sa_cons se_str sa_nil)))) sr_nil)))
    (ss_cons (ss_par2 rfl nd rfl rfl (by decide) (by decide) rfl rfl (sr_cons (se_tk (se_tup (sa_cons (se_callD ((D__law_bad_places_1 Y).mono (by decide)) hr hgd gx_pass rfl (sr_cons (se_tk (se_var 1)) sr_nil) (len_rCons len_rNil)) (sa_cons se_str sa_nil)))) (sr_cons (se_tk (se_tup (sa_cons (se_callD0 ((D__law_bad_lines_0 Y).mono (by decide)) hr hgd gx_pass rfl) (sa_cons se_str sa_nil)))) sr_nil)))
    (ss_cons (ss_if (st_w (sw_or (st_not (st_tru (se_callDT (by decide) ((D__law_faults_3 Y TB).mono (by decide)) hr hgd gx_pass rfl (sr_cons se_int (sr_cons (se_lst (sa_cons (se_var 1) (sa_cons (se_var 2) sa_nil))) (sr_cons (se_tk (se_lst (sa_cons (se_var 4) sa_nil))) sr_nil))) (len_rCons (len_rCons (len_rCons len_rNil)))))) (sw_or1 (st_not (st_tru (se_callDT (by decide) ((D__law_faults_3 Y TB).mono (by decide)) hr hgd gx_pass rfl (sr_cons se_int (sr_cons (se_lst (sa_cons (se_var 1) (sa_cons (se_mul (se_lst (sa_cons (se_var 2) sa_nil)) se_int) sa_nil))) (sr_cons (se_tk (se_lst (sa_cons (se_var 4) sa_nil))) sr_nil))) (len_rCons (len_rCons (len_rCons len_rNil))))))))) (ss_one (ss_ret se_bl)) ss_nil)
    (ss_cons (ss_if (st_not (st_tru (se_callDT (by decide) ((D__law_faults_3 Y TB).mono (by decide)) hr hgd gx_pass rfl (sr_cons se_int (sr_cons (se_lst (sa_cons (se_var 1) (sa_cons (se_var 2) (sa_cons (se_sub (se_var 1) se_int) (sa_cons se_int sa_nil))))) (sr_cons (se_tk (se_lst (sa_cons (se_var 4) (sa_cons (se_var 5) (sa_cons (se_var 6) (sa_cons (se_var 6) sa_nil)))))) sr_nil))) (len_rCons (len_rCons (len_rCons len_rNil)))))) (ss_one (ss_ret se_bl)) ss_nil)
    (ss_cons (ss_if (st_not (st_tru (se_callDT (by decide) ((D__law_faults_3 Y TB).mono (by decide)) hr hgd gx_pass rfl (sr_cons se_int (sr_cons (se_lst (sa_cons (se_var 1) (sa_cons (se_var 2) (sa_cons (se_var 3) sa_nil)))) (sr_cons (se_tk (se_lst (sa_cons (se_var 4) (sa_cons (se_var 5) (sa_cons (se_var 5) sa_nil))))) sr_nil))) (len_rCons (len_rCons (len_rCons len_rNil)))))) (ss_one (ss_ret se_bl)) ss_nil)
    (ss_cons (ss_if (st_not (st_tru (se_callDT (by decide) ((D__law_faults_3 Y TB).mono (by decide)) hr hgd gx_pass rfl (sr_cons se_int (sr_cons (se_lst (sa_cons (se_var 3) (sa_cons (se_mul (se_lst (sa_cons (se_var 2) sa_nil)) se_int) sa_nil))) (sr_cons (se_tk (se_lst (sa_cons (se_var 7) (sa_cons (se_tup (sa_cons (se_callD ((D__law_bad_lists_1 Y).mono (by decide)) hr hgd gx_pass rfl (sr_cons (se_tk (se_var 1)) sr_nil) (len_rCons len_rNil)) (sa_cons se_str sa_nil))) sa_nil)))) sr_nil))) (len_rCons (len_rCons (len_rCons len_rNil)))))) (ss_one (ss_ret se_bl)) ss_nil)
    (ss_one (ss_ret (se_callDT (by decide) ((D__law_faults_3 Y TB).mono (by decide)) hr hgd gx_pass rfl (sr_cons se_int (sr_cons (se_lst (sa_cons (se_var 3) (sa_cons (se_lst sa_nil) sa_nil))) (sr_cons (se_tk (se_lst (sa_cons (se_var 7) sa_nil))) sr_nil))) (len_rCons (len_rCons (len_rCons len_rNil))))))))))))))
theorem S__law_right : FnScope N__law_right ["_law_tap_here"] (defScope (topS 63)) := ⟨rfl, rfl, rfl, by decide, rfl, by decide +kernel, by decide +kernel⟩
theorem D__law_right_1 (Y : Ctx K mg) (TB : LamX.TabB base mg (He.cT K ("_law_raised", none)).1 (He.cT K ("_law_raised", none)).2) : DfnT Pg w K mg base 13 "_law_right" 1 F__law_right_v20 1 [] := by
  obtain ⟨_, X, G⟩ := Y.ex
  obtain ⟨fd, FD⟩ := Y.c.def_ 27 (d := d__law_right)
  have hb : Binds K fd ["_law_tap_here"] [] := FD.bindsN fun _ _ _ _ _ _ us h => by
    match us, h with
    | [a0], _ => rfl
  exact ⟨⟨_, fd, ["_law_tap_here"], [], He.glo_ok X G (Y.c.fact 27), FD.kp, fnG_DT FD S__law_right rfl fun cdv hp A outer s H E hr hgd => W__law_right Y TB cdv  A outer s H E hr hgd, hb, .nil, rfl, rfl⟩⟩
def N__law_tap : List Str := ["_law_cell", "_law_turn", "_law_whole"]
theorem W__law_tap (Y : Ctx K mg) {f : Addr} (cdv : Value) (A : Around) (outer : List Env) (s : Shared) (H : Hp) (E : XK) (hr : Room 0 (A.deeper (envOfC "_law_tap" (defScope (topS 47)) s.heap.objs.size f cdv))) (hgd : A.guards = some []) :
    SSs (GX Pg w K mg base N__law_tap "_law_tap" (defScope (topS 47)) f cdv A outer s H E) (GW E) [] (defBody (topS 47)) B__law_tap := by
  have h64 : (A.deeper (envOfC "_law_tap" (defScope (topS 47)) s.heap.objs.size f cdv)).units + 64 < cLine := hr.units
  have h65 : (A.deeper (envOfC "_law_tap" (defScope (topS 47)) s.heap.objs.size f cdv)).units + 65 < cLine := by have := hr.un; omega
  have h1 := unl1 h64
  have h0 := unl0 h64
  have nd : N__law_tap.Nodup := by decide
  exact (ss_cons (ss_set 2 nd rfl (by first | exact Or.inl rfl | exact Or.inr rfl) (by decide) (se_tk (se_add (se_mul se_int (se_b1 call_abs c1_abs rfl (m_abs Y) (by decide +kernel) (se_var 0))) (se_t1 call_int1 c1_int rfl (m_int Y) (by decide +kernel) (se_lt (se_var 0) se_int)))))
    (ss_one (ss_ret (se_lst (sa_cons (se_var 2) (sa_cons (se_add (se_add (se_mod (se_t1 call_int1 c1_int rfl (m_int Y) (by decide +kernel) (se_var 2)) se_int) (se_mul se_int (se_var 1))) se_int) (sa_cons (se_add (se_add (se_mod (se_t1 call_int1 c1_int rfl (m_int Y) (by decide +kernel) (se_var 2)) se_int) (se_mul se_int (se_var 1))) se_int) sa_nil)))))))
theorem S__law_tap : FnScope N__law_tap ["_law_cell", "_law_turn"] (defScope (topS 47)) := ⟨rfl, rfl, rfl, by decide, rfl, by decide +kernel, by decide +kernel⟩
theorem D__law_tap_2 (Y : Ctx K mg) : Dfn Pg w K mg base 1 "_law_tap" 2 F__law_tap 2 [] := by
  obtain ⟨_, X, G⟩ := Y.ex
  obtain ⟨fd, FD⟩ := Y.c.def_ 28 (d := d__law_tap)
  have hb : Binds K fd ["_law_cell", "_law_turn"] [] := FD.bindsN fun _ _ _ _ _ _ us h => by
    match us, h with
    | [a0, a1], _ => rfl
  exact ⟨⟨_, fd, ["_law_cell", "_law_turn"], [], He.glo_ok X G (Y.c.fact 28), FD.kp, fnG_D FD S__law_tap rfl fun cdv  A outer s H E hr hgd => W__law_tap Y  cdv  A outer s H E hr hgd, hb, .nil, rfl, rfl⟩⟩
def N_law : List Str := ["_law_script", "_law_cells_here", "_law_k"]
theorem W_law (Y : Ctx K mg) (TB : LamX.TabB base mg (He.cT K ("_law_raised", none)).1 (He.cT K ("_law_raised", none)).2) {f : Addr} (cdv : Value) (A : Around) (outer : List Env) (s : Shared) (H : Hp) (E : XK) (hr : Room 13 (A.deeper (envOfC "law" (defScope (topS 64)) s.heap.objs.size f cdv))) (hgd : A.guards = some []) :
    SSs (GX Pg w K mg base N_law "law" (defScope (topS 64)) f cdv A outer s H E) (GW E) [1000000] (defBody (topS 64)) B_law_v21 := by
  have h64 : (A.deeper (envOfC "law" (defScope (topS 64)) s.heap.objs.size f cdv)).units + 64 < cLine := hr.units
  have h65 : (A.deeper (envOfC "law" (defScope (topS 64)) s.heap.objs.size f cdv)).units + 65 < cLine := by have := hr.un; omega
  have h1 := unl1 h64
  have h0 := unl0 h64
  have nd : N_law.Nodup := by decide
  exact (ss_cons (ss_set 1 nd rfl (by first | exact Or.inl rfl | exact Or.inr rfl) (by decide) (se_tk (se_callD ((D__law_cells_2 Y).mono (by decide)) hr hgd gx_pass rfl (sr_cons (se_tk (se_var 0)) (sr_cons se_int sr_nil)) (len_rCons (len_rCons len_rNil)))))
    (ss_one (ss_ret (se_eqE h64 (se_lc false rfl nd (si_rng1 rfl (m_range Y) (se_b1 call_lenU c1_len rfl (m_len Y) (by decide +kernel) (se_var 1))) (own := [("_law_k", 2)]) (by kernel_rfl) (by decide) (by decide) (fun _ _ _ _ _ => (sg_name 2 nd rfl (by first | exact Or.inl rfl | exact Or.inr rfl) (by decide))) (fun _ _ _ _ _ => (sts_one (st_not (st_tru (se_callDT (by decide) ((D__law_right_1 Y TB).mono (by decide)) hr hgd w0_pass rfl (sr_cons (se_callD ((D__law_tap_2 Y).mono (by decide)) hr hgd w0_pass rfl (sr_cons (se_tk (se_ix2 h64 (se_var 1) (se_var 2))) (sr_cons (se_tk (se_var 2)) sr_nil)) (len_rCons (len_rCons len_rNil))) sr_nil) (len_rCons len_rNil)))))) (fun _ _ _ _ _ => (se_tk (se_var 2)))) (se_lst sa_nil)))))
theorem S_law : FnScope N_law ["_law_script"] (defScope (topS 64)) := ⟨rfl, rfl, rfl, by decide, rfl, by decide +kernel, by decide +kernel⟩
end K03
namespace Lw
open PySem Hb Nv L2
variable {α β γ σ ρ ζ : Type}
theorem bnd {p : Option α} {x : α} {f : α → Option β} {y : β} (h : p = some x) (h2 : f x = some y) : p.bind f = some y := by rw [h]; exact h2
theorem forS_inv (b : σ → α → Option σ) (P : Nat → σ → Prop) : ∀ (xs : List α) (k : Nat) (s : σ), P k s → (∀ (i : Nat) (x : α) (s : σ), xs[i]? = some x → P (k + i) s → ∃ s', b s x = some s' ∧ P (k + i + 1) s') → ∃ s', forS xs s b = some s' ∧ P (k + xs.length) s'
  | [], k, s, h, _ => ⟨s, rfl, h⟩
  | x :: r, k, s, h, hb => by
    obtain ⟨s1, e1, h1⟩ := hb 0 x s rfl h
    obtain ⟨s2, e2, h2⟩ := forS_inv b P r (k + 1) s1 h1 (fun i y s hy hp => by
      have e : k + 1 + i = k + (i + 1) := by omega
      rw [e] at hp ⊢
      exact hb (i + 1) y s (by simpa using hy) hp)
    refine ⟨s2, ?_, ?_⟩
    · show (b s x).bind _ = _
      rw [e1]; exact e2
    · rw [List.length_cons, show k + (r.length + 1) = k + 1 + r.length by omega]; exact h2
theorem mapF_ok (c : α → Option Bool) (g : α → Option γ) (p : α → Bool) (f : α → γ) : ∀ (xs : List α), (∀ x ∈ xs, c x = some (p x)) → (∀ x ∈ xs, p x = true → g x = some (f x)) → mapF xs c g = some ((xs.filter p).map f)
  | [], _, _ => rfl
  | x :: r, hc, hg => by
    have ih := mapF_ok c g p f r (fun y hy => hc y (by simp [hy])) (fun y hy => hg y (by simp [hy]))
    show (c x).bind _ = _
    rw [hc x (by simp), List.filter_cons]
    cases hp : p x with
    | true =>
      show (g x).bind _ = _
      rw [hg x (by simp) hp]
      show (mapF r c g).bind _ = _
      rw [ih]; rfl
    | false =>
      show mapF r c g = _
      rw [ih]; rfl
theorem mapT_ok (g : α → Option γ) (f : α → γ) (xs : List α) (hg : ∀ x ∈ xs, g x = some (f x)) : mapF xs (fun _ => some true) g = some (xs.map f) := by
  rw [mapF_ok (fun _ => some true) g (fun _ => true) f xs (fun _ _ => rfl) (fun x hx _ => hg x hx)]
  rw [List.filter_eq_self.mpr (fun _ _ => rfl)]
/-- the items that a test keeps -/
theorem mapC_ok (c : α → Option Bool) (p : α → Bool) (xs : List α) (hc : ∀ x ∈ xs, c x = some (p x)) : mapF xs c (fun x => some x) = some (xs.filter p) := by
  have := mapF_ok c (fun x => some x) p id xs hc (fun _ _ _ => rfl)
  rwa [List.map_id] at this
theorem whS_inv (c : σ → Option Bool) (b : σ → Option σ) (I : σ → Prop) (t : σ → Bool) (m : σ → Nat) (hc : ∀ s, I s → c s = some (t s)) (hb : ∀ s, I s → t s = true → ∃ s', b s = some s' ∧ I s' ∧ m s' < m s) : ∀ (n : Nat) (s : σ), I s → m s < n → ∃ s', whS n s c b = some s' ∧ I s' ∧ t s' = false
  | 0, s, _, h => absurd h (Nat.not_lt_zero _)
  | n + 1, s, hi, hm => by
    cases ht : t s with
    | false =>
      refine ⟨s, ?_, hi, ht⟩
      show (c s).bind _ = _
      rw [hc s hi, ht]; rfl
    | true =>
      obtain ⟨s1, e1, i1, m1⟩ := hb s hi ht
      obtain ⟨s2, e2, i2, t2⟩ := whS_inv c b I t m hc hb n s1 i1 (by omega)
      refine ⟨s2, ?_, i2, t2⟩
      show (c s).bind _ = _
      rw [hc s hi, ht]
      show (b s).bind _ = _
      rw [e1]; exact e2
def Wp (p : Option α) (Q : α → Prop) : Prop := ∃ z, p = some z ∧ Q z
theorem Wp.some {Q : α → Prop} {z : α} (q : Q z) : Wp (some z) Q := ⟨z, rfl, q⟩
theorem Wp.wh {c : σ → Option Bool} {b : σ → Option σ} {n : Nat} {s : σ} {K : σ → Option ζ} {Q : ζ → Prop} (I : σ → Prop) (t : σ → Bool) (m : σ → Nat) (hc : ∀ s, I s → c s = Option.some (t s)) (hb : ∀ s, I s → t s = true → Wp (b s) fun s' => I s' ∧ m s' < m s) (hi : I s) (hm : m s < n) (hK : ∀ s, I s → t s = false → Wp (K s) Q) : Wp ((whS n s c b).bind K) Q := by
  obtain ⟨s', e, i, f⟩ := whS_inv c b I t m hc hb n s hi hm
  rw [e]; exact hK s' i f
theorem Wp.for {b : σ → α → Option σ} {xs : List α} {s : σ} {K : σ → Option ζ} {Q : ζ → Prop} (P : Nat → σ → Prop) (h : P 0 s) (hb : ∀ (i : Nat) (x : α) (s : σ), xs[i]? = Option.some x → P i s → Wp (b s x) (P (i + 1))) (hK : ∀ s, P xs.length s → Wp (K s) Q) : Wp ((forS xs s b).bind K) Q := by
  obtain ⟨s', e, i⟩ := forS_inv b P xs 0 s h (fun i x s hx hp => by rw [Nat.zero_add] at hp ⊢; exact hb i x s hx hp)
  rw [Nat.zero_add] at i
  rw [e]; exact hK s' i
theorem bs {α β : Type} (x : α) (f : α → Option β) : Option.bind (some x) f = f x := by rw [Option.bind_some]
theorem lenL_e {α : Type} (xs : List α) : lenL xs = some (xs.length : Int) := by unfold lenL; rfl
theorem addI_e (i j : Int) : addI i j = some (i + j) := by unfold addI; rfl
theorem subI_e (i j : Int) : subI i j = some (i - j) := by unfold subI; rfl
theorem negI_e (i : Int) : negI i = some (-i) := by unfold negI; rfl
theorem ltI_e (i j : Int) : ltI i j = some (decide (i < j)) := by unfold ltI; rfl
theorem leI_e (i j : Int) : leI i j = some (decide (i ≤ j)) := by unfold leI; rfl
theorem geI_e (i j : Int) : geI i j = some (decide (j ≤ i)) := by unfold geI; rfl
theorem eqN_e {α : Type} [DecidableEq α] (x y : α) : eqN x y = some (decide (x = y)) := by unfold eqN; rfl
theorem neN_e {α : Type} [DecidableEq α] (x y : α) : neN x y = some (!decide (x = y)) := by unfold neN; rfl
theorem listL_e {α : Type} (xs : List α) : listL xs = some xs := by unfold listL; rfl
theorem intI_e (i : Int) : intI i = some i := by unfold intI; rfl
theorem intB_e (k : Bool) : intB k = some (if k then 1 else 0) := by unfold intB; rfl
theorem absI_e (i : Int) : absI i = some (if i < 0 then -i else i) := by unfold absI; rfl
theorem allB_e (ns : List Bool) : allB ns = some (ns.all id) := by unfold allB; rfl
theorem eqS_e (x y : Str) : eqS x y = some (x.cps.toList == y.cps.toList) := by unfold eqS; rfl
theorem maxI2_e (i j : Int) : maxI2 i j = some (if j > i then j else i) := by unfold maxI2; rfl
theorem minI2_e (i j : Int) : minI2 i j = some (if j < i then j else i) := by unfold minI2; rfl
/-- the numbers 0 .. n-1 -/
def iot (n : Nat) : List Int := (List.range n).map fun i : Nat => (i : Int)
theorem iot_len (n : Nat) : (iot n).length = n := by unfold iot; simp
theorem mem_iot {n : Nat} {x : Int} : x ∈ iot n ↔ 0 ≤ x ∧ x < n := by
  unfold iot
  rw [List.mem_map]
  constructor
  · rintro ⟨k, hk, rfl⟩
    rw [List.mem_range] at hk
    omega
  · rintro ⟨h0, h1⟩
    exact ⟨x.toNat, List.mem_range.mpr (by omega), by omega⟩
theorem iot_get {n k : Nat} (h : k < n) : (iot n)[k]? = some (k : Int) := by
  unfold iot
  rw [List.getElem?_map, List.getElem?_range h]; rfl
theorem iot_getI {n k : Nat} {x : Int} (h : (iot n)[k]? = some x) : x = k ∧ k < n := by
  unfold iot at h
  rw [List.getElem?_map] at h
  by_cases c : k < n
  · rw [List.getElem?_range c] at h
    exact ⟨(Option.some.inj h).symm, c⟩
  · rw [List.getElem?_eq_none (by simp; omega)] at h
    cases h
theorem iot_nodup (n : Nat) : (iot n).Nodup := by
  unfold iot
  exact List.Pairwise.map _ (fun a b (h : a ≠ b) e => h (by omega)) List.nodup_range
theorem iot_sorted (n : Nat) : (iot n).Pairwise (· ≤ ·) := by
  unfold iot
  exact List.Pairwise.map _ (fun a b (h : a < b) => by omega) (List.pairwise_lt_range (n := n))
theorem rgI0 (n : Nat) : rgI 0 n = iot n := by
  unfold rgI iot
  refine List.map_congr_left fun i _ => ?_
  omega
theorem ri1_ok (n : Int) (h : n ≤ 1000000) (h0 : 0 ≤ n) : ri1 n = some (iot n.toNat) := by
  unfold ri1
  rw [if_pos (by omega), rgI0]
theorem ri1_nat (n : Nat) (h : n ≤ 1000000) : ri1 (n : Int) = some (iot n) := by
  rw [ri1_ok _ (by omega) (by omega)]; rfl
theorem rg1_nat (n : Nat) (h : n ≤ 1000000) : rg1 (n : Int) = some (iot n) := by
  unfold rg1
  rw [if_pos (by omega)]
  unfold rgL iot
  congr 1
  rw [show ((n : Int) - 0).toNat = n by omega]
  refine List.map_congr_left fun i _ => ?_
  omega
theorem ixN_nat {n k : Nat} (h : k < n) : ixN n (k : Int) = some k := by
  unfold ixN
  rw [if_pos (by omega), if_pos (by omega)]; rfl
theorem atL_nat {xs : List α} {k : Nat} {x : α} (h : xs[k]? = some x) : atL xs (k : Int) = some x := by
  have hk : k < xs.length := (List.getElem?_eq_some_iff.mp h).1
  show atI xs _ = _
  unfold atI
  rw [ixN_nat hk]
  exact h
theorem atL_lt {xs : List α} {k : Nat} (h : k < xs.length) : atL xs (k : Int) = some xs[k] := atL_nat (List.getElem?_eq_getElem h)
theorem atL_int {xs : List α} {i : Int} (h0 : 0 ≤ i) (h1 : i < xs.length) : ∃ x, atL xs i = some x ∧ xs[i.toNat]? = some x ∧ x ∈ xs := by
  have hk : i.toNat < xs.length := by omega
  refine ⟨xs[i.toNat], ?_, List.getElem?_eq_getElem hk, List.getElem_mem hk⟩
  have := atL_lt hk
  rwa [show ((i.toNat : Nat) : Int) = i by omega] at this
theorem stI_nat {xs : List α} {k : Nat} (v : α) (h : k < xs.length) : Nv.stI xs (k : Int) v = some (xs.set k v) := by
  unfold Nv.stI; rw [ixN_nat h]; rfl
theorem stI_int {xs : List α} {i : Int} (v : α) (h0 : 0 ≤ i) (h1 : i < xs.length) : Nv.stI xs i v = some (xs.set i.toNat v) := by
  have := stI_nat (xs := xs) (k := i.toNat) v (by omega)
  rwa [show ((i.toNat : Nat) : Int) = i by omega] at this
theorem cap_ge {n : Nat} (h : n ≤ 100000) : n ≤ cap := by
  have : (100000 : Nat) ≤ cap := by decide
  omega
theorem apL_ok {xs : List α} (x : α) (h : xs.length ≤ 100000) : apL xs x = some (xs ++ [x]) := by
  unfold apL; rw [if_pos (cap_ge h)]
theorem catL_ok {xs ys : List α} (h : xs.length ≤ 100000) (h2 : ys.length ≤ 100000) : catL xs ys = some (xs ++ ys) := by
  unfold catL; rw [if_pos ⟨cap_ge h, cap_ge h2⟩]
theorem popL_ok {xs : List α} {i : Int} (h0 : 0 ≤ i) (h1 : i < xs.length) (h : xs.length ≤ 100000) : ∃ x, popL xs i = some (x, xs.eraseIdx i.toNat) ∧ xs[i.toNat]? = some x := by
  have hk : i.toNat < xs.length := by omega
  refine ⟨xs[i.toNat], ?_, List.getElem?_eq_getElem hk⟩
  unfold popL
  have e := ixN_nat hk
  rw [show ((i.toNat : Nat) : Int) = i by omega] at e
  rw [e]
  show (xs[_]?).bind _ = _
  rw [List.getElem?_eq_getElem hk]
  show (if _ then _ else _) = _
  rw [if_pos (cap_ge h)]
theorem mapT_cap {α γ : Type} {g : α → Option γ} {xs : List α} (f : α → γ) (hl : xs.length ≤ 100000) (hg : ∀ x ∈ xs, g x = some (f x)) : (if List.length xs ≤ cap then mapF xs (fun _ => some true) g else none) = some (xs.map f) := by
  rw [if_pos (cap_ge hl)]; exact mapT_ok g f xs hg
theorem mapC_cap {α : Type} {c : α → Option Bool} {xs : List α} (p : α → Bool) (hl : xs.length ≤ 100000) (hc : ∀ x ∈ xs, c x = some (p x)) : (if List.length xs ≤ cap then mapF xs c (fun x => some x) else none) = some (xs.filter p) := by
  rw [if_pos (cap_ge hl)]; exact mapC_ok c p xs hc
theorem cut_from (xs : List α) (k : Nat) : cutL xs (some (k : Int)) none = xs.drop k := by
  unfold cutL
  have e : HT.sIx xs.length 0 (some (k : Int)) = min k xs.length := by
    unfold HT.sIx; simp only [show ¬ (k : Int) < 0 by omega, if_false]; omega
  have e2 : HT.sIx xs.length xs.length none = xs.length := by unfold HT.sIx; rfl
  rw [e, e2]
  by_cases c : k ≤ xs.length
  · rw [Nat.min_eq_left c, List.take_of_length_le (by simp)]
  · rw [Nat.min_eq_right (by omega), List.drop_eq_nil_of_le (Nat.le_refl _), List.drop_eq_nil_of_le (by omega)]
    simp
theorem cut_to (xs : List α) (k : Nat) : cutL xs none (some (k : Int)) = xs.take k := by
  unfold cutL
  have e : HT.sIx xs.length xs.length (some (k : Int)) = min k xs.length := by
    unfold HT.sIx; simp only [show ¬ (k : Int) < 0 by omega, if_false]; omega
  have e2 : HT.sIx xs.length 0 none = 0 := by unfold HT.sIx; rfl
  rw [e, e2]
  by_cases c : k ≤ xs.length
  · rw [Nat.min_eq_left c]; rfl
  · rw [Nat.min_eq_right (by omega), List.take_of_length_le (by simp), List.take_of_length_le (by omega)]; rfl
theorem cut_len (xs : List α) (lo hi : Option Int) : (cutL xs lo hi).length ≤ xs.length := by
  unfold cutL
  simp only [List.length_take, List.length_drop]
  omega
theorem neNil (xs : List α) : (true != List.isEmpty xs) = !xs.isEmpty := by cases xs <;> rfl
end Lw
namespace Lw
open PySem Hb Nv L2 P
def Tap (t : List Int) : Prop := ∃ a b c : Int, t = [a, b, c] ∧ c.natAbs < 2 ^ 64
theorem at0 (a b c : Int) : atL [a, b, c] 0 = some a := rfl
theorem at1 (a b c : Int) : atL [a, b, c] 1 = some b := rfl
theorem at2 (a b c : Int) : atL [a, b, c] 2 = some c := rfl
theorem st0 (a b c v : Int) : Nv.stI [a, b, c] 0 v = some [v, b, c] := rfl
theorem st1 (a b c v : Int) : Nv.stI [a, b, c] 1 v = some [a, v, c] := rfl
theorem st2 (a b c v : Int) : Nv.stI [a, b, c] 2 v = some [a, b, v] := rfl
theorem pow18 : powW 10 18 = some 1000000000000000000 := by
  unfold powW; rw [if_pos (by decide)]; rfl
theorem modI_ok (i : Int) {j : Int} (h : 0 < j) : modI i j = some (i % j) := by unfold modI; rw [if_pos h]
theorem fdivW_ok (i : Int) {j : Int} (h : 0 < j) (h2 : j < 2 ^ 1000) : fdivW i j = some (i / j) := by unfold fdivW; rw [if_pos ⟨h, h2⟩]
theorem mulI_l (i j : Int) (h : i.natAbs < 2 ^ 64) : mulI i j = some (i * j) := by unfold mulI; rw [if_pos (.inl h)]
theorem mulI_r (i j : Int) (h : j.natAbs < 2 ^ 64) : mulI i j = some (i * j) := by unfold mulI; rw [if_pos (.inr h)]
theorem draw_ok {t : List Int} (ht : Tap t) {n : Int} (h0 : 0 < n) (h1 : n ≤ 1000000000) : Wp (n__law_draw t n) fun z => Tap z.2 ∧ 0 ≤ z.1 ∧ z.1 < n := by
  obtain ⟨a, b, c, rfl, hc⟩ := ht
  have hn : n < 2 ^ 1000 := Int.lt_of_le_of_lt h1 (by decide)
  by_cases q : a ≥ 1000000000000000000
  · refine ⟨(a % n, [a / n, b, c]), ?_, ⟨_, _, _, rfl, hc⟩, Int.emod_nonneg _ (by omega), Int.emod_lt_of_pos _ h0⟩
    unfold n__law_draw
    simp only [bs, at0, pow18, geI_e, intI_e, modI_ok _ h0, fdivW_ok _ h0 hn, st0]
    rw [if_pos (decide_eq_true q)]
  · have e1 : ∀ x : Int, modI x 4294967291 = some (x % 4294967291) := fun x => modI_ok x (by decide)
    have e2 : ∀ x : Int, modI x 2147483587 = some (x % 2147483587) := fun x => modI_ok x (by decide)
    have e3 : ∀ x : Int, fdivW x 32 = some (x / 32) := fun x => fdivW_ok x (by decide) (by decide)
    have e4 : ∀ x : Int, fdivW x 16 = some (x / 16) := fun x => fdivW_ok x (by decide) (by decide)
    have e5 : mulI b 69069 = some (b * 69069) := mulI_r _ _ (by decide)
    have e6 : mulI c c = some (c * c) := mulI_l _ _ hc
    have h1 := Int.emod_nonneg (c * c + (b * 69069 + 40503) % 4294967291) (show (2147483587 : Int) ≠ 0 by decide)
    have h2 := Int.emod_lt_of_pos (c * c + (b * 69069 + 40503) % 4294967291) (show (0 : Int) < 2147483587 by decide)
    have h3 : (2147483587 : Nat) < 2 ^ 64 := by decide
    refine ⟨(((b * 69069 + 40503) % 4294967291 / 32 + (c * c + (b * 69069 + 40503) % 4294967291) % 2147483587 / 16) % n, [a, (b * 69069 + 40503) % 4294967291, (c * c + (b * 69069 + 40503) % 4294967291) % 2147483587]), ?_, ⟨_, _, _, rfl, by omega⟩, Int.emod_nonneg _ (Int.ne_of_gt h0), Int.emod_lt_of_pos _ h0⟩
    unfold n__law_draw
    simp only [bs, at0, at1, at2, pow18, geI_e, intI_e, addI_e, e1, e2, e3, e4, e5, e6, modI_ok _ h0, st0, st1, st2]
    rw [if_neg (by rw [decide_eq_true_eq]; exact q)]
theorem tap_ok (c k : Int) (h0 : 0 ≤ k) (h1 : k ≤ 1000) : Wp (n__law_tap c k) Tap := by
  have e0 : ∀ x : Int, mulI 2 x = some (2 * x) := fun x => mulI_l _ _ (by decide)
  have e1 : ∀ x : Int, modI x 4294967291 = some (x % 4294967291) := fun x => modI_ok x (by decide)
  have e2 : ∀ x : Int, modI x 2147483587 = some (x % 2147483587) := fun x => modI_ok x (by decide)
  have e5 : mulI 977 k = some (977 * k) := mulI_l _ _ (by decide)
  have e6 : mulI 31 k = some (31 * k) := mulI_l _ _ (by decide)
  obtain ⟨w, hw⟩ : ∃ w : Int, (2 * (if c < 0 then -c else c) + if decide (c < 0) = true then (1 : Int) else 0) = w := ⟨_, rfl⟩
  have h2 := Int.emod_nonneg w (show (2147483587 : Int) ≠ 0 by decide)
  have h3 := Int.emod_lt_of_pos w (show (0 : Int) < 2147483587 by decide)
  have h4 : (3147483587 : Nat) < 2 ^ 64 := by decide
  refine ⟨[w, w % 4294967291 + 977 * k + 1, w % 2147483587 + 31 * k + 2], ?_, ⟨_, _, _, rfl, by omega⟩⟩
  unfold n__law_tap
  simp only [bs, absI_e, ltI_e, intB_e, intI_e, addI_e, e0, e1, e2, e5, e6, hw]
def Row (n : Nat) (r : List Int) : Prop := r.Perm (iot n)
theorem Row.len {n : Nat} {r : List Int} (h : Row n r) : r.length = n := by rw [List.Perm.length_eq h, iot_len]
theorem Row.mem {n : Nat} {r : List Int} (h : Row n r) {x : Int} : x ∈ r ↔ 0 ≤ x ∧ x < n := by rw [List.Perm.mem_iff h, mem_iot]
theorem Row.nodup {n : Nat} {r : List Int} (h : Row n r) : r.Nodup := (List.Perm.nodup_iff h).mpr (iot_nodup n)
theorem perm_erase {α : Type} : ∀ (l : List α) (j : Nat) (x : α), l[j]? = some x → (x :: l.eraseIdx j).Perm l
  | [], j, x, h => by simp at h
  | y :: r, 0, x, h => by
    simp at h; subst h; exact .refl _
  | y :: r, j + 1, x, h => by
    have ih := perm_erase r j x (by simpa using h)
    exact (List.Perm.swap y x _).trans (ih.cons y)
theorem perm_app1 {α : Type} (f : List α) (x : α) (l l' : List α) (h : (x :: l').Perm l) : (f ++ [x] ++ l').Perm (f ++ l) := by
  rw [List.append_assoc]
  exact List.Perm.append_left f h
theorem mixed_ok {t : List Int} (ht : Tap t) {n : Nat} (hn : n ≤ 900) : Wp (n__law_mixed t (n : Int)) fun z => Tap z.2 ∧ Row n z.1 := by
  unfold n__law_mixed
  simp only [bs, rg1_nat n (by omega : n ≤ 1000000), neNil]
  refine Wp.wh (fun s => Tap s.1 ∧ (s.2.2 ++ s.2.1).Perm (iot n)) (fun s => !s.2.1.isEmpty) (fun s => s.2.1.length) (fun s _ => rfl) ?_ ⟨ht, .refl _⟩ (by show (iot n).length < 1000; rw [iot_len]; omega) ?_
  · rintro ⟨T, left, found⟩ ⟨hT, hp⟩ hq
    have hp : (found ++ left).Perm (iot n) := hp
    have hl := hp.length_eq
    rw [List.length_append, iot_len] at hl
    have hne : left ≠ [] := by
      rintro rfl; cases hq
    have hl0 : 0 < left.length := List.length_pos_iff.mpr hne
    obtain ⟨⟨k, T1⟩, e1, hT1, k0, k1⟩ := draw_ok hT (n := (left.length : Int)) (by omega) (by omega)
    obtain ⟨x, e2, e3⟩ := popL_ok k0 k1 (by omega)
    have e4 := apL_ok (xs := found) x (by omega)
    refine ⟨(T1, left.eraseIdx k.toNat, found ++ [x]), ?_, ⟨hT1, ?_⟩, ?_⟩
    · simp only [bs, lenL_e, e1, e2, e4]
    · exact (perm_app1 found x left _ (perm_erase left _ x e3)).trans hp
    · show (left.eraseIdx k.toNat).length < left.length
      rw [List.length_eraseIdx]
      have k1 : k < left.length := k1
      have k0 : 0 ≤ k := k0
      have : k.toNat < left.length := by omega
      rw [if_pos this]
      omega
  · rintro s ⟨hT, hp⟩ hs
    refine .some ⟨hT, ?_⟩
    have : s.2.1 = [] := by
      cases q : s.2.1 with
      | nil => rfl
      | cons a r => rw [q] at hs; cases hs
    rw [this, List.append_nil] at hp
    exact hp
theorem cells_ok {ms : List Int} (hl : ms.length ≤ 63) (m : Int) : Wp (n__law_cells ms m) fun cs => cs.length ≤ 64 := by
  unfold n__law_cells
  simp only [bs, lenL_e, minI2_e, maxI2_e, catL_ok (xs := ms) (ys := [(0 : Int)]) (by omega) (by simp)]
  refine .some (Nat.le_trans (cut_len _ _ _) ?_)
  simp; omega
end Lw
namespace P
open PySem PySem.Spec PyProof.Rows L2 Hb Nv
open Enc (enc)
end P
namespace P
open PySem PySem.Spec PyProof.Rows L2 Hb Nv
open Enc (enc)
end P
namespace P
open PySem PySem.Spec PyProof.Rows L2 Hb Nv
open Enc (enc)
end P
namespace Lw
open PySem Hb Nv L2 P
/-- where x stands -/
def pos (r : List Int) (x : Int) : Int := (r.idxOf x : Nat)
/-- what stands at k -/
def pat (r : List Int) (k : Int) : Int := (r[k.toNat]?).getD 0
theorem get_pos {r : List Int} {x : Int} (h : x ∈ r) : r[r.idxOf x]? = some x := by
  have hl := List.idxOf_lt_length_of_mem h
  rw [List.getElem?_eq_getElem hl, List.getElem_idxOf]
theorem pos_get {r : List Int} (hn : r.Nodup) {k : Nat} {x : Int} (h : r[k]? = some x) : pos r x = k := by
  obtain ⟨hk, e⟩ := List.getElem?_eq_some_iff.mp h
  unfold pos
  rw [← e, hn.idxOf_getElem]
theorem ranks_ok {n : Nat} {r : List Int} (hr : Row n r) (hn : n ≤ 900) : Wp (n_ranks_in r) fun rk => ∀ x : Int, 0 ≤ x → x < n → atL rk x = some (pos r x) := by
  have hl := hr.len
  unfold n_ranks_in
  have e0 : repL [(0 : Int)] (r.length : Int) = some (List.replicate r.length (0 : Int)) := by
    unfold repL
    rw [if_pos ⟨by simp, by omega, by omega⟩]
    congr 1
    rw [show ((r.length : Int)).toNat = r.length by omega]
    generalize r.length = m
    induction m with
    | zero => rfl
    | succ m ih => rw [List.replicate_succ, List.flatten_cons, ih]; rfl
  simp only [bs, lenL_e, e0]
  refine Wp.for (fun i s => s.length = n ∧ ∀ j x, j < i → r[j]? = some x → s[x.toNat]? = some (j : Int)) ⟨by simp [hl], fun j x h => absurd h (Nat.not_lt_zero _)⟩ ?_ ?_
  · intro i y s hy ⟨hs, hi⟩
    unfold enumL at hy
    rw [List.getElem?_map, List.getElem?_zipIdx] at hy
    cases q : r[i]? with
    | none => rw [q] at hy; cases hy
    | some z =>
      rw [q] at hy
      have hy : ((0 + i : Nat) : Int) = y.1 ∧ z = y.2 := by
        have := Option.some.inj hy
        subst this
        exact ⟨rfl, rfl⟩
      have hz := hr.mem.mp (List.mem_of_getElem? q)
      refine ⟨s.set z.toNat y.1, ?_, by simp [hs], fun j x hj hx => ?_⟩
      · rw [← hy.2, stI_int _ hz.1 (by omega)]; rfl
      · have hx0 := hr.mem.mp (List.mem_of_getElem? hx)
        by_cases c : j = i
        · subst c
          rw [q] at hx
          cases hx
          rw [List.getElem?_set_self (by omega)]
          rw [← hy.1]; simp
        · have : z.toNat ≠ x.toNat := by
            intro e
            have : z = x := by omega
            subst this
            have e1 := pos_get hr.nodup q
            have e2 := pos_get hr.nodup hx
            omega
          rw [List.getElem?_set_ne this]
          exact hi j x (by omega) hx
  · intro s ⟨hs, hi⟩
    refine .some fun x h0 h1 => ?_
    have hx := hr.mem.mpr ⟨h0, h1⟩
    have e := hi (r.idxOf x) x (by unfold enumL; simp [List.idxOf_lt_length_of_mem hx]) (get_pos hx)
    have := atL_nat e
    rwa [show ((x.toNat : Nat) : Int) = x by omega] at this
end Lw
namespace Lw
open PySem Hb Nv L2 P
end Lw
namespace Lw
open PySem Hb Nv L2 P
/-- the last first: what stands before is between -/
inductive Dn : Int → Int → List Int → Prop
  | one (x : Int) : Dn x x [x]
  | lo {lo hi : Int} {q : List Int} : Dn (lo + 1) hi q → Dn lo hi (lo :: q)
  | hi {lo hi : Int} {q : List Int} : Dn lo (hi - 1) q → Dn lo hi (hi :: q)
end Lw
namespace P
open PySem PySem.Spec PyProof.Rows L2 Hb Nv
open Enc (enc)
end P
namespace P
open PySem PySem.Spec PyProof.Rows L2 Hb Nv
open Enc (enc)
end P
namespace Lw
open PySem Hb Nv L2 P
theorem idxL_pos {s : List Int} {x : Int} (h : x ∈ s) : idxL s x = some (pos s x) := by
  unfold idxL
  have e : (s.findIdx? fun z => decide (z = x)) = some (s.idxOf x) := by
    have hf : (fun z : Int => decide (z = x)) = (fun z => z == x) := by
      funext z
      rfl
    rw [hf]
    rw [List.findIdx?_eq_some_iff_findIdx_eq]
    exact ⟨List.idxOf_lt_length_of_mem h, rfl⟩
  rw [e]; rfl
end Lw
namespace P
open PySem PySem.Spec PyProof.Rows L2 Hb Nv
open Enc (enc)
end P
namespace P
open PySem PySem.Spec PyProof.Rows L2 Hb Nv
open Enc (enc)
end P
namespace Lw
open PySem Hb Nv L2 P
/-- the row with the two at k and k+1 exchanged -/
def ex2 (r : List Int) (k : Nat) : List Int := r.take k ++ [pat r ((k : Int) + 1), pat r (k : Int)] ++ r.drop (k + 2)
end Lw
namespace P
open PySem PySem.Spec PyProof.Rows L2 Hb Nv
open Enc (enc)
end P
namespace P
open PySem PySem.Spec PyProof.Rows L2 Hb Nv
open Enc (enc)
end P
namespace P
open PySem PySem.Spec PyProof.Rows L2 Hb Nv
open Enc (enc)
end P
namespace Lw
open PySem Hb Nv L2 P
open Enc (enc)
def isInt : PyData → Bool
  | .int _ => true
  | _ => false
def isNn : PyData → Bool
  | .int i => decide (0 ≤ i)
  | _ => false
theorem isi_i (i : Int) : isiN "int" (.int i) = some true := rfl
theorem isi_ib (i : Int) : isiN "bool" (.int i) = some false := rfl
theorem isi_b (i : Bool) : isiN "int" (.bool i) = some true := rfl
theorem isi_bb (i : Bool) : isiN "bool" (.bool i) = some true := rfl
theorem isi_l (ds : List PyData) : isiN "list" (.list ds) = some true := rfl
theorem isi_nl {d : PyData} (h : ∀ ds, d ≠ .list ds) : isiN "list" d = some false := by
  cases d with
  | list ds => exact absurd rfl (h ds)
  | _ => rfl
theorem isi_ni {d : PyData} (h : ∀ i, d ≠ .int i) (h2 : ∀ i, d ≠ .bool i) : isiN "int" d = some false := by
  cases d with
  | int i => exact absurd rfl (h i)
  | bool i => exact absurd rfl (h2 i)
  | _ => rfl
theorem lenA_l (ds : List PyData) : lenA (.list ds) = some (ds.length : Int) := rfl
theorem seqA_l (ds : List PyData) : seqA (.list ds) = some ds := rfl
theorem asI_i (i : Int) : asIntA (.int i) = some i := rfl
theorem bnot_t : (!true) = false := rfl
theorem bnot_f : (!false) = true := rfl
theorem integer_ok (d : PyData) : n_is_integer d 0 none = some (isNn d) := by
  by_cases h1 : ∃ i, d = .int i
  · obtain ⟨i, rfl⟩ := h1
    unfold n_is_integer
    simp only [bs, isi_i, isi_ib, asI_i, leI_e, bnot_t, Bool.false_eq_true, if_false, Option.isNone_none, if_true]
    by_cases c : 0 ≤ i
    · rw [if_pos (decide_eq_true c)]
      show _ = some (decide (0 ≤ i))
      rw [decide_eq_true c]; rfl
    · rw [if_neg (by rw [decide_eq_true_eq]; exact c)]
      show _ = some (decide (0 ≤ i))
      rw [decide_eq_false c]; rfl
  · by_cases h2 : ∃ i, d = .bool i
    · obtain ⟨b, rfl⟩ := h2
      unfold n_is_integer
      simp only [bs, isi_b, isi_bb, bnot_t, Bool.false_eq_true, if_false, if_true]
      rfl
    · have n1 : ∀ i, d ≠ .int i := fun i e => h1 ⟨i, e⟩
      have n2 : ∀ i, d ≠ .bool i := fun i e => h2 ⟨i, e⟩
      unfold n_is_integer
      simp only [bs, isi_ni n1 n2, bnot_f, if_true]
      cases d with
      | int i => exact absurd rfl (n1 i)
      | _ => rfl
theorem ints_or (ds : List PyData) : (∃ ns, ds = ns.map PyData.int ∧ intsOf ds = some ns) ∨ (intsOf ds = none ∧ ds.all isInt = false) := by
  induction ds with
  | nil => exact .inl ⟨[], rfl, rfl⟩
  | cons d r ih =>
    cases d with
    | int i =>
      rcases ih with ⟨ns, e1, e2⟩ | ⟨e1, e2⟩
      · exact .inl ⟨i :: ns, by rw [e1]; rfl, by rw [intsOf, e2]; rfl⟩
      · exact .inr ⟨by rw [intsOf, e1]; rfl, by simp [isInt, e2]⟩
    | _ => exact .inr ⟨rfl, by simp [isInt]⟩
theorem ints_of (ns : List Int) : intsOf (ns.map PyData.int) = some ns := by
  induction ns with
  | nil => rfl
  | cons i r ih => rw [List.map_cons, intsOf, ih]; rfl
def rowB (n : Nat) : PyData → Bool
  | .list ds => match intsOf ds with
    | some ns => decide (sortI ns = iot n)
    | none => false
  | _ => false
theorem rowB_iff {n : Nat} {d : PyData} : rowB n d = true ↔ ∃ ns : List Int, d = enc ns ∧ Row n ns := by
  constructor
  · intro h
    cases d with
    | list ds =>
      change (match intsOf ds with
        | some ns => decide (sortI ns = iot n)
        | none => false) = true at h
      rcases ints_or ds with ⟨ns, rfl, e⟩ | ⟨e, _⟩
      · rw [e] at h
        have h := of_decide_eq_true h
        exact ⟨ns, rfl, by have := sortI_perm ns; rw [h] at this; exact this.symm⟩
      · rw [e] at h; cases h
    | _ => cases h
  · rintro ⟨ns, rfl, h⟩
    show (match intsOf (ns.map PyData.int) with
      | some ns => decide (sortI ns = iot n)
      | none => false) = true
    rw [ints_of]
    exact decide_eq_true (sortI_eq (List.Perm.symm h) (iot_sorted n)).symm
/-- a value whose lists are not too long -/
def Sml (d : PyData) : Prop := ∀ ds, d = .list ds → ds.length ≤ 100000
theorem each_ok {n : Nat} (hn : n ≤ 1000) {d : PyData} (hd : Sml d) : n_is_each_once (n : Int) d = some (rowB n d) := by
  by_cases hl : ∃ ds, d = .list ds
  · obtain ⟨ds, rfl⟩ := hl
    have hs := hd ds rfl
    unfold n_is_each_once
    simp only [bs, isi_l, bnot_t, Bool.false_eq_true, if_false, lenA_l, seqA_l, neN_e, allB_e]
    by_cases c : (ds.length : Int) = (n : Int)
    · simp only [c, decide_true, bnot_t, Bool.false_eq_true, if_false]
      rw [mapT_cap isNn hs (fun x _ => integer_ok x)]
      simp only [bs]
      rcases ints_or ds with ⟨ns, rfl, e⟩ | ⟨e, e2⟩
      · have e3 : srtAC (.list (ns.map PyData.int)) = some (sortI ns) := by
          show (intsOf _).bind _ = _
          rw [e]
          show (if _ then _ else _) = _
          rw [if_pos (cap_ge (by simpa using hs))]
        have e4 : rg1 (n : Int) = some (iot n) := rg1_nat n (by omega)
        have e5 : rowB n (.list (ns.map PyData.int)) = decide (sortI ns = iot n) := by
          show (match intsOf (ns.map PyData.int) with
            | some ns => decide (sortI ns = iot n)
            | none => false) = _
          rw [e]
        rw [e3, e4, e5]
        simp only [bs, eqN_e]
        by_cases a : (List.map isNn (List.map PyData.int ns)).all id = true
        · simp only [a, bnot_t, Bool.false_eq_true, if_false]
        · have a' : (List.map isNn (List.map PyData.int ns)).all id = false := by simpa using a
          simp only [a', bnot_f, if_true]
          congr 1
          refine (decide_eq_false fun hq => a ?_).symm
          rw [List.all_eq_true]
          intro b hb
          rw [List.map_map] at hb
          obtain ⟨i, hi, rfl⟩ := List.mem_map.mp hb
          have : i ∈ sortI ns := (sortI_perm ns).mem_iff.mpr hi
          rw [hq, mem_iot] at this
          show decide (0 ≤ i) = true
          exact decide_eq_true this.1
      · have a' : (List.map isNn ds).all id = false := by
          rw [List.all_eq_false] at e2 ⊢
          obtain ⟨x, hx, h⟩ := e2
          refine ⟨isNn x, List.mem_map_of_mem hx, ?_⟩
          cases x with
          | int i => exact absurd rfl h
          | _ => exact fun z => nomatch z
        simp only [a', bnot_f, if_true]
        show _ = some (match intsOf ds with
          | some ns => decide (sortI ns = iot n)
          | none => false)
        rw [e]
    · simp only [c, decide_false, bnot_f, if_true, bs]
      refine congrArg some (Eq.symm ?_)
      refine Bool.eq_false_iff.mpr fun h => ?_
      obtain ⟨ns, e, hr⟩ := rowB_iff.mp h
      have e : ds = ns.map PyData.int := PyData.list.inj e
      have := hr.len
      subst e
      simp at c
      omega
  · have hn : ∀ ds, d ≠ .list ds := fun ds e => hl ⟨ds, e⟩
    unfold n_is_each_once
    simp only [bs, isi_nl hn, bnot_f, if_true]
    cases d with
    | list ds => exact absurd rfl (hn ds)
    | _ => rfl
theorem sml_ints {ns : List Int} (h : ns.length ≤ 100000) : Sml (enc ns) := fun ds e => by
  have e : ns.map PyData.int = ds := PyData.list.inj e
  rw [← e]; simpa using h
theorem rowB_row {n : Nat} {r : List Int} (h : Row n r) : rowB n (enc r) = true := rowB_iff.mpr ⟨r, rfl, h⟩
theorem sml_row {n : Nat} {r : List Int} (h : Row n r) (hn : n ≤ 1000) : Sml (enc r) := sml_ints (by rw [h.len]; omega)
theorem asIL_row (r : List Int) : asIL (enc r) = some r := ints_of r
end Lw
namespace P
open PySem PySem.Spec PyProof.Rows L2 Hb Nv
open Enc (enc)
end P
namespace Lw
open PySem Hb Nv L2 P
open Enc (enc)
/-- the two rank them otherwise -/
def Dis (r s : List Int) (a b : Int) : Bool := decide (pos r a < pos r b) != decide (pos s a < pos s b)
theorem iot_drop {n k : Nat} : (iot n).drop k = rgI (k : Int) (n - k) := by
  apply List.ext_getElem?
  intro i
  rw [List.getElem?_drop]
  unfold rgI
  rw [List.getElem?_map]
  by_cases c : i < n - k
  · rw [List.getElem?_range c, iot_get (by omega)]
    show some _ = some _
    congr 1
  · rw [List.getElem?_eq_none (by rw [iot_len]; omega), List.getElem?_eq_none (by simp; omega)]; rfl
theorem ri2_nat (a b : Nat) (h : b ≤ 1000000) (h2 : a ≤ 1000000) : ri2 (a : Int) (b : Int) = some ((iot b).drop a) := by
  unfold ri2
  rw [if_pos (by omega), iot_drop]
  congr 2
  omega
end Lw
namespace P
open PySem PySem.Spec PyProof.Rows L2 Hb Nv
open Enc (enc)
end P
namespace P
open PySem PySem.Spec PyProof.Rows L2 Hb Nv
open Enc (enc)
end P
namespace Lw
open PySem Hb Nv L2 P
open Enc (enc)
end Lw
namespace Lw
open PySem Hb Nv L2 P
open Enc (enc)
structure Vd (D W : Nat) (d : PyData) : Prop where
  hs : shw d = true
  hl : d.leavesShort 13 = true
  hd : d.depth ≤ D
  hw : d.weight ≤ W
structure Va (D W : Nat) (xs : List PyData) : Prop where
  s : shwAll xs = true
  l : PyData.leavesShortAll 13 xs = true
  d : PyData.depthAll xs ≤ D
  w : PyData.weightAll xs ≤ W
end Lw
namespace P
open PySem PySem.Spec PyProof.Rows L2 Hb Nv
open Enc (enc)
end P
namespace Lw
open PySem Hb Nv L2 P
open Enc (enc)
end Lw
namespace P
open PySem PySem.Spec PyProof.Rows L2 Hb Nv
open Enc (enc)
end P
namespace P
open PySem PySem.Spec PyProof.Rows L2 Hb Nv
open Enc (enc)
end P
namespace P
open PySem PySem.Spec PyProof.Rows L2 Hb Nv
open Enc (enc)
end P
namespace P
open PySem PySem.Spec PyProof.Rows L2 Hb Nv
open Enc (enc)
end P
namespace Lw
open PySem Hb Nv L2 P
open Enc (enc)
variable {α β γ σ ρ ζ : Type}
def inRng (lo : Int) (hi : Option Int) : PyData → Bool
  | .int i => decide (lo ≤ i) && (match hi with
    | none => true
    | some h => decide (i ≤ h))
  | _ => false
theorem integer_gen (d : PyData) (lo : Int) (hi : Option Int) : n_is_integer d lo hi = some (inRng lo hi d) := by
  by_cases h1 : ∃ i, d = .int i
  · obtain ⟨i, rfl⟩ := h1
    unfold n_is_integer inRng
    simp only [bs, isi_i, isi_ib, asI_i, leI_e, bnot_t, Bool.false_eq_true, if_false]
    by_cases c : lo ≤ i
    · rw [if_pos (decide_eq_true c)]
      simp only [decide_eq_true c, Bool.true_and]
      cases hi with
      | none => rfl
      | some h => rfl
    · rw [if_neg (by rw [decide_eq_true_eq]; exact c)]
      simp only [decide_eq_false c, Bool.false_and, bs]
  · by_cases h2 : ∃ i, d = .bool i
    · obtain ⟨b, rfl⟩ := h2
      unfold n_is_integer
      simp only [bs, isi_b, isi_bb, bnot_t, Bool.false_eq_true, if_false, if_true]
      rfl
    · have n1 : ∀ i, d ≠ .int i := fun i e => h1 ⟨i, e⟩
      have n2 : ∀ i, d ≠ .bool i := fun i e => h2 ⟨i, e⟩
      unfold n_is_integer
      simp only [bs, isi_ni n1 n2, bnot_f, if_true]
      cases d with
      | int i => exact absurd rfl (n1 i)
      | _ => rfl
theorem inRng_i {lo i : Int} {h : Int} (a : lo ≤ i) (b : i ≤ h) : inRng lo (some h) (.int i) = true := by
  unfold inRng
  simp only [decide_eq_true a, decide_eq_true b, Bool.and_self]
theorem forS_fm {b : List γ → α → Option (List γ)} (F : α → List γ) {N : Nat} : ∀ {xs : List α} {s : List γ}, (∀ s, ∀ x ∈ xs, s.length ≤ N → b s x = some (s ++ F x)) → s.length + (xs.flatMap F).length ≤ N → forS xs s b = some (s ++ xs.flatMap F)
  | [], s, _, _ => by rw [List.flatMap_nil, List.append_nil]; rfl
  | x :: r, s, h, hl => by
    rw [List.flatMap_cons, List.length_append] at hl
    show (b s x).bind _ = _
    rw [h s x (by simp) (by omega), List.flatMap_cons, ← List.append_assoc]
    exact forS_fm F (fun s y hy => h s y (by simp [hy])) (by rw [List.length_append]; omega)
theorem fm_len {F : α → List γ} {k : Nat} (h : ∀ x, (F x).length ≤ k) : ∀ xs : List α, (xs.flatMap F).length ≤ xs.length * k
  | [] => by simp
  | x :: r => by
    rw [List.flatMap_cons, List.length_append, List.length_cons, Nat.add_mul, Nat.one_mul]
    have := fm_len h r
    have := h x
    omega
theorem fm_congr {F G : α → List γ} : ∀ {xs : List α}, (∀ x ∈ xs, F x = G x) → xs.flatMap F = xs.flatMap G
  | [], _ => rfl
  | x :: r, h => by
    rw [List.flatMap_cons, List.flatMap_cons, h x (by simp), fm_congr fun y hy => h y (by simp [hy])]
/-- the pairs (lesser first) of which D holds -/
def prsF (D : Int → Int → Bool) (a b : Int) : List (Int × Int) := if decide (a < b) && D a b then [(a, b)] else []
def prs (D : Int → Int → Bool) (n : Nat) : List (Int × Int) := (iot n).flatMap fun a => (iot n).flatMap fun b => prsF D a b
theorem prsF_len (D : Int → Int → Bool) (a b : Int) : (prsF D a b).length ≤ 1 := by
  unfold prsF; split <;> simp
theorem prs_len (D : Int → Int → Bool) (n : Nat) : (prs D n).length ≤ n * n := by
  have := fm_len (F := fun a => (iot n).flatMap fun b => prsF D a b) (k := n) (fun a => by
    have := fm_len (F := fun b => prsF D a b) (k := 1) (fun b => prsF_len D a b) (iot n)
    rw [iot_len] at this; omega) (iot n)
  rwa [iot_len] at this
theorem prs_drop {D : Int → Int → Bool} {n i : Nat} (hi : i < n) : (((iot n).drop (i + 1)).flatMap fun b => if D (i : Int) b = true then [((i : Int), b)] else []) = (iot n).flatMap fun b => prsF D (i : Int) b := by
  conv => rhs; rw [← List.take_append_drop (i + 1) (iot n), List.flatMap_append]
  have h0 : ((iot n).take (i + 1)).flatMap (fun b => prsF D (i : Int) b) = [] := by
    rw [List.flatMap_eq_nil_iff]
    intro b hb
    obtain ⟨k, hk, e⟩ := List.mem_iff_getElem?.mp hb |>.imp fun k h => (⟨(List.getElem?_eq_some_iff.mp h).1, h⟩ : k < ((iot n).take (i + 1)).length ∧ _)
    rw [List.length_take] at hk
    rw [List.getElem?_take_of_lt (by omega)] at e
    have := (iot_getI e).1
    unfold prsF
    rw [if_neg]
    rw [decide_eq_false (by omega)]
    simp
  rw [h0, List.nil_append]
  refine fm_congr fun b hb => ?_
  obtain ⟨k, hk⟩ := List.mem_iff_getElem?.mp hb
  rw [List.getElem?_drop] at hk
  have := (iot_getI hk).1
  unfold prsF
  rw [decide_eq_true (by omega : (i : Int) < b), Bool.true_and]
theorem turned_list {n : Nat} {r s : List Int} (hr : Row n r) (hs : Row n s) (hn : n ≤ 300) : n_pairs_turned r s = some (prs (Dis r s) n) := by
  obtain ⟨rk, e1, h1⟩ := ranks_ok hr (by omega)
  obtain ⟨sk, e2, h2⟩ := ranks_ok hs (by omega)
  have hb : n * n ≤ 300 * 300 := Nat.mul_le_mul hn hn
  unfold n_pairs_turned
  simp only [bs, e1, e2, lenL_e, hr.len, ri1_nat n (by omega : n ≤ 1000000), addI_e, ltI_e, neN_e]
  refine bnd (forS_fm (N := 90000) (fun a => (iot n).flatMap fun b => prsF (Dis r s) a b) (fun z a ha hz => ?_) ?_) ?_
  · have ha := mem_iot.mp ha
    obtain ⟨i, rfl⟩ : ∃ i : Nat, a = (i : Int) := ⟨a.toNat, by omega⟩
    have hi : i < n := by omega
    have e3 : ri2 ((i : Int) + 1) (n : Int) = some ((iot n).drop (i + 1)) := ri2_nat (i + 1) n (by omega) (by omega)
    rw [e3, bs, ← prs_drop hi]
    refine bnd (forS_fm (N := 100000) (fun b => if Dis r s (i : Int) b = true then [((i : Int), b)] else []) (fun y x hx hy => ?_) ?_) rfl
    · have hx := List.mem_of_mem_drop hx
      rw [mem_iot] at hx
      rw [h1 (i : Int) ha.1 ha.2, h1 x hx.1 hx.2, h2 (i : Int) ha.1 ha.2, h2 x hx.1 hx.2]
      simp only [bs]
      by_cases c : Dis r s (i : Int) x = true
      · have c' : (!decide (decide (pos r (i : Int) < pos r x) = decide (pos s (i : Int) < pos s x))) = true := by
          unfold Dis at c
          simpa using c
        rw [if_pos c', if_pos c, apL_ok _ hy]
        rfl
      · have c' : ¬ (!decide (decide (pos r (i : Int) < pos r x) = decide (pos s (i : Int) < pos s x))) = true := by
          unfold Dis at c
          simpa using c
        rw [if_neg c', if_neg c, List.append_nil]
    · have := fm_len (F := fun b => if Dis r s (i : Int) b = true then [((i : Int), b)] else []) (k := 1) (fun b => by split <;> simp) ((iot n).drop (i + 1))
      rw [List.length_drop, iot_len] at this
      omega
  · have := prs_len (Dis r s) n
    unfold prs at this
    simp only [List.length_nil, Nat.zero_add]
    omega
  · rw [List.nil_append]; rfl
end Lw
namespace P
open PySem PySem.Spec PyProof.Rows L2 Hb Nv
open Enc (enc)
end P
namespace P
open PySem PySem.Spec PyProof.Rows L2 Hb Nv
open Enc (enc)
end P
namespace P
open PySem PySem.Spec PyProof.Rows L2 Hb Nv
open Enc (enc)
end P
namespace P
open PySem PySem.Spec PyProof.Rows L2 Hb Nv
open Enc (enc)
end P
namespace P
open PySem PySem.Spec PyProof.Rows L2 Hb Nv
open Enc (enc)
end P
namespace Lw
open PySem Hb Nv L2 P
end Lw
namespace P
open PySem PySem.Spec PyProof.Rows L2 Hb Nv
open Enc (enc)
end P
namespace P
open PySem PySem.Spec PyProof.Rows L2 Hb Nv
open Enc (enc)
end P
namespace P
open PySem PySem.Spec PyProof.Rows L2 Hb Nv
open Enc (enc)
end P
namespace P
open PySem PySem.Spec PyProof.Rows L2 Hb Nv
open Enc (enc)
end P
namespace P
open PySem PySem.Spec PyProof.Rows L2 Hb Nv
open Enc (enc)
end P
namespace Lw
open PySem Hb Nv L2 P
open Enc (enc)
variable {α β γ σ ρ ζ : Type}
end Lw
namespace P
open PySem PySem.Spec PyProof.Rows L2 Hb Nv
open Enc (enc)
end P
namespace P
open PySem PySem.Spec PyProof.Rows L2 Hb Nv
open Enc (enc)
end P
namespace P
open PySem PySem.Spec PyProof.Rows L2 Hb Nv
open Enc (enc)
end P
namespace Lw
open PySem Hb Nv L2 P
end Lw
namespace P
open PySem PySem.Spec PyProof.Rows L2 Hb Nv
open Enc (enc)
end P
namespace Lw
open PySem Hb Nv L2 P
open Enc (enc)
end Lw
namespace P
open PySem PySem.Spec PyProof.Rows L2 Hb Nv
open Enc (enc)
end P
namespace P
open PySem PySem.Spec PyProof.Rows L2 Hb Nv
open Enc (enc)
end P
namespace P
open PySem PySem.Spec PyProof.Rows L2 Hb Nv
open Enc (enc)
end P
namespace P
open PySem PySem.Spec PyProof.Rows L2 Hb Nv
open Enc (enc)
end P
namespace Lw
open PySem Hb Nv L2 P
open Enc (enc)
structure Vb (D W : Nat) (d : PyData) : Prop where
  hs : shw d = true
  hl : d.leavesShort 40 = true
  hd : d.depth ≤ D
  hw : d.bulk ≤ W
theorem Vb.mono {D W D' W' : Nat} {d : PyData} (h : Vb D W d) (h1 : D ≤ D') (h2 : W ≤ W') : Vb D' W' d := ⟨h.hs, h.hl, Nat.le_trans h.hd h1, Nat.le_trans h.hw h2⟩
theorem vb_int {i : Int} (h0 : 0 ≤ i) (h1 : i < 10 ^ 40) : Vb 0 0 (.int i) := by
  refine ⟨?_, ?_, by simp [PyData.depth], by simp [PyData.bulk]⟩
  · show decide _ = true
    refine decide_eq_true ?_
    by_cases c : i.natAbs = 0
    · rw [c]; decide
    · rw [Nat.log2_lt c]
      have : (10 : Nat) ^ 40 < 2 ^ 1920 := by decide
      omega
  · show decide _ = true
    exact decide_eq_true (PyProof.Rows.toString_length_le h0 (by omega) h1)
theorem vb_all {D W : Nat} : ∀ {xs : List PyData}, (∀ x ∈ xs, Vb D W x) → shwAll xs = true ∧ PyData.leavesShortAll 40 xs = true ∧ PyData.depthAll xs ≤ D ∧ PyData.bulkAll xs ≤ xs.length * (W + 1)
  | [], _ => ⟨by simp [shwAll], by simp [PyData.leavesShortAll], by simp [PyData.depthAll], by simp [PyData.bulkAll]⟩
  | x :: r, h => by
    obtain ⟨a, b, c, d⟩ := vb_all (xs := r) fun y hy => h y (List.mem_cons_of_mem _ hy)
    have hx := h x List.mem_cons_self
    have x3 := hx.hd
    have x4 := hx.hw
    refine ⟨by simp [shwAll, hx.hs, a], by simp [PyData.leavesShortAll, hx.hl, b], by simp only [PyData.depthAll]; omega, ?_⟩
    simp only [PyData.bulkAll]
    rw [List.length_cons, Nat.add_mul, Nat.one_mul]
    omega
theorem vb_list {D W L : Nat} {xs : List PyData} (h : ∀ x ∈ xs, Vb D W x) (hl : xs.length ≤ L) : Vb (D + 1) (L * (W + 1)) (.list xs) := by
  obtain ⟨h1, h2, h3, h4⟩ := vb_all h
  exact ⟨by simpa [shw] using h1, by simpa [PyData.leavesShort] using h2, by simp only [PyData.depth]; omega, by simpa only [PyData.bulk] using Nat.le_trans h4 (Nat.mul_le_mul_right _ hl)⟩
theorem vb_ints {w : List Int} {L : Nat} (h : ∀ x ∈ w, 0 ≤ x ∧ x < 10 ^ 40) (hl : w.length ≤ L) : Vb 1 (L * 1) (enc w) := vb_list (D := 0) (W := 0) (fun x hx => by
  obtain ⟨y, hy, rfl⟩ := List.mem_map.mp hx
  exact vb_int (h y hy).1 (h y hy).2) (by rw [List.length_map]; exact hl)
theorem vb_row {n : Nat} {r : List Int} (h : Row n r) (hn : n ≤ 12) : Vb 1 12 (enc r) := (vb_ints (L := 12) (fun x hx => by
  have := h.mem.mp hx
  have e : (12 : Int) < 10 ^ 40 := by decide
  omega) (by rw [h.len]; exact hn)).mono (by omega) (by omega)
theorem vb_rows {n : Nat} {f : List (List Int)} (h : ∀ z ∈ f, Row n z) (hn : n ≤ 12) (hl : f.length ≤ 40) : Vb 2 520 (enc f) := (vb_list (D := 1) (W := 12) (L := 40) (fun x hx => by
  obtain ⟨y, hy, rfl⟩ := List.mem_map.mp hx
  exact vb_row (h y hy) hn) (by rw [List.length_map]; exact hl)).mono (by omega) (by omega)
end Lw
namespace Lw.Er
open PySem Hb Nv L2 P Lw
open Enc (enc)
variable {α : Type}
theorem or_none {a : Option α} : Option.or none a = a := rfl
theorem or_some {v : α} {a : Option α} : Option.or (some v) a = some v := rfl
abbrev cntB (hi : Int) (v : PyData) : Bool := inRng 1 (some hi) v
theorem count_n {v : PyData} {hi : Int} (h : cntB hi v = true) : n_need_count v hi = some () ∧ x_need_count v hi = none := by
  unfold n_need_count x_need_count
  simp only [bs, integer_gen, h, bnot_t, Bool.false_eq_true, if_false, and_self]
theorem count_x {v : PyData} {hi : Int} (h : cntB hi v = false) : n_need_count v hi = none ∧ x_need_count v hi = some ("InvalidCount" : Str) := by
  unfold n_need_count x_need_count
  simp only [bs, integer_gen, h, bnot_f, if_true, and_self]
theorem place_n {n : Int} {v : PyData} (h : inRng 0 (some (n - 1)) v = true) : n_need_place n v = some () ∧ x_need_place n v = none := by
  unfold n_need_place x_need_place
  simp only [bs, subI_e, integer_gen, h, bnot_t, Bool.false_eq_true, if_false, and_self]
theorem place_x {n : Int} {v : PyData} (h : inRng 0 (some (n - 1)) v = false) : n_need_place n v = none ∧ x_need_place n v = some ("InvalidPlace" : Str) := by
  unfold n_need_place x_need_place
  simp only [bs, subI_e, integer_gen, h, bnot_f, if_true, and_self]
theorem ballot_n {n : Nat} {v : PyData} (hn : n ≤ 1000) (hs : Sml v) (h : rowB n v = true) : n_need_ballot (n : Int) v = some () ∧ x_need_ballot (n : Int) v = none := by
  unfold n_need_ballot x_need_ballot
  simp only [bs, each_ok hn hs, h, bnot_t, Bool.false_eq_true, if_false, and_self]
theorem ballot_x {n : Nat} {v : PyData} (hn : n ≤ 1000) (hs : Sml v) (h : rowB n v = false) : n_need_ballot (n : Int) v = none ∧ x_need_ballot (n : Int) v = some ("InvalidBallot" : Str) := by
  unfold n_need_ballot x_need_ballot
  simp only [bs, each_ok hn hs, h, bnot_f, if_true, and_self]
def rowsB (n : Nat) : PyData → Bool
  | .list ds => decide (ds.length ≤ 40) && ds.all (rowB n)
  | _ => false
def SmlL (v : PyData) : Prop := ∀ ds, v = .list ds → ds.length ≤ 100000 ∧ ∀ d ∈ ds, Sml d
theorem eachs_gen {n : Nat} {v : PyData} (hn : n ≤ 1000) (hs : SmlL v) : n_are_each_once (n : Int) v = some (rowsB n v) := by
  by_cases hl : ∃ ds, v = .list ds
  · obtain ⟨ds, rfl⟩ := hl
    obtain ⟨h1, h2⟩ := hs ds rfl
    unfold n_are_each_once
    simp only [bs, isi_l, if_true, lenA_l, seqA_l, leI_e]
    show _ = some (decide (ds.length ≤ 40) && ds.all (rowB n))
    by_cases c : ds.length ≤ 40
    · rw [if_pos (decide_eq_true (by omega : (ds.length : Int) ≤ 40)), decide_eq_true c, Bool.true_and]
      rw [mapT_cap (rowB n) h1 fun x hx => each_ok hn (h2 x hx)]
      simp only [bs, allB_e]
      rw [List.all_map]
      rfl
    · rw [if_neg (by rw [decide_eq_true_eq]; omega), decide_eq_false c, Bool.false_and]
      simp only [bs]
  · have hn : ∀ ds, v ≠ .list ds := fun ds e => hl ⟨ds, e⟩
    unfold n_are_each_once
    simp only [bs, isi_nl hn, Bool.false_eq_true, if_false]
    cases v with
    | list ds => exact absurd rfl (hn ds)
    | _ => rfl
theorem ballots_n {n : Nat} {v : PyData} (hn : n ≤ 1000) (hs : SmlL v) (h : rowsB n v = true) : n_need_ballots (n : Int) v = some () ∧ x_need_ballots (n : Int) v = none := by
  unfold n_need_ballots x_need_ballots
  simp only [bs, eachs_gen hn hs, h, bnot_t, Bool.false_eq_true, if_false, and_self]
theorem ballots_x {n : Nat} {v : PyData} (hn : n ≤ 1000) (hs : SmlL v) (h : rowsB n v = false) : n_need_ballots (n : Int) v = none ∧ x_need_ballots (n : Int) v = some ("InvalidBallots" : Str) := by
  unfold n_need_ballots x_need_ballots
  simp only [bs, eachs_gen hn hs, h, bnot_f, if_true, and_self]
def lineB : PyData → Bool
  | .list ds => decide (1 ≤ ds.length) && (decide (ds.length ≤ 12) && rowB ds.length (.list ds))
  | _ => false
theorem line_nx {v : PyData} (hs : Sml v) : n_need_line v none = (if lineB v = true then some () else none) ∧ x_need_line v none = if lineB v = true then none else some ("InvalidLine" : Str) := by
  by_cases hl : ∃ ds, v = .list ds
  · obtain ⟨ds, rfl⟩ := hl
    have e : (enc (some ((ds.length : Nat) : Int)) : PyData) = .int (ds.length : Nat) := rfl
    have e2 : inRng 1 (some 12) (.int ((ds.length : Nat) : Int)) = (decide (1 ≤ ds.length) && decide (ds.length ≤ 12)) := by
      unfold inRng
      have q1 : decide ((1 : Int) ≤ ((ds.length : Nat) : Int)) = decide (1 ≤ ds.length) := decide_eq_decide.mpr (by omega)
      have q2 : decide (((ds.length : Nat) : Int) ≤ 12) = decide (ds.length ≤ 12) := decide_eq_decide.mpr (by omega)
      simp only [q1, q2]
    unfold n_need_line x_need_line
    simp only [bs, Bool.false_eq_true, if_false, Option.isNone_none, if_true, isi_l, lenA_l, integer_gen, e, e2]
    show _ ∧ _
    unfold lineB
    by_cases c1 : 1 ≤ ds.length
    · by_cases c2 : ds.length ≤ 12
      · simp only [decide_eq_true c1, decide_eq_true c2, Bool.and_self, bnot_t, Bool.false_eq_true, if_false, Bool.true_and, bs, each_ok (by omega : ds.length ≤ 1000) hs]
        cases rowB ds.length (.list ds) <;> exact ⟨rfl, rfl⟩
      · simp only [decide_eq_true c1, decide_eq_false c2, Bool.and_false, Bool.false_and, bnot_f, if_true, bs, Bool.false_eq_true, if_false, and_self]
    · simp only [decide_eq_false c1, Bool.false_and, bnot_f, if_true, bs, Bool.false_eq_true, if_false, and_self]
  · have hn : ∀ ds, v ≠ .list ds := fun ds e => hl ⟨ds, e⟩
    have e : (enc (none : Option Int) : PyData) = .none := rfl
    have e3 : lineB v = false := by
      cases v with
      | list ds => exact absurd rfl (hn ds)
      | _ => rfl
    unfold n_need_line x_need_line
    simp only [bs, Bool.false_eq_true, if_false, Option.isNone_none, if_true, isi_nl hn, integer_gen, e, e3]
    exact ⟨rfl, rfl⟩
theorem line_n {v : PyData} (hs : Sml v) (h : lineB v = true) : n_need_line v none = some () ∧ x_need_line v none = none := by
  have := line_nx hs
  rw [h] at this
  exact this
theorem line_x {v : PyData} (hs : Sml v) (h : lineB v = false) : n_need_line v none = none ∧ x_need_line v none = some ("InvalidLine" : Str) := by
  have := line_nx hs
  rw [h] at this
  exact this
theorem lineB_row {n : Nat} {p : List Int} (h : Row n p) (h1 : 1 ≤ n) (hn : n ≤ 12) : lineB (enc p) = true := by
  have e : (p.map PyData.int).length = n := by rw [List.length_map, h.len]
  show (decide (1 ≤ (p.map PyData.int).length) && (decide ((p.map PyData.int).length ≤ 12) && rowB (p.map PyData.int).length (enc p))) = true
  rw [e, rowB_row h, decide_eq_true h1, decide_eq_true hn]
  rfl
theorem rowsB_rows {n : Nat} {f : List (List Int)} (hf : ∀ z ∈ f, Row n z) (hl : f.length ≤ 40) : rowsB n (enc f) = true := by
  show (decide ((f.map enc).length ≤ 40) && (f.map enc).all (rowB n)) = true
  rw [List.length_map, decide_eq_true hl, Bool.true_and, List.all_eq_true]
  intro x hx
  obtain ⟨z, hz, rfl⟩ := List.mem_map.mp hx
  exact rowB_row (hf z hz)
theorem smlL_rows {n : Nat} {f : List (List Int)} (hf : ∀ z ∈ f, Row n z) (hn : n ≤ 1000) (hl : f.length ≤ 40) : SmlL (enc f) := fun ds e => by
  have e : f.map enc = ds := PyData.list.inj e
  subst e
  refine ⟨by rw [List.length_map]; omega, fun d hd => ?_⟩
  obtain ⟨z, hz, rfl⟩ := List.mem_map.mp hd
  exact sml_row (hf z hz) hn
theorem cntB_n {n : Nat} (h1 : 1 ≤ n) {hi : Int} (hn : (n : Int) ≤ hi) : cntB hi (enc (n : Int)) = true := inRng_i (by omega) hn
def rowC (n : Nat) : PyData → Bool
  | .list ds => match intsOf ds with
    | some ns => decide (ns.length = n) && (List.range n).all fun k => ns.contains (k : Int)
    | none => false
  | _ => false
theorem rowC_of {n : Nat} {v : PyData} (h : rowB n v = true) : rowC n v = true := by
  obtain ⟨ns, rfl, hr⟩ := rowB_iff.mp h
  show (match intsOf (ns.map PyData.int) with
    | some ns => decide (ns.length = n) && (List.range n).all fun k => ns.contains (k : Int)
    | none => false) = true
  rw [ints_of]
  show (decide (ns.length = n) && (List.range n).all fun k => ns.contains (k : Int)) = true
  rw [decide_eq_true hr.len, Bool.true_and, List.all_eq_true]
  intro k hk
  rw [List.contains_iff_mem]
  refine hr.mem.mpr ?_
  have := List.mem_range.mp hk
  omega
theorem rowB_f {n : Nat} {v : PyData} (h : rowC n v = false) : rowB n v = false := by
  cases q : rowB n v with
  | false => rfl
  | true => rw [rowC_of q] at h; cases h
def rowsC (n : Nat) : PyData → Bool
  | .list ds => decide (ds.length ≤ 40) && ds.all (rowC n)
  | _ => false
theorem rowsB_f {n : Nat} {v : PyData} (h : rowsC n v = false) : rowsB n v = false := by
  cases v with
  | list ds =>
    have h : (decide (ds.length ≤ 40) && ds.all (rowC n)) = false := h
    show (decide (ds.length ≤ 40) && ds.all (rowB n)) = false
    cases q : decide (ds.length ≤ 40) with
    | false => rfl
    | true =>
      rw [q, Bool.true_and] at h
      rw [Bool.true_and]
      rw [List.all_eq_false] at h ⊢
      obtain ⟨x, hx, h⟩ := h
      refine ⟨x, hx, fun z => h (rowC_of z)⟩
  | _ => rfl
def lineC : PyData → Bool
  | .list ds => decide (1 ≤ ds.length) && (decide (ds.length ≤ 12) && rowC ds.length (.list ds))
  | _ => false
theorem lineB_f {v : PyData} (h : lineC v = false) : lineB v = false := by
  cases v with
  | list ds =>
    have h : (decide (1 ≤ ds.length) && (decide (ds.length ≤ 12) && rowC ds.length (.list ds))) = false := h
    show (decide (1 ≤ ds.length) && (decide (ds.length ≤ 12) && rowB ds.length (.list ds))) = false
    cases q : decide (1 ≤ ds.length) with
    | false => rfl
    | true =>
      cases q2 : decide (ds.length ≤ 12) with
      | false => rfl
      | true =>
        rw [q, q2, Bool.true_and, Bool.true_and] at h
        rw [Bool.true_and, Bool.true_and]
        exact rowB_f h
  | _ => rfl
/-- small enough to be walked and shown -/
def tameB (v : PyData) : Bool := shw v && (v.leavesShort 50 && (decide (v.depth ≤ 5) && decide (v.bulk ≤ 2000)))
def smlB : PyData → Bool
  | .list ds => decide (ds.length ≤ 1000)
  | _ => true
theorem smlB_ok {v : PyData} (h : smlB v = true) : Sml v := fun ds e => by
  subst e
  have := of_decide_eq_true h
  omega
def smlLB : PyData → Bool
  | .list ds => decide (ds.length ≤ 1000) && ds.all smlB
  | _ => true
theorem smlLB_ok {v : PyData} (h : smlLB v = true) : SmlL v := fun ds e => by
  subst e
  have h : (decide (ds.length ≤ 1000) && ds.all smlB) = true := h
  rw [Bool.and_eq_true] at h
  have := of_decide_eq_true h.1
  exact ⟨by omega, fun d hd => smlB_ok (List.all_eq_true.mp h.2 d hd)⟩
structure Tame (v : PyData) : Prop where
  hs : shw v = true
  hl : v.leavesShort 50 = true
  hd : v.depth ≤ 5
  hw : v.bulk ≤ 2000
theorem tameB_ok {v : PyData} (h : tameB v = true) : Tame v := by
  unfold tameB at h
  simp only [Bool.and_eq_true, decide_eq_true_eq] at h
  exact ⟨h.1, h.2.1, h.2.2.1, h.2.2.2⟩
theorem tame_all : ∀ {xs : List PyData}, (∀ x ∈ xs, Tame x) → shwAll xs = true ∧ PyData.leavesShortAll 50 xs = true ∧ PyData.depthAll xs ≤ 5 ∧ PyData.bulkAll xs ≤ xs.length * 2001
  | [], _ => ⟨by simp [shwAll], by simp [PyData.leavesShortAll], by simp [PyData.depthAll], by simp [PyData.bulkAll]⟩
  | x :: r, h => by
    obtain ⟨a, b, c, d⟩ := tame_all (xs := r) fun y hy => h y (List.mem_cons_of_mem _ hy)
    have hx := h x List.mem_cons_self
    have x3 := hx.hd
    have x4 := hx.hw
    refine ⟨by simp [shwAll, hx.hs, a], by simp [PyData.leavesShortAll, hx.hl, b], by simp only [PyData.depthAll]; omega, ?_⟩
    simp only [PyData.bulkAll]
    rw [List.length_cons, Nat.add_mul, Nat.one_mul]
    omega
theorem tame_repr {xs : List PyData} (h : ∀ x ∈ xs, Tame x) (hl : xs.length ≤ 10) : ∃ s, reprN (enc xs) = some s := by
  obtain ⟨h1, h2, h3, h4⟩ := tame_all h
  have e : (enc xs : PyData) = .list xs := by
    show PyData.list (xs.map id) = _
    rw [List.map_id]
  have h2' : (PyData.list xs).leavesShort 50 = true := by simpa [PyData.leavesShort] using h2
  have h5 := PyData.shown_le_bulk 50 (by omega) (.list xs) h2'
  have h6 : (PyData.list xs).bulk ≤ xs.length * 2001 := by simpa only [PyData.bulk] using h4
  have h7 : (PyData.list xs).shown.length ≤ sizeLine := by
    have : sizeLine = 2 ^ 24 := rfl
    omega
  refine ⟨(PyData.list xs).shown, ?_⟩
  rw [e]
  unfold reprN
  rw [if_pos ⟨⟨by simpa [shw] using h1, by simp only [PyData.depth]; omega⟩, h7⟩]
end Lw.Er
namespace Lw.Er
open PySem Hb Nv L2 P Lw
open Enc (enc)
def allB (o : Option (List PyData)) (c : PyData → Bool) : Bool := match o with
  | some l => l.all c
  | none => false
theorem allB_ok {o : Option (List PyData)} {c : PyData → Bool} (h : allB o c = true) : ∃ l, o = some l ∧ ∀ v ∈ l, c v = true := by
  cases o with
  | none => cases h
  | some l => exact ⟨l, rfl, fun v hv => List.all_eq_true.mp h v hv⟩
theorem chk_counts : allB (n__law_bad_counts 12) (fun v => !cntB 12 v && tameB v) = true := by decide +kernel
theorem chk_lines : allB n__law_bad_lines (fun v => !lineC v && (smlB v && tameB v)) = true := by decide +kernel
theorem chk_ballots : ((List.range 12).all fun k => allB (n__law_bad_ballots ((k + 1 : Nat) : Int)) fun v => !rowC (k + 1) v && (smlB v && tameB v)) = true := by decide +kernel
theorem chk_places : ((List.range 12).all fun k => allB (n__law_bad_places ((k + 1 : Nat) : Int)) fun v => !inRng 0 (some (((k + 1 : Nat) : Int) - 1)) v && tameB v) = true := by decide +kernel
theorem chk_lists : ((List.range 12).all fun k => allB (n__law_bad_lists ((k + 1 : Nat) : Int)) fun v => !rowsC (k + 1) v && (smlLB v && tameB v)) = true := by decide +kernel
end Lw.Er
namespace Lw
namespace K03
open PySem Hb Nv L2 P Lw Lw.Er
open Enc (enc)
variable {which : Int} {args : List PyData}
theorem forI {α σ ρ : Type} (b : σ → α → Option (Fl ρ σ)) (P : Nat → σ → Prop) : ∀ (xs : List α) (k : Nat) (s : σ), P k s → (∀ (i : Nat) (x : α) (s : σ), xs[i]? = some x → P (k + i) s → ∃ s', b s x = some (.nx s') ∧ P (k + i + 1) s') → ∃ s', forF xs s b = some (.nx s') ∧ P (k + xs.length) s'
  | [], k, s, h, _ => ⟨s, rfl, h⟩
  | x :: r, k, s, h, hb => by
    obtain ⟨s1, e1, h1⟩ := hb 0 x s rfl h
    obtain ⟨s2, e2, h2⟩ := forI b P r (k + 1) s1 h1 (fun i y s hy hp => by
      have e : k + 1 + i = k + (i + 1) := by omega
      rw [e] at hp ⊢
      exact hb (i + 1) y s (by simpa using hy) hp)
    refine ⟨s2, ?_, ?_⟩
    · show (b s x).bind _ = _
      rw [e1]; exact e2
    · rw [List.length_cons, show k + (r.length + 1) = k + 1 + r.length by omega]; exact h2
theorem bindI {α σ ρ ζ : Type} {b : σ → α → Option (Fl ρ σ)} (P : Nat → σ → Prop) {xs : List α} {s : σ} {f : Fl ρ σ → Option ζ} {z : ζ} (h0 : P 0 s) (step : ∀ (i : Nat) (x : α) (s : σ), xs[i]? = some x → P i s → ∃ s', b s x = some (.nx s') ∧ P (i + 1) s') (fin : ∀ l, P xs.length l → f (.nx l) = some z) : (forF xs s b).bind f = some z := by
  obtain ⟨l, e, hl⟩ := forI b P xs 0 s h0 fun i x s h hp => by
    rw [Nat.zero_add] at hp ⊢
    exact step i x s h hp
  rw [Nat.zero_add] at hl
  exact bnd e (fin l hl)
theorem bindJ {α σ ρ ζ : Type} {b : σ → α → Option (Fl ρ σ)} (P : Nat → σ → Prop) {xs : List α} {s : σ} {f : Fl ρ σ → Option ζ} {G : ζ → Prop} (h0 : P 0 s) (step : ∀ (i : Nat) (x : α) (s : σ), xs[i]? = some x → P i s → ∃ s', b s x = some (.nx s') ∧ P (i + 1) s') (fin : ∀ l, P xs.length l → ∃ z, f (.nx l) = some z ∧ G z) : ∃ z, (forF xs s b).bind f = some z ∧ G z := by
  obtain ⟨l, e, hl⟩ := forI b P xs 0 s h0 fun i x s h hp => by
    rw [Nat.zero_add] at hp ⊢
    exact step i x s h hp
  rw [Nat.zero_add] at hl
  obtain ⟨z, e2, hz⟩ := fin l hl
  exact ⟨z, bnd e e2, hz⟩
theorem raised_w {ws : List Str} (hr : ∃ s, reprN (enc args) = some s)
    (h : Option.or ((n__law_call which args).bind fun _ => some []) ((x__law_call which args).bind fun C => twE ⟨C, none⟩) = some ws) : n__law_raised which args = some (ws, args) := by
  obtain ⟨s, hs⟩ := hr
  unfold n__law_raised
  simp only [bs, hs, h, eqS_e, beq_self_eq_true, if_true]
theorem raised_ok (hr : ∃ s, reprN (enc args) = some s) (h : ∃ v, n__law_call which args = some v) : n__law_raised which args = some ([], args) := by
  obtain ⟨v, h⟩ := h
  exact raised_w hr (by rw [h]; rfl)
/-- the call is refused by an error of which the word w is told -/
def Ref (which : Int) (args : List PyData) (w : Str) : Prop := ∃ C, n__law_call which args = none ∧ x__law_call which args = some C ∧ errW.lookup C = some w
theorem raised_x {w : Str} (hr : ∃ s, reprN (enc args) = some s) (h : Ref which args w) : n__law_raised which args = some ([w], args) := by
  obtain ⟨C, h1, h2, h3⟩ := h
  refine raised_w hr ?_
  rw [h1, h2]
  show twE ⟨C, none⟩ = some [w]
  unfold twE
  show Option.map (fun w => [w]) (List.lookup C errW) = some [w]
  rw [h3]
  rfl
theorem rgDn_get {n i : Nat} {x : Int} {lo : Int} (h : (rgDn lo n)[i]? = some x) : i < n ∧ x = lo - i := by
  unfold rgDn at h
  rw [List.getElem?_map] at h
  cases q : (List.range n)[i]? with
  | none => rw [q] at h; cases h
  | some j =>
    rw [q] at h
    obtain ⟨hi, e⟩ := List.getElem?_eq_some_iff.mp q
    rw [List.getElem_range] at e
    rw [List.length_range] at hi
    have h : lo + (j : Int) * (-1) = x := Option.some.inj h
    subst e
    exact ⟨hi, by omega⟩
/-- later, when the places from p on were gone through -/
structure Lat (args : List PyData) (p : Nat) (l : List PyData) : Prop where
  len : l.length = args.length
  top : l.take p = args.take p
  tm : ∀ x ∈ l, Tame x
theorem Lat.weak {p : Nat} {l : List PyData} (h : Lat args (p + 1) l) : Lat args p l := by
  refine ⟨h.len, ?_, h.tm⟩
  have := congrArg (List.take p) h.top
  rw [List.take_take, List.take_take, Nat.min_eq_left (by omega)] at this
  exact this
theorem Lat.set {p : Nat} {l : List PyData} (h : Lat args p l) {v : PyData} (hv : Tame v) (hp : p < args.length) : Lat args p (l.set p v) ∧ l.set p v = args.take p ++ v :: l.drop (p + 1) := by
  have hl := h.len
  refine ⟨⟨by rw [List.length_set]; exact hl, ?_, fun x hx => ?_⟩, ?_⟩
  · rw [List.take_set_of_le (Nat.le_refl p)]
    exact h.top
  · rcases List.mem_or_eq_of_mem_set hx with h1 | h1
    · exact h.tm x h1
    · rw [h1]; exact hv
  · rw [List.set_eq_take_append_cons_drop, if_pos (by omega), h.top]
theorem neLS_same {w : Str} {ws : List Str} (h : eqD (enc [w]) (enc [w]) = some true) (e : ws = [w]) : neLS ws [w] = some false := by
  subst e
  unfold neLS
  rw [h]
  rfl
theorem faults_ok {bad : List (List PyData × Str)} (hl : bad.length ≤ args.length) (h10 : args.length ≤ 10) (hA : ∀ a ∈ args, Tame a) (hT : ∀ b ∈ bad, ∀ v ∈ b.1, Tame v)
    (hw : ∀ b ∈ bad, eqD (enc [b.2]) (enc [b.2]) = some true) (hg : ∃ v, n__law_call which args = some v)
    (hb : ∀ p b, bad[p]? = some b → ∀ v ∈ b.1, ∀ t : List PyData, t.length = args.length - p - 1 → Ref which (args.take p ++ v :: t) b.2) :
    n__law_faults which args bad = some (true, args) := by
  have r0 : riD ((bad.length : Int) - 1) (-1) = some (rgDn ((bad.length : Int) - 1) bad.length) := by
    unfold riD
    rw [if_pos (by omega)]
    congr 2
    omega
  have rp : ∀ l : List PyData, l.length = args.length → (∀ x ∈ l, Tame x) → ∃ s, reprN (enc l) = some s := fun l h1 h2 => tame_repr h2 (by omega)
  unfold n__law_faults
  simp only [bs, listL_e, lenL_e, subI_e, negI_e, r0]
  refine bindI (fun k (l : List PyData) => Lat args (bad.length - k) l) ⟨rfl, rfl, hA⟩ ?step fun l hl => ?fin
  case fin =>
    show Option.bind _ _ = _
    simp only [raised_ok (rp args rfl hA) hg, bs]
    rfl
  case step =>
    intro i x l hx hP
    obtain ⟨hi, rfl⟩ := rgDn_get hx
    obtain ⟨p, hp⟩ : ∃ p : Nat, p = bad.length - 1 - i := ⟨_, rfl⟩
    have ex : (bad.length : Int) - 1 - (i : Int) = (p : Int) := by omega
    have hpl : p < bad.length := by omega
    rw [ex]
    have e1 : bad.length - i = p + 1 := by omega
    rw [e1] at hP
    have e2 : bad.length - (i + 1) = p := by omega
    rw [e2]
    have hbp : bad[p]? = some bad[p] := List.getElem?_eq_getElem hpl
    have hbm : bad[p] ∈ bad := List.getElem_mem hpl
    have ea : atL bad (p : Int) = some bad[p] := atL_nat hbp
    have hne : neLS [bad[p].2] [bad[p].2] = some false := neLS_same (hw _ hbm) rfl
    have cut2 : cutL args (some ((p : Int) + 1)) none = args.drop (p + 1) := cut_from args (p + 1)
    simp only [bs, ea, addI_e, cut_to, cut2]
    have fin2 : ∀ m : List PyData, Lat args p m → ∃ z : Fl (Bool × List PyData) (List PyData), Fl.el (ζ := Fl (Bool × List PyData) (List PyData)) (.nx m : Fl (Bool × List PyData) (List PyData)) (fun s18 => some (.nx s18)) (fun r71 => some (Fl.rt r71)) = some z ∧ ∃ m', z = .nx m' ∧ Lat args p m' := fun m hm => ⟨_, rfl, m, rfl, hm⟩
    suffices h : ∃ z : Fl (Bool × List PyData) (List PyData), _ = some z ∧ ∃ m', z = .nx m' ∧ Lat args p m' by
      obtain ⟨z, e, m', rfl, h⟩ := h
      exact ⟨m', e, h⟩
    refine bindJ (fun _ (l : List PyData) => Lat args p l) hP.weak ?inner fun m hm => fin2 m hm
    case inner =>
      intro j v m hv hm
      have hvm : v ∈ bad[p].1 := List.mem_of_getElem? hv
      have tv := hT _ hbm v hvm
      obtain ⟨hs1, hs2⟩ := hm.set tv (by omega)
      have hml := hm.len
      have c1 : catL (List.take p args) [v] = some (List.take p args ++ [v]) := catL_ok (by rw [List.length_take]; omega) (by simp)
      have c2 : catL (List.take p args ++ [v]) (List.drop (p + 1) args) = some (List.take p args ++ v :: List.drop (p + 1) args) := by
        rw [catL_ok (by rw [List.length_append, List.length_take, List.length_singleton]; omega) (by rw [List.length_drop]; omega), List.append_assoc]
        rfl
      have r1 : n__law_raised which (List.take p args ++ v :: List.drop (p + 1) args) = some ([bad[p].2], List.take p args ++ v :: List.drop (p + 1) args) := by
        refine raised_x (rp _ ?_ fun x hx => ?_) (hb p _ hbp v hvm _ (by rw [List.length_drop]; omega))
        · rw [List.length_append, List.length_take, List.length_cons, List.length_drop]
          omega
        · rcases List.mem_append.mp hx with z | z
          · exact hA x (List.mem_of_mem_take z)
          · rcases List.mem_cons.mp z with rfl | z
            · exact tv
            · exact hA x (List.mem_of_mem_drop z)
      have r2 : n__law_raised which (m.set p v) = some ([bad[p].2], m.set p v) := by
        refine raised_x (rp _ hs1.len hs1.tm) ?_
        rw [hs2]
        exact hb p _ hbp v hvm _ (by rw [List.length_drop]; omega)
      have st : stI m (p : Int) v = some (m.set p v) := stI_nat v (by omega)
      refine ⟨m.set p v, ?_, hs1⟩
      simp only [c1, c2, bs, r1, hne, Bool.false_eq_true, if_false, st, r2]
end K03
end Lw
namespace P
open PySem PySem.Spec PyProof.Rows L2 Hb Nv
open Enc (enc)
end P
namespace P
open PySem PySem.Spec PyProof.Rows L2 Hb Nv
open Enc (enc)
end P
namespace P
open PySem PySem.Spec PyProof.Rows L2 Hb Nv
open Enc (enc)
end P
namespace P
open PySem PySem.Spec PyProof.Rows L2 Hb Nv
open Enc (enc)
end P
namespace P
open PySem PySem.Spec PyProof.Rows L2 Hb Nv
open Enc (enc)
end P
namespace P
open PySem PySem.Spec PyProof.Rows L2 Hb Nv
open Enc (enc)
end P
namespace P
open PySem PySem.Spec PyProof.Rows L2 Hb Nv
open Enc (enc)
end P
namespace P
open PySem PySem.Spec PyProof.Rows L2 Hb Nv
open Enc (enc)
end P
namespace P
open PySem PySem.Spec PyProof.Rows L2 Hb Nv
open Enc (enc)
end P
namespace P
open PySem PySem.Spec PyProof.Rows L2 Hb Nv
open Enc (enc)
end P
namespace P
open PySem PySem.Spec PyProof.Rows L2 Hb Nv
open Enc (enc)
end P
namespace P
open PySem PySem.Spec PyProof.Rows L2 Hb Nv
open Enc (enc)
end P
namespace P
open PySem PySem.Spec PyProof.Rows L2 Hb Nv
open Enc (enc)
end P
namespace Lw
open PySem Hb Nv L2 P
open Enc (enc)
end Lw
namespace Lw
open PySem Hb Nv L2 P
open Enc (enc)
variable {n : Nat} {p : List Int}
end Lw
namespace Lw
open PySem Hb Nv L2 P
open Enc (enc)
end Lw
namespace P
open PySem PySem.Spec PyProof.Rows L2 Hb Nv
open Enc (enc)
end P
namespace Lw
open PySem Hb Nv L2 P
end Lw
namespace P
open PySem PySem.Spec PyProof.Rows L2 Hb Nv
open Enc (enc)
end P
namespace Lw
open PySem Hb Nv L2 P
open Enc (enc)
variable {α β γ σ ρ ζ : Type}
end Lw
namespace P
open PySem PySem.Spec PyProof.Rows L2 Hb Nv
open Enc (enc)
end P
namespace P
open PySem PySem.Spec PyProof.Rows L2 Hb Nv
open Enc (enc)
end P
namespace P
open PySem PySem.Spec PyProof.Rows L2 Hb Nv
open Enc (enc)
end P
namespace P
open PySem PySem.Spec PyProof.Rows L2 Hb Nv
open Enc (enc)
end P
namespace P
open PySem PySem.Spec PyProof.Rows L2 Hb Nv
open Enc (enc)
end P
namespace P
open PySem PySem.Spec PyProof.Rows L2 Hb Nv
open Enc (enc)
end P
namespace P
open PySem PySem.Spec PyProof.Rows L2 Hb Nv
open Enc (enc)
end P
namespace P
open PySem PySem.Spec PyProof.Rows L2 Hb Nv
open Enc (enc)
end P
namespace P
open PySem PySem.Spec PyProof.Rows L2 Hb Nv
open Enc (enc)
end P
namespace P
open PySem PySem.Spec PyProof.Rows L2 Hb Nv
open Enc (enc)
end P
namespace Lw
open PySem Hb Nv L2 P
open Enc (enc)
end Lw
namespace Lw
open PySem Hb Nv L2 P
open Enc (enc)
end Lw
namespace Lw
open PySem Hb Nv L2 P
open Enc (enc)
end Lw
namespace Lw
open PySem Hb Nv L2 P
open Enc (enc)
end Lw
namespace Lw
open PySem Hb Nv L2 P
open Enc (enc)
variable {n : Nat} {p : List Int}
end Lw
namespace Lw
section
variable {π : Type}
variable {P : List π}
/-- what v differs in, w differs in, too -/
def Sub (P : List π) (e u v : π → Bool) : Prop := ∀ p ∈ P, e p ≠ u p → e p ≠ v p
end
end Lw
namespace P
open PySem PySem.Spec PyProof.Rows L2 Hb Nv
open Enc (enc)
end P
namespace P
open PySem PySem.Spec PyProof.Rows L2 Hb Nv
open Enc (enc)
end P
namespace P
open PySem PySem.Spec PyProof.Rows L2 Hb Nv
open Enc (enc)
end P
namespace P
open PySem PySem.Spec PyProof.Rows L2 Hb Nv
open Enc (enc)
end P
namespace P
open PySem PySem.Spec PyProof.Rows L2 Hb Nv
open Enc (enc)
end P
namespace Lw
open PySem Hb Nv L2 P
open Enc (enc)
variable {n : Nat} {f : List (List Int)}
def pairs (n : Nat) : List (Int × Int) := prs (fun _ _ => true) n
def sd (r : List Int) (p : Int × Int) : Bool := decide (pos r p.1 < pos r p.2)
/-- the ballot of an index -/
def ath (f : List (List Int)) (i : Int) : List Int := f.getD i.toNat []
end Lw
namespace Lw
open PySem Hb Nv L2 P
open Enc (enc)
variable {n : Nat} {f : List (List Int)}
end Lw
namespace P
open PySem PySem.Spec PyProof.Rows L2 Hb Nv
open Enc (enc)
end P
namespace Lw
open PySem Hb Nv L2 P
open Enc (enc)
variable {n : Nat} {f : List (List Int)}
variable {w : List Int}
end Lw
namespace P
open PySem PySem.Spec PyProof.Rows L2 Hb Nv
open Enc (enc)
end P
namespace Lw
open PySem Hb Nv L2 P
open Enc (enc)
variable {n : Nat} {f : List (List Int)} {w : List Int}
end Lw
namespace Lw
open PySem Hb Nv L2 P
open Enc (enc)
end Lw
namespace P
open PySem PySem.Spec PyProof.Rows L2 Hb Nv
open Enc (enc)
end P
namespace P
open PySem PySem.Spec PyProof.Rows L2 Hb Nv
open Enc (enc)
end P
namespace Lw
open PySem Hb Nv L2 P
open Enc (enc)
variable {n : Nat}
/-- what has been found, and what is at hand -/
structure Tu (n : Nat) (b : List Int) (f : List (List Int)) (l : List Int) : Prop where
  row : Row n l
  rows : ∀ r ∈ f, Row n r
  up : ∀ i j : Nat, i ≤ j → j < f.length → Sub (pairs n) (sd b) (sd (ath f (i : Int))) (sd (ath f (j : Int)))
  last : ∀ i : Nat, i < f.length → Sub (pairs n) (sd b) (sd (ath f (i : Int))) (sd l)
end Lw
namespace P
open PySem PySem.Spec PyProof.Rows L2 Hb Nv
open Enc (enc)
end P
namespace Lw
end Lw
namespace P
open PySem PySem.Spec PyProof.Rows L2 Hb Nv
open Enc (enc)
end P
namespace Lw
end Lw
namespace P
open PySem PySem.Spec PyProof.Rows L2 Hb Nv
open Enc (enc)
end P
namespace P
open PySem PySem.Spec PyProof.Rows L2 Hb Nv
open Enc (enc)
end P
namespace P
open PySem PySem.Spec PyProof.Rows L2 Hb Nv
open Enc (enc)
end P
namespace P
open PySem PySem.Spec PyProof.Rows L2 Hb Nv
open Enc (enc)
end P
namespace Lw
namespace K21
open PySem Hb Nv L2 P
open Enc (enc)
end K21
end Lw
namespace P
open PySem PySem.Spec PyProof.Rows L2 Hb Nv
open Enc (enc)
end P
namespace Lw
namespace K21
open PySem Hb Nv L2 P
open Enc (enc)
end K21
end Lw
namespace P
open PySem PySem.Spec PyProof.Rows L2 Hb Nv
open Enc (enc)
end P
namespace P
open PySem PySem.Spec PyProof.Rows L2 Hb Nv
open Enc (enc)
end P
namespace P
open PySem PySem.Spec PyProof.Rows L2 Hb Nv
open Enc (enc)
end P
namespace P
open PySem PySem.Spec PyProof.Rows L2 Hb Nv
open Enc (enc)
end P
namespace P
open PySem PySem.Spec PyProof.Rows L2 Hb Nv
open Enc (enc)
end P
namespace P
open PySem PySem.Spec PyProof.Rows L2 Hb Nv
open Enc (enc)
end P
namespace P
open PySem PySem.Spec PyProof.Rows L2 Hb Nv
open Enc (enc)
end P
namespace Lw
namespace K21
open PySem Hb Nv L2 P
open Enc (enc)
end K21
end Lw
namespace Lw
namespace K21
open PySem Hb Nv L2 P
open Enc (enc)
section
variable {α β : Type} [DecidableEq α] [DecidableEq β]
/-- in how many ways equal ones may be exchanged -/
def Fct : List α → Nat
  | [] => 1
  | x :: r => (r.count x + 1) * Fct r
end
end K21
end Lw
namespace Lw
namespace K21
open PySem Hb Nv L2 P
open Enc (enc)
end K21
end Lw
namespace P
open PySem PySem.Spec PyProof.Rows L2 Hb Nv
open Enc (enc)
end P
namespace Lw
namespace K21
open PySem Hb Nv L2 P
open Enc (enc)
def fac : Nat → Nat
  | 0 => 1
  | k + 1 => (k + 1) * fac k
section
variable {κ : Type} [DecidableEq κ]
def lk (l : List (κ × Int)) (k : κ) : Option Int := (l.find? fun p => decide (p.1 = k)).map (·.2)
/-- the product of the factorials of what is held -/
def PF : List (κ × Int) → Nat
  | [] => 1
  | p :: r => fac p.2.toNat * PF r
/-- what the groups hold of what has been passed -/
structure Gr (pre : List κ) (g : List (κ × Int)) : Prop where
  nd : (g.map Prod.fst).Nodup
  mem : ∀ k, k ∈ g.map Prod.fst ↔ k ∈ pre
  cnt : ∀ k, k ∈ pre → lk g k = some (pre.count k : Int)
  pf : PF g = Fct pre
  pos : ∀ p ∈ g, 0 < p.2
  len : g.length ≤ pre.length
end
variable {n : Nat} {f : List (List Int)}
end K21
end Lw
namespace P
open PySem PySem.Spec PyProof.Rows L2 Hb Nv
open Enc (enc)
end P
namespace P
open PySem PySem.Spec PyProof.Rows L2 Hb Nv
open Enc (enc)
end P
namespace P
open PySem PySem.Spec PyProof.Rows L2 Hb Nv
open Enc (enc)
end P
namespace P
open PySem PySem.Spec PyProof.Rows L2 Hb Nv
open Enc (enc)
end P
namespace P
open PySem PySem.Spec PyProof.Rows L2 Hb Nv
open Enc (enc)
end P
namespace P
open PySem PySem.Spec PyProof.Rows L2 Hb Nv
open Enc (enc)
end P
namespace Lw
namespace K21
open PySem Hb Nv L2 P PyProof.Rows
open Enc (enc)
variable {n : Nat} {f : List (List Int)}
end K21
end Lw
namespace Lw
namespace K21
open PySem Hb Nv L2 P PyProof.Rows
open Enc (enc)
end K21
end Lw
namespace P
open PySem PySem.Spec PyProof.Rows L2 Hb Nv
open Enc (enc)
end P
namespace P
open PySem PySem.Spec PyProof.Rows L2 Hb Nv
open Enc (enc)
end P
namespace P
open PySem PySem.Spec PyProof.Rows L2 Hb Nv
open Enc (enc)
end P
namespace Lw
namespace K21
open PySem Hb Nv L2 P PyProof.Rows
open Enc (enc)
end K21
end Lw
namespace Lw
open PySem Hb Nv L2 P
open Enc (enc)
end Lw
namespace P
open PySem PySem.Spec PyProof.Rows L2 Hb Nv
open Enc (enc)
end P
namespace P
open PySem PySem.Spec PyProof.Rows L2 Hb Nv
open Enc (enc)
end P
namespace P
open PySem PySem.Spec PyProof.Rows L2 Hb Nv
open Enc (enc)
end P
namespace P
open PySem PySem.Spec PyProof.Rows L2 Hb Nv
open Enc (enc)
end P
namespace Lw
open PySem Hb Nv L2 P
open Enc (enc)
end Lw
namespace Lw
end Lw
namespace P
open PySem PySem.Spec PyProof.Rows L2 Hb Nv
open Enc (enc)
end P
namespace P
open PySem PySem.Spec PyProof.Rows L2 Hb Nv
open Enc (enc)
end P
namespace P
open PySem PySem.Spec PyProof.Rows L2 Hb Nv
open Enc (enc)
end P
namespace P
open PySem PySem.Spec PyProof.Rows L2 Hb Nv
open Enc (enc)
end P
namespace P
open PySem PySem.Spec PyProof.Rows L2 Hb Nv
open Enc (enc)
end P
namespace P
open PySem PySem.Spec PyProof.Rows L2 Hb Nv
open Enc (enc)
end P
namespace Lw
namespace Rg
open PySem Hb Nv L2 P PyProof.Rows
open Enc (enc)

variable {n : Nat} {f : List (List Int)}
end Rg
end Lw
namespace P
open PySem PySem.Spec PyProof.Rows L2 Hb Nv
open Enc (enc)
end P
namespace P
open PySem PySem.Spec PyProof.Rows L2 Hb Nv
open Enc (enc)
end P
namespace P
open PySem PySem.Spec PyProof.Rows L2 Hb Nv
open Enc (enc)
end P
namespace Lw
end Lw
namespace Lw
namespace K03
open PySem Hb Nv L2 P Lw Lw.Er
open Enc (enc)
variable {n : Nat} {a b c d v : PyData}
theorem bn {α β : Type} (f : α → Option β) : Option.bind none f = none := rfl
theorem call0 (a b : PyData) : n__law_call 0 [a, b] = (n_is_ballot a b).bind (fun v => some (enc v)) ∧ x__law_call 0 [a, b] = x_is_ballot a b := ⟨rfl, rfl⟩
theorem call1 (a b : PyData) : n__law_call 1 [a, b] = (n_are_ballots a b).bind (fun v => some (enc v)) ∧ x__law_call 1 [a, b] = x_are_ballots a b := ⟨rfl, rfl⟩
theorem call2 (a b c d : PyData) : n__law_call 2 [a, b, c, d] = (n_is_above_a a b c d).bind (fun v => some (enc v)) ∧ x__law_call 2 [a, b, c, d] = x_is_above_a a b c d := ⟨rfl, rfl⟩
theorem call3 (a b c : PyData) : n__law_call 3 [a, b, c] = (n_turned_pairs_a a b c).bind (fun v => some (enc v)) ∧ x__law_call 3 [a, b, c] = x_turned_pairs_a a b c := ⟨rfl, rfl⟩
theorem call4 (a b : PyData) : n__law_call 4 [a, b] = (n_renamed_a a b).bind (fun v => some (enc v)) ∧ x__law_call 4 [a, b] = x_renamed_a a b := ⟨rfl, rfl⟩
theorem ref_of {α : Type} [Enc α] {which : Int} {args : List PyData} {pn : Option α} {px : Option Str} {C w : Str} (h : n__law_call which args = pn.bind (fun v => some (enc v)) ∧ x__law_call which args = px) (h2 : pn = none ∧ px = some C) (hw : errW.lookup C = some w) : Ref which args w := by
  refine ⟨C, ?_, ?_, hw⟩
  · rw [h.1, h2.1]; rfl
  · rw [h.2, h2.2]
theorem lk_count : errW.lookup ("InvalidCount" : Str) = some ("count" : Str) := by kernel_rfl
theorem lk_ballot : errW.lookup ("InvalidBallot" : Str) = some ("ballot" : Str) := by kernel_rfl
theorem lk_ballots : errW.lookup ("InvalidBallots" : Str) = some ("ballots" : Str) := by kernel_rfl
theorem lk_line : errW.lookup ("InvalidLine" : Str) = some ("line" : Str) := by kernel_rfl
theorem lk_place : errW.lookup ("InvalidPlace" : Str) = some ("place" : Str) := by kernel_rfl
theorem is_ballot_x (h : cntB 12 v = false) : n_is_ballot v b = none ∧ x_is_ballot v b = some ("InvalidCount" : Str) := by
  unfold n_is_ballot x_is_ballot
  simp only [bs, bn, (count_x h).1, (count_x h).2, or_some, and_self]
theorem are_ballots_x (h : cntB 12 v = false) : n_are_ballots v b = none ∧ x_are_ballots v b = some ("InvalidCount" : Str) := by
  unfold n_are_ballots x_are_ballots
  simp only [bs, bn, (count_x h).1, (count_x h).2, or_some, and_self]
theorem asI_n (n : Int) : asIntA (enc n) = some n := rfl
theorem is_ballot_ok (h1 : 1 ≤ n) (hn : n ≤ 12) (hs : Sml b) : ∃ v, n_is_ballot (enc (n : Int)) b = some v := by
  unfold n_is_ballot
  simp only [bs, (count_n (cntB_n h1 (by omega : (n : Int) ≤ 12))).1, asI_n, each_ok (by omega : n ≤ 1000) hs]
  exact ⟨_, rfl⟩
theorem are_ballots_ok (h1 : 1 ≤ n) (hn : n ≤ 12) (hs : SmlL b) : ∃ v, n_are_ballots (enc (n : Int)) b = some v := by
  unfold n_are_ballots
  simp only [bs, (count_n (cntB_n h1 (by omega : (n : Int) ≤ 12))).1, asI_n, eachs_gen (by omega : n ≤ 1000) hs]
  exact ⟨_, rfl⟩
section
variable (h1 : 1 ≤ n) (hn : n ≤ 12)
include h1 hn
theorem cn : n_need_count (enc (n : Int)) 12 = some () ∧ x_need_count (enc (n : Int)) 12 = none := count_n (cntB_n h1 (by omega))
omit h1 hn in
theorem above0 (h : cntB 12 v = false) : n_is_above_a v b c d = none ∧ x_is_above_a v b c d = some ("InvalidCount" : Str) := by
  unfold n_is_above_a x_is_above_a
  simp only [bs, bn, (count_x h).1, (count_x h).2, or_some, and_self]
theorem above1 (hs : Sml v) (h : rowB n v = false) : n_is_above_a (enc (n : Int)) v c d = none ∧ x_is_above_a (enc (n : Int)) v c d = some ("InvalidBallot" : Str) := by
  unfold n_is_above_a x_is_above_a
  simp only [bs, bn, (cn h1 hn).1, (cn h1 hn).2, asI_n, (ballot_x (by omega : n ≤ 1000) hs h).1, (ballot_x (by omega : n ≤ 1000) hs h).2, or_some, or_none, and_self]
theorem above2 {r : List Int} (hr : Row n r) (h : inRng 0 (some ((n : Int) - 1)) v = false) : n_is_above_a (enc (n : Int)) (enc r) v d = none ∧ x_is_above_a (enc (n : Int)) (enc r) v d = some ("InvalidPlace" : Str) := by
  have hb := ballot_n (by omega : n ≤ 1000) (sml_row hr (by omega)) (rowB_row hr)
  unfold n_is_above_a x_is_above_a
  simp only [bs, bn, (cn h1 hn).1, (cn h1 hn).2, asI_n, hb.1, hb.2, (place_x h).1, (place_x h).2, or_some, or_none, and_self]
theorem above3 {r : List Int} {x : Int} (hr : Row n r) (hx : 0 ≤ x ∧ x < n) (h : inRng 0 (some ((n : Int) - 1)) v = false) : n_is_above_a (enc (n : Int)) (enc r) (enc x) v = none ∧ x_is_above_a (enc (n : Int)) (enc r) (enc x) v = some ("InvalidPlace" : Str) := by
  have hb := ballot_n (by omega : n ≤ 1000) (sml_row hr (by omega)) (rowB_row hr)
  have hp : n_need_place (n : Int) (enc x) = some () ∧ x_need_place (n : Int) (enc x) = none := place_n (inRng_i hx.1 (by omega))
  unfold n_is_above_a x_is_above_a
  simp only [bs, bn, (cn h1 hn).1, (cn h1 hn).2, asI_n, hb.1, hb.2, hp.1, hp.2, (place_x h).1, (place_x h).2, or_some, or_none, and_self]
omit h1 hn in
theorem unL_ok {α : Type} [Enc α] [UnA α] (h : ∀ x : α, UnA.un (enc x) = some x) : ∀ xs : List α, unL (xs.map enc) = some xs
  | [] => rfl
  | x :: r => by
    rw [List.map_cons]
    unfold unL
    rw [h x, unL_ok h r]
    rfl
omit h1 hn in
theorem un_row (r : List Int) : (UnA.un (enc r) : Option (List Int)) = some r := unL_ok (fun _ => rfl) r
omit h1 hn in
theorem un_rows (f : List (List Int)) : (UnA.un (enc f) : Option (List (List Int))) = some f := unL_ok un_row f
theorem above_right {r : List Int} {x y : Int} (hr : Row n r) (hx : 0 ≤ x ∧ x < n) (hy : 0 ≤ y ∧ y < n) : ∃ v, n_is_above_a (enc (n : Int)) (enc r) (enc x) (enc y) = some v := by
  have hb := ballot_n (by omega : n ≤ 1000) (sml_row hr (by omega)) (rowB_row hr)
  have hp : n_need_place (n : Int) (enc x) = some () := (place_n (inRng_i hx.1 (by omega))).1
  have hq : n_need_place (n : Int) (enc y) = some () := (place_n (inRng_i hy.1 (by omega))).1
  have u1 : (UnA.un (enc x) : Option Int) = some x := rfl
  have u2 : (UnA.un (enc y) : Option Int) = some y := rfl
  unfold n_is_above_a
  simp only [bs, (cn h1 hn).1, asI_n, hb.1, hp, hq, un_row, u1, u2, idxL_pos (hr.mem.mpr hx), idxL_pos (hr.mem.mpr hy), ltI_e]
  exact ⟨_, rfl⟩
omit h1 hn in
theorem turned0 (h : cntB 12 v = false) : n_turned_pairs_a v b c = none ∧ x_turned_pairs_a v b c = some ("InvalidCount" : Str) := by
  unfold n_turned_pairs_a x_turned_pairs_a
  simp only [bs, bn, (count_x h).1, (count_x h).2, or_some, and_self]
theorem turned1 (hs : Sml v) (h : rowB n v = false) : n_turned_pairs_a (enc (n : Int)) v c = none ∧ x_turned_pairs_a (enc (n : Int)) v c = some ("InvalidBallot" : Str) := by
  unfold n_turned_pairs_a x_turned_pairs_a
  simp only [bs, bn, (cn h1 hn).1, (cn h1 hn).2, asI_n, (ballot_x (by omega : n ≤ 1000) hs h).1, (ballot_x (by omega : n ≤ 1000) hs h).2, or_some, or_none, and_self]
theorem turned2 {r : List Int} (hr : Row n r) (hs : Sml v) (h : rowB n v = false) : n_turned_pairs_a (enc (n : Int)) (enc r) v = none ∧ x_turned_pairs_a (enc (n : Int)) (enc r) v = some ("InvalidBallot" : Str) := by
  have hb := ballot_n (by omega : n ≤ 1000) (sml_row hr (by omega)) (rowB_row hr)
  unfold n_turned_pairs_a x_turned_pairs_a
  simp only [bs, bn, (cn h1 hn).1, (cn h1 hn).2, asI_n, hb.1, hb.2, (ballot_x (by omega : n ≤ 1000) hs h).1, (ballot_x (by omega : n ≤ 1000) hs h).2, or_some, or_none, and_self]
theorem turned_right {r s : List Int} (hr : Row n r) (hs : Row n s) : ∃ v, n_turned_pairs_a (enc (n : Int)) (enc r) (enc s) = some v := by
  have hb := ballot_n (by omega : n ≤ 1000) (sml_row hr (by omega)) (rowB_row hr)
  have hc := ballot_n (by omega : n ≤ 1000) (sml_row hs (by omega)) (rowB_row hs)
  unfold n_turned_pairs_a
  simp only [bs, (cn h1 hn).1, asI_n, hb.1, hc.1, asIL_row, turned_list hr hs (by omega)]
  exact ⟨_, rfl⟩
omit h1 hn in
theorem renamed0 (hs : Sml v) (h : lineB v = false) : n_renamed_a v b = none ∧ x_renamed_a v b = some ("InvalidLine" : Str) := by
  unfold n_renamed_a x_renamed_a n_need_on_line_a x_need_on_line_a
  simp only [bs, bn, (Er.line_x hs h).1, (Er.line_x hs h).2, or_some, and_self]
omit h1 hn in
theorem lenA_row {p : List Int} (hp : Row n p) : lenA (enc p) = some (n : Int) := by
  have := lenA_l (p.map PyData.int)
  rw [List.length_map, hp.len] at this
  exact this
theorem renamed1 {p : List Int} (hp : Row n p) (hs : SmlL v) (h : rowsB n v = false) : n_renamed_a (enc p) v = none ∧ x_renamed_a (enc p) v = some ("InvalidBallots" : Str) := by
  have hl := Er.line_n (sml_row hp (by omega)) (lineB_row hp h1 hn)
  have hx := Er.ballots_x (by omega : n ≤ 1000) hs h
  unfold n_renamed_a x_renamed_a n_need_on_line_a x_need_on_line_a
  simp only [bs, bn, hl.1, hl.2, lenA_row hp, hx.1, hx.2, or_some, or_none, and_self]
theorem renamed_right {p : List Int} {f : List (List Int)} (hp : Row n p) (hf : ∀ z ∈ f, Row n z) (hl : f.length ≤ 40) : ∃ v, n_renamed_a (enc p) (enc f) = some v := by
  have ha := Er.line_n (sml_row hp (by omega)) (lineB_row hp h1 hn)
  have hx := Er.ballots_n (by omega : n ≤ 1000) (smlL_rows hf (by omega) hl) (rowsB_rows hf hl)
  obtain ⟨rk, e2, h3⟩ := ranks_ok hp (by omega : n ≤ 900)
  have u := un_rows f
  unfold n_renamed_a n_need_on_line_a
  simp only [bs, ha.1, lenA_row hp, hx.1, asIL_row, e2, u]
  rw [mapT_cap (fun r => r.map (pos p)) (by omega : f.length ≤ 100000) fun r hr => mapT_cap (pos p) (by rw [(hf r hr).len]; omega) fun x hx => h3 x ((hf r hr).mem.mp hx).1 ((hf r hr).mem.mp hx).2]
  exact ⟨_, rfl⟩
end
end K03
end Lw
namespace Lw.Er
open PySem Hb Nv L2 P Lw
open Enc (enc)
mutual
theorem short_more : ∀ d : PyData, d.leavesShort 40 = true → d.leavesShort 50 = true
  | .none, _ => rfl
  | .bool _, _ => rfl
  | .int i, h => by
    simp only [PyData.leavesShort, decide_eq_true_eq] at h ⊢
    omega
  | .str x, h => by simpa only [PyData.leavesShort] using h
  | .list xs, h => by
    simp only [PyData.leavesShort] at h ⊢
    exact shortAll_more xs h
  | .tuple xs, h => by
    simp only [PyData.leavesShort] at h ⊢
    exact shortAll_more xs h
  | .dict kvs, h => by
    simp only [PyData.leavesShort] at h ⊢
    exact shortKv_more kvs h
theorem shortAll_more : ∀ xs : List PyData, PyData.leavesShortAll 40 xs = true → PyData.leavesShortAll 50 xs = true
  | [], _ => rfl
  | x :: r, h => by
    simp only [PyData.leavesShortAll, Bool.and_eq_true] at h ⊢
    exact ⟨short_more x h.1, shortAll_more r h.2⟩
theorem shortKv_more : ∀ kvs : List (PyData × PyData), PyData.leavesShortKv 40 kvs = true → PyData.leavesShortKv 50 kvs = true
  | [], _ => rfl
  | (k, v) :: r, h => by
    simp only [PyData.leavesShortKv, Bool.and_eq_true] at h ⊢
    exact ⟨⟨short_more k h.1.1, short_more v h.1.2⟩, shortKv_more r h.2⟩
end
theorem tame_vb {D W : Nat} {v : PyData} (h : Vb D W v) (hD : D ≤ 5) (hW : W ≤ 2000) : Tame v := ⟨h.hs, short_more v h.hl, Nat.le_trans h.hd hD, Nat.le_trans h.hw hW⟩
theorem tame_int {i : Int} (h0 : 0 ≤ i) (h1 : i < 10 ^ 40) : Tame (enc i) := tame_vb (vb_int h0 h1) (by omega) (by omega)
theorem tame_row {n : Nat} {r : List Int} (h : Row n r) (hn : n ≤ 12) : Tame (enc r) := tame_vb (vb_row h hn) (by omega) (by omega)
theorem tame_rows {n : Nat} {f : List (List Int)} (h : ∀ z ∈ f, Row n z) (hn : n ≤ 12) (hl : f.length ≤ 40) : Tame (enc f) := tame_vb (vb_rows h hn hl) (by omega) (by omega)
end Lw.Er
namespace Lw
namespace K03
open PySem Hb Nv L2 P Lw Lw.Er
open Enc (enc)
variable {n : Nat}
theorem bad_counts : ∃ l, n__law_bad_counts 12 = some l ∧ ∀ v ∈ l, cntB 12 v = false ∧ Tame v := by
  obtain ⟨l, e, h⟩ := allB_ok chk_counts
  refine ⟨l, e, fun v hv => ?_⟩
  have := h v hv
  simp only [Bool.and_eq_true, Bool.not_eq_true'] at this
  exact ⟨this.1, tameB_ok this.2⟩
theorem bad_lines : ∃ l, n__law_bad_lines = some l ∧ ∀ v ∈ l, lineB v = false ∧ Sml v ∧ Tame v := by
  obtain ⟨l, e, h⟩ := allB_ok chk_lines
  refine ⟨l, e, fun v hv => ?_⟩
  have := h v hv
  simp only [Bool.and_eq_true, Bool.not_eq_true'] at this
  exact ⟨lineB_f this.1, smlB_ok this.2.1, tameB_ok this.2.2⟩
section
variable (h1 : 1 ≤ n) (hn : n ≤ 12)
include h1 hn
theorem kn {c : Nat → Bool} (h : (List.range 12).all (fun k => c (k + 1)) = true) : c n = true := by
  have := List.all_eq_true.mp h (n - 1) (List.mem_range.mpr (by omega))
  rwa [show n - 1 + 1 = n by omega] at this
theorem bad_ballots : ∃ l, n__law_bad_ballots (n : Int) = some l ∧ ∀ v ∈ l, rowB n v = false ∧ Sml v ∧ Tame v := by
  obtain ⟨l, e, h⟩ := allB_ok (kn h1 hn (c := fun n => allB (n__law_bad_ballots (n : Int)) fun v => !rowC n v && (smlB v && tameB v)) chk_ballots)
  refine ⟨l, e, fun v hv => ?_⟩
  have := h v hv
  simp only [Bool.and_eq_true, Bool.not_eq_true'] at this
  exact ⟨rowB_f this.1, smlB_ok this.2.1, tameB_ok this.2.2⟩
theorem bad_places : ∃ l, n__law_bad_places (n : Int) = some l ∧ ∀ v ∈ l, inRng 0 (some ((n : Int) - 1)) v = false ∧ Tame v := by
  obtain ⟨l, e, h⟩ := allB_ok (kn h1 hn (c := fun n => allB (n__law_bad_places (n : Int)) fun v => !inRng 0 (some ((n : Int) - 1)) v && tameB v) chk_places)
  refine ⟨l, e, fun v hv => ?_⟩
  have := h v hv
  simp only [Bool.and_eq_true, Bool.not_eq_true'] at this
  exact ⟨this.1, tameB_ok this.2⟩
theorem bad_lists : ∃ l, n__law_bad_lists (n : Int) = some l ∧ ∀ v ∈ l, rowsB n v = false ∧ SmlL v ∧ Tame v := by
  obtain ⟨l, e, h⟩ := allB_ok (kn h1 hn (c := fun n => allB (n__law_bad_lists (n : Int)) fun v => !rowsC n v && (smlLB v && tameB v)) chk_lists)
  refine ⟨l, e, fun v hv => ?_⟩
  have := h v hv
  simp only [Bool.and_eq_true, Bool.not_eq_true'] at this
  exact ⟨rowsB_f this.1, smlLB_ok this.2.1, tameB_ok this.2.2⟩
end
theorem w_count : eqD (enc [("count" : Str)]) (enc [("count" : Str)]) = some true := by kernel_rfl
theorem w_ballot : eqD (enc [("ballot" : Str)]) (enc [("ballot" : Str)]) = some true := by kernel_rfl
theorem w_ballots : eqD (enc [("ballots" : Str)]) (enc [("ballots" : Str)]) = some true := by kernel_rfl
theorem w_line : eqD (enc [("line" : Str)]) (enc [("line" : Str)]) = some true := by kernel_rfl
theorem w_place : eqD (enc [("place" : Str)]) (enc [("place" : Str)]) = some true := by kernel_rfl
theorem one {α : Type} {p : α → Prop} {a : α} (h : p a) : ∀ x ∈ [a], p x := fun x hx => by rw [List.mem_singleton.mp hx]; exact h
theorem cns {α : Type} {p : α → Prop} {a : α} {r : List α} (h : p a) (h2 : ∀ x ∈ r, p x) : ∀ x ∈ a :: r, p x := List.forall_mem_cons.mpr ⟨h, h2⟩
theorem len1 {α : Type} {t : List α} {k : Nat} (h : t.length = k + 1) : ∃ a r, t = a :: r ∧ r.length = k := by
  cases t with
  | nil => cases h
  | cons a r => exact ⟨a, r, rfl, by simpa using h⟩
theorem len0 {α : Type} {t : List α} (h : t.length = 0) : t = [] := List.length_eq_zero_iff.mp h
section
variable {lc lb lp ll ls : List PyData} (h1 : 1 ≤ n) (hn : n ≤ 12) (hc : ∀ v ∈ lc, cntB 12 v = false ∧ Tame v) (hb : ∀ v ∈ lb, rowB n v = false ∧ Sml v ∧ Tame v) (hp : ∀ v ∈ lp, inRng 0 (some ((n : Int) - 1)) v = false ∧ Tame v)
  (hl : ∀ v ∈ ll, lineB v = false ∧ Sml v ∧ Tame v) (hs : ∀ v ∈ ls, rowsB n v = false ∧ SmlL v ∧ Tame v) {r s : List Int} (hr : Row n r) (hq : Row n s)
include h1 hn
theorem tn : Tame (enc (n : Int)) := tame_int (by omega) (by have : (12 : Int) < 10 ^ 40 := by decide
                                                             omega)
include hc hr
theorem f0 : n__law_faults 0 [enc (n : Int), enc r] [(lc, ("count" : Str))] = some (true, [enc (n : Int), enc r]) := by
  refine faults_ok (by simp) (by simp) (cns (tn h1 hn) (one (tame_row hr hn))) (one fun v hv => (hc v hv).2) (one w_count) ?_ ?_
  · obtain ⟨v, e⟩ := is_ballot_ok (b := enc r) h1 hn (sml_row hr (by omega))
    exact ⟨enc v, by rw [(call0 _ _).1, e]; rfl⟩
  · intro p b e v hv t ht
    match p, e with
    | 0, e =>
      cases Option.some.inj e
      obtain ⟨b, t, rfl, g0⟩ := len1 (k := 0) ht
      cases len0 g0
      exact ref_of (call0 v b) (is_ballot_x (hc v hv).1) lk_count
theorem f1 : n__law_faults 1 [enc (n : Int), enc (List.replicate 40 r)] [(lc, ("count" : Str))] = some (true, [enc (n : Int), enc (List.replicate 40 r)]) := by
  have hf : ∀ z ∈ List.replicate 40 r, Row n z := fun z hz => by rw [List.eq_of_mem_replicate hz]; exact hr
  refine faults_ok (by simp) (by simp) (cns (tn h1 hn) (one (tame_rows hf hn (by simp)))) (one fun v hv => (hc v hv).2) (one w_count) ?_ ?_
  · obtain ⟨v, e⟩ := are_ballots_ok (b := enc (List.replicate 40 r)) h1 hn (smlL_rows hf (by omega) (by simp))
    exact ⟨enc v, by rw [(call1 _ _).1, e]; rfl⟩
  · intro p b e v hv t ht
    match p, e with
    | 0, e =>
      cases Option.some.inj e
      obtain ⟨b, t, rfl, g0⟩ := len1 (k := 0) ht
      cases len0 g0
      exact ref_of (call1 v b) (are_ballots_x (hc v hv).1) lk_count
include hb hp
theorem f2 : n__law_faults 2 [enc (n : Int), enc r, enc ((n : Int) - 1), enc (0 : Int)] [(lc, ("count" : Str)), (lb, ("ballot" : Str)), (lp, ("place" : Str)), (lp, ("place" : Str))] = some (true, [enc (n : Int), enc r, enc ((n : Int) - 1), enc (0 : Int)]) := by
  have big : (12 : Int) < 10 ^ 40 := by decide
  refine faults_ok (by simp) (by simp) (cns (tn h1 hn) (cns (tame_row hr hn) (cns (tame_int (by omega) (by omega)) (one (tame_int (by omega) (by omega)))))) (cns (fun v hv => (hc v hv).2) (cns (fun v hv => (hb v hv).2.2) (cns (fun v hv => (hp v hv).2) (one fun v hv => (hp v hv).2))))
    (cns w_count (cns w_ballot (cns w_place (one w_place)))) ?_ ?_
  · obtain ⟨v, e⟩ := above_right (x := (n : Int) - 1) (y := 0) h1 hn hr (by omega) (by omega)
    exact ⟨enc v, by rw [(call2 _ _ _ _).1, e]; rfl⟩
  · intro p b e v hv t ht
    match p, e with
    | 0, e =>
      cases Option.some.inj e
      obtain ⟨b, t, rfl, g2⟩ := len1 (k := 2) ht
      obtain ⟨c, t, rfl, g1⟩ := len1 (k := 1) g2
      obtain ⟨d, t, rfl, g0⟩ := len1 (k := 0) g1
      cases len0 g0
      exact ref_of (call2 v b c d) (above0 (hc v hv).1) lk_count
    | 1, e =>
      cases Option.some.inj e
      obtain ⟨c, t, rfl, g1⟩ := len1 (k := 1) ht
      obtain ⟨d, t, rfl, g0⟩ := len1 (k := 0) g1
      cases len0 g0
      exact ref_of (call2 _ v c d) (above1 h1 hn (hb v hv).2.1 (hb v hv).1) lk_ballot
    | 2, e =>
      cases Option.some.inj e
      obtain ⟨d, t, rfl, g0⟩ := len1 (k := 0) ht
      cases len0 g0
      exact ref_of (call2 _ _ v d) (above2 h1 hn hr (hp v hv).1) lk_place
    | 3, e =>
      cases Option.some.inj e
      cases len0 ht
      exact ref_of (call2 _ _ _ v) (above3 h1 hn hr (by omega) (hp v hv).1) lk_place
omit hp
include hq
theorem f3 : n__law_faults 3 [enc (n : Int), enc r, enc s] [(lc, ("count" : Str)), (lb, ("ballot" : Str)), (lb, ("ballot" : Str))] = some (true, [enc (n : Int), enc r, enc s]) := by
  refine faults_ok (by simp) (by simp) (cns (tn h1 hn) (cns (tame_row hr hn) (one (tame_row hq hn)))) (cns (fun v hv => (hc v hv).2) (cns (fun v hv => (hb v hv).2.2) (one fun v hv => (hb v hv).2.2)))
    (cns w_count (cns w_ballot (one w_ballot))) ?_ ?_
  · obtain ⟨v, e⟩ := turned_right h1 hn hr hq
    exact ⟨enc v, by rw [(call3 _ _ _).1, e]; rfl⟩
  · intro p b e v hv t ht
    match p, e with
    | 0, e =>
      cases Option.some.inj e
      obtain ⟨b, t, rfl, g1⟩ := len1 (k := 1) ht
      obtain ⟨c, t, rfl, g0⟩ := len1 (k := 0) g1
      cases len0 g0
      exact ref_of (call3 v b c) (turned0 (hc v hv).1) lk_count
    | 1, e =>
      cases Option.some.inj e
      obtain ⟨c, t, rfl, g0⟩ := len1 (k := 0) ht
      cases len0 g0
      exact ref_of (call3 _ v c) (turned1 h1 hn (hb v hv).2.1 (hb v hv).1) lk_ballot
    | 2, e =>
      cases Option.some.inj e
      cases len0 ht
      exact ref_of (call3 _ _ v) (turned2 h1 hn hr (hb v hv).2.1 (hb v hv).1) lk_ballot
omit hc hb
include hl hs
theorem f4 : n__law_faults 4 [enc s, enc (List.replicate 40 r)] [(ll, ("line" : Str)), (ls, ("ballots" : Str))] = some (true, [enc s, enc (List.replicate 40 r)]) := by
  have hf : ∀ z ∈ List.replicate 40 r, Row n z := fun z hz => by rw [List.eq_of_mem_replicate hz]; exact hr
  refine faults_ok (by simp) (by simp) (cns (tame_row hq hn) (one (tame_rows hf hn (by simp)))) (cns (fun v hv => (hl v hv).2.2) (one fun v hv => (hs v hv).2.2)) (cns w_line (one w_ballots)) ?_ ?_
  · obtain ⟨v, e⟩ := renamed_right h1 hn hq hf (by simp)
    exact ⟨enc v, by rw [(call4 _ _).1, e]; rfl⟩
  · intro p b e v hv t ht
    match p, e with
    | 0, e =>
      cases Option.some.inj e
      obtain ⟨b, t, rfl, g0⟩ := len1 (k := 0) ht
      cases len0 g0
      exact ref_of (call4 v b) (renamed0 (hl v hv).2.1 (hl v hv).1) lk_line
    | 1, e =>
      cases Option.some.inj e
      cases len0 ht
      exact ref_of (call4 _ v) (renamed1 h1 hn hq (hs v hv).2.1 (hs v hv).1) lk_ballots
omit hs hr
theorem f5 : n__law_faults 4 [enc s, enc ([] : List (List Int))] [(ll, ("line" : Str))] = some (true, [enc s, enc ([] : List (List Int))]) := by
  have hf : ∀ z ∈ ([] : List (List Int)), Row n z := fun z hz => nomatch hz
  refine faults_ok (by simp) (by simp) (cns (tame_row hq hn) (one (tame_rows hf hn (by simp)))) (one fun v hv => (hl v hv).2.2) (one w_line) ?_ ?_
  · obtain ⟨v, e⟩ := renamed_right h1 hn hq hf (by simp)
    exact ⟨enc v, by rw [(call4 _ _).1, e]; rfl⟩
  · intro p b e v hv t ht
    match p, e with
    | 0, e =>
      cases Option.some.inj e
      obtain ⟨b, t, rfl, g0⟩ := len1 (k := 0) ht
      cases len0 g0
      exact ref_of (call4 v b) (renamed0 (hl v hv).2.1 (hl v hv).1) lk_line
end
theorem rep40 (r : List Int) : repL [r] 40 = some (List.replicate 40 r) := by
  unfold repL
  rfl
theorem right_ok {t : List Int} (ht : Tap t) : Wp (n__law_right_v20 t) fun z => z.1 = true := by
  obtain ⟨⟨c, T1⟩, e1, hT1, c0, c1⟩ := draw_ok ht (n := (12 : Int)) (by omega) (by omega)
  have c0 : 0 ≤ c := c0
  have c1 : c < 12 := c1
  obtain ⟨n, hn⟩ : ∃ n : Nat, 1 + c = (n : Int) := ⟨(1 + c).toNat, by omega⟩
  have h1 : 1 ≤ n := by omega
  have h12 : n ≤ 12 := by omega
  obtain ⟨⟨r, T2⟩, e2, hT2, hr⟩ := mixed_ok hT1 (n := n) (by omega)
  have hr : Row n r := hr
  obtain ⟨⟨s, T3⟩, e3, hT3, hs⟩ := mixed_ok hT2 (n := n) (by omega)
  have hs : Row n s := hs
  obtain ⟨lc, ec, hc⟩ := bad_counts
  obtain ⟨lb, eb, hb⟩ := bad_ballots h1 h12
  obtain ⟨lp, ep, hp⟩ := bad_places h1 h12
  obtain ⟨ll, el, hl⟩ := bad_lines
  obtain ⟨ls, es, hls⟩ := bad_lists h1 h12
  have a0 := f0 h1 h12 hc hr
  have a1 := f1 h1 h12 hc hr
  have a2 := f2 h1 h12 hc hb hp hr
  have a3 := f3 h1 h12 hc hb hr hs
  have a4 := f4 h1 h12 hl hls hr hs
  have a5 := f5 h1 h12 hl hs
  unfold n__law_right_v20
  simp only [bs, e1, addI_e, hn, e2, e3, ec, eb, ep, el, es, a0, rep40, a1, subI_e, a2, a3, a4, bnot_t, Bool.false_eq_true, if_false]
  refine ⟨_, bnd (bnd a5 rfl) rfl, rfl⟩
theorem k03_law_ok {ms : List Int} (hl : ms.length ≤ 63) : n_law_v21 ms = some true := by
  obtain ⟨cs, ec, hc⟩ := cells_ok hl 3
  unfold n_law_v21
  simp only [bs, ec, lenL_e, ri1_nat cs.length (by omega : cs.length ≤ 1000000)]
  refine bnd (bnd (mapC_cap (fun _ => false) (by rw [iot_len]; omega) fun k hk => ?_) rfl) ?_
  · rw [mem_iot] at hk
    obtain ⟨x, ex, _⟩ := atL_int (xs := cs) hk.1 hk.2
    obtain ⟨t, et, ht⟩ := tap_ok x k hk.1 (by omega)
    obtain ⟨z, ez, hz⟩ := right_ok ht
    simp only [ex, bs, et, ez, hz]
    rfl
  · have fl : List.filter (fun _ : Int => false) (iot cs.length) = [] := by simp
    rw [fl]; rfl
end K03
end Lw
namespace K03
open PySem PySem.Spec PyProof.Rows L2 Hb
def names : List PySem.Str := (["is_integer", "is_each_once", "are_each_once", "need_count", "need_ballot", "need_ballots", "need_line", "need_place", "need_on_line", "ranks_in", "is_ballot", "are_ballots", "is_above", "pairs_turned", "turned_pairs", "renamed", "_law_tap", "_law_draw", "_law_cells", "_law_mixed", "_law_falls", "_law_fallen", "_law_words", "_law_told", "_law_bad_counts", "_law_bad_ballots", "_law_bad_lists", "_law_bad_places", "_law_bad_lines", "_law_call"] : List PySem.Str) ++ (["_law_raised", "_law_faults", "_law_right", "BallotError", "InvalidCount", "InvalidBallot", "InvalidBallots", "InvalidLine", "InvalidPlace", "InvalidVoters", "InvalidIndex", "InvalidPeople", "InvalidTable", "InvalidFixed", "InvalidTelling", "InvalidPairs", "InvalidLists", "InvalidCommand", "NoLine", "NoRow", "NotFalling", "NotFree", "NoBallot", "NotMatching", "EvenVoters", "NotTold", "NothingToUndo", "InvalidText", "MOST_PLACES", "MOST_BALLOTS"] : List PySem.Str)
abbrev R : PySem.W.OpenRow := PySem.W.OpenLaw.row PySem.Challenge.rw_hillballots_k03_errors_of_ballots
abbrev hk : PySem.W.Hook := He.hookX 2 fa fn [] [("_law_raised", none)] (Hb.errB Hb.errX Hb.errY "BallotError")
def ob (s : PySem.W.SharedT) : He.AlX := He.obsX 2 fa fn [] [("_law_raised", none)] (Hb.errB Hb.errX Hb.errY "BallotError") (HandSHeadRun.getT s)
theorem ob_eq (s : PySem.W.SharedT) : ob s = hk.obs s.abs := He.obsX_eq (HandSHeadRun.getT_eq s)
theorem run (w : World) : HandSHeadRun.RunEq R (PySem.W.view R.prog [64]) hk ob 8000 names w := by
  intro os
  kernel_rfl
theorem head_law_ok {ms : List Int} (hl : ms.length ≤ 63) : ∃ δ, P.F_law_v21 [.fz (.list (ms.map .int))] = .ok (.fz (.bool true)) δ :=
  ⟨_, P.V_law_v21 ms true (Lw.K03.k03_law_ok hl)⟩
end K03
open PySem PySem.W PySem.Calls PyProof.Rows
theorem PySem.Challenge.cw_hillballots_k03_errors_of_ballots_holds : PySem.Challenge.rw_hillballots_k03_errors_of_ballots.Holds := by
  w_on; o_law
  refine HandSHeadRun.head_any (r := OpenLaw.row PySem.Challenge.rw_hillballots_k03_errors_of_ballots) (q := view (OpenLaw.row PySem.Challenge.rw_hillballots_k03_errors_of_ballots).prog [64]) (H := K03.hk) (ob := K03.ob) (M := 8000) (loose := K03.names) (d := HandSHeadRun.topDef (OpenLaw.row PySem.Challenge.rw_hillballots_k03_errors_of_ballots).prog 64) (kwd := []) K03.ob_eq
    (by kernel_rfl) (fun s => by kernel_rfl) K03.run (by kernel_rfl) (by kernel_rfl) (by kernel_rfl) (by rfl) (by first | assumption | decide +kernel) (by decide +kernel) ⟨rfl, rfl, rfl, rfl, rfl, by decide +kernel⟩ ?hw ?hc
  case hw => w_witness2
  case hc =>
    refine Hb.walkGT (l := PySem.Challenge.rw_hillballots_k03_errors_of_ballots) (n := 63) (k := 14) (x := "_law_script") rfl (by decide) (by kernel_rfl) ⟨rfl, by decide, by decide⟩ ?F
    intro w mg fa h Y G hmg0
    obtain ⟨K, KX, cX⟩ := Y
    have c := cX.t.d
    have hmg : mg ("law" : PySem.Str) = some (.ref fa) := by
      have e : (HandSHeadRun.topDef (OpenLaw.row PySem.Challenge.rw_hillballots_k03_errors_of_ballots).prog 64).name = ("law" : PySem.Str) := by kernel_rfl
      rw [← e]
      exact hmg0
    have Y : K03.Ctx K mg := ⟨c, ⟨h, KX, G⟩, cX.more⟩
    obtain ⟨fd, FD⟩ := c.def_ 29 (d := K03.d_law)
    have hf : fa = He.fAd K ("law", none) := by
      have e2 := He.glo_ok KX G (c.fact 29 (f := .glo "law"))
      rw [hmg] at e2
      exact PySem.Value.ref.inj (Option.some.inj e2)
    refine ⟨K, fd, [He.cT K ("_law_raised", none)], Hb.spT K mg 1 P.F_law_v21, KX, fun p hp => ?_, fun p hp => ?_, fun p hp => ?_, fun s u => ?_, fun H a ns hl hT hX => ?_, fun bs _ _ TB => ?_⟩
    · rw [List.mem_singleton.mp hp]
      exact cX.empty _ (List.mem_singleton.mpr rfl)
    · rw [List.mem_singleton.mp hp]
      exact cX.out _ (List.mem_singleton.mpr rfl)
    · rw [List.mem_singleton.mp hp]
      exact PySem.W.codeHd_of_K KX (cX.hd _ (List.mem_singleton.mpr rfl))
    · exact FD.bindsA (ps := ["_law_script"]) (fun _ _ _ _ _ _ us h => by
        match us, h with
        | [a0], _ => rfl) s [u] rfl
    · obtain ⟨δ, e⟩ := K03.head_law_ok hl
      exact Hb.sp_lawT (fun p hp => by
        rw [List.mem_singleton.mp hp]
        exact hT _ (List.mem_singleton.mpr rfl)) hX e
    · rw [hf]
      exact Hb.fnG_DT FD K03.S_law rfl fun cdv _ A outer s H E hr hgd => K03.W_law Y (TB _ (List.mem_singleton.mpr rfl)) cdv A outer s H E hr hgd
