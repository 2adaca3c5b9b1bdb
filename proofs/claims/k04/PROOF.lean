import PyProof.Rows.All
import Wide.All
import OpenK.AllK
import Wide.FinOn
import KE.KStateDown
import Lean
import HandS.ForExc
import HandS.Defaults
import HandS.Head0
import HandS.Head1
import HandS.Head2
import HandS.HeadEnd
import HandS.HeadHook1
import HandS.HeadHook2
import HandS.HeadHook4
import HandS.ForMost
import HandS.Exc
import HandS.TryOnly
import HandS.ExcOwn
import HandS.WordsExc
import HandS.Wide
import HandS.Conv
import HandS.Flow
import HandS.Style
import HandS.Deep
import HandS.IsInst
import HandS.SortInts
import HandS.Lambda
import HandS.TupAny
import HandS.SortRule
import HandS.Star
import HandS.TupLen
import HandS.WordsDict
import HandS.Zip
import HandS.Rev
import HandS.RevRange
import KE.SortData
import KE.KRevSl
import HandS.TryMany
import HandS.DictComp
import KE.DataMinMax
import KE.KDictCopyH
import HandS.SetFor
import HandS.NoneIn
import HandS.Small
import HandS.Strs
import HandS.TupMul
import KE.GoesEnum
import HandS.ExcIs
import HandS.Evl
import HandS.ExcInit
import HandS.ExcField
import HandS.ExcValue
import HandS.EndTab
import PySem.Challenge.RW_hillballots_k04_errors_made
set_option Elab.async false
set_option linter.all false
set_option maxRecDepth 100000
set_option exponentiation.threshold 3000
set_option maxHeartbeats 0
namespace Hb
open PySem PySem.Spec PyProof.Rows L2
def kD : Key → PyData
  | .inl i => .int i
  | .inr x => .str x
/-- a list that may be read: tracked, locked, or one of the module's own in the plain form -/
def SqX (K : PySem.W.Frag) (H : Hp) (a : Addr) (xs : List V) : Prop :=
  Rd H a (.lst xs) ∨ ∃ (its : List Value) (n : Nat), K.lookup a = some { cls := .type "list", data := .seq its.toArray n } ∧ its.length ≤ sizeLine ∧ Vals xs its
theorem SqX.of {K : PySem.W.Frag} {H : Hp} {a : Addr} {xs : List V} (h : H a = some (.lst xs)) : SqX K H a xs := .inl (.inl h)
theorem SqX.sq {K : PySem.W.Frag} {H : Hp} {a : Addr} {xs : List V} (h : SqX K H a xs) : SqL K H a xs := by
  rcases h with h | ⟨its, n, h1, h2, h3⟩
  · exact .inl h
  · exact .inr ⟨_, its.toArray, n, h1, rfl, rfl, rfl, by simpa using h2, by simpa using h3⟩
theorem inv_lstX {X : Cx} {pins : List (Addr × Obj)} {σ : L2.St} {H : Hp} {s : Shared} {a : Addr} {xs : List V} (I : Inv X pins σ H s) (h : SqX X.K H a xs) :
    ∃ (its : List Value) (n : Nat), Vals xs its ∧ s.heap.get? a = some { cls := .type "list", data := .seq its.toArray n } ∧ xs.length ≤ sizeLine := by
  rcases h with h | ⟨its, n, h1, h2, h3⟩
  · obtain ⟨z, its, n, r, e⟩ := h.ok I.hok
    exact ⟨its, n, r, e, z⟩
  · exact ⟨its, n, h3, I.kIn a _ h1, by rw [h3.length]; exact h2⟩
mutual
/-- the value v stands, in the heap H, for the tree d -/
inductive Rp (K : PySem.W.Frag) (H : Hp) : V → PyData → Prop
  | non : Rp K H .non .none
  | bl (b : Bool) : Rp K H (.bl b) (.bool b)
  | int (i : Int) : Rp K H (.int i) (.int i)
  | str (x : Str) : Rp K H (.str x) (.str x)
  | lst {a : Addr} {xs : List V} {ds : List PyData} : SqX K H a xs → RpL K H xs ds → Rp K H (.ref a) (.list ds)
  | tup {a : Addr} {xs : List V} {ds : List PyData} : H a = some (.tup xs) → RpL K H xs ds → Rp K H (.ref a) (.tuple ds)
  | dK {a : Addr} {kvs : List (Key × V)} {ds : List (PyData × PyData)} : H a = some (.dK kvs) → RpK K H kvs ds → Rp K H (.ref a) (.dict ds)
  | dT {a : Addr} {kvs : List (List Key × V)} {ds : List (PyData × PyData)} : H a = some (.dT kvs) → RpT K H kvs ds → Rp K H (.ref a) (.dict ds)
inductive RpL (K : PySem.W.Frag) (H : Hp) : List V → List PyData → Prop
  | nil : RpL K H [] []
  | cons {v : V} {vs : List V} {d : PyData} {ds : List PyData} : Rp K H v d → RpL K H vs ds → RpL K H (v :: vs) (d :: ds)
inductive RpK (K : PySem.W.Frag) (H : Hp) : List (Key × V) → List (PyData × PyData) → Prop
  | nil : RpK K H [] []
  | cons {k : Key} {v : V} {vs : List (Key × V)} {d : PyData} {ds : List (PyData × PyData)} : Rp K H v d → RpK K H vs ds → RpK K H ((k, v) :: vs) ((kD k, d) :: ds)
inductive RpT (K : PySem.W.Frag) (H : Hp) : List (List Key × V) → List (PyData × PyData) → Prop
  | nil : RpT K H [] []
  | cons {k : List Key} {v : V} {vs : List (List Key × V)} {d : PyData} {ds : List (PyData × PyData)} : Rp K H v d → RpT K H vs ds → RpT K H ((k, v) :: vs) ((.tuple (k.map kD), d) :: ds)
end
theorem same_rd {H H' : Hp} {a : Addr} {u : HO} (e : Same H H') (h : Rd H a u) : Rd H' a u := by
  rcases h with h | ⟨o, h⟩
  · exact .inl (e _ _ h)
  · exact .inr ⟨o, e _ _ h⟩
theorem same_sqX {K : PySem.W.Frag} {H H' : Hp} {a : Addr} {xs : List V} (e : Same H H') (h : SqX K H a xs) : SqX K H' a xs := by
  rcases h with h | h
  · exact .inl (same_rd e h)
  · exact .inr h
section
variable {K : PySem.W.Frag} {H H' : Hp} (e : Same H H')
include e
mutual
theorem Rp.mono : ∀ {v : V} {d : PyData}, Rp K H v d → Rp K H' v d
  | _, _, .non => .non
  | _, _, .bl b => .bl b
  | _, _, .int i => .int i
  | _, _, .str x => .str x
  | _, _, .lst h1 h2 => .lst (same_sqX e h1) (RpL.mono h2)
  | _, _, .tup h1 h2 => .tup (e _ _ h1) (RpL.mono h2)
  | _, _, .dK h1 h2 => .dK (e _ _ h1) (RpK.mono h2)
  | _, _, .dT h1 h2 => .dT (e _ _ h1) (RpT.mono h2)
theorem RpL.mono : ∀ {vs : List V} {ds : List PyData}, RpL K H vs ds → RpL K H' vs ds
  | _, _, .nil => .nil
  | _, _, .cons h1 h2 => .cons (Rp.mono h1) (RpL.mono h2)
theorem RpK.mono : ∀ {vs : List (Key × V)} {ds : List (PyData × PyData)}, RpK K H vs ds → RpK K H' vs ds
  | _, _, .nil => .nil
  | _, _, .cons h1 h2 => .cons (Rp.mono h1) (RpK.mono h2)
theorem RpT.mono : ∀ {vs : List (List Key × V)} {ds : List (PyData × PyData)}, RpT K H vs ds → RpT K H' vs ds
  | _, _, .nil => .nil
  | _, _, .cons h1 h2 => .cons (Rp.mono h1) (RpT.mono h2)
end
end
section
variable {K : PySem.W.Frag} {H : Hp}
theorem RpL.len : ∀ {vs : List V} {ds : List PyData}, RpL K H vs ds → vs.length = ds.length
  | _, _, .nil => rfl
  | _, _, .cons _ t => by simp [RpL.len t]
theorem RpL.get : ∀ {vs : List V} {ds : List PyData} {i : Nat} {d : PyData}, RpL K H vs ds → ds[i]? = some d → ∃ v, vs[i]? = some v ∧ Rp K H v d
  | _, _, _, _, .nil, e => by simp at e
  | _, _, 0, _, .cons r _, e => by simp at e; subst e; exact ⟨_, rfl, r⟩
  | _, _, i + 1, d, .cons _ t, e => by
    obtain ⟨u, h1, h2⟩ := RpL.get (i := i) (d := d) t (by simpa using e)
    exact ⟨u, by simpa using h1, h2⟩
theorem RpL.append : ∀ {vs ws : List V} {ds es : List PyData}, RpL K H vs ds → RpL K H ws es → RpL K H (vs ++ ws) (ds ++ es)
  | _, _, _, _, .nil, s => s
  | _, _, _, _, .cons r t, s => .cons r (RpL.append t s)
theorem RpL.take : ∀ {vs : List V} {ds : List PyData} (n : Nat), RpL K H vs ds → RpL K H (vs.take n) (ds.take n)
  | _, _, 0, _ => by simp; exact .nil
  | _, _, n + 1, .nil => by simp; exact .nil
  | _, _, n + 1, .cons r t => .cons r (RpL.take n t)
theorem RpL.drop : ∀ {vs : List V} {ds : List PyData} (n : Nat), RpL K H vs ds → RpL K H (vs.drop n) (ds.drop n)
  | _, _, 0, h => h
  | _, _, n + 1, .nil => by simp; exact .nil
  | _, _, n + 1, .cons _ t => RpL.drop n t
theorem RpL.set {v : V} {d : PyData} (h : Rp K H v d) : ∀ {vs : List V} {ds : List PyData} (n : Nat), RpL K H vs ds → RpL K H (vs.set n v) (ds.set n d)
  | _, _, _, .nil => .nil
  | _, _, 0, .cons _ t => .cons h t
  | _, _, n + 1, .cons r t => .cons r (RpL.set h n t)
theorem RpL.dropLast : ∀ {vs : List V} {ds : List PyData}, RpL K H vs ds → RpL K H vs.dropLast ds.dropLast
  | _, _, .nil => .nil
  | _, _, .cons _ .nil => .nil
  | _, _, .cons r (.cons r2 t) => .cons r (RpL.dropLast (.cons r2 t))
end
/-- an item of a list that is one's own: a tree that stands still, or a list of one's own -/
inductive El where
  | fz (d : PyData) | ow (xs : List PyData)
def El.d : El → PyData
  | .fz d => d
  | .ow xs => .list xs
/-- a name: nothing is known; a tree that stands still; a list of one's own; a dict of one's own; the item j of the list of slot x -/
inductive Sl where
  | no | fz (d : PyData) | ol (xs : List El) | od (kvs : List (PyData × PyData)) | al (x j : Nat)
def ElR (K : PySem.W.Frag) (Fz H : Hp) (f : List Addr) (v : V) : El → Prop
  | .fz d => f = [] ∧ Rp K Fz v d
  | .ow xs => ∃ a vs, v = .ref a ∧ f = [a] ∧ H a = some (.lst vs) ∧ RpL K Fz vs xs
inductive ElL (K : PySem.W.Frag) (Fz H : Hp) : List Addr → List V → List El → Prop
  | nil : ElL K Fz H [] [] []
  | cons {f g : List Addr} {v : V} {vs : List V} {e : El} {es : List El} : ElR K Fz H f v e → ElL K Fz H g vs es → ElL K Fz H (f ++ g) (v :: vs) (e :: es)
def DcR (K : PySem.W.Frag) (Fz H : Hp) (a : Addr) (kvs : List (PyData × PyData)) : Prop :=
  (∃ ws, H a = some (.dK ws) ∧ RpK K Fz ws kvs) ∨ (∃ ws, H a = some (.dT ws) ∧ RpT K Fz ws kvs)
def SlH (K : PySem.W.Frag) (Fz H : Hp) (σ : L2.St) (f : List Addr) (o : Option V) : Sl → Prop
  | .no => f = []
  | .fz d => f = [] ∧ ∃ v, o = some v ∧ Rp K Fz v d
  | .ol xs => ∃ a vs g, o = some (.ref a) ∧ f = a :: g ∧ H a = some (.lst vs) ∧ ElL K Fz H g vs xs
  | .od kvs => ∃ a, o = some (.ref a) ∧ f = [a] ∧ DcR K Fz H a kvs
  | .al x j => f = [] ∧ ∃ a b vs, σ[x]? = some (some (.ref a)) ∧ H a = some (.lst vs) ∧ vs[j]? = some (.ref b) ∧ o = some (.ref b)
/-- what stays through a body: the ground B, what of it stands still (F0), the slots that stay (pin, as in so) -/
structure Bk where
  B : Hp
  F0 : Hp
  pin : List Nat
  so : L2.St
  T : List (Addr × Str) := []
/-- a mark among the pinned slots: the table of the code objects of lambdas is followed here -/
@[reducible] def mkT : Nat := 1000000
/-- the one table that is followed: that of the def that makes a lambda -/
def TK (K : PySem.W.Frag) : List (Addr × Str) := [((He.cT K ("_law_raised", none)).2, "_law_raised.<locals>.<lambda>")]
/-- no tuple, no table of code objects, no code object -/
def Pl (o : Option HO) : Prop := (∀ xs, o ≠ some (.tup xs)) ∧ (∀ ps, o ≠ some (.tbl ps)) ∧ ∀ φ, o ≠ some (.ext φ)
theorem Pl.lst {xs : List V} : Pl (some (.lst xs)) := by
  refine ⟨?_, ?_, ?_⟩ <;> (intro _ z; cases z)
theorem Pl.dK {xs : List (Key × V)} : Pl (some (.dK xs)) := by
  refine ⟨?_, ?_, ?_⟩ <;> (intro _ z; cases z)
theorem Pl.dT {xs : List (List Key × V)} : Pl (some (.dT xs)) := by
  refine ⟨?_, ?_, ?_⟩ <;> (intro _ z; cases z)
theorem Pl.tup {o : Option HO} (h : Pl o) {xs : List V} (e : o = some (.tup xs)) : False := h.1 xs e
/-- the tables of code objects that are followed: they tell what they may, and nothing else leans on them -/
def Tb (b : Bk) (Fz H : Hp) : Prop := ∀ p ∈ b.T, LamX.TabS H p.1 p.2 ∧ Fz p.1 = none ∧ b.B p.1 = none
theorem tabS_keep {H H' : Hp} {P : Addr} {q : Str} (t : LamX.TabS H P q) (k : ∀ a o, H a = some o → ¬Pl (some o) → H' a = some o) : LamX.TabS H' P q := by
  obtain ⟨ps, h1, h2, h3⟩ := t
  refine ⟨ps, k _ _ h1 fun z => z.2.1 ps rfl, h2, fun pos cv hc => ?_⟩
  obtain ⟨c, e1, e2⟩ := h3 pos cv hc
  exact ⟨c, e1, k _ _ e2 fun z => z.2.2 _ rfl⟩
theorem Tb.keep {b : Bk} {Fz H H' : Hp} (t : Tb b Fz H) (k : ∀ a o, H a = some o → ¬Pl (some o) → H' a = some o) : Tb b Fz H' := fun p hp => ⟨tabS_keep (t p hp).1 k, (t p hp).2⟩
theorem Tb.tbl {b : Bk} {Fz H : Hp} (t : Tb b Fz H) {p : Addr × Str} (hp : p ∈ b.T) : ¬Pl (H p.1) := by
  obtain ⟨⟨ps, h1, _⟩, _⟩ := t p hp
  rw [h1]
  exact fun z => z.2.1 ps rfl
theorem Tb.nil {b : Bk} {Fz H : Hp} (h : b.T = []) : Tb b Fz H := fun p hp => by rw [h] at hp; cases hp
theorem Tb.upd {b : Bk} {Fz H : Hp} (t : Tb b Fz H) {a : Addr} {o : HO} (h : H a = none ∨ Pl (H a)) : Tb b Fz (upd H a o) := t.keep fun c u e n => by
  by_cases q : c = a
  · subst q
    rcases h with z | z
    · rw [z] at e; cases e
    · rw [e] at z; exact absurd z n
  · rw [upd_ne q]; exact e
theorem Tb.fz {b : Bk} {Fz Fz' H : Hp} (t : Tb b Fz H) (h : ∀ p ∈ b.T, Fz' p.1 = none) : Tb b Fz' H := fun p hp => ⟨(t p hp).1, h p hp, (t p hp).2.2⟩
structure Rl (K : PySem.W.Frag) (b : Bk) (Fz : Hp) (F : Nat → List Addr) (δ : List Sl) (σ : L2.St) (H : Hp) : Prop where
  le : Same Fz H
  base : Same b.B H
  len : σ.length = δ.length
  slot : ∀ i s, δ[i]? = some s → SlH K Fz H σ (F i) (σ[i]?.join) s
  nd : ∀ i, (F i).Nodup
  dj : ∀ i j a, a ∈ F i → a ∈ F j → i = j
  offF : ∀ i a, a ∈ F i → Fz a = none
  offB : ∀ i a, a ∈ F i → b.B a = none
  on : ∀ i a, a ∈ F i → H a ≠ none
  keep : ∀ a, b.B a ≠ none → Fz a = b.F0 a ∨ ((∃ xs, b.B a = some (.tup xs)) ∧ Fz a = b.B a)
  f0 : ∀ a, b.F0 a ≠ none → b.B a ≠ none
  pin : ∀ i ∈ b.pin, σ[i]? = b.so[i]?
  als : ∀ (i x j : Nat), δ[i]? = some (.al x j) → ∃ xs, δ[x]? = some (.ol xs)
  noT : ∀ i a, a ∈ F i → Pl (H a)
  tb : Tb b Fz H
  tp : mkT ∈ b.pin → b.T = TK K
theorem ElL.noT {K : PySem.W.Frag} {Fz H : Hp} : ∀ {f : List Addr} {vs : List V} {es : List El}, ElL K Fz H f vs es → ∀ a ∈ f, Pl (H a)
  | _, _, _, .nil, _, h => nomatch h
  | _, _, _, .cons (e := .fz d) h t, a, ha => by
    rw [h.1, List.nil_append] at ha
    exact t.noT a ha
  | _, _, _, .cons (e := .ow ys) h t, a, ha => by
    obtain ⟨c, vs, _, e2, e3, _⟩ := h
    rw [e2] at ha
    rcases List.mem_append.mp ha with z | z
    · rw [List.mem_singleton] at z
      subst z
      rw [e3]
      exact .lst
    · exact t.noT a z
/-- what a slot owns is plain -/
theorem SlH.noT {K : PySem.W.Frag} {Fz H : Hp} {σ : L2.St} {f : List Addr} {o : Option V} {s : Sl} (h : SlH K Fz H σ f o s) : ∀ a ∈ f, Pl (H a) := fun a ha => by
  cases s with
  | no => rw [show f = [] from h] at ha; cases ha
  | fz d => rw [h.1] at ha; cases ha
  | al x j => rw [h.1] at ha; cases ha
  | ol ys =>
    obtain ⟨c, vs, g, _, e2, e3, e4⟩ := h
    rw [e2] at ha
    rcases List.mem_cons.mp ha with z | z
    · subst z
      rw [e3]
      exact .lst
    · exact e4.noT a z
  | od kvs =>
    obtain ⟨c, _, e2, e3⟩ := h
    rw [e2, List.mem_singleton] at ha
    subst ha
    rcases e3 with ⟨ws, h1, _⟩ | ⟨ws, h1, _⟩ <;> rw [h1]
    · exact .dK
    · exact .dT
theorem ElR.keeps {K : PySem.W.Frag} {Fz Fz' H H' : Hp} {f : List Addr} {v : V} {e : El} (h : ElR K Fz H f v e) (hF : Same Fz Fz') (hH : ∀ a ∈ f, H' a = H a) : ElR K Fz' H' f v e := by
  cases e with
  | fz d => exact ⟨h.1, h.2.mono hF⟩
  | ow xs =>
    obtain ⟨a, vs, e1, e2, e3, e4⟩ := h
    exact ⟨a, vs, e1, e2, (hH a (by simp [e2])).trans e3, e4.mono hF⟩
theorem ElL.keeps {K : PySem.W.Frag} {Fz Fz' H H' : Hp} : ∀ {f : List Addr} {vs : List V} {es : List El}, ElL K Fz H f vs es → Same Fz Fz' → (∀ a ∈ f, H' a = H a) → ElL K Fz' H' f vs es
  | _, _, _, .nil, _, _ => .nil
  | _, _, _, .cons h t, hF, hH => .cons (h.keeps hF fun a ha => hH a (List.mem_append_left _ ha)) (t.keeps hF fun a ha => hH a (List.mem_append_right _ ha))
theorem DcR.keeps {K : PySem.W.Frag} {Fz Fz' H H' : Hp} {a : Addr} {kvs : List (PyData × PyData)} (h : DcR K Fz H a kvs) (hF : Same Fz Fz') (hH : H' a = H a) : DcR K Fz' H' a kvs := by
  rcases h with ⟨ws, h1, h2⟩ | ⟨ws, h1, h2⟩
  · exact .inl ⟨ws, hH.trans h1, h2.mono hF⟩
  · exact .inr ⟨ws, hH.trans h1, h2.mono hF⟩
/-- the slot's own objects, and (for an item of another slot) its list, are as they were -/
theorem SlH.keeps {K : PySem.W.Frag} {Fz Fz' H H' : Hp} {σ : L2.St} {f : List Addr} {o : Option V} {s : Sl} (h : SlH K Fz H σ f o s) (hF : Same Fz Fz') (hH : ∀ a ∈ f, H' a = H a)
    (hA : ∀ x j, s = .al x j → ∀ a, σ[x]? = some (some (.ref a)) → H' a = H a) : SlH K Fz' H' σ f o s := by
  cases s with
  | no => exact h
  | fz d =>
    obtain ⟨e, v, e2, r⟩ := h
    exact ⟨e, v, e2, r.mono hF⟩
  | ol xs =>
    obtain ⟨a, vs, g, e1, e2, e3, e4⟩ := h
    exact ⟨a, vs, g, e1, e2, (hH a (by simp [e2])).trans e3, e4.keeps hF fun c hc => hH c (by simp [e2, hc])⟩
  | od kvs =>
    obtain ⟨a, e1, e2, e3⟩ := h
    exact ⟨a, e1, e2, e3.keeps hF (hH a (by simp [e2]))⟩
  | al x j =>
    obtain ⟨e, a, b, vs, e1, e2, e3, e4⟩ := h
    exact ⟨e, a, b, vs, e1, (hA x j rfl a e1).trans e2, e3, e4⟩
theorem upd_new {H : Hp} {p b : Addr} {o : HO} (n : H p = none) (h : H b ≠ none) : upd H p o b = H b := upd_ne fun e => h (by rw [e]; exact n)
theorem same_new {H : Hp} {p : Addr} {o : HO} (n : H p = none) : Same H (upd H p o) := fun b x e => by
  rw [upd_new n (by rw [e]; simp)]
  exact e
section
variable {K : PySem.W.Frag} {b : Bk} {Fz : Hp} {F : Nat → List Addr} {δ : List Sl} {σ : L2.St} {H : Hp}
/-- the heap grew -/
theorem Rl.grow (R : Rl K b Fz F δ σ H) {H' : Hp} (s : Same H H') : Rl K b Fz F δ σ H' where
  le := R.le.trans s
  base := R.base.trans s
  len := R.len
  slot := fun i s' e => (R.slot i s' e).keeps (Same.refl _) (fun a ha => by
    cases q : H a with
    | none => exact absurd q (R.on i a ha)
    | some o => exact s a o q) fun x j _ a ha => by
      cases q : H a with
      | some o => exact s a o q
      | none =>
        rename_i e2
        subst e2
        obtain ⟨_, a', _, vs, e1, e2, _⟩ := R.slot i _ e
        rw [ha] at e1
        cases e1
        rw [q] at e2
        cases e2
  nd := R.nd
  dj := R.dj
  offF := R.offF
  offB := R.offB
  on := fun i a ha => by
    cases q : H a with
    | none => exact absurd q (R.on i a ha)
    | some o =>
      rw [s a o q]
      simp
  keep := R.keep
  f0 := R.f0
  pin := R.pin
  als := R.als
  noT := fun i a ha => by
    cases q : H a with
    | none => exact absurd q (R.on i a ha)
    | some o =>
      rw [s a o q, ← q]
      exact R.noT i a ha
  tb := R.tb.keep fun a o e _ => s a o e
  tp := R.tp
theorem Rl.new (R : Rl K b Fz F δ σ H) {p : Addr} (n : H p = none) (o : HO) : Rl K b Fz F δ σ (upd H p o) := R.grow (same_new n)
theorem Rl.offN (R : Rl K b Fz F δ σ H) {p : Addr} (n : H p = none) : Fz p = none ∧ b.B p = none ∧ ∀ i, p ∉ F i := by
  refine ⟨?_, ?_, fun i hi => R.on i p hi n⟩
  · cases q : Fz p with
    | none => rfl
    | some o =>
      have := R.le p o q
      rw [n] at this
      cases this
  · cases q : b.B p with
    | none => rfl
    | some o =>
      have := R.base p o q
      rw [n] at this
      cases this
/-- more stands still: objects at hand that nobody owns, outside the ground, or tuples -/
theorem Rl.freezeT (R : Rl K b Fz F δ σ H) {Fz' : Hp} (s : Same Fz Fz') (le : Same Fz' H) (off : ∀ a, Fz a = none → Fz' a ≠ none → (b.B a = none ∧ ∀ i, a ∉ F i) ∨ ∃ xs, H a = some (.tup xs)) (ht : ∀ p ∈ b.T, Fz' p.1 = none) : Rl K b Fz' F δ σ H where
  le := le
  base := R.base
  len := R.len
  slot := fun i s' e => (R.slot i s' e).keeps s (fun _ _ => rfl) fun _ _ _ _ _ => rfl
  nd := R.nd
  dj := R.dj
  offF := fun i a ha => by
    cases q : Fz' a with
    | none => rfl
    | some o =>
      rcases off a (R.offF i a ha) (by rw [q]; simp) with z | ⟨xs, z⟩
      · exact absurd ha (z.2 i)
      · exact ((R.noT i a ha).tup z).elim
  offB := R.offB
  on := R.on
  keep := fun a ha => by
    rcases R.keep a ha with k | ⟨⟨xs, k1⟩, k2⟩
    · cases q : Fz a with
      | some o => exact .inl (by rw [← k, q]; exact s a o q)
      | none =>
        cases q' : Fz' a with
        | none => exact .inl (by rw [← k, q])
        | some o =>
          rcases off a q (by rw [q']; simp) with z | ⟨xs, z⟩
          · exact absurd z.1 ha
          · have h1 := le a o q'
            rw [z] at h1
            cases h1
            cases qb : b.B a with
            | none => exact absurd qb ha
            | some o' =>
              have h2 := R.base a o' qb
              rw [z] at h2
              cases h2
              exact .inr ⟨⟨xs, rfl⟩, rfl⟩
    · exact .inr ⟨⟨xs, k1⟩, by rw [k1] at k2 ⊢; exact s a _ k2⟩
  f0 := R.f0
  pin := R.pin
  als := R.als
  noT := R.noT
  tb := R.tb.fz ht
  tp := R.tp
theorem Rl.freeze (R : Rl K b Fz F δ σ H) {Fz' : Hp} (s : Same Fz Fz') (le : Same Fz' H) (off : ∀ a, Fz a = none → Fz' a ≠ none → b.B a = none ∧ ∀ i, a ∉ F i) (ht : ∀ p ∈ b.T, Fz' p.1 = none) : Rl K b Fz' F δ σ H :=
  R.freezeT s le (fun a h1 h2 => .inl (off a h1 h2)) ht
end
end Hb
namespace Hb
open PySem PySem.Spec PyProof.Rows L2
/-- what an expression gives: a tree that stands still; the slot i by reference; a new thing of nobody's -/
inductive AV where
  | val (d : PyData) | ref (i : Nat) | tmp (s : Sl)
/-- an error: its class's name, the field that it bears -/
structure Exn where
  cls : Str
  arg : Option (Str × PyData) := none
inductive Rs (α : Type) where
  | ok (a : α) (δ : List Sl) | er (x : Exn) (δ : List Sl) | bad
def Rs.bind {α β : Type} (r : Rs α) (k : α → List Sl → Rs β) : Rs β := match r with
  | .ok a δ => k a δ
  | .er x δ => .er x δ
  | .bad => .bad
def Sl.tree : Sl → Option PyData
  | .fz d => some d
  | .ol xs => some (.list (xs.map El.d))
  | .od kvs => some (.dict kvs)
  | _ => none
/-- the tree that is read -/
def rdA (δ : List Sl) : AV → Option PyData
  | .val d => some d
  | .ref i => match δ[i]? with
    | some (.al x j) => (match δ[x]? with
      | some (.ol xs) => xs[j]?.map El.d
      | _ => none)
    | some s => s.tree
    | none => none
  | .tmp _ => none
def allFz : List El → Option (List PyData)
  | [] => some []
  | .fz d :: r => (allFz r).map (d :: ·)
  | .ow _ :: _ => none
/-- a list whose items stand still -/
def rdC (δ : List Sl) : AV → Option PyData
  | .val d => some d
  | .ref i => match δ[i]? with
    | some (.al x j) => (match δ[x]? with
      | some (.ol xs) => xs[j]?.map El.d
      | _ => none)
    | some (.fz d) => some d
    | some (.ol xs) => (allFz xs).map .list
    | _ => none
  | .tmp _ => none
def AvS (K : PySem.W.Frag) (Fz : Hp) (σ : L2.St) (v : V) : AV → Prop
  | .val d => Rp K Fz v d
  | .ref i => σ[i]? = some (some v)
  | .tmp _ => False
def AvR (K : PySem.W.Frag) (b : Bk) (Fz : Hp) (F : Nat → List Addr) (H : Hp) (σ : L2.St) (v : V) : AV → Prop
  | .val d => Rp K Fz v d
  | .ref i => σ[i]? = some (some v)
  | .tmp s => s.tree.isSome = true ∧ ∃ g, SlH K Fz H [] g (some v) s ∧ g.Nodup ∧ ∀ a ∈ g, Fz a = none ∧ b.B a = none ∧ H a ≠ none ∧ ∀ i, a ∉ F i
def ExR (K : PySem.W.Frag) (mg : Str → Option Value) (Fz H : Hp) (x : Exn) (c : Value) (dd : Option Addr) : Prop :=
  (∃ C, mg x.cls = some (.ref C) ∧ c = .ref C) ∧ match x.arg with
    | none => dd = none
    | some p => ∃ a v, dd = some a ∧ H a = some (.xd [(p.1, v)]) ∧ Rp K Fz v p.2
section
variable (K : PySem.W.Frag) (mg : Str → Option Value) (W : WX)
def PostX (b : Bk) (Fz : Hp) (σ : L2.St) (x : Exn) (δ : List Sl) : Prop := ∀ c dd H' Fz' F', Same Fz Fz' → Rl K b Fz' F' δ σ H' → ExR K mg Fz' H' x c dd → W c dd σ H'
def Post (b : Bk) (Fz : Hp) (σ : L2.St) (Q : VK) : Rs AV → Prop
  | .ok a δ => ∀ v H' Fz' F', Same Fz Fz' → Rl K b Fz' F' δ σ H' → AvR K b Fz' F' H' σ v a → Q v H'
  | .er x δ => PostX K mg W b Fz σ x δ
  | .bad => False
def rdE (pin : List Nat) (f : List Sl → Rs AV) : TE := fun σ H Q => ∃ b Fz F δ, b.pin = pin ∧ Rl K b Fz F δ σ H ∧ Post K mg W b Fz σ Q (f δ)
/-- a test -/
def PostT (b : Bk) (Fz : Hp) (σ : L2.St) (Q : Bool → Hp → Prop) : Rs Bool → Prop
  | .ok a δ => ∀ H' Fz' F', Same Fz Fz' → Rl K b Fz' F' δ σ H' → Q a H'
  | .er x δ => PostX K mg W b Fz σ x δ
  | .bad => False
def rdT (pin : List Nat) (f : List Sl → Rs Bool) : TT := fun σ H Q => ∃ b Fz F δ, b.pin = pin ∧ Rl K b Fz F δ σ H ∧ PostT K mg W b Fz σ Q (f δ)
end
abbrev SE (X : Cx) (W : WX) (pin : List Nat) (e : Expr) (f : List Sl → Rs AV) : Prop := PE X e (rdE X.K X.mg W pin f)
abbrev ST (X : Cx) (W : WX) (pin : List Nat) (e : Expr) (f : List Sl → Rs Bool) : Prop := PT X e (rdT X.K X.mg W pin f)
theorem pe_mono {X : Cx} {e : Expr} {t t' : TE} (h : PE X e t) (i : ∀ σ H Q, t' σ H Q → t σ H Q) : PE X e t' := ⟨fun pins s σ H Q I q => h.run pins s σ H Q I (i σ H Q q)⟩
theorem pt_mono {X : Cx} {e : Expr} {t t' : TT} (h : PT X e t) (i : ∀ σ H Q, t' σ H Q → t σ H Q) : PT X e t' := ⟨fun pins s σ H Q I q => h.run pins s σ H Q I (i σ H Q q)⟩
section
variable {K : PySem.W.Frag} {mg : Str → Option Value} {W : WX} {b : Bk} {Fz Fz1 : Hp} {F : Nat → List Addr} {δ : List Sl} {σ : L2.St} {H : Hp} {Q : VK}
theorem PostX.le {x : Exn} (s : Same Fz Fz1) (p : PostX K mg W b Fz σ x δ) : PostX K mg W b Fz1 σ x δ := fun c dd H' Fz' F' s' R e => p c dd H' Fz' F' (s.trans s') R e
theorem Post.le {r : Rs AV} (s : Same Fz Fz1) (p : Post K mg W b Fz σ Q r) : Post K mg W b Fz1 σ Q r := by
  cases r with
  | ok a δ => exact fun v H' Fz' F' s' R e => p v H' Fz' F' (s.trans s') R e
  | er x δ => exact PostX.le s p
  | bad => exact p
theorem PostT.le {Q : Bool → Hp → Prop} {r : Rs Bool} (s : Same Fz Fz1) (p : PostT K mg W b Fz σ Q r) : PostT K mg W b Fz1 σ Q r := by
  cases r with
  | ok a δ => exact fun H' Fz' F' s' R => p H' Fz' F' (s.trans s') R
  | er x δ => exact PostX.le s p
  | bad => exact p
theorem AvS.le {v : V} {a : AV} (s : Same Fz Fz1) (p : AvS K Fz σ v a) : AvS K Fz1 σ v a := by
  cases a with
  | val d => exact Rp.mono s p
  | ref i => exact p
  | tmp t => exact p
theorem AvR.of {v : V} {a : AV} (p : AvS K Fz σ v a) : AvR K b Fz F H σ v a := by
  cases a with
  | val d => exact p
  | ref i => exact p
  | tmp t => exact False.elim p
theorem ElL.tree {Fz H : Hp} (le : Same Fz H) : ∀ {f : List Addr} {vs : List V} {es : List El}, ElL K Fz H f vs es → RpL K H vs (es.map El.d)
  | _, _, _, .nil => .nil
  | _, _, _, .cons (e := .fz d) h t => .cons (h.2.mono le) (ElL.tree le t)
  | _, _, _, .cons (e := .ow xs) h t => by
    obtain ⟨a, vs, e1, e2, e3, e4⟩ := h
    subst e1
    exact .cons (.lst (SqX.of e3) (e4.mono le)) (ElL.tree le t)
theorem ElL.at_ {Fz H : Hp} : ∀ {f : List Addr} {vs : List V} {es : List El} {j : Nat} {e : El}, ElL K Fz H f vs es → es[j]? = some e → ∃ v g, vs[j]? = some v ∧ ElR K Fz H g v e ∧ ∀ a ∈ g, a ∈ f
  | _, _, _, _, _, .nil, e => by simp at e
  | _, _, _, 0, _, .cons (f := f) (v := v) h t, e => by
    simp at e
    subst e
    exact ⟨v, f, rfl, h, fun a ha => List.mem_append_left _ ha⟩
  | _, _, _, j + 1, _, .cons h t, e => by
    obtain ⟨v, g, e1, e2, e3⟩ := ElL.at_ t (by simpa using e)
    exact ⟨v, g, by simpa using e1, e2, fun a ha => List.mem_append_right _ (e3 a ha)⟩
theorem ElL.allFz {Fz H : Hp} : ∀ {f : List Addr} {vs : List V} {es : List El} {ds : List PyData}, ElL K Fz H f vs es → Hb.allFz es = some ds → RpL K Fz vs ds
  | _, _, _, _, .nil, e => by cases e; exact .nil
  | _, _, _, ds, .cons (e := .fz d) (es := es) h t, e => by
    cases q : Hb.allFz es with
    | none =>
      rw [Hb.allFz, q] at e
      cases e
    | some ds' =>
      rw [Hb.allFz, q] at e
      cases e
      exact .cons h.2 (ElL.allFz t q)
  | _, _, _, ds, .cons (e := .ow xs) h t, e => by cases e
/-- a value that is read -/
def RpC (K : PySem.W.Frag) (Fz H : Hp) (v : V) (d : PyData) : Prop := Rp K Fz v d ∨ ∃ a vs ds, v = .ref a ∧ d = .list ds ∧ H a = some (.lst vs) ∧ RpL K Fz vs ds
theorem join_some {o : Option (Option V)} {v : V} (h : o.join = some v) : o = some (some v) := by
  cases o with
  | none => cases h
  | some o => exact congrArg some h
theorem Rl.al (R : Rl K b Fz F δ σ H) {i x j : Nat} {xs : List El} {e : El} {v : V} (h : δ[i]? = some (.al x j)) (hx : δ[x]? = some (.ol xs)) (hj : xs[j]? = some e) (hv : σ[i]? = some (some v)) : ∃ g, ElR K Fz H g v e ∧ ∀ a ∈ g, a ∈ F x := by
  obtain ⟨_, a, c, vs, e1, e2, e3, e4⟩ := R.slot i _ h
  obtain ⟨a', vs', g, e5, e6, e7, e8⟩ := R.slot x _ hx
  rw [e1] at e5
  cases e5
  rw [e2] at e7
  cases e7
  obtain ⟨v', g', e9, e10, e11⟩ := e8.at_ hj
  rw [e3] at e9
  cases e9
  rw [hv] at e4
  cases e4
  exact ⟨g', e10, fun a ha => by rw [e6]; exact List.mem_cons_of_mem _ (e11 a ha)⟩
theorem rdA_ok (R : Rl K b Fz F δ σ H) {v : V} {a : AV} {d : PyData} (p : AvS K Fz σ v a) (h : rdA δ a = some d) : Rp K H v d := by
  cases a with
  | val d' =>
    cases h
    exact Rp.mono R.le p
  | tmp t => exact False.elim p
  | ref i =>
    have hv : σ[i]? = some (some v) := p
    cases q : δ[i]? with
    | none =>
      simp only [rdA, q] at h
      cases h
    | some s =>
      have hs := R.slot i s q
      rw [hv] at hs
      cases s with
      | no =>
        simp only [rdA, q] at h
        cases h
      | fz d' =>
        simp only [rdA, q] at h
        cases h
        obtain ⟨_, v', e1, e2⟩ := hs
        cases e1
        exact e2.mono R.le
      | ol xs =>
        simp only [rdA, q] at h
        cases h
        obtain ⟨a, vs, g, e1, e2, e3, e4⟩ := hs
        cases e1
        exact .lst (SqX.of e3) (e4.tree R.le)
      | od kvs =>
        simp only [rdA, q] at h
        cases h
        obtain ⟨a, e1, e2, e3⟩ := hs
        cases e1
        rcases e3 with ⟨ws, h1, h2⟩ | ⟨ws, h1, h2⟩
        · exact .dK h1 (h2.mono R.le)
        · exact .dT h1 (h2.mono R.le)
      | al x j =>
        cases q2 : δ[x]? with
        | none =>
          simp only [rdA, q, q2] at h
          cases h
        | some t =>
          cases t with
          | ol xs =>
            cases q3 : xs[j]? with
            | none =>
              simp only [rdA, q, q2, q3] at h
              cases h
            | some e =>
              simp only [rdA, q, q2, q3] at h
              cases h
              obtain ⟨g, e1, _⟩ := R.al q q2 q3 hv
              cases e with
              | fz d' => exact e1.2.mono R.le
              | ow ys =>
                obtain ⟨a, vs, f1, _, f3, f4⟩ := e1
                subst f1
                exact .lst (SqX.of f3) (f4.mono R.le)
          | _ =>
            simp only [rdA, q, q2] at h
            cases h
theorem rdC_ok (R : Rl K b Fz F δ σ H) {v : V} {a : AV} {d : PyData} (p : AvS K Fz σ v a) (h : rdC δ a = some d) : RpC K Fz H v d := by
  cases a with
  | val d' =>
    cases h
    exact .inl p
  | tmp t => exact False.elim p
  | ref i =>
    have hv : σ[i]? = some (some v) := p
    cases q : δ[i]? with
    | none =>
      simp only [rdC, q] at h
      cases h
    | some s =>
      have hs := R.slot i s q
      rw [hv] at hs
      cases s with
      | no =>
        simp only [rdC, q] at h
        cases h
      | fz d' =>
        simp only [rdC, q] at h
        cases h
        obtain ⟨_, v', e1, e2⟩ := hs
        cases e1
        exact .inl e2
      | ol xs =>
        simp only [rdC, q] at h
        cases q2 : allFz xs with
        | none =>
          rw [q2] at h
          cases h
        | some ds =>
          rw [q2] at h
          cases h
          obtain ⟨a, vs, g, e1, e2, e3, e4⟩ := hs
          cases e1
          exact .inr ⟨a, vs, ds, rfl, rfl, e3, e4.allFz q2⟩
      | od kvs =>
        simp only [rdC, q] at h
        cases h
      | al x j =>
        cases q2 : δ[x]? with
        | none =>
          simp only [rdC, q, q2] at h
          cases h
        | some t =>
          cases t with
          | ol xs =>
            cases q3 : xs[j]? with
            | none =>
              simp only [rdC, q, q2, q3] at h
              cases h
            | some e =>
              simp only [rdC, q, q2, q3] at h
              cases h
              obtain ⟨g, e1, _⟩ := R.al q q2 q3 hv
              cases e with
              | fz d' => exact .inl e1.2
              | ow ys =>
                obtain ⟨a, vs, f1, _, f3, f4⟩ := e1
                subst f1
                exact .inr ⟨a, vs, ys, rfl, rfl, f3, f4⟩
          | _ =>
            simp only [rdC, q, q2] at h
            cases h
theorem RpC.list {v : V} {ds : List PyData} (le : Same Fz H) (h : RpC K Fz H v (.list ds)) : ∃ a vs, v = .ref a ∧ SqX K H a vs ∧ RpL K Fz vs ds := by
  rcases h with h | ⟨a, vs, es, e1, e2, e3, e4⟩
  · cases h with
    | lst h1 h2 => exact ⟨_, _, rfl, same_sqX le h1, h2⟩
  · cases e2
    exact ⟨a, vs, e1, SqX.of e3, e4⟩
theorem RpC.tup {v : V} {ds : List PyData} (le : Same Fz H) (h : RpC K Fz H v (.tuple ds)) : ∃ a vs, v = .ref a ∧ SqT K H a vs ∧ RpL K Fz vs ds := by
  rcases h with h | ⟨a, vs, es, e1, e2, e3, e4⟩
  · cases h with
    | tup h1 h2 => exact ⟨_, _, rfl, SqT.of (le _ _ h1), h2⟩
  · cases e2
theorem ElL.ofFz {H : Hp} : ∀ {vs : List V} {ds : List PyData}, RpL K Fz vs ds → ElL K Fz H [] vs (ds.map .fz)
  | _, _, .nil => .nil
  | _, _, .cons h t => .cons (f := []) ⟨rfl, h⟩ (ElL.ofFz t)
theorem post_newL (R : Rl K b Fz F δ σ H) {vs : List V} {ds : List PyData} (h : RpL K Fz vs ds) (P : Post K mg W b Fz σ Q (.ok (.tmp (.ol (ds.map .fz))) δ)) : ∀ p, H p = none → Q (.ref p) (upd H p (.lst vs)) := fun p n => by
  obtain ⟨n1, n2, n3⟩ := R.offN n
  refine P (.ref p) _ Fz F (Same.refl _) (R.new n _) ⟨rfl, [p], ⟨p, vs, [], rfl, rfl, upd_same, ElL.ofFz h⟩, by simp, fun a ha => ?_⟩
  rw [List.mem_singleton] at ha
  subst ha
  exact ⟨n1, n2, by rw [upd_same]; simp, n3⟩
/-- a new thing that stands still at once -/
theorem Rl.newF (R : Rl K b Fz F δ σ H) {p : Addr} (n : H p = none) (o : HO) : Same Fz (upd Fz p o) ∧ Rl K b (upd Fz p o) F δ σ (upd H p o) := by
  obtain ⟨n1, n2, n3⟩ := R.offN n
  refine ⟨same_new n1, (R.new n o).freeze (same_new n1) (fun a x e => ?_) (fun a ha hb => ?_) fun q hq => ?_⟩
  · by_cases q : a = p
    · subst q
      rw [upd_same] at e ⊢
      exact e
    · rw [upd_ne q] at e ⊢
      exact R.le a x e
  · by_cases q : a = p
    · subst q
      exact ⟨n2, n3⟩
    · rw [upd_ne q] at hb
      exact absurd ha hb
  · obtain ⟨⟨ps, e, _⟩, h2, _⟩ := R.tb q hq
    rw [upd_ne fun z => by rw [z, n] at e; cases e]
    exact h2
theorem post_newT (R : Rl K b Fz F δ σ H) {vs : List V} {ds : List PyData} (h : RpL K Fz vs ds) (P : Post K mg W b Fz σ Q (.ok (.val (.tuple ds)) δ)) : ∀ p, H p = none → Q (.ref p) (upd H p (.tup vs)) := fun p n => by
  obtain ⟨s, R'⟩ := R.newF n (.tup vs)
  exact P (.ref p) _ _ F s R' (.tup upd_same (h.mono s))
theorem ElL.treeF {H : Hp} {Fz' : Hp} (s : Same Fz Fz') : ∀ {f : List Addr} {vs : List V} {es : List El}, ElL K Fz H f vs es → (∀ a ∈ f, Fz' a = H a) → RpL K Fz' vs (es.map El.d)
  | _, _, _, .nil, _ => .nil
  | _, _, _, .cons (e := .fz d) h t, hg => .cons (h.2.mono s) (ElL.treeF s t fun a ha => hg a (List.mem_append_right _ ha))
  | _, _, _, .cons (e := .ow xs) h t, hg => by
    obtain ⟨a, vs, e1, e2, e3, e4⟩ := h
    subst e1
    have q := hg a (List.mem_append_left _ (by simp [e2]))
    exact .cons (.lst (SqX.of (q.trans e3)) (e4.mono s)) (ElL.treeF s t fun a ha => hg a (List.mem_append_right _ ha))
theorem SlH.treeF {Fz' : Hp} {σ0 : L2.St} {g : List Addr} {v : V} {t : Sl} {d : PyData} (h : SlH K Fz H σ0 g (some v) t) (ht : t.tree = some d) (s : Same Fz Fz') (hg : ∀ a ∈ g, Fz' a = H a) : Rp K Fz' v d := by
  cases t with
  | no => cases ht
  | fz d' =>
    cases ht
    obtain ⟨_, v', e1, e2⟩ := h
    cases e1
    exact e2.mono s
  | ol xs =>
    cases ht
    obtain ⟨a, vs, g', e1, e2, e3, e4⟩ := h
    cases e1
    exact .lst (SqX.of ((hg a (by simp [e2])).trans e3)) (e4.treeF s fun c hc => hg c (by simp [e2, hc]))
  | od kvs =>
    cases ht
    obtain ⟨a, e1, e2, e3⟩ := h
    cases e1
    have q := hg a (by simp [e2])
    rcases e3 with ⟨ws, h1, h2⟩ | ⟨ws, h1, h2⟩
    · exact .dK (q.trans h1) (h2.mono s)
    · exact .dT (q.trans h1) (h2.mono s)
  | al x j => cases ht
/-- Fz with the objects at g as they stand -/
def addF (Fz H : Hp) (g : List Addr) : Hp := fun a => if a ∈ g then H a else Fz a
theorem addF_in {Fz H : Hp} {g : List Addr} {a : Addr} (h : a ∈ g) : addF Fz H g a = H a := if_pos h
theorem addF_out {Fz H : Hp} {g : List Addr} {a : Addr} (h : a ∉ g) : addF Fz H g a = Fz a := if_neg h
theorem addF_same {Fz H : Hp} {g : List Addr} (h : ∀ a ∈ g, Fz a = none) : Same Fz (addF Fz H g) := fun a o e => by
  by_cases q : a ∈ g
  · rw [h a q] at e
    cases e
  · rw [addF_out q]
    exact e
theorem addF_le {Fz H : Hp} {g : List Addr} (le : Same Fz H) : Same (addF Fz H g) H := fun a o e => by
  by_cases q : a ∈ g
  · rw [addF_in q] at e
    exact e
  · rw [addF_out q] at e
    exact le a o e
theorem addT {b : Bk} {Fz H : Hp} {g : List Addr} (t : Tb b Fz H) (hp : ∀ a ∈ g, Pl (H a)) {p : Addr × Str} (hq : p ∈ b.T) : Hb.addF Fz H g p.1 = none := by
  rw [addF_out fun z => t.tbl hq (hp _ z)]
  exact (t p hq).2.1
theorem Rl.addF (R : Rl K b Fz F δ σ H) {g : List Addr} (hg : ∀ a ∈ g, Fz a = none ∧ b.B a = none ∧ ∀ i, a ∉ F i) (hp : ∀ a ∈ g, Pl (H a)) : Same Fz (addF Fz H g) ∧ Rl K b (Hb.addF Fz H g) F δ σ H := by
  have s := addF_same (H := H) fun a ha => (hg a ha).1
  refine ⟨s, R.freeze s (addF_le R.le) (fun a h1 h2 => ?_) fun p hq => addT R.tb hp hq⟩
  by_cases q : a ∈ g
  · exact ⟨(hg a q).2.1, (hg a q).2.2⟩
  · rw [addF_out q] at h2
    exact absurd h1 h2
/-- aliases of slot i are forgotten -/
def dropAl (i : Nat) (δ : List Sl) : List Sl := δ.map fun s => match s with
  | .al x j => if x = i then .no else .al x j
  | s => s
def upS (i : Nat) (s : Sl) (δ : List Sl) : List Sl := (dropAl i δ).set i s
theorem dropAl_at {i k : Nat} {s : Sl} {δ : List Sl} (h : (dropAl i δ)[k]? = some s) : s = .no ∧ (∃ j, δ[k]? = some (.al i j)) ∨ δ[k]? = some s ∧ ∀ j, s ≠ .al i j := by
  unfold dropAl at h
  rw [List.getElem?_map] at h
  cases q : δ[k]? with
  | none =>
    rw [q] at h
    cases h
  | some t =>
    rw [q] at h
    cases t with
    | al x j =>
      by_cases e : x = i
      · subst e
        have h' : some (if x = x then Sl.no else Sl.al x j) = some s := h
        rw [if_pos rfl] at h'
        cases h'
        exact .inl ⟨rfl, j, rfl⟩
      · have h' : some (if x = i then Sl.no else Sl.al x j) = some s := h
        rw [if_neg e] at h'
        cases h'
        exact .inr ⟨rfl, fun j' z => by cases z; exact e rfl⟩
    | no => cases h; exact .inr ⟨rfl, fun j' z => nomatch z⟩
    | fz d => cases h; exact .inr ⟨rfl, fun j' z => nomatch z⟩
    | ol xs => cases h; exact .inr ⟨rfl, fun j' z => nomatch z⟩
    | od kvs => cases h; exact .inr ⟨rfl, fun j' z => nomatch z⟩
theorem dropAl_len {i : Nat} {δ : List Sl} : (dropAl i δ).length = δ.length := by simp [dropAl]
/-- slot i (not pinned, or its value the same) gets another value, another heap of its own -/
theorem Rl.put (R : Rl K b Fz F δ σ H) {i : Nat} {s : Sl} {g : List Addr} {σ' : L2.St} {H' : Hp} {Fz' : Hp} (sF : Same Fz Fz') (leF : Same Fz' H') (hb : Same b.B H')
    (hl : σ'.length = σ.length) (hσ : ∀ k, k ≠ i → σ'[k]? = σ[k]?) (hp : σ'[i]? = σ[i]? ∨ i ∉ b.pin)
    (hs : i < δ.length → SlH K Fz' H' σ' g (σ'[i]?.join) s) (ns : ∀ x j, s = .al x j → x ≠ i ∧ ∃ xs, δ[x]? = some (.ol xs))
    (hg : g.Nodup) (gF : ∀ a ∈ g, Fz' a = none) (gB : ∀ a ∈ g, b.B a = none) (gO : ∀ a ∈ g, ∀ k, k ≠ i → a ∉ F k) (gH : ∀ a ∈ g, H' a ≠ none)
    (oH : ∀ k, k ≠ i → ∀ a ∈ F k, H' a = H a) (oF : ∀ k, k ≠ i → ∀ a ∈ F k, Fz' a = none) (kF : ∀ a, b.B a ≠ none → Fz' a = Fz a) (gT : ∀ a ∈ g, Pl (H' a) := by intro _ z; exact nomatch z) (tb : Tb b Fz' H' := by first | exact Rl.tb (by assumption) | assumption) :
    Rl K b Fz' (fun k => if k = i then g else F k) (upS i s δ) σ' H' where
  le := leF
  base := hb
  len := by rw [hl, R.len, upS, List.length_set, dropAl_len]
  slot := fun k t e => by
    by_cases hk : k = i
    · subst hk
      unfold upS at e
      have hlt : k < δ.length := by
        have := (List.getElem?_eq_some_iff.mp e).1
        rw [List.length_set, dropAl_len] at this
        exact this
      rw [List.getElem?_set_self (by rw [dropAl_len]; exact hlt)] at e
      cases e
      rw [if_pos rfl]
      exact hs hlt
    · unfold upS at e
      rw [List.getElem?_set_ne (Ne.symm hk)] at e
      rw [if_neg hk]
      rcases dropAl_at e with ⟨e1, j, e2⟩ | ⟨e1, e2⟩
      · subst e1
        exact (R.slot k _ e2).1
      · have h0 := R.slot k t e1
        rw [hσ k hk]
        have h1 : SlH K Fz' H' σ (F k) (σ[k]?.join) t := h0.keeps sF (oH k hk) fun x j ej a ha => by
          subst ej
          have hx : x ≠ i := fun z => e2 j (by rw [z])
          obtain ⟨xs, hxs⟩ := R.als k x j e1
          obtain ⟨a2, vs2, g2, p1, p2, _⟩ := R.slot x _ hxs
          rw [ha] at p1
          cases p1
          exact oH x hx a (by rw [p2]; exact List.mem_cons_self)
        cases t with
        | al x j =>
          obtain ⟨f0, a1, c1, vs1, f1, f2, f3, f4⟩ := h1
          exact ⟨f0, a1, c1, vs1, by rw [hσ x (fun z => e2 j (by rw [z]))]; exact f1, f2, f3, f4⟩
        | no => exact h1
        | fz d => exact h1
        | ol xs => exact h1
        | od kvs => exact h1
  nd := fun k => by
    by_cases hk : k = i
    · rw [if_pos hk]; exact hg
    · rw [if_neg hk]; exact R.nd k
  dj := fun k l a h1 h2 => by
    by_cases hk : k = i
    · by_cases hl : l = i
      · rw [hk, hl]
      · rw [if_pos hk] at h1
        rw [if_neg hl] at h2
        exact absurd h2 (gO a h1 l hl)
    · by_cases hl : l = i
      · rw [if_pos hl] at h2
        rw [if_neg hk] at h1
        exact absurd h1 (gO a h2 k hk)
      · rw [if_neg hk] at h1
        rw [if_neg hl] at h2
        exact R.dj k l a h1 h2
  offF := fun k a h => by
    by_cases hk : k = i
    · rw [if_pos hk] at h; exact gF a h
    · rw [if_neg hk] at h; exact oF k hk a h
  offB := fun k a h => by
    by_cases hk : k = i
    · rw [if_pos hk] at h; exact gB a h
    · rw [if_neg hk] at h; exact R.offB k a h
  on := fun k a h => by
    by_cases hk : k = i
    · rw [if_pos hk] at h; exact gH a h
    · rw [if_neg hk] at h
      rw [oH k hk a h]
      exact R.on k a h
  keep := fun a h => by
    rw [kF a h]
    exact R.keep a h
  noT := fun k a h => by
    by_cases hk : k = i
    · rw [if_pos hk] at h; exact gT a h
    · rw [if_neg hk] at h
      rw [oH k hk a h]
      exact R.noT k a h
  tb := tb
  tp := R.tp
  f0 := R.f0
  pin := fun k hk => by
    by_cases e : k = i
    · subst e
      rcases hp with z | z
      · exact z.trans (R.pin k hk)
      · exact absurd hk z
    · rw [hσ k e]
      exact R.pin k hk
  als := fun k x j e => by
    unfold upS at e ⊢
    by_cases hk : k = i
    · subst hk
      have hlt : k < δ.length := by
        have := (List.getElem?_eq_some_iff.mp e).1
        rw [List.length_set, dropAl_len] at this
        exact this
      rw [List.getElem?_set_self (by rw [dropAl_len]; exact hlt)] at e
      cases e
      obtain ⟨hx, xs, e1⟩ := ns x j rfl
      refine ⟨xs, ?_⟩
      rw [List.getElem?_set_ne (Ne.symm hx), dropAl, List.getElem?_map, e1]
      rfl
    · rw [List.getElem?_set_ne (Ne.symm hk)] at e
      rcases dropAl_at e with ⟨e1, _⟩ | ⟨e1, e2⟩
      · cases e1
      · obtain ⟨xs, e3⟩ := R.als k x j e1
        refine ⟨xs, ?_⟩
        rw [List.getElem?_set_ne (fun z => e2 j (by rw [z])), dropAl, List.getElem?_map, e3]
        rfl
end
end Hb
namespace Hb
open PySem PySem.Spec PyProof.Rows L2
def sSt (f : List Sl → Rs AV) : List Sl → Rs AV := fun δ => match f δ with
  | .ok (.tmp s) δ' => (match s.tree with
    | some d => .ok (.val d) δ'
    | none => .bad)
  | r => r
/-- the slot i by reference: its tree stands still from now on -/
def takeI (i : Nat) (δ : List Sl) : Rs AV := match δ[i]? with
  | some (.fz d) => .ok (.val d) δ
  | some (.ol xs) => .ok (.val (.list (xs.map El.d))) (upS i (.fz (.list (xs.map El.d))) δ)
  | some (.od kvs) => .ok (.val (.dict kvs)) (upS i (.fz (.dict kvs)) δ)
  | some (.al x j) => (match δ[x]? with
    | some (.ol xs) => (match xs[j]? with
      | some (.fz d) => .ok (.val d) δ
      | _ => .bad)
    | _ => .bad)
  | _ => .bad
def sTk (f : List Sl → Rs AV) : List Sl → Rs AV := fun δ => match sSt f δ with
  | .ok (.ref i) δ' => takeI i δ'
  | r => r
/-- the slot i by reference: its thing is given away -/
def moveI (i : Nat) (δ : List Sl) : Rs AV := match δ[i]? with
  | some (.fz d) => .ok (.val d) δ
  | some (.ol xs) => .ok (.tmp (.ol xs)) (upS i .no δ)
  | some (.od kvs) => .ok (.tmp (.od kvs)) (upS i .no δ)
  | _ => .bad
def sMv (f : List Sl → Rs AV) : List Sl → Rs AV := fun δ => match f δ with
  | .ok (.ref i) δ' => moveI i δ'
  | r => r
section
variable {X : Cx} {W : WX} {pin : List Nat} {e : Expr} {f : List Sl → Rs AV}
theorem se_st (h : SE X W pin e f) : SE X W pin e (sSt f) := pe_mono h fun σ H Q ⟨b, Fz, F, δ, hp, R, P⟩ => by
  refine ⟨b, Fz, F, δ, hp, R, ?_⟩
  unfold sSt at P
  cases q : f δ with
  | bad => rw [q] at P; exact P
  | er x δ' => rw [q] at P; exact P
  | ok a δ' =>
    rw [q] at P
    cases a with
    | val d => exact P
    | ref i => exact P
    | tmp s =>
      intro v H' Fz' F' s1 R' ⟨ht, g, hs, hn, hg⟩
      cases q2 : s.tree with
      | none => rw [q2] at ht; cases ht
      | some d =>
        simp only [q2] at P
        obtain ⟨s2, R2⟩ := R'.addF (g := g) (fun a ha => ⟨(hg a ha).1, (hg a ha).2.1, (hg a ha).2.2.2⟩) hs.noT
        exact P v H' _ F' (s1.trans s2) R2 (hs.treeF q2 s2 fun a ha => addF_in ha)
theorem take_ok {K : PySem.W.Frag} {b : Bk} {Fz : Hp} {F : Nat → List Addr} {δ : List Sl} {σ : L2.St} {H : Hp} {i : Nat} {s : Sl} {d : PyData} {v : V} (R : Rl K b Fz F δ σ H) (hs : δ[i]? = some s) (ht : s.tree = some d) (hv : σ[i]? = some (some v)) (na : ∀ x j, s ≠ .al x j) :
    ∃ Fz', Same Fz Fz' ∧ Rl K b Fz' (fun k => if k = i then [] else F k) (upS i (.fz d) δ) σ H ∧ Rp K Fz' v d := by
  have h := R.slot i s hs
  rw [hv] at h
  have sF := addF_same (H := H) (g := F i) fun a ha => R.offF i a ha
  have r : Rp K (addF Fz H (F i)) v d := by
    have h2 : SlH K Fz H [] (F i) (some v) s := by
      cases s with
      | al x j => exact absurd rfl (na x j)
      | _ => exact h
    exact h2.treeF ht sF fun a ha => addF_in ha
  have out : ∀ k, k ≠ i → ∀ a ∈ F k, a ∉ F i := fun k hk a ha hi => hk (R.dj k i a ha hi)
  have tb : Tb b (addF Fz H (F i)) H := R.tb.fz fun p hp => addT R.tb (R.noT i) hp
  refine ⟨addF Fz H (F i), sF, R.put sF (addF_le R.le) R.base rfl (fun _ _ => rfl) (.inl rfl) (fun _ => ⟨rfl, v, by rw [hv]; rfl, r⟩) (fun x j z => nomatch z) List.nodup_nil (fun _ z => nomatch z) (fun _ z => nomatch z) (fun _ z => nomatch z) (fun _ z => nomatch z) (fun _ _ _ _ => rfl) (fun k hk a ha => ?_) (fun a ha => ?_), r⟩
  · rw [addF_out (out k hk a ha)]
    exact R.offF k a ha
  · exact addF_out fun hi => ha (R.offB i a hi)
theorem post_take {K : PySem.W.Frag} {mg : Str → Option Value} {W : WX} {b : Bk} {Fz : Hp} {F : Nat → List Addr} {δ : List Sl} {σ : L2.St} {H : Hp} {Q : VK} {i : Nat} {v : V} (R : Rl K b Fz F δ σ H) (hv : σ[i]? = some (some v)) (P : Post K mg W b Fz σ Q (takeI i δ)) : Q v H := by
  unfold takeI at P
  cases q : δ[i]? with
  | none => simp only [q] at P; exact P.elim
  | some s =>
    cases s with
    | no => simp only [q] at P; exact P.elim
    | fz d =>
      simp only [q] at P
      obtain ⟨_, v', e1, e2⟩ := R.slot i _ q
      rw [hv] at e1
      cases e1
      exact P v H Fz F (Same.refl _) R e2
    | ol xs =>
      simp only [q] at P
      obtain ⟨Fz', s1, R', r⟩ := take_ok R q rfl hv (fun _ _ z => nomatch z)
      exact P v H Fz' _ s1 R' r
    | od kvs =>
      simp only [q] at P
      obtain ⟨Fz', s1, R', r⟩ := take_ok R q rfl hv (fun _ _ z => nomatch z)
      exact P v H Fz' _ s1 R' r
    | al x j =>
      simp only [q] at P
      cases q2 : δ[x]? with
      | none => simp only [q2] at P; exact P.elim
      | some t =>
        cases t with
        | ol xs =>
          simp only [q2] at P
          cases q3 : xs[j]? with
          | none => simp only [q3] at P; exact P.elim
          | some el =>
            cases el with
            | ow ys => simp only [q3] at P; exact P.elim
            | fz d =>
              simp only [q3] at P
              obtain ⟨g, e1, _⟩ := R.al q q2 q3 hv
              exact P v H Fz F (Same.refl _) R e1.2
        | _ => simp only [q2] at P; exact P.elim
theorem se_tk (h : SE X W pin e f) : SE X W pin e (sTk f) := pe_mono (se_st h) fun σ H Q ⟨b, Fz, F, δ, hp, R, P⟩ => by
  refine ⟨b, Fz, F, δ, hp, R, ?_⟩
  unfold sTk at P
  cases q : sSt f δ with
  | bad => rw [q] at P; exact P
  | er x δ' => rw [q] at P; exact P
  | ok a δ' =>
    rw [q] at P
    cases a with
    | val d => exact P
    | tmp s => exact P
    | ref i => exact fun v H' Fz' F' s1 R' hv => post_take R' hv (P.le s1)
theorem se_mv (h : SE X W pin e f) : SE X W pin e (sMv f) := pe_mono h fun σ H Q ⟨b, Fz, F, δ, hp, R, P⟩ => by
  refine ⟨b, Fz, F, δ, hp, R, ?_⟩
  unfold sMv at P
  cases q : f δ with
  | bad => rw [q] at P; exact P
  | er x δ' => rw [q] at P; exact P
  | ok a δ' =>
    rw [q] at P
    cases a with
    | val d => exact P
    | tmp s => exact P
    | ref i =>
      intro v H' Fz' F' s1 R' hv
      have hv' : σ[i]? = some (some v) := hv
      have P' := P.le s1
      unfold moveI at P'
      have go : ∀ s : Sl, δ'[i]? = some s → s.tree.isSome = true → (∀ x j, s ≠ .al x j) → (∀ d, s ≠ .fz d) → Post X.K X.mg W b Fz' σ Q (.ok (.tmp s) (upS i .no δ')) → Q v H' := fun s hs ht na nf PP => by
        have h0 := R'.slot i s hs
        rw [hv'] at h0
        have h2 : SlH X.K Fz' H' [] (F' i) (some v) s := by
          cases s with
          | al x j => exact absurd rfl (na x j)
          | _ => exact h0
        have R2 := R'.put (i := i) (s := .no) (g := []) (Same.refl _) R'.le R'.base rfl (fun _ _ => rfl) (.inl rfl) (fun _ => rfl) (fun x j z => nomatch z) List.nodup_nil (fun _ z => nomatch z) (fun _ z => nomatch z) (fun _ z => nomatch z) (fun _ z => nomatch z) (fun _ _ _ _ => rfl) (fun k _ a ha => R'.offF k a ha) (fun _ _ => rfl)
        refine PP v H' Fz' _ (Same.refl _) R2 ⟨ht, F' i, h2, R'.nd i, fun a ha => ⟨R'.offF i a ha, R'.offB i a ha, R'.on i a ha, fun k hk => ?_⟩⟩
        have hk' : a ∈ (if k = i then [] else F' k) := hk
        by_cases e : k = i
        · rw [if_pos e] at hk'
          cases hk'
        · rw [if_neg e] at hk'
          exact e (R'.dj k i a hk' ha)
      cases q2 : δ'[i]? with
      | none => simp only [q2] at P'; exact P'.elim
      | some s =>
        cases s with
        | no => simp only [q2] at P'; exact P'.elim
        | fz d =>
          simp only [q2] at P'
          obtain ⟨_, v', e1, e2⟩ := R'.slot i _ q2
          rw [hv'] at e1
          cases e1
          exact P' v H' Fz' F' (Same.refl _) R' e2
        | ol xs =>
          simp only [q2] at P'
          exact go _ q2 rfl (fun _ _ z => nomatch z) (fun _ z => nomatch z) P'
        | od kvs =>
          simp only [q2] at P'
          exact go _ q2 rfl (fun _ _ z => nomatch z) (fun _ z => nomatch z) P'
        | al x j => simp only [q2] at P'; exact P'.elim
end
def sC (d : PyData) : List Sl → Rs AV := fun δ => .ok (.val d) δ
def sVar (i : Nat) : List Sl → Rs AV := fun δ => match δ[i]? with
  | some (.fz d) => .ok (.val d) δ
  | some (.ol _) => .ok (.ref i) δ
  | some (.od _) => .ok (.ref i) δ
  | some (.al _ _) => .ok (.ref i) δ
  | _ => .bad
section
variable {X : Cx} {W : WX} {pin : List Nat} {pos : Pos}
theorem se_int {i : Int} {j : Nat} : SE X W pin (.Constant (.int i) j pos) (sC (.int i)) := pe_mono pe_int fun σ H Q ⟨b, Fz, F, δ, hp, R, P⟩ => P _ H Fz F (Same.refl _) R (.int i)
theorem se_non {j : Nat} : SE X W pin (.Constant .none j pos) (sC .none) := pe_mono pe_non fun σ H Q ⟨b, Fz, F, δ, hp, R, P⟩ => P _ H Fz F (Same.refl _) R .non
theorem se_str {x : Str} {j : Nat} : SE X W pin (.Constant (.str x) j pos) (sC (.str x)) := pe_mono pe_str fun σ H Q ⟨b, Fz, F, δ, hp, R, P⟩ => P _ H Fz F (Same.refl _) R (.str x)
theorem post_var {K : PySem.W.Frag} {mg : Str → Option Value} {b : Bk} {Fz : Hp} {F : Nat → List Addr} {δ : List Sl} {σ : L2.St} {H : Hp} {Q : VK} {i : Nat} (R : Rl K b Fz F δ σ H) (P : Post K mg W b Fz σ Q (sVar i δ)) : ∃ v, σ[i]? = some (some v) ∧ Q v H := by
  unfold sVar at P
  cases q : δ[i]? with
  | none => simp only [q] at P; exact P.elim
  | some s =>
    have h := R.slot i s q
    cases s with
    | no => simp only [q] at P; exact P.elim
    | fz d =>
      simp only [q] at P
      obtain ⟨_, v, e1, e2⟩ := h
      exact ⟨v, join_some e1, P v H Fz F (Same.refl _) R e2⟩
    | ol xs =>
      simp only [q] at P
      obtain ⟨a, vs, g, e1, _⟩ := h
      exact ⟨_, join_some e1, P _ H Fz F (Same.refl _) R (join_some e1)⟩
    | od kvs =>
      simp only [q] at P
      obtain ⟨a, e1, _⟩ := h
      exact ⟨_, join_some e1, P _ H Fz F (Same.refl _) R (join_some e1)⟩
    | al x j =>
      simp only [q] at P
      obtain ⟨_, a, c, vs, _, _, _, e1⟩ := h
      exact ⟨_, join_some e1, P _ H Fz F (Same.refl _) R (join_some e1)⟩
theorem se_var (i : Nat) {x : Str} (hN : X.N[i]? = some x := by rfl) (hv : Vis X.env.scope x := by first | exact Or.inl rfl | exact Or.inr (Or.inl rfl) | exact Or.inr (Or.inr rfl)) (hd : (x == ("__debug__" : Str)) = false := by decide)
    (hcd : (x == ("__classdict__" : Str)) = false := by decide) : SE X W pin (.Name x pos) (sVar i) := pe_mono (pe_var hN hv hd hcd) fun σ H Q ⟨b, Fz, F, δ, hp, R, P⟩ => post_var R P
end
def s2 (g : AV → AV → List Sl → Rs AV) (fa fb : List Sl → Rs AV) : List Sl → Rs AV := fun δ => (sSt fa δ).bind fun x δ1 => (sSt fb δ1).bind fun y δ2 => g x y δ2
def s1 (g : AV → List Sl → Rs AV) (fa : List Sl → Rs AV) : List Sl → Rs AV := fun δ => (sSt fa δ).bind fun x δ1 => g x δ1
section
variable (K : PySem.W.Frag) (mg : Str → Option Value) (W : WX) (pin : List Nat)
def V2 (r : R2) (g : AV → AV → List Sl → Rs AV) : Prop := ∀ b Fz F δ σ H v w x y Q, b.pin = pin → Rl K b Fz F δ σ H → AvS K Fz σ v x → AvS K Fz σ w y → Post K mg W b Fz σ Q (g x y δ) → r v w H Q
end
section
variable {X : Cx} {W : WX} {pin : List Nat} {fa fb : List Sl → Rs AV}
theorem sSt_notmp (f : List Sl → Rs AV) (δ : List Sl) (s : Sl) (δ' : List Sl) : sSt f δ ≠ .ok (.tmp s) δ' := by
  unfold sSt
  cases q : f δ with
  | bad => exact fun z => nomatch z
  | er x δ' => exact fun z => nomatch z
  | ok a δ2 =>
    cases a with
    | val d => exact fun z => nomatch z
    | ref i => exact fun z => nomatch z
    | tmp t =>
      cases q2 : t.tree with
      | none => simp only [q2]; exact fun z => nomatch z
      | some d => simp only [q2]; exact fun z => nomatch z
/-- behind one stable operand -/
theorem rd_bind {K : PySem.W.Frag} {mg : Str → Option Value} {σ : L2.St} {H : Hp} {b : Bk} {Fz : Hp} {F : Nat → List Addr} {δ : List Sl} {k : AV → List Sl → Rs AV} {Q R : VK} (hp : b.pin = pin) (Rr : Rl K b Fz F δ σ H) (P : Post K mg W b Fz σ Q ((sSt fa δ).bind k))
    (h : ∀ v H' Fz' F' x δ', Same Fz Fz' → Rl K b Fz' F' δ' σ H' → AvS K Fz' σ v x → Post K mg W b Fz' σ Q (k x δ') → R v H') : rdE K mg W pin (sSt fa) σ H R := by
  refine ⟨b, Fz, F, δ, hp, Rr, ?_⟩
  cases q : sSt fa δ with
  | bad => rw [q] at P; exact P
  | er x δ' => rw [q] at P; exact P
  | ok a δ' =>
    rw [q] at P
    intro v H' Fz' F' s R' A
    cases a with
    | tmp t => exact absurd q (sSt_notmp _ _ _ _)
    | val d => exact h v H' Fz' F' (.val d) δ' s R' A (Post.le s P)
    | ref i => exact h v H' Fz' F' (.ref i) δ' s R' A (Post.le s P)
theorem t2_ok {a c : Expr} {g : AV → AV → List Sl → Rs AV} {r : R2} (hv : V2 X.K X.mg W pin r g) : ∀ σ H Q, rdE X.K X.mg W pin (s2 g fa fb) σ H Q → tOp r (rdE X.K X.mg W pin (sSt fa)) (rdE X.K X.mg W pin (sSt fb)) σ H Q := fun σ H Q ⟨b, Fz, F, δ, hp, R, P⟩ => by
  refine rd_bind hp R P fun v H1 Fz1 F1 x δ1 s1 R1 A1 P1 => ?_
  refine rd_bind hp R1 P1 fun w H2 Fz2 F2 y δ2 s2 R2 A2 P2 => ?_
  exact hv b Fz2 F2 δ2 σ H2 v w x y Q hp R2 (A1.le s2) A2 P2
theorem se_bin {a c : Expr} {op : Operator} {pos : Pos} {g : AV → AV → List Sl → Rs AV} {r : R2} (ho : OpR X (binaryOp op) r) (hv : V2 X.K X.mg W pin r g) (ha : SE X W pin a fa) (hb : SE X W pin c fb) : SE X W pin (.BinOp a op c pos) (s2 g fa fb) :=
  pe_mono (pe_op ho (se_st ha) (se_st hb)) (t2_ok (a := a) (c := c) hv)
theorem se_cmp {a c : Expr} {op : CmpOp} {pos : Pos} {g : AV → AV → List Sl → Rs AV} {r : R2} (ho : OpR X (compareOp op) r) (hv : V2 X.K X.mg W pin r g) (ha : SE X W pin a fa) (hb : SE X W pin c fb) (hm : behindInMarks op c = false) : SE X W pin (.Compare a [op] [c] pos) (s2 g fa fb) :=
  pe_mono (pe_cmpR ho (se_st ha) (se_st hb) hm) (t2_ok (a := a) (c := c) hv)
/-- a test by a comparison -/
def sTst (f : List Sl → Rs AV) : List Sl → Rs Bool := fun δ => (f δ).bind fun a δ' => match a with
  | .val (.bool k) => .ok k δ'
  | _ => .bad
theorem tst_ok {K : PySem.W.Frag} {mg : Str → Option Value} {f : List Sl → Rs AV} : ∀ σ H Q, rdT K mg W pin (sTst f) σ H Q → rdE K mg W pin f σ H (fun x H' => ∃ k, x = .bl k ∧ Q k H') := fun σ H Q ⟨b, Fz, F, δ, hp, R, P⟩ => by
  refine ⟨b, Fz, F, δ, hp, R, ?_⟩
  unfold sTst at P
  cases q : f δ with
  | bad => rw [q] at P; exact P
  | er x δ' => rw [q] at P; exact P
  | ok a δ' =>
    rw [q] at P
    cases a with
    | tmp s => exact P.elim
    | ref i => exact P.elim
    | val d =>
      cases d with
      | bool k =>
        intro v H' Fz' F' s R' A
        cases (show Rp K Fz' v (.bool k) from A)
        exact ⟨k, rfl, P H' Fz' F' s R'⟩
      | _ => exact P.elim
theorem st_cmp {a c : Expr} {op : CmpOp} {pos : Pos} {g : AV → AV → List Sl → Rs AV} {r : R2} (ho : OpR X (compareOp op) r) (hv : V2 X.K X.mg W pin r g) (ha : SE X W pin a fa) (hb : SE X W pin c fb) (hm : behindInMarks op c = false) : ST X W pin (.Compare a [op] [c] pos) (sTst (s2 g fa fb)) :=
  pt_mono (pt_cmpR ho (se_st ha) (se_st hb) hm) fun σ H Q h => t2_ok (a := a) (c := c) hv σ H _ (tst_ok σ H Q h)
def truD : PyData → Option Bool
  | .none => some false
  | .bool b => some b
  | .int i => some (i != 0)
  | .list ds => some !ds.isEmpty
  | .tuple ds => some !ds.isEmpty
  | _ => none
theorem RpL.isEmpty {K : PySem.W.Frag} {H : Hp} {vs : List V} {ds : List PyData} (h : RpL K H vs ds) : vs.isEmpty = ds.isEmpty := by
  cases h <;> rfl
theorem truD_ok {K : PySem.W.Frag} {H : Hp} {v : V} {d : PyData} {k : Bool} (r : Rp K H v d) (h : truD d = some k) : TruV K v H k := by
  cases r with
  | non => cases h; rfl
  | bl b => cases h; rfl
  | int i => cases h; rfl
  | str x => cases h
  | lst h1 h2 => cases h; exact .inl ⟨_, h1.sq, by rw [h2.isEmpty]⟩
  | tup h1 h2 => cases h; exact .inr (.inl ⟨_, SqT.of h1, by rw [h2.isEmpty]⟩)
  | dK h1 h2 => cases h
  | dT h1 h2 => cases h
def sTru (f : List Sl → Rs AV) : List Sl → Rs Bool := fun δ => (sSt f δ).bind fun a δ' => match (rdA δ' a).bind truD with
  | some k => .ok k δ'
  | none => .bad
theorem rd_bindT {K : PySem.W.Frag} {mg : Str → Option Value} {σ : L2.St} {H : Hp} {b : Bk} {Fz : Hp} {F : Nat → List Addr} {δ : List Sl} {k : AV → List Sl → Rs Bool} {Q : Bool → Hp → Prop} {R : VK} (hp : b.pin = pin) (Rr : Rl K b Fz F δ σ H) (P : PostT K mg W b Fz σ Q ((sSt fa δ).bind k))
    (h : ∀ v H' Fz' F' x δ', Same Fz Fz' → Rl K b Fz' F' δ' σ H' → AvS K Fz' σ v x → PostT K mg W b Fz' σ Q (k x δ') → R v H') : rdE K mg W pin (sSt fa) σ H R := by
  refine ⟨b, Fz, F, δ, hp, Rr, ?_⟩
  cases q : sSt fa δ with
  | bad => rw [q] at P; exact P
  | er x δ' => rw [q] at P; exact P
  | ok a δ' =>
    rw [q] at P
    intro v H' Fz' F' s R' A
    cases a with
    | tmp t => exact absurd q (sSt_notmp _ _ _ _)
    | val d => exact h v H' Fz' F' (.val d) δ' s R' A (PostT.le s P)
    | ref i => exact h v H' Fz' F' (.ref i) δ' s R' A (PostT.le s P)
theorem tru_mono {K : PySem.W.Frag} {mg : Str → Option Value} : ∀ σ H Q, rdT K mg W pin (sTru fa) σ H Q → rdE K mg W pin (sSt fa) σ H fun x H' => ∃ k, TruV K x H' k ∧ Q k H' := fun σ H Q ⟨b, Fz, F, δ, hp, R, P⟩ => by
  refine rd_bindT hp R P fun v H1 Fz1 F1 x δ1 s1 R1 A1 P1 => ?_
  cases q : rdA δ1 x with
  | none => simp only [q, Option.bind_none] at P1; exact P1.elim
  | some d =>
    cases q2 : truD d with
    | none => simp only [q, Option.bind_some, q2] at P1; exact P1.elim
    | some k =>
      simp only [q, Option.bind_some, q2] at P1
      exact ⟨k, truD_ok (rdA_ok R1 A1 q) q2, P1 H1 Fz1 F1 (Same.refl _) R1⟩
theorem st_tru {a : Expr} (ha : SE X W pin a fa) (he : ∀ whole, isTrue a X.env whole = (do let v ← whole; standAt a.pos; holding [v] (truthy v)) := by intro _; rfl) : ST X W pin a (sTru fa) :=
  pt_mono (pt_truth (se_st ha) he) fun σ H Q h => tru_mono σ H Q h
def sNot (t : List Sl → Rs Bool) : List Sl → Rs Bool := fun δ => (t δ).bind fun k δ' => .ok (!k) δ'
section
variable {K : PySem.W.Frag} {mg : Str → Option Value} {σ : L2.St} {H : Hp} {b : Bk} {Fz : Hp} {F : Nat → List Addr} {δ : List Sl} {t : List Sl → Rs Bool}
theorem rdT_bind {k : Bool → List Sl → Rs Bool} {Q : Bool → Hp → Prop} {R : Bool → Hp → Prop} (hp : b.pin = pin) (Rr : Rl K b Fz F δ σ H) (P : PostT K mg W b Fz σ Q ((t δ).bind k))
    (h : ∀ c H' Fz' F' δ', Same Fz Fz' → Rl K b Fz' F' δ' σ H' → PostT K mg W b Fz' σ Q (k c δ') → R c H') : rdT K mg W pin t σ H R := by
  refine ⟨b, Fz, F, δ, hp, Rr, ?_⟩
  cases q : t δ with
  | bad => rw [q] at P; exact P
  | er x δ' => rw [q] at P; exact P
  | ok a δ' =>
    rw [q] at P
    exact fun H' Fz' F' s R' => h a H' Fz' F' δ' s R' (PostT.le s P)
end
variable {a c d : Expr} {rest : List Expr} {pos : Pos} {t u : List Sl → Rs Bool} {f g : List Sl → Rs AV}
theorem st_not (h : ST X W pin a t) : ST X W pin (.UnaryOp .Not a pos) (sNot t) := pt_mono (pt_not h) fun σ H Q ⟨b, Fz, F, δ, hp, R, P⟩ =>
  rdT_bind hp R P fun c H' Fz' F' δ' s R' P' => P' H' Fz' F' (Same.refl _) R'
/-- and, or, not as values: the value's truth decides -/
def sAndV (f g : List Sl → Rs AV) : List Sl → Rs AV := fun δ => (sSt f δ).bind fun a δ' => match (rdA δ' a).bind truD with
  | some k => if k = true then g δ' else .ok a δ'
  | none => .bad
end
end Hb
namespace Hb
open PySem PySem.Spec PyProof.Rows L2
abbrev cap : Nat := 1000000
theorem cap_line : cap + cap < sizeLine := by rw [sizeLine_eq]; decide
theorem le_line {n : Nat} (h : n ≤ cap) : n ≤ sizeLine := Nat.le_trans h (by rw [sizeLine_eq]; decide)
theorem lt_line {n : Nat} (h : n ≤ cap) : n < sizeLine := Nat.lt_of_le_of_lt h (by rw [sizeLine_eq]; decide)
def gI (C : Int → Int → Bool) (g : Int → Int → Int) (x y : AV) (δ : List Sl) : Rs AV := match rdC δ x, rdC δ y with
  | some (.int i), some (.int j) => if C i j = true then .ok (.val (.int (g i j))) δ else .bad
  | _, _ => .bad
def gB (g : Int → Int → Bool) (x y : AV) (δ : List Sl) : Rs AV := match rdC δ x, rdC δ y with
  | some (.int i), some (.int j) => .ok (.val (.bool (g i j))) δ
  | _, _ => .bad
theorem rpc_int {K : PySem.W.Frag} {Fz H : Hp} {v : V} {i : Int} (h : RpC K Fz H v (.int i)) : v = .int i := by
  rcases h with h | ⟨a, vs, ds, e1, e2, _⟩
  · cases h; rfl
  · cases e2
theorem rpc_str {K : PySem.W.Frag} {Fz H : Hp} {v : V} {i : Str} (h : RpC K Fz H v (.str i)) : v = .str i := by
  rcases h with h | ⟨a, vs, ds, e1, e2, _⟩
  · cases h; rfl
  · cases e2
section
variable {K : PySem.W.Frag} {mg : Str → Option Value} {W : WX} {pin : List Nat}
theorem v2_i {C : Int → Int → Bool} {C' : Int → Int → Prop} {g : Int → Int → Int} (hC : ∀ i j, C i j = true → C' i j) : V2 K mg W pin (rI C' fun i j => .int (g i j)) (gI C g) := by
  intro b Fz F δ σ H v w x y Q hp R A B P
  unfold gI at P
  cases q1 : rdC δ x with
  | none => simp only [q1] at P; exact P.elim
  | some d =>
    cases q2 : rdC δ y with
    | none => cases d <;> (simp only [q1, q2] at P; exact P.elim)
    | some e =>
      cases d with
      | int i =>
        cases e with
        | int j =>
          simp only [q1, q2] at P
          by_cases c : C i j = true
          · rw [if_pos c] at P
            exact ⟨i, j, rpc_int (rdC_ok R A q1), rpc_int (rdC_ok R B q2), hC i j c, P _ H Fz F (Same.refl _) R (.int _)⟩
          · rw [if_neg c] at P
            exact P.elim
        | _ => simp only [q1, q2] at P; exact P.elim
      | _ => simp only [q1, q2] at P; exact P.elim
theorem v2_b {g : Int → Int → Bool} : V2 K mg W pin (rI0 fun i j => .bl (g i j)) (gB g) := by
  intro b Fz F δ σ H v w x y Q hp R A B P
  unfold gB at P
  cases q1 : rdC δ x with
  | none => simp only [q1] at P; exact P.elim
  | some d =>
    cases q2 : rdC δ y with
    | none => cases d <;> (simp only [q1, q2] at P; exact P.elim)
    | some e =>
      cases d with
      | int i =>
        cases e with
        | int j =>
          simp only [q1, q2] at P
          exact ⟨i, j, rpc_int (rdC_ok R A q1), rpc_int (rdC_ok R B q2), P _ H Fz F (Same.refl _) R (.bl _)⟩
        | _ => simp only [q1, q2] at P; exact P.elim
      | _ => simp only [q1, q2] at P; exact P.elim
end
def yes2 : Int → Int → Bool := fun _ _ => true
abbrev gMod := gI (fun _ j => decide (0 < j)) (· % ·)
abbrev gLt := gB fun i j => decide (i < j)
abbrev gGe := gB fun i j => decide (j ≤ i)
section
variable {X : Cx} {W : WX} {pin : List Nat} {fa fb : List Sl → Rs AV} {a c : Expr} {pos : Pos}
theorem se_mod (ha : SE X W pin a fa) (hb : SE X W pin c fb) : SE X W pin (.BinOp a .Mod c pos) (s2 gMod fa fb) := se_bin op_mod (v2_i fun _ _ h => of_decide_eq_true h) ha hb
theorem se_lt (ha : SE X W pin a fa) (hb : SE X W pin c fb) : SE X W pin (.Compare a [.Lt] [c] pos) (s2 gLt fa fb) := se_cmp op_lt v2_b ha hb (nomark _)
theorem st_ge (ha : SE X W pin a fa) (hb : SE X W pin c fb) : ST X W pin (.Compare a [.GtE] [c] pos) (sTst (s2 gGe fa fb)) := st_cmp op_ge v2_b ha hb (nomark _)
end
def rCatX (K : PySem.W.Frag) : R2 := fun x y H Q => ∃ l b xs zs, x = .ref l ∧ y = .ref b ∧ SqX K H l xs ∧ SqX K H b zs ∧ xs.length + zs.length ≤ sizeLine ∧ ∀ p, H p = none → Q (.ref p) (upd H p (.lst (xs ++ zs)))
theorem op_catX {X : Cx} : OpR X (binaryOp .Add) (rCatX X.K) := by
  intro pins s σ H x y v u Q I rx ry h
  obtain ⟨l, b, xs, zs, e1, e2, hX, hZ, hz, q⟩ := h
  subst e1 e2
  cases rx
  cases ry
  obtain ⟨i1, n1, r1, g1, z1⟩ := inv_lstX I hX
  obtain ⟨i2, n2, r2, g2, z2⟩ := inv_lstX I hZ
  have l1 := r1.length
  have l2 := r2.length
  refine PySem.P.add_list g1 g2 ?_ (by rw [List.size_toArray, List.size_toArray, ← l1, ← l2]; exact hz)
  rw [show i1.toArray ++ i2.toArray = (i1 ++ i2).toArray by simp]
  exact ⟨.ref _, _, I.lnew (t' := s.toks) (r1.append r2) (by rw [List.length_append]; exact hz), rfl, q _ I.fresh⟩
def rStrCat : R2 := fun x y H Q => ∃ i j, x = .str i ∧ y = .str j ∧ i.length + j.length ≤ sizeLine ∧ Q (.str (i ++ j)) H
def rAddU (K : PySem.W.Frag) : R2 := fun x y H Q => ((rI0 (fun i j => .int (i + j)) x y H Q ∨ rCatX K x y H Q) ∨ rStrCat x y H Q) ∨ rCatA K x y H Q
theorem op_addU {X : Cx} : OpR X (binaryOp .Add) (rAddU X.K) := OpR.or (OpR.or (OpR.or op_add op_catX) op_add_str) op_catA
def gAdd (x y : AV) (δ : List Sl) : Rs AV := match rdC δ x, rdC δ y with
  | some (.int i), some (.int j) => .ok (.val (.int (i + j))) δ
  | some (.list ds), some (.list es) => if ds.length ≤ cap ∧ es.length ≤ cap then .ok (.tmp (.ol ((ds ++ es).map .fz))) δ else .bad
  | some (.str s), some (.str t) => if s.length ≤ cap ∧ t.length ≤ cap then .ok (.val (.str (s ++ t))) δ else .bad
  | some (.tuple ds), some (.tuple es) => if ds.length ≤ cap ∧ es.length ≤ cap then .ok (.val (.tuple (ds ++ es))) δ else .bad
  | _, _ => .bad
section
variable {K : PySem.W.Frag} {mg : Str → Option Value} {W : WX} {pin : List Nat}
theorem v2_add : V2 K mg W pin (rAddU K) gAdd := by
  intro b Fz F δ σ H v w x y Q hp R A B P
  unfold gAdd at P
  cases q1 : rdC δ x with
  | none => simp only [q1] at P; exact P.elim
  | some d =>
    cases q2 : rdC δ y with
    | none => cases d <;> (simp only [q1, q2] at P; exact P.elim)
    | some e =>
      have h1 := rdC_ok R A q1
      have h2 := rdC_ok R B q2
      have cl := cap_line
      cases d with
      | int i =>
        cases e with
        | int j =>
          simp only [q1, q2] at P
          exact .inl (.inl (.inl ⟨i, j, rpc_int h1, rpc_int h2, P _ H Fz F (Same.refl _) R (.int _)⟩))
        | _ => simp only [q1, q2] at P; exact P.elim
      | str i =>
        cases e with
        | str j =>
          simp only [q1, q2] at P
          by_cases c : i.length ≤ cap ∧ j.length ≤ cap
          · rw [if_pos c] at P
            exact .inl (.inr ⟨i, j, rpc_str h1, rpc_str h2, by omega, P _ H Fz F (Same.refl _) R (.str _)⟩)
          · rw [if_neg c] at P; exact P.elim
        | _ => simp only [q1, q2] at P; exact P.elim
      | list ds =>
        cases e with
        | list es =>
          simp only [q1, q2] at P
          by_cases c : ds.length ≤ cap ∧ es.length ≤ cap
          · rw [if_pos c] at P
            obtain ⟨a1, v1, e1, s1, r1⟩ := h1.list R.le
            obtain ⟨a2, v2, e2, s2, r2⟩ := h2.list R.le
            have l1 := r1.len
            have l2 := r2.len
            exact .inl (.inl (.inr ⟨a1, a2, v1, v2, e1, e2, s1, s2, by omega, post_newL R (r1.append r2) P⟩))
          · rw [if_neg c] at P; exact P.elim
        | _ => simp only [q1, q2] at P; exact P.elim
      | tuple ds =>
        cases e with
        | tuple es =>
          simp only [q1, q2] at P
          by_cases c : ds.length ≤ cap ∧ es.length ≤ cap
          · rw [if_pos c] at P
            have k1 : Rp K Fz v (.tuple ds) := by
              rcases h1 with h | ⟨_, _, _, _, e2, _⟩
              · exact h
              · cases e2
            have k2 : Rp K Fz w (.tuple es) := by
              rcases h2 with h | ⟨_, _, _, _, e2, _⟩
              · exact h
              · cases e2
            obtain ⟨a1, v1, e1, s1, r1⟩ := h1.tup R.le
            obtain ⟨a2, v2, e2, s2, r2⟩ := h2.tup R.le
            have l1 := r1.len
            have l2 := r2.len
            refine .inr ⟨a1, a2, v1, v2, e1, e2, s1, s2, by omega, fun z => ?_, fun _ z => ?_, fun _ _ => post_newT R (r1.append r2) P⟩
            · subst z
              cases r1
              rw [← e2]
              exact P w H Fz F (Same.refl _) R k2
            · subst z
              cases r2
              rw [← e1]
              rw [List.append_nil] at P
              exact P v H Fz F (Same.refl _) R k1
          · rw [if_neg c] at P; exact P.elim
        | _ => simp only [q1, q2] at P; exact P.elim
      | _ => simp only [q1, q2] at P; exact P.elim
end
theorem se_add {X : Cx} {W : WX} {pin : List Nat} {fa fb : List Sl → Rs AV} {a c : Expr} {pos : Pos} (ha : SE X W pin a fa) (hb : SE X W pin c fb) : SE X W pin (.BinOp a .Add c pos) (s2 gAdd fa fb) := se_bin op_addU v2_add ha hb
def eqD (d e : PyData) : Option Bool := if SeqAt.shaped d = true ∧ SeqAt.shaped e = true then some (PyData.eqv d e) else none
def gEq (x y : AV) (δ : List Sl) : Rs AV := match rdA δ x, rdA δ y with
  | some d, some e => (match eqD d e with
    | some k => .ok (.val (.bool k)) δ
    | none => .bad)
  | _, _ => .bad
def gNe (x y : AV) (δ : List Sl) : Rs AV := match rdA δ x, rdA δ y with
  | some d, some e => (match eqD d e with
    | some k => .ok (.val (.bool !k)) δ
    | none => .bad)
  | _, _ => .bad
def flatD : PyData → Bool
  | .none | .bool _ | .int _ | .str _ => true
  | _ => false
/-- the item at a place, a tree that stands still -/
def itemD : PyData → PyData → Option PyData
  | .list ds, .int i => atI ds i
  | .tuple ds, .int i => atI ds i
  | _, _ => none
def El.fzd : El → Option PyData
  | .fz d => some d
  | .ow _ => none
def itemA (δ : List Sl) (x : AV) (i : PyData) : Option PyData := match x with
  | .val d => itemD d i
  | .ref k => match δ[k]? with
    | some (.fz d) => itemD d i
    | some (.ol xs) => (match i with
      | .int i => (atI xs i).bind El.fzd
      | _ => none)
    | some (.al x j) => (match δ[x]? with
      | some (.ol xs) => (match xs[j]? with
        | some (.ow ys) => itemD (.list ys) i
        | some (.fz d) => itemD d i
        | none => none)
      | _ => none)
    | _ => none
  | .tmp _ => none
def gIx (x y : AV) (δ : List Sl) : Rs AV := match rdC δ y with
  | some i => (match itemA δ x i with
    | some d => .ok (.val d) δ
    | none => .bad)
  | none => .bad
theorem atI_map {α β : Type} {f : α → β} {xs : List α} {i : Int} : atI (xs.map f) i = (atI xs i).map f := by
  unfold atI
  rw [List.length_map]
  cases ixN xs.length i with
  | none => rfl
  | some j => simp
theorem rpl_at {K : PySem.W.Frag} {H : Hp} {vs : List V} {ds : List PyData} {i : Int} {d : PyData} (h : RpL K H vs ds) (e : atI ds i = some d) : ∃ v, atI vs i = some v ∧ Rp K H v d := by
  unfold atI at e ⊢
  rw [h.len]
  cases q : ixN ds.length i with
  | none => rw [q] at e; cases e
  | some j =>
    rw [q] at e
    exact h.get e
def rIxU (K : PySem.W.Frag) : R2 := fun x y H Q => rIxL K x y H Q ∨ rIxT K x y H Q
theorem ix_U {X : Cx} : IxR X (rIxU X.K) := IxR.or ix_list ix_tup
theorem itemD_ok {K : PySem.W.Frag} {Fz H : Hp} {v w : V} {d i r : PyData} {Q : VK} (le : Same Fz H) (h : RpC K Fz H v d) (h2 : RpC K Fz H w i) (e : itemD d i = some r) (q : ∀ u, Rp K Fz u r → Q u H) : rIxU K v w H Q := by
  cases d with
  | list ds =>
    cases i with
    | int i =>
      obtain ⟨a, vs, e1, s1, r1⟩ := h.list le
      obtain ⟨u, e2, r2⟩ := rpl_at r1 (show atI ds i = some r from e)
      exact .inl ⟨a, vs, i, u, e1, rpc_int h2, s1.sq, e2, q u r2⟩
    | _ => cases e
  | tuple ds =>
    cases i with
    | int i =>
      obtain ⟨a, vs, e1, s1, r1⟩ := h.tup le
      obtain ⟨u, e2, r2⟩ := rpl_at r1 (show atI ds i = some r from e)
      exact .inr ⟨a, vs, i, u, e1, rpc_int h2, s1, e2, q u r2⟩
    | _ => cases e
  | _ => cases i <;> cases e
theorem ElL.len {K : PySem.W.Frag} {Fz H : Hp} : ∀ {f : List Addr} {vs : List V} {es : List El}, ElL K Fz H f vs es → vs.length = es.length
  | _, _, _, .nil => rfl
  | _, _, _, .cons _ t => by simp [ElL.len t]
theorem ElL.atI {K : PySem.W.Frag} {Fz H : Hp} {f : List Addr} {vs : List V} {es : List El} {i : Int} {e : El} (h : ElL K Fz H f vs es) (q : L2.atI es i = some e) : ∃ v g, L2.atI vs i = some v ∧ ElR K Fz H g v e := by
  unfold L2.atI at q ⊢
  rw [h.len]
  cases q1 : ixN es.length i with
  | none => rw [q1] at q; cases q
  | some j =>
    rw [q1] at q
    obtain ⟨v, g, e1, e2, _⟩ := h.at_ (j := j) q
    exact ⟨v, g, e1, e2⟩
theorem v2_ix {K : PySem.W.Frag} {mg : Str → Option Value} {W : WX} {pin : List Nat} : V2 K mg W pin (rIxU K) gIx := by
  intro b Fz F δ σ H v w x y Q hp R A B P
  unfold gIx at P
  cases q1 : rdC δ y with
  | none => simp only [q1] at P; exact P.elim
  | some i =>
    cases q2 : itemA δ x i with
    | none => simp only [q1, q2] at P; exact P.elim
    | some r =>
      simp only [q1, q2] at P
      have h2 := rdC_ok R B q1
      have fin : ∀ u, Rp K Fz u r → Q u H := fun u hu => P u H Fz F (Same.refl _) R hu
      cases x with
      | val d => exact itemD_ok R.le (.inl A) h2 q2 fin
      | tmp s => exact False.elim A
      | ref k =>
        have hv : σ[k]? = some (some v) := A
        unfold itemA at q2
        cases q3 : δ[k]? with
        | none => simp only [q3] at q2; cases q2
        | some s =>
          have hs := R.slot k s q3
          rw [hv] at hs
          cases s with
          | no => simp only [q3] at q2; cases q2
          | od kvs => simp only [q3] at q2; cases q2
          | fz d =>
            simp only [q3] at q2
            obtain ⟨_, v', e1, e2⟩ := hs
            cases e1
            exact itemD_ok R.le (.inl e2) h2 q2 fin
          | ol xs =>
            cases i with
            | int n =>
              simp only [q3] at q2
              cases q4 : atI xs n with
              | none => rw [q4] at q2; cases q2
              | some e =>
                rw [q4] at q2
                cases e with
                | ow ys => cases q2
                | fz d =>
                  cases q2
                  obtain ⟨a, vs, g, e1, e2, e3, e4⟩ := hs
                  cases e1
                  obtain ⟨u, g', f1, f2⟩ := e4.atI q4
                  exact .inl ⟨a, vs, n, u, rfl, rpc_int h2, SqL.of e3, f1, fin u f2.2⟩
            | _ => simp only [q3] at q2; cases q2
          | al x j =>
            simp only [q3] at q2
            cases q4 : δ[x]? with
            | none => simp only [q4] at q2; cases q2
            | some t =>
              cases t with
              | ol xs =>
                simp only [q4] at q2
                cases q5 : xs[j]? with
                | none => simp only [q5] at q2; cases q2
                | some e =>
                  obtain ⟨g, e1, _⟩ := R.al q3 q4 q5 hv
                  cases e with
                  | fz d =>
                    simp only [q5] at q2
                    exact itemD_ok R.le (.inl e1.2) h2 q2 fin
                  | ow ys =>
                    simp only [q5] at q2
                    obtain ⟨a, vs, f1, _, f3, f4⟩ := e1
                    exact itemD_ok R.le (.inr ⟨a, vs, ys, f1, rfl, f3, f4⟩) h2 q2 fin
              | _ => simp only [q4] at q2; cases q2
def cutD (ds : List PyData) (lo hi : Option Int) : List PyData := (ds.drop (HT.sIx ds.length 0 lo)).take (HT.sIx ds.length ds.length hi - HT.sIx ds.length 0 lo)
theorem rpl_cut {K : PySem.W.Frag} {H : Hp} {vs : List V} {ds : List PyData} (h : RpL K H vs ds) (lo hi : Option Int) : RpL K H (cutV vs lo hi) (cutD ds lo hi) := by
  unfold cutV cutD
  rw [h.len]
  exact (h.drop _).take _
def gSl (x : AV) (lo hi : Option Int) (δ : List Sl) : Rs AV := match rdC δ x with
  | some (.list ds) => .ok (.tmp (.ol ((cutD ds lo hi).map .fz))) δ
  | some (.tuple ds) => .ok (.val (.tuple (cutD ds lo hi))) δ
  | _ => .bad
end Hb
namespace Hb
open PySem PySem.Spec PyProof.Rows L2
def sPartO : Option (List Sl → Rs AV) → List Sl → Rs (Option Int)
  | none => fun δ => .ok none δ
  | some f => fun δ => (sSt f δ).bind fun a δ' => match rdC δ' a with
    | some (.int i) => .ok (some i) δ'
    | _ => .bad
def rdP (K : PySem.W.Frag) (mg : Str → Option Value) (W : WX) (pin : List Nat) : Option (List Sl → Rs AV) → TO
  | none => tNoPart
  | some f => tPart (rdE K mg W pin (sSt f))
inductive SPO (X : Cx) (W : WX) (pin : List Nat) : Option Expr → Option (List Sl → Rs AV) → Prop
  | no : SPO X W pin none none
  | yes {e : Expr} {f : List Sl → Rs AV} : SE X W pin e f → SPO X W pin (some e) (some f)
theorem SPO.po {X : Cx} {W : WX} {pin : List Nat} {e : Option Expr} {f : Option (List Sl → Rs AV)} (h : SPO X W pin e f) : PO X e (rdP X.K X.mg W pin f) := by
  cases h with
  | no => exact po_none
  | yes h => exact po_some (se_st h)
section
variable {K : PySem.W.Frag} {mg : Str → Option Value} {W : WX} {pin : List Nat}
theorem rdP_bind {o : Option (List Sl → Rs AV)} {σ : L2.St} {H : Hp} {b : Bk} {Fz : Hp} {F : Nat → List Addr} {δ : List Sl} {k : Option Int → List Sl → Rs AV} {Q : VK} {R : Option Int → Hp → Prop} (hp : b.pin = pin) (Rr : Rl K b Fz F δ σ H) (P : Post K mg W b Fz σ Q ((sPartO o δ).bind k))
    (h : ∀ i H' Fz' F' δ', Same Fz Fz' → Rl K b Fz' F' δ' σ H' → Post K mg W b Fz' σ Q (k i δ') → R i H') : rdP K mg W pin o σ H R := by
  cases o with
  | none => exact h none H Fz F δ (Same.refl _) Rr P
  | some f =>
    have P' : Post K mg W b Fz σ Q ((sSt f δ).bind fun a δ' => (match rdC δ' a with
      | some (.int i) => (.ok (some i) δ' : Rs (Option Int))
      | _ => .bad).bind k) := by
      simp only [sPartO] at P
      cases q : sSt f δ with
      | bad => rw [q] at P; exact P
      | er x δ' => rw [q] at P; exact P
      | ok a δ' => rw [q] at P; exact P
    refine rd_bind hp Rr P' fun v H' Fz' F' x δ' s R' A P2 => ?_
    cases q : rdC δ' x with
    | none => simp only [q] at P2; exact P2.elim
    | some d =>
      cases d with
      | int i =>
        simp only [q] at P2
        exact ⟨i, rpc_int (rdC_ok R' A q), h (some i) H' Fz' F' δ' s R' P2⟩
      | _ => simp only [q] at P2; exact P2.elim
def sSl (f : List Sl → Rs AV) (lo hi : Option (List Sl → Rs AV)) : List Sl → Rs AV := fun δ => (sSt f δ).bind fun x δ1 => (sPartO lo δ1).bind fun l δ2 => (sPartO hi δ2).bind fun u δ3 => gSl x l u δ3
def rSlU (K : PySem.W.Frag) : V → Option Int → Option Int → Hp → VK → Prop := fun x lo hi H Q => rSlL K x lo hi H Q ∨ rSlA K x lo hi H Q
theorem sl_U {X : Cx} : SlR X (rSlU X.K) := SlR.or sl_list sl_tupA
theorem gSl_ok {b : Bk} {Fz : Hp} {F : Nat → List Addr} {δ : List Sl} {σ : L2.St} {H : Hp} {Q : VK} {v : V} {x : AV} {lo hi : Option Int} (R : Rl K b Fz F δ σ H) (A : AvS K Fz σ v x) (P : Post K mg W b Fz σ Q (gSl x lo hi δ)) : rSlU K v lo hi H Q := by
  unfold gSl at P
  cases q : rdC δ x with
  | none => simp only [q] at P; exact P.elim
  | some d =>
    have h1 := rdC_ok R A q
    cases d with
    | list ds =>
      simp only [q] at P
      obtain ⟨a, vs, e1, s1, r1⟩ := h1.list R.le
      exact .inl ⟨a, vs, e1, s1.sq, post_newL R (rpl_cut r1 lo hi) P⟩
    | tuple ds =>
      simp only [q] at P
      obtain ⟨a, vs, e1, s1, r1⟩ := h1.tup R.le
      refine .inr ⟨a, vs, e1, s1, fun w => ?_, fun _ => post_newT R (rpl_cut r1 lo hi) P⟩
      have e2 : cutD ds lo hi = ds := by
        have w' := w
        rw [r1.len] at w'
        unfold cutD
        rw [w'.1, w'.2]
        simp
      rw [e2] at P
      rcases h1 with h | ⟨_, _, _, _, e3, _⟩
      · rw [← e1]
        exact P v H Fz F (Same.refl _) R h
      · cases e3
    | _ => simp only [q] at P; exact P.elim
end
theorem se_sl {X : Cx} {W : WX} {pin : List Nat} {fa : List Sl → Rs AV} {a : Expr} {lo hi : Option Expr} {fl fh : Option (List Sl → Rs AV)} {p2 pos : Pos} (ha : SE X W pin a fa) (hl : SPO X W pin lo fl) (hh : SPO X W pin hi fh) :
    SE X W pin (.Subscript a (.Slice lo hi none p2) pos) (sSl fa fl fh) := pe_mono (pe_slice sl_U (se_st ha) hl.po hh.po) fun σ H Q ⟨b, Fz, F, δ, hp, R, P⟩ => by
  refine rd_bind hp R P fun v H1 Fz1 F1 x δ1 s1 R1 A1 P1 => ?_
  refine rdP_bind hp R1 P1 fun l H2 Fz2 F2 δ2 s2 R2 P2 => ?_
  refine rdP_bind hp R2 P2 fun u H3 Fz3 F3 δ3 s3 R3 P3 => ?_
  exact gSl_ok R3 (A1.le (s2.trans s3)) P3
section
variable (K : PySem.W.Frag) (mg : Str → Option Value) (W : WX)
def PostL (b : Bk) (Fz : Hp) (σ : L2.St) (Q : List V → Hp → Prop) : Rs (List PyData) → Prop
  | .ok ds δ => ∀ vs H' Fz' F', Same Fz Fz' → Rl K b Fz' F' δ σ H' → RpL K Fz' vs ds → Q vs H'
  | .er x δ => PostX K mg W b Fz σ x δ
  | .bad => False
def rdL (pin : List Nat) (f : List Sl → Rs (List PyData)) : TA := fun σ H Q => ∃ b Fz F δ, b.pin = pin ∧ Rl K b Fz F δ σ H ∧ PostL K mg W b Fz σ Q (f δ)
end
abbrev SA (X : Cx) (W : WX) (pin : List Nat) (es : List Expr) (f : List Sl → Rs (List PyData)) : Prop := PA X es (rdL X.K X.mg W pin f)
theorem pa_mono {X : Cx} {es : List Expr} {t t' : TA} (h : PA X es t) (i : ∀ σ H Q, t' σ H Q → t σ H Q) : PA X es t' := ⟨fun pos pins s σ H Q I q => h.run pos pins s σ H Q I (i σ H Q q)⟩
/-- a value taken -/
def Rs.val {α : Type} (r : Rs AV) (k : PyData → List Sl → Rs α) : Rs α := r.bind fun a δ => match a with
  | .val d => k d δ
  | _ => .bad
def lNil : List Sl → Rs (List PyData) := fun δ => .ok [] δ
def lCons (f : List Sl → Rs AV) (g : List Sl → Rs (List PyData)) : List Sl → Rs (List PyData) := fun δ => (sTk f δ).val fun d δ1 => (g δ1).bind fun ds δ2 => .ok (d :: ds) δ2
section
variable {X : Cx} {W : WX} {pin : List Nat} {f : List Sl → Rs AV} {g : List Sl → Rs (List PyData)} {e : Expr} {es : List Expr}
theorem PostL.le {K : PySem.W.Frag} {mg : Str → Option Value} {b : Bk} {Fz Fz1 : Hp} {σ : L2.St} {Q : List V → Hp → Prop} {r : Rs (List PyData)} (s : Same Fz Fz1) (p : PostL K mg W b Fz σ Q r) : PostL K mg W b Fz1 σ Q r := by
  cases r with
  | ok a δ => exact fun v H' Fz' F' s' R e => p v H' Fz' F' (s.trans s') R e
  | er x δ => exact PostX.le s p
  | bad => exact p
/-- behind a taken value -/
theorem rd_valL {K : PySem.W.Frag} {mg : Str → Option Value} {σ : L2.St} {H : Hp} {b : Bk} {Fz : Hp} {F : Nat → List Addr} {δ : List Sl} {k : PyData → List Sl → Rs (List PyData)} {Q : List V → Hp → Prop} {R : VK} (hp : b.pin = pin) (Rr : Rl K b Fz F δ σ H) (P : PostL K mg W b Fz σ Q ((sTk f δ).val k))
    (h : ∀ v H' Fz' F' d δ', Same Fz Fz' → Rl K b Fz' F' δ' σ H' → Rp K Fz' v d → PostL K mg W b Fz' σ Q (k d δ') → R v H') : rdE K mg W pin (sTk f) σ H R := by
  refine ⟨b, Fz, F, δ, hp, Rr, ?_⟩
  cases q : sTk f δ with
  | bad => rw [q] at P; exact P
  | er x δ' => rw [q] at P; exact P
  | ok a δ' =>
    rw [q] at P
    intro v H' Fz' F' s R' A
    cases a with
    | tmp t => exact False.elim P
    | ref i => exact False.elim P
    | val d => exact h v H' Fz' F' d δ' s R' A (PostL.le s P)
/-- behind the values -/
theorem rdL_bindL {K : PySem.W.Frag} {mg : Str → Option Value} {σ : L2.St} {H : Hp} {b : Bk} {Fz : Hp} {F : Nat → List Addr} {δ : List Sl} {k : List PyData → List Sl → Rs (List PyData)} {Q R : List V → Hp → Prop} (hp : b.pin = pin) (Rr : Rl K b Fz F δ σ H) (P : PostL K mg W b Fz σ Q ((g δ).bind k))
    (h : ∀ vs H' Fz' F' ds δ', Same Fz Fz' → Rl K b Fz' F' δ' σ H' → RpL K Fz' vs ds → PostL K mg W b Fz' σ Q (k ds δ') → R vs H') : rdL K mg W pin g σ H R := by
  refine ⟨b, Fz, F, δ, hp, Rr, ?_⟩
  cases q : g δ with
  | bad => rw [q] at P; exact P
  | er x δ' => rw [q] at P; exact P
  | ok a δ' =>
    rw [q] at P
    exact fun v H' Fz' F' s R' A => h v H' Fz' F' a δ' s R' A (PostL.le s P)
theorem rdL_bind {K : PySem.W.Frag} {mg : Str → Option Value} {σ : L2.St} {H : Hp} {b : Bk} {Fz : Hp} {F : Nat → List Addr} {δ : List Sl} {k : List PyData → List Sl → Rs AV} {Q : VK} {R : List V → Hp → Prop} (hp : b.pin = pin) (Rr : Rl K b Fz F δ σ H) (P : Post K mg W b Fz σ Q ((g δ).bind k))
    (h : ∀ vs H' Fz' F' ds δ', Same Fz Fz' → Rl K b Fz' F' δ' σ H' → RpL K Fz' vs ds → Post K mg W b Fz' σ Q (k ds δ') → R vs H') : rdL K mg W pin g σ H R := by
  refine ⟨b, Fz, F, δ, hp, Rr, ?_⟩
  cases q : g δ with
  | bad => rw [q] at P; exact P
  | er x δ' => rw [q] at P; exact P
  | ok a δ' =>
    rw [q] at P
    exact fun v H' Fz' F' s R' A => h v H' Fz' F' a δ' s R' A (Post.le s P)
theorem sa_nil : SA X W pin [] lNil := pa_mono pa_nil fun σ H Q ⟨b, Fz, F, δ, hp, R, P⟩ => P [] H Fz F (Same.refl _) R .nil
theorem sa_cons (h : SE X W pin e f) (h2 : SA X W pin es g) (hs : starEach (e :: es) X.env = (false, eval e X.env) :: starEach es X.env := by rfl) : SA X W pin (e :: es) (lCons f g) := pa_mono (pa_cons (se_tk h) h2 hs) fun σ H Q ⟨b, Fz, F, δ, hp, R, P⟩ => by
  refine rd_valL hp R P fun v H1 Fz1 F1 d δ1 s1 R1 A1 P1 => ?_
  refine rdL_bindL hp R1 P1 fun vs H2 Fz2 F2 ds δ2 s2 R2 A2 P2 => ?_
  exact P2 (v :: vs) H2 Fz2 F2 (Same.refl _) R2 (.cons (A1.mono s2) A2)
def sLst (g : List Sl → Rs (List PyData)) : List Sl → Rs AV := fun δ => (g δ).bind fun ds δ' => if ds.length ≤ cap then .ok (.tmp (.ol (ds.map .fz))) δ' else .bad
theorem se_lst {pos : Pos} (h : SA X W pin es g) : SE X W pin (.List es pos) (sLst g) := pe_mono (pe_lst h) fun σ H Q ⟨b, Fz, F, δ, hp, R, P⟩ => by
  refine rdL_bind hp R P fun vs H2 Fz2 F2 ds δ2 s2 R2 A2 P2 => ?_
  by_cases c : ds.length ≤ cap
  · rw [if_pos c] at P2
    exact ⟨by rw [A2.len]; exact le_line c, post_newL R2 A2 P2⟩
  · rw [if_neg c] at P2
    exact P2.elim
end
section
variable (K : PySem.W.Frag) (mg : Str → Option Value) (W : WX) (pin : List Nat)
def C1 (r : List V → Hp → VK → Prop) (g : AV → List Sl → Rs AV) : Prop := ∀ b Fz F δ σ H v x Q, b.pin = pin → Rl K b Fz F δ σ H → AvS K Fz σ v x → Post K mg W b Fz σ Q (g x δ) → r [v] H Q
def C2 (r : List V → Hp → VK → Prop) (g : AV → AV → List Sl → Rs AV) : Prop := ∀ b Fz F δ σ H v w x y Q, b.pin = pin → Rl K b Fz F δ σ H → AvS K Fz σ v x → AvS K Fz σ w y → Post K mg W b Fz σ Q (g x y δ) → r [v, w] H Q
end
section
variable {X : Cx} {W : WX} {pin : List Nat} {fa fb : List Sl → Rs AV} {a c : Expr} {x : Str} {p pos : Pos} {id T : String} {r : List V → Hp → VK → Prop} {g : AV → List Sl → Rs AV} {g2 : AV → AV → List Sl → Rs AV}
theorem se_b1 (hc : CallR X (.builtin id) r) (hv : C1 X.K X.mg W pin r g) (hg : Gl X x) (hm : X.mg x = none) (hb : bootBuiltins x = some (.builtin id)) (ha : SE X W pin a fa) (hn : x ≠ "__name__" := by decide) (hdb : (x == ("__debug__" : Str)) = false := by decide)
    (he : starEach [a] X.env = (false, eval a X.env) :: starEach [] X.env := by rfl) : SE X W pin (.Call (.Name x p) [a] [] pos) (s1 g fa) := pe_mono (pe_callB hc hg hm hb (pa_cons (se_st ha) pa_nil he) hn hdb he rfl) fun σ H Q ⟨b, Fz, F, δ, hp, R, P⟩ => by
  refine rd_bind hp R P fun v H1 Fz1 F1 x δ1 s1 R1 A1 P1 => ?_
  exact hv b Fz1 F1 δ1 σ H1 v x Q hp R1 A1 P1
theorem se_t1 (hc : CallR X (.type T) r) (hv : C1 X.K X.mg W pin r g) (hg : Gl X x) (hm : X.mg x = none) (hb : bootBuiltins x = some (.type T)) (ha : SE X W pin a fa) (hn : x ≠ "__name__" := by decide) (hdb : (x == ("__debug__" : Str)) = false := by decide)
    (he : starEach [a] X.env = (false, eval a X.env) :: starEach [] X.env := by rfl) : SE X W pin (.Call (.Name x p) [a] [] pos) (s1 g fa) := pe_mono (pe_callTy hc hg hm hb (pa_cons (se_st ha) pa_nil he) hn hdb he rfl) fun σ H Q ⟨b, Fz, F, δ, hp, R, P⟩ => by
  refine rd_bind hp R P fun v H1 Fz1 F1 x δ1 s1 R1 A1 P1 => ?_
  exact hv b Fz1 F1 δ1 σ H1 v x Q hp R1 A1 P1
theorem se_b2 (hc : CallR X (.builtin id) r) (hv : C2 X.K X.mg W pin r g2) (hg : Gl X x) (hm : X.mg x = none) (hb : bootBuiltins x = some (.builtin id)) (ha : SE X W pin a fa) (hcc : SE X W pin c fb) (hn : x ≠ "__name__" := by decide) (hdb : (x == ("__debug__" : Str)) = false := by decide)
    (he : starEach [a, c] X.env = (false, eval a X.env) :: starEach [c] X.env := by rfl) (he2 : starEach [c] X.env = (false, eval c X.env) :: starEach [] X.env := by rfl) (hpl : (backTo pos (starEach [c] X.env)).any (·.1) = false := by rfl) : SE X W pin (.Call (.Name x p) [a, c] [] pos) (s2 g2 fa fb) := pe_mono (pe_callB hc hg hm hb (pa_cons (se_st ha) (pa_cons (se_st hcc) pa_nil he2) he) hn hdb he hpl) fun σ H Q ⟨b, Fz, F, δ, hp, R, P⟩ => by
  refine rd_bind hp R P fun v H1 Fz1 F1 x δ1 s1 R1 A1 P1 => ?_
  refine rd_bind hp R1 P1 fun w H2 Fz2 F2 y δ2 s2 R2 A2 P2 => ?_
  exact hv b Fz2 F2 δ2 σ H2 v w x y Q hp R2 (A1.le s2) A2 P2
end
/-- a look at a tree that gives a number, a truth value, a text -/
def gRd (k : PyData → Option PyData) (x : AV) (δ : List Sl) : Rs AV := match (rdA δ x).bind k with
  | some d => if flatD d = true then .ok (.val d) δ else .bad
  | none => .bad
def dV : PyData → V
  | .none => .non
  | .bool b => .bl b
  | .int i => .int i
  | .str s => .str s
  | _ => .non
theorem rp_flat {K : PySem.W.Frag} {H : Hp} {d : PyData} (h : flatD d = true) : Rp K H (dV d) d := by
  cases d with
  | none => exact .non
  | bool b => exact .bl b
  | int i => exact .int i
  | str s => exact .str s
  | _ => cases h
theorem c1_rd {K : PySem.W.Frag} {mg : Str → Option Value} {W : WX} {pin : List Nat} {k : PyData → Option PyData} {r : List V → Hp → VK → Prop} (h : ∀ v d e H (Q : VK), Rp K H v d → k d = some e → flatD e = true → Q (dV e) H → r [v] H Q) : C1 K mg W pin r (gRd k) := by
  intro b Fz F δ σ H v x Q hp R A P
  unfold gRd at P
  cases q : rdA δ x with
  | none => simp only [q, Option.bind_none] at P; exact P.elim
  | some d =>
    cases q2 : k d with
    | none => simp only [q, Option.bind_some, q2] at P; exact P.elim
    | some e =>
      simp only [q, Option.bind_some, q2] at P
      by_cases c : flatD e = true
      · rw [if_pos c] at P
        exact h v d e H Q (rdA_ok R A q) q2 c (P _ H Fz F (Same.refl _) R (rp_flat c))
      · rw [if_neg c] at P
        exact P.elim
def lenD : PyData → Option PyData
  | .list ds => some (.int ds.length)
  | .tuple ds => some (.int ds.length)
  | .str z => if z.length ≤ cap then some (.int z.length) else none
  | .dict ds => some (.int ds.length)
  | _ => none
theorem RpK.len {K : PySem.W.Frag} {H : Hp} : ∀ {vs : List (Key × V)} {ds : List (PyData × PyData)}, RpK K H vs ds → vs.length = ds.length
  | _, _, .nil => rfl
  | _, _, .cons _ t => by simp [RpK.len t]
theorem RpT.len {K : PySem.W.Frag} {H : Hp} : ∀ {vs : List (List Key × V)} {ds : List (PyData × PyData)}, RpT K H vs ds → vs.length = ds.length
  | _, _, .nil => rfl
  | _, _, .cons _ t => by simp [RpT.len t]
def rLenU (K : PySem.W.Frag) : List V → Hp → VK → Prop := fun xs H Q => ((∃ x n, xs = [x] ∧ LenV K x H n ∧ Q (.int n) H) ∨ ∃ a kvs, xs = [V.ref a] ∧ H a = some (.dK kvs) ∧ Q (.int kvs.length) H) ∨ ∃ a kvs, xs = [V.ref a] ∧ H a = some (.dT kvs) ∧ Q (.int kvs.length) H
theorem call_lenU {X : Cx} : CallR X (.builtin "len") (rLenU X.K) := CallR.or (CallR.or call_len call_lenD) call_len_dT
theorem c1_len {K : PySem.W.Frag} {mg : Str → Option Value} {W : WX} {pin : List Nat} : C1 K mg W pin (rLenU K) (gRd lenD) := c1_rd fun v d e H Q r k f q => by
  cases r with
  | lst h1 h2 =>
    cases k
    exact .inl (.inl ⟨_, _, rfl, .inl ⟨_, h1.sq, rfl⟩, by rw [h2.len]; exact q⟩)
  | tup h1 h2 =>
    cases k
    exact .inl (.inl ⟨_, _, rfl, .inr ⟨_, SqT.of h1, rfl⟩, by rw [h2.len]; exact q⟩)
  | dK h1 h2 =>
    cases k
    exact .inl (.inr ⟨_, _, rfl, h1, by rw [h2.len]; exact q⟩)
  | dT h1 h2 =>
    cases k
    exact .inr ⟨_, _, rfl, h1, by rw [h2.len]; exact q⟩
  | str z =>
    simp only [lenD] at k
    by_cases c : z.length ≤ cap
    · rw [if_pos c] at k
      cases k
      exact .inl (.inl ⟨_, _, rfl, ⟨le_line c, rfl⟩, q⟩)
    · rw [if_neg c] at k
      cases k
  | _ => cases k
def absD : PyData → Option PyData
  | .int i => some (.int (if i < 0 then -i else i))
  | _ => none
theorem c1_abs {K : PySem.W.Frag} {mg : Str → Option Value} {W : WX} {pin : List Nat} : C1 K mg W pin (fun xs H Q => ∃ i, xs = [.int i] ∧ Q (.int (if i < 0 then -i else i)) H) (gRd absD) := c1_rd fun v d e H Q r k f q => by
  cases r with
  | int i =>
    cases k
    exact ⟨i, rfl, q⟩
  | _ => cases k
def intD : PyData → Option PyData
  | .int i => some (.int i)
  | .bool k => some (.int (if k then 1 else 0))
  | _ => none
theorem c1_int {K : PySem.W.Frag} {mg : Str → Option Value} {W : WX} {pin : List Nat} : C1 K mg W pin (fun xs H Q => (∃ i, xs = [.int i] ∧ Q (.int i) H) ∨ ∃ k, xs = [.bl k] ∧ Q (.int (if k then 1 else 0)) H) (gRd intD) := c1_rd fun v d e H Q r k f q => by
  cases r with
  | int i =>
    cases k
    exact .inl ⟨i, rfl, q⟩
  | bl b =>
    cases k
    exact .inr ⟨b, rfl, q⟩
  | _ => cases k
section
variable {K : PySem.W.Frag} {mg : Str → Option Value} {W : WX} {pin : List Nat}
abbrev gMax2 := gI yes2 fun i j => if j > i then j else i
abbrev gMin2 := gI yes2 fun i j => if j < i then j else i
theorem c2_i {g : Int → Int → Int} : C2 K mg W pin (fun xs H Q => ∃ i j, xs = [.int i, .int j] ∧ Q (.int (g i j)) H) (gI yes2 g) := by
  intro b Fz F δ σ H v w x y Q hp R A B P
  obtain ⟨i, j, h1, h2, _, q⟩ := v2_i (K := K) (mg := mg) (W := W) (C' := fun _ _ => True) (fun _ _ _ => trivial) b Fz F δ σ H v w x y Q hp R A B P
  exact ⟨i, j, by rw [h1, h2], q⟩
end
end Hb
namespace Hb
open PySem PySem.Spec PyProof.Rows L2
theorem Rl.mut {K : PySem.W.Frag} {b : Bk} {Fz : Hp} {F : Nat → List Addr} {δ : List Sl} {σ : L2.St} {H : Hp} (R : Rl K b Fz F δ σ H) {i : Nat} {xs es : List El} {l : Addr} {vs : List V} {g : List Addr}
    (hs : δ[i]? = some (.ol xs)) (hv : σ[i]? = some (some (.ref l))) (hE : ElL K Fz H g vs es) (hg : (l :: g).Nodup) (sub : ∀ a ∈ g, a ∈ F i) :
    Rl K b Fz (fun k => if k = i then l :: g else F k) (upS i (.ol es) δ) σ (upd H l (.lst vs)) := by
  obtain ⟨a, ws, g0, e1, e2, e3, e4⟩ := R.slot i _ hs
  rw [hv] at e1
  cases e1
  have hl : l ∈ F i := by rw [e2]; exact List.mem_cons_self
  have ne : ∀ c, Fz c ≠ none → c ≠ l := fun c hc z => hc (by rw [z]; exact R.offF i l hl)
  have neB : ∀ c, b.B c ≠ none → c ≠ l := fun c hc z => hc (by rw [z]; exact R.offB i l hl)
  have all : ∀ a ∈ l :: g, a ∈ F i := fun a ha => (List.mem_cons.mp ha).elim (fun z => by rw [z]; exact hl) (sub a)
  refine R.put (Same.refl _) (fun c o e => ?_) (fun c o e => ?_) rfl (fun _ _ => rfl) (.inl rfl) (fun _ => ?_) (fun x j z => nomatch z) hg (fun a ha => R.offF i a (all a ha)) (fun a ha => R.offB i a (all a ha)) (fun a ha k hk hin => hk (R.dj k i a hin (all a ha))) (fun a ha => ?_) (fun k hk a ha => ?_) (fun k hk a ha => R.offF k a ha) (fun _ _ => rfl) (fun a ha => ?_) (R.tb.upd (.inr (R.noT i l hl)))
  · rw [upd_ne (ne c (by rw [e]; simp))]
    exact R.le c o e
  · rw [upd_ne (neB c (by rw [e]; simp))]
    exact R.base c o e
  · rw [hv]
    refine ⟨l, vs, g, rfl, rfl, upd_same, hE.keeps (Same.refl _) fun c hc => upd_ne fun z => ?_⟩
    subst z
    exact (List.nodup_cons.mp hg).1 hc
  · by_cases z : a = l
    · rw [z, upd_same]; simp
    · rw [upd_ne z]
      exact R.on i a (all a ha)
  · exact upd_ne fun z => hk (R.dj k i a ha (by rw [z]; exact hl))
  · by_cases z : a = l
    · rw [z, upd_same]; exact .lst
    · rw [upd_ne z]
      exact R.noT i a (all a ha)
theorem Rl.own {K : PySem.W.Frag} {b : Bk} {Fz : Hp} {F : Nat → List Addr} {δ : List Sl} {σ : L2.St} {H : Hp} (R : Rl K b Fz F δ σ H) {i : Nat} {xs : List El} {v : V} (hs : δ[i]? = some (.ol xs)) (hv : σ[i]? = some (some v)) :
    ∃ l vs g, v = .ref l ∧ H l = some (.lst vs) ∧ ElL K Fz H g vs xs ∧ F i = l :: g ∧ (l :: g).Nodup := by
  obtain ⟨a, ws, g0, e1, e2, e3, e4⟩ := R.slot i _ hs
  rw [hv] at e1
  cases e1
  exact ⟨a, ws, g0, rfl, e3, e4, e2, by rw [← e2]; exact R.nd i⟩
theorem ElL.app {K : PySem.W.Frag} {Fz H : Hp} : ∀ {f g : List Addr} {vs ws : List V} {es ds : List El}, ElL K Fz H f vs es → ElL K Fz H g ws ds → ElL K Fz H (f ++ g) (vs ++ ws) (es ++ ds)
  | _, _, _, _, _, _, .nil, s => s
  | _, _, _, _, _, _, .cons h t, s => by
    rw [List.append_assoc]
    exact .cons h (t.app s)
inductive Ot where
  | nx (δ : List Sl) | rt (s : Sl) (δ : List Sl) | bk (δ : List Sl) | ct (δ : List Sl) | er (x : Exn) (δ : List Sl) | bad
section
variable (K : PySem.W.Frag) (mg : Str → Option Value) (W : WX)
def PostXS (b : Bk) (Fz : Hp) (x : Exn) (δ : List Sl) : Prop := ∀ c dd σ' H' Fz' F', Same Fz Fz' → Rl K b Fz' F' δ σ' H' → ExR K mg Fz' H' x c dd → W c dd σ' H'
def PostS (b : Bk) (Fz : Hp) (D : Ends) : Ot → Prop
  | .nx δ => ∀ σ' H' Fz' F', Same Fz Fz' → Rl K b Fz' F' δ σ' H' → D.nx σ' H'
  | .rt s δ => ∀ v σ' H' Fz' F', Same Fz Fz' → Rl K b Fz' F' δ σ' H' → AvR K b Fz' F' H' σ' v (.tmp s) → D.rt v H'
  | .bk δ => ∀ σ' H' Fz' F', Same Fz Fz' → Rl K b Fz' F' δ σ' H' → D.bk σ' H'
  | .ct δ => ∀ σ' H' Fz' F', Same Fz Fz' → Rl K b Fz' F' δ σ' H' → D.ct σ' H'
  | .er x δ => PostXS K mg W b Fz x δ
  | .bad => False
def rdS (pin : List Nat) (f : List Sl → Ot) : TS := fun D σ H => ∃ b Fz F δ, b.pin = pin ∧ Rl K b Fz F δ σ H ∧ PostS K mg W b Fz D (f δ)
end
abbrev SS (X : Cx) (W : WX) (pin : List Nat) (st : Stmt) (f : List Sl → Ot) : Prop := PS X st (rdS X.K X.mg W pin f)
abbrev SSs (X : Cx) (W : WX) (pin : List Nat) (st : List Stmt) (f : List Sl → Ot) : Prop := PSs X st (rdS X.K X.mg W pin f)
theorem ps_mono {X : Cx} {st : Stmt} {t t' : TS} (h : PS X st t) (i : ∀ D σ H, t' D σ H → t D σ H) : PS X st t' := ⟨fun pins s σ H D I q => h.run pins s σ H D I (i D σ H q)⟩
theorem pss_mono {X : Cx} {st : List Stmt} {t t' : TS} (h : PSs X st t) (i : ∀ D σ H, t' D σ H → t D σ H) : PSs X st t' := ⟨fun pins s σ H D I q => h.run pins s σ H D I (i D σ H q)⟩
def Rs.ot {α : Type} (r : Rs α) (k : α → List Sl → Ot) : Ot := match r with
  | .ok a δ => k a δ
  | .er x δ => .er x δ
  | .bad => .bad
def oNext : List Sl → Ot := fun δ => .nx δ
def oSeq (f g : List Sl → Ot) : List Sl → Ot := fun δ => match f δ with
  | .nx δ' => g δ'
  | r => r
def oIf (t : List Sl → Rs Bool) (f g : List Sl → Ot) : List Sl → Ot := fun δ => (t δ).ot fun k δ' => if k = true then f δ' else g δ'
def oRet (f : List Sl → Rs AV) : List Sl → Ot := fun δ => (sMv f δ).ot fun a δ' => match a with
  | .val d => .rt (.fz d) δ'
  | .tmp s => .rt s δ'
  | .ref _ => .bad
section
variable {K : PySem.W.Frag} {mg : Str → Option Value} {W : WX} {pin : List Nat} {b : Bk} {Fz Fz1 : Hp}
theorem PostXS.le {x : Exn} {δ : List Sl} (s : Same Fz Fz1) (p : PostXS K mg W b Fz x δ) : PostXS K mg W b Fz1 x δ := fun c dd σ' H' Fz' F' s' R e => p c dd σ' H' Fz' F' (s.trans s') R e
theorem PostXS.at_ {x : Exn} {δ : List Sl} {σ : L2.St} (p : PostXS K mg W b Fz x δ) : PostX K mg W b Fz σ x δ := fun c dd H' Fz' F' s' R e => p c dd σ H' Fz' F' s' R e
theorem PostS.le {D : Ends} {r : Ot} (s : Same Fz Fz1) (p : PostS K mg W b Fz D r) : PostS K mg W b Fz1 D r := by
  cases r with
  | nx δ => exact fun σ' H' Fz' F' s' R => p σ' H' Fz' F' (s.trans s') R
  | rt t δ => exact fun v σ' H' Fz' F' s' R A => p v σ' H' Fz' F' (s.trans s') R A
  | bk δ => exact fun σ' H' Fz' F' s' R => p σ' H' Fz' F' (s.trans s') R
  | ct δ => exact fun σ' H' Fz' F' s' R => p σ' H' Fz' F' (s.trans s') R
  | er x δ => exact PostXS.le s p
  | bad => exact p
/-- behind an expression -/
theorem rdS_bind {f : List Sl → Rs AV} {σ : L2.St} {H : Hp} {F : Nat → List Addr} {δ : List Sl} {k : AV → List Sl → Ot} {D : Ends} {R : VK} (hp : b.pin = pin) (Rr : Rl K b Fz F δ σ H) (P : PostS K mg W b Fz D ((f δ).ot k))
    (h : ∀ v H' Fz' F' a δ', Same Fz Fz' → Rl K b Fz' F' δ' σ H' → AvR K b Fz' F' H' σ v a → PostS K mg W b Fz' D (k a δ') → R v H') : rdE K mg W pin f σ H R := by
  refine ⟨b, Fz, F, δ, hp, Rr, ?_⟩
  cases q : f δ with
  | bad => rw [q] at P; exact P
  | er x δ' => rw [q] at P; exact PostXS.at_ P
  | ok a δ' =>
    rw [q] at P
    exact fun v H' Fz' F' s R' A => h v H' Fz' F' a δ' s R' A (PostS.le s P)
theorem rdS_bindT {t : List Sl → Rs Bool} {σ : L2.St} {H : Hp} {F : Nat → List Addr} {δ : List Sl} {k : Bool → List Sl → Ot} {D : Ends} {R : Bool → Hp → Prop} (hp : b.pin = pin) (Rr : Rl K b Fz F δ σ H) (P : PostS K mg W b Fz D ((t δ).ot k))
    (h : ∀ c H' Fz' F' δ', Same Fz Fz' → Rl K b Fz' F' δ' σ H' → PostS K mg W b Fz' D (k c δ') → R c H') : rdT K mg W pin t σ H R := by
  refine ⟨b, Fz, F, δ, hp, Rr, ?_⟩
  cases q : t δ with
  | bad => rw [q] at P; exact P
  | er x δ' => rw [q] at P; exact PostXS.at_ P
  | ok a δ' =>
    rw [q] at P
    exact fun H' Fz' F' s R' => h a H' Fz' F' δ' s R' (PostS.le s P)
end
section
variable {X : Cx} {W : WX} {pin : List Nat} {st : Stmt} {rest : List Stmt} {e c : Expr} {pos : Pos} {f : List Sl → Rs AV} {t : List Sl → Rs Bool} {u w : List Sl → Ot}
theorem ss_nil : SSs X W pin [] oNext := pss_mono pss_nil fun D σ H ⟨b, Fz, F, δ, hp, R, P⟩ => P σ H Fz F (Same.refl _) R
theorem seq_ok {K : PySem.W.Frag} {mg : Str → Option Value} : ∀ D σ H, rdS K mg W pin (oSeq u w) D σ H → tSeq (rdS K mg W pin u) (rdS K mg W pin w) D σ H := fun D σ H ⟨b, Fz, F, δ, hp, R, P⟩ => by
  refine ⟨b, Fz, F, δ, hp, R, ?_⟩
  unfold oSeq at P
  cases q : u δ with
  | nx δ' =>
    rw [q] at P
    exact fun σ' H' Fz' F' s R' => ⟨b, Fz', F', δ', hp, R', PostS.le s P⟩
  | rt s δ' => rw [q] at P; exact P
  | bk δ' => rw [q] at P; exact P
  | ct δ' => rw [q] at P; exact P
  | er x δ' => rw [q] at P; exact P
  | bad => rw [q] at P; exact P
theorem ss_cons (h1 : SS X W pin st u) (h2 : SSs X W pin rest w) : SSs X W pin (st :: rest) (oSeq u w) := pss_mono (pss_cons h1 h2) seq_ok
theorem ss_one (h1 : SS X W pin st u) : SSs X W pin [st] u := pss_one h1
theorem ss_ret (h : SE X W pin e f) : SS X W pin (.Return (some e) pos) (oRet f) := ps_mono (ps_ret (se_mv h)) fun D σ H ⟨b, Fz, F, δ, hp, R, P⟩ =>
  rdS_bind hp R P fun v H' Fz' F' a δ' s R' A P' => by
    cases a with
    | val d => exact P' v σ H' Fz' F' (Same.refl _) R' ⟨rfl, [], ⟨rfl, v, rfl, A⟩, List.nodup_nil, fun _ z => nomatch z⟩
    | tmp s => exact P' v σ H' Fz' F' (Same.refl _) R' A
    | ref i => exact P'.elim
theorem ss_if {a d : List Stmt} (hc : ST X W pin c t) (ha : SSs X W pin a u) (hb : SSs X W pin d w) : SS X W pin (.If c a d pos) (oIf t u w) := ps_mono (ps_if hc ha hb) fun D σ H ⟨b, Fz, F, δ, hp, R, P⟩ =>
  rdS_bindT hp R P fun k H' Fz' F' δ' s R' P' => by
    by_cases e : k = true
    · rw [if_pos e] at P' ⊢
      exact ⟨b, Fz', F', δ', hp, R', P'⟩
    · rw [if_neg e] at P' ⊢
      exact ⟨b, Fz', F', δ', hp, R', P'⟩
end
end Hb
namespace Hb
open PySem PySem.Spec PyProof.Rows L2
/-- only the slots ts were stored -/
def Stored (ts : List Nat) (σ σ' : L2.St) : Prop := σ'.length = σ.length ∧ ∀ k, k ∉ ts → σ'[k]? = σ[k]?
theorem Stored.refl (ts : List Nat) (σ : L2.St) : Stored ts σ σ := ⟨rfl, fun _ _ => rfl⟩
section
variable (K : PySem.W.Frag) (mg : Str → Option Value) (W : WX)
def PostG (b : Bk) (Fz : Hp) (ts : List Nat) (σ : L2.St) (Q : L2.St → Hp → Prop) : Rs Unit → Prop
  | .ok _ δ => ∀ σ' H' Fz' F', Same Fz Fz' → Rl K b Fz' F' δ σ' H' → Stored ts σ σ' → Q σ' H'
  | .er x δ => PostXS K mg W b Fz x δ
  | .bad => False
def rdG (pin ts : List Nat) (t : AV → List Sl → Rs Unit) : TG := fun v σ H Q => ∃ b Fz F δ a, b.pin = pin ∧ Rl K b Fz F δ σ H ∧ AvR K b Fz F H σ v a ∧ PostG K mg W b Fz ts σ Q (t a δ)
end
abbrev SG (X : Cx) (W : WX) (pin ts : List Nat) (e : Expr) (t : AV → List Sl → Rs Unit) : Prop := PG X e (rdG X.K X.mg W pin ts t)
theorem pg_mono {X : Cx} {e : Expr} {t t' : TG} (h : PG X e t) (i : ∀ v σ H Q, t' v σ H Q → t v σ H Q) : PG X e t' := ⟨fun pins s σ H v u Q I r q => h.run pins s σ H v u Q I r (i v σ H Q q)⟩
def tgN (i : Nat) (a : AV) (δ : List Sl) : Rs Unit := match a with
  | .val d => .ok () (upS i (.fz d) δ)
  | .tmp s => .ok () (upS i s δ)
  | .ref _ => .bad
section
variable {K : PySem.W.Frag} {mg : Str → Option Value} {W : WX} {pin ts us : List Nat}
theorem PostG.le {b : Bk} {Fz Fz1 : Hp} {σ : L2.St} {Q : L2.St → Hp → Prop} {r : Rs Unit} (s : Same Fz Fz1) (p : PostG K mg W b Fz ts σ Q r) : PostG K mg W b Fz1 ts σ Q r := by
  cases r with
  | ok a δ => exact fun σ' H' Fz' F' s' R e => p σ' H' Fz' F' (s.trans s') R e
  | er x δ => exact PostXS.le s p
  | bad => exact p
theorem upd_slot {σ : L2.St} {i k : Nat} {v : V} (h : k ≠ i) : (σ.set i (some v))[k]? = σ[k]? := List.getElem?_set_ne (Ne.symm h)
/-- a name gets a value -/
theorem Rl.name {b : Bk} {Fz : Hp} {F : Nat → List Addr} {δ : List Sl} {σ : L2.St} {H : Hp} {i : Nat} {v : V} {s : Sl} {g : List Addr} (R : Rl K b Fz F δ σ H) (hi : i ∉ b.pin) (ht : s.tree.isSome = true) (hs : SlH K Fz H [] g (some v) s) (hn : g.Nodup)
    (hg : ∀ a ∈ g, Fz a = none ∧ b.B a = none ∧ H a ≠ none ∧ ∀ i, a ∉ F i) : Rl K b Fz (fun k => if k = i then g else F k) (upS i s δ) (σ.set i (some v)) H := by
  refine R.put (Same.refl _) R.le R.base (List.length_set) (fun k hk => upd_slot hk) (.inr hi) (fun hlt => ?_) (fun x j z => by subst z; cases ht) hn (fun a ha => (hg a ha).1) (fun a ha => (hg a ha).2.1) (fun a ha k _ => (hg a ha).2.2.2 k) (fun a ha => (hg a ha).2.2.1) (fun _ _ _ _ => rfl) (fun k _ a ha => R.offF k a ha) (fun _ _ => rfl) hs.noT
  rw [List.getElem?_set_self (by rw [R.len]; exact hlt)]
  cases s with
  | no => cases ht
  | al x j => cases ht
  | fz d => exact hs
  | ol xs => exact hs
  | od kvs => exact hs
theorem tgN_ok {b : Bk} {Fz : Hp} {F : Nat → List Addr} {δ : List Sl} {σ : L2.St} {H : Hp} {i : Nat} {v : V} {a : AV} {Q : L2.St → Hp → Prop} (hi : i ∈ ts) (hpin : i ∉ b.pin) (R : Rl K b Fz F δ σ H) (A : AvR K b Fz F H σ v a) (P : PostG K mg W b Fz ts σ Q (tgN i a δ)) : Q (σ.set i (some v)) H := by
  have fr : Stored ts σ (σ.set i (some v)) := ⟨List.length_set, fun k hk => upd_slot fun z => hk (by rw [z]; exact hi)⟩
  cases a with
  | val d => exact P _ H Fz _ (Same.refl _) (R.name hpin rfl (g := []) ⟨rfl, v, rfl, A⟩ List.nodup_nil fun _ z => nomatch z) fr
  | tmp s =>
    obtain ⟨ht, g, h1, h2, h3⟩ := A
    exact P _ H Fz _ (Same.refl _) (R.name hpin ht h1 h2 h3) fr
  | ref j => exact P.elim
end
section
variable {X : Cx} {W : WX} {pin ts us : List Nat} {pos : Pos}
theorem sg_name (i : Nat) {x : Str} (hN : X.N.Nodup) (hi : X.N[i]? = some x) (hx : Loc X.env.scope x) (hp : i ∉ pin) (hf : X.fn x = true ∨ X.env.scope.names.lookup x = some .local := by first | exact .inl rfl | exact .inr rfl | assumption) : SG X W pin [i] (.Name x pos) (tgN i) :=
  pg_mono (pg_name hN hi hx hf) fun v σ H Q ⟨b, Fz, F, δ, a, hpin, R, A, P⟩ => tgN_ok (List.mem_singleton.mpr rfl) (by rw [hpin]; exact hp) R A P
def Rs.otU (r : Rs Unit) : Ot := match r with
  | .ok _ δ => .nx δ
  | .er x δ => .er x δ
  | .bad => .bad
def oAsg (f : List Sl → Rs AV) (t : AV → List Sl → Rs Unit) : List Sl → Ot := fun δ => (f δ).ot fun a δ' => (t a δ').otU
theorem asg_ok {K : PySem.W.Frag} {mg : Str → Option Value} {f : List Sl → Rs AV} {t : AV → List Sl → Rs Unit} : ∀ D σ H, rdS K mg W pin (oAsg f t) D σ H → tAsg (rdE K mg W pin f) (rdG K mg W pin ts t) D σ H := fun D σ H ⟨b, Fz, F, δ, hp, R, P⟩ => by
  refine rdS_bind hp R P fun v H' Fz' F' a δ' s R' A P' => ?_
  refine ⟨b, Fz', F', δ', a, hp, R', A, ?_⟩
  cases q : t a δ' with
  | bad => rw [q] at P'; exact P'
  | er x δ2 => rw [q] at P'; exact P'
  | ok u δ2 =>
    rw [q] at P'
    exact fun σ2 H2 Fz2 F2 s2 R2 _ => P' σ2 H2 Fz2 F2 s2 R2
theorem ss_set (i : Nat) {x : Str} {e : Expr} {f : List Sl → Rs AV} {pos' : Pos} (hN : X.N.Nodup) (hi : X.N[i]? = some x) (hx : Loc X.env.scope x) (hp : i ∉ pin) (he : SE X W pin e f) (hs : swapsWith e (some (.Name x pos')) pos.line X.env = pure false := by rfl) (hf : X.fn x = true ∨ X.env.scope.names.lookup x = some .local := by first | exact .inl rfl | exact .inr rfl | assumption) :
    SS X W pin (.Assign [.Name x pos'] e pos) (oAsg f (tgN i)) := ps_mono (ps_set hN hi hx he hs hf) fun D σ H h => by
  obtain ⟨b, Fz, F, δ, hpin, R, P⟩ := h
  refine rdS_bind hpin R P fun v H' Fz' F' a δ' s R' A P' => ?_
  refine tgN_ok (K := X.K) (mg := X.mg) (W := W) (b := b) (ts := [i]) (List.mem_singleton.mpr rfl) (by rw [hpin]; exact hp) R' A ?_
  cases q : tgN i a δ' with
  | bad => rw [q] at P'; exact P'
  | er x δ2 => rw [q] at P'; exact P'
  | ok u δ2 =>
    rw [q] at P'
    exact fun σ2 H2 Fz2 F2 s2 R2 _ => P' σ2 H2 Fz2 F2 s2 R2
theorem ss_asg {tg e : Expr} {f : List Sl → Rs AV} {t : AV → List Sl → Rs Unit} (he : SE X W pin e f) (hg : SG X W pin ts tg t) (hs : swapsWithSole [tg] e pos.line X.env = pure false := by rfl) (hw : swappedStores [tg] e X.env = pure none := by rfl)
    (h1 : (assignEach [tg] X.env).map (·.2) = [assign tg X.env] := by rfl) : SS X W pin (.Assign [tg] e pos) (oAsg f t) := ps_mono (ps_asg he hg hs hw h1) asg_ok
/-- x[i] = v -/
def setA (x y : AV) (d : PyData) (δ : List Sl) : Rs Unit := match x, rdC δ y with
  | .ref k, some (.int i) => (match δ[k]? with
    | some (.ol xs) => (match ixN xs.length i with
      | some j => (match allFz xs with
        | some ds => .ok () (upS k (.ol ((ds.set j d).map .fz)) δ)
        | none => .bad)
      | none => .bad)
    | some (.al x j) => (match δ[x]? with
      | some (.ol es) => (match es[j]? with
        | some (.ow ys) => (match ixN ys.length i with
          | some m => .ok () (δ.set x (.ol (es.set j (.ow (ys.set m d)))))
          | none => .bad)
        | _ => .bad)
      | _ => .bad)
    | _ => .bad)
  | _, _ => .bad
def tgS (fo fi : List Sl → Rs AV) (a : AV) (δ : List Sl) : Rs Unit := match a with
  | .val d => (sSt fo δ).bind fun x δ1 => (sSt fi δ1).bind fun y δ2 => setA x y d δ2
  | _ => .bad
theorem ElL.set_ow {K : PySem.W.Frag} {Fz H : Hp} {a : Addr} {ws : List V} {ys : List PyData} (hr : RpL K Fz ws ys) : ∀ {f : List Addr} {vs : List V} {es : List El} {j : Nat} {xs : List PyData}, ElL K Fz H f vs es → f.Nodup → es[j]? = some (.ow xs) → vs[j]? = some (.ref a) →
    a ∈ f ∧ ElL K Fz (upd H a (.lst ws)) f vs (es.set j (.ow ys))
  | _, _, _, _, _, .nil, _, e, _ => by simp at e
  | _, _, _, 0, xs, .cons (f := f) (g := g) (v := v) h t, nd, e, e2 => by
    simp at e e2
    subst e e2
    obtain ⟨a', us, e3, e4, e5, e6⟩ := h
    cases e3
    subst e4
    rw [List.nodup_append] at nd
    refine ⟨by simp, .cons ⟨a, ws, rfl, rfl, upd_same, hr⟩ (t.keeps (Same.refl _) fun c hc => upd_ne fun z => ?_)⟩
    subst z
    exact nd.2.2 c (by simp) c hc rfl
  | _, _, _, j + 1, xs, .cons (f := f) (g := g) (v := v) (e := e0) h t, nd, e, e2 => by
    rw [List.nodup_append] at nd
    obtain ⟨h1, h2⟩ := ElL.set_ow hr t nd.2.1 (by simpa using e) (by simpa using e2)
    refine ⟨List.mem_append_right _ h1, .cons (h.keeps (Same.refl _) fun c hc => upd_ne fun z => ?_) h2⟩
    subst z
    exact nd.2.2 c hc c h1 rfl
/-- a row of a list of one's own changes -/
theorem Rl.row {K : PySem.W.Frag} {b : Bk} {Fz : Hp} {F : Nat → List Addr} {δ : List Sl} {σ : L2.St} {H : Hp} (R : Rl K b Fz F δ σ H) {x j : Nat} {es : List El} {xs ys : List PyData} {l a : Addr} {vs ws : List V}
    (hs : δ[x]? = some (.ol es)) (hv : σ[x]? = some (some (.ref l))) (hl : H l = some (.lst vs)) (hj : es[j]? = some (.ow xs)) (ha : vs[j]? = some (.ref a)) (hr : RpL K Fz ws ys) : Rl K b Fz F (δ.set x (.ol (es.set j (.ow ys)))) σ (upd H a (.lst ws)) := by
  obtain ⟨l', vs', g, e1, e2, e3, e4⟩ := R.slot x _ hs
  rw [hv] at e1
  cases e1
  rw [hl] at e3
  cases e3
  have nd := R.nd x
  rw [e2] at nd
  obtain ⟨nl, ng⟩ := List.nodup_cons.mp nd
  obtain ⟨h1, h2⟩ := ElL.set_ow hr e4 ng hj ha
  have hal : a ≠ l := fun z => nl (by rw [← z]; exact h1)
  have haF : a ∈ F x := by rw [e2]; exact List.mem_cons_of_mem _ h1
  have hlF : l ∈ F x := by rw [e2]; exact List.mem_cons_self
  have xl : x < δ.length := (List.getElem?_eq_some_iff.mp hs).1
  have ne : ∀ c, Fz c ≠ none → c ≠ a := fun c hc z => hc (by rw [z]; exact R.offF x a haF)
  have neB : ∀ c, b.B c ≠ none → c ≠ a := fun c hc z => hc (by rw [z]; exact R.offB x a haF)
  refine ⟨fun c o e => ?_, fun c o e => ?_, by rw [List.length_set]; exact R.len, fun k t e => ?_, R.nd, R.dj, R.offF, R.offB, fun k c hc => ?_, R.keep, R.f0, R.pin, fun k y m e => ?_, fun k c hc => ?_, R.tb.upd (.inr (R.noT x a haF)), R.tp⟩
  · rw [upd_ne (ne c (by rw [e]; simp))]
    exact R.le c o e
  · rw [upd_ne (neB c (by rw [e]; simp))]
    exact R.base c o e
  · by_cases hk : k = x
    · subst hk
      rw [List.getElem?_set_self xl] at e
      cases e
      rw [hv]
      exact ⟨l, vs, g, rfl, e2, by rw [upd_ne hal.symm]; exact hl, h2⟩
    · rw [List.getElem?_set_ne (Ne.symm hk)] at e
      refine (R.slot k t e).keeps (Same.refl _) (fun c hc => upd_ne fun z => hk (R.dj k x a (by rw [← z]; exact hc) haF)) fun y m ey c hc => upd_ne fun z => ?_
      subst ey
      subst z
      obtain ⟨xs', f1⟩ := R.als k y m e
      obtain ⟨l2, vs2, g2, p1, p2, p3, p4⟩ := R.slot y _ f1
      rw [hc] at p1
      cases p1
      have hyx : y = x := R.dj y x c (by rw [p2]; exact List.mem_cons_self) haF
      subst hyx
      rw [hv] at hc
      cases hc
      exact hal rfl
  · by_cases z : c = a
    · rw [z, upd_same]; simp
    · rw [upd_ne z]; exact R.on k c hc
  · by_cases hk : k = x
    · subst hk
      rw [List.getElem?_set_self xl] at e
      cases e
    · rw [List.getElem?_set_ne (Ne.symm hk)] at e
      obtain ⟨xs', f1⟩ := R.als k y m e
      by_cases hy : y = x
      · subst hy
        exact ⟨_, List.getElem?_set_self xl⟩
      · exact ⟨xs', by rw [List.getElem?_set_ne (Ne.symm hy)]; exact f1⟩
  · by_cases z : c = a
    · rw [z, upd_same]; exact .lst
    · rw [upd_ne z]; exact R.noT k c hc
theorem sg_sub {o i : Expr} {fo fi : List Sl → Rs AV} (ho : SE X W pin o fo) (hi : SE X W pin i fi)
    (ha : ∀ v, assign (.Subscript o i pos) X.env v = (do
      let ov ← holding [v] (eval o X.env)
      let iv ← holding [v, ov] (eval i X.env)
      standAt pos
      holding [v, ov, iv] (setItem ov iv v)
      release [v, ov, iv] []) := by intro _; rfl) : SG X W pin [] (.Subscript o i pos) (tgS fo fi) := pg_mono (pg_sub (se_st ho) (se_st hi) set_list ha) fun v σ H Q ⟨b, Fz, F, δ, a, hpin, R, A, P⟩ => by
  cases a with
  | tmp s => exact P.elim
  | ref i => exact P.elim
  | val d =>
    have A : Rp X.K Fz v d := A
    have P : PostG X.K X.mg W b Fz [] σ Q ((sSt fo δ).bind fun x δ1 => (sSt fi δ1).bind fun y δ2 => setA x y d δ2) := P
    -- the two operands
    have two : ∀ (f : List Sl → Rs AV) (Fz1 : Hp) (F1 : Nat → List Addr) (δ1 : List Sl) (H1 : Hp) (k : AV → List Sl → Rs Unit) (R' : VK), Rl X.K b Fz1 F1 δ1 σ H1 → PostG X.K X.mg W b Fz1 [] σ Q ((sSt f δ1).bind k) →
        (∀ v H' Fz' F' x δ', Same Fz1 Fz' → Rl X.K b Fz' F' δ' σ H' → AvS X.K Fz' σ v x → PostG X.K X.mg W b Fz' [] σ Q (k x δ') → R' v H') → rdE X.K X.mg W pin (sSt f) σ H1 R' := fun f Fz1 F1 δ1 H1 k R' Rr PP h => by
      refine ⟨b, Fz1, F1, δ1, hpin, Rr, ?_⟩
      cases q : sSt f δ1 with
      | bad => rw [q] at PP; exact PP
      | er x δ' => rw [q] at PP; exact PostXS.at_ PP
      | ok a δ' =>
        rw [q] at PP
        intro v H' Fz' F' s R2 A2
        cases a with
        | tmp t => exact absurd q (sSt_notmp _ _ _ _)
        | val d => exact h v H' Fz' F' (.val d) δ' s R2 A2 (PostG.le s PP)
        | ref i => exact h v H' Fz' F' (.ref i) δ' s R2 A2 (PostG.le s PP)
    refine two fo Fz F δ H _ _ R P fun ov H1 Fz1 F1 x δ1 s1 R1 A1 P1 => ?_
    refine two fi Fz1 F1 δ1 H1 _ _ R1 P1 fun iv H2 Fz2 F2 y δ2 s2 R2 A2 P2 => ?_
    have A0 : Rp X.K Fz2 v d := (A.mono s1).mono s2
    have A1 := A1.le s2
    unfold setA at P2
    cases x with
    | val e => cases q : rdC δ2 y <;> exact P2.elim
    | tmp e => exact A1.elim
    | ref k =>
      cases q : rdC δ2 y with
      | none => simp only [q] at P2; exact P2.elim
      | some n =>
        cases n with
        | int n =>
          simp only [q] at P2
          have ei := rpc_int (rdC_ok R2 A2 q)
          have hv : σ[k]? = some (some ov) := A1
          cases q2 : δ2[k]? with
          | none => simp only [q2] at P2; exact P2.elim
          | some t =>
            cases t with
            | ol xs =>
              simp only [q2] at P2
              cases q3 : ixN xs.length n with
              | none => simp only [q3] at P2; exact P2.elim
              | some j =>
                simp only [q3] at P2
                cases q4 : allFz xs with
                | none => simp only [q4] at P2; exact P2.elim
                | some ds =>
                  simp only [q4] at P2
                  obtain ⟨l, vs, g, e1, e2, e3, e4, e5⟩ := R2.own q2 hv
                  subst e1
                  have rp := e3.allFz q4
                  have R' := R2.mut (g := []) q2 hv (ElL.ofFz (rp.set A0 j)) (by simp) (fun a ha => nomatch ha)
                  exact ⟨l, vs, n, j, rfl, ei, e2, by rw [e3.len]; exact q3, P2 _ _ Fz2 _ (Same.refl _) R' (Stored.refl _ _)⟩
            | al x j =>
              simp only [q2] at P2
              cases q3 : δ2[x]? with
              | none => simp only [q3] at P2; exact P2.elim
              | some t =>
                cases t with
                | ol es =>
                  simp only [q3] at P2
                  cases q4 : es[j]? with
                  | none => simp only [q4] at P2; exact P2.elim
                  | some el =>
                    cases el with
                    | fz d' => simp only [q4] at P2; exact P2.elim
                    | ow ys =>
                      simp only [q4] at P2
                      cases q5 : ixN ys.length n with
                      | none => simp only [q5] at P2; exact P2.elim
                      | some m =>
                        simp only [q5] at P2
                        obtain ⟨_, l, c, vs, f1, f2, f3, f4⟩ := R2.slot k _ q2
                        rw [hv] at f4
                        cases f4
                        obtain ⟨g, ⟨c', ws, g1, g2, g3, g4⟩, _⟩ := R2.al q2 q3 q4 hv
                        cases g1
                        have R' := R2.row q3 f1 f2 q4 f3 (g4.set A0 m)
                        exact ⟨c, ws, n, m, rfl, ei, g3, by rw [g4.len]; exact q5, P2 _ _ Fz2 _ (Same.refl _) R' (Stored.refl _ _)⟩
                | _ => simp only [q3] at P2; exact P2.elim
            | _ => simp only [q2] at P2; exact P2.elim
        | _ => simp only [q] at P2; exact P2.elim
end
end Hb
namespace Hb
open PySem PySem.Spec PyProof.Rows L2
/-- J gives the trees ds, one a turn -/
def Wk (K : PySem.W.Frag) (Fz0 : Hp) (J : It) (ds : List PyData) : Prop := ∀ b Fz F δ σ H, Same Fz0 Fz → Rl K b Fz F δ σ H →
  (∀ i, i < ds.length → J.go i H ∧ ∀ x H', J.yld i H x H' → ∃ Fz' d, ds[i]? = some d ∧ Same Fz Fz' ∧ Rl K b Fz' F δ σ H' ∧ Rp K Fz' x d) ∧ J.stop ds.length H
section
variable (K : PySem.W.Frag) (mg : Str → Option Value) (W : WX)
def PostI (b : Bk) (Fz : Hp) (σ : L2.St) (R : It → Hp → Prop) : Rs (List PyData) → Prop
  | .ok ds δ => ∀ J H' Fz' F', Same Fz Fz' → Rl K b Fz' F' δ σ H' → Wk K Fz' J ds → R J H'
  | .er x δ => PostX K mg W b Fz σ x δ
  | .bad => False
def rdI (pin : List Nat) (w : List Sl → Rs (List PyData)) : TI := fun σ H R => ∃ b Fz F δ, b.pin = pin ∧ Rl K b Fz F δ σ H ∧ PostI K mg W b Fz σ R (w δ)
end
abbrev SI (X : Cx) (W : WX) (pin : List Nat) (tg iter : Expr) (w : List Sl → Rs (List PyData)) : Prop := PI X tg iter (rdI X.K X.mg W pin w)
theorem pi_mono {X : Cx} {tg iter : Expr} {t t' : TI} (h : PI X tg iter t) (i : ∀ σ H R, t' σ H R → t σ H R) : PI X tg iter t' := ⟨fun pins s σ H R I q => h.run pins s σ H R I (i σ H R q)⟩
section
variable {K : PySem.W.Frag} {mg : Str → Option Value} {W : WX} {pin : List Nat}
theorem PostI.le {b : Bk} {Fz Fz1 : Hp} {σ : L2.St} {R : It → Hp → Prop} {r : Rs (List PyData)} (s : Same Fz Fz1) (p : PostI K mg W b Fz σ R r) : PostI K mg W b Fz1 σ R r := by
  cases r with
  | ok a δ => exact fun J H' Fz' F' s' R e => p J H' Fz' F' (s.trans s') R e
  | er x δ => exact PostX.le s p
  | bad => exact p
theorem rd_valI {f : List Sl → Rs AV} {σ : L2.St} {H : Hp} {b : Bk} {Fz : Hp} {F : Nat → List Addr} {δ : List Sl} {k : PyData → List Sl → Rs (List PyData)} {Q : It → Hp → Prop} {R : VK} (hp : b.pin = pin) (Rr : Rl K b Fz F δ σ H) (P : PostI K mg W b Fz σ Q ((sTk f δ).val k))
    (h : ∀ v H' Fz' F' d δ', Same Fz Fz' → Rl K b Fz' F' δ' σ H' → Rp K Fz' v d → PostI K mg W b Fz' σ Q (k d δ') → R v H') : rdE K mg W pin (sTk f) σ H R := by
  refine ⟨b, Fz, F, δ, hp, Rr, ?_⟩
  cases q : sTk f δ with
  | bad => rw [q] at P; exact P
  | er x δ' => rw [q] at P; exact P
  | ok a δ' =>
    rw [q] at P
    intro v H' Fz' F' s R' A
    cases a with
    | tmp t => exact False.elim P
    | ref i => exact False.elim P
    | val d => exact h v H' Fz' F' d δ' s R' A (PostI.le s P)
def rangeD (lo : Int) (n : Nat) : List PyData := (List.range n).map fun i => .int (lo + (i : Nat))
theorem rangeD_len (lo : Int) (n : Nat) : (rangeD lo n).length = n := by simp [rangeD]
theorem rangeD_at {lo : Int} {n i : Nat} (h : i < n) : (rangeD lo n)[i]? = some (.int (lo + (i : Nat))) := by
  unfold rangeD
  rw [List.getElem?_map, List.getElem?_range h]
  rfl
theorem wk_range {Fz0 : Hp} (lo : Int) (n : Nat) : Wk K Fz0 (Itr lo n) (rangeD lo n) := fun b Fz F δ σ H s R => by
  rw [rangeD_len]
  refine ⟨fun i hi => ⟨hi, fun x H' y => ?_⟩, Nat.le_refl n⟩
  obtain ⟨rfl, rfl⟩ := y
  exact ⟨Fz, _, rangeD_at hi, Same.refl _, R, .int _⟩
end
def wRng1 (f : List Sl → Rs AV) : List Sl → Rs (List PyData) := fun δ => (sTk f δ).val fun d δ' => match d with
  | .int n => if -(2 ^ 62) ≤ n ∧ n < 2 ^ 62 then .ok (rangeD 0 n.toNat) δ' else .bad
  | _ => .bad
section
variable {X : Cx} {W : WX} {pin : List Nat} {f g : List Sl → Rs AV} {e c tg : Expr} {p pos tpos : Pos} {elts : List Expr} {kk : Nat}
theorem si_rng1 (hg : Gl X "range") (hm : X.mg "range" = none) (h : SE X W pin e f) (hs : starEach [e] X.env = [(false, eval e X.env)] := by rfl) : SI X W pin tg (.Call (.Name "range" p) [e] [] pos) (wRng1 f) :=
  pi_mono (pi_range1 hg hm (pa_cons (se_tk h) pa_nil hs) hs) fun σ H R ⟨b, Fz, F, δ, hp, Rr, P⟩ => by
    refine rd_valI hp Rr P fun v H' Fz' F' d δ' s R' A P' => ?_
    cases d with
    | int n =>
      cases A
      have P' : PostI X.K X.mg W b Fz' σ R (if -(2 ^ 62) ≤ n ∧ n < 2 ^ 62 then .ok (rangeD 0 n.toNat) δ' else .bad) := P'
      by_cases c : -(2 ^ 62) ≤ n ∧ n < 2 ^ 62
      · rw [if_pos c] at P'
        exact ⟨n, rfl, c.1, c.2, P' _ H' Fz' F' (Same.refl _) R' (wk_range 0 n.toNat)⟩
      · rw [if_neg c] at P'
        exact P'.elim
    | _ => exact P'.elim
end
end Hb
namespace Hb
open PySem PySem.Spec PyProof.Rows L2
abbrev gd (b : Bk) (H : Hp) (g : List Addr) : Bk := ⟨Hb.addF b.B H g, b.F0, b.pin, b.so, b.T⟩
section
variable {K : PySem.W.Frag} {b : Bk} {Fz : Hp} {F : Nat → List Addr} {δ : List Sl} {σ : L2.St} {H : Hp}
theorem Rl.guard (R : Rl K b Fz F δ σ H) {g : List Addr} (hg : ∀ a ∈ g, Fz a = none ∧ b.B a = none ∧ ∀ k, a ∉ F k) (hp : ∀ a ∈ g, Pl (H a)) : Rl K (gd b H g) Fz F δ σ H where
  le := R.le
  base := addF_le R.base
  len := R.len
  slot := R.slot
  nd := R.nd
  dj := R.dj
  offF := R.offF
  offB := fun i a ha => by
    show Hb.addF b.B H g a = none
    rw [addF_out (fun z => (hg a z).2.2 i ha)]
    exact R.offB i a ha
  on := R.on
  keep := fun a ha => by
    have ha : Hb.addF b.B H g a ≠ none := ha
    show Fz a = b.F0 a ∨ ((∃ xs, Hb.addF b.B H g a = some (.tup xs)) ∧ Fz a = Hb.addF b.B H g a)
    by_cases q : a ∈ g
    · left
      rw [(hg a q).1]
      cases e : b.F0 a with
      | none => rfl
      | some o => exact absurd (hg a q).2.1 (R.f0 a (by rw [e]; simp))
    · rw [addF_out q] at ha ⊢
      exact R.keep a ha
  f0 := fun a ha => by
    have h := R.f0 a ha
    show Hb.addF b.B H g a ≠ none
    rw [addF_out fun z => h (hg a z).2.1]
    exact h
  pin := R.pin
  als := R.als
  noT := R.noT
  tb := fun p hq => ⟨(R.tb p hq).1, (R.tb p hq).2.1, by
    show Hb.addF b.B H g p.1 = none
    rw [addF_out fun z => R.tb.tbl hq (hp _ z)]
    exact (R.tb p hq).2.2⟩
  tp := R.tp
theorem Rl.guarded {H' Fz' : Hp} {F' : Nat → List Addr} {δ' : List Sl} {σ' : L2.St} {g : List Addr} (R : Rl K (gd b H g) Fz' F' δ' σ' H') (hB : ∀ a ∈ g, b.B a = none) (f0 : ∀ a, b.F0 a ≠ none → b.B a ≠ none) (hH : ∀ a ∈ g, H a ≠ none) (hT : ∀ a ∈ g, Pl (H a)) :
    ∀ a ∈ g, H' a = H a ∧ Fz' a = none ∧ ∀ k, a ∉ F' k := fun a ha => by
  have e : (gd b H g).B a = H a := addF_in ha
  have n : (gd b H g).B a ≠ none := by rw [e]; exact hH a ha
  refine ⟨?_, ?_, fun k hk => n (R.offB k a hk)⟩
  · cases q : H a with
    | none => exact absurd q (hH a ha)
    | some o => exact R.base a o (e.trans q)
  · rcases R.keep a n with k | ⟨⟨xs, k⟩, _⟩
    · rw [k]
      cases q : b.F0 a with
      | none => rfl
      | some o => exact absurd (hB a ha) (f0 a (by rw [q]; simp))
    · rw [e] at k
      exact ((hT a ha).tup k).elim
theorem Rl.unguard {H' : Hp} {g : List Addr} (R : Rl K (gd b H g) Fz F δ σ H') (hB : ∀ a ∈ g, b.B a = none) (f0 : ∀ a, b.F0 a ≠ none → b.B a ≠ none) : Rl K b Fz F δ σ H' where
  le := R.le
  base := fun a o e => R.base a o (by
    show Hb.addF b.B H g a = some o
    rw [addF_out fun z => by rw [hB a z] at e; cases e]
    exact e)
  len := R.len
  slot := R.slot
  nd := R.nd
  dj := R.dj
  offF := R.offF
  offB := fun i a ha => by
    have h : Hb.addF b.B H g a = none := R.offB i a ha
    by_cases q : a ∈ g
    · exact hB a q
    · rw [addF_out q] at h
      exact h
  on := R.on
  keep := fun a ha => by
    have eb : (gd b H g).B a = b.B a := addF_out fun z => ha (hB a z)
    have h := R.keep a (by rw [eb]; exact ha)
    rw [eb] at h
    exact h
  f0 := f0
  pin := R.pin
  als := R.als
  noT := R.noT
  tb := fun p hq => ⟨(R.tb p hq).1, (R.tb p hq).2.1, by
    have h : Hb.addF b.B H g p.1 = none := (R.tb p hq).2.2
    by_cases q : p.1 ∈ g
    · exact hB _ q
    · rwa [addF_out q] at h⟩
  tp := R.tp
/-- what nobody here knows of changes -/
theorem Rl.other (R : Rl K b Fz F δ σ H) {D : Addr} {o : HO} (h1 : Fz D = none) (h2 : b.B D = none) (h3 : ∀ k, D ∉ F k) (h4 : Pl (H D)) : Rl K b Fz F δ σ (upd H D o) where
  le := fun a x e => by
    rw [upd_ne fun z => by rw [z, h1] at e; cases e]
    exact R.le a x e
  base := fun a x e => by
    rw [upd_ne fun z => by rw [z, h2] at e; cases e]
    exact R.base a x e
  len := R.len
  slot := fun i s e => (R.slot i s e).keeps (Same.refl _) (fun a ha => upd_ne fun z => h3 i (by rw [← z]; exact ha)) fun x j ej a ha => upd_ne fun z => by
    subst ej
    subst z
    obtain ⟨xs, hx⟩ := R.als i x j e
    obtain ⟨l, vs, g, p1, p2, _⟩ := R.slot x _ hx
    rw [ha] at p1
    cases p1
    exact h3 x (by rw [p2]; exact List.mem_cons_self)
  nd := R.nd
  dj := R.dj
  offF := R.offF
  offB := R.offB
  on := fun i a ha => by
    rw [upd_ne fun z => h3 i (by rw [← z]; exact ha)]
    exact R.on i a ha
  keep := R.keep
  f0 := R.f0
  pin := R.pin
  als := R.als
  noT := fun i a ha => by
    rw [upd_ne fun z => h3 i (by rw [← z]; exact ha)]
    exact R.noT i a ha
  tb := R.tb.upd (.inr h4)
  tp := R.tp
def plainS : Option Sl → Bool
  | some .no => true
  | some (.fz _) => true
  | _ => false
def okW (vs : List Nat) (δ : List Sl) : Bool := vs.all fun v => plainS δ[v]?
def wipeD (vs : List Nat) (δ : List Sl) : List Sl := vs.foldr (fun v δ => δ.set v .no) δ
def unw (vs : List Nat) (δ δ' : List Sl) : List Sl := vs.foldr (fun v δ' => upS v (δ[v]?.getD .no) δ') δ'
theorem Rl.wipe1 (R : Rl K b Fz F δ σ H) {v : Nat} (hv : plainS δ[v]? = true) (hp : v ∉ b.pin) : Rl K b Fz F (δ.set v .no) (σ.set v none) H := by
  have hF : F v = [] := by
    cases q : δ[v]? with
    | none => rw [q] at hv; cases hv
    | some s =>
      have h := R.slot v s q
      rw [q] at hv
      cases s with
      | no => exact h
      | fz d => exact h.1
      | _ => cases hv
  have hx : ∀ (x : Nat) xs, δ[x]? = some (.ol xs) → x ≠ v := fun x xs e z => by
    rw [z] at e
    rw [e] at hv
    cases hv
  refine ⟨R.le, R.base, by rw [List.length_set, List.length_set]; exact R.len, fun i s e => ?_, R.nd, R.dj, R.offF, R.offB, R.on, R.keep, R.f0, fun i hi => ?_, fun i x j e => ?_, R.noT, R.tb, R.tp⟩
  · by_cases q : i = v
    · subst q
      have hl : i < δ.length := by
        have := (List.getElem?_eq_some_iff.mp e).1
        rwa [List.length_set] at this
      rw [List.getElem?_set_self hl] at e
      cases e
      exact hF
    · rw [List.getElem?_set_ne (Ne.symm q)] at e
      have h := R.slot i s e
      rw [List.getElem?_set_ne (Ne.symm q)]
      cases s with
      | al x j =>
        obtain ⟨h0, a, c, ws, h1, h2⟩ := h
        obtain ⟨xs, e2⟩ := R.als i x j e
        exact ⟨h0, a, c, ws, by rw [List.getElem?_set_ne (Ne.symm (hx x xs e2))]; exact h1, h2⟩
      | no => exact h
      | fz d => exact h
      | ol xs => exact h
      | od kvs => exact h
  · rw [List.getElem?_set_ne fun z => hp (by rw [z]; exact hi)]
    exact R.pin i hi
  · by_cases q : i = v
    · subst q
      have hl : i < δ.length := by
        have := (List.getElem?_eq_some_iff.mp e).1
        rwa [List.length_set] at this
      rw [List.getElem?_set_self hl] at e
      cases e
    · rw [List.getElem?_set_ne (Ne.symm q)] at e
      obtain ⟨xs, e2⟩ := R.als i x j e
      exact ⟨xs, by rw [List.getElem?_set_ne (Ne.symm (hx x xs e2))]; exact e2⟩
theorem plain_wipe {v : Nat} {δ : List Sl} (h : plainS δ[v]? = true) : ∀ vs : List Nat, plainS (wipeD vs δ)[v]? = true
  | [] => h
  | w :: vs => by
    show plainS ((wipeD vs δ).set w .no)[v]? = true
    have ih := plain_wipe h vs
    by_cases e : v = w
    · subst e
      by_cases hl : v < (wipeD vs δ).length
      · rw [List.getElem?_set_self hl]; rfl
      · rw [List.getElem?_eq_none (by omega)] at ih
        cases ih
    · rw [List.getElem?_set_ne (Ne.symm e)]
      exact ih
theorem Rl.wipe (R : Rl K b Fz F δ σ H) : ∀ {vs : List Nat}, okW vs δ = true → (∀ v ∈ vs, v ∉ b.pin) → Rl K b Fz F (wipeD vs δ) (L2.wipe σ vs) H
  | [], _, _ => R
  | v :: vs, h, hp => by
    have h' : plainS δ[v]? = true ∧ okW vs δ = true := by
      unfold okW at h ⊢
      rwa [List.all_cons, Bool.and_eq_true] at h
    exact (R.wipe h'.2 fun w hw => hp w (List.mem_cons_of_mem _ hw)).wipe1 (plain_wipe h'.1 vs) (hp v List.mem_cons_self)
theorem wipe_get {σ : L2.St} {k : Nat} : ∀ {vs : List Nat}, k ∉ vs → (L2.wipe σ vs)[k]? = σ[k]?
  | [], _ => rfl
  | v :: vs, h => by
    unfold L2.wipe
    rw [List.getElem?_set_ne fun z => h (by rw [z]; exact List.mem_cons_self)]
    exact wipe_get fun z => h (List.mem_cons_of_mem _ z)
theorem wipe_in {σ : L2.St} {k : Nat} : ∀ {vs : List Nat}, k ∈ vs → k < σ.length → (L2.wipe σ vs)[k]? = some none
  | v :: vs, h, hl => by
    unfold L2.wipe
    by_cases e : k = v
    · subst e
      rw [List.getElem?_set_self (by rw [L2.wipe_length]; exact hl)]
    · rw [List.getElem?_set_ne (Ne.symm e)]
      exact wipe_in ((List.mem_cons.mp h).resolve_left e) hl
theorem wipe_eq {σ σ2 : L2.St} {vs : List Nat} (hl : σ2.length = σ.length) (h : ∀ k, k ∉ vs → σ2[k]? = σ[k]?) : L2.wipe σ2 vs = L2.wipe σ vs := by
  refine List.ext_getElem? fun k => ?_
  by_cases q : k ∈ vs
  · by_cases hk : k < σ.length
    · rw [wipe_in q hk, wipe_in q (by rw [hl]; exact hk)]
    · rw [List.getElem?_eq_none (by rw [L2.wipe_length]; omega), List.getElem?_eq_none (by rw [L2.wipe_length]; omega)]
  · rw [wipe_get q, wipe_get q]
    exact h k q
def rst (vs : List Nat) (σ σ2 : L2.St) : L2.St := vs.foldr (fun v τ => τ.set v (σ[v]?.join)) σ2
theorem rst_len (vs : List Nat) (σ σ2 : L2.St) : (rst vs σ σ2).length = σ2.length := by
  induction vs with
  | nil => rfl
  | cons v vs ih =>
    show ((rst vs σ σ2).set v _).length = _
    rw [List.length_set, ih]
theorem rst_eq {vs : List Nat} {σ σ2 : L2.St} (hl : σ2.length = σ.length) (h : ∀ k, k ∉ vs → σ2[k]? = σ[k]?) : rst vs σ σ2 = σ := by
  have key : ∀ ws : List Nat, ∀ k, (k ∈ ws → (rst ws σ σ2)[k]? = σ[k]?) ∧ (k ∉ ws → (rst ws σ σ2)[k]? = σ2[k]?) := by
    intro ws
    induction ws with
    | nil => exact fun k => ⟨(fun z => nomatch z), fun _ => rfl⟩
    | cons v ws ih =>
      intro k
      have e : rst (v :: ws) σ σ2 = (rst ws σ σ2).set v (σ[v]?.join) := rfl
      rw [e]
      by_cases q : k = v
      · subst q
        refine ⟨fun _ => ?_, fun z => absurd List.mem_cons_self z⟩
        by_cases hk : k < σ.length
        · rw [List.getElem?_set_self (by rw [rst_len]; omega), List.getElem?_eq_getElem hk]
          rfl
        · rw [List.getElem?_eq_none (by rw [List.length_set, rst_len]; omega), List.getElem?_eq_none (by omega)]
      · rw [List.getElem?_set_ne (Ne.symm q)]
        exact ⟨fun z => (ih k).1 ((List.mem_cons.mp z).resolve_left q), fun z => (ih k).2 fun y => z (List.mem_cons_of_mem _ y)⟩
  refine List.ext_getElem? fun k => ?_
  by_cases q : k ∈ vs
  · exact (key vs k).1 q
  · rw [(key vs k).2 q]
    exact h k q
/-- the outer slots come back -/
theorem Rl.unwipe {δ' : List Sl} {σ2 : L2.St} (R2 : Rl K b Fz F δ' σ2 H) (hl : σ2.length = σ.length) : ∀ {vs : List Nat}, (∀ v ∈ vs, v ∉ b.pin) → (∀ v ∈ vs, ∀ s, δ[v]? = some s → SlH K Fz H [] [] (σ[v]?.join) s ∧ (∀ x j, s ≠ .al x j)) →
    ∃ F', Rl K b Fz F' (unw vs δ δ') (rst vs σ σ2) H ∧ ∀ k a, a ∈ F' k → a ∈ F k
  | [], _, _ => ⟨F, R2, fun _ _ h => h⟩
  | v :: vs, hp, hs => by
    obtain ⟨F1, R1, h1⟩ := Rl.unwipe R2 hl (vs := vs) (fun w hw => hp w (List.mem_cons_of_mem _ hw)) fun w hw => hs w (List.mem_cons_of_mem _ hw)
    have e1 : rst (v :: vs) σ σ2 = (rst vs σ σ2).set v (σ[v]?.join) := rfl
    have e2 : unw (v :: vs) δ δ' = upS v (δ[v]?.getD .no) (unw vs δ δ') := rfl
    rw [e1, e2]
    refine ⟨fun k => if k = v then [] else F1 k, R1.put (Same.refl _) R1.le R1.base List.length_set (fun k hk => List.getElem?_set_ne (Ne.symm hk)) (.inr (hp v List.mem_cons_self)) (fun hlt => ?_) (fun x j z => ?_) List.nodup_nil (fun _ z => nomatch z) (fun _ z => nomatch z) (fun _ z => nomatch z) (fun _ z => nomatch z) (fun _ _ _ _ => rfl) (fun k _ a ha => R1.offF k a ha) (fun _ _ => rfl), fun k a ha => ?_⟩
    · rw [List.getElem?_set_self (by rw [R1.len]; exact hlt)]
      cases q : δ[v]? with
      | none => exact rfl
      | some s =>
        obtain ⟨g1, g2⟩ := hs v List.mem_cons_self s q
        cases s with
        | al x j => exact absurd rfl (g2 x j)
        | no => exact g1
        | fz d => exact g1
        | ol xs => exact g1
        | od kvs => exact g1
    · cases q : δ[v]? with
      | none => rw [q] at z; cases z
      | some s =>
        rw [q] at z
        exact absurd z ((hs v List.mem_cons_self s q).2 x j)
    · have ha : a ∈ (if k = v then [] else F1 k) := ha
      by_cases q : k = v
      · rw [if_pos q] at ha; cases ha
      · rw [if_neg q] at ha
        exact h1 k a ha
end
abbrev W0 : WX := fun _ _ _ _ => False
/-- an item for the list: a tree, or (w) a list of its own -/
def elOf (w : Bool) : AV → Option El
  | .val d => some (.fz d)
  | .tmp (.ol xs) => if w = true then (allFz xs).map .ow else none
  | _ => none
def lcL (w : Bool) (vs : List Nat) (t : AV → List Sl → Rs Unit) (tt : List Sl → Rs Bool) (f : List Sl → Rs AV) : List PyData → List El → List Sl → Rs (List El)
  | [], es, δ => .ok es δ
  | d :: r, es, δ => if okW vs δ = true then (match t (.val d) (wipeD vs δ) with
    | .ok _ δ1 => (match tt δ1 with
      | .ok k δ2 => if k = true then (match f δ2 with
        | .ok a δ3 => (match elOf w a with
          | some e => if es.length ≤ cap then lcL w vs t tt f r (es ++ [e]) (unw vs δ δ3) else .bad
          | none => .bad)
        | _ => .bad) else lcL w vs t tt f r es (unw vs δ δ2)
      | _ => .bad)
    | _ => .bad) else .bad
def sLc (w : Bool) (wi : List Sl → Rs (List PyData)) (vs : List Nat) (t : AV → List Sl → Rs Unit) (tt : List Sl → Rs Bool) (f : List Sl → Rs AV) : List Sl → Rs AV := fun δ => (wi δ).bind fun ds δ1 => (lcL w vs t tt f ds [] δ1).bind fun es δ2 => .ok (.tmp (.ol es)) δ2
def tOk : List Sl → Rs Bool := fun δ => .ok true δ
theorem elOf_ok {K : PySem.W.Frag} {b : Bk} {Fz : Hp} {F : Nat → List Addr} {σ : L2.St} {H : Hp} {w : Bool} {a : AV} {e : El} {y : V} (A : AvR K b Fz F H σ y a) (h : elOf w a = some e) :
    ∃ g, ElR K Fz H g y e ∧ g.Nodup ∧ ∀ a ∈ g, Fz a = none ∧ b.B a = none ∧ H a ≠ none ∧ ∀ i, a ∉ F i := by
  cases a with
  | val d => cases h; exact ⟨[], ⟨rfl, A⟩, List.nodup_nil, fun _ z => nomatch z⟩
  | ref i => cases h
  | tmp s =>
    cases s with
    | ol xs =>
      unfold elOf at h
      by_cases c : w = true
      · simp only [if_pos c] at h
        cases q : allFz xs with
        | none => rw [q] at h; cases h
        | some ds =>
          rw [q] at h
          cases h
          obtain ⟨_, g, ⟨l, vs, g', e1, e2, e3, e4⟩, hn, hg⟩ := A
          cases e1
          have rp := e4.allFz q
          refine ⟨[l], ⟨l, vs, rfl, rfl, e3, rp⟩, by simp, fun c hc => hg c ?_⟩
          rw [List.mem_singleton] at hc
          rw [hc, e2]
          exact List.mem_cons_self
      · simp only [if_neg c] at h
        cases h
    | _ => cases h
theorem lc_ok {K : PySem.W.Frag} {mg : Str → Option Value} {W : WX} {pin ts vs : List Nat} {w : Bool} {wi : List Sl → Rs (List PyData)} {t : AV → List Sl → Rs Unit} {tt : List Sl → Rs Bool} {f : List Sl → Rs AV} {tT : TT} (hv : ∀ v ∈ vs, v ∉ pin) (hts : ∀ v ∈ ts, v ∈ vs) (hT : ∀ σ H Q, rdT K mg W0 pin tt σ H Q → tT σ H Q) :
    ∀ σ H Q, rdE K mg W pin (sLc w wi vs t tt f) σ H Q → tLc (rdI K mg W pin wi) (rdG K mg W0 pin ts t) tT (rdE K mg W0 pin f) vs σ H Q := fun σ H Q ⟨b, Fz, F, δ, hpin, R, P⟩ => by
  refine ⟨b, Fz, F, δ, hpin, R, ?_⟩
  unfold sLc at P
  cases q : wi δ with
  | bad => rw [q] at P; exact P
  | er x δ' => rw [q] at P; exact P
  | ok ds δ1 =>
    rw [q] at P
    have P : Post K mg W b Fz σ Q ((lcL w vs t tt f ds [] δ1).bind fun es δ2 => .ok (.tmp (.ol es)) δ2) := P
    intro J H1 Fz1 F1 s1 R1 hw D hD
    obtain ⟨d1, d2, d3⟩ := R1.offN hD
    refine ⟨fun i m H => m = ds.length - i ∧ i ≤ ds.length ∧ ∃ Fz F δ acc es g, Same Fz1 Fz ∧ Rl K b Fz F δ σ H ∧ H D = some (.lst acc) ∧ ElL K Fz H g acc es ∧ (D :: g).Nodup ∧ (∀ a ∈ D :: g, Fz a = none ∧ b.B a = none ∧ H a ≠ none ∧ ∀ k, a ∉ F k) ∧ Post K mg W b Fz σ Q ((lcL w vs t tt f (ds.drop i) es δ).bind fun es δ2 => .ok (.tmp (.ol es)) δ2),
      ⟨ds.length, by simp, Nat.zero_le _, Fz1, F1, δ1, [], [], [], Same.refl _, R1.new hD _, upd_same, .nil, by simp, fun a ha => ?_, by rw [List.drop_zero]; exact P.le s1⟩, ?_⟩
    · rw [List.mem_singleton] at ha
      subst ha
      exact ⟨d1, d2, by rw [upd_same]; simp, d3⟩
    rintro i m H2 ⟨rfl, hi, Fz2, F2, δ2, acc, es, g, s2, R2, hacc, hes, hnd, hg, P2⟩
    have gB : ∀ a ∈ D :: g, b.B a = none := fun a ha => (hg a ha).2.1
    have gH : ∀ a ∈ D :: g, H2 a ≠ none := fun a ha => (hg a ha).2.2.1
    have gT : ∀ a ∈ D :: g, Pl (H2 a) := fun a ha => by
      rcases List.mem_cons.mp ha with z | z
      · rw [z, hacc]; exact .lst
      · exact hes.noT a z
    have Rg := R2.guard (g := D :: g) (fun a ha => ⟨(hg a ha).1, (hg a ha).2.1, (hg a ha).2.2.2⟩) gT
    obtain ⟨go, stop⟩ := hw _ Fz2 F2 δ2 σ H2 s2 Rg
    by_cases hlt : i < ds.length
    · obtain ⟨g1, g2⟩ := go i hlt
      refine .inr ⟨g1, fun H => ∃ Fz F δ acc es g, Same Fz1 Fz ∧ Rl K b Fz F δ σ H ∧ H D = some (.lst acc) ∧ ElL K Fz H g acc es ∧ (D :: g).Nodup ∧ (∀ a ∈ D :: g, Fz a = none ∧ b.B a = none ∧ H a ≠ none ∧ ∀ k, a ∉ F k) ∧ Post K mg W b Fz σ Q ((lcL w vs t tt f (ds.drop (i + 1)) es δ).bind fun es δ2 => .ok (.tmp (.ol es)) δ2),
        fun H3 h3 => ⟨ds.length - (i + 1), by omega, rfl, hlt, h3⟩, fun x H3 y => ?_⟩
      obtain ⟨Fz3, d, e1, s3, R3, r3⟩ := g2 x H3 y
      have ed : ds.drop i = d :: ds.drop (i + 1) := by
        rw [List.drop_eq_getElem_cons hlt]
        rw [List.getElem?_eq_getElem hlt] at e1
        rw [Option.some.inj e1]
      rw [ed] at P2
      unfold lcL at P2
      by_cases cw : okW vs δ2 = true
      · rw [if_pos cw] at P2
        have hvb : ∀ v ∈ vs, v ∉ b.pin := by rw [hpin]; exact hv
        have R4 := R3.wipe cw hvb
        -- how it ends for a state behind the turn
        have back : ∀ {δ5 : List Sl} {σ5 : L2.St} {H5 Fz5 : Hp} {F5 : Nat → List Addr}, Same Fz2 Fz5 → Rl K (gd b H2 (D :: g)) Fz5 F5 δ5 σ5 H5 → σ5.length = σ.length → (∀ k, k ∉ vs → σ5[k]? = σ[k]?) → ∃ F6, Rl K b Fz5 F6 (unw vs δ2 δ5) σ H5 ∧ ∀ k a, a ∈ F6 k → a ∈ F5 k := by
          intro δ5 σ5 H5 Fz5 F5 s25 R5 hl5 fr5
          have R6 := R5.unguard gB R2.f0
          obtain ⟨F6, R7, h7⟩ := Rl.unwipe (σ := σ) (δ := δ2) R6 hl5 (vs := vs) hvb fun v hvv s hs => by
            have h0 := R2.slot v s hs
            have hpl : plainS δ2[v]? = true := by
              unfold okW at cw
              exact List.all_eq_true.mp cw v hvv
            rw [hs] at hpl
            cases s with
            | no => exact ⟨rfl, fun x j z => nomatch z⟩
            | fz d' =>
              obtain ⟨_, v', k1, k2⟩ := h0
              exact ⟨⟨rfl, v', k1, k2.mono s25⟩, fun x j z => nomatch z⟩
            | _ => cases hpl
          rw [rst_eq hl5 fr5] at R7
          exact ⟨F6, R7, h7⟩
        have fits : ∀ {δ5 : List Sl} {σ5 : L2.St} {H5 Fz5 : Hp} {F5 : Nat → List Addr}, Rl K (gd b H2 (D :: g)) Fz5 F5 δ5 σ5 H5 → ∀ a ∈ D :: g, H5 a = H2 a ∧ Fz5 a = none ∧ ∀ k, a ∉ F5 k := fun R5 => R5.guarded gB R2.f0 gH gT
        refine ⟨gd b H2 (D :: g), Fz3, F2, wipeD vs δ2, .val d, hpin, R4, r3, ?_⟩
        cases q2 : t (.val d) (wipeD vs δ2) with
        | bad => simp only [q2] at P2; exact P2
        | er x δ3 => simp only [q2] at P2; exact P2.elim
        | ok u δ3 =>
          simp only [q2] at P2
          intro σ4 H4 Fz4 F4 s4 R5 fr
          have hl4 : σ4.length = σ.length := by rw [fr.1, L2.wipe_length]
          have fr4 : ∀ k, k ∉ vs → σ4[k]? = σ[k]? := fun k hk => (fr.2 k fun z => hk (hts k z)).trans (wipe_get hk)
          refine ⟨wipe_eq hl4 fr4, ?_⟩
          have s24 : Same Fz2 Fz4 := s3.trans s4
          refine hT _ _ _ ⟨gd b H2 (D :: g), Fz4, F4, δ3, hpin, R5, ?_⟩
          cases q3 : tt δ3 with
          | bad => simp only [q3] at P2; exact P2.elim
          | er x δ4 => simp only [q3] at P2; exact P2.elim
          | ok k δ4 =>
            simp only [q3] at P2
            intro H5 Fz5 F5 s5 R6
            by_cases ck : k = true
            · rw [if_pos ck] at P2 ⊢
              refine ⟨gd b H2 (D :: g), Fz5, F5, δ4, hpin, R6, ?_⟩
              cases q4 : f δ4 with
              | bad => simp only [q4] at P2; exact P2.elim
              | er x δ5 => simp only [q4] at P2; exact P2.elim
              | ok a δ5 =>
                simp only [q4] at P2
                cases q5 : elOf w a with
                | none => simp only [q5] at P2; exact P2.elim
                | some e =>
                  simp only [q5] at P2
                  by_cases cl : es.length ≤ cap
                  · rw [if_pos cl] at P2
                    intro y H6 Fz6 F6 s6 R7 A
                    have s26 : Same Fz2 Fz6 := (s24.trans s5).trans s6
                    obtain ⟨ge, he, hne, hge⟩ := elOf_ok A q5
                    obtain ⟨F7, R8, h7⟩ := back s26 R7 hl4 fr4
                    have fit := fits R7
                    have fD := fit D List.mem_cons_self
                    have eD : H6 D = some (.lst acc) := fD.1.trans hacc
                    refine ⟨acc, eD, by rw [hes.len]; exact lt_line cl, ?_⟩
                    have gnot : ∀ a ∈ ge, a ∉ D :: g := fun a ha z => by
                      have h1 : (gd b H2 (D :: g)).B a = none := (hge a ha).2.1
                      have h2 : Hb.addF b.B H2 (D :: g) a = H2 a := addF_in z
                      have h3 : H2 a = none := h2.symm.trans h1
                      exact gH a z h3
                    have geB : ∀ a ∈ ge, b.B a = none := fun a ha => by
                      have h1 : Hb.addF b.B H2 (D :: g) a = none := (hge a ha).2.1
                      rwa [addF_out (gnot a ha)] at h1
                    have neD : ∀ a ∈ g, a ≠ D := fun a ha z => (List.nodup_cons.mp hnd).1 (by rw [← z]; exact ha)
                    have neD2 : ∀ a ∈ ge, a ≠ D := fun a ha z => gnot a ha (by rw [z]; exact List.mem_cons_self)
                    have R9 := R8.other (D := D) (o := .lst (acc ++ [y])) fD.2.1 (gB D List.mem_cons_self) (fun k hk => fD.2.2 k (h7 k D hk)) (by rw [fD.1.trans hacc]; exact .lst)
                    have E1 : ElL K Fz6 (upd H6 D (.lst (acc ++ [y]))) g acc es := hes.keeps s26 fun a ha => by
                      rw [upd_ne (neD a ha)]
                      exact (fit a (List.mem_cons_of_mem _ ha)).1
                    have E2 : ElL K Fz6 (upd H6 D (.lst (acc ++ [y]))) (ge ++ []) [y] [e] := .cons (he.keeps (Same.refl _) fun a ha => upd_ne (neD2 a ha)) .nil
                    rw [List.append_nil] at E2
                    refine ⟨Fz6, F7, _, acc ++ [y], es ++ [e], g ++ ge, s2.trans s26, R9, upd_same, E1.app E2, ?_, fun a ha => ?_, P2.le s26⟩
                    · rw [List.nodup_cons, List.nodup_append]
                      refine ⟨fun z => ?_, (List.nodup_cons.mp hnd).2, hne, fun a ha c hc z => ?_⟩
                      · rcases List.mem_append.mp z with z | z
                        · exact (List.nodup_cons.mp hnd).1 z
                        · exact gnot D z List.mem_cons_self
                      · subst z
                        exact gnot a hc (List.mem_cons_of_mem _ ha)
                    · have cases3 : a = D ∨ a ∈ g ∨ a ∈ ge := by
                        rcases List.mem_cons.mp ha with z | z
                        · exact .inl z
                        · exact .inr (List.mem_append.mp z)
                      rcases cases3 with z | z | z
                      · subst z
                        exact ⟨fD.2.1, gB a List.mem_cons_self, by rw [upd_same]; simp, fun k hk => fD.2.2 k (h7 k a hk)⟩
                      · have fa := fit a (List.mem_cons_of_mem _ z)
                        exact ⟨fa.2.1, gB a (List.mem_cons_of_mem _ z), by rw [upd_ne (neD a z), fa.1]; exact gH a (List.mem_cons_of_mem _ z), fun k hk => fa.2.2 k (h7 k a hk)⟩
                      · have fa := hge a z
                        exact ⟨fa.1, geB a z, by rw [upd_ne (neD2 a z)]; exact fa.2.2.1, fun k hk => fa.2.2.2 k (h7 k a hk)⟩
                  · rw [if_neg cl] at P2
                    exact P2.elim
            · rw [if_neg ck] at P2 ⊢
              have s25 : Same Fz2 Fz5 := s24.trans s5
              obtain ⟨F7, R8, h7⟩ := back s25 R6 hl4 fr4
              have fit := fits R6
              refine ⟨Fz5, F7, _, acc, es, g, s2.trans s25, R8, (fit D List.mem_cons_self).1.trans hacc, hes.keeps s25 fun a ha => (fit a (List.mem_cons_of_mem _ ha)).1, hnd, fun a ha => ?_, P2.le s25⟩
              have fa := fit a ha
              exact ⟨fa.2.1, gB a ha, by rw [fa.1]; exact gH a ha, fun k hk => fa.2.2 k (h7 k a hk)⟩
      · rw [if_neg cw] at P2
        exact P2.elim
    · have e : i = ds.length := by omega
      subst e
      rw [List.drop_length] at P2
      refine .inl ⟨stop, ?_⟩
      exact P2 (.ref D) H2 Fz2 F2 (Same.refl _) R2 ⟨rfl, D :: g, ⟨D, acc, g, rfl, rfl, hacc, hes⟩, hnd, fun a ha => hg a ha⟩
section
variable {X : Cx} {W : WX} {pin ts : List Nat} {elt tg iter : Expr} {ifs : List Expr} {scope : Scope} {own : List (Str × Nat)} {pos : Pos} {wi : List Sl → Rs (List PyData)} {t : AV → List Sl → Rs Unit} {tt : List Sl → Rs Bool} {f : List Sl → Rs AV}
/-- the block's context -/
abbrev BX (X : Cx) (scope : Scope) (s : Shared) (H : Hp) (C : Addr) (cl : List (Str × Addr)) (fp : List Addr) : Cx := X.blk s H scope (compEnvC scope cl C X.env) fp
abbrev STs (X : Cx) (pin : List Nat) (ifs : List Expr) (tt : List Sl → Rs Bool) : Prop := PTs X ifs (rdT X.K X.mg W0 pin tt)
theorem pts_mono {X : Cx} {es : List Expr} {t t' : TT} (h : PTs X es t) (i : ∀ σ H Q, t' σ H Q → t σ H Q) : PTs X es t' := ⟨fun pins s σ H Q I q => h.run pins s σ H Q I (i σ H Q q)⟩
theorem sts_nil {X : Cx} : STs X pin [] tOk := pts_mono pts_nil fun σ H Q ⟨b, Fz, F, δ, hp, R, P⟩ => P H Fz F (Same.refl _) R
theorem sts_one {X : Cx} {c : Expr} (h : ST X W0 pin c tt) : STs X pin [c] tt := pts_one h
theorem se_lc (w : Bool) (hc : X.calm = true) (hN : X.N.Nodup) (hi : SI X W pin tg iter wi) (ok : blkC X.N X.env.scope scope own = true) (hv : ∀ v ∈ own.map (·.2), v ∉ pin) (hts : ∀ v ∈ ts, v ∈ own.map (·.2))
    (hg : ∀ s H C cl fp, SG (BX X scope s H C cl fp) W0 pin ts tg t) (ht : ∀ s H C cl fp, STs (BX X scope s H C cl fp) pin ifs tt) (he : ∀ s H C cl fp, SE (BX X scope s H C cl fp) W0 pin elt f) (hs : ∀ x, foldedSetIterable iter X.env x = pure x := by intro _; rfl) :
    SE X W pin (.ListComp elt [⟨tg, iter, ifs, 0⟩] scope pos) (sLc w wi (own.map (·.2)) t tt f) :=
  pe_mono (pe_lc hc hN hi (blkOk_by ok) hg ht he hs) (lc_ok hv hts fun _ _ _ h => h)
end
end Hb
namespace Hb
open PySem PySem.Spec PyProof.Rows L2
/-- an argument: a tree that stands still; the slot k by reference; a new thing of the callee's own -/
inductive Ar where
  | fz (d : PyData) | io (k : Nat) | own (s : Sl)
def ArH (K : PySem.W.Frag) (Fz H : Hp) (σ : L2.St) (f : List Addr) (v : V) : Ar → Prop
  | .fz d => f = [] ∧ Rp K Fz v d
  | .io k => f = [] ∧ σ[k]? = some (some v)
  | .own s => s.tree.isSome = true ∧ SlH K Fz H [] f (some v) s
theorem ArH.noT {K : PySem.W.Frag} {Fz H : Hp} {σ : L2.St} {f : List Addr} {v : V} {a : Ar} (h : ArH K Fz H σ f v a) : ∀ c ∈ f, Pl (H c) := fun c hc => by
  cases a with
  | fz d => rw [h.1] at hc; cases hc
  | io k => rw [h.1] at hc; cases hc
  | own s => exact h.2.noT c hc
structure ArOk (K : PySem.W.Frag) (b : Bk) (Fz : Hp) (F : Nat → List Addr) (H : Hp) (σ : L2.St) (vs : List V) (ars : List Ar) (G : Nat → List Addr) : Prop where
  len : vs.length = ars.length
  at_ : ∀ (j : Nat) (a : Ar), ars[j]? = some a → ∃ v, vs[j]? = some v ∧ ArH K Fz H σ (G j) v a
  nd : ∀ j, (G j).Nodup
  dj : ∀ i j a, a ∈ G i → a ∈ G j → i = j
  off : ∀ j a, a ∈ G j → Fz a = none ∧ b.B a = none ∧ H a ≠ none ∧ ∀ k, a ∉ F k
section
variable (K : PySem.W.Frag) (mg : Str → Option Value) (W : WX)
def PostAr (b : Bk) (Fz : Hp) (σ : L2.St) (Q : List V → Hp → Prop) : Rs (List Ar) → Prop
  | .ok ars δ => ∀ vs H' Fz' F' G, Same Fz Fz' → Rl K b Fz' F' δ σ H' → ArOk K b Fz' F' H' σ vs ars G → Q vs H'
  | .er x δ => PostX K mg W b Fz σ x δ
  | .bad => False
def rdAr (pin : List Nat) (f : List Sl → Rs (List Ar)) : TA := fun σ H Q => ∃ b Fz F δ, b.pin = pin ∧ Rl K b Fz F δ σ H ∧ PostAr K mg W b Fz σ Q (f δ)
end
abbrev SAr (X : Cx) (W : WX) (pin : List Nat) (es : List Expr) (f : List Sl → Rs (List Ar)) : Prop := PA X es (rdAr X.K X.mg W pin f)
def rNil : List Sl → Rs (List Ar) := fun δ => .ok [] δ
def arOf : AV → Option Ar
  | .val d => some (.fz d)
  | .tmp s => some (.own s)
  | .ref _ => none
/-- a value, or a new thing -/
def rCons (f : List Sl → Rs AV) (g : List Sl → Rs (List Ar)) : List Sl → Rs (List Ar) := fun δ => (f δ).bind fun a δ1 => match arOf a with
  | some r => (g δ1).bind fun rs δ2 => .ok (r :: rs) δ2
  | none => .bad
/-- a name by reference -/
def rIo (k : Nat) (g : List Sl → Rs (List Ar)) : List Sl → Rs (List Ar) := fun δ => (sVar k δ).bind fun _ δ1 => (g δ1).bind fun rs δ2 => .ok (.io k :: rs) δ2
section
variable {K : PySem.W.Frag} {mg : Str → Option Value} {W : WX} {pin : List Nat}
theorem PostAr.le {b : Bk} {Fz Fz1 : Hp} {σ : L2.St} {Q : List V → Hp → Prop} {r : Rs (List Ar)} (s : Same Fz Fz1) (p : PostAr K mg W b Fz σ Q r) : PostAr K mg W b Fz1 σ Q r := by
  cases r with
  | ok a δ => exact fun v H' Fz' F' G s' R e => p v H' Fz' F' G (s.trans s') R e
  | er x δ => exact PostX.le s p
  | bad => exact p
theorem arOk_nil {b : Bk} {Fz : Hp} {F : Nat → List Addr} {H : Hp} {σ : L2.St} : ArOk K b Fz F H σ [] [] (fun _ => []) := ⟨rfl, fun j a h => by simp at h, fun _ => List.nodup_nil, fun _ _ _ h => (nomatch h), fun _ _ h => (nomatch h)⟩
/-- one more argument ahead of the rest, which was reckoned while its thing belonged to the ground -/
theorem ArOk.cons {b : Bk} {Fz1 Fz2 : Hp} {F1 F2 : Nat → List Addr} {H1 H2 : Hp} {δ2 : List Sl} {σ : L2.St} {v : V} {vs : List V} {a : Ar} {ars : List Ar} {g : List Addr} {G : Nat → List Addr} (hs : Same Fz1 Fz2) (h1 : ArH K Fz1 H1 σ g v a) (hn : g.Nodup)
    (hg : ∀ c ∈ g, Fz1 c = none ∧ b.B c = none ∧ H1 c ≠ none ∧ ∀ k, c ∉ F1 k) (f0 : ∀ c, b.F0 c ≠ none → b.B c ≠ none) (R2 : Rl K (gd b H1 g) Fz2 F2 δ2 σ H2) (h2 : ArOk K (gd b H1 g) Fz2 F2 H2 σ vs ars G) :
    ArOk K b Fz2 F2 H2 σ (v :: vs) (a :: ars) (fun j => match j with
      | 0 => g
      | j + 1 => G j) := by
  have fit := R2.guarded (fun c hc => (hg c hc).2.1) f0 (fun c hc => (hg c hc).2.2.1) h1.noT
  have notg : ∀ j c, c ∈ G j → c ∉ g := fun j c hc z => by
    have e1 : Hb.addF b.B H1 g c = none := (h2.off j c hc).2.1
    rw [addF_in z] at e1
    exact (hg c z).2.2.1 e1
  refine ⟨congrArg Nat.succ h2.len, fun j r e => ?_, fun j => ?_, fun i j c hi hj => ?_, fun j c hc => ?_⟩
  · cases j with
    | zero =>
      simp at e
      subst e
      refine ⟨v, rfl, ?_⟩
      cases a with
      | fz d => exact ⟨h1.1, h1.2.mono hs⟩
      | io k => exact h1
      | own s => exact ⟨h1.1, h1.2.keeps hs (fun c hc => (fit c hc).1) fun x j ej _ hx => by
          have := h1.1
          rw [ej] at this
          cases this⟩
    | succ j =>
      obtain ⟨u, e1, e2⟩ := h2.at_ j r (by simpa using e)
      exact ⟨u, by simpa using e1, e2⟩
  · cases j with
    | zero => exact hn
    | succ j => exact h2.nd j
  · cases i with
    | zero =>
      cases j with
      | zero => rfl
      | succ j => exact absurd hi (notg j c hj)
    | succ i =>
      cases j with
      | zero => exact absurd hj (notg i c hi)
      | succ j => exact congrArg Nat.succ (h2.dj i j c hi hj)
  · cases j with
    | zero =>
      obtain ⟨e1, e2, e3⟩ := fit c hc
      exact ⟨e2, (hg c hc).2.1, by rw [e1]; exact (hg c hc).2.2.1, e3⟩
    | succ j =>
      obtain ⟨e1, e2, e3⟩ := h2.off j c hc
      have e2 : Hb.addF b.B H1 g c = none := e2
      rw [addF_out (notg j c hc)] at e2
      exact ⟨e1, e2, e3⟩
end
section
variable {X : Cx} {W : WX} {pin : List Nat} {f : List Sl → Rs AV} {g : List Sl → Rs (List Ar)} {e : Expr} {es : List Expr}
theorem sr_nil : SAr X W pin [] rNil := pa_mono pa_nil fun σ H Q ⟨b, Fz, F, δ, hp, R, P⟩ => P [] H Fz F _ (Same.refl _) R arOk_nil
/-- the rest, while things of the ground's -/
theorem rest_ok {K : PySem.W.Frag} {mg : Str → Option Value} {b : Bk} {Fz1 : Hp} {F1 : Nat → List Addr} {δ1 : List Sl} {σ : L2.St} {H1 : Hp} {Q : List V → Hp → Prop} {v : V} {a : Ar} {gs : List Addr} (hp : b.pin = pin) (R1 : Rl K b Fz1 F1 δ1 σ H1) (h1 : ArH K Fz1 H1 σ gs v a) (hn : gs.Nodup)
    (hg : ∀ c ∈ gs, Fz1 c = none ∧ b.B c = none ∧ H1 c ≠ none ∧ ∀ k, c ∉ F1 k) (P : PostAr K mg W b Fz1 σ Q ((g δ1).bind fun rs δ2 => .ok (a :: rs) δ2)) : rdAr K mg W pin g σ H1 fun vs H2 => Q (v :: vs) H2 := by
  refine ⟨gd b H1 gs, Fz1, F1, δ1, hp, R1.guard (fun c hc => ⟨(hg c hc).1, (hg c hc).2.1, (hg c hc).2.2.2⟩) h1.noT, ?_⟩
  have un : ∀ {Fz' F' δ' H'}, Rl K (gd b H1 gs) Fz' F' δ' σ H' → Rl K b Fz' F' δ' σ H' := fun R => R.unguard (fun c hc => (hg c hc).2.1) R1.f0
  cases q : g δ1 with
  | bad => rw [q] at P; exact P
  | er x δ' =>
    rw [q] at P
    exact fun c dd H' Fz' F' s R e => P c dd H' Fz' F' s (un R) e
  | ok ars δ' =>
    rw [q] at P
    exact fun vs H' Fz' F' G s R A => P (v :: vs) H' Fz' F' _ s (un R) (ArOk.cons s h1 hn hg R1.f0 R A)
theorem sr_cons (h : SE X W pin e f) (h2 : SAr X W pin es g) (hs : starEach (e :: es) X.env = (false, eval e X.env) :: starEach es X.env := by rfl) : SAr X W pin (e :: es) (rCons f g) := pa_mono (pa_cons h h2 hs) fun σ H Q ⟨b, Fz, F, δ, hp, R, P⟩ => by
  refine ⟨b, Fz, F, δ, hp, R, ?_⟩
  unfold rCons at P
  cases q : f δ with
  | bad => rw [q] at P; exact P
  | er x δ' => rw [q] at P; exact P
  | ok a δ1 =>
    rw [q] at P
    intro v H1 Fz1 F1 s1 R1 A
    have P := PostAr.le s1 P
    cases a with
    | ref i => exact P.elim
    | val d => exact rest_ok hp R1 (a := .fz d) (gs := []) ⟨rfl, A⟩ List.nodup_nil (fun _ z => nomatch z) P
    | tmp s =>
      obtain ⟨ht, gs, k1, k2, k3⟩ := A
      exact rest_ok hp R1 (a := .own s) (gs := gs) ⟨ht, k1⟩ k2 k3 P
theorem sr_io (k : Nat) {x : Str} {pos : Pos} (hN : X.N[k]? = some x) (hv : Vis X.env.scope x) (h2 : SAr X W pin es g) (hd : (x == ("__debug__" : Str)) = false := by decide) (hcd : (x == ("__classdict__" : Str)) = false := by decide)
    (hs : starEach (.Name x pos :: es) X.env = (false, eval (.Name x pos) X.env) :: starEach es X.env := by rfl) : SAr X W pin (.Name x pos :: es) (rIo k g) := pa_mono (pa_cons (pe_var hN hv hd hcd) h2 hs) fun σ H Q ⟨b, Fz, F, δ, hp, R, P⟩ => by
  unfold rIo at P
  have hvar : ∃ v, σ[k]? = some (some v) ∧ ∃ a, sVar k δ = .ok a δ := by
    cases q : sVar k δ with
    | bad => rw [q] at P; exact P.elim
    | er x δ' => unfold sVar at q; split at q <;> cases q
    | ok a δ' =>
      unfold sVar at q
      cases q2 : δ[k]? with
      | none => rw [q2] at q; cases q
      | some s =>
        have h := R.slot k s q2
        rw [q2] at q
        cases s with
        | no => cases q
        | fz d => cases q; obtain ⟨_, v, e1, _⟩ := h; exact ⟨v, join_some e1, _, rfl⟩
        | ol xs => cases q; obtain ⟨a, _, _, e1, _⟩ := h; exact ⟨_, join_some e1, _, rfl⟩
        | od kvs => cases q; obtain ⟨a, e1, _⟩ := h; exact ⟨_, join_some e1, _, rfl⟩
        | al y j => cases q; obtain ⟨_, a, c, vs, _, _, _, e1⟩ := h; exact ⟨_, join_some e1, _, rfl⟩
  obtain ⟨v, e1, a, e2⟩ := hvar
  rw [e2] at P
  exact ⟨v, e1, rest_ok hp R (a := .io k) (gs := []) ⟨rfl, e1⟩ List.nodup_nil (fun _ z => nomatch z) P⟩
end
inductive FR where
  | ok (r : Sl) (δ : List Sl) | er (x : Exn) (δ : List Sl) | bad
section
variable (K : PySem.W.Frag) (mg : Str → Option Value)
def PostF (b : Bk) (Fz : Hp) (vs : List V) (Q : VK) (E : XK) : FR → Prop
  | .ok r δ => ∀ v H' Fz' F', Same Fz Fz' → Rl K b Fz' F' δ (vs.map some) H' → AvR K b Fz' F' H' (vs.map some) v (.tmp r) → Q v H'
  | .er x δ => ∀ c dd H' Fz' F', Same Fz Fz' → Rl K b Fz' F' δ (vs.map some) H' → ExR K mg Fz' H' x c dd → E c dd H'
  | .bad => False
/-- the promise: n parameters -/
def spF (n : Nat) (f : List Sl → FR) : Sp := fun vs H Q E => vs.length = n ∧ ∃ b Fz F δ, Rl K b Fz F δ (vs.map some) H ∧ PostF K mg b Fz vs Q E (f δ)
end
def argS (δ : List Sl) : Ar → Option Sl
  | .fz d => some (.fz d)
  | .own s => some s
  | .io k => match δ[k]? with
    | some (.fz d) => some (.fz d)
    | some (.ol xs) => some (.ol xs)
    | some (.od kvs) => some (.od kvs)
    | _ => none
def argsS (δ : List Sl) : List Ar → Option (List Sl)
  | [] => some []
  | a :: r => match argS δ a, argsS δ r with
    | some s, some l => some (s :: l)
    | _, _ => none
/-- the slots that were handed over -/
def iosOf (δ : List Sl) : List Ar → List Nat
  | [] => []
  | .io k :: r => (match δ[k]? with
    | some (.ol _) => k :: iosOf δ r
    | some (.od _) => k :: iosOf δ r
    | _ => iosOf δ r)
  | _ :: r => iosOf δ r
/-- .. and come back -/
def clr (ks : List Nat) (δ : List Sl) : List Sl := ks.foldr (fun k δ => upS k .no δ) δ
def noAl : Sl → Sl
  | .al _ _ => .no
  | s => s
def putB (ks : List Nat) : List Ar → List Sl → List Sl → List Sl
  | .io k :: r, s :: l, δ => putB ks r l (if k ∈ ks then upS k (noAl s) δ else δ)
  | .fz _ :: r, _ :: l, δ => putB ks r l δ
  | .own _ :: r, _ :: l, δ => putB ks r l δ
  | _, _, δ => δ
def AV.ofSl : Sl → AV
  | .fz d => .val d
  | s => .tmp s
def backS (ars : List Ar) (δ' δ : List Sl) : List Sl := putB (iosOf δ ars) ars δ' (clr (iosOf δ ars) δ)
def callF (f : List Sl → FR) (ars : List Ar) (δ : List Sl) : Rs AV := if (iosOf δ ars).Nodup then (match argsS δ ars with
  | some δa => (match f δa with
    | .ok r δ' => .ok (AV.ofSl r) (backS ars δ' δ)
    | .er x δ' => .er x (backS ars δ' δ)
    | .bad => .bad)
  | none => .bad) else .bad
def sCall (f : List Sl → FR) (dd : List PyData) (g : List Sl → Rs (List Ar)) : List Sl → Rs AV := fun δ => (g δ).bind fun ars δ1 => callF f (ars ++ dd.map .fz) δ1
section
variable {δ : List Sl}
def ownS : Option Sl → Bool
  | some (.ol _) => true
  | some (.od _) => true
  | _ => false
theorem ios_cons_io {k : Nat} {r : List Ar} : iosOf δ (.io k :: r) = if ownS δ[k]? = true then k :: iosOf δ r else iosOf δ r := by
  cases q : δ[k]? with
  | none => simp [iosOf, q, ownS]
  | some s => cases s <;> simp [iosOf, q, ownS]
theorem ios_mem {k : Nat} (c : ownS δ[k]? = true) : ∀ {ars : List Ar} {j : Nat}, ars[j]? = some (.io k) → k ∈ iosOf δ ars
  | [], _, h => by simp at h
  | a :: r, 0, h => by
    simp at h
    subst h
    rw [ios_cons_io, if_pos c]
    exact List.mem_cons_self
  | a :: r, j + 1, h => by
    have ih := ios_mem c (ars := r) (j := j) (by simpa using h)
    cases a with
    | fz d => exact ih
    | own s => exact ih
    | io m =>
      rw [ios_cons_io]
      by_cases e : ownS δ[m]? = true
      · rw [if_pos e]; exact List.mem_cons_of_mem _ ih
      · rw [if_neg e]; exact ih
theorem ios_uniq {k : Nat} (c : ownS δ[k]? = true) : ∀ {ars : List Ar} {i j : Nat}, (iosOf δ ars).Nodup → ars[i]? = some (.io k) → ars[j]? = some (.io k) → i = j
  | [], _, _, _, h, _ => by simp at h
  | a :: r, 0, 0, _, _, _ => rfl
  | a :: r, 0, j + 1, nd, h, h2 => by
    simp at h
    subst h
    rw [ios_cons_io, if_pos c] at nd
    exact absurd (ios_mem c (ars := r) (j := j) (by simpa using h2)) (List.nodup_cons.mp nd).1
  | a :: r, i + 1, 0, nd, h, h2 => by
    simp at h2
    subst h2
    rw [ios_cons_io, if_pos c] at nd
    exact absurd (ios_mem c (ars := r) (j := i) (by simpa using h)) (List.nodup_cons.mp nd).1
  | a :: r, i + 1, j + 1, nd, h, h2 => by
    have nd' : (iosOf δ r).Nodup := by
      cases a with
      | fz d => exact nd
      | own s => exact nd
      | io m =>
        rw [ios_cons_io] at nd
        by_cases e : ownS δ[m]? = true
        · rw [if_pos e] at nd; exact (List.nodup_cons.mp nd).2
        · rw [if_neg e] at nd; exact nd
    exact congrArg Nat.succ (ios_uniq c nd' (by simpa using h) (by simpa using h2))
theorem argsS_get : ∀ {ars : List Ar} {l : List Sl}, argsS δ ars = some l → l.length = ars.length ∧ ∀ (j : Nat) (a : Ar), ars[j]? = some a → ∃ s, l[j]? = some s ∧ argS δ a = some s
  | [], _, h => by
    cases h
    exact ⟨rfl, fun j a h => by simp at h⟩
  | a :: r, l, h => by
    unfold argsS at h
    cases q1 : argS δ a with
    | none => rw [q1] at h; cases h
    | some s =>
      cases q2 : argsS δ r with
      | none => rw [q1, q2] at h; cases h
      | some l' =>
        rw [q1, q2] at h
        cases h
        obtain ⟨e1, e2⟩ := argsS_get q2
        refine ⟨by simp [e1], fun j b hb => ?_⟩
        cases j with
        | zero =>
          simp at hb
          subst hb
          exact ⟨s, rfl, q1⟩
        | succ j =>
          obtain ⟨t, e3, e4⟩ := e2 j b (by simpa using hb)
          exact ⟨t, by simpa using e3, e4⟩
end
section
variable {K : PySem.W.Frag} {mg : Str → Option Value} {b : Bk} {Fz : Hp} {F : Nat → List Addr} {δ : List Sl} {σ : L2.St} {H : Hp}
theorem Rl.clear (R : Rl K b Fz F δ σ H) : ∀ ks : List Nat, Rl K b Fz (fun k => if k ∈ ks then [] else F k) (clr ks δ) σ H
  | [] => by
    have e : (fun k => if k ∈ ([] : List Nat) then [] else F k) = F := by funext k; simp
    rw [e]
    exact R
  | m :: ks => by
    have R1 := R.clear ks
    have R2 := R1.put (i := m) (s := .no) (g := []) (Same.refl _) R1.le R1.base rfl (fun _ _ => rfl) (.inl rfl) (fun _ => rfl) (fun x j z => nomatch z) List.nodup_nil (fun _ z => nomatch z) (fun _ z => nomatch z) (fun _ z => nomatch z) (fun _ z => nomatch z) (fun _ _ _ _ => rfl) (fun k _ a ha => R1.offF k a ha) (fun _ _ => rfl)
    have e : (fun k => if k = m then [] else if k ∈ ks then [] else F k) = fun k => if k ∈ m :: ks then [] else F k := by
      funext k
      by_cases q : k = m
      · simp [q]
      · simp [q]
    rw [e] at R2
    exact R2
theorem Rl.move (R : Rl K b Fz F δ σ H) {Fz' H' : Hp} (s : Same Fz Fz') (le : Same Fz' H') (base : Same b.B H') (hF : ∀ k a, a ∈ F k → H' a = H a ∧ Fz' a = none) (hB : ∀ a, b.B a ≠ none → Fz' a = Fz a ∨ ((∃ xs, b.B a = some (.tup xs)) ∧ Fz' a = b.B a)) (tb : Tb b Fz' H') : Rl K b Fz' F δ σ H' where
  le := le
  base := base
  len := R.len
  slot := fun i t e => (R.slot i t e).keeps s (fun a ha => (hF i a ha).1) fun x j ej a ha => by
    subst ej
    obtain ⟨xs, hx⟩ := R.als i x j e
    obtain ⟨l, vs, g, p1, p2, _⟩ := R.slot x _ hx
    rw [ha] at p1
    cases p1
    exact (hF x a (by rw [p2]; exact List.mem_cons_self)).1
  nd := R.nd
  dj := R.dj
  offF := fun i a ha => (hF i a ha).2
  offB := R.offB
  on := fun i a ha => by
    rw [(hF i a ha).1]
    exact R.on i a ha
  keep := fun a ha => by
    rcases hB a ha with z | z
    · rw [z]
      exact R.keep a ha
    · exact .inr z
  f0 := R.f0
  pin := R.pin
  als := R.als
  noT := fun i a ha => by
    rw [(hF i a ha).1]
    exact R.noT i a ha
  tb := tb
  tp := R.tp
theorem noAl_ok {Fz H : Hp} {σ1 σ2 : L2.St} {f : List Addr} {o : Option V} {s : Sl} (h : SlH K Fz H σ1 f o s) : SlH K Fz H σ2 f o (noAl s) := by
  cases s with
  | al x j => exact h.1
  | no => exact h
  | fz d => exact h
  | ol xs => exact h
  | od kvs => exact h
/-- the slots that were handed over come back, one by one -/
theorem Rl.putBack {ks : List Nat} {Fz' H' : Hp} {F' : Nat → List Addr} {δ' : List Sl} {vs : List V} {b' : Bk} (R' : Rl K b' Fz' F' δ' (vs.map some) H') (hb : ∀ a, b.B a ≠ none → b'.B a ≠ none) :
    ∀ (ars : List Ar) (l : List Sl) (j : Nat) (Fc : Nat → List Addr) (δc : List Sl), Rl K b Fz' Fc δc σ H' → l.length = ars.length → (∀ i s, l[i]? = some s → δ'[j + i]? = some s) → (∀ i k, ars[i]? = some (.io k) → ∃ v, vs[j + i]? = some v ∧ σ[k]? = some (some v)) →
      (∀ m a, a ∈ Fc m → b'.B a ≠ none ∨ ∃ i, i < j ∧ a ∈ F' i) → ∃ Fn, Rl K b Fz' Fn (putB ks ars l δc) σ H' ∧ ∀ m a, a ∈ Fn m → b'.B a ≠ none ∨ ∃ i, a ∈ F' i
  | [], l, j, Fc, δc, R, _, _, _, h => ⟨Fc, by cases l <;> exact R, fun m a ha => (h m a ha).imp id fun ⟨i, _, e⟩ => ⟨i, e⟩⟩
  | a :: r, [], _, _, _, _, hl, _, _, _ => by cases hl
  | .fz d :: r, s :: l, j, Fc, δc, R, hl, h1, h2, h3 => by
    refine Rl.putBack R' hb r l (j + 1) Fc δc R (by simpa using hl) (fun i t e => ?_) (fun i k e => ?_) fun m c hc => (h3 m c hc).imp id fun ⟨i, e1, e2⟩ => ⟨i, by omega, e2⟩
    · have := h1 (i + 1) t (by simpa using e)
      rwa [show j + (i + 1) = j + 1 + i by omega] at this
    · have := h2 (i + 1) k (by simpa using e)
      rwa [show j + (i + 1) = j + 1 + i by omega] at this
  | .own d :: r, s :: l, j, Fc, δc, R, hl, h1, h2, h3 => by
    refine Rl.putBack R' hb r l (j + 1) Fc δc R (by simpa using hl) (fun i t e => ?_) (fun i k e => ?_) fun m c hc => (h3 m c hc).imp id fun ⟨i, e1, e2⟩ => ⟨i, by omega, e2⟩
    · have := h1 (i + 1) t (by simpa using e)
      rwa [show j + (i + 1) = j + 1 + i by omega] at this
    · have := h2 (i + 1) k (by simpa using e)
      rwa [show j + (i + 1) = j + 1 + i by omega] at this
  | .io k :: r, s :: l, j, Fc, δc, R, hl, h1, h2, h3 => by
    have n1 : ∀ i t, l[i]? = some t → δ'[j + 1 + i]? = some t := fun i t e => by
      have := h1 (i + 1) t (by simpa using e)
      rwa [show j + (i + 1) = j + 1 + i by omega] at this
    have n2 : ∀ i k', r[i]? = some (.io k') → ∃ v, vs[j + 1 + i]? = some v ∧ σ[k']? = some (some v) := fun i k' e => by
      have := h2 (i + 1) k' (by simpa using e)
      rwa [show j + (i + 1) = j + 1 + i by omega] at this
    by_cases c : k ∈ ks
    · have e0 : putB ks (.io k :: r) (s :: l) δc = putB ks r l (upS k (noAl s) δc) := by
        show putB ks r l (if k ∈ ks then upS k (noAl s) δc else δc) = _
        rw [if_pos c]
      rw [e0]
      obtain ⟨v, v1, v2⟩ := h2 0 k rfl
      have hs := R'.slot j s (by simpa using h1 0 s rfl)
      have hvj : (vs.map some)[j]? = some (some v) := by
        rw [List.getElem?_map, show vs[j]? = some v by simpa using v1]
        rfl
      rw [hvj] at hs
      refine Rl.putBack R' hb r l (j + 1) _ _ (R.put (i := k) (s := noAl s) (g := F' j) (Same.refl _) R.le R.base rfl (fun _ _ => rfl) (.inl rfl) (fun _ => ?_) (fun x i z => ?_) (R'.nd j) (fun a ha => R'.offF j a ha) (fun a ha => ?_) (fun a ha m hm hin => ?_) (fun a ha => R'.on j a ha) (fun _ _ _ _ => rfl) (fun m _ a ha => R.offF m a ha) (fun _ _ => rfl) (fun a ha => R'.noT j a ha)) (by simpa using hl) n1 n2 (fun m a ha => ?_)
      · rw [v2]
        exact noAl_ok hs
      · cases s <;> cases z
      · cases q : b.B a with
        | none => rfl
        | some o => exact absurd (R'.offB j a ha) (hb a (by rw [q]; simp))
      · rcases h3 m a hin with z | ⟨i, z1, z2⟩
        · exact z (R'.offB j a ha)
        · have := R'.dj i j a z2 ha
          omega
      · have ha : a ∈ (if m = k then F' j else Fc m) := ha
        by_cases q : m = k
        · rw [if_pos q] at ha
          exact .inr ⟨j, Nat.lt_succ_self j, ha⟩
        · rw [if_neg q] at ha
          exact (h3 m a ha).imp id fun ⟨i, e1, e2⟩ => ⟨i, by omega, e2⟩
    · have e0 : putB ks (.io k :: r) (s :: l) δc = putB ks r l δc := by
        show putB ks r l (if k ∈ ks then upS k (noAl s) δc else δc) = _
        rw [if_neg c]
      rw [e0]
      exact Rl.putBack R' hb r l (j + 1) Fc δc R (by simpa using hl) n1 n2 fun m a ha => (h3 m a ha).imp id fun ⟨i, e1, e2⟩ => ⟨i, by omega, e2⟩
end
end Hb
namespace Hb
open PySem PySem.Spec PyProof.Rows L2
section
variable {K : PySem.W.Frag} {mg : Str → Option Value} {W : WX} {b : Bk} {Fz : Hp} {F : Nat → List Addr} {δ : List Sl} {σ : L2.St} {H : Hp}
/-- what is handed over -/
def passL (δ : List Sl) (F G : Nat → List Addr) (ars : List Ar) : List Addr := (iosOf δ ars).flatMap F ++ (List.range ars.length).flatMap G
/-- the callee's ground: all else -/
def calB (H : Hp) (p : List Addr) : Hp := fun a => if a ∈ p then none else H a
def calF0 (H Fz : Hp) (p : List Addr) : Hp := fun a => if a ∈ p then none else if H a = none then none else Fz a
def calF (δ : List Sl) (F G : Nat → List Addr) (ars : List Ar) (j : Nat) : List Addr := match ars[j]? with
  | some (.io k) => if ownS δ[k]? = true then F k else []
  | some (.own _) => G j
  | _ => []
theorem call_ok {Q : VK} {vs : List V} {ars : List Ar} {G : Nat → List Addr} {f : List Sl → FR} (R : Rl K b Fz F δ σ H) (A : ArOk K b Fz F H σ vs ars G) (P : Post K mg W b Fz σ Q (callF f ars δ)) :
    spF K mg ars.length f vs H Q (fun c dd H' => W c dd σ H') := by
  refine ⟨A.len, ?_⟩
  unfold callF at P
  by_cases nd : (iosOf δ ars).Nodup
  · rw [if_pos nd] at P
    cases q1 : argsS δ ars with
    | none => simp only [q1] at P; exact P.elim
    | some δa =>
      simp only [q1] at P
      obtain ⟨la, ga⟩ := argsS_get q1
      obtain ⟨p, hp⟩ : ∃ p, p = passL δ F G ars := ⟨_, rfl⟩
      have pio : ∀ k, k ∈ iosOf δ ars → ∀ a ∈ F k, a ∈ p := fun k hk a ha => by
        rw [hp]
        exact List.mem_append_left _ (List.mem_flatMap.mpr ⟨k, hk, ha⟩)
      have pown : ∀ j, j < ars.length → ∀ a ∈ G j, a ∈ p := fun j hj a ha => by
        rw [hp]
        exact List.mem_append_right _ (List.mem_flatMap.mpr ⟨j, List.mem_range.mpr hj, ha⟩)
      have pin : ∀ a ∈ p, (∃ k, k ∈ iosOf δ ars ∧ a ∈ F k) ∨ ∃ j, a ∈ G j := fun a ha => by
        rw [hp] at ha
        rcases List.mem_append.mp ha with z | z
        · obtain ⟨k, e1, e2⟩ := List.mem_flatMap.mp z
          exact .inl ⟨k, e1, e2⟩
        · obtain ⟨j, _, e2⟩ := List.mem_flatMap.mp z
          exact .inr ⟨j, e2⟩
      have pFz : ∀ a ∈ p, Fz a = none := fun a ha => (pin a ha).elim (fun ⟨k, _, e⟩ => R.offF k a e) fun ⟨j, e⟩ => (A.off j a e).1
      have pB : ∀ a ∈ p, b.B a = none := fun a ha => (pin a ha).elim (fun ⟨k, _, e⟩ => R.offB k a e) fun ⟨j, e⟩ => (A.off j a e).2.1
      have pPl : ∀ a ∈ p, Pl (H a) := fun a ha => by
        rw [hp] at ha
        rcases List.mem_append.mp ha with z | z
        · obtain ⟨k, _, e⟩ := List.mem_flatMap.mp z
          exact R.noT k a e
        · obtain ⟨j, hj, e⟩ := List.mem_flatMap.mp z
          have hj := List.mem_range.mp hj
          obtain ⟨v, _, e4⟩ := A.at_ j _ (List.getElem?_eq_getElem hj)
          exact e4.noT a e
      have getV : ∀ j a, ars[j]? = some a → ∃ s v, δa[j]? = some s ∧ argS δ a = some s ∧ vs[j]? = some v ∧ ArH K Fz H σ (G j) v a := fun j a e => by
        obtain ⟨s, e1, e2⟩ := ga j a e
        obtain ⟨v, e3, e4⟩ := A.at_ j a e
        exact ⟨s, v, e1, e2, e3, e4⟩
      have cF : ∀ j a, a ∈ calF δ F G ars j → (∃ k, ars[j]? = some (.io k) ∧ ownS δ[k]? = true ∧ a ∈ F k) ∨ ∃ s, ars[j]? = some (.own s) ∧ a ∈ G j := fun j a ha => by
        unfold calF at ha
        cases q : ars[j]? with
        | none => rw [q] at ha; cases ha
        | some r =>
          rw [q] at ha
          cases r with
          | fz d => cases ha
          | own s => exact .inr ⟨s, rfl, ha⟩
          | io k =>
            have ha : a ∈ (if ownS δ[k]? = true then F k else []) := ha
            by_cases c : ownS δ[k]? = true
            · rw [if_pos c] at ha
              exact .inl ⟨k, rfl, c, ha⟩
            · rw [if_neg c] at ha
              cases ha
      have cp : ∀ j a, a ∈ calF δ F G ars j → a ∈ p := fun j a ha => (cF j a ha).elim (fun ⟨k, e1, e2, e3⟩ => pio k (ios_mem e2 e1) a e3) fun ⟨s, e1, e2⟩ => pown j (List.getElem?_eq_some_iff.mp e1).1 a e2
      have Rc : Rl K ⟨calB H p, calF0 H Fz p, [], [], []⟩ Fz (calF δ F G ars) δa (vs.map some) H := by
        refine ⟨R.le, fun a o e => ?_, by rw [List.length_map, A.len, la], fun j s e => ?_, fun j => ?_, fun i j a h1 h2 => ?_, fun j a h => pFz a (cp j a h), fun j a h => if_pos (cp j a h), fun j a h => ?_, fun a h => .inl ?_, fun a h => ?_, fun _ z => (nomatch z), fun j x m e => ?_, fun j a h => ?_, .nil rfl, fun z => (nomatch z)⟩
        · have e : (if a ∈ p then none else H a) = some o := e
          by_cases c : a ∈ p
          · rw [if_pos c] at e; cases e
          · rw [if_neg c] at e; exact e
        · have hj : j < ars.length := by rw [← la]; exact (List.getElem?_eq_some_iff.mp e).1
          obtain ⟨s', v, e1, e2, e3, e4⟩ := getV j _ (List.getElem?_eq_getElem hj)
          rw [e] at e1
          cases e1
          have hv : (vs.map some)[j]?.join = some v := by rw [List.getElem?_map, e3]; rfl
          rw [hv]
          unfold calF
          rw [List.getElem?_eq_getElem hj]
          generalize ars[j] = r at e2 e4
          cases r with
          | fz d =>
            cases e2
            exact ⟨rfl, v, rfl, e4.2⟩
          | own t =>
            cases e2
            have h2 := e4.2
            cases s with
            | al x m => have := e4.1; cases this
            | no => exact h2
            | fz d => exact h2
            | ol xs => exact h2
            | od kvs => exact h2
          | io k =>
            have hk : σ[k]? = some (some v) := e4.2
            unfold argS at e2
            cases q2 : δ[k]? with
            | none => simp only [q2] at e2; cases e2
            | some t =>
              have hs := R.slot k t q2
              rw [hk] at hs
              cases t with
              | fz d => simp only [q2] at e2; cases e2; exact ⟨by simp [ownS, q2], hs.2⟩
              | ol xs => simp only [q2] at e2; cases e2; simp only [ownS, q2, if_true]; exact hs
              | od kvs => simp only [q2] at e2; cases e2; simp only [ownS, q2, if_true]; exact hs
              | no => simp only [q2] at e2; cases e2
              | al x m => simp only [q2] at e2; cases e2
        · unfold calF
          cases q : ars[j]? with
          | none => exact List.nodup_nil
          | some r =>
            cases r with
            | fz d => exact List.nodup_nil
            | own s => exact A.nd j
            | io k =>
              show (if ownS δ[k]? = true then F k else []).Nodup
              by_cases c : ownS δ[k]? = true
              · rw [if_pos c]; exact R.nd k
              · rw [if_neg c]; exact List.nodup_nil
        · rcases cF i a h1 with ⟨k, e1, e2, e3⟩ | ⟨s, e1, e2⟩
          · rcases cF j a h2 with ⟨m, f1, f2, f3⟩ | ⟨t, f1, f2⟩
            · have := R.dj k m a e3 f3
              subst this
              exact ios_uniq e2 nd e1 f1
            · exact absurd e3 ((A.off j a f2).2.2.2 k)
          · rcases cF j a h2 with ⟨m, f1, f2, f3⟩ | ⟨t, f1, f2⟩
            · exact absurd f3 ((A.off i a e2).2.2.2 m)
            · exact A.dj i j a e2 f2
        · rcases cF j a h with ⟨k, e1, e2, e3⟩ | ⟨s, e1, e2⟩
          · exact R.on k a e3
          · exact (A.off j a e2).2.2.1
        · have h : (if a ∈ p then none else H a) ≠ none := h
          show Fz a = if a ∈ p then none else if H a = none then none else Fz a
          by_cases c : a ∈ p
          · rw [if_pos c] at h; exact absurd rfl h
          · rw [if_neg c] at h ⊢
            rw [if_neg h]
        · have h : (if a ∈ p then none else if H a = none then none else Fz a) ≠ none := h
          show (if a ∈ p then none else H a) ≠ none
          by_cases c : a ∈ p
          · rw [if_pos c] at h; exact absurd rfl h
          · rw [if_neg c] at h ⊢
            by_cases c2 : H a = none
            · rw [if_pos c2] at h; exact absurd rfl h
            · exact c2
        · have hj : j < ars.length := by rw [← la]; exact (List.getElem?_eq_some_iff.mp e).1
          obtain ⟨s', v, e1, e2, e3, e4⟩ := getV j _ (List.getElem?_eq_getElem hj)
          rw [e] at e1
          cases e1
          generalize ars[j] = r at e2 e4
          cases r with
          | fz d => cases e2
          | own t =>
            cases e2
            have := e4.1
            cases this
          | io k =>
            unfold argS at e2
            cases q2 : δ[k]? with
            | none => simp only [q2] at e2; cases e2
            | some t => cases t <;> (simp only [q2] at e2; cases e2)
        · rcases cF j a h with ⟨k, e1, e2, e3⟩ | ⟨s, e1, e2⟩
          · exact R.noT k a e3
          · obtain ⟨v, _, e4⟩ := A.at_ j _ e1
            exact e4.noT a e2
      refine ⟨_, Fz, _, δa, Rc, ?_⟩
      have calN : ∀ a, H a ≠ none → a ∉ p → calB H p a ≠ none := fun a h1 h2 => by
        show (if a ∈ p then none else H a) ≠ none
        rw [if_neg h2]
        exact h1
      -- what comes back
      have fin : ∀ {δ' : List Sl} {H' Fz' : Hp} {F' : Nat → List Addr}, Same Fz Fz' → Rl K ⟨calB H p, calF0 H Fz p, [], [], []⟩ Fz' F' δ' (vs.map some) H' → ∃ Fn, Rl K b Fz' Fn (backS ars δ' δ) σ H' ∧ ∀ m a, a ∈ Fn m → calB H p a ≠ none ∨ ∃ i, a ∈ F' i := by
        intro δ' H' Fz' F' s R'
        have outF : ∀ k, k ∉ iosOf δ ars → ∀ a ∈ F k, a ∉ p := fun k hk a ha z => by
          rcases pin a z with ⟨m, e1, e2⟩ | ⟨j, e⟩
          · exact hk (by rw [R.dj k m a ha e2]; exact e1)
          · exact (A.off j a e).2.2.2 k ha
        have tb' : Tb b Fz' H' := fun q hq => by
          obtain ⟨t0, t1, t2⟩ := R.tb q hq
          have nt : q.1 ∉ p := fun z => R.tb.tbl hq (pPl _ z)
          have hx : ∀ a o, H a = some o → ¬Pl (some o) → H' a = some o := fun a o e n => R'.base a o (by
            show (if a ∈ p then none else H a) = some o
            rw [if_neg fun z => n (by rw [← e]; exact pPl a z)]
            exact e)
          refine ⟨tabS_keep t0 hx, ?_, t2⟩
          obtain ⟨ps, e0, _⟩ := t0
          rcases R'.keep q.1 (calN _ (by rw [e0]; simp) nt) with z | ⟨⟨xs, z⟩, _⟩
          · rw [z]
            show (if q.1 ∈ p then none else if H q.1 = none then none else Fz q.1) = none
            rw [if_neg nt, if_neg (by rw [e0]; simp)]
            exact t1
          · have z : (if q.1 ∈ p then none else H q.1) = some (.tup xs) := z
            rw [if_neg nt, e0] at z
            cases z
        have R1 := (R.clear (iosOf δ ars)).move (Fz' := Fz') (H' := H') s R'.le (fun a o e => ?_) (fun k a ha => ?_) (fun a ha => ?_) tb'
        · refine Rl.putBack (b := b) R' (fun a ha => ?_) ars δ' 0 _ _ R1 (by have := R'.len; rw [List.length_map, A.len] at this; exact this.symm) (fun i t e => by rwa [Nat.zero_add]) (fun i k e => ?_) (fun m a ha => ?_)
          · cases q : b.B a with
            | none => exact absurd q ha
            | some o => exact calN a (by rw [R.base a o q]; simp) fun z => by rw [pB a z] at q; cases q
          · obtain ⟨v, e1, e2⟩ := A.at_ i _ e
            exact ⟨v, by rwa [Nat.zero_add], e2.2⟩
          · have ha : a ∈ (if m ∈ iosOf δ ars then [] else F m) := ha
            by_cases c : m ∈ iosOf δ ars
            · rw [if_pos c] at ha; cases ha
            · rw [if_neg c] at ha
              exact .inl (calN a (R.on m a ha) (outF m c a ha))
        · have hn : a ∉ p := fun z => by rw [pB a z] at e; cases e
          exact R'.base a o (by
            show (if a ∈ p then none else H a) = some o
            rw [if_neg hn]
            exact R.base a o e)
        · have ha : a ∈ (if k ∈ iosOf δ ars then [] else F k) := ha
          by_cases c : k ∈ iosOf δ ars
          · rw [if_pos c] at ha; cases ha
          · rw [if_neg c] at ha
            have hn := outF k c a ha
            have nn := calN a (R.on k a ha) hn
            refine ⟨?_, ?_⟩
            · cases q : H a with
              | none => exact absurd q (R.on k a ha)
              | some o => exact R'.base a o (by
                  show (if a ∈ p then none else H a) = some o
                  rw [if_neg hn]
                  exact q)
            · rcases R'.keep a nn with z | ⟨⟨xs, z⟩, _⟩
              · rw [z]
                show (if a ∈ p then none else if H a = none then none else Fz a) = none
                rw [if_neg hn, if_neg (R.on k a ha)]
                exact R.offF k a ha
              · have z : (if a ∈ p then none else H a) = some (.tup xs) := z
                rw [if_neg hn] at z
                exact ((R.noT k a ha).tup z).elim
        · have hn : a ∉ p := fun z => ha (pB a z)
          have hH : H a ≠ none := by
            cases q : b.B a with
            | none => exact absurd q ha
            | some o => rw [R.base a o q]; simp
          have z := R'.keep a (calN a hH hn)
          have z : Fz' a = (if a ∈ p then none else if H a = none then none else Fz a) ∨ ((∃ xs, (if a ∈ p then none else H a) = some (.tup xs)) ∧ Fz' a = (if a ∈ p then none else H a)) := z
          rw [if_neg hn, if_neg hH, if_neg hn] at z
          rcases z with z | ⟨⟨xs, z1⟩, z2⟩
          · exact .inl z
          · cases qb : b.B a with
            | none => exact absurd qb ha
            | some o =>
              have h2 := R.base a o qb
              rw [z1] at h2
              cases h2
              exact .inr ⟨⟨xs, rfl⟩, z2.trans z1⟩
      cases q2 : f δa with
      | bad => simp only [q2] at P; exact P
      | er x δ' =>
        simp only [q2] at P
        intro c dd H' Fz' F' s R' e
        obtain ⟨Fn, Rn, _⟩ := fin s R'
        exact P c dd H' Fz' Fn s Rn e
      | ok r δ' =>
        simp only [q2] at P
        intro v H' Fz' F' s R' Ar
        obtain ⟨Fn, Rn, hn⟩ := fin s R'
        refine P v H' Fz' Fn s Rn ?_
        obtain ⟨ht, g, h1, h2, h3⟩ := Ar
        have gn : ∀ a ∈ g, calB H p a = none := fun a ha => (h3 a ha).2.1
        have gen : AvR K b Fz' Fn H' σ v (.tmp r) := ⟨ht, g, h1, h2, fun a ha => ⟨(h3 a ha).1, ?_, (h3 a ha).2.2.1, fun m hm => ?_⟩⟩
        · cases r with
          | fz d =>
            obtain ⟨e, v', e1, e2⟩ := h1
            cases e1
            exact e2
          | no => cases ht
          | al x j => cases ht
          | ol xs => exact gen
          | od kvs => exact gen
        · cases q : b.B a with
          | none => rfl
          | some o => exact absurd (gn a ha) (calN a (by rw [R.base a o q]; simp) fun z => by rw [pB a z] at q; cases q)
        · rcases hn m a hm with z | ⟨i, z⟩
          · exact z (gn a ha)
          · exact (h3 a ha).2.2.2 i z
  · rw [if_neg nd] at P
    exact P.elim
end
structure FnG (P : Program) (w : World) (K : PySem.W.Frag) (mg : Str → Option Value) (base : Heap) (k : Nat) (f : Addr) (fd : FuncData) (ps : List Str) (sp : Sp) : Prop where
  len : ∀ vs H Q E, sp vs H Q E → vs.length = ps.length
  run : ∀ (A : Around) (outer : List Env) (s : Shared) (H : Hp) (args : Args) (us : List Value) (vs : List V) (Q : VK) (E : XK), A.guards = some [] → Room k A → Env0 P w K mg base A outer s H → BindsTo s fd args (ps.zip us) → Vals vs us → sp vs H Q E →
    codeAny (model P w) A (.call (.ref f) args) (CR (L2.CX P w) outer P w H s Q E) s
theorem FnG.mono {P : Program} {w : World} {K : PySem.W.Frag} {mg : Str → Option Value} {base : Heap} {j k : Nat} {f : Addr} {fd : FuncData} {ps : List Str} {sp : Sp} (F : FnG P w K mg base j f fd ps sp) (h : j ≤ k) : FnG P w K mg base k f fd ps sp :=
  ⟨F.len, fun A outer s H args us vs Q E hg hr => F.run A outer s H args us vs Q E hg (hr.mono h)⟩
section
variable {X : Cx} {k : Nat} {f : Addr} {fd : FuncData} {ps : List Str} {W : WX} {pin : List Nat} {x : Str} {p pos : Pos} {e : Expr} {es : List Expr} {n : Nat} {F : List Sl → FR} {g : List Sl → Rs (List Ar)} {ds : List Value} {dd : List PyData}
/-- a call of it, by values -/
theorem run_G (G : FnG X.prog X.w X.K X.mg X.base k f fd ps (spF X.K X.mg n F)) (hr : Room k X.A) (hgd : X.A.guards = some []) {pins : List (Addr × Obj)} {σ : L2.St} {H : Hp} {s : Shared} {Q : VK} {us : List Value} {vs dvs : List V} (hx : PassesAt (L2.CX X.prog X.w) X σ (WE W σ))
    (hb : Binds X.K fd ps ds) (hd : Vals dvs ds) (I : Inv X pins σ H s) (r : Vals vs us) (h : spF X.K X.mg n F (vs ++ dvs) H Q (WE W σ)) : wpAny (model X.prog X.w) X.A (call (.ref f) us) (EP X pins σ Q) X.xe s := by
  have r2 := r.append hd
  have hl : (us ++ ds).length = ps.length := r2.length.symm.trans (G.len _ _ _ _ h)
  have go := G.run X.A X.stack s H ⟨us, []⟩ (us ++ ds) (vs ++ dvs) Q (WE W σ) hgd hr I.env0 (hb s us I.kIn hl) r2 h
  refine wpAny_call (codeAny_mono go fun res s' hq => ?_)
  match res, hq with
  | .error err, hq => exact hx pins H s err s' I hq
  | .ok (.ret u), hq => exact I.after hq
theorem arOk_dfl {K : PySem.W.Frag} {b : Bk} {Fz : Hp} {F : Nat → List Addr} {H : Hp} {σ : L2.St} {vs : List V} {ars : List Ar} {G : Nat → List Addr} (A : ArOk K b Fz F H σ vs ars G) {dvs : List V} (h : RpL K Fz dvs dd) :
    ArOk K b Fz F H σ (vs ++ dvs) (ars ++ dd.map .fz) (fun j => if j < ars.length then G j else []) := by
  refine ⟨by simp [A.len, h.len], fun j a e => ?_, fun j => ?_, fun i j a h1 h2 => ?_, fun j a h1 => ?_⟩
  · by_cases c : j < ars.length
    · rw [List.getElem?_append_left c] at e
      obtain ⟨v, e1, e2⟩ := A.at_ j a e
      exact ⟨v, by rw [List.getElem?_append_left (by rw [A.len]; exact c)]; exact e1, by rw [if_pos c]; exact e2⟩
    · rw [List.getElem?_append_right (by omega), List.getElem?_map] at e
      cases q : dd[j - ars.length]? with
      | none => rw [q] at e; cases e
      | some d =>
        rw [q] at e
        cases e
        obtain ⟨v, e1, e2⟩ := h.get q
        exact ⟨v, by rw [List.getElem?_append_right (by rw [A.len]; omega), A.len]; exact e1, by rw [if_neg c], e2⟩
  · by_cases c : j < ars.length
    · rw [if_pos c]; exact A.nd j
    · rw [if_neg c]; exact List.nodup_nil
  · have h1 : a ∈ (if i < ars.length then G i else []) := h1
    have h2 : a ∈ (if j < ars.length then G j else []) := h2
    by_cases c : i < ars.length
    · by_cases c2 : j < ars.length
      · rw [if_pos c] at h1
        rw [if_pos c2] at h2
        exact A.dj i j a h1 h2
      · rw [if_neg c2] at h2; cases h2
    · rw [if_neg c] at h1; cases h1
  · have h1 : a ∈ (if j < ars.length then G j else []) := h1
    by_cases c : j < ars.length
    · rw [if_pos c] at h1; exact A.off j a h1
    · rw [if_neg c] at h1; cases h1
theorem rpl_flat {K : PySem.W.Frag} {H : Hp} : ∀ {dd : List PyData}, dd.all flatD = true → RpL K H (dd.map dV) dd
  | [], _ => .nil
  | d :: dd, h => by
    rw [List.all_cons, Bool.and_eq_true] at h
    exact .cons (rp_flat h.1) (rpl_flat h.2)
theorem call_rd {K : PySem.W.Frag} {mg : Str → Option Value} {W : WX} (hflat : dd.all flatD = true) (hlen : ∀ δ ars δ', g δ = .ok ars δ' → ars.length + dd.length = n) : ∀ σ H Q, rdE K mg W pin (sCall F dd g) σ H Q → rdAr K mg W pin g σ H fun vs H1 => spF K mg n F (vs ++ dd.map dV) H1 Q (WE W σ) := fun σ H Q ⟨b, Fz, Ff, δ, hp, R, P⟩ => by
  refine ⟨b, Fz, Ff, δ, hp, R, ?_⟩
  unfold sCall at P
  cases q : g δ with
  | bad => rw [q] at P; exact P
  | er x δ' => rw [q] at P; exact P
  | ok ars δ' =>
    rw [q] at P
    intro vs H' Fz' F' G s R' A
    have A' := arOk_dfl (dd := dd) A (rpl_flat hflat)
    have h := call_ok (mg := mg) (W := W) (f := F) R' A' (Post.le s P)
    have e : (ars ++ dd.map Ar.fz).length = n := by
      rw [List.length_append, List.length_map]
      exact hlen _ _ _ q
    rw [e] at h
    exact h
theorem se_call (G : FnG X.prog X.w X.K X.mg X.base k f fd ps (spF X.K X.mg n F)) (hr : Room k X.A) (hgd : X.A.guards = some []) (hx : ∀ σ, PassesAt (L2.CX X.prog X.w) X σ (WE W σ)) (hg : Gl X x) (hm : X.mg x = some (.ref f)) (hk : PySem.W.keepIn X.K (.ref f) = true)
    (hb : Binds X.K fd ps ds) (hd : Vals (dd.map dV) ds) (hflat : dd.all flatD = true) (ha : SAr X W pin (e :: es) g) (hlen : ∀ δ ars δ', g δ = .ok ars δ' → ars.length + dd.length = n)
    (hdb : (x == ("__debug__" : Str)) = false := by decide) (he : starEach (e :: es) X.env = (false, eval e X.env) :: starEach es X.env := by rfl) (hpl : (backTo pos (starEach es X.env)).any (·.1) = false := by rfl) :
    SE X W pin (.Call (.Name x p) (e :: es) [] pos) (sCall F dd g) := by
  refine ⟨fun pins s σ H Q I h => wpAny_Call_Name_kw (ld_glob I hg hm ?_ hdb)⟩
  have h2 := call_rd (n := n) hflat hlen σ H Q h
  refine PySem.W.callWith_K (h₀ := X.base) I.ok.mod.kin hk (thn (ha.run pos pins s σ H _ I h2) fun us s1 q => ?_) he hpl
  obtain ⟨vs, H1, I1, r, q⟩ := q
  exact ⟨I1.kIn, run_G G hr hgd (hx σ) hb hd I1 r q⟩
theorem len_rNil : ∀ δ ars δ', rNil δ = .ok ars δ' → ars.length = 0 := fun _ _ _ e => by cases e; rfl
theorem len_rCons {f : List Sl → Rs AV} {m : Nat} (h : ∀ δ ars δ', g δ = .ok ars δ' → ars.length = m) : ∀ δ ars δ', rCons f g δ = .ok ars δ' → ars.length = m + 1 := fun δ ars δ' e => by
  unfold rCons at e
  cases q : f δ with
  | bad => rw [q] at e; cases e
  | er x d => rw [q] at e; cases e
  | ok a δ1 =>
    rw [q] at e
    have e : (match arOf a with
      | some r => (g δ1).bind fun rs δ2 => .ok (r :: rs) δ2
      | none => .bad) = Rs.ok ars δ' := e
    cases q2 : arOf a with
    | none => simp only [q2] at e; cases e
    | some r =>
      simp only [q2] at e
      cases q3 : g δ1 with
      | bad => rw [q3] at e; cases e
      | er x d => rw [q3] at e; cases e
      | ok rs δ2 =>
        rw [q3] at e
        cases e
        simp [h _ _ _ q3]
theorem len_rIo {j m : Nat} (h : ∀ δ ars δ', g δ = .ok ars δ' → ars.length = m) : ∀ δ ars δ', rIo j g δ = .ok ars δ' → ars.length = m + 1 := fun δ ars δ' e => by
  unfold rIo at e
  cases q : sVar j δ with
  | bad => rw [q] at e; cases e
  | er x d => rw [q] at e; cases e
  | ok a δ1 =>
    rw [q] at e
    have e : ((g δ1).bind fun rs δ2 => Rs.ok (Ar.io j :: rs) δ2) = Rs.ok ars δ' := e
    cases q3 : g δ1 with
    | bad => rw [q3] at e; cases e
    | er x d => rw [q3] at e; cases e
    | ok rs δ2 =>
      rw [q3] at e
      cases e
      simp [h _ _ _ q3]
end
end Hb
namespace Hb
open PySem PySem.Spec PyProof.Rows L2
def outs (n : Nat) (pin : List Nat) (δ : List Sl) : List Sl := (List.range n).map fun i => if i ∈ pin then noAl ((δ[i]?).getD .no) else .no
def fnRun (n m : Nat) (pin : List Nat) (body : List Sl → Ot) : List Sl → FR := fun δ => match body (δ ++ List.replicate (m - n) .no) with
  | .nx δ' => .ok (.fz .none) (outs n pin δ')
  | .rt s δ' => .ok s (outs n pin δ')
  | .er x δ' => .er x (outs n pin δ')
  | _ => .bad
def oF (pin : List Nat) (n : Nat) (F : Nat → List Addr) : Nat → List Addr := fun i => if i < n ∧ i ∈ pin then F i else []
theorem no_al {s : Sl} {x j : Nat} : noAl s ≠ .al x j := by cases s <;> simp [noAl]
theorem start_get {N : List Str} {vs : List V} {i : Nat} (h : i < vs.length) : (L2.start N vs)[i]? = (vs.map some)[i]? := by
  unfold L2.start
  rw [List.getElem?_append_left (by simpa using h)]
section
variable {K : PySem.W.Frag} {mg : Str → Option Value} {b : Bk} {Fz : Hp} {F : Nat → List Addr} {δ : List Sl} {H : Hp} {vs : List V} {N : List Str} {pin : List Nat}
theorem rl_in (R : Rl K b Fz F δ (vs.map some) H) (hN : vs.length ≤ N.length) (hm : mkT ∈ pin → b.T = TK K) : Rl K ⟨b.B, b.F0, pin, L2.start N vs, b.T⟩ Fz (fun i => if i < vs.length then F i else []) (δ ++ List.replicate (N.length - vs.length) .no) (L2.start N vs) H := by
  have hl : δ.length = vs.length := by have := R.len; simpa using this.symm
  refine ⟨R.le, R.base, ?_, fun i s e => ?_, fun i => ?_, fun i j a h1 h2 => ?_, fun i a h => ?_, fun i a h => ?_, fun i a h => ?_, R.keep, R.f0, fun _ _ => rfl, fun i x j e => ?_, fun i a h => ?_, R.tb, hm⟩
  · unfold L2.start
    simp [hl]
  · by_cases c : i < vs.length
    · rw [List.getElem?_append_left (by omega)] at e
      rw [start_get c, if_pos c]
      have h := R.slot i s e
      cases s with
      | al x j =>
        obtain ⟨h1, a, b', ws, h2, h3⟩ := h
        refine ⟨h1, a, b', ws, ?_, h3⟩
        have hx : x < vs.length := by
          by_cases q : x < vs.length
          · exact q
          · rw [List.getElem?_eq_none (by simpa using q)] at h2
            cases h2
        rw [start_get hx]
        exact h2
      | no => exact h
      | fz d => exact h
      | ol xs => exact h
      | od kvs => exact h
    · rw [List.getElem?_append_right (by omega), List.getElem?_replicate] at e
      split at e
      · cases e
        exact if_neg c
      · cases e
  · by_cases c : i < vs.length
    · rw [if_pos c]; exact R.nd i
    · rw [if_neg c]; exact List.nodup_nil
  · have h1 : a ∈ (if i < vs.length then F i else []) := h1
    have h2 : a ∈ (if j < vs.length then F j else []) := h2
    by_cases c : i < vs.length
    · by_cases c2 : j < vs.length
      · rw [if_pos c] at h1
        rw [if_pos c2] at h2
        exact R.dj i j a h1 h2
      · rw [if_neg c2] at h2; cases h2
    · rw [if_neg c] at h1; cases h1
  · have h : a ∈ (if i < vs.length then F i else []) := h
    by_cases c : i < vs.length
    · rw [if_pos c] at h; exact R.offF i a h
    · rw [if_neg c] at h; cases h
  · have h : a ∈ (if i < vs.length then F i else []) := h
    by_cases c : i < vs.length
    · rw [if_pos c] at h; exact R.offB i a h
    · rw [if_neg c] at h; cases h
  · have h : a ∈ (if i < vs.length then F i else []) := h
    by_cases c : i < vs.length
    · rw [if_pos c] at h; exact R.on i a h
    · rw [if_neg c] at h; cases h
  · by_cases c : i < δ.length
    · rw [List.getElem?_append_left c] at e
      obtain ⟨xs, hx⟩ := R.als i x j e
      exact ⟨xs, by rw [List.getElem?_append_left (List.getElem?_eq_some_iff.mp hx).1]; exact hx⟩
    · rw [List.getElem?_append_right (by omega), List.getElem?_replicate] at e
      split at e <;> cases e
  · have h : a ∈ (if i < vs.length then F i else []) := h
    by_cases c : i < vs.length
    · rw [if_pos c] at h; exact R.noT i a h
    · rw [if_neg c] at h; cases h
theorem rl_out {Fz0 : Hp} {F0 : Nat → List Addr} {δ0 : List Sl} {H0 : Hp} (R0 : Rl K b Fz0 F0 δ0 (vs.map some) H0) {σ : L2.St} (R : Rl K ⟨b.B, b.F0, pin, L2.start N vs, b.T⟩ Fz F δ σ H) : Rl K b Fz (oF pin vs.length F) (outs vs.length pin δ) (vs.map some) H := by
  have inF : ∀ i a, a ∈ oF pin vs.length F i → i < vs.length ∧ i ∈ pin ∧ a ∈ F i := fun i a h => by
    unfold oF at h
    by_cases c : i < vs.length ∧ i ∈ pin
    · rw [if_pos c] at h
      exact ⟨c.1, c.2, h⟩
    · rw [if_neg c] at h
      cases h
  have gt : ∀ i, i < vs.length → (outs vs.length pin δ)[i]? = some (if i ∈ pin then noAl ((δ[i]?).getD .no) else .no) := fun i h => by
    unfold outs
    rw [List.getElem?_map, List.getElem?_range h]
    rfl
  refine ⟨R.le, R.base, by simp [outs], fun i s e => ?_, fun i => ?_, fun i j a h1 h2 => R.dj i j a (inF i a h1).2.2 (inF j a h2).2.2, fun i a h => R.offF i a (inF i a h).2.2, fun i a h => R.offB i a (inF i a h).2.2, fun i a h => R.on i a (inF i a h).2.2, R.keep, R.f0, R0.pin, fun i x j e => ?_, fun i a h => R.noT i a (inF i a h).2.2, R.tb, R0.tp⟩
  · have hi : i < vs.length := by
      have := (List.getElem?_eq_some_iff.mp e).1
      simpa [outs] using this
    rw [gt i hi] at e
    cases e
    unfold oF
    by_cases c : i ∈ pin
    · rw [if_pos c, if_pos ⟨hi, c⟩]
      have hp : σ[i]? = (L2.start N vs)[i]? := R.pin i c
      rw [start_get hi] at hp
      rw [← hp]
      cases q : δ[i]? with
      | none =>
        exfalso
        have h1 : i < σ.length := by
          have : σ[i]? = some (some vs[i]) := by rw [hp, List.getElem?_map, List.getElem?_eq_getElem hi]; rfl
          exact (List.getElem?_eq_some_iff.mp this).1
        rw [R.len] at h1
        rw [List.getElem?_eq_getElem h1] at q
        cases q
      | some t => exact noAl_ok (R.slot i t q)
    · rw [if_neg c, if_neg (fun z => c z.2)]
      rfl
  · unfold oF
    by_cases c : i < vs.length ∧ i ∈ pin
    · rw [if_pos c]; exact R.nd i
    · rw [if_neg c]; exact List.nodup_nil
  · have hi : i < vs.length := by
      have := (List.getElem?_eq_some_iff.mp e).1
      simpa [outs] using this
    rw [gt i hi] at e
    by_cases c : i ∈ pin
    · rw [if_pos c] at e
      exact absurd (Option.some.inj e) no_al
    · rw [if_neg c] at e
      cases e
theorem av_out {σ : L2.St} {v : V} {s : Sl} {n : Nat} (A : AvR K b Fz F H σ v (.tmp s)) : AvR K b Fz (oF pin n F) H (vs.map some) v (.tmp s) := by
  obtain ⟨h1, g, h2, h3, h4⟩ := A
  refine ⟨h1, g, h2, h3, fun a ha => ⟨(h4 a ha).1, (h4 a ha).2.1, (h4 a ha).2.2.1, fun i hi => ?_⟩⟩
  unfold oF at hi
  by_cases c : i < n ∧ i ∈ pin
  · rw [if_pos c] at hi
    exact (h4 a ha).2.2.2 i hi
  · rw [if_neg c] at hi
    cases hi
end
theorem body_okM {K : PySem.W.Frag} {mg : Str → Option Value} {N : List Str} {vs : List V} {H : Hp} {Q : VK} {E : XK} {n : Nat} {pin : List Nat} {body : List Sl → Ot} (hN : n ≤ N.length) (h : vs.length = n ∧ ∃ b Fz F δ, (mkT ∈ pin → b.T = TK K) ∧ Rl K b Fz F δ (vs.map some) H ∧ PostF K mg b Fz vs Q E (fnRun n N.length pin body δ)) :
    rdS K mg (fun cls d _ H => E cls d H) pin body { nx := fun _ H' => Q .non H', rt := Q } (L2.start N vs) H := by
  obtain ⟨hl, b, Fz, F, δ, hm, R, P⟩ := h
  subst hl
  refine ⟨_, Fz, _, _, rfl, rl_in (pin := pin) R hN hm, ?_⟩
  unfold fnRun at P
  cases q : body (δ ++ List.replicate (N.length - vs.length) .no) with
  | bad => rw [q] at P; exact P
  | bk δ' => rw [q] at P; exact P.elim
  | ct δ' => rw [q] at P; exact P.elim
  | nx δ' =>
    rw [q] at P
    exact fun σ' H' Fz' F' s R' => P .non H' Fz' _ s (rl_out R R') ⟨rfl, [], ⟨rfl, _, rfl, .non⟩, List.nodup_nil, fun _ z => nomatch z⟩
  | rt t δ' =>
    rw [q] at P
    exact fun v σ' H' Fz' F' s R' A => P v H' Fz' _ s (rl_out R R') (av_out (b := b) (σ := σ') A)
  | er x δ' =>
    rw [q] at P
    exact fun c dd σ' H' Fz' F' s R' e => P c dd H' Fz' _ s (rl_out R R') e
theorem body_ok {K : PySem.W.Frag} {mg : Str → Option Value} {N : List Str} {vs : List V} {H : Hp} {Q : VK} {E : XK} {n : Nat} {pin : List Nat} {body : List Sl → Ot} (hN : n ≤ N.length) (hm : mkT ∉ pin) (h : spF K mg n (fnRun n N.length pin body) vs H Q E) :
    rdS K mg (fun cls d _ H => E cls d H) pin body { nx := fun _ H' => Q .non H', rt := Q } (L2.start N vs) H := by
  obtain ⟨hl, b, Fz, F, δ, R, P⟩ := h
  exact body_okM hN ⟨hl, b, Fz, F, δ, fun z => absurd z hm, R, P⟩
/-- a def in which the table is followed -/
def spT (K : PySem.W.Frag) (mg : Str → Option Value) (n : Nat) (f : List Sl → FR) : Sp := fun vs H Q E => vs.length = n ∧ ∃ b Fz F δ, b.T = TK K ∧ Rl K b Fz F δ (vs.map some) H ∧ PostF K mg b Fz vs Q E (f δ)
/-- the context of a def's body -/
abbrev GX (P : Program) (w : World) (K : PySem.W.Frag) (mg : Str → Option Value) (base : Heap) (N : List Str) (qual : Str) (scope : Scope) (f : Addr) (cd : Value) (A : Around) (outer : List Env) (s : Shared) (H : Hp) (E : XK) : Cx := cxOf (L2.CX P w) P w K mg base N qual scope f cd A outer s H E
abbrev GW (E : XK) : WX := fun cls d _ H => E cls d H
theorem fnG_ofM {P : Program} {w : World} {K : PySem.W.Frag} {mg : Str → Option Value} {base : Heap} {k : Nat} {f : Addr} {name qual : Str} {params : Arguments} {body : List Stmt} {scope : Scope} {dV kV doc pm cdv ct oc : Value} {an od : Option Addr}
    {osl : Array (Option Value)} {N ps : List Str} {n : Nat} {pin : List Nat} {fb : List Sl → Ot} (lk : K.lookup f = some ⟨oc, od, .func (PySem.W.fnOf name qual params body scope dV kV doc pm an cdv ct), osl⟩) (hcd : PySem.W.codeIn K cdv qual = true) (S : FnScope N ps scope)
    (hn : ps.length = n) (sp : Sp) (hs1 : ∀ vs H Q E, sp vs H Q E → vs.length = n) (hs2 : n ≤ N.length → ∀ vs H Q E, sp vs H Q E → rdS K mg (fun cls d _ H => E cls d H) pin fb { nx := fun _ H' => Q .non H', rt := Q } (L2.start N vs) H)
    (hbody : ∀ (A : Around) (outer : List Env) (s : Shared) (H : Hp) (E : XK), Room k (A.deeper (envOfC qual scope s.heap.objs.size f cdv)) → A.guards = some [] →
      SSs (GX P w K mg base N qual scope f cdv A outer s H E) (GW E) pin body fb) :
    FnG P w K mg base (k + 1) f (PySem.W.fnOf name qual params body scope dV kV doc pm an cdv ct) ps sp := by
  have hpl : n ≤ N.length := by have := congrArg List.length S.pre; rw [List.length_take] at this; omega
  refine ⟨fun vs H Q E h => (hs1 vs H Q E h).trans hn.symm, fun A outer s H args us vs Q E hgd hr e0 hb r hsp => ?_⟩
  have hl : vs.length = ps.length := (hs1 _ _ _ _ hsp).trans hn.symm
  have KX : K.In s.heap := e0.mod.kin.keeps fun b o e => (e0.bs b o e).1
  have lim : s.heap.NoLimit := e0.mod.nolimit.keeps fun b o e => (e0.bs b o e).1
  have hkind : ∀ y ∈ ps.zip us, scope.names.lookup y.1 = some .local ∨ (scope.names.lookup y.1 = some .cell ∧ ((cellsFrom (s.heap.objs.size + 1) scope.names []).lookup y.1).isSome = true) := fun ⟨n, v⟩ hy => by
    rcases S.par n (List.of_mem_zip hy).1 with q | q
    · exact .inl q
    · exact .inr ⟨q, PySem.W.cellsFrom_some _ _ _ (.inl q)⟩
  refine codeAny_call_function hr.depth (KX _ _ lk) rfl S.co S.gen rfl (PySem.W.codeRec_of KX hcd) (hb _ _ _ _ ?_)
  refine wpAny_newFunctionEnv_cells S.kind hkind fun env he s1 x => ?_
  subst he
  refine ⟨lim.keeps x.toInCall.keep, codeAny_func ?_⟩
  have ht := hbody A outer s H E (hr.deeper _) hgd
  have hq := hs2 hpl _ _ _ _ hsp
  have I : Inv (GX P w K mg base N qual scope f cdv A outer s H E) [] (L2.start N vs) H s1 := inv_start S hr.hd e0 hl r x
  refine wpAny_mono (ht.run [] s1 (L2.start N vs) H _ I hq) (fun fl s' hs => ?_) fun e s' hs => hs
  have fin : ∀ {σ' : L2.St} {H' : Hp} {v : V} {u : Value}, Inv (GX P w K mg base N qual scope f cdv A outer s H E) [] σ' H' s' → RelV v u → Q v H' → CE outer P w H s Q u s' :=
    fun {σ' H' v u} J rv q => ⟨v, H', J.os, J.bare, J.base, J.hok, rv, q⟩
  cases fl with
  | ret u =>
    obtain ⟨v, σ', H', J, rv, q⟩ := hs
    exact fin J rv q
  | next =>
    obtain ⟨σ', H', J, q⟩ := hs
    exact fin (v := V.non) (u := Value.none) J rfl q
  | brk =>
    obtain ⟨_, _, _, q⟩ := hs
    exact False.elim q
  | cont =>
    obtain ⟨_, _, _, q⟩ := hs
    exact False.elim q
theorem fnG_of {P : Program} {w : World} {K : PySem.W.Frag} {mg : Str → Option Value} {base : Heap} {k : Nat} {f : Addr} {name qual : Str} {params : Arguments} {body : List Stmt} {scope : Scope} {dV kV doc pm cdv ct oc : Value} {an od : Option Addr}
    {osl : Array (Option Value)} {N ps : List Str} {n : Nat} {pin : List Nat} {fb : List Sl → Ot} (lk : K.lookup f = some ⟨oc, od, .func (PySem.W.fnOf name qual params body scope dV kV doc pm an cdv ct), osl⟩) (hcd : PySem.W.codeIn K cdv qual = true) (S : FnScope N ps scope)
    (hn : ps.length = n)
    (hbody : ∀ (A : Around) (outer : List Env) (s : Shared) (H : Hp) (E : XK), Room k (A.deeper (envOfC qual scope s.heap.objs.size f cdv)) → A.guards = some [] →
      SSs (GX P w K mg base N qual scope f cdv A outer s H E) (GW E) pin body fb) (hm : mkT ∉ pin := by decide) :
    FnG P w K mg base (k + 1) f (PySem.W.fnOf name qual params body scope dV kV doc pm an cdv ct) ps (spF K mg n (fnRun n N.length pin fb)) :=
  fnG_ofM lk hcd S hn (spF K mg n (fnRun n N.length pin fb)) (fun _ _ _ _ h => h.1) (fun h _ _ _ _ z => body_ok h hm z) hbody
theorem gx_pass {P : Program} {w : World} {K : PySem.W.Frag} {mg : Str → Option Value} {base : Heap} {N : List Str} {qual : Str} {scope : Scope} {f : Addr} {cd : Value} {A : Around} {outer : List Env} {s : Shared} {H : Hp} {E : XK} :
    ∀ σ, PassesAt (L2.CX P w) (GX P w K mg base N qual scope f cd A outer s H E) σ (WE (GW E) σ) := passAt (X := GX P w K mg base N qual scope f cd A outer s H E) (W := GW E) (takes_of rfl rfl rfl rfl)
theorem w0_pass {X : Cx} {P : Program} {w : World} : ∀ σ, PassesAt (L2.CX P w) X σ (WE W0 σ) := fun σ pins H s e s' I h => by
  obtain ⟨_, _, _, _, _, _, _, _, _, _, _, _, z⟩ := h
  exact z.elim
theorem sp_law {K : PySem.W.Frag} {mg : Str → Option Value} {F : List Sl → FR} {H : Hp} {a : Addr} {ns : List Int} {δ : List Sl} (hX : SqX K H a (ns.map V.int)) (h : F [.fz (.list (ns.map PyData.int))] = .ok (.fz (.bool true)) δ) :
    spF K mg 1 F [.ref a] H (fun v _ => v = .bl true) fun _ _ _ => False := by
  have rL : ∀ ns : List Int, RpL K H (ns.map V.int) (ns.map PyData.int) := fun ns => by
    induction ns with
    | nil => exact .nil
    | cons n r ih => exact .cons (.int n) ih
  refine ⟨rfl, ⟨H, H, [], [], []⟩, H, fun _ => [], [.fz (.list (ns.map PyData.int))], ⟨Same.refl _, Same.refl _, rfl, fun i s e => ?_, fun _ => List.nodup_nil, fun _ _ _ z => (nomatch z), fun _ _ z => (nomatch z), fun _ _ z => (nomatch z), fun _ _ z => (nomatch z), fun _ _ => .inl rfl, fun _ h => h, fun _ z => (nomatch z), fun i x j e => ?_, fun _ _ z => (nomatch z), .nil rfl, fun z => (nomatch z)⟩, ?_⟩
  · cases i with
    | zero =>
      cases e
      exact ⟨rfl, _, rfl, .lst hX (rL ns)⟩
    | succ i => cases e
  · cases i with
    | zero => cases e
    | succ i => cases e
  · rw [h]
    intro v H' Fz' F' s R A
    obtain ⟨_, g, ⟨_, v', e, r⟩, _⟩ := A
    cases e
    cases r
    rfl
end Hb
namespace Hb
open PySem PySem.Spec PyProof.Rows L2
mutual
def shw : PyData → Bool
  | .none => true
  | .bool _ => true
  | .str _ => true
  | .int i => decide (i.natAbs.log2 < 1920)
  | .list xs => shwAll xs
  | .tuple xs => shwAll xs
  | .dict kvs => kvs.isEmpty
def shwAll : List PyData → Bool
  | [] => true
  | x :: xs => shw x && shwAll xs
end
section
variable {X : Cx} {pins : List (Addr × Obj)} {σ : L2.St} {H : Hp} {s : Shared}
def RR (X : Cx) (h : Heap) (u : Value) (d : PyData) : Prop := ∃ bs as, Reads h u d as ∧ ReadAtMost h d.depth bs ∧ ReprK X.prog X.w bs h d.depth u d.shown
def RRs (X : Cx) (h : Heap) (us : List Value) (ds : List PyData) : Prop := ∃ bs as, ReadsAll h us ds as ∧ ReadAtMost h (PyData.depthAll ds) bs ∧ ReprAllK X.prog X.w bs h (PyData.depthAll ds) us (PyData.shownAll ds)
theorem rr_cons {h : Heap} {u : Value} {us : List Value} {d : PyData} {ds : List PyData} : RR X h u d → RRs X h us ds → RRs X h (u :: us) (d :: ds) := fun ⟨b1, a1, r1, m1, k1⟩ ⟨b2, a2, r2, m2, k2⟩ => by
  refine ⟨b1 ++ b2, _, .cons r1 r2, ?_, ?_⟩
  · simp only [PyData.depthAll]
    exact (m1.mono (Nat.le_max_left _ _)).append (m2.mono (Nat.le_max_right _ _))
  · simp only [PyData.depthAll, PyData.shownAll]
    exact .cons ((k1.more fun b hb => List.mem_append_left _ hb).level_le (Nat.le_max_left _ _)) (k2.more_le (fun b hb => List.mem_append_right _ hb) (Nat.le_max_right _ _))
theorem rr_leaf {h : Heap} {u : Value} {d : PyData} (r : Reads h u d []) (k : ReprIs X.prog X.w u d.shown) : RR X h u d := ⟨[], _, r, fun _ z => (nomatch z), .of_is k _ _ _⟩
theorem rr_list {h : Heap} {a : Addr} {its : List Value} {n : Nat} {ds : List PyData} (e : h.get? a = some { cls := .type "list", data := .seq its.toArray n }) : RRs X h its ds → RR X h (.ref a) (.list ds) := fun ⟨bs, as, r, m, k⟩ => by
  have rr : Reads h (.ref a) (.list ds) _ := .list e rfl rfl (by simpa using r)
  have na : a ∉ bs := not_mem_of_deeper rr (by simp only [PyData.depth]; omega) m
  refine ⟨a :: bs, _, rr, ReadAtMost.cons rr (by simp only [PyData.depth]; omega) m, ?_⟩
  simp only [PyData.depth, PyData.shown]
  cases its with
  | nil =>
    cases r
    simp only [PyData.shownAll, listText_nil]
    exact ReprK.listEmpty e rfl rfl
  | cons x l => exact ReprK.list e rfl rfl na (by simpa using k.length_eq) fun i y q => k.item i y (by simpa using q)
theorem rr_tup {h : Heap} {a : Addr} {o : Obj} {its : List Value} {n : Nat} {ds : List PyData} (e : h.get? a = some o) (hc : o.cls = .type "tuple") (hd : o.data = .seq its.toArray n) : RRs X h its ds → RR X h (.ref a) (.tuple ds) := fun ⟨bs, as, r, m, k⟩ => by
  have rr : Reads h (.ref a) (.tuple ds) _ := .tuple e hc hd (by simpa using r)
  have na : a ∉ bs := not_mem_of_deeper rr (by simp only [PyData.depth]; omega) m
  refine ⟨a :: bs, _, rr, ReadAtMost.cons rr (by simp only [PyData.depth]; omega) m, ?_⟩
  simp only [PyData.depth, PyData.shown]
  exact ReprK.tuple e hc hd na (by simpa using k)
theorem rr_dic {h : Heap} {a : Addr} {o : Obj} {n : Nat} (e : h.get? a = some o) (hc : o.cls = .type "dict") (hd : o.data = .dict #[] n) (hs : (a == sysModules) = false) : RR X h (.ref a) (.dict []) := by
  have rr : Reads h (.ref a) (.dict []) _ := .dict e hc hd (by simpa using ReadsAll.nil) (by simpa using ReadsAll.nil)
  have m : ReadAtMost h (PyData.depthKv []) [] := fun _ z => (nomatch z)
  refine ⟨a :: [], _, rr, ReadAtMost.cons rr (by simp only [PyData.depth]; omega) m, ?_⟩
  simp only [PyData.depth, PyData.shown]
  exact ReprK.dict e hc hd hs (by simp) (by simpa [PyData.shownKv] using ReprEntriesK.nil)
mutual
theorem rr_of (I : Inv X pins σ H s) : ∀ {v : V} {d : PyData} {u : Value}, Rp X.K H v d → RelV v u → shw d = true → d.shown.length ≤ sizeLine → RR X s.heap u d
  | _, _, _, .non, e, _, _ => by
    obtain rfl : _ = Value.none := e
    exact rr_leaf .none (by simp only [PyData.shown]; exact ReprIs.none)
  | _, _, _, .bl b, e, _, _ => by
    obtain rfl : _ = Value.bool b := e
    exact rr_leaf (.bool b) (by simp only [PyData.shown]; exact ReprIs.bool b)
  | _, _, _, .int i, e, hs, _ => by
    obtain ⟨t, rfl⟩ := e
    exact rr_leaf (.int i t) (by simp only [PyData.shown]; exact ReprIs.int t (by simpa [shw] using hs))
  | _, _, _, .str x, e, _, hz => by
    obtain ⟨t, rfl⟩ := e
    exact rr_leaf (.str x t) (by simp only [PyData.shown] at hz ⊢; exact ReprIs.str x t hz)
  | _, _, _, .lst (ds := ds) h1 h2, e, hs, hz => by
    obtain rfl : _ = Value.ref _ := e
    obtain ⟨its, n, r, e, _⟩ := inv_lstX I h1
    have hz' : (listText (PyData.shownAll ds)).length ≤ sizeLine := by simpa only [PyData.shown] using hz
    exact rr_list e (rrs_of I h2 r (by simpa [shw] using hs) fun t ht => Nat.le_trans (listText_mem_le ht) hz')
  | _, _, _, .tup (ds := ds) h1 h2, e, hs, hz => by
    obtain rfl : _ = Value.ref _ := e
    obtain ⟨its, r, ⟨o, e, hc, n, hd⟩, _⟩ := I.tuple (SqT.of h1)
    have hz' : (tupleText (PyData.shownAll ds)).length ≤ sizeLine := by simpa only [PyData.shown] using hz
    exact rr_tup e hc hd (rrs_of I h2 r (by simpa [shw] using hs) fun t ht => Nat.le_trans (tupleText_mem_le ht) hz')
  | _, _, _, .dK h1 h2, e, hs, _ => by
    obtain rfl : _ = Value.ref _ := e
    cases h2 with
    | cons _ _ => simp [shw] at hs
    | nil =>
      obtain ⟨_, hy, vs, kv, o, es, ep, e, hx, hd, _, pr, _⟩ := I.hok _ _ h1
      cases kv
      have : es.toList = [] := by
        generalize es.toList = l at pr
        cases pr
        rfl
      have e2 : es = #[] := by simpa using this
      subst e2
      exact rr_dic e hx.1 hd hy
  | _, _, _, .dT h1 h2, e, hs, _ => by
    obtain rfl : _ = Value.ref _ := e
    cases h2 with
    | cons _ _ => simp [shw] at hs
    | nil =>
      obtain ⟨_, hy, xs, kv, o, es, ep, e, hx, hd, pr, _⟩ := I.hok _ _ h1
      cases kv
      have e2 : es = #[] := by simpa using pr
      subst e2
      exact rr_dic e hx.1 hd hy
theorem rrs_of (I : Inv X pins σ H s) : ∀ {vs : List V} {ds : List PyData} {us : List Value}, RpL X.K H vs ds → Vals vs us → shwAll ds = true → (∀ t ∈ PyData.shownAll ds, t.length ≤ sizeLine) → RRs X s.heap us ds
  | _, _, _, .nil, r, _, _ => by
    cases r
    exact ⟨[], _, .nil, fun _ z => (nomatch z), by simp only [PyData.shownAll]; exact .nil⟩
  | _, _, _, .cons (d := d) (ds := ds) h t, r, hs, hz => by
    cases r with
    | cons r1 r2 =>
      have hs2 : shw d = true ∧ shwAll ds = true := by simpa [shwAll] using hs
      exact rr_cons (rr_of I h r1 hs2.1 (hz _ (by simp only [PyData.shownAll]; exact List.mem_cons_self))) (rrs_of I t r2 hs2.2 fun t ht => hz _ (by simp only [PyData.shownAll]; exact List.mem_cons_of_mem _ ht))
end
/-- repr(v): no repr is running -/
def rRepr (K : PySem.W.Frag) : List V → Hp → VK → Prop := fun xs H Q => ∃ v d, xs = [v] ∧ Rp K H v d ∧ (shw d = true ∧ d.depth ≤ 60) ∧ d.shown.length ≤ sizeLine ∧ Q (.str d.shown) H
theorem call_reprT (hu : X.A.units + 64 < cLine) (hg : X.A.guards = some []) : CallR X (.builtin "repr") (rRepr X.K) := by
  intro pins s σ H xs us Q I r h
  obtain ⟨v, d, rfl, hr, ⟨hs, hd⟩, hz, q⟩ := h
  obtain ⟨u, rfl, rv⟩ := vals1 r
  have fin : ∀ h' tk tk2, (∀ b o, s.heap.get? b = some o → h'.get? b = some o) → EP X pins σ Q (.str d.shown tk) { s with heap := h', toks := tk2 } := fun h' tk tk2 k => ⟨.str d.shown, H, I.kept k, ⟨_, rfl⟩, q⟩
  cases hr with
  | non =>
    obtain rfl : _ = Value.none := rv
    exact PySem.P.repr_of_none (by simpa [PyData.shown] using fin s.heap _ _ fun _ _ e => e)
  | bl b =>
    obtain rfl : _ = Value.bool b := rv
    exact PySem.P.repr_of_bool (by simpa [PyData.shown] using fin s.heap _ _ fun _ _ e => e)
  | int i =>
    obtain ⟨t, rfl⟩ := rv
    exact PySem.P.repr_of_int (by simpa [shw] using hs) (by simpa [PyData.shown] using fin s.heap _ _ fun _ _ e => e)
  | str x =>
    obtain ⟨t, rfl⟩ := rv
    exact PySem.P.repr_of_str (by simpa [PyData.shown] using fin s.heap _ _ fun _ _ e => e) (by simpa [PyData.shown] using hz)
  | lst h1 h2 =>
    rename_i a xs ds
    obtain rfl : _ = Value.ref a := rv
    obtain ⟨its, n, r, e, _⟩ := inv_lstX I h1
    have hz' : (listText (PyData.shownAll ds)).length ≤ sizeLine := by simpa only [PyData.shown] using hz
    obtain ⟨bs, as, rs, m, k⟩ := rrs_of I h2 r (by simpa [shw] using hs) fun t ht => Nat.le_trans (listText_mem_le ht) hz'
    have rr : Reads s.heap (.ref a) (.list ds) _ := .list e rfl rfl (by simpa using rs)
    have na : a ∉ bs := not_mem_of_deeper rr (by simp only [PyData.depth]; omega) m
    simp only [PyData.depth] at hd
    simp only [PyData.shown] at fin
    refine call_repr_slot (T := "list") (by omega) ⟨_, e, rfl⟩ F.slot_list_repr.toG ?_
    cases its with
    | nil =>
      cases rs
      simp only [PyData.shownAll, listText_nil] at fin
      exact call_list_repr_empty ⟨_, e, rfl⟩ e rfl ⟨_, _, rfl, fin s.heap _ _ fun _ _ e => e⟩
    | cons x l =>
      exact call_list_reprK e rfl rfl na (by simpa using k.length_eq) (fun i y q => k.item i y (by simpa using q)) hg (fun b _ => Clear.nil b) (by show X.A.units + 1 + _ < cLine; omega) (fun _ _ e => e) (fun h' u tk kk => ⟨_, _, rfl, fin h' _ _ kk⟩) hz'
  | tup h1 h2 =>
    rename_i a xs ds
    obtain rfl : _ = Value.ref a := rv
    obtain ⟨its, r, ⟨o, e, hc, n, hdd⟩, _⟩ := I.tuple (SqT.of h1)
    have hz' : (tupleText (PyData.shownAll ds)).length ≤ sizeLine := by simpa only [PyData.shown] using hz
    obtain ⟨bs, as, rs, m, k⟩ := rrs_of I h2 r (by simpa [shw] using hs) fun t ht => Nat.le_trans (tupleText_mem_le ht) hz'
    have rr : Reads s.heap (.ref a) (.tuple ds) _ := .tuple e hc hdd (by simpa using rs)
    have na : a ∉ bs := not_mem_of_deeper rr (by simp only [PyData.depth]; omega) m
    simp only [PyData.depth] at hd
    simp only [PyData.shown] at fin
    refine call_repr_slot (T := "tuple") (by omega) ⟨_, e, hc⟩ F.slot_tuple_repr ?_
    exact call_tuple_reprK e hc hdd na (by simpa using k) hg (fun b _ => Clear.nil b) (by show X.A.units + 1 + _ < cLine; omega) (fun _ _ e => e) (fun h' u tk kk => ⟨_, _, rfl, fin h' _ _ kk⟩) hz'
  | dK h1 h2 =>
    cases h2 with
    | cons _ _ => simp [shw] at hs
    | nil =>
      rename_i a
      obtain rfl : _ = Value.ref a := rv
      obtain ⟨_, hy, vs, kv, o, es, ep, e, hx, hdd, _, pr, _⟩ := I.hok _ _ h1
      cases kv
      have e1 : es.toList = [] := by
        generalize es.toList = l at pr
        cases pr
        rfl
      have e2 : es = #[] := by simpa using e1
      subst e2
      simp only [PyData.shown] at fin hz
      refine call_repr_slot (T := "dict") (by omega) ⟨_, e, hx.1⟩ F.slot_dict_repr ?_
      exact call_dict_reprK (as := []) (d := 0) e hx.1 hdd hy (by simp) .nil hg (fun b _ => Clear.nil b) (by show X.A.units + 1 + _ < cLine; omega) (fun _ _ e => e) (fun h' u tk kk => ⟨_, _, rfl, by simpa [PyData.shownKv] using fin h' _ _ kk⟩) (by simpa [PyData.shownKv] using hz)
  | dT h1 h2 =>
    cases h2 with
    | cons _ _ => simp [shw] at hs
    | nil =>
      rename_i a
      obtain rfl : _ = Value.ref a := rv
      obtain ⟨_, hy, xs, kv, o, es, ep, e, hx, hdd, pr, _⟩ := I.hok _ _ h1
      cases kv
      have e2 : es = #[] := by simpa using pr
      subst e2
      simp only [PyData.shown] at fin hz
      refine call_repr_slot (T := "dict") (by omega) ⟨_, e, hx.1⟩ F.slot_dict_repr ?_
      exact call_dict_reprK (as := []) (d := 0) e hx.1 hdd hy (by simp) .nil hg (fun b _ => Clear.nil b) (by show X.A.units + 1 + _ < cLine; omega) (fun _ _ e => e) (fun h' u tk kk => ⟨_, _, rfl, by simpa [PyData.shownKv] using fin h' _ _ kk⟩) (by simpa [PyData.shownKv] using hz)
end
end Hb
namespace Hb
open PySem PySem.Spec PyProof.Rows L2
def rRepX (K : PySem.W.Frag) : R2 := fun x y H Q => ∃ l k xs, x = .ref l ∧ y = .int k ∧ SqX K H l xs ∧ -(2 ^ 63) ≤ k ∧ k < 2 ^ 63 ∧ xs.length * k.toNat ≤ sizeLine ∧
  ∀ p, H p = none → Q (.ref p) (upd H p (.lst (List.replicate k.toNat xs).flatten))
theorem op_repX {X : Cx} : OpR X (binaryOp .Mult) (rRepX X.K) := by
  intro pins s σ H x y v u Q I rx ry h
  obtain ⟨l, k, xs, rfl, rfl, hX, k1, k2, hz, q⟩ := h
  cases rx
  obtain ⟨t, rfl⟩ := ry
  obtain ⟨its, n, r, e, z⟩ := inv_lstX I hX
  have hl := r.length
  have hlen : its.toArray.size * k.toNat ≤ sizeLine := by rw [List.size_toArray, ← hl]; exact hz
  have line8 : (sizeLine : Nat) ≤ (2 ^ 63 - 1) / 8 := by decide
  have notcap : ¬ its.toArray.size * k.toNat > (2 ^ 63 - 1) / 8 := by omega
  have fit : ¬ (!Builtin.List.listFitsIndex k) = true := by
    rw [fitsIndex_both k1 k2]
    exact Bool.false_ne_true
  have notlong : ¬ Builtin.List.listTooLong (its.toArray.size * k.toNat) = true := by
    rw [notLongL hlen]
    exact Bool.false_ne_true
  have made : List.foldl (fun x1 x2 => x1 ++ x2) #[] (List.replicate (if its.toArray.isEmpty = true then 0 else k.toNat) its.toArray) = (List.replicate k.toNat its).flatten.toArray := by
    have f0 : ∀ m : Nat, List.foldl (fun x1 x2 => x1 ++ x2) #[] (List.replicate m its.toArray) = (List.replicate m its).flatten.toArray := fun m => by
      have g := foldl_rep its m []
      rwa [List.nil_append] at g
    rw [f0]
    cases its with
    | nil => simp
    | cons a r' => rw [if_neg (by simp)]
  refine wpAny_binaryOp_repeat_ref (T := "list") (U := "int") (by decide) ⟨_, e, rfl⟩ (fun s' => typeIs_int s' k t) noFill_list_mul F.fills_int_mul F.slot_int_rmul repeat_list F.slot_int_index.lookup
    (call_meets F.slot_int_rmul (typeIs_int s k t) F.entry_int_rmul (F.args_int_rmul_2 _ _) (int___rmul___int_list k t l its.toArray n)
      ⟨e, rfl, ⟨_, e, rfl⟩, call_meets F.slot_list_mul ⟨_, e, rfl⟩ F.entry_list_mul (F.args_list_mul_2 _ _) (AutoListH.list___mul___list_int_3 l its.toArray n k t fit notcap notlong) ⟨e, ?_⟩⟩)
  rw [made]
  exact ⟨.ref _, _, I.lnew (t' := s.toks) (r.rep k.toNat) (by rw [PyProof.Rows.lm_len_rep_flat, Nat.mul_comm]; exact hz), rfl, q _ I.fresh⟩
def rMulX (K : PySem.W.Frag) : R2 := fun x y H Q => (rI CMul (fun i j => .int (i * j)) x y H Q ∨ rI CMulW (fun i j => .int (i * j)) x y H Q) ∨ rRepX K x y H Q
theorem op_mulX2 {X : Cx} : OpR X (binaryOp .Mult) (rMulX X.K) := OpR.or (OpR.or op_mul op_mulW) op_repX
theorem RpL.rep {K : PySem.W.Frag} {H : Hp} {vs : List V} {ds : List PyData} (h : RpL K H vs ds) : ∀ k : Nat, RpL K H (List.replicate k vs).flatten (List.replicate k ds).flatten
  | 0 => .nil
  | k + 1 => by
    rw [List.replicate_succ, List.replicate_succ, List.flatten_cons, List.flatten_cons]
    exact h.append (RpL.rep h k)
def gMulX (x y : AV) (δ : List Sl) : Rs AV := match rdC δ x, rdC δ y with
  | some (.int i), some (.int j) => if i.natAbs < 2 ^ 64 ∨ j.natAbs < 2 ^ 64 then .ok (.val (.int (i * j))) δ else .bad
  | some (.list ds), some (.int k) => if ds.length ≤ 1000 ∧ 0 ≤ k ∧ k ≤ 1000 then .ok (.tmp (.ol ((List.replicate k.toNat ds).flatten.map .fz))) δ else .bad
  | _, _ => .bad
section
variable {K : PySem.W.Frag} {mg : Str → Option Value} {W : WX} {pin : List Nat}
theorem v2_mul : V2 K mg W pin (rMulX K) gMulX := by
  intro b Fz F δ σ H v w x y Q hp R A B P
  unfold gMulX at P
  cases q1 : rdC δ x with
  | none => simp only [q1] at P; exact P.elim
  | some d =>
    cases q2 : rdC δ y with
    | none => cases d <;> (simp only [q1, q2] at P; exact P.elim)
    | some e =>
      have h1 := rdC_ok R A q1
      have h2 := rdC_ok R B q2
      cases d with
      | int i =>
        cases e with
        | int j =>
          simp only [q1, q2] at P
          by_cases c : i.natAbs < 2 ^ 64 ∨ j.natAbs < 2 ^ 64
          · rw [if_pos c] at P
            exact .inl (.inl ⟨i, j, rpc_int h1, rpc_int h2, by unfold CMul; omega, P _ H Fz F (Same.refl _) R (.int _)⟩)
          · rw [if_neg c] at P; exact P.elim
        | _ => simp only [q1, q2] at P; exact P.elim
      | list ds =>
        cases e with
        | int k =>
          simp only [q1, q2] at P
          by_cases c : ds.length ≤ 1000 ∧ 0 ≤ k ∧ k ≤ 1000
          · rw [if_pos c] at P
            obtain ⟨a1, v1, e1, s1, r1⟩ := h1.list R.le
            have l1 := r1.len
            have hk : k.toNat ≤ 1000 := by omega
            refine .inr ⟨a1, k, v1, e1, rpc_int h2, s1, by omega, by omega, ?_, post_newL R (r1.rep k.toNat) P⟩
            have := Nat.mul_le_mul (Nat.le_of_eq l1) hk
            have h3 := Nat.mul_le_mul_right 1000 c.1
            rw [sizeLine_eq]
            omega
          · rw [if_neg c] at P; exact P.elim
        | _ => simp only [q1, q2] at P; exact P.elim
      | _ => cases e <;> (simp only [q1, q2] at P; exact P.elim)
end
section
variable {X : Cx} {W : WX} {pin : List Nat} {fa fb : List Sl → Rs AV} {a c : Expr} {pos : Pos}
theorem se_mul (ha : SE X W pin a fa) (hb : SE X W pin c fb) : SE X W pin (.BinOp a .Mult c pos) (s2 gMulX fa fb) := se_bin op_mulX2 v2_mul ha hb
end
end Hb
namespace Hb
open PySem PySem.Spec PyProof.Rows L2
structure Dfn (P : Program) (w : World) (K : PySem.W.Frag) (mg : Str → Option Value) (base : Heap) (k : Nat) (x : Str) (n : Nat) (F : List Sl → FR) (m : Nat) (dd : List PyData) : Prop where
  ex : ∃ (f : Addr) (fd : FuncData) (ps : List Str) (ds : List Value), mg x = some (.ref f) ∧ PySem.W.keepIn K (.ref f) = true ∧ FnG P w K mg base k f fd ps (spF K mg n F) ∧ Binds K fd ps ds ∧ Vals (dd.map dV) ds ∧ m + dd.length = n ∧ dd.all flatD = true
theorem Dfn.mono {P : Program} {w : World} {K : PySem.W.Frag} {mg : Str → Option Value} {base : Heap} {k j : Nat} {x : Str} {n : Nat} {F : List Sl → FR} {m : Nat} {dd : List PyData} (D : Dfn P w K mg base k x n F m dd) (h : k ≤ j) : Dfn P w K mg base j x n F m dd := by
  obtain ⟨f, fd, ps, ds, h1, h2, h3, h4⟩ := D.ex
  exact ⟨f, fd, ps, ds, h1, h2, h3.mono h, h4⟩
section
variable {X : Cx} {k : Nat} {W : WX} {pin : List Nat} {x : Str} {p pos : Pos} {e : Expr} {es : List Expr} {n m : Nat} {F : List Sl → FR} {g : List Sl → Rs (List Ar)} {dd : List PyData}
theorem se_callD (D : Dfn X.prog X.w X.K X.mg X.base k x n F m dd) (hr : Room k X.A) (hgd : X.A.guards = some []) (hx : ∀ σ, PassesAt (L2.CX X.prog X.w) X σ (WE W σ)) (hg : Gl X x)
    (ha : SAr X W pin (e :: es) g) (hlen : ∀ δ ars δ', g δ = .ok ars δ' → ars.length = m)
    (hdb : (x == ("__debug__" : Str)) = false := by decide) (he : starEach (e :: es) X.env = (false, eval e X.env) :: starEach es X.env := by rfl) (hpl : (backTo pos (starEach es X.env)).any (·.1) = false := by rfl) :
    SE X W pin (.Call (.Name x p) (e :: es) [] pos) (sCall F dd g) := by
  obtain ⟨f, fd, ps, ds, hm, hk, G, hb, hd, hn, hf⟩ := D.ex
  exact se_call G hr hgd hx hg hm hk hb hd hf ha (fun δ ars δ' q => by rw [hlen δ ars δ' q]; exact hn) hdb he hpl
end
section
variable {P : Program} {w : World} {K : PySem.W.Frag} {mg : Str → Option Value} {base : Heap} {name qual : Str} {params : Arguments} {body : List Stmt} {scope : Scope} {dvs : List V} {kws : List (Str × V)} {f : Addr} {fd : FuncData} {N ps : List Str} {n k : Nat} {pin : List Nat} {fb : List Sl → Ot}
theorem fnG_D (FD : FunD K name qual params body scope dvs kws f fd) (S : FnScope N ps scope) (hn : ps.length = n)
    (hbody : ∀ (cdv : Value) (A : Around) (outer : List Env) (s : Shared) (H : Hp) (E : XK), Room k (A.deeper (envOfC qual scope s.heap.objs.size f cdv)) → A.guards = some [] →
      SSs (GX P w K mg base N qual scope f cdv A outer s H E) (GW E) pin body fb) (hm : mkT ∉ pin := by decide) : FnG P w K mg base (k + 1) f fd ps (spF K mg n (fnRun n N.length pin fb)) := by
  obtain ⟨oc, od, dV, kV, doc, pm, an, cdv, ct, osl, rfl, lk, hcd, _, _⟩ := FD.ex
  exact fnG_of lk hcd S hn (hbody cdv) hm
end
end Hb
namespace Hb
open PySem PySem.Spec PyProof.Rows L2
def rEqE (K : PySem.W.Frag) (n : Bool) : R2 := fun x y H Q => ∃ a b xs, x = V.ref a ∧ y = V.ref b ∧ SqX K H a xs ∧ SqX K H b [] ∧ Q (.bl (n != xs.isEmpty)) H
section
variable {X : Cx}
theorem isList_of {h : Heap} {a : Addr} {its : List Value} {n : Nat} (e : h.get? a = some { cls := .type "list", data := .seq its.toArray n }) : h.IsList a its.toArray := ⟨_, e, rfl, n, rfl⟩
theorem op_eqE (hu : X.A.units + 64 < cLine) : OpR X (compareOp .Eq) (rEqE X.K false) := by
  intro pins s σ H x y v u Q I rx ry h
  obtain ⟨a, b, xs, rfl, rfl, h1, h2, q⟩ := h
  cases rx
  cases ry
  obtain ⟨i1, n1, r1, g1, _⟩ := inv_lstX I h1
  obtain ⟨i2, n2, r2, g2, _⟩ := inv_lstX I h2
  cases r2
  have hu0 : X.A.units < cLine := by omega
  cases r1 with
  | nil =>
    exact SeqAt.eq_listAt (e := fun _ => true) (isList_of g1) (isList_of g2) rfl hu0 (fun j h => nomatch h) ⟨.bl _, H, I, rfl, q⟩
  | cons r0 rt => exact SeqAt.eq_list_lengthsAt (isList_of g1) (isList_of g2) (by simp) hu0 ⟨.bl _, H, I, rfl, q⟩
end
def gEqE (n : Bool) (x y : AV) (δ : List Sl) : Rs AV := match rdA δ x, rdA δ y with
  | some (.list ds), some (.list []) => .ok (.val (.bool (n != ds.isEmpty))) δ
  | _, _ => .bad
section
variable {K : PySem.W.Frag} {mg : Str → Option Value} {W : WX} {pin : List Nat}
theorem v2_eqE {n : Bool} : V2 K mg W pin (rEqE K n) (gEqE n) := by
  intro b Fz F δ σ H v w x y Q hp R A B P
  unfold gEqE at P
  cases q1 : rdA δ x with
  | none => simp only [q1] at P; exact P.elim
  | some d =>
    cases q2 : rdA δ y with
    | none => cases d <;> (simp only [q1, q2] at P; exact P.elim)
    | some e =>
      cases d with
      | list ds =>
        cases e with
        | list es =>
          cases es with
          | cons e0 er => simp only [q1, q2] at P; exact P.elim
          | nil =>
            simp only [q1, q2] at P
            have r1 := rdA_ok R A q1
            have r2 := rdA_ok R B q2
            cases r1 with
            | lst s1 l1 =>
              cases r2 with
              | lst s2 l2 =>
                cases l2
                refine ⟨_, _, _, rfl, rfl, s1, s2, ?_⟩
                have := P _ H Fz F (Same.refl _) R (.bl _)
                cases l1 with
                | nil => exact this
                | cons _ _ => exact this
        | _ => simp only [q1, q2] at P; exact P.elim
      | _ => cases e <;> (simp only [q1, q2] at P; exact P.elim)
end
section
variable {X : Cx} {W : WX} {pin : List Nat} {fa fb : List Sl → Rs AV} {a c : Expr} {pos : Pos}
theorem se_eqE (hu : X.A.units + 64 < cLine) (ha : SE X W pin a fa) (hb : SE X W pin c fb) : SE X W pin (.Compare a [.Eq] [c] pos) (s2 (gEqE false) fa fb) := se_cmp (op_eqE hu) v2_eqE ha hb (nomark _)
end
end Hb
namespace Hb
open PySem PySem.Spec PyProof.Rows L2
abbrev gFdivW := gI (fun _ j => decide (0 < j ∧ j < 2 ^ 1000)) (· / ·)
abbrev gPowW := gI (fun i j => decide (0 ≤ j ∧ j ≤ 64 ∧ i.natAbs < 2 ^ 1024)) (fun i j => i ^ j.toNat)
theorem log2_of {n k : Nat} (h : n < 2 ^ k) (hk : 0 < k) : n.log2 < k := by
  by_cases z : n = 0
  · subst z; simpa using hk
  · exact (Nat.log2_lt z).mpr h
def CPowW (i j : Int) : Prop := 0 ≤ j ∧ (Builtin.Int.intBits i : Int) * j ≤ 2 ^ 27
theorem op_powW {X : Cx} : OpR X (binaryOp .Pow) (rI CPowW fun i j => .int (i ^ j.toNat)) := opI fun _ _ _ _ _ _ _ hc q => PyProof.Rows.pow_int hc.1 hc.2 q
section
variable {X : Cx} {W : WX} {pin : List Nat} {fa fb : List Sl → Rs AV} {a c : Expr} {pos : Pos}
theorem se_fdivW (ha : SE X W pin a fa) (hb : SE X W pin c fb) : SE X W pin (.BinOp a .FloorDiv c pos) (s2 gFdivW fa fb) := se_bin op_fdivW (v2_i fun i j h => by
  obtain ⟨h1, h2⟩ := (of_decide_eq_true h : 0 < j ∧ j < 2 ^ 1000)
  refine ⟨h1, Nat.lt_of_lt_of_le (log2_of (k := 1000) ?_ (by decide)) (by decide)⟩
  omega) ha hb
theorem se_powW (ha : SE X W pin a fa) (hb : SE X W pin c fb) : SE X W pin (.BinOp a .Pow c pos) (s2 gPowW fa fb) := se_bin op_powW (v2_i fun i j h => by
  obtain ⟨h1, h2, h3⟩ := (of_decide_eq_true h : 0 ≤ j ∧ j ≤ 64 ∧ i.natAbs < 2 ^ 1024)
  refine ⟨h1, ?_⟩
  have hb : Builtin.Int.intBits i ≤ 1024 := by
    unfold Builtin.Int.intBits
    split
    · omega
    · have := log2_of h3 (by decide)
      omega
  have h4 : (Builtin.Int.intBits i : Int) * j ≤ 1024 * j := Int.mul_le_mul_of_nonneg_right (by omega) h1
  omega) ha hb
end
end Hb
namespace Hb
open PySem PySem.Spec PyProof.Rows L2
end Hb
namespace Hb
open PySem PySem.Spec PyProof.Rows L2
def keyOf : PyData → Option Key
  | .int i => some (.inl i)
  | .str x => some (.inr x)
  | _ => none
theorem keyOf_D (k : Key) : keyOf (kD k) = some k := by cases k <;> rfl
theorem keyOf_eq {d : PyData} {k : Key} (h : keyOf d = some k) : d = kD k := by
  cases d <;> first | (cases h; rfl) | cases h
def lookK (kvs : List (PyData × PyData)) (k : Key) : Option PyData := (kvs.find? fun p => decide (keyOf p.1 = some k)).map (·.2)
def putD (kvs : List (PyData × PyData)) (k : Key) (d : PyData) : List (PyData × PyData) :=
  if (kvs.any fun p => decide (keyOf p.1 = some k)) = true then kvs.map (fun p => if keyOf p.1 = some k then (p.1, d) else p) else kvs ++ [(kD k, d)]
section
variable {K : PySem.W.Frag} {H : Hp}
theorem RpK.look : ∀ {ws : List (Key × V)} {kvs : List (PyData × PyData)} {k : Key} {d : PyData}, RpK K H ws kvs → lookK kvs k = some d → ∃ v, valV ws k = some v ∧ Rp K H v d
  | _, _, k, d, .nil, h => by cases h
  | _, _, k, d, .cons (k := k0) (v := v0) (vs := ws) (d := d0) (ds := kvs) r t, h => by
    unfold lookK at h
    rw [List.find?_cons] at h
    rw [keyOf_D] at h
    by_cases c : k0 = k
    · rw [decide_eq_true (by rw [c])] at h
      cases h
      exact ⟨v0, valV_pos (p := (k0, v0)) c, r⟩
    · have hn : ¬ some k0 = some k := fun z => c (Option.some.inj z)
      rw [decide_eq_false hn] at h
      obtain ⟨v, e1, e2⟩ := RpK.look t h
      exact ⟨v, by rw [valV_neg (p := (k0, v0)) c]; exact e1, e2⟩
theorem RpK.none : ∀ {ws : List (Key × V)} {kvs : List (PyData × PyData)} {k : Key}, RpK K H ws kvs → lookK kvs k = .none → valV ws k = .none
  | _, _, k, .nil, h => rfl
  | _, _, k, .cons (k := k0) (v := v0) (vs := ws) (d := d0) (ds := kvs) r t, h => by
    unfold lookK at h
    rw [List.find?_cons] at h
    rw [keyOf_D] at h
    by_cases c : k0 = k
    · rw [decide_eq_true (by rw [c])] at h
      cases h
    · have hn : ¬ some k0 = some k := fun z => c (Option.some.inj z)
      rw [decide_eq_false hn] at h
      rw [valV_neg (p := (k0, v0)) c]
      exact RpK.none t h
theorem RpK.any : ∀ {ws : List (Key × V)} {kvs : List (PyData × PyData)} (k : Key), RpK K H ws kvs → (ws.any fun kv => decide (kv.1 = k)) = kvs.any fun p => decide (keyOf p.1 = some k)
  | _, _, k, .nil => rfl
  | _, _, k, .cons (k := k0) r t => by
    rw [List.any_cons, List.any_cons, RpK.any k t, keyOf_D]
    congr 1
    by_cases c : k0 = k <;> simp [c]
theorem RpK.app : ∀ {ws us : List (Key × V)} {kvs lvs : List (PyData × PyData)}, RpK K H ws kvs → RpK K H us lvs → RpK K H (ws ++ us) (kvs ++ lvs)
  | _, _, _, _, .nil, s => s
  | _, _, _, _, .cons r t, s => .cons r (RpK.app t s)
theorem RpK.mapk {v : V} {d : PyData} (h : Rp K H v d) (k : Key) : ∀ {ws : List (Key × V)} {kvs : List (PyData × PyData)}, RpK K H ws kvs → RpK K H (ws.map fun kv => if kv.1 = k then (kv.1, v) else kv) (kvs.map fun p => if keyOf p.1 = some k then (p.1, d) else p)
  | _, _, .nil => .nil
  | _, _, .cons (k := k0) (v := v0) r t => by
    rw [List.map_cons, List.map_cons]
    have ih := RpK.mapk h k t
    by_cases c : k0 = k
    · rw [if_pos (show (k0, v0).1 = k from c), if_pos (show keyOf (kD k0) = some k by rw [keyOf_D, c])]
      exact .cons h ih
    · rw [if_neg (show ¬ (k0, v0).1 = k from c), if_neg (show ¬ keyOf (kD k0) = some k by rw [keyOf_D]; exact fun z => c (Option.some.inj z))]
      exact .cons r ih
theorem RpK.put {ws : List (Key × V)} {kvs : List (PyData × PyData)} {v : V} {d : PyData} (t : RpK K H ws kvs) (h : Rp K H v d) (k : Key) : RpK K H (putK ws k v) (putD kvs k d) := by
  unfold putK putD
  rw [RpK.any k t]
  by_cases c : (kvs.any fun p => decide (keyOf p.1 = some k)) = true
  · rw [if_pos c, if_pos c]
    exact RpK.mapk h k t
  · rw [if_neg c, if_neg c]
    exact t.app (.cons h .nil)
end
/-- the dict's tree, where it is one -/
def dicA (δ : List Sl) (x : AV) : Option (List (PyData × PyData)) := match rdA δ x with
  | some (.dict kvs) => some kvs
  | _ => none
/-- its items stand still -/
theorem dic_ok {K : PySem.W.Frag} {b : Bk} {Fz : Hp} {F : Nat → List Addr} {δ : List Sl} {σ : L2.St} {H : Hp} (R : Rl K b Fz F δ σ H) {v : V} {x : AV} {kvs : List (PyData × PyData)} (A : AvS K Fz σ v x) (h : dicA δ x = some kvs) :
    ∃ a, v = .ref a ∧ ((∃ ws, H a = some (.dK ws) ∧ RpK K Fz ws kvs) ∨ ∃ ws, H a = some (.dT ws) ∧ RpT K Fz ws kvs) := by
  unfold dicA at h
  have q : rdA δ x = some (.dict kvs) := by
    cases q : rdA δ x with
    | none => rw [q] at h; cases h
    | some d => rw [q] at h; cases d <;> first | (cases h; rfl) | cases h
  have frz : ∀ {u : V}, Rp K Fz u (.dict kvs) → ∃ a, u = .ref a ∧ ((∃ ws, H a = some (.dK ws) ∧ RpK K Fz ws kvs) ∨ ∃ ws, H a = some (.dT ws) ∧ RpT K Fz ws kvs) := fun r => by
    cases r with
    | dK h1 h2 => exact ⟨_, rfl, .inl ⟨_, R.le _ _ h1, h2⟩⟩
    | dT h1 h2 => exact ⟨_, rfl, .inr ⟨_, R.le _ _ h1, h2⟩⟩
  cases x with
  | val d => cases q; exact frz A
  | tmp t => cases q
  | ref i =>
    have hv : σ[i]? = some (some v) := A
    simp only [rdA] at q
    cases q1 : δ[i]? with
    | none => simp only [q1] at q; cases q
    | some s =>
      have hs := R.slot i s q1
      rw [hv] at hs
      cases s with
      | no => simp only [q1] at q; cases q
      | fz d =>
        simp only [q1] at q
        cases q
        obtain ⟨_, v', e1, e2⟩ := hs
        cases e1
        exact frz e2
      | ol xs => simp only [q1] at q; cases q
      | od ks =>
        simp only [q1] at q
        cases q
        obtain ⟨a, e1, _, e3⟩ := hs
        cases e1
        exact ⟨a, rfl, e3⟩
      | al y j =>
        simp only [q1] at q
        cases q2 : δ[y]? with
        | none => simp only [q2] at q; cases q
        | some t =>
          cases t with
          | ol xs =>
            simp only [q2] at q
            cases q3 : xs[j]? with
            | none => rw [q3] at q; cases q
            | some e =>
              rw [q3] at q
              obtain ⟨g, e1, _⟩ := R.al q1 q2 q3 hv
              cases e with
              | fz d => cases q; exact frz e1.2
              | ow ys => cases q
          | _ => simp only [q2] at q; cases q
section
variable {X : Cx} {W : WX} {pin : List Nat} {fa fb : List Sl → Rs AV} {a c : Expr} {pos : Pos}
theorem pe_or {e : Expr} {t t' : TE} (h : PE X e t) (h' : PE X e t') : PE X e (fun σ H Q => t σ H Q ∨ t' σ H Q) := ⟨fun pins s σ H Q I q => q.elim (h.run pins s σ H Q I) (h'.run pins s σ H Q I)⟩
theorem rpc_key {K : PySem.W.Frag} {Fz H : Hp} {v : V} {d : PyData} {k : Key} (h : RpC K Fz H v d) (e : keyOf d = some k) : v = kV k := by
  have := keyOf_eq e
  subst this
  rcases h with h | ⟨_, _, _, _, e2, _⟩
  · cases k with
    | inl i => cases h; rfl
    | inr x => cases h; rfl
  · cases k <;> cases e2
theorem rd_bind' {K : PySem.W.Frag} {mg : Str → Option Value} {σ : L2.St} {H : Hp} {b : Bk} {Fz : Hp} {F : Nat → List Addr} {δ : List Sl} {k : AV → List Sl → Rs AV} {Q R : VK} (hp : b.pin = pin) (Rr : Rl K b Fz F δ σ H) (P : Post K mg W b Fz σ Q ((sSt fa δ).bind k))
    (h : ∀ v H' Fz' F' x δ', sSt fa δ = .ok x δ' → Same Fz Fz' → Rl K b Fz' F' δ' σ H' → AvS K Fz' σ v x → Post K mg W b Fz' σ Q (k x δ') → R v H') : rdE K mg W pin (sSt fa) σ H R := by
  refine ⟨b, Fz, F, δ, hp, Rr, ?_⟩
  cases q : sSt fa δ with
  | bad => rw [q] at P; exact P
  | er x δ' => rw [q] at P; exact P
  | ok a δ' =>
    rw [q] at P
    intro v H' Fz' F' s R' A
    cases a with
    | tmp t => exact absurd q (sSt_notmp _ _ _ _)
    | val d => exact h v H' Fz' F' (.val d) δ' q s R' A (Post.le s P)
    | ref i => exact h v H' Fz' F' (.ref i) δ' q s R' A (Post.le s P)
theorem rdE_mono {K : PySem.W.Frag} {mg : Str → Option Value} {f : List Sl → Rs AV} {σ : L2.St} {H : Hp} {Q Q' : VK} (h : rdE K mg W pin f σ H Q) (i : ∀ v H', Q v H' → Q' v H') : rdE K mg W pin f σ H Q' := by
  obtain ⟨b, Fz, F, δ, hp, R, P⟩ := h
  refine ⟨b, Fz, F, δ, hp, R, ?_⟩
  cases q : f δ with
  | bad => rw [q] at P; exact P
  | er x δ' => rw [q] at P; exact P
  | ok a δ' =>
    rw [q] at P
    exact fun v H' Fz' F' s R' A => i v H' (P v H' Fz' F' s R' A)
theorem lookT {K : PySem.W.Frag} {H : Hp} (k : Key) : ∀ {ws : List (List Key × V)} {kvs : List (PyData × PyData)}, RpT K H ws kvs → lookK kvs k = none
  | _, _, .nil => rfl
  | _, _, .cons _ t => by
    have ih := lookT k t
    unfold lookK at ih ⊢
    rw [List.find?_cons]
    simpa [keyOf] using ih
/-- one of two readings, by what the first operand's tree is behind both -/
theorem t2_or {t t' : TE} {r : R2} {g gd : AV → AV → List Sl → Rs AV} {D : AV → List Sl → Bool}
    (ht : ∀ σ H Q, tOp r (rdE X.K X.mg W pin (sSt fa)) (rdE X.K X.mg W pin (sSt fb)) σ H Q → t σ H Q)
    (ht' : ∀ σ H Q, rdE X.K X.mg W pin (sSt fa) σ H (fun v H1 => rdE X.K X.mg W pin (sSt fb) σ H1 fun w H2 => ∃ b Fz F δ x y, Rl X.K b Fz F δ σ H2 ∧ AvS X.K Fz σ v x ∧ AvS X.K Fz σ w y ∧ b.pin = pin ∧ D x δ = true ∧ Post X.K X.mg W b Fz σ Q (gd x y δ)) → t' σ H Q)
    (hv : V2 X.K X.mg W pin r g) : ∀ σ H Q, rdE X.K X.mg W pin (s2 (fun x y δ => if D x δ = true then gd x y δ else g x y δ) fa fb) σ H Q → t σ H Q ∨ t' σ H Q := fun σ H Q ⟨b, Fz, F, δ, hp, R, P⟩ => by
  have P : Post X.K X.mg W b Fz σ Q ((sSt fa δ).bind fun x δ1 => (sSt fb δ1).bind fun y δ2 => if D x δ2 = true then gd x y δ2 else g x y δ2) := P
  by_cases dic : ∃ x δ1 y δ2, sSt fa δ = .ok x δ1 ∧ sSt fb δ1 = .ok y δ2 ∧ D x δ2 = true
  · obtain ⟨x0, d1, y0, d2, q1, q2, q3⟩ := dic
    refine .inr (ht' σ H Q (rd_bind' hp R P fun v H1 Fz1 F1 x δ1 e1 s1 R1 A1 P1 => rd_bind' hp R1 P1 fun w H2 Fz2 F2 y δ2 e2 s2 R2 A2 P2 => ?_))
    rw [q1] at e1
    cases e1
    rw [q2] at e2
    cases e2
    rw [if_pos q3] at P2
    exact ⟨b, Fz2, F2, _, _, _, R2, A1.le s2, A2, hp, q3, P2⟩
  · refine .inl (ht σ H Q (rd_bind' hp R P fun v H1 Fz1 F1 x δ1 e1 s1 R1 A1 P1 => rd_bind' hp R1 P1 fun w H2 Fz2 F2 y δ2 e2 s2 R2 A2 P2 => ?_))
    have q3 : ¬ D x δ2 = true := fun z => dic ⟨x, δ1, y, δ2, e1, e2, z⟩
    rw [if_neg q3] at P2
    exact hv b Fz2 F2 δ2 σ H2 v w x y Q hp R2 (A1.le s2) A2 P2
def isDic (x : AV) (δ : List Sl) : Bool := (dicA δ x).isSome
def gDix (x y : AV) (δ : List Sl) : Rs AV := match dicA δ x, (rdC δ y).bind keyOf with
  | some kvs, some k => (match lookK kvs k with
    | some d => .ok (.val d) δ
    | none => .bad)
  | _, _ => .bad
/-- x[i]: of a list, a tuple, a dict -/
def gIx2 (x y : AV) (δ : List Sl) : Rs AV := if isDic x δ = true then gDix x y δ else gIx x y δ
theorem se_ix2 (hu : X.A.units + 64 < cLine) (ha : SE X W pin a fa) (hb : SE X W pin c fb) (hs : PlainIx c := by intro _ _; rfl) (hs2 : NoSl c := by intro _ _; rfl) : SE X W pin (.Subscript a c pos) (s2 gIx2 fa fb) :=
  pe_mono (pe_or (pe_ix ix_U (se_st ha) (se_st hb) hs) (pe_dget (by omega) (se_st ha) (se_st hb) hs2)) (t2_or (r := rIxU X.K) (g := gIx) (gd := gDix) (D := isDic) (fun _ _ _ h => h) (fun σ H Q h => by
    refine rdE_mono h fun v H1 h => rdE_mono h fun w H2 ⟨b, Fz, F, δ, x, y, R, A, B, hp, hD, P⟩ => ?_
    unfold isDic at hD
    cases q : dicA δ x with
    | none => rw [q] at hD; cases hD
    | some kvs =>
      obtain ⟨a', e1, e2⟩ := dic_ok R A q
      unfold gDix at P
      cases q2 : (rdC δ y).bind keyOf with
      | none => simp only [q, q2] at P; exact P.elim
      | some k =>
        cases q3 : lookK kvs k with
        | none => simp only [q, q2, q3] at P; exact P.elim
        | some d =>
          simp only [q, q2, q3] at P
          obtain ⟨kd, f1, f2⟩ := Option.bind_eq_some_iff.mp q2
          have ew := rpc_key (rdC_ok R B f1) f2
          rcases e2 with ⟨ws, g1, g2⟩ | ⟨ws, g1, g2⟩
          · obtain ⟨u, h1, h2⟩ := g2.look q3
            exact ⟨a', u, e1, .inl ⟨ws, k, .inl g1, ew, h1.symm⟩, P u H2 Fz F (Same.refl _) R h2⟩
          · rw [lookT k g2] at q3
            cases q3) v2_ix)
end
end Hb
namespace Hb
open PySem PySem.Spec PyProof.Rows L2
def frzS (δ : List Sl) : Sl → Sl
  | .no => .no
  | .fz d => .fz d
  | .ol xs => .fz (.list (xs.map El.d))
  | .od kvs => .fz (.dict kvs)
  | .al x j => match δ[x]? with
    | some (.ol xs) => (match xs[j]? with
      | some e => .fz e.d
      | none => .no)
    | _ => .no
def scalD : PyData → Bool
  | .none => true
  | .bool _ => true
  | .int _ => true
  | .str _ => true
  | _ => false
end Hb
namespace Hb
open PySem PySem.Spec PyProof.Rows L2
end Hb
namespace Hb
open PySem PySem.Spec PyProof.Rows L2
end Hb
namespace Hb
open PySem PySem.Spec PyProof.Rows L2
end Hb
namespace Hb
open PySem PySem.Spec PyProof.Rows L2
end Hb
namespace Hb
open PySem PySem.Spec PyProof.Rows L2
end Hb
namespace Hb
open PySem PySem.Spec PyProof.Rows L2
end Hb
namespace Hb
open PySem PySem.Spec PyProof.Rows L2
/-- what is known of a class of errors -/
structure ExcC (K : PySem.W.Frag) (mg : Str → Option Value) (C : Str) (c : Addr) : Prop where
  q : PySem.W.excIn K c He.veBase "ValueError.__new__" = true
  k : PySem.W.keepIn K (.ref c) = true
  b : PySem.W.subIn K (.ref c) (.type "BaseException") = some true
  t : PySem.W.typeIn K (.ref c) = some (.type "type")
  g : mg C = some (.ref c)
section
variable {X : Cx} {W : WX} {pin : List Nat}
/-- whether an error of the one class is one of the other -/
abbrev Mt := List (Str × Str × Bool)
def Mt.at_ (m : Mt) (x y : Str) : Option Bool := (m.find? fun p => p.1 == x && p.2.1 == y).map fun p => p.2.2
def MtOk (K : PySem.W.Frag) (mg : Str → Option Value) (m : Mt) : Prop := ∀ x y b, m.at_ x y = some b → ∀ cx cy, mg x = some (.ref cx) → mg y = some (.ref cy) → PySem.W.exmOne K (.ref cx) (.ref cy) = some b
def hands (m : Mt) : List (Str × (List Sl → Ot)) → Exn → List Sl → Ot
  | [], x, δ => .er x δ
  | (C, h) :: r, x, δ => match m.at_ x.cls C with
    | some true => h δ
    | some false => hands m r x δ
    | none => .bad
/-- the except clauses -/
inductive HdO (X : Cx) (W : WX) (pin : List Nat) : List ExceptHandler → List (Str × (List Sl → Ot)) → Prop
  | nil : HdO X W pin [] []
  | cons {C : Str} {c : Addr} {b₀ : Stmt} {suite : List Stmt} {np pos' : Pos} {hds : List ExceptHandler} {l : List (Str × (List Sl → Ot))} {h : List Sl → Ot} (g : X.mg C = some (.ref c)) (hg : Gl X C) (hd : (C == ("__debug__" : Str)) = false)
      (hsu : ∀ (a : Addr) (oe : Obj) (pn : List (Addr × Obj)), SSs (X.suite a ((a, oe) :: pn)) W pin (b₀ :: suite) h) (r : HdO X W pin hds l) :
      HdO X W pin (.ExceptHandler (some (.Name C np)) none (b₀ :: suite) pos' :: hds) ((C, h) :: l)
def tsOf (K : PySem.W.Frag) (mg : Str → Option Value) (W : WX) (pin : List Nat) (h : List Sl → Ot) : Addr → Value → Option Addr → TS := fun _ _ _ => rdS K mg W pin h
theorem HdO.ok {hds : List ExceptHandler} {l : List (Str × (List Sl → Ot))} (hh : HdO X W pin hds l) : ∃ l' : List (Value × (Addr → Value → Option Addr → TS)), HdsOk X hds l' ∧
    ∀ {m : Mt}, MtOk X.K X.mg m → ∀ {b : Bk} {Fz : Hp} {D : Ends} {x : Exn} {δ : List Sl}, b.pin = pin → PostS X.K X.mg W b Fz D (hands m l x δ) → PostXS X.K X.mg (wMany X.K W D l') b Fz x δ := by
  induction hh with
  | nil => exact ⟨[], .nil, fun _ _ _ _ _ _ _ P => P⟩
  | @cons C c b₀ suite np pos' hds l h g hg hd hsu r ih =>
    obtain ⟨l', o, f⟩ := ih
    refine ⟨(.ref c, tsOf X.K X.mg W pin h) :: l', .cons ⟨hg, hd, .inl g⟩ (fun a oe cls d pn _ _ => hsu a oe pn) o, fun {m} hm {b} {Fz} {D} {x} {δ} hp P => ?_⟩
    intro cv dd σ' H' Fz' F' s R' E
    obtain ⟨⟨cx, gx, e1⟩, _⟩ := id E
    subst e1
    unfold hands at P
    cases q : m.at_ x.cls C with
    | none => rw [q] at P; exact P.elim
    | some bb =>
      rw [q] at P
      refine ⟨bb, hm _ _ _ q cx c gx g, fun e a _ => ?_, fun e => ?_⟩
      · subst e
        exact ⟨b, Fz', F', δ, hp, R', PostS.le s P⟩
      · subst e
        exact f hm hp P (.ref cx) dd σ' H' Fz' F' s R' E
end
theorem excC_of {K : PySem.W.Frag} {h : Heap} {mg : Str → Option Value} (X : K.In h) (G : h.Ns mainGlobals mg) {C : Str} (g : mg C = some (.ref (He.ga K C))) (c : (He.Fa.exc C).ok K = true) : ExcC K mg C (He.ga K C) :=
  let ⟨a, b, d, e⟩ := He.exc_ok c
  ⟨a, b, d, e, g⟩
end Hb
namespace Hb
open PySem PySem.Spec PyProof.Rows L2
end Hb
namespace Hb
open PySem PySem.Spec PyProof.Rows L2
def clrX (xs : List Nat) (δ : List Sl) : List Sl := xs.foldl (fun δ x => upS x .no δ) δ
theorem Rl.clr {K : PySem.W.Frag} {b : Bk} {Fz : Hp} {H' : Hp} {σ' : L2.St} : ∀ {xs : List Nat} {F : Nat → List Addr} {δ : List Sl} {σ : L2.St}, Rl K b Fz F δ σ H' → (∀ x ∈ xs, x ∉ b.pin) → σ'.length = σ.length → (∀ k, k ∉ xs → σ'[k]? = σ[k]?) → ∃ F', Rl K b Fz F' (clrX xs δ) σ' H'
  | [], F, δ, σ, R, _, hl, hs => by
    have : σ' = σ := List.ext_getElem? fun k => hs k (by simp)
    subst this
    exact ⟨F, R⟩
  | x :: r, F, δ, σ, R, hp, hl, hs => by
    let σ1 : L2.St := match σ'[x]? with
      | some w => σ.set x w
      | none => σ
    have l1 : σ1.length = σ.length := by
      show (match σ'[x]? with
      | some w => σ.set x w
      | none => σ).length = _
      split
      · rw [List.length_set]
      · rfl
    have e1 : ∀ k, k ≠ x → σ1[k]? = σ[k]? := fun k hk => by
      show (match σ'[x]? with
      | some w => σ.set x w
      | none => σ)[k]? = _
      split
      · rw [List.getElem?_set_ne fun z => hk z.symm]
      · rfl
    have e2 : σ1[x]? = σ'[x]? := by
      show (match σ'[x]? with
      | some w => σ.set x w
      | none => σ)[x]? = _
      cases q : σ'[x]? with
      | none =>
        have := List.getElem?_eq_none_iff.mp q
        show σ[x]? = none
        exact List.getElem?_eq_none (by omega)
      | some w =>
        have := (List.getElem?_eq_some_iff.mp q).1
        exact List.getElem?_set_self (by omega)
    have R1 := R.put (i := x) (s := .no) (g := []) (σ' := σ1) (Same.refl _) R.le R.base l1 e1 (.inr (hp x (by simp))) (fun _ => rfl) (fun _ _ z => nomatch z) List.nodup_nil (fun _ z => nomatch z) (fun _ z => nomatch z) (fun _ z => nomatch z) (fun _ z => nomatch z) (fun _ _ _ _ => rfl) (fun k _ a ha => R.offF k a ha) (fun _ _ => rfl)
    exact Rl.clr (xs := r) R1 (fun y hy => hp y (by simp [hy])) (by omega) fun k hk => by
      by_cases c : k = x
      · subst c; exact e2.symm
      · rw [e1 k c]; exact hs k (by simp [c, hk])
end Hb
namespace Hb
open PySem PySem.Spec PyProof.Rows L2
end Hb
namespace Hb
open PySem PySem.Spec PyProof.Rows L2
theorem ArOk.grow {K : PySem.W.Frag} {b : Bk} {Fz : Hp} {F : Nat → List Addr} {H H' : Hp} {σ : L2.St} {vs : List V} {ars : List Ar} {G : Nat → List Addr} (A : ArOk K b Fz F H σ vs ars G) (up : Same H H') : ArOk K b Fz F H' σ vs ars G where
  len := A.len
  at_ := fun j a e => by
    obtain ⟨v, e1, h⟩ := A.at_ j a e
    refine ⟨v, e1, ?_⟩
    cases a with
    | fz d => exact h
    | io k => exact h
    | own s =>
      obtain ⟨h1, h2⟩ := h
      refine ⟨h1, h2.keeps (Same.refl _) (fun c hc => ?_) fun x i _ c z => nomatch z⟩
      cases q : H c with
      | none => exact absurd q (A.off j c hc).2.2.1
      | some o => exact up c o q
  nd := A.nd
  dj := A.dj
  off := fun j c hc => by
    obtain ⟨h1, h2, h3, h4⟩ := A.off j c hc
    refine ⟨h1, h2, ?_, h4⟩
    cases q : H c with
    | none => exact absurd q h3
    | some o => rw [up c o q]; simp
end Hb
namespace Hb
open PySem PySem.Spec PyProof.Rows L2
end Hb
namespace Hb
open PySem PySem.Spec PyProof.Rows L2
def keysOf : List PyData → Option (List Key)
  | [] => some []
  | d :: r => (keyOf d).bind fun k => (keysOf r).map (k :: ·)
def keyT : PyData → Option (List Key)
  | .tuple ds => keysOf ds
  | _ => none
theorem keysOf_D : ∀ ks : List Key, keysOf (ks.map kD) = some ks
  | [] => rfl
  | k :: r => by
    show (keyOf (kD k)).bind _ = _
    rw [keyOf_D]
    show (keysOf (r.map kD)).map (k :: ·) = _
    rw [keysOf_D r]
    rfl
theorem keyT_D (ks : List Key) : keyT (.tuple (ks.map kD)) = some ks := keysOf_D ks
def lookKT (kvs : List (PyData × PyData)) (k : List Key) : Option PyData := (kvs.find? fun p => decide (keyT p.1 = some k)).map (·.2)
def putT (kvs : List (PyData × PyData)) (k : List Key) (d : PyData) : List (PyData × PyData) :=
  if (kvs.any fun p => decide (keyT p.1 = some k)) = true then kvs.map (fun p => if keyT p.1 = some k then (p.1, d) else p) else kvs ++ [(.tuple (k.map kD), d)]
section
variable {K : PySem.W.Frag} {H : Hp}
theorem RpT.look : ∀ {ws : List (List Key × V)} {kvs : List (PyData × PyData)} {k : List Key} {d : PyData}, RpT K H ws kvs → lookKT kvs k = some d → ∃ v, valV ws k = some v ∧ Rp K H v d
  | _, _, k, d, .nil, h => by cases h
  | _, _, k, d, .cons (k := k0) (v := v0) (vs := ws) (d := d0) (ds := kvs) r t, h => by
    unfold lookKT at h
    rw [List.find?_cons] at h
    rw [keyT_D] at h
    by_cases c : k0 = k
    · rw [decide_eq_true (by rw [c])] at h
      cases h
      exact ⟨v0, valV_pos (p := (k0, v0)) c, r⟩
    · have hn : ¬ some k0 = some k := fun z => c (Option.some.inj z)
      rw [decide_eq_false hn] at h
      obtain ⟨v, e1, e2⟩ := RpT.look t h
      exact ⟨v, by rw [valV_neg (p := (k0, v0)) c]; exact e1, e2⟩
theorem RpT.none : ∀ {ws : List (List Key × V)} {kvs : List (PyData × PyData)} {k : List Key}, RpT K H ws kvs → lookKT kvs k = .none → valV ws k = .none
  | _, _, k, .nil, h => rfl
  | _, _, k, .cons (k := k0) (v := v0) (vs := ws) (d := d0) (ds := kvs) r t, h => by
    unfold lookKT at h
    rw [List.find?_cons] at h
    rw [keyT_D] at h
    by_cases c : k0 = k
    · rw [decide_eq_true (by rw [c])] at h
      cases h
    · have hn : ¬ some k0 = some k := fun z => c (Option.some.inj z)
      rw [decide_eq_false hn] at h
      rw [valV_neg (p := (k0, v0)) c]
      exact RpT.none t h
theorem RpT.isSome {ws : List (List Key × V)} {kvs : List (PyData × PyData)} (k : List Key) (t : RpT K H ws kvs) : (valV ws k).isSome = (lookKT kvs k).isSome := by
  cases q : lookKT kvs k with
  | none => rw [t.none q]; rfl
  | some d =>
    obtain ⟨v, e, _⟩ := t.look q
    rw [e]
    rfl
theorem RpT.any : ∀ {ws : List (List Key × V)} {kvs : List (PyData × PyData)} (k : List Key), RpT K H ws kvs → (ws.any fun kv => decide (kv.1 = k)) = kvs.any fun p => decide (keyT p.1 = some k)
  | _, _, k, .nil => rfl
  | _, _, k, .cons (k := k0) r t => by
    rw [List.any_cons, List.any_cons, RpT.any k t, keyT_D]
    congr 1
    by_cases c : k0 = k <;> simp [c]
theorem RpT.app : ∀ {ws us : List (List Key × V)} {kvs lvs : List (PyData × PyData)}, RpT K H ws kvs → RpT K H us lvs → RpT K H (ws ++ us) (kvs ++ lvs)
  | _, _, _, _, .nil, s => s
  | _, _, _, _, .cons r t, s => .cons r (RpT.app t s)
theorem RpT.mapk {v : V} {d : PyData} (h : Rp K H v d) (k : List Key) : ∀ {ws : List (List Key × V)} {kvs : List (PyData × PyData)}, RpT K H ws kvs → RpT K H (ws.map fun kv => if kv.1 = k then (kv.1, v) else kv) (kvs.map fun p => if keyT p.1 = some k then (p.1, d) else p)
  | _, _, .nil => .nil
  | _, _, .cons (k := k0) (v := v0) r t => by
    rw [List.map_cons, List.map_cons]
    have ih := RpT.mapk h k t
    by_cases c : k0 = k
    · rw [if_pos (show (k0, v0).1 = k from c), if_pos (show keyT (.tuple (k0.map kD)) = some k by rw [keyT_D, c])]
      exact .cons h ih
    · rw [if_neg (show ¬ (k0, v0).1 = k from c), if_neg (show ¬ keyT (.tuple (k0.map kD)) = some k by rw [keyT_D]; exact fun z => c (Option.some.inj z))]
      exact .cons r ih
theorem RpT.put {ws : List (List Key × V)} {kvs : List (PyData × PyData)} {v : V} {d : PyData} (t : RpT K H ws kvs) (h : Rp K H v d) (k : List Key) : RpT K H (putK ws k v) (putT kvs k d) := by
  unfold putK putT
  rw [RpT.any k t]
  by_cases c : (kvs.any fun p => decide (keyT p.1 = some k)) = true
  · rw [if_pos c, if_pos c]
    exact RpT.mapk h k t
  · rw [if_neg c, if_neg c]
    exact t.app (.cons h .nil)
/-- a dict without a key that is a tuple of ints and texts: empty, or by keys of another kind; such a dict as one by tuples -/
theorem RpK.noT : ∀ {ws : List (Key × V)} {kvs : List (PyData × PyData)}, RpK K H ws kvs → ws ≠ [] → ∀ k, keyT (kvs.head?.map Prod.fst |>.getD .none) ≠ some k
  | _, _, .nil, h => absurd rfl h
  | _, _, .cons (k := k0) r t, _ => fun k => by cases k0 <;> exact fun z => nomatch z
end
/-- no key of another kind -/
def tupD (kvs : List (PyData × PyData)) : Bool := kvs.all fun p => (keyT p.1).isSome
theorem unl1 {n : Nat} (h : n + 64 < cLine) : n + 1 < cLine := by omega
theorem unl0 {n : Nat} (h : n + 64 < cLine) : n < cLine := by omega
end Hb
namespace Hb
open PySem PySem.Spec PyProof.Rows L2
end Hb
namespace Hb
open PySem PySem.Spec PyProof.Rows L2
open PySem.W (AlikeAll)
end Hb
namespace Hb
open PySem PySem.Spec PyProof.Rows L2
def getT (x y z : AV) (δ : List Sl) : Rs AV := match dicA δ x, (rdC δ y).bind keyT, z with
  | some kvs, some k, .val e => if tupD kvs = true then .ok (.val ((lookKT kvs k).getD e)) δ else .bad
  | _, _, _ => .bad
end Hb
namespace Hb
open PySem PySem.Spec PyProof.Rows L2
end Hb
namespace Hb
open PySem PySem.Spec PyProof.Rows L2
end Hb
namespace Hb
open PySem PySem.Spec PyProof.Rows L2
end Hb
namespace Hb
open PySem PySem.Spec PyProof.Rows L2
end Hb
namespace Hb
open PySem PySem.Spec PyProof.Rows L2
end Hb
namespace Hb
open PySem PySem.Spec PyProof.Rows L2
end Hb
namespace Hb
open PySem PySem.Spec PyProof.Rows L2
end Hb
namespace Hb
open PySem PySem.Spec PyProof.Rows L2
def lfV : Leaf → V
  | .none => .non
  | .num i => .int i
  | .text x => .str x
/-- the entries of a dict by tuples with leaves -/
abbrev LX := List (List Leaf × Addr × Value)
def LK (H : Hp) (xs : LX) : Prop := ∀ x ∈ xs, H x.2.1 = some (.tup (x.1.map lfV))
def lfO (P : Program) (w : World) (a : Addr) (xs : LX) : HO := .ext fun h => ∃ o es ep, h.get? a = some o ∧ o.ExactDict ∧ o.data = .dict es ep ∧ es.toList = xs.map (entryOfKey (tupleKind (leafKind P w))) ∧ (xs.map (·.1)).Nodup
section
variable {X : Cx} {pins : List (Addr × Obj)} {σ : L2.St} {H : Hp} {s : Shared} {a : Addr}
/-- d[k] with none in k -/
def rGetL (P : Program) (w : World) : R2 := fun o i H Q => ∃ (a b : Addr) (ls : List Leaf) (xs : LX) (v : V) (u : Value), o = .ref a ∧ i = .ref b ∧ H b = some (.tup (ls.map lfV)) ∧ H a = some (lfO P w a xs) ∧ LK H xs ∧ atKey xs ls = some (b, u) ∧ RelV v u ∧ Q v H
end
end Hb
namespace Hb
open PySem PySem.Spec PyProof.Rows L2
section
variable {X : Cx} {W : WX} {pin : List Nat} {pos : Pos}
def tNm (i : Nat) : TE := fun σ H Q => ∃ v, σ[i]? = some (some v) ∧ Q v H
/-- what stands behind the if -/
def TRetL (X : Cx) (i j : Nat) : TS := tRet fun σ H Q => tNm i σ H fun x H1 => tNm j σ H1 fun y H2 => rGetL X.prog X.w x y H2 Q
def TB (X : Cx) (W : WX) (pin : List Nat) (i j : Nat) (f : List Sl → Ot) : TS := fun D' σ H => ∃ D : Ends, D' = { D with nx := TRetL X i j D } ∧ rdS X.K X.mg W pin f D σ H
end
end Hb
namespace Hb
open PySem PySem.Spec PyProof.Rows L2
end Hb
namespace Hb
open PySem PySem.Spec PyProof.Rows L2
section
variable {X : Cx} {W : WX} {pin : List Nat} {es ns : List Expr} {g : List Sl → Rs (List Ar)} {pos : Pos}
theorem ArH.new {K : PySem.W.Frag} {Fz H : Hp} {σ : L2.St} {g : List Addr} {v : V} {a : Ar} {p : Addr} {o : HO} (h : ArH K Fz H σ g v a) (io : ∀ k, a ≠ .io k) (hp : p ∉ g) : ArH K Fz (upd H p o) σ g v a := by
  cases a with
  | fz d => exact h
  | own s =>
    refine ⟨h.1, h.2.keeps (Same.refl _) (fun c hc => upd_ne fun e => hp (e ▸ hc)) fun x j _ c e => by simp at e⟩
  | io k => exact absurd rfl (io k)
end
end Hb
namespace Hb
open PySem PySem.Spec PyProof.Rows L2
open PySem.W (AlikeAll)
end Hb
namespace Hb
open PySem PySem.Spec PyProof.Rows L2
end Hb
namespace Hb
open PySem PySem.Spec PyProof.Rows L2
end Hb
namespace Hb
open PySem PySem.Spec PyProof.Rows L2
theorem RpK.isSome {K : PySem.W.Frag} {H : Hp} {ws : List (Key × V)} {kvs : List (PyData × PyData)} (k : Key) (t : RpK K H ws kvs) : (valV ws k).isSome = (lookK kvs k).isSome := by
  cases q : lookK kvs k with
  | none => rw [t.none q]; rfl
  | some d =>
    obtain ⟨v, e, _⟩ := t.look q
    rw [e]
    rfl
end Hb
namespace Hb
open PySem PySem.Spec PyProof.Rows L2
end Hb
namespace Hb
open PySem PySem.Spec PyProof.Rows L2
end Hb
namespace Hb
open PySem PySem.Spec PyProof.Rows L2
end Hb
namespace Hb
open PySem PySem.Spec PyProof.Rows L2
end Hb
namespace Hb
open PySem PySem.Spec PyProof.Rows L2
end Hb
namespace Hb
open PySem PySem.Spec PyProof.Rows L2
end Hb
namespace Hb
open PySem L2 PySem.F
end Hb
namespace Hb
open PySem PySem.Spec PyProof.Rows L2
end Hb
namespace Hb
open PySem L2 PySem.F
end Hb
namespace Hb
open PySem PySem.Spec PyProof.Rows L2
end Hb
namespace Hb
open PySem PySem.Spec PyProof.Rows L2
structure DfnT (P : Program) (w : World) (K : PySem.W.Frag) (mg : Str → Option Value) (base : Heap) (k : Nat) (x : Str) (n : Nat) (F : List Sl → FR) (m : Nat) (dd : List PyData) : Prop where
  ex : ∃ (f : Addr) (fd : FuncData) (ps : List Str) (ds : List Value), mg x = some (.ref f) ∧ PySem.W.keepIn K (.ref f) = true ∧ FnG P w K mg base k f fd ps (spT K mg n F) ∧ Binds K fd ps ds ∧ Vals (dd.map dV) ds ∧ m + dd.length = n ∧ dd.all flatD = true
theorem DfnT.mono {P : Program} {w : World} {K : PySem.W.Frag} {mg : Str → Option Value} {base : Heap} {k j : Nat} {x : Str} {n : Nat} {F : List Sl → FR} {m : Nat} {dd : List PyData} (D : DfnT P w K mg base k x n F m dd) (h : k ≤ j) : DfnT P w K mg base j x n F m dd := by
  obtain ⟨f, fd, ps, ds, h1, h2, h3, h4⟩ := D.ex
  exact ⟨f, fd, ps, ds, h1, h2, h3.mono h, h4⟩
end Hb
namespace Hb
open PySem PySem.Spec PyProof.Rows L2
/-- an exception of the class D stands at a since the def was entered, and nobody follows it -/
structure ExAt (X : Cx) (D a : Addr) : Prop where
  C : L2.ExcC X.K D
  ob : ∃ (oe : Obj) (vs : Array Value), X.s_0.heap.get? a = some oe ∧ Zc (.ref D) none oe ∧ oe.data = .fields vs
  h0 : X.H_0 a = none
  nf : a ∉ X.fs
  ex : X.ex = []
section
variable {X : Cx} {D a : Addr} {i j : Nat}
theorem ExAt.inst (E : ExAt X D a) {pins : List (Addr × Obj)} {σ : L2.St} {H : Hp} {s : Shared} (I : Inv X pins σ H s) : ∃ oe, PySem.W.InstAt s.heap a oe D none := by
  obtain ⟨oe, vs, h1, h2, h3⟩ := E.ob
  have hget : s.heap.get? a = some oe := I.base.keep a oe h1 E.h0 E.nf (by rw [E.ex]; simp)
  refine ⟨oe, ?_⟩
  obtain ⟨oc, od, oda, osl⟩ := oe
  obtain ⟨z1, z2⟩ := h2
  dsimp only at z1 z2 h3
  subst z1 z2 h3
  exact ⟨hget, rfl, rfl, trivial⟩
variable {x y z : Str} {p p1 p2 p3 p4 pos pos2 : Pos} {b b2 : Bool}
/-- all but the list at l is as it was -/
def SameX (l : Addr) (H H' : Hp) : Prop := ∀ c o, c ≠ l → H c = some o → H' c = some o
theorem SameX.trans {l : Addr} {H H1 H2 : Hp} (h : SameX l H H1) (h2 : SameX l H1 H2) : SameX l H H2 := fun c o n e => h2 c o n (h c o n e)
theorem SameX.of {l : Addr} {H H' : Hp} (h : Same H H') : SameX l H H' := fun c o _ e => h c o e
end
end Hb
namespace Hb
open PySem PySem.Spec PyProof.Rows L2
open Evl (Ex)
section
open PySem.W PySem.Calls
variable {prog : Program} {w : World} {A : Around} {E : Value → Shared → Prop} {s : Shared} {K : Frag} {x D : Addr} {ox : Obj} {od : Option Obj}
theorem find_cls (C : L2.ExcC K D) : findObj K D od "__class__" = some (.bind (.builtin "getset_descriptor.__get__") (.builtin "object.__class__")) := by
  obtain ⟨cd, hc, _⟩ := any_some C.hd
  unfold findObj
  rw [hc, Option.bind_some, C.ha, Option.bind_some]
  simp [C.hn, C.ht]
theorem class_exc {Q : Option Value → Shared → Prop} (C : L2.ExcC K D) (X : K.In s.heap) (I : InstAt s.heap x ox D od) (h : Q (some (.ref D)) { s with toks := s.toks + 1 }) : wpAny (model prog w) A (getAttr? (.ref x) "__class__") Q E s := by
  obtain ⟨hp, g, d, t, os⟩ := s
  have f0 := I.type (M := model prog w)
  have f1 := looks_findIn (M := model prog w) X C.hg
  have f2 := looks_findIn (M := model prog w) X C.hk
  have f3 := looks_find (M := model prog w) X I (find_cls C (od := od))
  have sub : Looks (model prog w) hp (isInstance (.ref x) (.type "BaseException")) true := f0.andThen (looks_subIn X C.hs)
  have ne : (Value.builtin "BaseException.__getattribute__" == Value.builtin "object.__getattribute__") = false := by decide +kernel
  have on : onTheHeap (Value.ref D) = true := rfl
  have look : wpAny (model prog w) A (call (.builtin "BaseException.__getattribute__") [.ref x, .str "__class__" t]) (fun v s' => v = .ref D ∧ Q (some v) s') (fun _ _ => False) ⟨hp, g, d, t + 1, os⟩ := by
    refine wpAny_call (codeAny_call_builtin PySem.F.excAttr_ValueError.ga.plain PySem.F.entry_bexc_ga (@check_slot (model prog w) _ _ ⟨hp, g, d, t + 1, os⟩ "BaseException.__getattribute__" "BaseException" "__getattribute__" (.ref x) [.str "__class__" t] [] _ (by decide +kernel) (by decide +kernel) sub (PySem.F.args_bexc_ga (.ref x) (.str "__class__" t)) ?_))
    unfold Builtin.«object.__getattribute__»
    refine wpAny_bind (wpAny_of_eq (a := ((Value.ref x : Value), [Value.str "__class__" t])) (by first | rfl | (simp only [slotArgs]; rfl)) (wpAny_bind (wpAny_pure (wpAny_bind (f0.at (wpAny_bind (f3.at ?_)))))))
    show wpAny _ _ (holding [Value.builtin "object.__class__"] (call (.builtin "getset_descriptor.__get__") [.builtin "object.__class__", .ref x, .ref D]) >>= ret) _ _ _
    refine wpAny_bind (wpAny_holding (wpAny_call (class_get (s := ⟨hp, g, d, t + 1, os⟩) (ox := ox) (od := od) X I C.hm ?_)))
    exact wpAny_pure ⟨rfl, h⟩
  unfold getAttr? getAttrBy? getAttrBy
  refine wpAny_bind (wpAny_mkText (wpAny_bind (wpAny_attempt (wpAny_holding (wpAny_bind (f0.at (wpAny_bind (f1.at ?_))))))))
  simp only [ne, on, Bool.and_false, Bool.false_eq_true, if_false]
  unfold getAttrByItsOwn hookBefore
  rw [if_pos on]
  refine wpAny_bind (f2.at (wpAny_bind (wpAny_attempt (wpAny_holding ?_))))
  unfold callGetattribute
  simp only [Bool.false_and, Bool.false_eq_true, if_false]
  unfold boundAndCalled
  rw [PySem.F.excAttr_ValueError.ga.bind (.ref x)]
  refine wpAny_bind (wpAny_pure (wpAny_mono look (fun v s' ⟨e, q⟩ => ?_) fun _ _ q => q.elim))
  subst e
  show wpAny _ _ (handedOut (.ref D)) _ _ _
  rw [handedOut_of (v := .ref D) rfl]
  exact wpAny_pure (wpAny_pure q)
theorem kitx_exc (C : L2.ExcC K D) : KitX K (.ref x) (.ref D) (fun h => InstAt h x ox D od) where
  ty := fun _ _ _ I => I.type
  it := fun M h X _ => by
    obtain ⟨cd, hc, _⟩ := any_some C.hd
    cases q : K.lookup D with
    | none => simp [clsIn, q] at hc
    | some o =>
      intro A' Q' E' s' k z
      unfold isType loadHead
      refine wpAny_bind (wpAny_loadPart (k _ _ (X _ _ q)) (wpAny_pure ?_))
      obtain ⟨c', d', dt, sl⟩ := o
      cases dt <;> first | exact z | (simp [clsIn, q] at hc)
  ne := (handS_kitx_exc C.hg C.hk C.hs C.hd C.ha C.hn C.ht C.hm (x := x) (ox := ox)).ne
  ca := fun X I k => class_exc C X I k
end
/-- at a stands an exception of the class C, held as a value; v: its field "number", where it has one -/
def Ev1 (H : Hp) (C a : Addr) : Option V → Prop
  | none => H a = some (ExO (.ref C) a)
  | some v => ∃ d, H a = some (L2.exo a C (some d)) ∧ H d = some (L2.exd d [("number", v)])
theorem Ev1.keep {H H' : Hp} {C a : Addr} {v : Option V} (h : Ev1 H C a v) (e : Ex H H') : Ev1 H' C a v := by
  cases v with
  | none => exact e _ _ h
  | some v =>
    obtain ⟨d, h1, h2⟩ := h
    exact ⟨d, e _ _ h1, e _ _ h2⟩
section
variable {X : Cx} {C a : Addr} {v : Option V}
theorem Ev1.inst {pins : List (Addr × Obj)} {σ : L2.St} {H : Hp} {s : Shared} (h : Ev1 H C a v) (I : Inv X pins σ H s) : ∃ oe od, PySem.W.InstAt s.heap a oe C od := by
  cases v with
  | none =>
    obtain ⟨⟨oe, vs, ho, hz, hd, _⟩, _, _⟩ := I.hok a _ h
    refine ⟨oe, none, ?_⟩
    obtain ⟨oc, od, oda, osl⟩ := oe
    obtain ⟨z1, z2⟩ := hz
    dsimp only at z1 z2 hd
    subst z1 z2 hd
    exact ⟨ho, rfl, rfl, trivial⟩
  | some v =>
    obtain ⟨d, h1, h2⟩ := h
    obtain ⟨t1, ho⟩ := L2.exo_at I.hok h1
    obtain ⟨mA, hns, _⟩ := L2.exd_at I.hok h2
    obtain ⟨od, hod, _⟩ := lookIn_ns hns
    exact ⟨_, some od, ho, rfl, rfl, hod⟩
def rIsO (K : PySem.W.Frag) : List V → Hp → VK → Prop := fun xs H Q => ∃ (C a : Addr) (v : Option V) (c : V) (cv : Value) (b : Bool), xs = [.ref a, c] ∧ Ev1 H C a v ∧ L2.ExcC K C ∧ ClsV c cv ∧ PySem.W.kitOne K (.ref C) cv = some b ∧ Q (.bl b) H
theorem call_isO : CallR X (.builtin "isinstance") (rIsO X.K) := by
  intro pins s σ H xs us Q I r h
  obtain ⟨C, a, v, c, cv, b, rfl, hv, hC, hcv, e, q⟩ := h
  obtain ⟨u1, u2, rfl, r1, r2⟩ := vals2 r
  cases (show u1 = Value.ref a from r1)
  have ec := hcv.eq r2
  subst ec
  obtain ⟨oe, od, J⟩ := hv.inst I
  exact PySem.W.kia_one (kitx_exc hC) I.kIn J e (fun z => nomatch z) fun tk => ⟨.bl b, H, I.tok tk, rfl, q⟩
end
end Hb
namespace Hb
open PySem PySem.Spec PyProof.Rows L2
open Evl (Ex)
/-- what is known of a value, and stays known while nothing that is followed changes -/
structure Pr where
  p : V → Hp → Prop
  keep : ∀ {v H H'}, Ex H H' → p v H → p v H'
def Prs (ps : List Pr) (vs : List V) (H : Hp) : Prop := Paired (fun (q : Pr) v => q.p v H) ps vs
theorem Prs.keep {ps : List Pr} {vs : List V} {H H' : Hp} (h : Prs ps vs H) (e : Ex H H') : Prs ps vs H' := Paired.mapP h fun q _ z => q.keep e z
theorem Prs.app {ps qs : List Pr} {vs ws : List V} {H : Hp} (h : Prs ps vs H) (g : Prs qs ws H) : Prs (ps ++ qs) (vs ++ ws) H := by
  induction h with
  | nil => exact g
  | cons a _ ih => exact .cons a ih
theorem Prs.len {ps : List Pr} {vs : List V} {H : Hp} (h : Prs ps vs H) : ps.length = vs.length := Paired.length h
/-- an expression gives such a value; expressions give such values -/
def ElP (te : TE) (σ : L2.St) (H : Hp) (q : Pr) : Prop := ∀ H1, Ex H H1 → ∀ Q : VK, (∀ v H2, Ex H1 H2 → q.p v H2 → Q v H2) → te σ H1 Q
def EvP (ta : TA) (σ : L2.St) (H : Hp) (ps : List Pr) : Prop := ∀ H1, Ex H H1 → ∀ Q : List V → Hp → Prop, (∀ vs H2, Ex H1 H2 → Prs ps vs H2 → Q vs H2) → ta σ H1 Q
theorem evp_nil {σ : L2.St} {H : Hp} : EvP tNil σ H [] := fun H1 _ Q q => q [] H1 (Ex.refl H1) .nil
theorem evp_cons {te : TE} {ta : TA} {σ : L2.St} {H : Hp} {q : Pr} {ps : List Pr} (h : ElP te σ H q) (hr : EvP ta σ H ps) : EvP (tCons te ta) σ H (q :: ps) := fun H1 e Q k =>
  h H1 e _ fun v H2 e2 hv => hr H2 (e.trans e2) _ fun vs H3 e3 hs => k (v :: vs) H3 (e2.trans e3) (.cons (q.keep e3 hv) hs)
/-- a new list of them -/
theorem evp_lst {ta : TA} {σ : L2.St} {H : Hp} {ps : List Pr} (h : EvP ta σ H ps) (hl : ps.length ≤ 1000) : ∀ H1, Ex H H1 → ∀ Q : VK, (∀ p vs H2, H1 p = none → Ex H1 H2 → H2 p = some (.lst vs) → Prs ps vs H2 → Q (.ref p) H2) → tLst ta σ H1 Q := fun H1 e Q k =>
  h H1 e _ fun vs H2 e2 hs => ⟨by rw [← hs.len, sizeLine_eq]; omega, fun p hp => k p vs _ (Evl.fresh_back e2 hp) (e2.trans (Ex.new hp)) upd_same (hs.keep (Ex.new hp))⟩
/-- one longer -/
theorem evp_cat {j : Nat} {ta : TA} {σ : L2.St} {H : Hp} {ps qs : List Pr} {l : Addr} {vs : List V} (hj : σ[j]? = some (some (.ref l))) (hv : H l = some (.lst vs)) (hp : Prs ps vs H) (h : EvP ta σ H qs) (hl : ps.length + qs.length ≤ 1000) :
    ∀ Q : VK, (∀ p ws H2, H p = none → Ex H H2 → H2 p = some (.lst ws) → Prs (ps ++ qs) ws H2 → Q (.ref p) H2) → tOp rCat (tVar j) (tLst ta) σ H Q := fun Q k =>
  ⟨.ref l, hj, evp_lst h (by omega) H (Ex.refl H) _ fun p us H2 np e2 hu hs => ⟨l, p, vs, us, rfl, rfl, e2 _ _ hv, hu, by rw [← hp.len, ← hs.len, sizeLine_eq]; omega, fun q hq => k q (vs ++ us) _ (Evl.fresh_back e2 hq) (e2.trans (Ex.new hq)) upd_same (((hp.keep e2).app hs).keep (Ex.new hq))⟩⟩
/-- one part of the list: what is read, what is known of it -/
abbrev Chk : Type := TA × List Pr
section
variable {X : Cx} {j : Nat} {I : L2.St → Prop} {H0 : Hp}
/-- the end of such a body -/
def tEndC (j : Nat) (I : L2.St → Prop) (H0 : Hp) (cs : List Chk) : TS := fun D σ H => I σ ∧ Ex H0 H ∧ ∃ l vs ps, σ[j]? = some (some (.ref l)) ∧ H l = some (.lst vs) ∧ Prs ps vs H ∧ ps.length + (cs.flatMap (·.2)).length ≤ 1000 ∧
  ∀ p ws H2, H0 p = none → Ex H0 H2 → H2 p = some (.lst ws) → Prs (ps ++ cs.flatMap (·.2)) ws H2 → D.rt (.ref p) H2
theorem pss_chunks (hI : ∀ σ v, I σ → I (σ.set j (some v))) (hj : ∀ σ, I σ → j < σ.length) : ∀ (mid : List (Stmt × Chk)) (last : Stmt) (lc : Chk), (∀ m ∈ mid, PS X m.1 (tAsg (tOp rCat (tVar j) (tLst m.2.1)) (gName j)) ∧ ∀ σ H, I σ → Ex H0 H → EvP m.2.1 σ H m.2.2) →
    PS X last (tRet (tOp rCat (tVar j) (tLst lc.1))) → (∀ σ H, I σ → Ex H0 H → EvP lc.1 σ H lc.2) → PSs X (mid.map (·.1) ++ [last]) (tEndC j I H0 (mid.map (·.2) ++ [lc]))
  | [], last, lc, _, hl, el => pss_mono (pss_one hl) fun D σ H ⟨hi, e, l, vs, ps, h1, h2, h3, h4, k⟩ => by
    simp only [List.map_nil, List.nil_append, List.flatMap_cons, List.flatMap_nil, List.append_nil] at h4 k
    exact evp_cat h1 h2 h3 (el σ H hi e) h4 D.rt fun p ws H2 np e2 hw hs => k p ws H2 (Evl.fresh_back e np) (e.trans e2) hw hs
  | (st, ch) :: r, last, lc, hm, hl, el => by
    have h1 := hm _ List.mem_cons_self
    refine pss_mono (pss_cons h1.1 (pss_chunks hI hj r last lc (fun m h => hm m (List.mem_cons_of_mem _ h)) hl el)) fun D σ H ⟨hi, e, l, vs, ps, g1, g2, g3, g4, k⟩ => ?_
    simp only [List.map_cons, List.cons_append, List.flatMap_cons, List.length_append] at g4 k
    refine evp_cat g1 g2 g3 (h1.2 σ H hi e) (Nat.le_trans (Nat.add_le_add_left (Nat.le_add_right _ _) _) g4) _ fun p ws H2 np e2 hw hs => ?_
    refine ⟨hI σ _ hi, e.trans e2, p, ws, ps ++ ch.2, by rw [List.getElem?_set_self (hj σ hi)], hw, hs, by rw [List.length_append]; omega, fun q us H3 nq e3 hu hz => k q us H3 nq e3 hu (by rwa [← List.append_assoc])⟩
theorem pss_parts (hI : ∀ σ v, I σ → I (σ.set j (some v))) (hj : ∀ σ, I σ → j < σ.length) {first : Stmt} {fc : Chk} (hf : PS X first (tAsg (tLst fc.1) (gName j))) (ef : ∀ σ H, I σ → Ex H0 H → EvP fc.1 σ H fc.2) (mid : List (Stmt × Chk)) (last : Stmt) (lc : Chk)
    (hm : ∀ m ∈ mid, PS X m.1 (tAsg (tOp rCat (tVar j) (tLst m.2.1)) (gName j)) ∧ ∀ σ H, I σ → Ex H0 H → EvP m.2.1 σ H m.2.2) (hl : PS X last (tRet (tOp rCat (tVar j) (tLst lc.1)))) (el : ∀ σ H, I σ → Ex H0 H → EvP lc.1 σ H lc.2) :
    PSs X (first :: (mid.map (·.1) ++ [last])) (fun D σ H => I σ ∧ Ex H0 H ∧ fc.2.length + ((mid.map (·.2) ++ [lc]).flatMap (·.2)).length ≤ 1000 ∧
      ∀ p ws H2, H0 p = none → Ex H0 H2 → H2 p = some (.lst ws) → Prs (fc.2 ++ (mid.map (·.2) ++ [lc]).flatMap (·.2)) ws H2 → D.rt (.ref p) H2) :=
  pss_mono (pss_cons hf (pss_chunks hI hj mid last lc hm hl el)) fun D σ H ⟨hi, e, hz, k⟩ => by
    have z : tLst fc.1 σ H (fun v H1 => tEndC j I H0 (mid.map (·.2) ++ [lc]) D (σ.set j (some v)) H1) := evp_lst (ef σ H hi e) (by omega) H (Ex.refl H) _ fun p vs H2 np e2 hv hs => ⟨hI σ _ hi, e.trans e2, p, vs, fc.2, by rw [List.getElem?_set_self (hj σ hi)], hv, hs, hz, k⟩
    exact z
end
end Hb
namespace Hb
open PySem PySem.Spec PyProof.Rows L2
open Evl (Ex)
def prB (b : Bool) : Pr := ⟨fun v _ => v = .bl b, fun _ h => h⟩
def prE (C : Addr) (n : Option V) : Pr := ⟨fun v H => ∃ a, v = .ref a ∧ Ev1 H C a n, fun e ⟨a, h1, h2⟩ => ⟨a, h1, h2.keep e⟩⟩
section
variable {X : Cx} {x y : Str} {i : Nat} {p p1 p2 pos : Pos} {σ : L2.St} {H : Hp}
/-- isinstance(x, C) of an own class C, of a class of the library -/
theorem pe_isO (hx : X.N[i]? = some x) (vx : Vis X.env.scope x) (hg : Gl X "isinstance") (hm : X.mg "isinstance" = none) {C : Addr} (hgy : Gl X y) (hy : X.mg y = some (.ref C))
    (dy : (y == ("__debug__" : Str)) = false := by decide) (dx : (x == ("__debug__" : Str)) = false := by decide) (cx : (x == ("__classdict__" : Str)) = false := by decide)
    (he : starEach [.Name x p1, .Name y p2] X.env = (false, eval (.Name x p1) X.env) :: starEach [.Name y p2] X.env := by rfl) :
    PE X (.Call (.Name "isinstance" p) [.Name x p1, .Name y p2] [] pos) (tCB (rIsO X.K) (tCons (tVar i) (tCons (tC (.ref C)) tNil))) :=
  pe_callB call_isO hg hm PyProof.Rows.boot_isinstance (pa_cons (pe_var hx vx dx cx) (pa_cons (pe_glob hgy hy (v := .ref C) rfl dy) pa_nil) he) (by decide) (by decide) he
theorem pe_isOB (hx : X.N[i]? = some x) (vx : Vis X.env.scope x) (hg : Gl X "isinstance") (hm : X.mg "isinstance" = none) {T : String} (hgy : Gl X y) (hy : X.mg y = none) (hb : bootBuiltins y = some (.type T))
    (hn : y ≠ "__name__" := by decide) (dy : (y == ("__debug__" : Str)) = false := by decide) (dx : (x == ("__debug__" : Str)) = false := by decide) (cx : (x == ("__classdict__" : Str)) = false := by decide)
    (he : starEach [.Name x p1, .Name y p2] X.env = (false, eval (.Name x p1) X.env) :: starEach [.Name y p2] X.env := by rfl) :
    PE X (.Call (.Name "isinstance" p) [.Name x p1, .Name y p2] [] pos) (tCB (rIsO X.K) (tCons (tVar i) (tCons (tC (.ty T)) tNil))) :=
  pe_callB call_isO hg hm PyProof.Rows.boot_isinstance (pa_cons (pe_var hx vx dx cx) (pa_cons (pe_bltn (v := .ty T) hgy hy hb rfl hn dy) pa_nil) he) (by decide) (by decide) he
theorem ev_isO {K : PySem.W.Frag} {D a : Addr} {n : Option V} {c : V} {cv : Value} {b : Bool} (hi : σ[i]? = some (some (.ref a))) (hv : Ev1 H D a n) (hD : L2.ExcC K D) (hc : ClsV c cv) (hk : PySem.W.kitOne K (.ref D) cv = some b) :
    Evl.Ev (tCB (rIsO K) (tCons (tVar i) (tCons (tC c) tNil))) σ H (.bl b) := fun H1 e Q q => ⟨.ref a, hi, D, a, n, c, cv, b, rfl, hv.keep e, hD, hc, hk, q H1 (Ex.refl H1)⟩
theorem elp_ev {te : TE} {b : Bool} (h : Evl.Ev te σ H (.bl b)) : ElP te σ H (prB b) := fun H1 e Q q => h H1 e Q fun H2 e2 => q _ H2 e2 rfl
/-- C(x), a new exception of a class without own __init__ -/
theorem elp_exc {C : Addr} {v : V} (hi : σ[i]? = some (some v)) : ElP (fun σ H Q => tVar i σ H fun _ H1 => ∀ a, H1 a = none → Q (.ref a) (upd H1 a (ExO (.ref C) a))) σ H (prE C none) := fun H1 e Q q => ⟨v, hi, fun a ha => q (.ref a) _ (Ex.new ha) ⟨a, rfl, upd_same⟩⟩
/-- C(e, ..), C's own __init__ keeping sp: the new exception -/
def tOexV (C : Addr) (sp : Sp) (ta : TA) : TE := fun σ H Q => ta σ H fun vs H1 => vs.length ≤ 1000 ∧ ∀ a, H1 a = none → sp (.ref a :: vs) (upd H1 a (L2.exo a C none)) (fun v H2 => v = .non ∧ Q (.ref a) H2) (fun _ _ _ => False)
theorem pe_oexV {CX : CXT} {C fI : Addr} {k : Nat} {fd : FuncData} {ps : List Str} {sp : Sp} {e : Expr} {es : List Expr} {ta : TA} (T : L2.OexC X.K C) (iC : PySem.W.findIn X.K (.ref C) "__init__" = some (some (.ref fI))) (tI : PySem.W.typeIn X.K (.ref fI) = some (.type "function"))
    (F1 : FnOk X.prog X.w X.K X.mg X.base CX k fI fd ps sp) (hr : Room (k + 1) X.A) (hb : Binds X.K fd ps []) (hx : Passes CX X (fun _ _ _ => False)) (hg : Gl X x) (hm : X.mg x = some (.ref C)) (ha : PA X (e :: es) ta)
    (hdb : (x == ("__debug__" : Str)) = false := by decide) (he : starEach (e :: es) X.env = (false, eval e X.env) :: starEach es X.env := by rfl) (hpl : (backTo pos (starEach es X.env)).any (·.1) = false := by rfl) :
    PE X (.Call (.Name x p) (e :: es) [] pos) (tOexV C sp ta) := by
  refine ⟨fun pins s σ H Q I h => wpAny_Call_Name_kw (ld_glob I hg hm ?_ hdb)⟩
  obtain ⟨nm, q, N, bs, bm, sn, sub, ab, col, dd, k0, k1, k2, k3, k5, hC, hbm⟩ := T.cls
  refine PySem.W.callWith_K (h₀ := X.base) I.ok.mod.kin T.kC (thn (ha.run pos pins s σ H _ I h) fun us s1 ⟨vs, H1, I1, r1, hz, q1⟩ => ⟨I1.kIn, ?_⟩) he hpl
  obtain ⟨hp, g, dr, tk, os⟩ := s1
  have fresh : H1 (hp.objs.size + 1) = none := I1.hok.fresh (Nat.le_succ _)
  have hq := q1 _ fresh
  have I2 : Inv X pins σ (upd H1 (hp.objs.size + 1) (L2.exo (hp.objs.size + 1) C none)) ⟨(hp.push (PySem.W.kdv_tup us)).push (PySem.HandSPX.excO C hp.objs.size), g, dr, tk, os⟩ :=
    I1.laid (t' := tk) (fun b o e => Heap.get?_push_of_some _ (Heap.get?_push_of_some _ e)) (Nat.le_succ _) (L2.exo_ok (by heap_get))
  have r2 : Vals (V.ref (hp.objs.size + 1) :: vs) (Value.ref (hp.objs.size + 1) :: us) := .cons rfl r1
  have hl : (Value.ref (hp.objs.size + 1) :: us).length = ps.length := by
    have e := r2.length
    rw [F1.len _ _ _ _ hq] at e
    exact e.symm
  have hus : us.length ≤ sizeLine := by
    rw [← Paired.length r1, sizeLine_eq]
    omega
  show wpAny _ _ (call (.ref C) us) _ _ _
  have hbb := hb _ (Value.ref (hp.objs.size + 1) :: us) I2.kIn (by simpa using hl)
  rw [List.append_nil] at hbb
  refine wpAny_call (PySem.HandSPX.call_own F.excBase_ValueError (fun Y => PySem.HandSPX.refsVE_contains Y bm hbm) (I1.kIn _ _ hC) (PySem.W.looks_findIn I1.kIn iC) (fun self => PySem.W.bind_fn I1.kIn self tI) hus
    (codeAny_mono (F1.run _ X.stack _ _ ⟨Value.ref (hp.objs.size + 1) :: us, []⟩ (Value.ref (hp.objs.size + 1) :: us) _ _ (fun _ _ _ => False) (hr.make C us []) (I2.env0.make C us []) hbb r2 hq) fun r s' hq' => ?_))
  cases r with
  | error er => exact hx pins σ _ _ er s' I2 hq'
  | ok fl =>
    cases fl with
    | ret u =>
      obtain ⟨v, H2, os2, bare2, un2, hok2, rv, ev, q2⟩ := hq'
      subst ev
      exact ⟨rv, ⟨.ref (hp.objs.size + 1), H2, I2.call' (ch := []) os2 un2 hok2 bare2 (fun b z => absurd z (by simp)), rfl, q2⟩⟩
    | next => exact False.elim hq'
    | brk => exact False.elim hq'
    | cont => exact False.elim hq'
end
end Hb
namespace Hb
open PySem PySem.Spec PyProof.Rows L2
open Evl (Ex)
/-- what the base class says -/
structure BiC (K : PySem.W.Frag) (CB : Addr) : Prop where
  hg : PySem.W.specialIn K (.ref CB) "__getattribute__" = some (some (.builtin "type.__getattribute__"))
  hr : PySem.W.readsIn K CB (.type "type") = true
  hf : PySem.W.findCls K (.ref CB) (.type "type") "__init__" = some (.val (.builtin "ValueError.__init__"))
section
variable {X : Cx} {B : Str} {CB : Addr} {p1 p2 pos : Pos} {e : Expr} {es : List Expr} {ta : TA}
theorem pe_binit {pl : Sem Bool} (T : BiC X.K CB) (hg : Gl X B) (hm : X.mg B = some (.ref CB)) (ha : PA X (e :: es) ta) (hdb : (B == ("__debug__" : Str)) = false := by decide)
    (hc : eval (.Call (.Attribute (.Name B p1) "__init__" p2) (e :: es) [] pos) X.env = (do
      let ov ← eval (.Name B p1) X.env
      standAt p2.atName
      let (f, first) ← holding [ov] (getMethod ov "__init__" pl)
      callWith pos f first (backTo pos (starEach (e :: es) X.env)) (backToKw pos (keywordEach [] X.env))) := by rfl)
    (he : starEach (e :: es) X.env = (false, eval e X.env) :: starEach es X.env := by rfl) (hpl : (backTo pos (starEach es X.env)).any (·.1) = false := by rfl) :
    PE X (.Call (.Attribute (.Name B p1) "__init__" p2) (e :: es) [] pos) (tVeI X.K ta) := by
  refine ⟨fun pins s σ H Q I h => PySem.W.methodCall_KW (ld_glob I hg hm ?_ hdb) hc⟩
  refine PySem.W.method_cls I.kIn T.hg (PySem.W.cls_value I.kIn T.hr T.hf (by decide +kernel) ?_)
  show wpAny _ _ (callWith pos (Value.builtin "ValueError.__init__") [] (backTo pos (starEach (e :: es) X.env)) []) _ _ _
  refine PyProof.Rows.callWith_method1 (thn (ha.run pos pins _ σ H _ (I.tok _) h) fun us s1 ⟨vs, H1, I1, r1, a, C, ws, ev, hl, hT, ea, q⟩ => ?_) he hpl
  subst ev
  cases r1 with
  | @cons _ u0 _ ur ra rw' =>
    obtain rfl : u0 = Value.ref a := ra
    exact oinit_ok hT I1 ea (by rw [← Paired.length rw', sizeLine_eq]; omega) fun s' J => ⟨.non, H1, J, rfl, q⟩
end
/-- def __init__(self, number): B.__init__(self, text); self.number = number -/
def spInit (C : Addr) : Sp := fun vs H Q _ => ∃ a v, vs = [.ref a, v] ∧ H a = some (L2.exo a C none) ∧ ∀ d H2, H d = none → H2 = upd (upd H d (L2.exd d [("number", v)])) a (L2.exo a C (some d)) → d ≠ a → Q .non H2
def InitOk (X : Cx) (C : Addr) (b : List Stmt) : Prop := ∃ t, PSs X b t ∧
  ∀ (a : Addr) (v : V) (H : Hp) (Q : VK), H a = some (L2.exo a C none) → (∀ d H2, H d = none → H2 = upd (upd H d (L2.exd d [("number", v)])) a (L2.exo a C (some d)) → d ≠ a → Q .non H2) → t { nx := fun _ H' => Q .non H', rt := Q } [some (.ref a), some v] H
section
variable {X : Cx} {B : Str} {CB C : Addr} {xs xn : Str} {w : Str} {q : Nat} {p1 p2 p3 p4 p5 p6 p7 p8 p9 p10 : Pos}
theorem init_body (T : BiC X.K CB) (O : L2.OexC X.K C) (hN : X.N = [xs, xn]) (nd : xs ≠ xn) (vs : Vis X.env.scope xs) (vn : Vis X.env.scope xn) (hno : PySem.W.findIn X.K (.ref C) "number" = some none) (hg : Gl X B) (hm : X.mg B = some (.ref CB)) (hdb : (B == ("__debug__" : Str)) = false)
    (d1 : (xs == ("__debug__" : Str)) = false) (c1 : (xs == ("__classdict__" : Str)) = false) (d2 : (xn == ("__debug__" : Str)) = false) (c2 : (xn == ("__classdict__" : Str)) = false)
    (pl : Sem Bool) (hc : eval (.Call (.Attribute (.Name B p1) "__init__" p2) [.Name xs p3, .Constant (.str w) q p4] [] p5) X.env = (do
      let ov ← eval (.Name B p1) X.env
      standAt p2.atName
      let (f, first) ← holding [ov] (getMethod ov "__init__" pl)
      callWith p5 f first (backTo p5 (starEach [.Name xs p3, .Constant (.str w) q p4] X.env)) (backToKw p5 (keywordEach [] X.env))))
    (he : starEach [.Name xs p3, .Constant (.str w) q p4] X.env = (false, eval (.Name xs p3) X.env) :: starEach [.Constant (.str w) q p4] X.env) (he2 : starEach [.Constant (.str w) q p4] X.env = (false, eval (.Constant (.str w) q p4) X.env) :: starEach [] X.env) (hpl : (backTo p5 (starEach [.Constant (.str w) q p4] X.env)).any (·.1) = false)
    (hsw : swapsWith (.Call (.Attribute (.Name B p1) "__init__" p2) [.Name xs p3, .Constant (.str w) q p4] [] p5) none p6.line X.env = pure false) (hs2 : swapsWith (.Name xn p9) (some (.Attribute (.Name xs p7) "number" p8)) p10.line X.env = pure false) :
    InitOk X C [.Expr (.Call (.Attribute (.Name B p1) "__init__" p2) [.Name xs p3, .Constant (.str w) q p4] [] p5) p6, .Assign [.Attribute (.Name xs p7) "number" p8] (.Name xn p9) p10] := by
  have e0 : X.N[0]? = some xs := by rw [hN]; rfl
  have e1 : X.N[1]? = some xn := by rw [hN]; rfl
  refine ⟨_, pss_cons (ps_expr (pe_binit (pl := pl) T hg hm (pa_cons (pe_var e0 vs d1 c1) (pa_cons pe_str pa_nil he2) he) hdb hc he hpl) hsw) (pss_one (ps_ost (pe_var e0 vs d1 c1) (pe_var e1 vn d2 c2) hs2)), fun a v H Q ha k => ?_⟩
  refine ⟨.ref a, rfl, a, C, [.str w], rfl, by simp, O, ha, ?_⟩
  exact ⟨v, rfl, .ref a, rfl, a, C, rfl, O, hno, .inl ⟨ha, fun dx hx ne => k dx _ hx rfl ne⟩⟩
end
end Hb
namespace Hb
open PySem PySem.Spec PyProof.Rows L2
open Evl (Ex)
def tNum (K : PySem.W.Frag) (te : TE) : TE := fun σ H Q => te σ H fun x H1 => ∃ a C v, x = .ref a ∧ L2.XfC K C ∧ PySem.W.findIn K (.ref C) "number" = some none ∧ Ev1 H1 C a (some v) ∧ Q v H1
theorem pe_num {X : Cx} {e : Expr} {te : TE} {pos : Pos} (he : PE X e te) (hb : attributeBase e "number" X.env (eval e X.env) = eval e X.env := by rfl) : PE X (.Attribute e "number" pos) (tNum X.K te) := by
  refine ⟨fun pins s σ H Q I h => attr_of hb (thn (he.run pins s σ H _ I h) fun u s1 ⟨x, H1, I1, rx, a, C, v, ex, T, hno, ⟨d, h1, h2⟩, q⟩ => ?_)⟩
  subst ex
  obtain rfl : u = Value.ref a := rx
  obtain ⟨t1, ho⟩ := L2.exo_at I1.hok h1
  obtain ⟨mA, hns, hr⟩ := L2.exd_at I1.hok h2
  obtain ⟨od, hod, hl⟩ := lookIn_ns hns
  obtain ⟨u, hu, ru⟩ := RelO.some_of (v := v) (o := mA "number") (by have := hr "number"; exact this)
  have J : PySem.W.InstAt s1.heap a _ C (some od) := ⟨ho, rfl, rfl, hod⟩
  exact HandSPX.exc_get I1.kIn J T.ga T.gg T.exC (PySem.W.findObj_own T.hdC hno rfl (by rw [hl, hu])) (handed_of ru) ⟨v, H1, I1.tok _, ru, q⟩
end Hb
namespace Hb
open PySem PySem.Spec PyProof.Rows L2
open Evl (Ex)
def mNames : List Str := ["InvalidCount", "InvalidBallot", "InvalidBallots", "InvalidLine", "InvalidPlace", "InvalidVoters", "InvalidIndex", "InvalidPeople", "InvalidTable", "InvalidFixed", "InvalidTelling", "InvalidPairs", "InvalidLists", "InvalidCommand", "NoLine", "NoRow", "NotFalling", "NotFree", "NoBallot", "NotMatching", "EvenVoters", "NotTold", "NothingToUndo", "InvalidText"]
def aNames : List Str := ("BallotError" : Str) :: mNames
def isl (x : Str) : List Bool := mNames.map fun y => decide (x = y)
/-- what is asked of the classes -/
structure MkF (K : PySem.W.Frag) (g : Str → Addr) : Prop where
  hC : ∀ x ∈ aNames, L2.ExcC K (g x)
  hk : ∀ x ∈ aNames, ∀ y ∈ mNames, PySem.W.kitOne K (.ref (g x)) (.ref (g y)) = some (decide (x = y))
  hB : ∀ x ∈ mNames, PySem.W.kitOne K (.ref (g x)) (.ref (g "BallotError")) = some true
  hV : ∀ x ∈ aNames, PySem.W.kitOne K (.ref (g x)) (.type "ValueError") = some true
  hX : L2.XfC K (g "InvalidText")
  hn : PySem.W.findIn K (.ref (g "InvalidText")) "number" = some none
def nOf (v : V) (x : Str) : Option V := if x = "InvalidText" then some v else none
def prM (g : Str → Addr) (v : V) : List Pr := mNames.map fun x => prE (g x) (nOf v x)
def spMade (g : Str → Addr) : Sp := fun vs H Q _ => ∃ (w : Str) (v : V), vs = [.str w, v] ∧ ∀ p ws H2, H p = none → Ex H H2 → H2 p = some (.lst ws) → Prs (prM g v) ws H2 → Q (.ref p) H2
def spWhich (g : Str → Addr) : Sp := fun vs H Q _ => ∃ a x n, vs = [.ref a] ∧ x ∈ aNames ∧ Ev1 H (g x) a n ∧ ∀ p ws H2, H p = none → Ex H H2 → H2 p = some (.lst ws) → Prs ((isl x).map prB) ws H2 → Q (.ref p) H2
theorem prs_bl : ∀ {bs : List Bool} {ws : List V} {H : Hp}, Prs (bs.map prB) ws H → ws = bs.map V.bl
  | [], _, _, .nil => rfl
  | b :: r, _, _, .cons h t => by
    rw [List.map_cons, prs_bl t]
    rw [show _ = V.bl b from h]
theorem el_which {g : Str → Addr} {σ : L2.St} {H : Hp} {j : Nat} {a : Addr} {x : Str} {n : Option V} {E : XK} (hj : σ[j]? = some (some (.ref a))) (hx : x ∈ aNames) (hv : Ev1 H (g x) a n) :
    Evl.EvL (tCall (spWhich g) [] E (tCons (tVar j) tNil)) σ H ((isl x).map V.bl) := fun H1 e Q q =>
  ⟨.ref a, hj, a, x, n, rfl, hx, hv.keep e, fun p ws H2 np e2 hw hs => q p H2 np e2 (by rw [hw, prs_bl hs])⟩
theorem eqv_isl : ∀ x ∈ mNames, PyData.eqv (.list ((isl x).map .bool)) (.list ((isl x).map .bool)) = true := by
  have h : mNames.all (fun x => PyData.eqv (.list ((isl x).map .bool)) (.list ((isl x).map .bool))) = true := by decide +kernel
  exact fun x hx => List.all_eq_true.mp h x hx
theorem shp_isl : ∀ x ∈ mNames, SeqAt.shaped (.list ((isl x).map .bool)) = true := by
  have h : mNames.all (fun x => SeqAt.shaped (.list ((isl x).map .bool))) = true := by decide +kernel
  exact fun x hx => List.all_eq_true.mp h x hx
theorem dp_bl {K : PySem.W.Frag} {H : Hp} {p : Addr} {bs : List Bool} (h : H p = some (.lst (bs.map V.bl))) : Dp K H (.ref p) (.list (bs.map .bool)) := by
  refine .lst (Evl.sq_of h) ?_
  clear h
  induction bs with
  | nil => exact .nil
  | cons b r ih => exact .cons (.bl b) ih
theorem isl_at : ∀ i < 24, ∀ x, mNames[i]? = some x → isl x = (List.range 24).map fun j => decide (j = i) := by
  have h : (List.range 24).all (fun i => match mNames[i]? with | some x => decide (isl x = (List.range 24).map fun j => decide (j = i)) | none => false) = true := by decide +kernel
  intro i hi x hx
  have := List.all_eq_true.mp h i (List.mem_range.mpr hi)
  rw [hx] at this
  exact of_decide_eq_true this
theorem prM_at {g : Str → Addr} {v : V} {ws : List V} {H : Hp} (h : Prs (prM g v) ws H) {i : Nat} (hi : i < 24) : ∃ x a, mNames[i]? = some x ∧ x ∈ mNames ∧ ws[i]? = some (.ref a) ∧ Ev1 H (g x) a (nOf v x) := by
  have hl : mNames.length = 24 := by decide
  have hx : i < mNames.length := by omega
  unfold prM at h
  have e : mNames[i]? = some mNames[i] := List.getElem?_eq_getElem hx
  have key : ∀ (ms : List Str) (ws : List V) (i : Nat) (x : Str), Prs (ms.map fun x => prE (g x) (nOf v x)) ws H → ms[i]? = some x → ∃ a, ws[i]? = some (.ref a) ∧ Ev1 H (g x) a (nOf v x) := by
    intro ms
    induction ms with
    | nil => intro ws i x _ z; simp at z
    | cons m r ih =>
      intro ws i x h z
      cases h with
      | cons h t =>
        cases i with
        | zero =>
          obtain rfl : m = x := by simpa using z
          obtain ⟨a, h1, h2⟩ := h
          exact ⟨a, by rw [h1]; rfl, h2⟩
        | succ i => exact ih _ i x t (by simpa using z)
  obtain ⟨a, h1, h2⟩ := key _ _ _ _ h e
  exact ⟨_, a, e, List.getElem_mem hx, h1, h2⟩
theorem prM_len {g : Str → Addr} {v : V} {ws : List V} {H : Hp} (h : Prs (prM g v) ws H) : ws.length = 24 := by
  rw [← h.len]
  unfold prM
  rw [List.length_map]
  decide
def rLenQ (K : PySem.W.Frag) : List V → Hp → VK → Prop := fun xs H Q => ∃ p ys, xs = [.ref p] ∧ (SqL K H p ys ∨ SqT K H p ys) ∧ Q (.int ys.length) H
section
variable (K : PySem.W.Frag) (g : Str → Addr) (E : XK) (it ji je jk jx jf jo : Nat)
def isT (j : Nat) (c : V) : TE := tCB (rIsO K) (tCons (tVar j) (tCons (tC c) tNil))
def bodyT : TS :=
  tSeq (tAsg (tOp (rIx K) (tVar je) (tVar jk)) (gName jx))
    (tSeq (tIfS (tOr (tNot (tB (isT K jx (.ref (g "BallotError"))))) (tNot (tB (isT K jx (.ty "ValueError"))))) (tRet (tC (.bl false))) tNext)
      (tIfS (tTest (tOp (rNeD K) (tCall (spWhich g) [] E (tCons (tVar jx) tNil)) (tLc (iRng1 (tCons (tC (.int 24)) tNil)) (gName jo) tYes (tOp rEq (tVar jo) (tVar jk)) [jo]))) (tRet (tC (.bl false))) tNext))
def askT : TT := tTest (tOp rNe (tCB (rRepr K) (tCons (tNum K (tOp (rIx K) (tVar je) (tUn (rU fun i => .int (-i)) (tC (.int 1))))) tNil)) (tCB (rRepr K) (tCons (tVar ji) tNil)))
def finT : TS := tRet (tAndV (isT K jf (.ty "ValueError")) (tOp (rIn K true) (tC (.bl true)) (tCall (spWhich g) [] E (tCons (tVar jf) tNil))))
def restT : TS :=
  tSeq (tAsg (fun σ H Q => tVar it σ H fun _ H1 => ∀ a, H1 a = none → Q (.ref a) (upd H1 a (ExO (.ref (g "BallotError")) a))) (gName jf))
    (tSeq (tIfS (askT K ji je) (tRet (tC (.bl false))) tNext) (finT K g E jf))
def tailT : TS :=
  tSeq (tAsg (tCall (spMade g) [] E (tCons (tVar it) (tCons (tVar ji) tNil))) (gName je))
    (tSeq (tFor (iRng1 (tCons (tCB (rLenQ K) (tCons (tVar je) tNil)) tNil)) (gName jk) (bodyT K g E je jk jx jo)) (restT K g E it ji je jf))
end
section
variable {K : PySem.W.Frag} {g : Str → Addr} {E : XK} {it ji je jk jx jf jo : Nat} {σ : L2.St} {H : Hp}
theorem ev_isB {j : Nat} {a : Addr} {x : Str} {n : Option V} (F : MkF K g) (hj : σ[j]? = some (some (.ref a))) (hx : x ∈ mNames) (hv : Ev1 H (g x) a n) : Evl.Ev (isT K j (.ref (g "BallotError"))) σ H (.bl true) :=
  ev_isO hj hv (F.hC x (List.mem_cons_of_mem _ hx)) (.own _) (F.hB x hx)
theorem ev_isV {j : Nat} {a : Addr} {x : Str} {n : Option V} (F : MkF K g) (hj : σ[j]? = some (some (.ref a))) (hx : x ∈ aNames) (hv : Ev1 H (g x) a n) : Evl.Ev (isT K j (.ty "ValueError")) σ H (.bl true) :=
  ev_isO hj hv (F.hC x hx) (.ty _) (F.hV x hx)
/-- one turn of the loop goes on -/
theorem turn_ok {D : Ends} {l : Addr} {ws : List V} {v : V} {i : Nat} (F : MkF K g) (nd : [it, ji, je, jk, jx, jf, jo].Nodup) (hl : jx < σ.length ∧ jk < σ.length ∧ jo < σ.length) (he : σ[je]? = some (some (.ref l))) (hw : H l = some (.lst ws)) (hs : Prs (prM g v) ws H) (hi : i < 24)
    (k : ∀ a H1, Ex H H1 → D.nx ((σ.set jk (some (.int (i : Int)))).set jx (some (.ref a))) H1) : bodyT K g E je jk jx jo D (σ.set jk (some (.int (i : Int)))) H := by
  simp only [List.nodup_cons, List.mem_cons, List.not_mem_nil, or_false, not_or] at nd
  obtain ⟨x, a, h1, hx, h3, h4⟩ := prM_at hs hi
  have e1 : (σ.set jk (some (V.int (i : Int))))[je]? = some (some (.ref l)) := by rw [List.getElem?_set_ne (by omega)]; exact he
  have e2 : (σ.set jk (some (V.int (i : Int))))[jk]? = some (some (.int i)) := by rw [List.getElem?_set_self (by omega)]
  refine Evl.q_asg (v := .ref a) (Evl.ev_op (Evl.ev_var e1) (Evl.ev_var e2) (fun H1 e Q q => .inl ⟨l, ws, (i : Int), .ref a, rfl, rfl, Evl.sq_of (e _ _ hw), atI_nat h3, q H1 (Ex.refl H1)⟩)) fun H1 ex1 => ?_
  have f1 : ((σ.set jk (some (V.int (i : Int)))).set jx (some (V.ref a)))[jx]? = some (some (.ref a)) := by rw [List.getElem?_set_self (by rw [List.length_set]; omega)]
  have f2 : ((σ.set jk (some (V.int (i : Int)))).set jx (some (V.ref a)))[jk]? = some (some (.int i)) := by rw [List.getElem?_set_ne (by omega)]; exact e2
  have v1 := h4.keep ex1
  have hA : x ∈ aNames := List.mem_cons_of_mem _ hx
  refine Evl.q_if (b := false) (Evl.et_or (a := false) (b := false) (Evl.et_not (a := true) (Evl.et_B (ev_isB F f1 hx v1))) fun _ => Evl.et_not (a := true) (Evl.et_B (ev_isV F f1 hA v1))) (fun z => nomatch z) fun _ H2 ex2 => ?_
  have v2 := v1.keep ex2
  refine Evl.s_if (b := false) (Evl.et_test (Evl.ev_opLL (xs := (isl x).map V.bl) (ys := (isl x).map V.bl) (el_which f1 hA v2) ?_ fun p q H3 hp hq e3 H4 e4 Q z => ?_)) (fun z => nomatch z) fun _ H3 ex3 => k a H3 ((ex1.trans ex2).trans ex3)
  · have hlc := Evl.el_lcR1 (ta := tCons (tC (.int 24)) tNil) (t := tYes) (te := tOp rEq (tVar jo) (tVar jk)) (j := jo) (vs := [jo]) (σ := (σ.set jk (some (V.int (i : Int)))).set jx (some (V.ref a))) (H := H2) (n := 24) (fun _ => true) (fun j => .bl (decide ((j : Int) = (i : Int))))
      (Evl.ea_cons Evl.ev_c Evl.ea_nil) (by omega) (fun y => by simp [wipe]) (fun j H3 e hj H4 e4 Q q => q H4 (Ex.refl H4)) (fun j H3 e hj _ => by
        have g1 : ((wipe ((σ.set jk (some (V.int (i : Int)))).set jx (some (V.ref a))) [jo]).set jo (some (V.int (j : Int))))[jo]? = some (some (.int j)) := by rw [List.getElem?_set_self (by simp [wipe]; omega)]
        have g2 : ((wipe ((σ.set jk (some (V.int (i : Int)))).set jx (some (V.ref a))) [jo]).set jo (some (V.int (j : Int))))[jk]? = some (some (.int i)) := by
          rw [List.getElem?_set_ne (by omega), wipe_out (by simp; omega)]
          exact f2
        have := Evl.ev_op (r := rEq) (Evl.ev_var (H := H3) g1) (Evl.ev_var g2) (Evl.rv_eq rfl)
        refine Evl.ev_is this ?_
        congr 1
        exact decide_eq_decide.mpr ⟨fun z => V.int.inj z, fun z => by rw [z]⟩)
    have e : Evl.given (24 : Int).toNat (fun _ => true) (fun j => V.bl (decide ((j : Int) = (i : Int)))) = (isl x).map V.bl := by
      rw [isl_at i hi x h1]
      unfold Evl.given
      rw [List.filter_eq_self.mpr (fun _ _ => rfl), List.map_map]
      refine List.map_congr_left fun j _ => ?_
      show V.bl _ = V.bl _
      congr 1
      exact decide_eq_decide.mpr (by omega)
    rw [e] at hlc
    exact hlc
  · exact ⟨_, _, dp_bl (e4 _ _ hp), dp_bl (e4 _ _ hq), shp_isl x hx, shp_isl x hx, by rw [eqv_isl x hx]; exact z H4 (Ex.refl H4)⟩
theorem which_none : (isl "BallotError").map V.bl = List.replicate 24 (V.bl false) := by decide +kernel
/-- all of it: true -/
theorem tail_ok {D : Ends} {w : Str} {v : V} {d : PyData} (F : MkF K g) (nd : [it, ji, je, jk, jx, jf, jo].Nodup) (hl : it < σ.length ∧ ji < σ.length ∧ je < σ.length ∧ jk < σ.length ∧ jx < σ.length ∧ jf < σ.length ∧ jo < σ.length) (ht : σ[it]? = some (some (.str w))) (hj : σ[ji]? = some (some v))
    (hd : ∀ H, Rp K H v d) (hd1 : (shw d = true ∧ d.depth ≤ 60) ∧ d.shown.length ≤ sizeLine) (k : ∀ H1, Ex H H1 → D.rt (.bl true) H1) : tailT K g E it ji je jk jx jf jo D σ H := by
  have nd2 := nd
  simp only [List.nodup_cons, List.mem_cons, List.not_mem_nil, or_false, not_or] at nd
  refine ⟨.str w, ht, v, hj, w, v, rfl, fun l ws H1 np ex1 hw hs => ?_⟩
  have s1 : ∀ j, j ≠ je → (σ.set je (some (V.ref l)))[j]? = σ[j]? := fun j hj => List.getElem?_set_ne (Ne.symm hj)
  have e1 : (σ.set je (some (V.ref l)))[je]? = some (some (.ref l)) := List.getElem?_set_self (by omega)
  show tSeq (tFor (iRng1 (tCons (tCB (rLenQ K) (tCons (tVar je) tNil)) tNil)) (gName jk) (bodyT K g E je jk jx jo)) (restT K g E it ji je jf) D (σ.set je (some (.ref l))) H1
  refine Evl.q_forR1 (n := 24) (Evl.ea_cons (x := .int 24) (fun H2 e Q q => ⟨.ref l, e1, l, ws, rfl, .inl (Evl.sq_of (e _ _ hw)), by rw [prM_len hs]; exact q H2 (Ex.refl H2)⟩) Evl.ea_nil) (by omega)
    (fun _ σ' H' => σ'.length = σ.length ∧ Ex H1 H' ∧ σ'[it]? = some (some (.str w)) ∧ σ'[ji]? = some (some v) ∧ σ'[je]? = some (some (.ref l))) (fun H2 e => ⟨by rw [List.length_set], e, by rw [s1 _ (by omega)]; exact ht, by rw [s1 _ (by omega)]; exact hj, e1⟩) (fun i σ' H' hi ⟨p1, p2, p3, p4, p5⟩ => ?_) fun σ' H' ⟨p1, p2, p3, p4, p5⟩ => ?_
  · refine turn_ok (v := v) F nd2 ⟨by omega, by omega, by omega⟩ p5 (p2 _ _ hw) (hs.keep p2) (by omega) fun a H2 ex2 => ⟨by rw [List.length_set, List.length_set]; exact p1, p2.trans ex2, ?_, ?_, ?_⟩
    · rw [List.getElem?_set_ne (by omega), List.getElem?_set_ne (by omega)]; exact p3
    · rw [List.getElem?_set_ne (by omega), List.getElem?_set_ne (by omega)]; exact p4
    · rw [List.getElem?_set_ne (by omega), List.getElem?_set_ne (by omega)]; exact p5
  · show restT K g E it ji je jf D σ' H'
    refine ⟨.str w, p3, fun b hb => ?_⟩
    have eb : Ex H' (upd H' b (ExO (.ref (g "BallotError")) b)) := Ex.new hb
    have q1 : ∀ j, j ≠ jf → (σ'.set jf (some (V.ref b)))[j]? = σ'[j]? := fun j hj => List.getElem?_set_ne (Ne.symm hj)
    have q2 : (σ'.set jf (some (V.ref b)))[jf]? = some (some (.ref b)) := List.getElem?_set_self (by omega)
    obtain ⟨x, a, h1, hx, h3, h4⟩ := prM_at hs (i := 23) (by omega)
    have x23 : x = "InvalidText" := by
      have : mNames[23]? = some ("InvalidText" : Str) := by rfl
      rw [this] at h1
      exact (Option.some.inj h1).symm
    subst x23
    have h4 : Ev1 H1 (g "InvalidText") a (some v) := h4
    have m1 : atI ws (-1) = some (.ref a) := by
      obtain ⟨ys, y, rfl⟩ : ∃ ys y, ws = ys ++ [y] := by
        have : ws ≠ [] := fun z => by rw [z] at h3; cases h3
        exact ⟨ws.dropLast, ws.getLast this, (List.dropLast_concat_getLast this).symm⟩
      rw [atI_last]
      have hz := prM_len hs
      rw [List.length_append, List.length_singleton] at hz
      rw [List.getElem?_append_right (by omega), show 23 - ys.length = 0 by omega] at h3
      exact h3
    show tSeq (tIfS (askT K ji je) (tRet (tC (.bl false))) tNext) (finT K g E jf) D (σ'.set jf (some (.ref b))) (upd H' b (ExO (.ref (g "BallotError")) b))
    refine Evl.q_if (b := false) ?_ (fun z => nomatch z) fun _ H3 ex3 => ?_
    · refine Evl.et_test (Evl.ev_is (Evl.ev_op (x := .str d.shown) (y := .str d.shown) ?_ ?_ (Evl.rv_ne rfl)) (by simp))
      · intro H3 e3 Q q
        refine ⟨.ref l, by rw [q1 _ (by omega)]; exact p5, 1, rfl, .inl ⟨l, ws, -1, .ref a, rfl, rfl, Evl.sq_of (e3 _ _ (eb _ _ (p2 _ _ hw))), m1, a, g "InvalidText", v, rfl, F.hX, F.hn, (h4.keep p2).keep (eb.trans e3), v, d, rfl, hd _, hd1.1, hd1.2, q H3 (Ex.refl H3)⟩⟩
      · intro H3 e3 Q q
        exact ⟨v, by rw [q1 _ (by omega)]; exact p4, v, d, rfl, hd _, hd1.1, hd1.2, q H3 (Ex.refl H3)⟩
    · have hv : Ev1 H3 (g "BallotError") b none := ex3 _ _ upd_same
      refine Evl.s_ret (v := .bl true) (Evl.ev_is (Evl.ev_andV (a := true) (b := true) (ev_isV F q2 List.mem_cons_self hv) fun _ => Evl.ev_is (Evl.ev_opL Evl.ev_c (el_which q2 List.mem_cons_self hv) fun p H4 hp e4 => Evl.rv_niL (Evl.sq_of hp) rfl (by rw [which_none]; rfl)) (by rw [which_none]; rfl)) rfl) fun H4 ex4 => ?_
      exact k H4 (((ex1.trans p2).trans eb).trans (ex3.trans ex4))
end
end Hb
namespace Hb
open PySem PySem.Spec PyProof.Rows L2
end Hb
namespace Hb
open PySem PySem.Spec PyProof.Rows L2
end Hb
namespace Hb
open PySem PySem.Spec PyProof.Rows L2
end Hb
namespace Hb
open PySem PySem.Spec PyProof.Rows L2
end Hb
namespace Hb
open PySem PySem.Spec PyProof.Rows L2
/-- law_call with tables: cs, the code objects and their tables -/
theorem lawGT {P : Program} {w : World} {K : PySem.W.Frag} {mg mb : Str → Option Value} {k : Nat} {fa a : Addr} {cs : List (Addr × Addr)} {fd : FuncData} {x : Str} {sp : Sp} {s₁ : Shared} {vs : List Value} {ns : List Int}
    (KX : K.In s₁.heap) (hns : s₁.heap.Ns mainGlobals mg) (hb : s₁.heap.Ns builtinsNs mb) (hbb : ∀ x : Str, x ≠ "__name__" → mb x = bootBuiltins x) (hlim : s₁.heap.NoLimit) (hg : s₁.gens = #[])
    (hT : ∀ p ∈ cs, s₁.heap.get? p.2 = some { cls := .none, data := .fields #[] }) (nT : ∀ p ∈ cs, K.lookup p.2 = none) (C : ∀ p ∈ cs, PySem.W.CodeHd s₁.heap p.1 p.2)
    (hbm : ∃ (bm : Addr) (ob : Obj), mg "__builtins__" = some (.ref bm) ∧ bm ≠ builtinsNs ∧ s₁.heap.get? bm = some ob ∧ ob.cls = .type "module" ∧ ob.dict = some builtinsNs ∧ ob.data = .plain)
    (ha : s₁.heap.get? a = some { cls := .type "list", data := .seq vs.toArray }) (hi : IntsAre vs ns) (hl : ns.length ≤ sizeLine) (hr : Room k callerA)
    (F : ∀ base : Heap, K.In base → base.Ns mainGlobals mg → (∀ p ∈ cs, LamX.TabB base mg p.1 p.2) → FnG P w K mg base k fa fd [x] sp) (hbind : ∀ (s : Shared) (u : Value), BindsTo s fd ⟨[u], []⟩ [(x, u)])
    (hsp : ∀ H : Hp, (∀ p ∈ cs, H p.2 = some (.tbl #[])) → SqX K H a (ns.map V.int) → sp [.ref a] H (fun v _ => v = .bl true) fun _ _ _ => False) :
    codeAny (model P w) callerA (.call (.ref fa) ⟨[.ref a], []⟩) (fun r s' => r = .ok (.ret (.bool true)) ∧ OldK s₁.heap s'.heap ∧ s'.os = s₁.os ∧ AllBare s'.gens) s₁ := by
  have rv := vals_ints hi
  have lenV := hi.length
  have isT : ∀ b : Addr, b ∈ cs.map (·.2) → s₁.heap.get? b = some { cls := .none, data := .fields #[] } := fun b hb => by
    obtain ⟨p, hp, e⟩ := List.mem_map.mp hb
    rw [← e]
    exact hT p hp
  have aT : a ∉ cs.map (·.2) := fun z => by
    have q := isT a z
    rw [ha] at q
    have z' : Data.seq vs.toArray _ = Data.fields #[] := congrArg Obj.data (Option.some.inj q)
    cases z'
  have memT : ∀ p ∈ cs, p.2 ∈ cs.map (·.2) := fun p hp => List.mem_map.mpr ⟨p, hp, rfl⟩
  -- from an abstract heap in which nothing but the script and the tables may be tracked
  have core : ∀ H : Hp, (∀ p ∈ cs, H p.2 = some (.tbl #[])) → (∀ b, H b = none ∨ b ∈ cs.map (·.2) ∨ ∃ o xs, H b = some (.frz o (.lst xs))) → SqX K H a (ns.map V.int) → HOk P w H s₁.heap → (∀ b, H b ≠ none → b = a ∨ b ∈ cs.map (·.2)) → (H a ≠ none → K.lookup a = none) →
      codeAny (model P w) callerA (.call (.ref fa) ⟨[.ref a], []⟩) (fun r s' => r = .ok (.ret (.bool true)) ∧ OldK s₁.heap s'.heap ∧ s'.os = s₁.os ∧ AllBare s'.gens) s₁ := by
    intro H hH hO hS hok hA hK
    have base_of : ∀ {b : Addr} {o : Obj}, s₁.heap.get? b = some o → H b = none → (hidT s₁.heap H).get? b = some o := fun e n => hidT_get e n
    have noD : ∀ {b : Addr} {o : Obj}, s₁.heap.get? b = some o → (∀ vs n, o.data ≠ .seq vs n) → o.data ≠ .fields #[] → H b = none := fun {b o} e h1 h2 => by
      cases q : H b with
      | none => rfl
      | some u =>
        rcases hA b (by rw [q]; simp) with e' | e'
        · rw [e', ha] at e
          cases e
          exact (h1 _ _ rfl).elim
        · rw [isT b e'] at e
          cases e
          exact (h2 rfl).elim
    have noA : ∀ {b : Addr} {o : Obj} {es : Array DictEntry} {ep : Nat}, s₁.heap.get? b = some o → o.data = .dict es ep → H b = none := fun {b o es ep} e d => by
      refine noD e (fun vs n z => ?_) fun z => ?_
      · rw [d] at z
        cases z
      · rw [d] at z
        cases z
    have nsK : ∀ {b : Addr} {m : Str → Option Value}, s₁.heap.Ns b m → (hidT s₁.heap H).Ns b m := fun {b m} ⟨o, es, ep, e, d, r⟩ => ⟨o, es, ep, base_of e (noA e d), d, r⟩
    have hKb : K.In (hidT s₁.heap H) := fun b o e => base_of (KX b o e) (by
      cases q : H b with
      | none => rfl
      | some u =>
        rcases hA b (by rw [q]; simp) with e' | e'
        · rw [e'] at e q
          rw [hK (by rw [q]; simp)] at e
          cases e
        · obtain ⟨p, hp, ep⟩ := List.mem_map.mp e'
          rw [← ep, nT p hp] at e
          cases e)
    have hM : L2.Mod K mg (hidT s₁.heap H) := ⟨hKb, nsK hns, ⟨mb, nsK hb, hbb⟩, let ⟨mc, h1, h2⟩ := hlim; ⟨mc, nsK h1, h2⟩⟩
    have TB : ∀ p ∈ cs, LamX.TabB (hidT s₁.heap H) mg p.1 p.2 := fun p hp => by
      have hTp := hT p hp
      refine ⟨?_, ?_, fun z => ?_⟩
      · obtain ⟨o, us, file, tf, flags, tg, inF, text, tt, e1, r1, r2, r3, r4, r5, r6, r7, r8, hne⟩ := C p hp
        refine ⟨o, us, file, tf, flags, tg, inF, text, tt, base_of e1 (noD e1 (fun vs n z => ?_) fun z => ?_), r1, r2, r3, r4, r5, r6, r7, r8, hne⟩
        · rw [r2] at z
          cases z
        · rw [r2] at z
          cases z
          simp at r3
      · obtain ⟨bm, ob, b1, b2, b3, b4, b5, b6⟩ := hbm
        have nG : bm ≠ mainGlobals := fun q => by
          obtain ⟨o, es, ep, e, hd, _⟩ := hns
          rw [q, e] at b3
          cases b3
          rw [hd] at b6
          cases b6
        have nP : bm ≠ p.2 := fun q => by
          rw [q, hTp] at b3
          cases b3
          cases b6
        refine ⟨bm, ob, b1, b2, nG, nP, base_of b3 (noD b3 (fun vs n z => ?_) fun z => ?_), b4, b5, b6⟩
        · rw [b6] at z
          cases z
        · rw [b6] at z
          cases z
      · obtain ⟨o, es, ep, e, hd, _⟩ := hns
        rw [z, hTp] at e
        cases e
        cases hd
    have e0 : Env0 P w K mg (hidT s₁.heap H) callerA [] s₁ H := ⟨rfl, hM, fun b o e => of_hidT e, Nat.le_of_eq (hidT_size _ _), trivial, fun b hb => absurd (show b ∈ ([] : List Addr) from hb) (by simp), hok, .of_eq hg⟩
    refine codeAny_mono ((F _ hKb (nsK hns) TB).run callerA [] s₁ H ⟨[.ref a], []⟩ [.ref a] [.ref a] _ _ rfl hr e0 (hbind s₁ (.ref a)) (.cons rfl .nil) (hsp H hH hS)) fun r s' h => ?_
    cases r with
    | error e =>
      obtain ⟨_, _, _, _, _, _, _, _, _, _, _, _, z⟩ := h
      exact z.elim
    | ok fl =>
      cases fl with
      | next => exact False.elim h
      | brk => exact False.elim h
      | cont => exact False.elim h
      | ret u =>
        obtain ⟨v, H', os, bare, un, hok', r', q⟩ := h
        have q' : v = .bl true := q
        subst q'
        obtain rfl : u = Value.bool true := r'
        have key : ∀ b o, b ∉ cs.map (·.2) → s₁.heap.get? b = some o → s'.heap.get? b = some o := fun b o nb e => by
          cases q : H b with
          | none => exact un.keep b o e q (by intro z; exact absurd (show b ∈ ([] : List Addr) from z) (by simp)) (by simp)
          | some u =>
            rcases hO b with z | z | ⟨ob, xs, z⟩
            · rw [q] at z; cases z
            · exact absurd z nb
            · have z2 := un.frzs b ob _ z
              obtain ⟨e1, _⟩ := hok b _ z
              obtain ⟨e2, _⟩ := hok' b _ z2
              rw [e] at e1; cases e1
              exact e2
        have grown : ∀ p ∈ cs, ∃ more : Array Value, s'.heap.get? p.2 = some { cls := .none, data := .fields more } := fun p hp => by
          obtain ⟨more, z⟩ := un.tbls p.2 #[] (hH p hp)
          exact ⟨_, hok' p.2 _ z⟩
        refine ⟨rfl, ⟨fun b o e => ?_, fun b o e => ?_⟩, os, bare⟩
        · by_cases hb : b ∈ cs.map (·.2)
          · obtain ⟨p, hp, ep⟩ := List.mem_map.mp hb
            obtain ⟨more, hm⟩ := grown p hp
            rw [← ep] at e ⊢
            rw [hT p hp] at e
            cases e
            exact .inr (.inl ⟨((C p hp).tab (hT p hp)).isCodeTable, rfl, #[], more, rfl, by rw [Array.empty_append]; exact hm⟩)
          · exact .inl (key b o hb e)
        · by_cases hb : b ∈ cs.map (·.2)
          · obtain ⟨p, hp, ep⟩ := List.mem_map.mp hb
            obtain ⟨more, hm⟩ := grown p hp
            rw [← ep]
            exact ⟨_, hm⟩
          · exact ⟨o, key b o hb e⟩
  cases hk : K.lookup a with
  | some o =>
    have e := KX a o hk
    rw [ha] at e
    cases e
    refine core (fun b => if b ∈ cs.map (·.2) then some (.tbl #[]) else none) (fun p hp => if_pos (memT p hp)) (fun b => ?_) (.inr ⟨vs, 0, hk, by rw [lenV]; exact hl, rv⟩) (fun b u z => ?_) (fun b z => ?_) fun z => absurd (show (if a ∈ cs.map (·.2) then some (HO.tbl #[]) else none) = none from if_neg aT) z
    · by_cases hb : b ∈ cs.map (·.2)
      · exact .inr (.inl hb)
      · exact .inl (if_neg hb)
    · by_cases hb : b ∈ cs.map (·.2)
      · have z' := (if_pos hb).symm.trans z
        cases z'
        exact isT b hb
      · have z' := (if_neg hb).symm.trans z
        cases z'
    · by_cases hb : b ∈ cs.map (·.2)
      · exact .inr hb
      · exact absurd (if_neg hb) z
  | none =>
    refine core (fun b => if b = a then some (.frz { cls := .type "list", data := .seq vs.toArray } (.lst (ns.map V.int))) else if b ∈ cs.map (·.2) then some (.tbl #[]) else none) (fun p hp => (if_neg (show ¬ p.2 = a from fun z => aT (by rw [← z]; exact memT p hp))).trans (if_pos (memT p hp))) (fun b => ?_)
      (.inl (.inr ⟨{ cls := .type "list", data := .seq vs.toArray }, if_pos rfl⟩)) (fun b u z => ?_) (fun b z => ?_) fun _ => hk
    · by_cases hb : b = a
      · exact .inr (.inr ⟨_, _, if_pos hb⟩)
      · by_cases hb2 : b ∈ cs.map (·.2)
        · exact .inr (.inl hb2)
        · exact .inl ((if_neg hb).trans (if_neg hb2))
    · by_cases hb : b = a
      · have z' := (if_pos hb).symm.trans z
        cases z'
        rw [hb]
        exact ⟨ha, by rw [List.length_map]; exact hl, vs, _, rv, ha⟩
      · have z1 := (if_neg hb).symm.trans z
        by_cases hb2 : b ∈ cs.map (·.2)
        · have z' := (if_pos hb2).symm.trans z1
          cases z'
          exact isT b hb2
        · have z' := (if_neg hb2).symm.trans z1
          cases z'
    · by_cases hb : b = a
      · exact .inl hb
      · by_cases hb2 : b ∈ cs.map (·.2)
        · exact .inr hb2
        · exact absurd ((if_neg hb).trans (if_neg hb2)) z
theorem walkGT {l : PySem.W.OpenLaw} {n k : Nat} {q : Program} {loose : List Str} {XP : (Str → Option Value) → Heap → Prop} {YP : World → Heap → Prop} {d : DefRec} {x : Str}
    (hn : l.most = some n) (hn2 : n ≤ sizeLine) (hdf : d.params.defaults = []) (hr : Room k callerA)
    (FF : ∀ (w : World) (mg : Str → Option Value) (fa : Addr) (h : Heap), YP w h → h.Ns mainGlobals mg → mg d.name = some (.ref fa) →
      ∃ (K : PySem.W.Frag) (fd : FuncData) (cs : List (Addr × Addr)) (sp : Sp), K.In h ∧ (∀ p ∈ cs, h.get? p.2 = some { cls := .none, data := .fields #[] }) ∧ (∀ p ∈ cs, K.lookup p.2 = none) ∧ (∀ p ∈ cs, PySem.W.CodeHd h p.1 p.2) ∧ (∀ (s : Shared) (u : Value), BindsTo s fd ⟨[u], []⟩ [(x, u)]) ∧
        (∀ (H : Hp) (a : Addr) (ns : List Int), ns.length ≤ n → (∀ p ∈ cs, H p.2 = some (.tbl #[])) → SqX K H a (ns.map V.int) → sp [.ref a] H (fun v _ => v = .bl true) fun _ _ _ => False) ∧
        ∀ bs : Heap, K.In bs → bs.Ns mainGlobals mg → (∀ p ∈ cs, LamX.TabB bs mg p.1 p.2) → FnG l.prog w K mg bs k fa fd [x] sp) :
    PySem.W.WalkO q loose XP YP l.row.toRowW d [] (fun f vs => PySem.call f vs) := by
  refine Att.attach_call hn hdf fun w s₀ s₁ mg mb fa o pm cd doc a vs ns G Y ho hd hcd hmg hobj hints hlen hg => ?_
  obtain ⟨K, fd, cs, sp, KX, hT, nT, C, hb, hsp, hF⟩ := FF w mg fa _ Y G.T.g hmg
  exact lawGT KX G.T.g G.T.b G.T.builtins G.T.nolimit hg hT nT C G.T.bmain hobj hints (Nat.le_trans hlen hn2) hr hF hb fun H hH hS => hsp H a ns hlen hH hS
end Hb
namespace Hb
open PySem PySem.Spec PyProof.Rows L2
end Hb
namespace Hb
open PySem PySem.Spec PyProof.Rows L2
def excB (K : PySem.W.Frag) (D : Addr) : Bool :=
  decide (PySem.W.findIn K (.ref D) "__getattribute__" = some (some (.builtin "BaseException.__getattribute__"))) && (decide (PySem.W.findIn K (.ref D) "__getattr__" = some none) && (decide (PySem.W.subIn K (.ref D) (.type "BaseException") = some true) && (PySem.W.hasDictIn K D
    && (decide (PySem.W.findIn K (.ref D) "__class__" = some (some (.builtin "object.__class__"))) && (decide (PySem.W.specialIn K (.builtin "object.__class__") "__get__" = some (some (.builtin "getset_descriptor.__get__")))
      && (decide (PySem.W.takesIn K (.builtin "object.__class__") = some true) && decide (PySem.W.mroIn K D (.type "object") = some true)))))))
theorem and2 {a b : Bool} (h : (a && b) = true) : a = true ∧ b = true := by
  cases a <;> cases b <;> first | exact ⟨rfl, rfl⟩ | cases h
theorem excB_ok {K : PySem.W.Frag} {D : Addr} (h : excB K D = true) : L2.ExcC K D := by
  unfold excB at h
  obtain ⟨h1, h⟩ := and2 h
  obtain ⟨h2, h⟩ := and2 h
  obtain ⟨h3, h⟩ := and2 h
  obtain ⟨h4, h⟩ := and2 h
  obtain ⟨h5, h⟩ := and2 h
  obtain ⟨h6, h⟩ := and2 h
  obtain ⟨h7, h8⟩ := and2 h
  exact ⟨of_decide_eq_true h1, of_decide_eq_true h2, of_decide_eq_true h3, h4, of_decide_eq_true h5, of_decide_eq_true h6, of_decide_eq_true h7, of_decide_eq_true h8⟩
end Hb
namespace Hb
open PySem PySem.Spec PyProof.Rows L2
open Evl (Ex)
/-- an exception class with an own __init__, above ValueError -/
def oexO (C : Addr) : Obj → Bool
  | ⟨.type t, dd, .cls ⟨nm, bs, mro, N, q, hd, sn, sub, ab, col, del⟩, sl⟩ => (match mro, sl.toList with
    | .ref C' :: bm, [k0, k1, k2, k3, some (.builtin n), k5] => decide (t = "type") && (decide (C' = C) && (hd && (!del && (decide (n = "ValueError.__new__") && PySem.HandSPX.refsVE bm))))
    | _, _ => false)
  | _ => false
theorem oexO_ok {C : Addr} {o : Obj} (h : oexO C o = true) : ∃ nm q N bs bm sn sub ab col dd k0 k1 k2 k3 k5, o = excClassObj nm q C N bs bm true sn sub ab col dd k0 k1 k2 k3 k5 "ValueError.__new__" ∧ PySem.HandSPX.refsVE bm = true := by
  obtain ⟨c, dd, dt, sl⟩ := o
  unfold oexO at h
  split at h
  · split at h
    · rename_i _ t dd nm bs N q hd sn sub ab col del sl mro _ C' bm k0 k1 k2 k3 n k5 hs he
      simp only [Bool.and_eq_true, decide_eq_true_eq, Bool.not_eq_true'] at h
      obtain ⟨rfl, rfl, rfl, rfl, rfl, hr⟩ := h
      have es : sl = #[k0, k1, k2, k3, some (.builtin "ValueError.__new__"), k5] := by
        rw [← Array.toList_inj]
        exact hs
      rw [he, es]
      exact ⟨_, _, _, _, _, _, _, _, _, _, _, _, _, _, _, rfl, hr⟩
    · cases h
  · cases h
def oexB (K : PySem.W.Frag) (C : Addr) : Bool := (match K.lookup C with
  | some o => oexO C o
  | none => false) && (decide (PySem.W.findIn K (.ref C) "__setattr__" = some (some (.builtin "object.__setattr__"))) && (decide (PySem.W.subIn K (.ref C) (.type "BaseException") = some true) && (decide (PySem.W.typeIn K (.ref C) = some (.type "type")) && PySem.W.keepIn K (.ref C))))
theorem oexB_ok {K : PySem.W.Frag} {C : Addr} (h : oexB K C = true) : L2.OexC K C := by
  obtain ⟨h1, h⟩ := and2 h
  obtain ⟨h2, h⟩ := and2 h
  obtain ⟨h3, h⟩ := and2 h
  obtain ⟨h4, h5⟩ := and2 h
  refine ⟨?_, of_decide_eq_true h2, of_decide_eq_true h3, of_decide_eq_true h4, h5⟩
  cases q : K.lookup C with
  | none => rw [q] at h1; cases h1
  | some o =>
    rw [q] at h1
    obtain ⟨nm, q, N, bs, bm, sn, sub, ab, col, dd, k0, k1, k2, k3, k5, e, hr⟩ := oexO_ok h1
    exact ⟨nm, q, N, bs, bm, sn, sub, ab, col, dd, k0, k1, k2, k3, k5, by rw [e], hr⟩
def biB (K : PySem.W.Frag) (C : Addr) : Bool := decide (PySem.W.specialIn K (.ref C) "__getattribute__" = some (some (.builtin "type.__getattribute__"))) && (PySem.W.readsIn K C (.type "type") && (match PySem.W.findCls K (.ref C) (.type "type") "__init__" with
    | some (.val (.builtin n)) => decide (n = "ValueError.__init__")
    | _ => false))
theorem biB_ok {K : PySem.W.Frag} {C : Addr} (h : biB K C = true) : BiC K C := by
  obtain ⟨h1, h⟩ := and2 h
  obtain ⟨h2, h3⟩ := and2 h
  refine ⟨of_decide_eq_true h1, h2, ?_⟩
  split at h3
  · rename_i n e
    rw [e, of_decide_eq_true h3]
  · cases h3
abbrev tI : Str := "InvalidText"
abbrev bE : Str := "BallotError"
def mkB (K : PySem.W.Frag) : Bool :=
  (aNames.all fun x => excB K (He.ga K x) && (decide (PySem.W.kitOne K (.ref (He.ga K x)) (.type "ValueError") = some true) && mNames.all fun y => decide (PySem.W.kitOne K (.ref (He.ga K x)) (.ref (He.ga K y)) = some (decide (x = y))))) &&
  ((mNames.all fun x => decide (PySem.W.kitOne K (.ref (He.ga K x)) (.ref (He.ga K bE)) = some true)) &&
  (L2.xfB K (He.ga K tI) && (decide (PySem.W.findIn K (.ref (He.ga K tI)) "number" = some none) && (oexB K (He.ga K tI) && (biB K (He.ga K bE) &&
  (decide (PySem.W.findIn K (.ref (He.ga K tI)) "__init__" = some (some (.ref (He.fAd K (tI, some "__init__"))))) && decide (PySem.W.typeIn K (.ref (He.fAd K (tI, some "__init__"))) = some (.type "function"))))))))
structure MkX (K : PySem.W.Frag) : Prop where
  f : MkF K (He.ga K)
  o : L2.OexC K (He.ga K tI)
  b : BiC K (He.ga K bE)
  i : PySem.W.findIn K (.ref (He.ga K tI)) "__init__" = some (some (.ref (He.fAd K (tI, some "__init__"))))
  t : PySem.W.typeIn K (.ref (He.fAd K (tI, some "__init__"))) = some (.type "function")
theorem mkB_ok {K : PySem.W.Frag} (h : mkB K = true) : MkX K := by
  obtain ⟨h1, h⟩ := and2 h
  obtain ⟨h2, h⟩ := and2 h
  obtain ⟨h3, h⟩ := and2 h
  obtain ⟨h4, h⟩ := and2 h
  obtain ⟨h5, h⟩ := and2 h
  obtain ⟨h6, h⟩ := and2 h
  obtain ⟨h7, h8⟩ := and2 h
  have a : ∀ x ∈ aNames, _ := List.all_eq_true.mp h1
  exact ⟨⟨fun x hx => excB_ok (and2 (a x hx)).1, fun x hx y hy => of_decide_eq_true (List.all_eq_true.mp (and2 (and2 (a x hx)).2).2 y hy), fun x hx => of_decide_eq_true (List.all_eq_true.mp h2 x hx), fun x hx => of_decide_eq_true (and2 (and2 (a x hx)).2).1, L2.xfB_ok h3, of_decide_eq_true h4⟩, oexB_ok h5, biB_ok h6, of_decide_eq_true h7, of_decide_eq_true h8⟩
end Hb
namespace Hb
open PySem PySem.Spec PyProof.Rows L2
open Evl (Ex)
section
variable {K : PySem.W.Frag} {σ : L2.St} {H : Hp} {ps : List Pr} {base : TA}
def taIs (K : PySem.W.Frag) (ys : List Str) : TA := ys.foldr (fun y t => tCons (tCB (rIsO K) (tCons (tVar 0) (tCons (tC (.ref (He.ga K y))) tNil))) t) tNil
theorem evp_is {a : Addr} {x : Str} {n : Option V} (F : MkF K (He.ga K)) (hj : σ[0]? = some (some (.ref a))) (hx : x ∈ aNames) (hv : Ev1 H (He.ga K x) a n) : ∀ ys : List Str, (∀ y ∈ ys, y ∈ mNames) → EvP (taIs K ys) σ H (ys.map fun y => prB (decide (x = y)))
  | [], _ => evp_nil
  | y :: r, h => evp_cons (elp_ev (ev_isO hj hv (F.hC x hx) (.own _) (F.hk x hx y (h y List.mem_cons_self)))) (evp_is F hj hx hv r fun z hz => h z (List.mem_cons_of_mem _ hz))
def taEx (K : PySem.W.Frag) (ys : List Str) (base : TA) : TA := ys.foldr (fun y t => tCons (fun σ H Q => tVar 0 σ H fun _ H1 => ∀ a, H1 a = none → Q (.ref a) (upd H1 a (ExO (.ref (He.ga K y)) a))) t) base
theorem evp_ex {v0 v : V} (hj : σ[0]? = some (some v0)) (hb : EvP base σ H ps) : ∀ ys : List Str, (∀ y ∈ ys, y ≠ tI) → EvP (taEx K ys base) σ H (ys.map (fun x => prE (He.ga K x) (nOf v x)) ++ ps)
  | [], _ => hb
  | y :: r, h => by
    have e : nOf v y = none := if_neg (h y List.mem_cons_self)
    have := evp_cons (elp_exc (C := He.ga K y) (H := H) hj) (evp_ex (v := v) hj hb r fun z hz => h z (List.mem_cons_of_mem _ hz))
    rw [List.map_cons, e]
    exact this
theorem elp_oex {C : Addr} {v : V} {j : Nat} (hj : σ[j]? = some (some v)) : ElP (tOexV C (spInit C) (tCons (tVar j) tNil)) σ H (prE C (some v)) := fun H1 e Q q =>
  ⟨v, hj, by simp, fun a ha => ⟨a, v, rfl, upd_same, fun d H2 hd he ne => ⟨rfl, by
    have hd1 : H1 d = none := by rw [upd_ne ne] at hd; exact hd
    subst he
    refine q (.ref a) _ (fun c o ho => ?_) ⟨a, rfl, d, upd_same, by rw [upd_ne ne, upd_same]⟩
    have ca : c ≠ a := ne_of_none ho ha
    have cd : c ≠ d := ne_of_none ho hd1
    rw [upd_ne ca, upd_ne cd, upd_ne ca]
    exact ho⟩⟩⟩
end
def atomD : PyData → Bool
  | .none => true
  | .int i => decide (0 ≤ i ∧ i ≤ 100000)
  | _ => false
theorem atom_rp {K : PySem.W.Frag} {H : Hp} {v : V} {d : PyData} (h : atomD d = true) (r : Rp K H v d) : ∀ H', Rp K H' v d := by
  cases r with
  | non => exact fun _ => .non
  | int i => exact fun _ => .int i
  | _ => cases h
def okAt (d : PyData) : Bool := atomD d && (shw d && (decide (d.depth ≤ 60) && decide (d.shown.length ≤ sizeLine)))
def oTail (it ji : Nat) (js : List Nat) : List Sl → Ot := fun δ => match δ[it]?, δ[ji]? with
  | some (.fz (.str _)), some (.fz d) => if okAt d = true ∧ (∀ j ∈ js, j < δ.length) then .rt (.fz (.bool true)) δ else .bad
  | _, _ => .bad
theorem ss_tail {X : Cx} {W : WX} {pin : List Nat} {sts : List Stmt} {E : XK} {g : Str → Addr} {it ji je jk jx jf jo : Nat} (F : MkF X.K g) (nd : [it, ji, je, jk, jx, jf, jo].Nodup) (h : PSs X sts (tailT X.K g E it ji je jk jx jf jo)) : SSs X W pin sts (oTail it ji [it, ji, je, jk, jx, jf, jo]) :=
  pss_mono h fun D σ H ⟨b, Fz, F1, δ, hp, R, P⟩ => by
    unfold oTail at P
    cases q1 : δ[it]? with
    | none => simp only [q1] at P; exact P.elim
    | some s1 =>
      cases q2 : δ[ji]? with
      | none => cases s1 with
        | fz d1 => cases d1 <;> (simp only [q1, q2] at P; exact P.elim)
        | _ => simp only [q1, q2] at P; exact P.elim
      | some s2 =>
        cases s1 with
        | fz d1 =>
          cases d1 with
          | str w =>
            cases s2 with
            | fz d =>
              simp only [q1, q2] at P
              by_cases c : okAt d = true ∧ (∀ j ∈ [it, ji, je, jk, jx, jf, jo], j < δ.length)
              · rw [if_pos c] at P
                obtain ⟨c1, c2⟩ := c
                rw [← R.len] at c2
                obtain ⟨_, v1, e1, r1⟩ := R.slot it _ q1
                obtain ⟨_, v2, e2, r2⟩ := R.slot ji _ q2
                unfold okAt at c1
                simp only [Bool.and_eq_true, decide_eq_true_eq] at c1
                cases r1
                have jn : ∀ {j : Nat} {v : V}, (σ[j]?).join = some v → σ[j]? = some (some v) := fun {j v} e => by
                  cases q : σ[j]? with
                  | none => rw [q] at e; cases e
                  | some o => rw [q] at e; rw [show o = some v from e]
                refine tail_ok F nd ⟨c2 _ (by simp), c2 _ (by simp), c2 _ (by simp), c2 _ (by simp), c2 _ (by simp), c2 _ (by simp), c2 _ (by simp)⟩ (jn e1) (jn e2) (atom_rp c1.1 r2) ⟨⟨c1.2.1, c1.2.2.1⟩, c1.2.2.2⟩ fun H1 ex => ?_
                exact P (.bl true) σ H1 Fz F1 (Same.refl _) (R.grow ex) ⟨rfl, [], ⟨rfl, .bl true, rfl, .bl true⟩, List.nodup_nil, fun _ z => nomatch z⟩
              · rw [if_neg c] at P
                exact P.elim
            | _ => simp only [q1, q2] at P; exact P.elim
          | _ => cases s2 <;> (simp only [q1, q2] at P; exact P.elim)
        | _ => simp only [q1, q2] at P; exact P.elim
def sTail (it ji : Nat) (js : List Nat) : List Sl → Rs AV := fun δ => match δ[it]?, δ[ji]? with
  | some (.fz (.str _)), some (.fz d) => if okAt d = true ∧ (∀ j ∈ js, j < δ.length) then .ok (.val (.bool true)) δ else .bad
  | _, _ => .bad
theorem tail_ret (it ji : Nat) (js : List Nat) : oRet (sTail it ji js) = oTail it ji js := by
  funext δ
  unfold oRet oTail
  have e : sMv (sTail it ji js) δ = sTail it ji js δ := by
    have hr : ∀ i δ', sTail it ji js δ ≠ .ok (.ref i) δ' := by
      intro i δ' h
      unfold sTail at h
      split at h
      · split at h <;> cases h
      · cases h
    unfold sMv
    split
    · rename_i h
      exact absurd h (hr _ _)
    · rfl
  rw [e]
  unfold sTail
  split
  · split <;> rfl
  · rfl
theorem ss_tailR {X : Cx} {W : WX} {pin : List Nat} {sts : List Stmt} {E : XK} {g : Str → Addr} {it ji je jk jx jf jo : Nat} (F : MkF X.K g) (nd : [it, ji, je, jk, jx, jf, jo].Nodup) (h : PSs X sts (tailT X.K g E it ji je jk jx jf jo)) : SSs X W pin sts (oRet (sTail it ji [it, ji, je, jk, jx, jf, jo])) := by
  rw [tail_ret]
  exact ss_tail F nd h
def strsD : List PyData → Option (List Str)
  | [] => some []
  | .str x :: r => (strsD r).map (x :: ·)
  | _ => none
theorem strsD_rp {K : PySem.W.Frag} {H : Hp} : ∀ {vs : List V} {ds : List PyData} {ys : List Str}, RpL K H vs ds → strsD ds = some ys → vs = ys.map V.str
  | _, _, _, .nil, h => by cases h; rfl
  | _, _, ys, .cons (d := d) r t, h => by
    cases r with
    | str x =>
      obtain ⟨zs, e1, rfl⟩ := Option.map_eq_some_iff.mp (show (strsD _).map _ = some ys from h)
      rw [strsD_rp t e1]
      rfl
    | _ => cases h
def gJoin (x y : AV) (δ : List Sl) : Rs AV := match rdC δ x, rdC δ y with
  | some (.str a), some (.list ds) => (match strsD ds with
    | some ys => if (ys.map (·.length)).sum + ys.length * a.length ≤ 16777216 then .ok (.val (.str (Txt.join a ys))) δ else .bad
    | none => .bad)
  | _, _ => .bad
def sJoin (fo fa : List Sl → Rs AV) : List Sl → Rs AV := fun δ => (sSt fo δ).bind fun x δ1 => match rdC δ1 x with
  | some (.str _) => (sSt fa δ1).bind fun y δ2 => gJoin x y δ2
  | _ => .bad
section
variable {X : Cx} {W : WX} {pin : List Nat} {fo fa : List Sl → Rs AV} {o e : Expr} {apos pos : Pos}
theorem se_join (ho : SE X W pin o fo) (ha : SE X W pin e fa) (hs : starEach [e] X.env = [(false, eval e X.env)] := by rfl) (hbase : attributeBase o "join" X.env (eval o X.env) = eval o X.env := by rfl) (hline : (apos.endLine == pos.line) = true := by rfl) :
    SE X W pin (.Call (.Attribute o "join" apos) [e] [] pos) (sJoin fo fa) :=
  pe_mono (pe_join (se_st ho) (se_st ha) hs hbase hline) fun σ H Q ⟨b, Fz, F, δ, hp, R, P⟩ => by
    refine rd_bind hp R P fun v H1 Fz1 F1 x δ1 s1 R1 A1 P1 => ?_
    cases q1 : rdC δ1 x with
    | none => simp only [q1] at P1; exact P1.elim
    | some d1 =>
      cases d1 with
      | str a =>
        simp only [q1] at P1
        have ev : v = .str a := by
          rcases rdC_ok R1 A1 q1 with h | ⟨_, _, _, _, e2, _⟩
          · cases h; rfl
          · cases e2
        subst ev
        refine ⟨⟨a, rfl⟩, rd_bind hp R1 P1 fun w H2 Fz2 F2 y δ2 s2 R2 A2 P2 => ?_⟩
        unfold gJoin at P2
        cases q2 : rdC δ2 x with
        | none => simp only [q2] at P2; exact P2.elim
        | some d2 =>
          cases d2 with
          | str a2 =>
            have e2 : a2 = a := by
              rcases rdC_ok R2 (A1.le s2) q2 with h | ⟨_, _, _, _, e2, _⟩
              · cases h; rfl
              · cases e2
            subst e2
            cases q3 : rdC δ2 y with
            | none => simp only [q2, q3] at P2; exact P2.elim
            | some d3 =>
              cases d3 with
              | list ds =>
                simp only [q2, q3] at P2
                cases q4 : strsD ds with
                | none => simp only [q4] at P2; exact P2.elim
                | some ys =>
                  simp only [q4] at P2
                  by_cases c : (ys.map (·.length)).sum + ys.length * a2.length ≤ 16777216
                  · rw [if_pos c] at P2
                    have fin : ∃ p, w = .ref p ∧ SqL X.K H2 p (ys.map V.str) := by
                      rcases rdC_ok R2 A2 q3 with h | ⟨p, vs, ds2, e1, e2, e3, e4⟩
                      · cases h with
                        | lst h1 h2 => exact ⟨_, rfl, by rw [← strsD_rp h2 q4]; exact (same_sqX R2.le h1).sq⟩
                      · cases e2
                        exact ⟨p, e1, by rw [← strsD_rp e4 q4]; exact Evl.sq_of e3⟩
                    obtain ⟨p, rfl, hsq⟩ := fin
                    exact ⟨a2, p, ys, rfl, rfl, .inl hsq, c, P2 _ H2 Fz2 F2 (Same.refl _) R2 (.str _)⟩
                  · rw [if_neg c] at P2
                    exact P2.elim
              | _ => simp only [q2, q3] at P2; exact P2.elim
          | _ => cases q3 : rdC δ2 y <;> (simp only [q2, q3] at P2; exact P2.elim)
      | _ => simp only [q1] at P1; exact P1.elim
end
end Hb
namespace Hb
open PySem PySem.Spec PyProof.Rows L2
/-- names the context that rules are used in -/
structure Xof (X : Cx) : Prop where
section
variable {X : Cx} {x y : Str} {p p1 p2 pos : Pos} {e : Expr} {es : List Expr} {te : TE} {ta : TA}
theorem peO {C : Addr} {i : Nat} (_ : Xof X) (hx : X.N[i]? = some x) (vx : Vis X.env.scope x) (hg : Gl X "isinstance") (hm : X.mg "isinstance" = none) (hgy : Gl X y) (hy : X.mg y = some (.ref C))
    (dy : (y == ("__debug__" : Str)) = false := by decide) (dx : (x == ("__debug__" : Str)) = false := by decide) (cx : (x == ("__classdict__" : Str)) = false := by decide)
    (he : starEach [.Name x p1, .Name y p2] X.env = (false, eval (.Name x p1) X.env) :: starEach [.Name y p2] X.env := by rfl) :
    PE X (.Call (.Name "isinstance" p) [.Name x p1, .Name y p2] [] pos) (tCB (rIsO X.K) (tCons (tVar i) (tCons (tC (.ref C)) tNil))) := pe_isO hx vx hg hm hgy hy dy dx cx he
theorem peOB {T : String} {i : Nat} (_ : Xof X) (hx : X.N[i]? = some x) (vx : Vis X.env.scope x) (hg : Gl X "isinstance") (hm : X.mg "isinstance" = none) (hgy : Gl X y) (hy : X.mg y = none) (hb : bootBuiltins y = some (.type T))
    (hn : y ≠ "__name__" := by decide) (dy : (y == ("__debug__" : Str)) = false := by decide) (dx : (x == ("__debug__" : Str)) = false := by decide) (cx : (x == ("__classdict__" : Str)) = false := by decide)
    (he : starEach [.Name x p1, .Name y p2] X.env = (false, eval (.Name x p1) X.env) :: starEach [.Name y p2] X.env := by rfl) :
    PE X (.Call (.Name "isinstance" p) [.Name x p1, .Name y p2] [] pos) (tCB (rIsO X.K) (tCons (tVar i) (tCons (tC (.ty T)) tNil))) := pe_isOB hx vx hg hm hgy hy hb hn dy dx cx he
theorem peX1 {C : Addr} (_ : Xof X) (q : PySem.W.excIn X.K C He.veBase "ValueError.__new__" = true) (gC : X.mg x = some (.ref C)) (kC : PySem.W.keepIn X.K (.ref C) = true) (hg : Gl X x) (he : PE X e te)
    (hs : starEach [e] X.env = (false, eval e X.env) :: starEach [] X.env := by rfl) (hdb : (x == ("__debug__" : Str)) = false := by decide) :
    PE X (.Call (.Name x p) [e] [] pos) (fun σ H Q => te σ H fun _ H1 => ∀ a, H1 a = none → Q (.ref a) (upd H1 a (ExO (.ref C) a))) := pe_exc1 PySem.F.excBase_ValueError q gC kC hg he hs hdb
theorem peXV {CX : CXT} {C fI : Addr} {k : Nat} {fd : FuncData} {ps : List Str} {sp : Sp} (_ : Xof X) (T : L2.OexC X.K C) (iC : PySem.W.findIn X.K (.ref C) "__init__" = some (some (.ref fI))) (tI : PySem.W.typeIn X.K (.ref fI) = some (.type "function"))
    (F1 : FnOk X.prog X.w X.K X.mg X.base CX k fI fd ps sp) (hr : Room (k + 1) X.A) (hb : Binds X.K fd ps []) (hx : Passes CX X (fun _ _ _ => False)) (hg : Gl X x) (hm : X.mg x = some (.ref C)) (ha : PA X (e :: es) ta)
    (hdb : (x == ("__debug__" : Str)) = false := by decide) (he : starEach (e :: es) X.env = (false, eval e X.env) :: starEach es X.env := by rfl) (hpl : (backTo pos (starEach es X.env)).any (·.1) = false := by rfl) :
    PE X (.Call (.Name x p) (e :: es) [] pos) (tOexV C sp ta) := pe_oexV T iC tI F1 hr hb hx hg hm ha hdb he hpl
theorem peC {CX : CXT} {k : Nat} {f : Addr} {fd : FuncData} {ps : List Str} {sp : Sp} {E : XK} (_ : Xof X) (F : FnOk X.prog X.w X.K X.mg X.base CX k f fd ps sp) (hr : Room k X.A) (hg : Gl X x) (hm : X.mg x = some (.ref f)) (hk : PySem.W.keepIn X.K (.ref f) = true) (hb : Binds X.K fd ps []) (hx : Passes CX X E)
    (ha : PA X (e :: es) ta) (hdb : (x == ("__debug__" : Str)) = false := by decide) (he : starEach (e :: es) X.env = (false, eval e X.env) :: starEach es X.env := by rfl) (hpl : (backTo pos (starEach es X.env)).any (·.1) = false := by rfl) :
    PE X (.Call (.Name x p) (e :: es) [] pos) (tCall sp [] E ta) := pe_call F hr hg hm hk hb .nil hx ha hdb he hpl
theorem peB {id : String} {r : List V → Hp → VK → Prop} (_ : Xof X) (hc : CallR X (.builtin id) r) (hg : Gl X x) (hm : X.mg x = none) (hv : bootBuiltins x = some (.builtin id)) (ha : PA X (e :: es) ta) (hn : x ≠ "__name__" := by decide) (hdb : (x == ("__debug__" : Str)) = false := by decide)
    (he : starEach (e :: es) X.env = (false, eval e X.env) :: starEach es X.env := by rfl) (hpl : (backTo pos (starEach es X.env)).any (·.1) = false := by rfl) : PE X (.Call (.Name x p) (e :: es) [] pos) (tCB r ta) := pe_callB hc hg hm hv ha hn hdb he hpl
theorem piR {tg : Expr} (_ : Xof X) (hg : Gl X "range") (hm : X.mg "range" = none) (ha : PA X [e] ta) (hs : starEach [e] X.env = [(false, eval e X.env)] := by rfl) : PI X tg (.Call (.Name "range" p) [e] [] pos) (iRng1 ta) := pi_range1 hg hm ha hs
end
def gJoinC (a : Str) (y : AV) (δ : List Sl) : Rs AV := gJoin (.val (.str a)) y δ
def gIxS (x y : AV) (δ : List Sl) : Rs AV := match rdC δ x, rdC δ y with
  | some (.str w), some (.int i) => if w.length ≤ 100000 then (match atI w.cps.toList i with
    | some c => .ok (.val (.str ⟨#[c]⟩)) δ
    | none => .bad) else .bad
  | _, _ => .bad
section
variable {X : Cx} {W : WX} {pin : List Nat} {fa fb : List Sl → Rs AV} {a c e : Expr} {apos pos p : Pos} {j : Nat} {w : Str}
theorem se_joinC (ha : SE X W pin e fa) (hs : starEach [e] X.env = [(false, eval e X.env)] := by rfl) (hbase : attributeBase (.Constant (.str w) j p) "join" X.env (eval (.Constant (.str w) j p) X.env) = eval (.Constant (.str w) j p) X.env := by rfl) (hline : (apos.endLine == pos.line) = true := by rfl) :
    SE X W pin (.Call (.Attribute (.Constant (.str w) j p) "join" apos) [e] [] pos) (s1 (gJoinC w) fa) := se_join se_str ha hs hbase hline
theorem v2_ixS {K : PySem.W.Frag} {mg : Str → Option Value} : V2 K mg W pin rIxS gIxS := by
  intro b Fz F δ σ H v w x y Q hp R A B P
  unfold gIxS at P
  cases q1 : rdC δ x with
  | none => simp only [q1] at P; exact P.elim
  | some d1 =>
    cases q2 : rdC δ y with
    | none => cases d1 <;> (simp only [q1, q2] at P; exact P.elim)
    | some d2 =>
      cases d1 with
      | str z =>
        cases d2 with
        | int i =>
          simp only [q1, q2] at P
          by_cases cl : z.length ≤ 100000
          · rw [if_pos cl] at P
            cases q3 : atI z.cps.toList i with
            | none => simp only [q3] at P; exact P.elim
            | some c =>
              simp only [q3] at P
              have e1 : v = .str z := by
                rcases rdC_ok R A q1 with h | ⟨_, _, _, _, e2, _⟩
                · cases h; rfl
                · cases e2
              have e2 : w = .int i := rpc_int (rdC_ok R B q2)
              exact ⟨z, i, c, e1, e2, Nat.le_trans cl (by decide), q3, P _ H Fz F (Same.refl _) R (.str _)⟩
          · rw [if_neg cl] at P
            exact P.elim
        | _ => simp only [q1, q2] at P; exact P.elim
      | _ => cases d2 <;> (simp only [q1, q2] at P; exact P.elim)
theorem se_ixS (ha : SE X W pin a fa) (hb : SE X W pin c fb) (hs : PlainIx c := by intro _ _; rfl) : SE X W pin (.Subscript a c pos) (s2 gIxS fa fb) :=
  pe_mono (pe_ix ix_str (se_st ha) (se_st hb) hs) fun σ H Q ⟨b, Fz, F, δ, hp, R, P⟩ =>
    rd_bind hp R P fun v H1 Fz1 F1 x δ1 s1 R1 A1 P1 => rd_bind hp R1 P1 fun w H2 Fz2 F2 y δ2 s2 R2 A2 P2 => v2_ixS (K := X.K) (mg := X.mg) (W := W) (pin := pin) b Fz2 F2 δ2 σ H2 v w x y Q hp R2 (A1.le s2) A2 P2
end
end Hb
namespace Hb
open PySem L2
abbrev fi (i : Int) : El := .fz (.int i)
section
variable {f fa fb fo : List Sl → Rs AV} {δ δ1 δ2 : List Sl} {a x y : AV} {d e : PyData} {u w : List Sl → Ot} {t : List Sl → Rs Bool}
@[simp] theorem e_sC : sC d δ = .ok (.val d) δ := rfl
@[simp] theorem e_val : sSt (fun δ => .ok (.val d) δ) δ = .ok (.val d) δ := rfl
@[simp] theorem e_bind {α β : Type} {v : α} {k : α → List Sl → Rs β} : (Rs.ok v δ).bind k = k v δ := rfl
@[simp] theorem e_bindb {α β : Type} {k : α → List Sl → Rs β} : (Rs.bad : Rs α).bind k = .bad := rfl
@[simp] theorem e_ot {α : Type} {v : α} {k : α → List Sl → Ot} : (Rs.ok v δ).ot k = k v δ := rfl
@[simp] theorem e_otU {v : Unit} : (Rs.ok v δ).otU = .nx δ := rfl
@[simp] theorem e_oNext : oNext δ = .nx δ := rfl
@[simp] theorem e_rdAv : rdA δ (.val d) = some d := rfl
@[simp] theorem e_rdCv : rdC δ (.val d) = some d := rfl
@[simp] theorem e_allFz (ds : List PyData) : allFz (ds.map El.fz) = some ds := by
  induction ds with
  | nil => rfl
  | cons d r ih => simp [allFz, ih]
end
end Hb
namespace Nv
open PySem Hb L2
/-- a value of Lean's, as a tree -/
class Enc (α : Type) where
  enc : α → PyData
open Enc (enc)
instance : Enc Int := ⟨.int⟩
instance : Enc Bool := ⟨.bool⟩
instance : Enc Str := ⟨.str⟩
instance : Enc Unit := ⟨fun _ => .none⟩
instance : Enc PyData := ⟨fun d => d⟩
instance {α : Type} [Enc α] : Enc (List α) := ⟨fun xs => .list (xs.map enc)⟩
instance {α : Type} [Enc α] : Enc (Option α) := ⟨fun x => match x with
  | none => .none
  | some x => enc x⟩
instance {α β : Type} [Enc α] [Enc β] : Enc (α × β) := ⟨fun x => .tuple [enc x.1, enc x.2]⟩
structure T3 (α β γ : Type) where
  a : α
  b : β
  c : γ
deriving DecidableEq
structure T4 (α β γ δ : Type) where
  a : α
  b : β
  c : γ
  d : δ
deriving DecidableEq
/-- a tuple of any length -/
structure Tp (α : Type) where
  l : List α
deriving DecidableEq
/-- a dict -/
structure Dc (κ α : Type) where
  l : List (κ × α)
deriving DecidableEq
instance {α β γ : Type} [Enc α] [Enc β] [Enc γ] : Enc (T3 α β γ) := ⟨fun x => .tuple [enc x.a, enc x.b, enc x.c]⟩
instance {α β γ δ : Type} [Enc α] [Enc β] [Enc γ] [Enc δ] : Enc (T4 α β γ δ) := ⟨fun x => .tuple [enc x.a, enc x.b, enc x.c, enc x.d]⟩
instance {α : Type} [Enc α] : Enc (Tp α) := ⟨fun x => .tuple (x.l.map enc)⟩
instance {κ α : Type} [Enc κ] [Enc α] : Enc (Dc κ α) := ⟨fun x => .dict (x.l.map fun p => (enc p.1, enc p.2))⟩
/-- a list of one's own whose items stand still; .. whose items are rows of one's own; a dict of one's own -/
def ow {α : Type} [Enc α] (xs : List α) : Sl := .ol ((xs.map enc).map .fz)
def oww {α : Type} [Enc α] (xs : List (List α)) : Sl := .ol (xs.map fun r => .ow (r.map enc))
def od {κ α : Type} [Enc κ] [Enc α] (x : Dc κ α) : Sl := .od (x.l.map fun p => (enc p.1, enc p.2))
section
variable {α : Type} [Enc α]
theorem map_fzd (ds : List PyData) : (ds.map El.fz).map El.d = ds := by
  rw [List.map_map]
  exact List.map_id' ds
theorem ow_tree (xs : List α) : (ow xs).tree = some (enc xs) := by
  show some (PyData.list _) = some (PyData.list _)
  rw [map_fzd]
theorem allFz_map : ∀ ds : List PyData, allFz (ds.map .fz) = some ds
  | [] => rfl
  | d :: r => by
    show (allFz (r.map .fz)).map (d :: ·) = _
    rw [allFz_map r]
    rfl
theorem oww_tree (xs : List (List α)) : (oww xs).tree = some (enc xs) := by
  show some (PyData.list _) = some (PyData.list _)
  rw [List.map_map]
  rfl
end
inductive Pt where
  | aa | any | pl | eq (s : Sl) | tr (d : PyData) | ts (d : PyData)
def isAl : Sl → Bool
  | .al _ _ => true
  | _ => false
def isLs : PyData → Bool
  | .list _ => true
  | _ => false
def Pt.Ok : Pt → Sl → Prop
  | .aa, _ => True
  | .any, s => isAl s = false
  | .pl, s => plainS (some s) = true
  | .eq t, s => s = t
  | .tr d, s => s.tree = some d ∧ (∃ ds : List PyData, s = .ol (ds.map .fz)) ∨ s = .fz d
  | .ts d, s => s.tree = some d ∧ (∃ ds : List PyData, s = .ol (ds.map .fz)) ∨ (s = .fz d ∧ isLs d = false)
abbrev Ga := List Pt
inductive Sat : Ga → List Sl → Prop
  | nil : Sat [] []
  | cons {p : Pt} {s : Sl} {Γ : Ga} {δ : List Sl} : p.Ok s → Sat Γ δ → Sat (p :: Γ) (s :: δ)
theorem Sat.len {Γ : Ga} {δ : List Sl} (h : Sat Γ δ) : Γ.length = δ.length := by
  induction h with
  | nil => rfl
  | cons _ _ ih => simp [ih]
theorem Sat.get {Γ : Ga} {δ : List Sl} (h : Sat Γ δ) : ∀ {k : Nat} {p : Pt}, Γ[k]? = some p → ∃ s, δ[k]? = some s ∧ p.Ok s := by
  induction h with
  | nil => intro k p e; simp at e
  | cons h1 _ ih =>
    intro k p e
    cases k with
    | zero => simp at e; subst e; exact ⟨_, rfl, h1⟩
    | succ k => exact ih (by simpa using e)
theorem Sat.at_ {Γ : Ga} {δ : List Sl} (h : Sat Γ δ) {k : Nat} {s : Sl} (e : Γ[k]? = some (.eq s)) : δ[k]? = some s := by
  obtain ⟨t, e1, e2⟩ := h.get e
  rw [e1, show t = s from e2]
theorem Sat.set {Γ : Ga} {δ : List Sl} (h : Sat Γ δ) {p : Pt} {s : Sl} (hp : p.Ok s) : ∀ (k : Nat), Sat (Γ.set k p) (δ.set k s) := by
  induction h with
  | nil => intro k; cases k <;> exact .nil
  | cons h1 h2 ih =>
    intro k
    cases k with
    | zero => exact .cons hp h2
    | succ k => exact .cons h1 (ih k)
def dropP (i : Nat) : Pt → Pt
  | .eq (.al x j) => if x = i then .eq .no else .eq (.al x j)
  | p => p
def upP (i : Nat) (p : Pt) (Γ : Ga) : Ga := (Γ.map (dropP i)).set i p
def dropS (i : Nat) : Sl → Sl
  | .al x j => if x = i then .no else .al x j
  | s => s
theorem dropAl_eq (i : Nat) (δ : List Sl) : dropAl i δ = δ.map (dropS i) := by
  unfold dropAl
  congr 1
theorem dropP_ok {i : Nat} {p : Pt} {s : Sl} (h : p.Ok s) : (dropP i p).Ok (dropS i s) := by
  cases p with
  | aa => trivial
  | any =>
    cases s with
    | al x j => cases h
    | _ => exact h
  | pl =>
    cases s with
    | al x j => cases h
    | _ => exact h
  | eq t =>
    have h : s = t := h
    subst h
    cases s with
    | al x j =>
      show (if x = i then Pt.eq .no else .eq (.al x j)).Ok (if x = i then .no else .al x j)
      by_cases c : x = i
      · rw [if_pos c, if_pos c]; rfl
      · rw [if_neg c, if_neg c]; rfl
    | _ => rfl
  | tr d =>
    cases s with
    | al x j =>
      rcases h with ⟨h, _⟩ | h <;> cases h
    | _ => exact h
  | ts d =>
    cases s with
    | al x j =>
      rcases h with ⟨h, _⟩ | ⟨h, _⟩ <;> cases h
    | _ => exact h
theorem Sat.drop {Γ : Ga} {δ : List Sl} (h : Sat Γ δ) (i : Nat) : Sat (Γ.map (dropP i)) (dropAl i δ) := by
  rw [dropAl_eq]
  induction h with
  | nil => exact .nil
  | cons h1 _ ih => exact .cons (dropP_ok h1) ih
theorem Sat.up {Γ : Ga} {δ : List Sl} (h : Sat Γ δ) {i : Nat} {p : Pt} {s : Sl} (hp : p.Ok s) : Sat (upP i p Γ) (upS i s δ) := (h.drop i).set hp i
def calmP : Pt → Bool
  | .aa => false
  | .eq s => !isAl s
  | _ => true
/-- weaker -/
inductive PtLe : Pt → Pt → Prop
  | rfl {p : Pt} : PtLe p p
  | aa {p : Pt} : PtLe p .aa
  | any {p : Pt} (h : calmP p = true := by rfl) : PtLe p .any
  | no : PtLe (.eq .no) .pl
  | fz {d : PyData} : PtLe (.eq (.fz d)) .pl
  | trf {d : PyData} : PtLe (.eq (.fz d)) (.tr d)
  | tro {α : Type} [Enc α] {xs : List α} {d : PyData} : enc xs = d → PtLe (.eq (ow xs)) (.tr d)
  | tsf {d : PyData} (h : isLs d = false := by rfl) : PtLe (.eq (.fz d)) (.ts d)
  | tso {α : Type} [Enc α] {xs : List α} {d : PyData} : enc xs = d → PtLe (.eq (ow xs)) (.ts d)
  | tst {d : PyData} : PtLe (.ts d) (.tr d)
theorem PtLe.ok {p q : Pt} (h : PtLe p q) {s : Sl} (hs : p.Ok s) : q.Ok s := by
  cases h with
  | rfl => exact hs
  | aa => trivial
  | any h =>
    cases p with
    | aa => cases h
    | any => exact hs
    | pl => cases s <;> first | rfl | cases hs
    | eq t =>
      cases (show s = t from hs)
      show isAl s = false
      simpa [calmP] using h
    | tr d =>
      rcases hs with ⟨_, ds, rfl⟩ | rfl <;> rfl
    | ts d =>
      rcases hs with ⟨_, ds, rfl⟩ | ⟨rfl, _⟩ <;> rfl
  | no => cases (show s = .no from hs); rfl
  | fz => cases (show s = .fz _ from hs); rfl
  | trf => exact .inr hs
  | @tro α _ xs d e =>
    cases (show s = ow xs from hs)
    exact .inl ⟨by rw [← e]; exact ow_tree xs, xs.map enc, Eq.refl _⟩
  | tsf h => exact .inr ⟨hs, h⟩
  | @tso α _ xs d e =>
    cases (show s = ow xs from hs)
    exact .inl ⟨by rw [← e]; exact ow_tree xs, xs.map enc, Eq.refl _⟩
  | tst => exact hs.imp id And.left
inductive GaLe : Ga → Ga → Prop
  | nil : GaLe [] []
  | cons {p q : Pt} {Γ Δ : Ga} : PtLe p q → GaLe Γ Δ → GaLe (p :: Γ) (q :: Δ)
theorem Sat.wk {Γ Δ : Ga} {δ : List Sl} (h : Sat Γ δ) (l : GaLe Γ Δ) : Sat Δ δ := by
  induction l generalizing δ with
  | nil => exact h
  | cons h1 _ ih =>
    cases h with
    | cons a b => exact .cons (h1.ok a) (ih b)
section
variable {β : Type}
/-- what it gives, and what stands behind -/
def Ev (f : List Sl → Rs AV) (Γ : Ga) (p : Option β) (a : β → AV) (Γ' : β → Ga) : Prop := ∀ v, p = some v → ∀ δ, Sat Γ δ → ∃ δ', f δ = .ok (a v) δ' ∧ Sat (Γ' v) δ'
/-- nothing changes -/
def Pu (f : List Sl → Rs AV) (Γ : Ga) (p : Option β) (a : β → AV) : Prop := ∀ v, p = some v → ∀ δ, Sat Γ δ → f δ = .ok (a v) δ
/-- nothing changes, and its tree may be read -/
def Ra (f : List Sl → Rs AV) (Γ : Ga) (p : Option β) (d : β → PyData) : Prop := ∀ v, p = some v → ∀ δ, Sat Γ δ → ∃ a, sSt f δ = .ok a δ ∧ rdA δ a = some (d v)
def Rd (f : List Sl → Rs AV) (Γ : Ga) (p : Option β) (d : β → PyData) : Prop := ∀ v, p = some v → ∀ δ, Sat Γ δ → ∃ a, sSt f δ = .ok a δ ∧ rdC δ a = some (d v) ∧ rdA δ a = some (d v)
/-- a value -/
def Er (f : List Sl → Rs AV) (Γ : Ga) (p : Option β) (d : β → PyData) (Γ' : β → Ga) : Prop := ∀ v, p = some v → ∀ δ, Sat Γ δ → ∃ δ', sSt f δ = .ok (.val (d v)) δ' ∧ Sat (Γ' v) δ'
/-- its tree may be read -/
def Es (f : List Sl → Rs AV) (Γ : Ga) (p : Option β) (d : β → PyData) (Γ' : β → Ga) : Prop := ∀ v, p = some v → ∀ δ, Sat Γ δ → ∃ a δ', sSt f δ = .ok a δ' ∧ rdC δ' a = some (d v) ∧ rdA δ' a = some (d v) ∧ Sat (Γ' v) δ'
/-- tests -/
def Ts (t : List Sl → Rs Bool) (Γ : Ga) (p : Option Bool) : Prop := ∀ v, p = some v → ∀ δ, Sat Γ δ → t δ = .ok v δ
def Te (t : List Sl → Rs Bool) (Γ : Ga) (p : Option β) (k : β → Bool) (Γ' : β → Ga) : Prop := ∀ v, p = some v → ∀ δ, Sat Γ δ → ∃ δ', t δ = .ok (k v) δ' ∧ Sat (Γ' v) δ'
/-- statements -/
def Bl (f : List Sl → Ot) (Γ : Ga) (p : Option β) (R : β → Ot → Prop) : Prop := ∀ v, p = some v → ∀ δ, Sat Γ δ → R v (f δ)
end
section
variable {α β γ ε : Type} {f fa fb g : List Sl → Rs AV} {Γ : Ga} {Γ' : β → Ga} {p : Option β} {a : β → AV} {d : β → PyData}
theorem some_of {α : Type} {x v : α} (h : some x = some v) : v = x := (Option.some.inj h).symm
theorem bind_of {α β : Type} {p : Option α} {k : α → Option β} {v : β} (h : p.bind k = some v) : ∃ x, p = some x ∧ k x = some v := by
  cases p with
  | none => cases h
  | some x => exact ⟨x, rfl, h⟩
theorem sSt_val {δ δ' : List Sl} {x : PyData} (h : f δ = .ok (.val x) δ') : sSt f δ = .ok (.val x) δ' := by
  unfold sSt; rw [h]
theorem sSt_ref {δ δ' : List Sl} {x : Nat} (h : f δ = .ok (.ref x) δ') : sSt f δ = .ok (.ref x) δ' := by
  unfold sSt; rw [h]
theorem sSt_tmp {δ δ' : List Sl} {s : Sl} {x : PyData} (h : f δ = .ok (.tmp s) δ') (e : s.tree = some x) : sSt f δ = .ok (.val x) δ' := by
  unfold sSt; rw [h]; simp only [e]
theorem Pu.ev (h : Pu f Γ p a) : Ev f Γ p a fun _ => Γ := fun v e δ s => ⟨δ, h v e δ s, s⟩
theorem Pu.rd (h : Pu f Γ p fun v => .val (d v)) : Rd f Γ p d := fun v e δ s => ⟨_, sSt_val (h v e δ s), rfl, rfl⟩
theorem Pu.rdT {s : β → Sl} (h : Pu f Γ p fun v => .tmp (s v)) (ht : ∀ v, (s v).tree = some (d v)) : Rd f Γ p d := fun v e δ z => ⟨_, sSt_tmp (h v e δ z) (ht v), rfl, rfl⟩
theorem Rd.ra (h : Rd f Γ p d) : Ra f Γ p d := fun v e δ s => let ⟨x, h1, _, h3⟩ := h v e δ s; ⟨x, h1, h3⟩
theorem Ev.er (h : Ev f Γ p (fun v => .val (d v)) Γ') : Er f Γ p d Γ' := fun v e δ s => let ⟨δ', h1, h2⟩ := h v e δ s; ⟨δ', sSt_val h1, h2⟩
theorem Ev.erT {s : β → Sl} (h : Ev f Γ p (fun v => .tmp (s v)) Γ') (ht : ∀ v, (s v).tree = some (d v)) : Er f Γ p d Γ' := fun v e δ z => let ⟨δ', h1, h2⟩ := h v e δ z; ⟨δ', sSt_tmp h1 (ht v), h2⟩
theorem Er.es (h : Er f Γ p d Γ') : Es f Γ p d Γ' := fun v e δ s => let ⟨δ', h1, h2⟩ := h v e δ s; ⟨_, δ', h1, rfl, rfl, h2⟩
theorem Rd.es (h : Rd f Γ p d) : Es f Γ p d fun _ => Γ := fun v e δ s => let ⟨x, h1, h2, h3⟩ := h v e δ s; ⟨x, δ, h1, h2, h3, s⟩
theorem pu_c [Enc α] {x : α} {y : PyData} (h : enc x = y := by rfl) : Pu (sC y) Γ (some x) fun v => .val (enc v) := fun v e δ _ => by
  cases some_of e
  show _ = Rs.ok (AV.val (enc x)) δ
  rw [h]
  rfl
theorem pu_var [Enc α] {x : α} (k : Nat) (h : Γ[k]? = some (.eq (.fz (enc x)))) : Pu (sVar k) Γ (some x) fun v => .val (enc v) := fun v e δ s => by
  cases some_of e
  unfold sVar
  rw [s.at_ h]
theorem pu_own [Enc α] {x : List α} (k : Nat) (h : Γ[k]? = some (.eq (ow x))) : Pu (sVar k) Γ (some x) fun _ => .ref k := fun v e δ s => by
  cases some_of e
  unfold sVar
  rw [s.at_ h]
  rfl
theorem rd_own [Enc α] {x : List α} (k : Nat) (h : Γ[k]? = some (.eq (ow x))) : Rd (sVar k) Γ (some x) enc := fun v e δ s => by
  cases some_of e
  refine ⟨.ref k, sSt_ref (pu_own k h x rfl δ s), ?_, ?_⟩
  · simp only [rdC, s.at_ h, ow]
    show (allFz _).map _ = _
    rw [allFz_map]
    rfl
  · simp only [rdA, s.at_ h, ow]
    exact ow_tree x
theorem Pu.tk (h : Pu f Γ p fun v => .val (d v)) : Ev (sTk f) Γ p (fun v => .val (d v)) fun _ => Γ := fun v e δ s => ⟨δ, by unfold sTk; rw [sSt_val (h v e δ s)], s⟩
theorem Pu.tkP (h : Pu f Γ p fun v => .val (d v)) : Pu (sTk f) Γ p (fun v => .val (d v)) := fun v e δ s => by unfold sTk; rw [sSt_val (h v e δ s)]
theorem Pu.tkTP {s : β → Sl} (h : Pu f Γ p fun v => .tmp (s v)) (ht : ∀ v, (s v).tree = some (d v)) : Pu (sTk f) Γ p (fun v => .val (d v)) := fun v e δ z => by unfold sTk; rw [sSt_tmp (h v e δ z) (ht v)]
theorem Ev.tk (h : Ev f Γ p (fun v => .val (d v)) Γ') : Ev (sTk f) Γ p (fun v => .val (d v)) Γ' := fun v e δ s => let ⟨δ', h1, h2⟩ := h v e δ s; ⟨δ', by unfold sTk; rw [sSt_val h1], h2⟩
end
end Nv
namespace Nv
open PySem Hb L2
open Enc (enc)
section
variable {α β γ : Type} [Enc α] [Enc β]
def Op2 (g : AV → AV → List Sl → Rs AV) (op : α → β → Option γ) (a : γ → AV) : Prop := ∀ v w r δ x y, rdC δ x = some (enc v) → rdA δ x = some (enc v) → rdC δ y = some (enc w) → rdA δ y = some (enc w) → op v w = some r → g x y δ = .ok (a r) δ
def Op2A (g : AV → AV → List Sl → Rs AV) (op : α → β → Option γ) (a : γ → AV) : Prop := ∀ v w r δ x y, rdA δ x = some (enc v) → rdA δ y = some (enc w) → op v w = some r → g x y δ = .ok (a r) δ
def Op1 (g : AV → List Sl → Rs AV) (op : α → Option γ) (a : γ → AV) : Prop := ∀ v r δ x, rdC δ x = some (enc v) → rdA δ x = some (enc v) → op v = some r → g x δ = .ok (a r) δ
def Op1A (g : AV → List Sl → Rs AV) (op : α → Option γ) (a : γ → AV) : Prop := ∀ v r δ x, rdA δ x = some (enc v) → op v = some r → g x δ = .ok (a r) δ
end
section
variable {α β γ ε ζ : Type} [Enc α] [Enc β] {Γ : Ga} {fa fb : List Sl → Rs AV} {g : AV → AV → List Sl → Rs AV} {h : AV → List Sl → Rs AV} {op : α → β → Option γ} {op1 : α → Option γ} {a : γ → AV}
theorem pu2 (o : Op2 g op a) {pa : Option α} {pb : Option β} (ha : Rd fa Γ pa enc) (hb : Rd fb Γ pb enc) : Pu (s2 g fa fb) Γ (pa.bind fun v => pb.bind fun w => op v w) a := fun r e δ s => by
  obtain ⟨v, e1, e⟩ := bind_of e
  obtain ⟨w, e2, e⟩ := bind_of e
  obtain ⟨x, h1, h2, h3⟩ := ha v e1 δ s
  obtain ⟨y, k1, k2, k3⟩ := hb w e2 δ s
  unfold s2
  rw [h1]
  show (sSt fb δ).bind _ = _
  rw [k1]
  exact o v w r δ x y h2 h3 k2 k3 e
theorem pu1A (o : Op1A h op1 a) {pa : Option α} (ha : Ra fa Γ pa enc) : Pu (s1 h fa) Γ (pa.bind op1) a := fun r e δ s => by
  obtain ⟨v, e1, e⟩ := bind_of e
  obtain ⟨x, h1, h3⟩ := ha v e1 δ s
  unfold s1
  rw [h1]
  exact o v r δ x h3 e
/-- another shape of what it gives -/
theorem Ev.map {f : List Sl → Rs AV} {p : Option ε} {aa : ε → AV} {Γ1 : ε → Ga} {bb : ζ → AV} {Γ2 : ζ → Ga} (hh : Ev f Γ p aa Γ1) (k : ε → ζ) (h1 : ∀ x, bb (k x) = aa x := by intro _; rfl) (h2 : ∀ x, Γ2 (k x) = Γ1 x := by intro _; rfl) : Ev f Γ (p.bind fun x => some (k x)) bb Γ2 := fun r e δ s => by
  obtain ⟨v, e1, e⟩ := bind_of e
  cases some_of e
  obtain ⟨δ', q1, q2⟩ := hh v e1 δ s
  exact ⟨δ', by rw [h1]; exact q1, by rw [h2]; exact q2⟩
theorem Rd.un {f : List Sl → Rs AV} {p : Option (Option α)} (hh : Rd f Γ p enc) : Rd f Γ (p.bind fun d => d) (enc : α → PyData) := fun r e δ s => by
  obtain ⟨v, e1, e⟩ := bind_of e
  subst e
  exact hh _ e1 δ s
theorem Rd.any {f : List Sl → Rs AV} {p : Option α} (hh : Rd f Γ p enc) : Rd f Γ (p.bind fun d => some (enc d)) (enc : PyData → PyData) := fun r e δ s => by
  obtain ⟨v, e1, e⟩ := bind_of e
  cases some_of e
  exact hh _ e1 δ s
end
def addI (i j : Int) : Option Int := some (i + j)
def mulI (i j : Int) : Option Int := if i.natAbs < 2 ^ 64 ∨ j.natAbs < 2 ^ 64 then some (i * j) else none
def modI (i j : Int) : Option Int := if 0 < j then some (i % j) else none
def ltI (i j : Int) : Option Bool := some (decide (i < j))
def geI (i j : Int) : Option Bool := some (decide (j ≤ i))
def maxI2 (i j : Int) : Option Int := some (if j > i then j else i)
def minI2 (i j : Int) : Option Int := some (if j < i then j else i)
section
variable {g : Int → Int → Int} {C : Int → Int → Bool}
theorem op_gI {op : Int → Int → Option Int} (h : ∀ i j r, op i j = some r → C i j = true ∧ r = g i j) : Op2 (gI C g) op fun r => .val (enc r) := fun v w r δ x y h1 _ h2 _ e => by
  obtain ⟨c, rfl⟩ := h v w r e
  have h1 : rdC δ x = some (.int v) := h1
  have h2 : rdC δ y = some (.int w) := h2
  simp only [gI, h1, h2, c]
  rfl
theorem op_gI0 : Op2 (gI yes2 g) (fun i j => some (g i j)) fun r => .val (enc r) := op_gI fun i j r e => ⟨rfl, some_of e⟩
theorem op_gIc {C : Int → Int → Prop} [∀ i j, Decidable (C i j)] : Op2 (gI (fun i j => decide (C i j)) g) (fun i j => if C i j then some (g i j) else none) fun r => .val (enc r) := op_gI fun i j r e => by
  have e : (if C i j then some (g i j) else none) = some r := e
  by_cases c : C i j
  · rw [if_pos c] at e
    exact ⟨decide_eq_true c, some_of e⟩
  · rw [if_neg c] at e
    cases e
theorem op_gB {g : Int → Int → Bool} : Op2 (gB g) (fun i j => some (g i j)) fun r => .val (enc r) := fun v w r δ x y h1 _ h2 _ e => by
  have h1 : rdC δ x = some (.int v) := h1
  have h2 : rdC δ y = some (.int w) := h2
  cases some_of e
  simp only [gB, h1, h2]
  rfl
theorem op_max2 : Op2 gMax2 maxI2 fun r => .val (enc r) := op_gI0
theorem op_min2 : Op2 gMin2 minI2 fun r => .val (enc r) := op_gI0
theorem op_mod : Op2 gMod modI fun r => .val (enc r) := op_gIc (C := fun _ j => 0 < j)
theorem op_lt : Op2 gLt ltI fun r => .val (enc r) := op_gB
theorem op_ge : Op2 gGe geI fun r => .val (enc r) := op_gB
theorem op_add : Op2 gAdd addI fun r => .val (enc r) := fun v w r δ x y h1 _ h2 _ e => by
  have h1 : rdC δ x = some (.int v) := h1
  have h2 : rdC δ y = some (.int w) := h2
  cases some_of e
  simp only [gAdd, h1, h2]
  rfl
theorem op_mul : Op2 gMulX mulI fun r => .val (enc r) := fun v w r δ x y h1 _ h2 _ e => by
  have h1 : rdC δ x = some (.int v) := h1
  have h2 : rdC δ y = some (.int w) := h2
  unfold mulI at e
  by_cases c : v.natAbs < 2 ^ 64 ∨ w.natAbs < 2 ^ 64
  · rw [if_pos c] at e
    cases some_of e
    simp only [gMulX, h1, h2, if_pos c]
    rfl
  · rw [if_neg c] at e
    cases e
end
def catL {α : Type} (xs ys : List α) : Option (List α) := if xs.length ≤ cap ∧ ys.length ≤ cap then some (xs ++ ys) else none
def lenL {α : Type} (xs : List α) : Option Int := some xs.length
def atL {α : Type} (xs : List α) (i : Int) : Option α := atI xs i
def cutL {α : Type} (xs : List α) (lo hi : Option Int) : List α := (xs.drop (HT.sIx xs.length 0 lo)).take (HT.sIx xs.length xs.length hi - HT.sIx xs.length 0 lo)
def absI (i : Int) : Option Int := some (if i < 0 then -i else i)
def intI (i : Int) : Option Int := some i
def intB (k : Bool) : Option Int := some (if k then 1 else 0)
theorem allFz_inv : ∀ {xs : List El} {ds : List PyData}, allFz xs = some ds → xs = ds.map .fz
  | [], _, h => by cases h; rfl
  | .fz d :: r, ds, h => by
    have h : (allFz r).map (d :: ·) = some ds := h
    cases q : allFz r with
    | none => rw [q] at h; cases h
    | some es =>
      rw [q] at h
      cases h
      rw [allFz_inv q]
      rfl
  | .ow _ :: _, _, h => by cases h
section
variable {α β : Type} [Enc α] [Enc β]
theorem op_cat : Op2 gAdd (catL (α := α)) fun r => .tmp (ow r) := fun v w r δ x y h1 _ h2 _ e => by
  have h1 : rdC δ x = some (.list (v.map enc)) := h1
  have h2 : rdC δ y = some (.list (w.map enc)) := h2
  unfold catL at e
  by_cases c : v.length ≤ cap ∧ w.length ≤ cap
  · rw [if_pos c] at e
    cases some_of e
    simp only [gAdd, h1, h2, List.length_map, if_pos c, ow, List.map_append]
  · rw [if_neg c] at e
    cases e
theorem item_list {δ : List Sl} {x : AV} {ds : List PyData} (h : rdC δ x = some (.list ds)) (i : Int) : itemA δ x (.int i) = atI ds i := by
  cases x with
  | val d => cases h; rfl
  | tmp s => cases h
  | ref k =>
    unfold rdC at h
    unfold itemA
    cases q : δ[k]? with
    | none => simp only [q] at h; cases h
    | some s =>
      cases s with
      | no => simp only [q] at h; cases h
      | od kvs => simp only [q] at h; cases h
      | fz d => simp only [q] at h ⊢; cases h; rfl
      | ol xs =>
        simp only [q] at h ⊢
        cases q2 : allFz xs with
        | none => rw [q2] at h; cases h
        | some es =>
          rw [q2] at h
          cases h
          rw [allFz_inv q2, atI_map]
          cases atI ds i <;> rfl
      | al y j =>
        simp only [q] at h ⊢
        cases q2 : δ[y]? with
        | none => simp only [q2] at h; cases h
        | some t =>
          cases t with
          | ol xs =>
            simp only [q2] at h ⊢
            cases q3 : xs[j]? with
            | none => rw [q3] at h; cases h
            | some el =>
              rw [q3] at h
              cases el with
              | fz d => cases h; rfl
              | ow ys => cases h; rfl
          | _ => simp only [q2] at h; cases h
theorem op_ix : Op2 gIx (atL (α := α)) fun r => .val (enc r) := fun v w r δ x y h1 _ h2 _ e => by
  have h2 : rdC δ y = some (.int w) := h2
  simp only [gIx, h2, item_list (show rdC δ x = some (.list (v.map enc)) from h1), atI_map]
  have e : atI v w = some r := e
  rw [e]
  rfl
theorem op_len : Op1A (gRd lenD) (lenL (α := α)) fun r => .val (enc r) := fun v r δ x h e => by
  have h : rdA δ x = some (.list (v.map enc)) := h
  cases some_of e
  simp only [gRd, h, Option.bind_some, lenD, List.length_map, flatD, if_true]
  rfl
theorem op_rd {k : PyData → Option PyData} {op : α → Option β} (hf : ∀ v r, op v = some r → k (enc v) = some (enc r) ∧ flatD (enc r) = true) : Op1A (gRd k) op fun r => .val (enc r) := fun v r δ x h e => by
  obtain ⟨h1, h2⟩ := hf v r e
  simp only [gRd, h, Option.bind_some, h1, h2, if_true]
theorem op_abs : Op1A (gRd absD) absI fun r => .val (enc r) := op_rd fun v r e => by cases some_of e; exact ⟨rfl, rfl⟩
theorem op_int : Op1A (gRd intD) intI fun r => .val (enc r) := op_rd fun v r e => by cases some_of e; exact ⟨rfl, rfl⟩
theorem op_intB : Op1A (gRd intD) intB fun r => .val (enc r) := op_rd fun v r e => by cases some_of e; exact ⟨rfl, rfl⟩
end
end Nv
namespace Nv
open PySem Hb L2
open Enc (enc)
class EncEq (α : Type) [Enc α] [DecidableEq α] where
  n : Nat
  eqv : ∀ x y : α, PyData.eqv (enc x) (enc y) = decide (x = y)
  lay : ∀ x : α, (enc x).canLay0 = true
  dep : ∀ x : α, (enc x).depth ≤ n
class NotNone (α : Type) [Enc α] : Prop where
  a : ∀ x : α, PyData.eqv (enc x) .none = false
  b : ∀ x : α, PyData.eqv .none (enc x) = false
  c : ∀ x : α, enc x ≠ .none
instance : NotNone Int := ⟨fun _ => by simp [enc, PyData.eqv], fun _ => by simp [enc, PyData.eqv], fun _ h => nomatch h⟩
instance : NotNone Bool := ⟨fun _ => by simp [enc, PyData.eqv], fun _ => by simp [enc, PyData.eqv], fun _ h => nomatch h⟩
instance : NotNone Str := ⟨fun _ => by simp [enc, PyData.eqv], fun _ => by simp [enc, PyData.eqv], fun _ h => nomatch h⟩
instance {α : Type} [Enc α] : NotNone (List α) := ⟨fun _ => by simp [enc, PyData.eqv], fun _ => by simp [enc, PyData.eqv], fun _ h => nomatch h⟩
instance {α : Type} [Enc α] : NotNone (Tp α) := ⟨fun _ => by simp [enc, PyData.eqv], fun _ => by simp [enc, PyData.eqv], fun _ h => nomatch h⟩
instance {α β : Type} [Enc α] [Enc β] : NotNone (α × β) := ⟨fun _ => by simp [enc, PyData.eqv], fun _ => by simp [enc, PyData.eqv], fun _ h => nomatch h⟩
instance {α β γ : Type} [Enc α] [Enc β] [Enc γ] : NotNone (T3 α β γ) := ⟨fun _ => by simp [enc, PyData.eqv], fun _ => by simp [enc, PyData.eqv], fun _ h => nomatch h⟩
instance : EncEq Int := ⟨0, fun x y => by simp [enc, PyData.eqv]; by_cases h : x = y <;> simp [h], fun _ => by simp [enc, PyData.canLay0], fun _ => by simp [enc, PyData.depth]⟩
instance : EncEq Bool := ⟨0, fun x y => by cases x <;> cases y <;> simp [enc, PyData.eqv], fun _ => by simp [enc, PyData.canLay0], fun _ => by simp [enc, PyData.depth]⟩
instance : EncEq Unit := ⟨0, fun x y => by simp [enc, PyData.eqv], fun _ => by simp [enc, PyData.canLay0], fun _ => by simp [enc, PyData.depth]⟩
section
variable {α : Type} [Enc α] [DecidableEq α] [EncEq α]
theorem eqvAll_enc : ∀ xs ys : List α, PyData.eqvAll (xs.map enc) (ys.map enc) = decide (xs = ys)
  | [], [] => by simp [PyData.eqvAll]
  | [], y :: ys => by simp [PyData.eqvAll]
  | x :: xs, [] => by simp [PyData.eqvAll]
  | x :: xs, y :: ys => by
    simp only [List.map_cons, PyData.eqvAll, eqvAll_enc xs ys, EncEq.eqv]
    by_cases h : x = y <;> by_cases h2 : xs = ys <;> simp [h, h2]
theorem layAll_enc : ∀ xs : List α, PyData.canLayAll0 (xs.map enc) = true
  | [] => by simp [PyData.canLayAll0]
  | x :: xs => by simp [PyData.canLayAll0, EncEq.lay, layAll_enc xs]
theorem depAll_enc : ∀ xs : List α, PyData.depthAll (xs.map enc) ≤ EncEq.n α
  | [] => by simp [PyData.depthAll]
  | x :: xs => by
    have h1 := EncEq.dep x
    have h2 := depAll_enc xs
    simp only [List.map_cons, PyData.depthAll]
    omega
end
instance {α : Type} [Enc α] [DecidableEq α] [EncEq α] : EncEq (List α) := ⟨EncEq.n α + 1, fun x y => by
    show PyData.eqv (.list _) (.list _) = _
    simp only [PyData.eqv]
    exact eqvAll_enc x y, fun x => by
    show PyData.canLay0 (.list _) = true
    simp only [PyData.canLay0]
    exact layAll_enc x, fun x => by
    show PyData.depth (.list _) ≤ _
    simp only [PyData.depth]
    have := depAll_enc x
    omega⟩
instance {α : Type} [Enc α] [DecidableEq α] [EncEq α] : EncEq (Tp α) := ⟨EncEq.n α + 1, fun x y => by
    show PyData.eqv (.tuple _) (.tuple _) = _
    simp only [PyData.eqv]
    rw [eqvAll_enc]
    cases x; cases y
    simp, fun x => by
    show PyData.canLay0 (.tuple _) = true
    simp only [PyData.canLay0]
    exact layAll_enc x.l, fun x => by
    show PyData.depth (.tuple _) ≤ _
    simp only [PyData.depth]
    have := depAll_enc x.l
    omega⟩
instance {α β : Type} [Enc α] [DecidableEq α] [EncEq α] [Enc β] [DecidableEq β] [EncEq β] : EncEq (α × β) := ⟨max (EncEq.n α) (EncEq.n β) + 1, fun x y => by
    show PyData.eqv (.tuple _) (.tuple _) = _
    simp only [PyData.eqv, PyData.eqvAll, EncEq.eqv, Bool.and_true]
    cases x; cases y
    rw [← Bool.decide_and]
    simp, fun x => by
    show PyData.canLay0 (.tuple _) = true
    simp only [PyData.canLay0, PyData.canLayAll0, EncEq.lay, Bool.and_true], fun x => by
    show PyData.depth (.tuple _) ≤ _
    simp only [PyData.depth, PyData.depthAll]
    have h1 := EncEq.dep x.1
    have h2 := EncEq.dep x.2
    omega⟩
instance {α β γ : Type} [Enc α] [DecidableEq α] [EncEq α] [Enc β] [DecidableEq β] [EncEq β] [Enc γ] [DecidableEq γ] [EncEq γ] : EncEq (T3 α β γ) := ⟨max (EncEq.n α) (max (EncEq.n β) (EncEq.n γ)) + 1, fun x y => by
    show PyData.eqv (.tuple _) (.tuple _) = _
    simp only [PyData.eqv, PyData.eqvAll, EncEq.eqv, Bool.and_true]
    cases x; cases y
    rw [← Bool.decide_and, ← Bool.decide_and]
    simp, fun x => by
    show PyData.canLay0 (.tuple _) = true
    simp only [PyData.canLay0, PyData.canLayAll0, EncEq.lay, Bool.and_true], fun x => by
    show PyData.depth (.tuple _) ≤ _
    simp only [PyData.depth, PyData.depthAll]
    have h1 := EncEq.dep x.a
    have h2 := EncEq.dep x.b
    have h3 := EncEq.dep x.c
    omega⟩
instance {α : Type} [Enc α] [DecidableEq α] [EncEq α] [NotNone α] : EncEq (Option α) := ⟨EncEq.n α, fun x y => by
    cases x with
    | none =>
      cases y with
      | none => simp [enc, PyData.eqv]
      | some y => exact (NotNone.b y).trans (by simp)
    | some x =>
      cases y with
      | none => exact (NotNone.a x).trans (by simp)
      | some y =>
        show PyData.eqv (enc x) (enc y) = _
        rw [EncEq.eqv]
        simp, fun x => by
    cases x with
    | none => simp [enc, PyData.canLay0]
    | some x => exact EncEq.lay x, fun x => by
    cases x with
    | none => simp [enc, PyData.depth]
    | some x => exact EncEq.dep x⟩
def eqN {α : Type} [DecidableEq α] (x y : α) : Option Bool := some (decide (x = y))
def neN {α : Type} [DecidableEq α] (x y : α) : Option Bool := some (!decide (x = y))
section
variable {α β : Type} [Enc α] [DecidableEq α] [EncEq α]
theorem shaped_enc (h : EncEq.n α ≤ 64) (x : α) : SeqAt.shaped (enc x) = true := by
  unfold SeqAt.shaped
  have := EncEq.dep x
  rw [EncEq.lay, Bool.true_and, decide_eq_true_eq]
  omega
theorem eqD_enc (h : EncEq.n α ≤ 64) (x y : α) : eqD (enc x) (enc y) = some (decide (x = y)) := by
  unfold eqD
  rw [if_pos ⟨shaped_enc h x, shaped_enc h y⟩, EncEq.eqv]
theorem op_eq (h : EncEq.n α ≤ 64 := by decide) : Op2A gEq (eqN (α := α)) fun r => .val (enc r) := fun v w r δ x y h1 h2 e => by
  cases some_of e
  simp only [gEq, h1, h2, eqD_enc h]
  rfl
theorem op_ne (h : EncEq.n α ≤ 64 := by decide) : Op2A gNe (neN (α := α)) fun r => .val (enc r) := fun v w r δ x y h1 h2 e => by
  cases some_of e
  simp only [gNe, h1, h2, eqD_enc h]
  rfl
end
section
variable {α β : Type} [Enc α] {Γ : Ga} {fa fb : List Sl → Rs AV}
theorem rdA_val (d : PyData) (δ : List Sl) : rdA δ (.val d) = some d := rfl
theorem pu_eqE {n : Bool} {pa : Option (List α)} (ha : Ra fa Γ pa enc) : Pu (s2 (gEqE n) fa (sLst lNil)) Γ (pa.bind fun x => some (n != x.isEmpty)) fun r => .val (enc r) := fun r e δ s => by
  obtain ⟨v, e1, e⟩ := bind_of e
  cases some_of e
  obtain ⟨x, h1, h3⟩ := ha v e1 δ s
  unfold s2
  rw [h1]
  have h3 : rdA δ x = some (.list (v.map enc)) := h3
  show gEqE n x (.val (.list [])) δ = _
  simp only [gEqE, h3, rdA_val, List.isEmpty_map]
  rfl
end
section
variable {α β ε ζ : Type} {Γ : Ga} {f : List Sl → Rs AV} {t u : List Sl → Rs Bool}
theorem ts_tst {p : Option Bool} (h : Pu f Γ p fun b => .val (enc b)) : Ts (sTst f) Γ p := fun v e δ s => by
  unfold sTst
  rw [h v e δ s]
  rfl
theorem ts_truB {p : Option Bool} (h : Ra f Γ p enc) : Ts (sTru f) Γ p := fun v e δ s => by
  obtain ⟨x, h1, h2⟩ := h v e δ s
  unfold sTru
  rw [h1]
  show (match (rdA δ x).bind truD with
    | some k => Rs.ok k δ
    | none => .bad) = _
  rw [h2]
  rfl
theorem ts_not {p : Option Bool} (h : Ts t Γ p) : Ts (sNot t) Γ (p.bind fun b => some !b) := fun r e δ s => by
  obtain ⟨v, e1, e⟩ := bind_of e
  cases some_of e
  unfold sNot
  rw [h v e1 δ s]
  rfl
theorem ts_ok : Ts tOk Γ (some true) := fun r e δ s => by cases some_of e; rfl
theorem ev_andV {fa fb : List Sl → Rs AV} {p : Option ε} {k : ε → Bool} {Γ1 : ε → Ga} {q : ε → Option ζ} {k2 : ζ → Bool} {Γ2 : ζ → Ga} {z : ε → ζ} (h : Ev fa Γ p (fun v => .val (enc (k v))) Γ1) (h2 : ∀ v, Ev fb (Γ1 v) (q v) (fun w => .val (enc (k2 w))) Γ2) (hz : ∀ v, k2 (z v) = false ∧ Γ2 (z v) = Γ1 v) : Ev (sAndV fa fb) Γ (p.bind fun v => if k v = true then q v else some (z v)) (fun w => .val (enc (k2 w))) Γ2 := fun r e δ s => by
  obtain ⟨v, e1, e⟩ := bind_of e
  obtain ⟨δ', h1, s1⟩ := h v e1 δ s
  unfold sAndV
  rw [sSt_val h1]
  show ∃ δ2, (if k v = true then fb δ' else .ok (.val (enc (k v))) δ') = _ ∧ _
  by_cases c : k v = true
  · rw [if_pos c] at e ⊢
    exact h2 v r e δ' s1
  · rw [if_neg c] at e ⊢
    cases some_of e
    exact ⟨δ', by show _ = Rs.ok (AV.val (enc (k2 (z v)))) δ'; rw [(hz v).1, (Bool.not_eq_true _).mp c], by rw [(hz v).2]; exact s1⟩
end
end Nv
namespace Nv
open PySem Hb L2
open Enc (enc)
section
variable {α β γ ε ζ : Type} {Γ : Ga} {f : List Sl → Rs AV}
def Dl (g : List Sl → Rs (List PyData)) (Γ : Ga) (p : Option β) (ds : β → List PyData) (Γ' : β → Ga) : Prop := ∀ v, p = some v → ∀ δ, Sat Γ δ → ∃ δ', g δ = .ok (ds v) δ' ∧ Sat (Γ' v) δ'
def DlP (g : List Sl → Rs (List PyData)) (Γ : Ga) (p : Option β) (ds : β → List PyData) : Prop := ∀ v, p = some v → ∀ δ, Sat Γ δ → g δ = .ok (ds v) δ
variable {g : List Sl → Rs (List PyData)}
theorem dp_nil : DlP lNil Γ (some ()) fun _ => [] := fun v _ δ _ => rfl
theorem dp_cons {p : Option ε} {d : ε → PyData} {q : Option ζ} {ds : ζ → List PyData} (h : Pu (sTk f) Γ p fun v => .val (d v)) (h2 : DlP g Γ q ds) : DlP (lCons f g) Γ (p.bind fun x => q.bind fun y => some (x, y)) fun v => d v.1 :: ds v.2 := fun r e δ s => by
  obtain ⟨v, e1, e⟩ := bind_of e
  obtain ⟨w, e2, e⟩ := bind_of e
  cases some_of e
  unfold lCons Rs.val
  rw [h v e1 δ s]
  show (g δ).bind _ = _
  rw [h2 w e2 δ s]
  rfl
theorem dl_nil : Dl lNil Γ (some ()) (fun _ => []) fun _ => Γ := fun v _ δ s => ⟨δ, rfl, s⟩
theorem dl_cons {p : Option ε} {d : ε → PyData} {Γ1 : ε → Ga} {q : ε → Option ζ} {ds : ζ → List PyData} {Γ2 : ε → ζ → Ga} (h : Ev (sTk f) Γ p (fun v => .val (d v)) Γ1) (h2 : ∀ x, Dl g (Γ1 x) (q x) ds (Γ2 x)) : Dl (lCons f g) Γ (p.bind fun x => (q x).bind fun y => some (x, y)) (fun v => d v.1 :: ds v.2) fun v => Γ2 v.1 v.2 := fun r e δ s => by
  obtain ⟨v, e1, e⟩ := bind_of e
  obtain ⟨w, e2, e⟩ := bind_of e
  cases some_of e
  obtain ⟨δ1, h1, s1⟩ := h v e1 δ s
  obtain ⟨δ2, h3, s2⟩ := h2 v w e2 δ1 s1
  refine ⟨δ2, ?_, s2⟩
  unfold lCons Rs.val
  rw [h1]
  show (g δ1).bind _ = _
  rw [h3]
  rfl
theorem pu_lst [Enc α] {p : Option β} {ds : β → List PyData} (h : DlP g Γ p ds) (xs : β → List α) (hx : ∀ v, ds v = (xs v).map enc := by intro _; rfl) (hl : ∀ v, (xs v).length ≤ cap := by intro _; exact Nat.le_of_ble_eq_true rfl) : Pu (sLst g) Γ (p.bind fun v => some (xs v)) fun r => .tmp (ow r) := fun r e δ s => by
  obtain ⟨v, e1, e⟩ := bind_of e
  cases some_of e
  unfold sLst
  rw [h v e1 δ s]
  show (if (ds v).length ≤ cap then _ else _) = _
  rw [hx v, List.length_map, if_pos (hl v)]
  rfl
theorem ev_lst [Enc α] {p : Option β} {ds : β → List PyData} {Γ' : β → Ga} (h : Dl g Γ p ds Γ') (xs : β → List α) (hx : ∀ v, ds v = (xs v).map enc := by intro _; rfl) (hl : ∀ v, (xs v).length ≤ cap := by intro _; exact Nat.le_of_ble_eq_true rfl) : Ev (sLst g) Γ (p.bind fun v => some (xs v, v)) (fun r => .tmp (ow r.1)) fun r => Γ' r.2 := fun r e δ s => by
  obtain ⟨v, e1, e⟩ := bind_of e
  cases some_of e
  obtain ⟨δ1, h1, s1⟩ := h v e1 δ s
  refine ⟨δ1, ?_, s1⟩
  unfold sLst
  rw [h1]
  show (if (ds v).length ≤ cap then _ else _) = _
  rw [hx v, List.length_map, if_pos (hl v)]
  rfl
end
section
variable {α β γ ε ζ : Type} {Γ : Ga} {f fl fh : List Sl → Rs AV}
/-- a bound -/
inductive Sb (Γ : Ga) : Option (List Sl → Rs AV) → Option (Option Int) → Prop
  | no : Sb Γ none (some none)
  | yes {f : List Sl → Rs AV} {p : Option Int} : Rd f Γ p enc → Sb Γ (some f) (p.bind fun i => some (some i))
theorem Sb.run {o : Option (List Sl → Rs AV)} {p : Option (Option Int)} (h : Sb Γ o p) {v : Option Int} (e : p = some v) {δ : List Sl} (s : Sat Γ δ) : sPartO o δ = .ok v δ := by
  cases h with
  | no => cases some_of e; rfl
  | yes h =>
    obtain ⟨i, e1, e⟩ := bind_of e
    cases some_of e
    obtain ⟨x, h1, h2, _⟩ := h i e1 δ s
    show (sSt _ δ).bind _ = _
    rw [h1]
    show (match rdC δ x with
      | some (.int i) => Rs.ok (some i) δ
      | _ => .bad) = _
    rw [h2]
    rfl
theorem cutD_map [Enc α] (xs : List α) (lo hi : Option Int) : cutD (xs.map enc) lo hi = (cutL xs lo hi).map enc := by
  unfold cutD cutL
  rw [List.length_map, List.map_take, List.map_drop]
theorem pu_sl [Enc α] {p : Option (List α)} {ol oh : Option (List Sl → Rs AV)} {pl ph : Option (Option Int)} (h : Rd f Γ p enc) (hl : Sb Γ ol pl) (hh : Sb Γ oh ph) : Pu (sSl f ol oh) Γ (p.bind fun x => pl.bind fun l => ph.bind fun u => some (cutL x l u)) fun r => .tmp (ow r) := fun r e δ s => by
  obtain ⟨v, e1, e⟩ := bind_of e
  obtain ⟨l, e2, e⟩ := bind_of e
  obtain ⟨u, e3, e⟩ := bind_of e
  cases some_of e
  obtain ⟨x, h1, h2, _⟩ := h v e1 δ s
  have h2 : rdC δ x = some (.list (v.map enc)) := h2
  unfold sSl
  rw [h1]
  show (sPartO ol δ).bind _ = _
  rw [hl.run e2 s]
  show (sPartO oh δ).bind _ = _
  rw [hh.run e3 s]
  show gSl x l u δ = _
  simp only [gSl, h2, cutD_map]
  rfl
end
section
variable {α β γ ε ζ : Type} {Γ : Ga} {fo fa : List Sl → Rs AV}
theorem sVar_own {k : Nat} {δ : List Sl} {xs : List El} (h : δ[k]? = some (.ol xs)) : sVar k δ = .ok (.ref k) δ := by
  unfold sVar; rw [h]
def apL {α : Type} (xs : List α) (x : α) : Option (List α) := if xs.length ≤ cap then some (xs ++ [x]) else none
end
section
variable {α β γ ε ζ ρ : Type} {Γ : Ga} {f : List Sl → Rs AV} {g : List Sl → Rs (List Ar)}
def Ag (g : List Sl → Rs (List Ar)) (Γ : Ga) (p : Option β) (as : β → List Ar) (Γ' : β → Ga) : Prop := ∀ v, p = some v → ∀ δ, Sat Γ δ → ∃ δ', g δ = .ok (as v) δ' ∧ Sat (Γ' v) δ'
def AgP (g : List Sl → Rs (List Ar)) (Γ : Ga) (p : Option β) (as : β → List Ar) : Prop := ∀ v, p = some v → ∀ δ, Sat Γ δ → g δ = .ok (as v) δ
def arV : AV → Ar
  | .val d => .fz d
  | .tmp s => .own s
  | .ref k => .io k
def noRef : AV → Bool
  | .ref _ => false
  | _ => true
theorem arOf_V {a : AV} (h : noRef a = true) : arOf a = some (arV a) := by cases a <;> first | rfl | cases h
theorem nodup1 (k : Nat) : [k].Nodup := by simp
theorem ap_nil : AgP rNil Γ (some ()) fun _ => [] := fun v _ δ _ => rfl
theorem ap_cons {p : Option ε} {a : ε → AV} {q : Option ζ} {as : ζ → List Ar} (h : Pu f Γ p a) (h2 : AgP g Γ q as) (hr : ∀ v, noRef (a v) = true := by intro _; rfl) : AgP (rCons f g) Γ (p.bind fun x => q.bind fun y => some (x, y)) fun v => arV (a v.1) :: as v.2 := fun z e δ s => by
  obtain ⟨v, e1, e⟩ := bind_of e
  obtain ⟨w, e2, e⟩ := bind_of e
  cases some_of e
  unfold rCons
  rw [h v e1 δ s]
  show (match arOf (a v) with
    | some r => (g δ).bind fun rs δ2 => Rs.ok (r :: rs) δ2
    | none => .bad) = _
  rw [arOf_V (hr v)]
  show (g δ).bind _ = _
  rw [h2 w e2 δ s]
  rfl
theorem ag_nil : Ag rNil Γ (some ()) (fun _ => []) fun _ => Γ := fun v _ δ s => ⟨δ, rfl, s⟩
theorem ag_cons {p : Option ε} {a : ε → AV} {Γ1 : ε → Ga} {q : ε → Option ζ} {as : ζ → List Ar} {Γ2 : ε → ζ → Ga} (h : Ev f Γ p a Γ1) (h2 : ∀ x, Ag g (Γ1 x) (q x) as (Γ2 x)) (hr : ∀ v, noRef (a v) = true := by intro _; rfl) : Ag (rCons f g) Γ (p.bind fun x => (q x).bind fun y => some (x, y)) (fun v => arV (a v.1) :: as v.2) fun v => Γ2 v.1 v.2 := fun z e δ s => by
  obtain ⟨v, e1, e⟩ := bind_of e
  obtain ⟨w, e2, e⟩ := bind_of e
  cases some_of e
  obtain ⟨δ1, h1, s1⟩ := h v e1 δ s
  obtain ⟨δ2, h3, s2⟩ := h2 v w e2 δ1 s1
  refine ⟨δ2, ?_, s2⟩
  unfold rCons
  rw [h1]
  show (match arOf (a v) with
    | some r => (g δ1).bind fun rs δ2 => Rs.ok (r :: rs) δ2
    | none => .bad) = _
  rw [arOf_V (hr v)]
  show (g δ1).bind _ = _
  rw [h3]
  rfl
def insOf : List Ar → Option (List Sl)
  | [] => some []
  | .fz d :: r => (insOf r).map (.fz d :: ·)
  | .own s :: r => (insOf r).map (s :: ·)
  | .io _ :: _ => none
theorem ins_args {δ : List Sl} : ∀ {as : List Ar} {l : List Sl}, insOf as = some l → argsS δ as = some l ∧ iosOf δ as = []
  | [], l, h => by cases h; exact ⟨rfl, rfl⟩
  | .fz d :: r, l, h => by
    have h : (insOf r).map (.fz d :: ·) = some l := h
    cases q : insOf r with
    | none => rw [q] at h; cases h
    | some m =>
      rw [q] at h
      cases h
      obtain ⟨h1, h2⟩ := ins_args (δ := δ) q
      exact ⟨by simp only [argsS, argS, h1], h2⟩
  | .own s :: r, l, h => by
    have h : (insOf r).map (s :: ·) = some l := h
    cases q : insOf r with
    | none => rw [q] at h; cases h
    | some m =>
      rw [q] at h
      cases h
      obtain ⟨h1, h2⟩ := ins_args (δ := δ) q
      exact ⟨by simp only [argsS, argS, h1], h2⟩
  | .io k :: r, l, h => by cases h
theorem putB_nil {δ : List Sl} : ∀ {as : List Ar} {l m : List Sl}, insOf as = some m → putB [] as l δ = δ
  | [], l, _, _ => by cases l <;> rfl
  | .fz d :: r, [], _, _ => rfl
  | .own s :: r, [], _, _ => rfl
  | .fz d :: r, s :: l, m, h => by
    have h : (insOf r).map (.fz d :: ·) = some m := h
    cases q : insOf r with
    | none => rw [q] at h; cases h
    | some m => exact putB_nil (as := r) q
  | .own t :: r, s :: l, m, h => by
    have h : (insOf r).map (t :: ·) = some m := h
    cases q : insOf r with
    | none => rw [q] at h; cases h
    | some m => exact putB_nil (as := r) q
  | .io k :: r, l, m, h => by cases h
theorem callF_pure {F : List Sl → FR} {as : List Ar} {l : List Sl} {δ o : List Sl} {r : Sl} (h : insOf as = some l) (hF : F l = .ok r o) : callF F as δ = .ok (AV.ofSl r) δ := by
  obtain ⟨h1, h2⟩ := ins_args (δ := δ) h
  unfold callF backS
  rw [h2]
  rw [if_pos List.nodup_nil, h1]
  simp only [hF]
  rw [putB_nil h]
  rfl
/-- F on what stands for v gives what stands for n v -/
def Fun (F : List Sl → FR) (n : Option ρ) (ins : List Sl) (ret : ρ → Sl) (out : ρ → List Sl) : Prop := ∀ r, n = some r → F ins = .ok (ret r) (out r)
theorem pu_call {F : List Sl → FR} {dd : List PyData} {q : Option β} {as : β → List Ar} {n : β → Option ρ} {ins : β → List Sl} {ret : ρ → Sl} {out : ρ → List Sl} (hg : AgP g Γ q as) (hF : ∀ v, Fun F (n v) (ins v) ret out) (hi : ∀ v, insOf (as v ++ dd.map .fz) = some (ins v) := by intro _; rfl) : Pu (sCall F dd g) Γ (q.bind n) fun r => AV.ofSl (ret r) := fun r e δ s => by
  obtain ⟨v, e1, e⟩ := bind_of e
  unfold sCall
  rw [hg v e1 δ s]
  exact callF_pure (hi v) (hF v r e)
/-- a slot handed over -/
theorem ag_io {k : Nat} {q : Option β} {as : β → List Ar} {Γ1 : β → Ga} {s0 : Sl} (h0 : Γ[k]? = some (.eq s0)) (ho : ownS (some s0) = true) (h : Ag g Γ q as Γ1) : Ag (rIo k g) Γ q (fun v => .io k :: as v) Γ1 := fun v e δ s => by
  obtain ⟨δ1, h1, s1⟩ := h v e δ s
  refine ⟨δ1, ?_, s1⟩
  have hk := s.at_ h0
  unfold rIo
  have hv : sVar k δ = .ok (.ref k) δ := by
    unfold sVar
    rw [hk]
    cases s0 <;> first | rfl | cases ho
  rw [hv]
  show (g δ).bind _ = _
  rw [h1]
  rfl
def insG (Γ : Ga) : List Ar → Option (List Sl)
  | [] => some []
  | .fz d :: r => (insG Γ r).map (.fz d :: ·)
  | .own s :: r => (insG Γ r).map (s :: ·)
  | .io k :: r => match Γ[k]? with
    | some (.eq s) => if ownS (some s) = true then (insG Γ r).map (s :: ·) else none
    | _ => none
def iosG : List Ar → List Nat
  | [] => []
  | .io k :: r => k :: iosG r
  | _ :: r => iosG r
def clrP (ks : List Nat) (Γ : Ga) : Ga := ks.foldr (fun k Γ => upP k (.eq .no) Γ) Γ
def putP : List Ar → List Sl → Ga → Ga
  | .io k :: r, s :: l, Γ => putP r l (upP k (.eq (noAl s)) Γ)
  | .fz _ :: r, _ :: l, Γ => putP r l Γ
  | .own _ :: r, _ :: l, Γ => putP r l Γ
  | _, _, Γ => Γ
def backP (Γ : Ga) (as : List Ar) (o : List Sl) : Ga := putP as o (clrP (iosG as) Γ)
theorem insG_ok {δ : List Sl} (s : Sat Γ δ) : ∀ {as : List Ar} {l : List Sl}, insG Γ as = some l → argsS δ as = some l ∧ iosOf δ as = iosG as
  | [], l, h => by cases h; exact ⟨rfl, rfl⟩
  | .fz d :: r, l, h => by
    have h : (insG Γ r).map (.fz d :: ·) = some l := h
    cases q : insG Γ r with
    | none => rw [q] at h; cases h
    | some m =>
      rw [q] at h
      cases h
      obtain ⟨h1, h2⟩ := insG_ok s q
      exact ⟨by simp only [argsS, argS, h1], h2⟩
  | .own t :: r, l, h => by
    have h : (insG Γ r).map (t :: ·) = some l := h
    cases q : insG Γ r with
    | none => rw [q] at h; cases h
    | some m =>
      rw [q] at h
      cases h
      obtain ⟨h1, h2⟩ := insG_ok s q
      exact ⟨by simp only [argsS, argS, h1], h2⟩
  | .io k :: r, l, h => by
    unfold insG at h
    cases q0 : Γ[k]? with
    | none => simp only [q0] at h; cases h
    | some p =>
      cases p with
      | eq t =>
        simp only [q0] at h
        by_cases c : ownS (some t) = true
        · rw [if_pos c] at h
          cases q : insG Γ r with
          | none => rw [q] at h; cases h
          | some m =>
            rw [q] at h
            cases h
            obtain ⟨h1, h2⟩ := insG_ok s q
            have hk := s.at_ q0
            refine ⟨?_, ?_⟩
            · simp only [argsS, h1, argS, hk]
              cases t <;> first | rfl | cases c
            · rw [ios_cons_io, if_pos (by rw [hk]; exact c), h2]
              rfl
        · rw [if_neg c] at h
          cases h
      | _ => simp only [q0] at h; cases h
theorem clrP_ok {δ : List Sl} (s : Sat Γ δ) : ∀ ks : List Nat, Sat (clrP ks Γ) (clr ks δ)
  | [] => s
  | k :: r => (clrP_ok s r).up (p := .eq .no) rfl
theorem putP_ok (ks : List Nat) : ∀ {as : List Ar} {o : List Sl} {Γ : Ga} {δ : List Sl}, Sat Γ δ → (∀ k ∈ iosG as, k ∈ ks) → Sat (putP as o Γ) (putB ks as o δ)
  | [], o, _, _, s, _ => by cases o <;> exact s
  | .fz d :: r, [], _, _, s, _ => s
  | .own t :: r, [], _, _, s, _ => s
  | .io k :: r, [], _, _, s, _ => s
  | .fz d :: r, t :: o, _, _, s, h => putP_ok ks (as := r) s h
  | .own u :: r, t :: o, _, _, s, h => putP_ok ks (as := r) s h
  | .io k :: r, t :: o, Γ, δ, s, h => by
    show Sat (putP r o (upP k (.eq (noAl t)) Γ)) (putB ks r o (if k ∈ ks then upS k (noAl t) δ else δ))
    rw [if_pos (h k List.mem_cons_self)]
    exact putP_ok ks (as := r) (s.up (p := .eq (noAl t)) rfl) fun j hj => h j (List.mem_cons_of_mem _ hj)
theorem ev_callG {F : List Sl → FR} {dd : List PyData} {q : Option β} {as : β → List Ar} {Γ1 : β → Ga} {n : β → Option ρ} {ins : β → List Sl} {ret : ρ → Sl} {out : ρ → List Sl} (hg : Ag g Γ q as Γ1) (hF : ∀ v, Fun F (n v) (ins v) ret out)
    (hi : ∀ v, insG (Γ1 v) (as v ++ dd.map .fz) = some (ins v) := by intro _; rfl) (hn : ∀ v, (iosG (as v ++ dd.map .fz)).Nodup := by intro _; first | exact nodup1 _ | exact List.nodup_nil | decide) :
    Ev (sCall F dd g) Γ (q.bind fun v => (n v).bind fun r => some (r, v)) (fun r => AV.ofSl (ret r.1)) (fun r => backP (Γ1 r.2) (as r.2 ++ dd.map .fz) (out r.1)) := fun r e δ s => by
  obtain ⟨v, e1, e⟩ := bind_of e
  obtain ⟨w, e2, e⟩ := bind_of e
  cases some_of e
  obtain ⟨δ1, h1, sa⟩ := hg v e1 δ s
  obtain ⟨k1, k2⟩ := insG_ok sa (hi v)
  refine ⟨backS (as v ++ dd.map .fz) (out w) δ1, ?_, ?_⟩
  · unfold sCall
    rw [h1]
    show callF F (as v ++ dd.map .fz) δ1 = _
    unfold callF
    rw [k2, if_pos (hn v), k1]
    simp only [hF v w e2]
  · unfold backS backP
    rw [k2]
    exact putP_ok _ (clrP_ok sa _) fun k hk => hk
/-- a value, or a list of nobody's -/
def Em (f : List Sl → Rs AV) (Γ : Ga) (p : Option β) (d : β → PyData) (Γ' : β → Ga) : Prop := ∀ v, p = some v → ∀ δ, Sat Γ δ → ∃ s δ', f δ = .ok (AV.ofSl s) δ' ∧ (Pt.tr (d v)).Ok s ∧ Sat (Γ' v) δ'
theorem tr_tree {d : PyData} {s : Sl} (h : (Pt.tr d).Ok s) : s.tree = some d := by
  rcases h with ⟨h, _⟩ | h
  · exact h
  · rw [h]; rfl
theorem Em.er {p : Option β} {d : β → PyData} {Γ' : β → Ga} (h : Em f Γ p d Γ') : Er f Γ p d Γ' := fun v e δ s => by
  obtain ⟨t, δ', h1, h2, h3⟩ := h v e δ s
  refine ⟨δ', ?_, h3⟩
  have h4 := tr_tree h2
  cases t with
  | fz d' => cases h4; exact sSt_val h1
  | ol xs => exact sSt_tmp h1 h4
  | od x => exact sSt_tmp h1 h4
  | no => cases h4
  | al x j => cases h4
theorem Em.tk {p : Option β} {d : β → PyData} {Γ' : β → Ga} (h : Em f Γ p d Γ') : Ev (sTk f) Γ p (fun v => .val (d v)) Γ' := fun v e δ s => by
  obtain ⟨δ', h1, h2⟩ := h.er v e δ s
  exact ⟨δ', by unfold sTk; rw [h1], h2⟩
theorem Er.rd {p : Option β} {d : β → PyData} (h : ∀ v, p = some v → ∀ δ, Sat Γ δ → sSt f δ = .ok (.val (d v)) δ) : Rd f Γ p d := fun v e δ s => ⟨_, h v e δ s, rfl, rfl⟩
end
end Nv
namespace Nv
open PySem Hb L2
open Enc (enc)
/-- a return -/
def RF {ρ : Type} (ret : ρ → Pt) (ΓR : ρ → Ga) (r : ρ) (o : Ot) : Prop := ∃ s δ', (o = .rt s δ' ∨ (o = .nx δ' ∧ s = .fz .none)) ∧ (ret r).Ok s ∧ Sat (ΓR r) δ'
section
variable {α β γ ε ζ ρ σ : Type} {Γ : Ga} {f : List Sl → Rs AV} {g h A B : List Sl → Ot} {R : ζ → Ot → Prop}
theorem bl_next {p : Option ζ} (k : Bl g Γ p R) : Bl (oSeq oNext g) Γ p R := k
theorem bl_assoc {p : Option ζ} (k : Bl (oSeq A (oSeq B g)) Γ p R) : Bl (oSeq (oSeq A B) g) Γ p R := fun v e δ s => by
  have := k v e δ s
  unfold oSeq at this ⊢
  cases q : A δ <;> simp only [q] at this ⊢ <;> exact this
theorem nx_of {δ δ' : List Sl} (q : A δ = .nx δ') : oSeq A g δ = g δ' := by unfold oSeq; rw [q]
theorem bl_asgV {k : Nat} {p : Option ε} {d : ε → PyData} {Γ1 : ε → Ga} {kont : ε → Option ζ} (h : Ev f Γ p (fun v => .val (d v)) Γ1) (k2 : ∀ v, Bl g (upP k (.eq (.fz (d v))) (Γ1 v)) (kont v) R) : Bl (oSeq (oAsg f (tgN k)) g) Γ (p.bind kont) R := fun r e δ s => by
  obtain ⟨v, e1, e⟩ := bind_of e
  obtain ⟨δ1, h1, s1⟩ := h v e1 δ s
  rw [nx_of (show oAsg f (tgN k) δ = .nx (upS k (.fz (d v)) δ1) by unfold oAsg; rw [h1]; rfl)]
  exact k2 v r e _ (s1.up rfl)
def stI {α : Type} (xs : List α) (i : Int) (v : α) : Option (List α) := (ixN xs.length i).map fun j => xs.set j v
theorem setA_own [Enc α] {k : Nat} {xs ys : List α} {i : Int} {v : α} {δ : List Sl} {y : AV} (h : δ[k]? = some (ow xs)) (hy : rdC δ y = some (.int i)) (e : stI xs i v = some ys) : setA (.ref k) y (enc v) δ = .ok () (upS k (ow ys) δ) := by
  unfold stI at e
  cases q : ixN xs.length i with
  | none => rw [q] at e; cases e
  | some j =>
    rw [q] at e
    cases some_of e
    unfold setA
    simp only [hy, h, ow, List.length_map, q, allFz_map, List.map_set]
theorem bl_set [Enc α] {k : Nat} {fi : List Sl → Rs AV} {p : Option ε} {va : ε → α} {Γ1 : ε → Ga} {xs : ε → List α} {pi : ε → Option Int} {kont : ε → List α → Option ζ} (h : Ev f Γ p (fun v => .val (enc (va v))) Γ1) (h0 : ∀ v, (Γ1 v)[k]? = some (.eq (ow (xs v)))) (hi : ∀ v, Rd fi (Γ1 v) (pi v) enc)
    (k2 : ∀ v ys, Bl g (upP k (.eq (ow ys)) (Γ1 v)) (kont v ys) R) : Bl (oSeq (oAsg f (tgS (sVar k) fi)) g) Γ (p.bind fun v => (pi v).bind fun i => (stI (xs v) i (va v)).bind (kont v)) R := fun r e δ s => by
  obtain ⟨v, e1, e⟩ := bind_of e
  obtain ⟨i, e2, e⟩ := bind_of e
  obtain ⟨ys, e3, e⟩ := bind_of e
  obtain ⟨δ1, h1, s1⟩ := h v e1 δ s
  obtain ⟨x, q1, q2, _⟩ := hi v i e2 δ1 s1
  have hk := s1.at_ (h0 v)
  rw [nx_of (show oAsg f (tgS (sVar k) fi) δ = .nx (upS k (ow ys) δ1) by
    unfold oAsg
    rw [h1]
    show (tgS (sVar k) fi (.val (enc (va v))) δ1).otU = _
    unfold tgS
    show ((sSt (sVar k) δ1).bind _).otU = _
    rw [sSt_ref (sVar_own hk)]
    show ((sSt fi δ1).bind _).otU = _
    rw [q1]
    show (setA (.ref k) x (enc (va v)) δ1).otU = _
    rw [setA_own hk q2 e3]
    rfl)]
  exact k2 v ys r e _ (s1.up rfl)
theorem sMv_val {δ δ' : List Sl} {d : PyData} (h : f δ = .ok (.val d) δ') : sMv f δ = .ok (.val d) δ' := by unfold sMv; rw [h]
theorem sMv_tmp {δ δ' : List Sl} {t : Sl} (h : f δ = .ok (.tmp t) δ') : sMv f δ = .ok (.tmp t) δ' := by unfold sMv; rw [h]
theorem bl_retV {p : Option ε} {d : ε → PyData} {Γ1 : ε → Ga} {κ : ε → ζ} (h : Ev f Γ p (fun v => .val (d v)) Γ1) (k : ∀ v δ', Sat (Γ1 v) δ' → R (κ v) (.rt (.fz (d v)) δ')) : Bl (oRet f) Γ (p.bind fun v => some (κ v)) R := fun r e δ s => by
  obtain ⟨v, e1, e⟩ := bind_of e
  cases some_of e
  obtain ⟨δ1, h1, s1⟩ := h v e1 δ s
  have : oRet f δ = .rt (.fz (d v)) δ1 := by unfold oRet; rw [sMv_val h1]; rfl
  rw [this]
  exact k v δ1 s1
theorem bl_retT {p : Option ε} {t : ε → Sl} {Γ1 : ε → Ga} {κ : ε → ζ} (h : Ev f Γ p (fun v => .tmp (t v)) Γ1) (k : ∀ v δ', Sat (Γ1 v) δ' → R (κ v) (.rt (t v) δ')) : Bl (oRet f) Γ (p.bind fun v => some (κ v)) R := fun r e δ s => by
  obtain ⟨v, e1, e⟩ := bind_of e
  cases some_of e
  obtain ⟨δ1, h1, s1⟩ := h v e1 δ s
  have : oRet f δ = .rt (t v) δ1 := by unfold oRet; rw [sMv_tmp h1]; rfl
  rw [this]
  exact k v δ1 s1
theorem bl_retS {p : Option ζ} (k : Bl (oRet f) Γ p R) : Bl (oSeq (oRet f) g) Γ p R := fun v e δ s => by
  have := k v e δ s
  have h2 : oSeq (oRet f) g δ = oRet f δ := by
    unfold oSeq
    have : ∀ δ', oRet f δ ≠ .nx δ' := fun δ' q => by
      unfold oRet at q
      cases q2 : sMv f δ with
      | ok a δ2 => rw [q2] at q; cases a <;> cases q
      | er x δ2 => rw [q2] at q; cases q
      | bad => rw [q2] at q; cases q
    cases q : oRet f δ with
    | nx δ' => exact absurd q (this δ')
    | _ => rfl
  rwa [h2]
theorem bl_if {t : List Sl → Rs Bool} {p : Option ε} {k : ε → Bool} {Γ1 : ε → Ga} {pa pb : ε → Option ζ} (h : Te t Γ p k Γ1) (ha : ∀ v, Bl (oSeq A g) (Γ1 v) (pa v) R) (hb : ∀ v, Bl (oSeq B g) (Γ1 v) (pb v) R) : Bl (oSeq (oIf t A B) g) Γ (p.bind fun v => if k v = true then pa v else pb v) R := fun r e δ s => by
  obtain ⟨v, e1, e⟩ := bind_of e
  obtain ⟨δ1, h1, s1⟩ := h v e1 δ s
  have : oSeq (oIf t A B) g δ = if k v = true then oSeq A g δ1 else oSeq B g δ1 := by
    unfold oSeq oIf
    rw [h1]
    show (match (if k v = true then A δ1 else B δ1) with
      | .nx δ' => g δ'
      | r => r) = _
    by_cases c : k v = true
    · simp only [if_pos c] <;> rfl
    · simp only [if_neg c] <;> rfl
  rw [this]
  by_cases c : k v = true
  · rw [if_pos c] at e ⊢
    exact ha v r e δ1 s1
  · rw [if_neg c] at e ⊢
    exact hb v r e δ1 s1
end
section
variable {α β γ ε ζ ρ σ : Type} {Γ : Ga} {f g : List Sl → Rs AV}
def It (w : List Sl → Rs (List PyData)) (Γ : Ga) (p : Option β) (its : β → List PyData) (Γ' : β → Ga) : Prop := ∀ v, p = some v → ∀ δ, Sat Γ δ → ∃ δ', w δ = .ok (its v) δ' ∧ Sat (Γ' v) δ'
def ItP (w : List Sl → Rs (List PyData)) (Γ : Ga) (p : Option β) (its : β → List PyData) : Prop := ∀ v, p = some v → ∀ δ, Sat Γ δ → w δ = .ok (its v) δ
def rgI (lo : Int) (n : Nat) : List Int := (List.range n).map fun i => lo + (i : Nat)
def ri1 (n : Int) : Option (List Int) := if -(2 ^ 62) ≤ n ∧ n < 2 ^ 62 then some (rgI 0 n.toNat) else none
theorem rangeD_enc (lo : Int) (n : Nat) : rangeD lo n = (rgI lo n).map enc := by
  unfold rangeD rgI
  rw [List.map_map]
  rfl
theorem val_of {f : List Sl → Rs AV} {δ δ' : List Sl} {d : PyData} {k : PyData → List Sl → Rs γ} (h : f δ = .ok (.val d) δ') : (f δ).val k = k d δ' := by
  unfold Rs.val
  rw [h]
  rfl
theorem ip_rng1 {p : Option Int} (h : Pu (sTk f) Γ p fun v => .val (enc v)) : ItP (wRng1 f) Γ (p.bind ri1) fun v => v.map enc := fun v e δ s => by
  obtain ⟨n, e1, e⟩ := bind_of e
  unfold ri1 at e
  split at e
  · rename_i c
    cases some_of e
    unfold wRng1
    rw [val_of (h n e1 δ s)]
    exact (if_pos c).trans (congrArg (Rs.ok · δ) (rangeD_enc _ _))
  · cases e
theorem it_rng1 {p : Option ε} {n : ε → Int} {Γ' : ε → Ga} (h : Ev (sTk f) Γ p (fun v => .val (enc (n v))) Γ') : It (wRng1 f) Γ (p.bind fun v => (ri1 (n v)).bind fun r => some (r, v)) (fun v => v.1.map enc) fun v => Γ' v.2 := fun v e δ s => by
  obtain ⟨w, e1, e⟩ := bind_of e
  obtain ⟨r, e2, e⟩ := bind_of e
  cases some_of e
  obtain ⟨δ1, h1, s1⟩ := h w e1 δ s
  refine ⟨δ1, ?_, s1⟩
  unfold ri1 at e2
  split at e2
  · rename_i c
    cases some_of e2
    unfold wRng1
    rw [val_of h1]
    exact (if_pos c).trans (congrArg (Rs.ok · δ1) (rangeD_enc _ _))
  · cases e2
/-- only the slots vs change -/
def Tg (vs : List Nat) (t : AV → List Sl → Rs Unit) (Γ : Ga) (d : PyData) (Γ' : Ga) : Prop := ∀ δ, Sat Γ δ → ∃ δ', t (.val d) δ = .ok () δ' ∧ Sat Γ' δ' ∧ ((∀ (i x j : Nat), δ[i]? = some (.al x j) → x ∉ vs) → δ'.length = δ.length ∧ (∀ k, k ∉ vs → δ'[k]? = δ[k]?) ∧ ∀ (i x j : Nat), δ'[i]? = some (.al x j) → x ∉ vs)
theorem upS_keep {k : Nat} {s : Sl} {δ : List Sl} (h : ∀ (i x j : Nat), δ[i]? = some (.al x j) → x ≠ k) : upS k s δ = δ.set k s := by
  have : dropAl k δ = δ := by
    rw [dropAl_eq]
    apply List.ext_getElem?
    intro i
    rw [List.getElem?_map]
    cases q : δ[i]? with
    | none => rfl
    | some t =>
      cases t with
      | al x j =>
        show some (if x = k then Sl.no else .al x j) = _
        rw [if_neg (h i x j q)]
      | _ => rfl
  unfold upS
  rw [this]
theorem tg_n {vs : List Nat} {k : Nat} {d : PyData} (hk : k ∈ vs := by decide) : Tg vs (tgN k) Γ d (upP k (.eq (.fz d)) Γ) := fun δ s => by
  refine ⟨upS k (.fz d) δ, rfl, s.up rfl, fun h => ?_⟩
  rw [upS_keep fun i x j e z => h i x j e (by rw [z]; exact hk)]
  refine ⟨by simp, fun j hj => List.getElem?_set_ne fun z => hj (by rw [← z]; exact hk), fun i x j e => ?_⟩
  rw [List.getElem?_set] at e
  by_cases c : k = i
  · rw [if_pos c] at e
    split at e <;> cases e
  · rw [if_neg c] at e
    exact h i x j e
def forS : List α → σ → (σ → α → Option σ) → Option σ
  | [], s, _ => some s
  | x :: r, s, b => (b s x).bind fun s' => forS r s' b
variable {A g' B : List Sl → Ot} {R : ζ → Ot → Prop} {t : AV → List Sl → Rs Unit} {w : List Sl → Rs (List PyData)}
end
end Nv
namespace Nv
open PySem Hb L2
open Enc (enc)
def calmE (vs : List Nat) : Pt → Bool
  | .aa => false
  | .eq (.al x _) => !vs.contains x
  | _ => true
def calm (vs : List Nat) (Γ : Ga) : Bool := Γ.all (calmE vs)
theorem calm_ok {vs : List Nat} {Γ : Ga} {δ : List Sl} (h : calm vs Γ = true) (s : Sat Γ δ) : ∀ (i x j : Nat), δ[i]? = some (.al x j) → x ∉ vs := by
  induction s with
  | nil => intro i x j e; simp at e
  | @cons p t Γ δ h1 _ ih =>
    have h : (calmE vs p && calm vs Γ) = true := h
    rw [Bool.and_eq_true] at h
    intro i x j e
    cases i with
    | zero =>
      simp at e
      subst e
      cases p with
      | aa => cases h.1
      | any => cases h1
      | pl => cases h1
      | tr d => rcases h1 with ⟨_, ds, z⟩ | z <;> cases z
      | ts d => rcases h1 with ⟨_, ds, z⟩ | ⟨z, _⟩ <;> cases z
      | eq u =>
        cases (show Sl.al x j = u from h1)
        have : (!vs.contains x) = true := h.1
        simpa using this
    | succ i => exact ih h.2 i x j (by simpa using e)
def plP : Pt → Bool
  | .pl => true
  | .eq .no => true
  | .eq (.fz _) => true
  | _ => false
theorem plP_ok {p : Pt} {s : Sl} (h : plP p = true) (hs : p.Ok s) : plainS (some s) = true := by
  cases p with
  | pl => exact hs
  | eq t =>
    cases (show s = t from hs)
    cases s <;> first | rfl | cases h
  | _ => cases h
def okP (vs : List Nat) (Γ : Ga) : Bool := vs.all fun v => match Γ[v]? with
  | some p => plP p
  | none => false
theorem okP_ok {vs : List Nat} {Γ : Ga} {δ : List Sl} (h : okP vs Γ = true) (s : Sat Γ δ) : okW vs δ = true := by
  unfold okW
  unfold okP at h
  rw [List.all_eq_true] at h ⊢
  intro v hv
  have := h v hv
  cases q : Γ[v]? with
  | none => rw [q] at this; cases this
  | some p =>
    rw [q] at this
    obtain ⟨t, e1, e2⟩ := s.get q
    rw [e1]
    exact plP_ok this e2
def wipeP (vs : List Nat) (Γ : Ga) : Ga := vs.foldr (fun v Γ => Γ.set v (.eq .no)) Γ
theorem wipeP_ok {Γ : Ga} {δ : List Sl} (s : Sat Γ δ) : ∀ vs : List Nat, Sat (wipeP vs Γ) (wipeD vs δ)
  | [] => s
  | v :: vs => (wipeP_ok s vs).set (p := .eq .no) rfl v
theorem wipe_len (δ : List Sl) : ∀ vs : List Nat, (wipeD vs δ).length = δ.length
  | [] => rfl
  | v :: vs => by
    show ((wipeD vs δ).set v .no).length = _
    rw [List.length_set, wipe_len δ vs]
theorem wipe_get (δ : List Sl) : ∀ (vs : List Nat) {k : Nat}, k ∉ vs → (wipeD vs δ)[k]? = δ[k]?
  | [], _, _ => rfl
  | v :: vs, k, h => by
    show ((wipeD vs δ).set v .no)[k]? = _
    rw [List.getElem?_set_ne (fun z => h (by rw [z]; exact List.mem_cons_self)), wipe_get δ vs fun z => h (List.mem_cons_of_mem _ z)]
theorem wipe_al {δ : List Sl} {P : Nat → Prop} (h : ∀ (i x j : Nat), δ[i]? = some (.al x j) → P x) : ∀ (vs : List Nat) (i x j : Nat), (wipeD vs δ)[i]? = some (.al x j) → P x
  | [], i, x, j, e => h i x j e
  | v :: vs, i, x, j, e => by
    have e : ((wipeD vs δ).set v .no)[i]? = some (.al x j) := e
    rw [List.getElem?_set] at e
    by_cases c : v = i
    · rw [if_pos c] at e
      split at e <;> cases e
    · rw [if_neg c] at e
      exact wipe_al h vs i x j e
/-- nothing but the block's own slots changed -/
theorem unw_id {vs : List Nat} {δ δ1 : List Sl} (hl : δ1.length = δ.length) (hk : ∀ k, k ∉ vs → δ1[k]? = δ[k]?) (ha : ∀ (i x j : Nat), δ1[i]? = some (.al x j) → x ∉ vs) (hw : okW vs δ = true) : unw vs δ δ1 = δ := by
  have key : ∀ us : List Nat, (∀ u ∈ us, u ∈ vs) → (unw us δ δ1).length = δ.length ∧ (∀ k, (k ∉ vs ∨ k ∈ us) → (unw us δ δ1)[k]? = δ[k]?) ∧ ∀ (i x j : Nat), (unw us δ δ1)[i]? = some (.al x j) → x ∉ vs := by
    intro us
    induction us with
    | nil => exact fun _ => ⟨hl, fun k h => h.elim (hk k) (fun z => nomatch z), ha⟩
    | cons u us ih =>
      intro hu
      obtain ⟨a, b, c⟩ := ih fun w hw => hu w (List.mem_cons_of_mem _ hw)
      have huv := hu u List.mem_cons_self
      have e : unw (u :: us) δ δ1 = (unw us δ δ1).set u (δ[u]?.getD .no) := upS_keep fun i x j e z => c i x j e (by rw [z]; exact huv)
      rw [e]
      have hp : plainS δ[u]? = true := List.all_eq_true.mp hw u huv
      refine ⟨by rw [List.length_set, a], fun k h => ?_, fun i x j q => ?_⟩
      · by_cases z : u = k
        · subst z
          rw [List.getElem?_set]
          rw [if_pos rfl]
          cases q : δ[u]? with
          | none => rw [q] at hp; cases hp
          | some t =>
            have : u < δ.length := (List.getElem?_eq_some_iff.mp q).1
            rw [if_pos (by rw [a]; exact this)]
            rfl
        · rw [List.getElem?_set_ne z]
          exact b k (h.imp id fun m => (List.mem_cons.mp m).elim (fun m => absurd m.symm z) id)
      · rw [List.getElem?_set] at q
        by_cases z : u = i
        · rw [if_pos z] at q
          split at q
          · cases q2 : δ[u]? with
            | none => rw [q2] at hp; cases hp
            | some t =>
              rw [q2] at q hp
              have : t = .al x j := Option.some.inj q
              subst this
              cases hp
          · cases q
        · rw [if_neg z] at q
          exact c i x j q
  obtain ⟨_, b, _⟩ := key vs fun _ h => h
  apply List.ext_getElem?
  intro k
  exact b k (if h : k ∈ vs then .inr h else .inl h)
section
variable {α β γ ε ζ ρ σ : Type} {Γ : Ga} {f : List Sl → Rs AV} {t : AV → List Sl → Rs Unit} {tt : List Sl → Rs Bool} {w : List Sl → Rs (List PyData)} {vs : List Nat}
def mapF : List α → (α → Option Bool) → (α → Option γ) → Option (List γ)
  | [], _, _ => some []
  | x :: r, c, g => (c x).bind fun b => if b = true then (g x).bind fun y => (mapF r c g).bind fun ys => some (y :: ys) else mapF r c g
/-- each item once, no test -/
def mapP : List α → (α → Option γ) → Option (List γ)
  | [], _ => some []
  | x :: r, g => (g x).bind fun y => (mapP r g).bind fun ys => some (y :: ys)
theorem lcF [Enc α] {W : Bool} {a : γ → AV} {el : γ → El} (hel : ∀ y, elOf W (a y) = some (el y)) {ΓT : α → Ga} {pt : α → Option Bool} {pe : α → Option γ} (hok : okP vs Γ = true) (hc : calm vs Γ = true) (ht : ∀ x, Tg vs t (wipeP vs Γ) (enc x) (ΓT x)) (htt : ∀ x, Ts tt (ΓT x) (pt x)) (hf : ∀ x, Pu f (ΓT x) (pe x) a) :
    ∀ (xs : List α) (es : List El) (ys : List γ), mapF xs pt pe = some ys → es.length + xs.length ≤ cap → ∀ δ, Sat Γ δ → lcL W vs t tt f (xs.map enc) es δ = .ok (es ++ ys.map el) δ
  | [], es, ys, e, _, δ, _ => by
    cases some_of e
    simp [lcL]
  | x :: xs, es, ys, e, hl, δ, s => by
    obtain ⟨b, e1, e⟩ := bind_of e
    have hw := okP_ok hok s
    have hal := calm_ok hc s
    obtain ⟨δ1, h1, s1, k1⟩ := ht x (wipeD vs δ) (wipeP_ok s vs)
    obtain ⟨a1, b1, c1⟩ := k1 (wipe_al hal vs)
    have un : unw vs δ δ1 = δ := unw_id (by rw [a1, wipe_len]) (fun k hk => by rw [b1 k hk, wipe_get δ vs hk]) c1 hw
    have h2 := htt x b e1 δ1 s1
    rw [List.map_cons]
    simp only [List.length_cons] at hl
    unfold lcL
    rw [if_pos hw, h1]
    simp only [h2]
    cases b with
    | false =>
      rw [if_neg Bool.false_ne_true, un]
      exact lcF hel hok hc ht htt hf xs es ys (by simpa using e) (by omega) δ s
    | true =>
      rw [if_pos rfl] at e
      obtain ⟨y, e2, e⟩ := bind_of e
      obtain ⟨zs, e3, e⟩ := bind_of e
      cases some_of e
      have h3 := hf x y e2 δ1 s1
      simp only [if_true, h3, hel]
      rw [if_pos (by omega), un, lcF hel hok hc ht htt hf xs (es ++ [el y]) zs e3 (by simp; omega) δ s]
      simp
theorem el_val [Enc γ] {W : Bool} : ∀ y : γ, elOf W (.val (enc y)) = some (.fz (enc y)) := fun _ => rfl
theorem ow_els [Enc γ] (ys : List γ) : Sl.ol ([] ++ ys.map fun y => El.fz (enc y)) = ow ys := by
  unfold ow
  rw [List.nil_append, List.map_map]
  rfl
theorem pu_lc [Enc α] [Enc γ] {p : Option β} {xs : β → List α} {ΓT : β → α → Ga} {pt : β → α → Option Bool} {pe : β → α → Option γ} (hw : ItP w Γ p fun v => (xs v).map enc) (hok : okP vs Γ = true) (hc : calm vs Γ = true) (ht : ∀ v x, Tg vs t (wipeP vs Γ) (enc x) (ΓT v x)) (htt : ∀ v x, Ts tt (ΓT v x) (pt v x)) (hf : ∀ v x, Pu f (ΓT v x) (pe v x) fun y => .val (enc y)) :
    Pu (sLc false w vs t tt f) Γ (p.bind fun v => if (xs v).length ≤ cap then mapF (xs v) (pt v) (pe v) else none) fun r => .tmp (ow r) := fun r e δ s => by
  obtain ⟨v, e1, e⟩ := bind_of e
  by_cases c : (xs v).length ≤ cap
  · rw [if_pos c] at e
    unfold sLc
    rw [hw v e1 δ s]
    show (lcL false vs t tt f ((xs v).map enc) [] δ).bind _ = _
    rw [lcF el_val hok hc (ht v) (htt v) (hf v) (xs v) [] r e (by simpa using c) δ s]
    exact congrArg (fun z => Rs.ok (AV.tmp z) δ) (ow_els r)
  · rw [if_neg c] at e
    cases e
def mapE : List α → σ → (σ → α → Option (γ × σ)) → Option (List γ × σ)
  | [], s, _ => some ([], s)
  | x :: r, s, g => (g s x).bind fun y => (mapE r y.2 g).bind fun z => some (y.1 :: z.1, z.2)
def unwP (vs : List Nat) (Γ Γ' : Ga) : Ga := vs.foldr (fun v Γ' => upP v ((Γ[v]?).getD .aa) Γ') Γ'
theorem unwP_ok {Γ Γ' : Ga} {δ δ' : List Sl} (s : Sat Γ δ) (s' : Sat Γ' δ') : ∀ vs : List Nat, Sat (unwP vs Γ Γ') (unw vs δ δ')
  | [] => s'
  | v :: vs => by
    refine (unwP_ok s s' vs).up ?_
    cases q : Γ[v]? with
    | none => trivial
    | some p =>
      obtain ⟨t, e1, e2⟩ := s.get q
      rw [e1]
      exact e2
theorem lcE [Enc α] {W : Bool} {a : γ → AV} {el : γ → El} (hel : ∀ y, elOf W (a y) = some (el y)) {ΓL : σ → Ga} {ΓT : σ → α → Ga} {Γ2 : σ → α → γ × σ → Ga} {pe : σ → α → Option (γ × σ)} (hok : ∀ s, okP vs (ΓL s) = true) (ht : ∀ s x, Tg vs t (wipeP vs (ΓL s)) (enc x) (ΓT s x)) (htt : ∀ s x, Ts tt (ΓT s x) (some true)) (hf : ∀ s x, Ev f (ΓT s x) (pe s x) (fun y => a y.1) (Γ2 s x)) (hz : ∀ s x y, GaLe (unwP vs (ΓL s) (Γ2 s x y)) (ΓL y.2)) :
    ∀ (xs : List α) (es : List El) (s : σ) (r : List γ × σ), mapE xs s pe = some r → es.length + xs.length ≤ cap → ∀ δ, Sat (ΓL s) δ → ∃ δ', lcL W vs t tt f (xs.map enc) es δ = .ok (es ++ r.1.map el) δ' ∧ Sat (ΓL r.2) δ'
  | [], es, s, r, e, _, δ, sa => by
    cases some_of e
    exact ⟨δ, by simp [lcL], sa⟩
  | x :: xs, es, s, r, e, hl, δ, sa => by
    obtain ⟨y, e1, e⟩ := bind_of e
    obtain ⟨z, e2, e⟩ := bind_of e
    cases some_of e
    have hw := okP_ok (hok s) sa
    obtain ⟨δ1, h1, s1, _⟩ := ht s x (wipeD vs δ) (wipeP_ok sa vs)
    have h2 := htt s x true rfl δ1 s1
    obtain ⟨δ2, h3, s2⟩ := hf s x y e1 δ1 s1
    simp only [List.length_cons] at hl
    obtain ⟨δ3, h4, s3⟩ := lcE hel hok ht htt hf hz xs (es ++ [el y.1]) y.2 z e2 (by simp; omega) (unw vs δ δ2) ((unwP_ok sa s2 vs).wk (hz s x y))
    refine ⟨δ3, ?_, s3⟩
    rw [List.map_cons]
    unfold lcL
    rw [if_pos hw, h1]
    simp only [h2, if_true, h3, hel]
    rw [if_pos (by omega), h4]
    simp
theorem ev_lc [Enc α] [Enc γ] {p : Option β} {xs : β → List α} {Γ1 : β → Ga} {s0 : β → σ} {ΓL : β → σ → Ga} {ΓT : β → σ → α → Ga} {Γ2 : β → σ → α → γ × σ → Ga} {pe : β → σ → α → Option (γ × σ)} (hw : It w Γ p (fun v => (xs v).map enc) Γ1) (h0 : ∀ v, GaLe (Γ1 v) (ΓL v (s0 v))) (hok : ∀ v s, okP vs (ΓL v s) = true) (ht : ∀ v s x, Tg vs t (wipeP vs (ΓL v s)) (enc x) (ΓT v s x)) (htt : ∀ v s x, Ts tt (ΓT v s x) (some true)) (hf : ∀ v s x, Ev f (ΓT v s x) (pe v s x) (fun y => .val (enc y.1)) (Γ2 v s x)) (hz : ∀ v s x y, GaLe (unwP vs (ΓL v s) (Γ2 v s x y)) (ΓL v y.2)) :
    Ev (sLc false w vs t tt f) Γ (p.bind fun v => if (xs v).length ≤ cap then (mapE (xs v) (s0 v) (pe v)).bind fun r => some (r, v) else none) (fun r => .tmp (ow r.1.1)) (fun r => ΓL r.2 r.1.2) := fun r e δ s => by
  obtain ⟨v, e1, e⟩ := bind_of e
  by_cases c : (xs v).length ≤ cap
  · rw [if_pos c] at e
    obtain ⟨q, e2, e⟩ := bind_of e
    cases some_of e
    obtain ⟨δ1, h1, s1⟩ := hw v e1 δ s
    obtain ⟨δ2, h2, s2⟩ := lcE el_val (hok v) (ht v) (htt v) (hf v) (hz v) (xs v) [] (s0 v) q e2 (by simpa using c) δ1 (s1.wk (h0 v))
    refine ⟨δ2, ?_, s2⟩
    unfold sLc
    rw [h1]
    show (lcL false vs t tt f ((xs v).map enc) [] δ1).bind _ = _
    rw [h2]
    exact congrArg (fun z => Rs.ok (AV.tmp z) δ2) (ow_els q.1)
  · rw [if_neg c] at e
    cases e
end
section
variable {ρ : Type} {B : List Sl → Ot}
theorem sat_eqs : ∀ ss : List Sl, Sat (ss.map .eq) ss
  | [] => .nil
  | s :: r => .cons rfl (sat_eqs r)
/-- what pinned slots hold behind -/
def outsP (n : Nat) (pin : List Nat) (Γ : Ga) : Option (List Sl) := (List.range n).mapM fun i => if i ∈ pin then (match Γ[i]? with
  | some (.eq s) => some (noAl s)
  | _ => none) else some .no
theorem outsP_ok {n : Nat} {pin : List Nat} {Γ : Ga} {δ o : List Sl} (h : outsP n pin Γ = some o) (s : Sat Γ δ) : outs n pin δ = o := by
  unfold outsP at h
  unfold outs
  generalize List.range n = l at h
  induction l generalizing o with
  | nil => cases h; rfl
  | cons i r ih =>
    rw [List.mapM_cons] at h
    obtain ⟨x, e1, h⟩ := bind_of h
    obtain ⟨y, e2, h⟩ := bind_of h
    cases some_of h
    rw [List.map_cons, ih e2]
    congr 1
    by_cases c : i ∈ pin
    · rw [if_pos c] at e1 ⊢
      cases q : Γ[i]? with
      | none => rw [q] at e1; cases e1
      | some p =>
        rw [q] at e1
        cases p with
        | eq t =>
          cases some_of e1
          rw [s.at_ q]
          rfl
        | _ => cases e1
    · rw [if_neg c] at e1 ⊢
      exact (some_of e1).symm
theorem fun_of {n m : Nat} {pin : List Nat} {p : Option ρ} {ins : List Sl} {ret : ρ → Sl} {ΓR : ρ → Ga} {out : ρ → List Sl} (h : Bl B ((ins ++ List.replicate (m - n) Sl.no).map Pt.eq) p (RF (fun r => .eq (ret r)) ΓR)) (ho : ∀ r, outsP n pin (ΓR r) = some (out r) := by intro _; rfl) : Fun (fnRun n m pin B) p ins ret out := fun r e => by
  obtain ⟨s, δ', h1, h2, h3⟩ := h r e _ (sat_eqs _)
  cases (show s = ret r from h2)
  have ho := outsP_ok (ho r) h3
  unfold fnRun
  rcases h1 with h1 | ⟨h1, h4⟩
  · simp only [h1, ho]
  · simp only [h1, ho, h4]
end
theorem rf_eq {ρ : Type} {ret : ρ → Pt} {ΓR : ρ → Ga} {r : ρ} {s : Sl} {Γ : Ga} (h : (ret r).Ok s) (l : GaLe Γ (ΓR r)) : ∀ δ', Sat Γ δ' → RF ret ΓR r (.rt s δ') := fun δ' sa => ⟨s, δ', .inl rfl, h, sa.wk l⟩
end Nv
namespace Nv
open PySem Hb L2
open Enc (enc)
section
variable {α β γ ε ζ : Type} [Enc α] [Enc β] {Γ : Ga} {fa fb : List Sl → Rs AV} {g : AV → AV → List Sl → Rs AV} {h : AV → List Sl → Rs AV} {op : α → β → Option γ} {op1 : α → Option γ} {a : γ → AV}
/-- with effects -/
theorem ev2g (o : Op2 g op a) {pa : Option ε} {va : ε → α} {Γ1 : ε → Ga} {pb : ε → Option ζ} {vb : ε → ζ → β} {Γ2 : ε → ζ → Ga} (ha : Er fa Γ pa (fun x => enc (va x)) Γ1) (hb : ∀ x, Es fb (Γ1 x) (pb x) (fun y => enc (vb x y)) (Γ2 x)) :
    Ev (s2 g fa fb) Γ (pa.bind fun x => (pb x).bind fun y => (op (va x) (vb x y)).bind fun r => some (r, x, y)) (fun r => a r.1) (fun r => Γ2 r.2.1 r.2.2) := fun r e δ s => by
  obtain ⟨v, e1, e⟩ := bind_of e
  obtain ⟨w, e2, e⟩ := bind_of e
  obtain ⟨z, q, e⟩ := bind_of e
  cases some_of e
  obtain ⟨δ1, h1, s1⟩ := ha v e1 δ s
  obtain ⟨y, δ2, k1, k2, k3, s2⟩ := hb v w e2 δ1 s1
  refine ⟨δ2, ?_, s2⟩
  unfold Hb.s2
  rw [h1]
  show (sSt fb δ1).bind _ = _
  rw [k1]
  exact o (va v) (vb v w) z δ2 (.val (enc (va v))) y rfl rfl k2 k3 q
theorem ev1g (o : Op1 h op1 a) {pa : Option ε} {va : ε → α} {Γ1 : ε → Ga} (ha : Es fa Γ pa (fun x => enc (va x)) Γ1) : Ev (s1 h fa) Γ (pa.bind fun x => (op1 (va x)).bind fun r => some (r, x)) (fun r => a r.1) (fun r => Γ1 r.2) := fun r e δ s => by
  obtain ⟨v, e1, e⟩ := bind_of e
  obtain ⟨z, q, e⟩ := bind_of e
  cases some_of e
  obtain ⟨x, δ1, h1, h2, h3, s1⟩ := ha v e1 δ s
  refine ⟨δ1, ?_, s1⟩
  unfold Hb.s1
  rw [h1]
  exact o (va v) z δ1 x h2 h3 q
/-- nothing given: a statement whose value is None -/
theorem Ts.te' {t : List Sl → Rs Bool} {p : Option Bool} (h : Ts t Γ p) : Te t Γ p (fun v => v) fun _ => Γ := fun v e δ s => ⟨δ, h v e δ s, s⟩
/-- one whose value is read off (a test's value) -/
theorem pu_none : Pu (sC .none) Γ (some ()) fun v => .val (enc v) := fun v e δ _ => rfl
end
section
variable {α β γ ε ζ ρ σ : Type} {Γ : Ga} {f fa fb : List Sl → Rs AV} {t : List Sl → Rs Bool}
theorem _root_.Nv.Pu.un [Enc α] {p : Option (Option α)} (hh : Pu f Γ p fun v => .val (enc v)) : Pu f Γ (p.bind fun d => d) fun v : α => .val (enc v) := fun r e δ s => by
  obtain ⟨v, e1, e⟩ := bind_of e
  subst e
  exact hh _ e1 δ s
theorem _root_.Nv.Pu.any [Enc α] {p : Option α} (hh : Pu f Γ p fun v => .val (enc v)) : Pu f Γ (p.bind fun d => some (enc d)) fun v : PyData => .val (enc v) := fun r e δ s => by
  obtain ⟨v, e1, e⟩ := bind_of e
  cases some_of e
  exact hh _ e1 δ s
end
theorem Ev.mapW {ε ζ : Type} {f : List Sl → Rs AV} {Γ : Ga} {p : Option ε} {aa : ε → AV} {Γ1 : ε → Ga} {bb : ζ → AV} {Γ2 : ζ → Ga} (k : ε → ζ) (hh : Ev f Γ p aa Γ1) (h2 : ∀ x, GaLe (Γ1 x) (Γ2 (k x))) (h1 : ∀ x, bb (k x) = aa x := by intro _; rfl) : Ev f Γ (p.bind fun x => some (k x)) bb Γ2 := fun r e δ s => by
  obtain ⟨v, e1, e⟩ := bind_of e
  cases some_of e
  obtain ⟨δ', q1, q2⟩ := hh v e1 δ s
  exact ⟨δ', by rw [h1]; exact q1, q2.wk (h2 v)⟩
end Nv
namespace Nv
open PySem Hb L2
open Enc (enc)
section
variable {β ζ : Type} {Γ : Ga}
theorem bl_ga {f : List Sl → Ot} {p : Option ζ} {R : ζ → Ot → Prop} (Δ : Ga) (h : Γ = Δ) (k : Bl f Δ p R) : Bl f Γ p R := by subst h; exact k
theorem pu_ga {f : List Sl → Rs AV} {p : Option β} {a : β → AV} (Δ : Ga) (h : Γ = Δ) (k : Pu f Δ p a) : Pu f Γ p a := by subst h; exact k
theorem ts_ga {f : List Sl → Rs Bool} {p : Option Bool} (Δ : Ga) (h : Γ = Δ) (k : Ts f Δ p) : Ts f Γ p := by subst h; exact k
theorem ev_ga {f : List Sl → Rs AV} {p : Option β} {a : β → AV} {Γ' : β → Ga} (Δ : Ga) (h : Γ = Δ) (q : Ev f Δ p a Γ') : Ev f Γ p a Γ' := by subst h; exact q
theorem es_ga {f : List Sl → Rs AV} {p : Option β} {d : β → PyData} {Γ' : β → Ga} (Δ : Ga) (h : Γ = Δ) (q : Es f Δ p d Γ') : Es f Γ p d Γ' := by subst h; exact q
theorem dl_ga {g : List Sl → Rs (List PyData)} {p : Option β} {ds : β → List PyData} {Γ' : β → Ga} (Δ : Ga) (h : Γ = Δ) (q : Dl g Δ p ds Γ') : Dl g Γ p ds Γ' := by subst h; exact q
theorem gale_ga {Γ0 : Ga} (Δ : Ga) (h : Γ = Δ) (k : GaLe Δ Γ0) : GaLe Γ Γ0 := by subst h; exact k
end
end Nv
namespace Nv
open PySem Hb L2
open Enc (enc)
end Nv
namespace Nv
open PySem Hb L2
open Enc (enc)
section
variable {α β γ ε ζ : Type} {Γ : Ga} {fa fb fc : List Sl → Rs AV}
def fdivW (i j : Int) : Option Int := if 0 < j ∧ j < 2 ^ 1000 then some (i / j) else none
def powW (i j : Int) : Option Int := if 0 ≤ j ∧ j ≤ 64 ∧ i.natAbs < 2 ^ 1024 then some (i ^ j.toNat) else none
theorem op_fdivW : Op2 gFdivW fdivW fun r => .val (enc r) := op_gIc (C := fun _ j => 0 < j ∧ j < 2 ^ 1000)
theorem op_powW : Op2 gPowW powW fun r => .val (enc r) := op_gIc (C := fun i j => 0 ≤ j ∧ j ≤ 64 ∧ i.natAbs < 2 ^ 1024)
theorem Es.any [Enc α] {f : List Sl → Rs AV} {p : Option ε} {va : ε → α} {Γ' : ε → Ga} (h : Es f Γ p (fun v => enc (va v)) Γ') : Es f Γ (p.bind fun v => some (enc (va v), v)) (fun r => enc (r.1 : PyData)) fun r => Γ' r.2 := fun r e δ s => by
  obtain ⟨v, e1, e⟩ := bind_of e
  cases some_of e
  exact h v e1 δ s
end
end Nv
namespace Nv
open PySem Hb L2
open Enc (enc)
class EncKey (κ : Type) [Enc κ] where
  key : κ → Key
  h : ∀ k : κ, keyOf (enc k) = some (key k)
  inj : ∀ a b : κ, key a = key b → a = b
instance : EncKey Int := ⟨.inl, fun _ => rfl, fun _ _ h => Sum.inl.inj h⟩
instance : EncKey Str := ⟨.inr, fun _ => rfl, fun _ _ h => Sum.inr.inj h⟩
section
variable {α β γ κ : Type} [Enc α] [Enc β] [Enc κ] [DecidableEq κ] [EncKey κ] {Γ : Ga} {fa fb : List Sl → Rs AV}
theorem notDic_list {δ : List Sl} {x : AV} {ds : List PyData} (h : rdA δ x = some (.list ds)) : isDic x δ = false := by simp [isDic, dicA, h]
theorem op_ix2 : Op2 gIx2 (atL (α := α)) fun r => .val (enc r) := fun v w r δ x y h1 h1' h2 h2' e => by
  have : gIx2 x y δ = gIx x y δ := by unfold gIx2; rw [notDic_list (show rdA δ x = some (.list (v.map enc)) from h1')]; rfl
  rw [this]
  exact op_ix v w r δ x y h1 h1' h2 h2' e
end
end Nv
namespace Nv
open PySem Hb L2
open Enc (enc)
theorem Pu.mapV {α β : Type} [Enc α] {Γ : Ga} {f : List Sl → Rs AV} {p : Option β} (k : β → α) (h : Pu f Γ p fun x => .val (enc (k x))) : Pu f Γ (p.bind fun x => some (k x)) fun v => .val (enc v) := fun r e δ s => by
  obtain ⟨v, e1, e⟩ := bind_of e
  cases some_of e
  exact h v e1 δ s
end Nv
namespace Nv
open PySem Hb L2
open Enc (enc)
section
/-- as everything stands still -/
def frzP : Pt → Pt
  | .eq .no => .eq .no
  | .eq (.al _ _) => .aa
  | .eq s => (match s.tree with
    | some d => .eq (.fz d)
    | none => .aa)
  | .tr d => .eq (.fz d)
  | _ => .aa
theorem frzP_ok {δ : List Sl} {p : Pt} {s : Sl} (h : p.Ok s) : (frzP p).Ok (frzS δ s) := by
  cases p with
  | aa => trivial
  | any => trivial
  | pl => trivial
  | ts d => trivial
  | tr d =>
    show frzS δ s = .fz d
    rcases h with ⟨h, ds, rfl⟩ | rfl
    · show Sl.fz (.list _) = _
      exact congrArg Sl.fz (Option.some.inj h)
    · rfl
  | eq t =>
    have h : s = t := h
    subst h
    cases s with
    | no => exact rfl
    | al x j => trivial
    | fz d => exact rfl
    | ol xs => exact rfl
    | od kvs => exact rfl
theorem Sat.frz {Γ : Ga} {δ δ0 : List Sl} (h : Sat Γ δ) : Sat (Γ.map frzP) (δ.map (frzS δ0)) := by
  induction h with
  | nil => exact .nil
  | cons h1 _ ih => exact .cons (frzP_ok h1) ih
/-- as everything stands still, name by name -/
inductive FrzP : Pt → Pt → Prop
  | no : FrzP (.eq .no) (.eq .no)
  | fz {d : PyData} : FrzP (.eq (.fz d)) (.eq (.fz d))
  | ow {α : Type} [Enc α] {xs : List α} : FrzP (.eq (ow xs)) (.eq (.fz (enc xs)))
  | oww {α : Type} [Enc α] {xs : List (List α)} : FrzP (.eq (oww xs)) (.eq (.fz (enc xs)))
  | od {κ α : Type} [Enc κ] [Enc α] {xs : Dc κ α} : FrzP (.eq (od xs)) (.eq (.fz (enc xs)))
  | tr {d : PyData} : FrzP (.tr d) (.eq (.fz d))
  | ts {d : PyData} : FrzP (.ts d) (.eq (.fz d))
  | aa {p : Pt} : FrzP p .aa
theorem FrzP.ok {p q : Pt} (z : FrzP p q) {s : Sl} (h : p.Ok s) (δ : List Sl) : q.Ok (frzS δ s) := by
  cases z with
  | no => cases (show s = .no from h); exact rfl
  | fz => cases (show s = .fz _ from h); exact rfl
  | @ow α _ xs =>
    cases (show s = Nv.ow xs from h)
    show Sl.fz _ = _
    exact congrArg Sl.fz (Option.some.inj (ow_tree xs))
  | @oww α _ xs =>
    cases (show s = Nv.oww xs from h)
    show Sl.fz _ = _
    exact congrArg Sl.fz (Option.some.inj (oww_tree xs))
  | od => cases (show s = Nv.od _ from h); exact rfl
  | tr =>
    rcases h with ⟨h, ds, rfl⟩ | rfl
    · show Sl.fz (.list _) = _
      exact congrArg Sl.fz (Option.some.inj h)
    · exact rfl
  | ts =>
    rcases h with ⟨h, ds, rfl⟩ | ⟨rfl, _⟩
    · show Sl.fz (.list _) = _
      exact congrArg Sl.fz (Option.some.inj h)
    · exact rfl
  | aa => trivial
/-- its values hold nothing -/
class Scal (α : Type) [Enc α] : Prop where
  s : ∀ x : α, scalD (enc x) = true
instance : Scal Int := ⟨fun _ => rfl⟩
instance : Scal Bool := ⟨fun _ => rfl⟩
instance : Scal Str := ⟨fun _ => rfl⟩
instance : Scal Unit := ⟨fun _ => rfl⟩
instance {α : Type} [Enc α] [Scal α] : Scal (Option α) := ⟨fun x => match x with
  | none => rfl
  | some x => Scal.s x⟩
variable {α β γ ε : Type} {Γ : Ga} {f fa : List Sl → Rs AV}
end
end Nv
namespace Nv
open PySem Hb L2
open Enc (enc)
end Nv
namespace Nv
open PySem Hb L2
open Enc (enc)
end Nv
namespace Nv
open PySem Hb L2
open Enc (enc)
end Nv
namespace Nv
open PySem Hb L2
open Enc (enc)
end Nv
namespace Nv
open PySem Hb L2
open Enc (enc)
section
variable {α β γ ε ζ σ ρ : Type} {Γ Γx : Ga} {f : List Sl → Rs AV} {A g : List Sl → Ot} {R : ζ → Ot → Prop}
def Xe (f : List Sl → Rs AV) (Γ : Ga) (p : Option Str) (Γx : Ga) : Prop := ∀ C, p = some C → ∀ δ, Sat Γ δ → ∃ δ', f δ = .er ⟨C, none⟩ δ' ∧ Sat Γx δ'
theorem Xe.st {p : Option Str} (h : Xe f Γ p Γx) : Xe (sSt f) Γ p Γx := fun C e δ s => by
  obtain ⟨δ', h1, h2⟩ := h C e δ s
  exact ⟨δ', by unfold sSt; rw [h1], h2⟩
theorem Xe.tk {p : Option Str} (h : Xe f Γ p Γx) : Xe (sTk f) Γ p Γx := fun C e δ s => by
  obtain ⟨δ', h1, h2⟩ := h.st C e δ s
  exact ⟨δ', by unfold sTk; rw [h1], h2⟩
end
end Nv
namespace Hb
open PySem L2
end Hb
namespace P
open PySem PySem.Spec PyProof.Rows L2 Hb Nv
open Enc (enc)
def B__law_cells : List Sl → Ot :=
    oRet (sSl (s2 gAdd (sVar 0) (sLst (lCons (sC (.int 0)) (lNil)))) none (some (s2 gMax2 (sC (.int 1)) (s2 gMin2 (sVar 1) (s1 (gRd lenD) (sVar 0))))))
def F__law_cells : List Sl → FR := fnRun 2 2 [] B__law_cells
def n__law_cells (a0 : (List Int)) (a1 : Int) : Option ((List Int)) :=
    (Option.bind (Option.bind (Option.bind (some a0) fun x4 => Option.bind (Option.bind (Option.bind (some (0 : Int)) fun x1 => Option.bind (some ()) fun x3 => some (x1, x3)) fun x2 => some ([(Prod.fst x2)] : (List Int))) fun x5 => catL x4 x5) fun x12 => Option.bind (some none) fun x13 => Option.bind (Option.bind (Option.bind (some (1 : Int)) fun x9 => Option.bind (Option.bind (some a1) fun x7 => Option.bind (Option.bind (some a0) fun x6 => lenL x6) fun x8 => minI2 x7 x8) fun x10 => maxI2 x9 x10) fun x11 => some (some x11)) fun x14 => some (cutL x12 x13 x14)) fun x15 => some x15)
theorem V__law_cells (a0 : (List Int)) (a1 : Int) : Fun F__law_cells (n__law_cells a0 a1) [.fz (enc a0), .fz (enc a1)] (fun r : ((List Int)) => ow (r : (List Int))) fun r => [.no, .no] :=
  fun_of (ΓR := fun r => [.aa, .aa]) (show Bl B__law_cells _ _ _ from (bl_ga [.eq (.fz (enc (a0 : (List Int)))), .eq (.fz (enc (a1 : Int)))] (by kernel_rfl) (bl_retT ((pu_sl (((pu2 Nv.op_cat ((pu_var 0 rfl)).rd (((pu_lst (dp_cons (pu_c).tkP dp_nil) (fun x2 => ([(Prod.fst x2)] : (List Int))))).rdT ow_tree))).rdT ow_tree) .no (.yes ((pu2 Nv.op_max2 (pu_c).rd ((pu2 Nv.op_min2 ((pu_var 1 rfl)).rd ((pu1A Nv.op_len (((pu_var 0 rfl)).rd).ra)).rd)).rd)).rd))).ev fun x15 => (rf_eq rfl (.cons .aa (.cons .aa .nil))))))
end P
namespace P
open PySem PySem.Spec PyProof.Rows L2 Hb Nv
open Enc (enc)
def B__law_draw : List Sl → Ot :=
    oSeq (oIf (sTst (s2 gGe (s2 gIx2 (sVar 0) (sC (.int 0))) (s2 gPowW (sC (.int 10)) (sC (.int 18))))) (oSeq (oAsg (s2 gMod (s1 (gRd intD) (s2 gIx2 (sVar 0) (sC (.int 0)))) (sVar 1)) (tgN 2))
    (oSeq (oAsg (s2 gFdivW (s2 gIx2 (sVar 0) (sC (.int 0))) (sVar 1)) (tgS (sVar 0) (sC (.int 0))))
    (oRet (sVar 2)))) (oNext))
    (oSeq (oAsg (s2 gMod (s1 (gRd intD) (s2 gAdd (s2 gMulX (s2 gIx2 (sVar 0) (sC (.int 1))) (sC (.int 69069))) (sC (.int 40503)))) (sC (.int 4294967291))) (tgS (sVar 0) (sC (.int 1))))
    (oSeq (oAsg (s2 gMod (s1 (gRd intD) (s2 gAdd (s2 gMulX (s2 gIx2 (sVar 0) (sC (.int 2))) (s2 gIx2 (sVar 0) (sC (.int 2)))) (s2 gIx2 (sVar 0) (sC (.int 1))))) (sC (.int 2147483587))) (tgS (sVar 0) (sC (.int 2))))
    (oRet (s2 gMod (s1 (gRd intD) (s2 gAdd (s2 gFdivW (s2 gIx2 (sVar 0) (sC (.int 1))) (sC (.int 32))) (s2 gFdivW (s2 gIx2 (sVar 0) (sC (.int 2))) (sC (.int 16))))) (sVar 1)))))
def F__law_draw : List Sl → FR := fnRun 2 3 [0] B__law_draw
def n__law_draw (a0 : (List Int)) (a1 : Int) : Option (Int × (List Int)) :=
    (Option.bind (Option.bind (Option.bind (some a0) fun x1 => Option.bind (some (0 : Int)) fun x2 => atL x1 x2) fun x5 => Option.bind (Option.bind (some (10 : Int)) fun x3 => Option.bind (some (18 : Int)) fun x4 => powW x3 x4) fun x6 => geI x5 x6) fun x7 => if x7 = true then (Option.bind (Option.bind (Option.bind (Option.bind (some a0) fun x8 => Option.bind (some (0 : Int)) fun x9 => atL x8 x9) fun x10 => intI x10) fun x11 => Option.bind (some a1) fun x12 => modI x11 x12) fun x13 => (Option.bind (Option.bind (Option.bind (some a0) fun x14 => Option.bind (some (0 : Int)) fun x15 => atL x14 x15) fun x16 => Option.bind (some a1) fun x17 => fdivW x16 x17) fun x18 => Option.bind (some (0 : Int)) fun x19 => Option.bind (stI a0 x19 x18) fun x20 => (Option.bind (some x13) fun x21 => some (x21, x20)))) else (Option.bind (Option.bind (Option.bind (Option.bind (Option.bind (Option.bind (some a0) fun x22 => Option.bind (some (1 : Int)) fun x23 => atL x22 x23) fun x24 => Option.bind (some (69069 : Int)) fun x25 => mulI x24 x25) fun x26 => Option.bind (some (40503 : Int)) fun x27 => addI x26 x27) fun x28 => intI x28) fun x29 => Option.bind (some (4294967291 : Int)) fun x30 => modI x29 x30) fun x31 => Option.bind (some (1 : Int)) fun x32 => Option.bind (stI a0 x32 x31) fun x33 => (Option.bind (Option.bind (Option.bind (Option.bind (Option.bind (Option.bind (some x33) fun x34 => Option.bind (some (2 : Int)) fun x35 => atL x34 x35) fun x38 => Option.bind (Option.bind (some x33) fun x36 => Option.bind (some (2 : Int)) fun x37 => atL x36 x37) fun x39 => mulI x38 x39) fun x42 => Option.bind (Option.bind (some x33) fun x40 => Option.bind (some (1 : Int)) fun x41 => atL x40 x41) fun x43 => addI x42 x43) fun x44 => intI x44) fun x45 => Option.bind (some (2147483587 : Int)) fun x46 => modI x45 x46) fun x47 => Option.bind (some (2 : Int)) fun x48 => Option.bind (stI x33 x48 x47) fun x49 => (Option.bind (Option.bind (Option.bind (Option.bind (Option.bind (Option.bind (some x49) fun x50 => Option.bind (some (1 : Int)) fun x51 => atL x50 x51) fun x52 => Option.bind (some (32 : Int)) fun x53 => fdivW x52 x53) fun x58 => Option.bind (Option.bind (Option.bind (some x49) fun x54 => Option.bind (some (2 : Int)) fun x55 => atL x54 x55) fun x56 => Option.bind (some (16 : Int)) fun x57 => fdivW x56 x57) fun x59 => addI x58 x59) fun x60 => intI x60) fun x61 => Option.bind (some a1) fun x62 => modI x61 x62) fun x63 => some (x63, x49)))))
theorem V__law_draw (a0 : (List Int)) (a1 : Int) : Fun F__law_draw (n__law_draw a0 a1) [ow a0, .fz (enc a1)] (fun r : (Int × (List Int)) => .fz (enc ((Prod.fst r) : Int))) fun r => [ow (Prod.snd r), .no] :=
  fun_of (ΓR := fun r => [.eq (ow ((Prod.snd r) : (List Int))), .aa, .aa]) (show Bl B__law_draw _ _ _ from (bl_ga [.eq (ow (a0 : (List Int))), .eq (.fz (enc (a1 : Int))), .eq .no] (by kernel_rfl) (bl_if (k := fun x7 => x7) ((ts_tst (pu2 Nv.op_ge ((pu2 Nv.op_ix2 (rd_own 0 rfl) (pu_c).rd)).rd ((pu2 Nv.op_powW (pu_c).rd (pu_c).rd)).rd))).te' (fun x7 => (bl_assoc (bl_asgV ((pu2 Nv.op_mod ((pu1A Nv.op_int (((pu2 Nv.op_ix2 (rd_own 0 rfl) (pu_c).rd)).rd).ra)).rd ((pu_var 1 rfl)).rd)).ev fun x13 => (bl_ga [.eq (ow (a0 : (List Int))), .eq (.fz (enc (a1 : Int))), .eq (.fz (enc (x13 : Int)))] (by kernel_rfl) (bl_assoc (bl_set (k := 0) (va := fun x18 => x18) (xs := fun x18 => a0) ((pu2 Nv.op_fdivW ((pu2 Nv.op_ix2 (rd_own 0 rfl) (pu_c).rd)).rd ((pu_var 1 rfl)).rd)).ev (fun _ => rfl) (fun x18 => (pu_c).rd) fun x18 x20 => (bl_ga [.eq (ow (x20 : (List Int))), .eq (.fz (enc (a1 : Int))), .eq (.fz (enc (x13 : Int)))] (by kernel_rfl) (bl_retS (bl_retV ((pu_var 2 rfl)).ev fun x21 => (rf_eq rfl (.cons .rfl (.cons .aa (.cons .aa .nil))))))))))))) fun x7 => (bl_next (bl_set (k := 0) (va := fun x31 => x31) (xs := fun x31 => a0) ((pu2 Nv.op_mod ((pu1A Nv.op_int (((pu2 Nv.op_add ((pu2 Nv.op_mul ((pu2 Nv.op_ix2 (rd_own 0 rfl) (pu_c).rd)).rd (pu_c).rd)).rd (pu_c).rd)).rd).ra)).rd (pu_c).rd)).ev (fun _ => rfl) (fun x31 => (pu_c).rd) fun x31 x33 => (bl_ga [.eq (ow (x33 : (List Int))), .eq (.fz (enc (a1 : Int))), .eq .no] (by kernel_rfl) (bl_set (k := 0) (va := fun x47 => x47) (xs := fun x47 => x33) ((pu2 Nv.op_mod ((pu1A Nv.op_int (((pu2 Nv.op_add ((pu2 Nv.op_mul ((pu2 Nv.op_ix2 (rd_own 0 rfl) (pu_c).rd)).rd ((pu2 Nv.op_ix2 (rd_own 0 rfl) (pu_c).rd)).rd)).rd ((pu2 Nv.op_ix2 (rd_own 0 rfl) (pu_c).rd)).rd)).rd).ra)).rd (pu_c).rd)).ev (fun _ => rfl) (fun x47 => (pu_c).rd) fun x47 x49 => (bl_ga [.eq (ow (x49 : (List Int))), .eq (.fz (enc (a1 : Int))), .eq .no] (by kernel_rfl) (bl_retV ((pu2 Nv.op_mod ((pu1A Nv.op_int (((pu2 Nv.op_add ((pu2 Nv.op_fdivW ((pu2 Nv.op_ix2 (rd_own 0 rfl) (pu_c).rd)).rd (pu_c).rd)).rd ((pu2 Nv.op_fdivW ((pu2 Nv.op_ix2 (rd_own 0 rfl) (pu_c).rd)).rd (pu_c).rd)).rd)).rd).ra)).rd ((pu_var 1 rfl)).rd)).ev fun x63 => (rf_eq rfl (.cons .rfl (.cons .aa (.cons .aa .nil)))))))))))))
end P
namespace Nv
open PySem Hb L2
open Enc (enc)
end Nv
namespace Nv
open PySem Hb L2
open Enc (enc)
end Nv
namespace Nv
open PySem Hb L2
open Enc (enc)
end Nv
namespace Nv
open PySem Hb L2
open Enc (enc)
end Nv
namespace Nv
open PySem Hb L2
open Enc (enc)
/-- tuples of whole numbers -/
class TKy (ξ : Type) [Enc ξ] where
  tp : ξ → Tp Int
  h : ∀ x : ξ, enc x = enc (tp x)
instance : TKy (Tp Int) := ⟨fun x => x, fun _ => rfl⟩
instance : TKy (Int × Int) := ⟨fun x => ⟨[x.1, x.2]⟩, fun _ => rfl⟩
instance : TKy (T3 Int Int Int) := ⟨fun x => ⟨[x.a, x.b, x.c]⟩, fun _ => rfl⟩
instance : TKy (T4 Int Int Int Int) := ⟨fun x => ⟨[x.a, x.b, x.c, x.d]⟩, fun _ => rfl⟩
end Nv
namespace Nv
open PySem Hb L2
open Enc (enc)
end Nv
namespace Nv
open PySem Hb L2
open Enc (enc)
end Nv
namespace Nv
open PySem Hb L2
open Enc (enc)
end Nv
namespace Nv
open PySem Hb L2
open Enc (enc)
end Nv
namespace Nv
open PySem Hb L2
open Enc (enc)
end Nv
namespace Nv
open PySem Hb L2
open Enc (enc)
end Nv
namespace Nv
open PySem Hb L2
open Enc (enc)
end Nv
namespace Nv
open PySem Hb L2
open Enc (enc)
end Nv
namespace Nv
open PySem Hb L2
open Enc (enc)
end Nv
namespace Nv
open PySem Hb L2
open Enc (enc)
/-- a value as one of a type, if it is one -/
class UnA (α : Type) [Enc α] where
  un : PyData → Option α
  h : ∀ {v : PyData} {w : α}, un v = some w → (enc w : PyData) = v
instance : UnA PyData := ⟨some, fun h => by cases h; rfl⟩
instance : UnA Int := ⟨fun v => match v with | .int i => some i | _ => none, fun {v w} h => by
  cases v <;> first | (cases h; rfl) | exact nomatch h⟩
instance : UnA Str := ⟨fun v => match v with | .str i => some i | _ => none, fun {v w} h => by
  cases v <;> first | (cases h; rfl) | exact nomatch h⟩
def unL [Enc α] [UnA α] : List PyData → Option (List α)
  | [] => some []
  | x :: r => (UnA.un x).bind fun y => (unL r).bind fun ys => some (y :: ys)
theorem unL_h [Enc α] [UnA α] : ∀ {xs : List PyData} {ys : List α}, unL xs = some ys → ys.map enc = xs
  | [], _, h => by cases h; rfl
  | x :: r, ys, h => by
    unfold unL at h
    obtain ⟨y, e1, h⟩ := bind_of h
    obtain ⟨zs, e2, h⟩ := bind_of h
    cases h
    rw [List.map_cons, UnA.h e1, unL_h e2]
instance [Enc α] [UnA α] : UnA (Tp α) := ⟨fun v => match v with | .tuple xs => (unL xs).bind fun ys => some ⟨ys⟩ | _ => none, fun {v w} h => by
  cases v with
  | tuple xs =>
    obtain ⟨ys, e, h⟩ := bind_of (p := unL xs) h
    cases h
    show PyData.tuple (ys.map enc) = _
    rw [unL_h e]
  | _ => exact nomatch h⟩
instance [Enc α] [UnA α] : UnA (List α) := ⟨fun v => match v with | .list xs => unL xs | _ => none, fun {v w} h => by
  cases v with
  | list xs =>
    show PyData.list (w.map enc) = _
    rw [unL_h (xs := xs) h]
  | _ => exact nomatch h⟩
instance [Enc α] [UnA α] [Enc β] [UnA β] : UnA (α × β) := ⟨fun v => match v with | .tuple [x, y] => (UnA.un x).bind fun a => (UnA.un y).bind fun b => some (a, b) | _ => none, fun {v w} h => by
  split at h
  · obtain ⟨a, e1, h⟩ := bind_of h
    obtain ⟨b, e2, h⟩ := bind_of h
    cases h
    show PyData.tuple [enc a, enc b] = _
    rw [UnA.h e1, UnA.h e2]
  · exact nomatch h⟩
instance [Enc α] [UnA α] [Enc β] [UnA β] [Enc γ] [UnA γ] : UnA (T3 α β γ) := ⟨fun v => match v with | .tuple [x, y, z] => (UnA.un x).bind fun a => (UnA.un y).bind fun b => (UnA.un z).bind fun c => some ⟨a, b, c⟩ | _ => none, fun {v w} h => by
  split at h
  · obtain ⟨a, e1, h⟩ := bind_of h
    obtain ⟨b, e2, h⟩ := bind_of h
    obtain ⟨c, e3, h⟩ := bind_of h
    cases h
    show PyData.tuple [enc a, enc b, enc c] = _
    rw [UnA.h e1, UnA.h e2, UnA.h e3]
  · exact nomatch h⟩
instance [Enc α] [UnA α] [Enc β] [UnA β] [Enc γ] [UnA γ] [Enc δ] [UnA δ] : UnA (T4 α β γ δ) := ⟨fun v => match v with | .tuple [x, y, z, t] => (UnA.un x).bind fun a => (UnA.un y).bind fun b => (UnA.un z).bind fun c => (UnA.un t).bind fun d => some ⟨a, b, c, d⟩ | _ => none, fun {v w} h => by
  split at h
  · obtain ⟨a, e1, h⟩ := bind_of h
    obtain ⟨b, e2, h⟩ := bind_of h
    obtain ⟨c, e3, h⟩ := bind_of h
    obtain ⟨d, e4, h⟩ := bind_of h
    cases h
    show PyData.tuple [enc a, enc b, enc c, enc d] = _
    rw [UnA.h e1, UnA.h e2, UnA.h e3, UnA.h e4]
  · exact nomatch h⟩
end Nv
namespace Nv
open PySem Hb L2
open Enc (enc)
end Nv
namespace Nv
open PySem Hb L2
open Enc (enc)
end Nv
namespace Nv
open PySem Hb L2
open Enc (enc)
end Nv
namespace Nv
open PySem Hb L2
open Enc (enc)
end Nv
namespace Nv
open PySem Hb L2
open Enc (enc)
end Nv
namespace Nv
open PySem Hb L2
open Enc (enc)
end Nv
namespace Nv
open PySem Hb L2
open Enc (enc)
end Nv
namespace Nv
open PySem Hb L2
open Enc (enc)
end Nv
namespace Nv
open PySem Hb L2
open Enc (enc)
end Nv
namespace Nv
open PySem Hb L2
open Enc (enc)
end Nv
namespace Nv
open PySem Hb L2
open Enc (enc)
end Nv
namespace Nv
open PySem Hb L2
open Enc (enc)
end Nv
namespace Nv
open PySem Hb L2
open Enc (enc)
end Nv
namespace Nv
open PySem Hb L2
open Enc (enc)
end Nv
namespace Nv
open PySem Hb L2
open Enc (enc)
end Nv
namespace Nv
open PySem Hb L2
open Enc (enc)
end Nv
namespace Nv
open PySem Hb L2
open Enc (enc)
end Nv
namespace Hb
open PySem PySem.Spec PyProof.Rows L2
end Hb
namespace Nv
open PySem Hb L2
open Enc (enc)
end Nv
namespace Nv
open PySem Hb L2
open Enc (enc)
def joinN (a : Str) (ys : List Str) : Option Str := if (ys.map (·.length)).sum + ys.length * a.length ≤ 16777216 then some (Txt.join a ys) else none
theorem strsD_enc : ∀ ys : List Str, strsD (ys.map enc) = some ys
  | [] => rfl
  | y :: r => by
    show (strsD (r.map enc)).map (y :: ·) = _
    rw [strsD_enc r]
    rfl
theorem op_join {a : Str} : Op1 (gJoinC a) (joinN a) fun r => .val (enc r) := fun v r δ x h _ e => by
  unfold joinN at e
  split at e
  · rename_i c
    cases e
    have h : rdC δ x = some (.list (v.map enc)) := h
    have g : rdC δ (AV.val (.str a)) = some (.str a) := rfl
    unfold gJoinC gJoin
    simp only [g, h, strsD_enc]
    exact if_pos c
  · cases e
def atS (w : Str) (i : Int) : Option Str := if w.length ≤ 100000 then (atI w.cps.toList i).map fun c => ⟨#[c]⟩ else none
theorem op_ixS : Op2 gIxS atS fun r => .val (enc r) := fun v w r δ x y h1 _ h2 _ e => by
  unfold atS at e
  split at e
  · rename_i c
    obtain ⟨k, e1, rfl⟩ := Option.map_eq_some_iff.mp e
    have h1 : rdC δ x = some (.str v) := h1
    have h2 : rdC δ y = some (.int w) := h2
    unfold gIxS
    rw [h1, h2]
    show (if v.length ≤ 100000 then (match atI v.cps.toList w with
      | some c => Rs.ok (AV.val (.str ⟨#[c]⟩)) δ
      | none => .bad) else .bad) = _
    rw [if_pos c, e1]
    rfl
  · cases e
def tailN (w : Str) (d : Option Int) : Option Bool := if okAt (enc d) = true then some true else none
theorem pu_tail {Γ : Ga} {w : Str} {d : Option Int} (it ji : Nat) (js : List Nat) (h1 : Γ[it]? = some (.eq (.fz (enc w)))) (h2 : Γ[ji]? = some (.eq (.fz (enc d)))) (h3 : (js.all fun j => decide (j < Γ.length)) = true) : Pu (sTail it ji js) Γ (tailN w d) fun v => .val (enc v) := fun v e δ s => by
  unfold tailN at e
  split at e
  · rename_i c
    cases e
    have g1 := s.at_ h1
    have g2 := s.at_ h2
    unfold sTail
    rw [g1, g2]
    show (if okAt (enc d) = true ∧ (∀ j ∈ js, j < δ.length) then Rs.ok (AV.val (.bool true)) δ else .bad) = _
    rw [if_pos ⟨c, fun j hj => by rw [← s.len]; exact of_decide_eq_true (List.all_eq_true.mp h3 j hj)⟩]
    rfl
  · cases e
end Nv
namespace P
open PySem PySem.Spec PyProof.Rows L2 Hb Nv
open Enc (enc)
def B__law_right_v24 : List Sl → Ot :=
    oSeq (oAsg (sTk (sC (.str " abcz>0-"))) (tgN 1))
    (oSeq (oAsg (sTk (s1 (gJoinC "") (sLc false (wRng1 (sCall F__law_draw [] (rIo 0 (rCons (sC (.int 12)) (rNil))))) [8] (tgN 8) (tOk) (sTk (s2 gIxS (sVar 1) (sCall F__law_draw [] (rIo 0 (rCons (sC (.int 8)) (rNil))))))))) (tgN 2))
    (oSeq (oAsg (sTk (s2 gIx2 (sLst (lCons (sC (.int 0)) (lCons (sC (.int 39)) (lCons (sCall F__law_draw [] (rIo 0 (rCons (sC (.int 4001)) (rNil)))) (lCons (sC .none) (lNil)))))) (sCall F__law_draw [] (rIo 0 (rCons (sC (.int 4)) (rNil)))))) (tgN 3))
    (oRet (sTail 2 3 [2, 3, 4, 5, 7, 6, 9]))))
def F__law_right_v24 : List Sl → FR := fnRun 1 10 [0] B__law_right_v24
def n__law_right_v24 (a0 : (List Int)) : Option (Bool × (List Int)) :=
    (Option.bind (some (" abcz>0-" : Str)) fun x1 => (Option.bind (Option.bind (Option.bind (Option.bind (Option.bind (Option.bind (some (12 : Int)) fun x2 => Option.bind (some ()) fun x3 => some (x2, x3)) fun x4 => Option.bind (n__law_draw (a0 : (List Int)) ((Prod.fst x4) : Int)) fun x5 => some (x5, x4)) fun x6 => Option.bind (ri1 (Prod.fst (Prod.fst x6))) fun x7 => some (x7, x6)) fun x8 => if List.length ((Prod.fst x8)) ≤ cap then Option.bind (mapE (Prod.fst x8) ((Prod.snd (Prod.fst (Prod.snd x8))) : (List Int)) (fun s17 x9 => (Option.bind (Option.bind (some x1) fun x24 => Option.bind (Option.bind (Option.bind (some (8 : Int)) fun x18 => Option.bind (some ()) fun x19 => some (x18, x19)) fun x20 => Option.bind (n__law_draw (s17 : (List Int)) ((Prod.fst x20) : Int)) fun x21 => some (x21, x20)) fun x22 => Option.bind (atS x24 (Prod.fst (Prod.fst x22))) fun x23 => some (x23, x24, x22)) fun x25 => some ((Prod.fst x25), (Prod.snd (Prod.fst (Prod.snd (Prod.snd x25)))))))) fun r => some (r, x8) else none) fun x27 => Option.bind (joinN ("" : Str) (Prod.fst (Prod.fst x27))) fun x28 => some (x28, x27)) fun x29 => (Option.bind (Option.bind (Option.bind (Option.bind (some (0 : Int)) fun x30 => Option.bind (Option.bind (some (39 : Int)) fun x31 => Option.bind (Option.bind (Option.bind (Option.bind (some (4001 : Int)) fun x32 => Option.bind (some ()) fun x33 => some (x32, x33)) fun x34 => Option.bind (n__law_draw ((Prod.snd (Prod.fst (Prod.snd x29))) : (List Int)) ((Prod.fst x34) : Int)) fun x35 => some (x35, x34)) fun x36 => Option.bind (Option.bind (some ()) fun x37 => Option.bind (some ()) fun x39 => some (x37, x39)) fun x40 => some (x36, x40)) fun x41 => some (x31, x41)) fun x42 => some (x30, x42)) fun x38 => some (([(some (Prod.fst x38)), (some (Prod.fst (Prod.snd x38))), (some (Prod.fst (Prod.fst (Prod.fst (Prod.snd (Prod.snd x38)))))), (none : (Option Int))] : (List (Option Int))), x38)) fun x43 => Option.bind (Option.bind (Option.bind (some (4 : Int)) fun x46 => Option.bind (some ()) fun x47 => some (x46, x47)) fun x48 => Option.bind (n__law_draw ((Prod.snd (Prod.fst (Prod.fst (Prod.snd (Prod.snd (Prod.snd x43)))))) : (List Int)) ((Prod.fst x48) : Int)) fun x49 => some (x49, x48)) fun x44 => Option.bind (atL (Prod.fst x43) (Prod.fst (Prod.fst x44))) fun x45 => some (x45, x43, x44)) fun x50 => (Option.bind (tailN (Prod.fst x29) (Prod.fst x50)) fun x51 => some (x51, (Prod.snd (Prod.fst (Prod.snd (Prod.snd x50)))))))))
theorem V__law_right_v24 (a0 : (List Int)) : Fun F__law_right_v24 (n__law_right_v24 a0) [ow a0] (fun r : (Bool × (List Int)) => .fz (enc ((Prod.fst r) : Bool))) fun r => [ow (Prod.snd r)] :=
  fun_of (ΓR := fun r => [.eq (ow ((Prod.snd r) : (List Int))), .aa, .aa, .aa, .aa, .aa, .aa, .aa, .aa, .aa]) (show Bl B__law_right_v24 _ _ _ from (bl_ga [.eq (ow (a0 : (List Int))), .eq .no, .eq .no, .eq .no, .eq .no, .eq .no, .eq .no, .eq .no, .eq .no, .eq .no] (by kernel_rfl) (bl_asgV ((pu_c).tkP).ev fun x1 => (bl_ga [.eq (ow (a0 : (List Int))), .eq (.fz (enc (x1 : Str))), .eq .no, .eq .no, .eq .no, .eq .no, .eq .no, .eq .no, .eq .no, .eq .no] (by kernel_rfl) (bl_asgV ((ev1g (Nv.op_join (a := ("" : Str))) (va := fun x27 => (Prod.fst (Prod.fst x27))) ((((ev_lc (vs := [8]) (xs := fun x8 => (Prod.fst x8)) (s0 := fun x8 => ((Prod.snd (Prod.fst (Prod.snd x8))) : (List Int))) (ΓL := fun x8 s17 => [.eq (ow (s17 : (List Int))), .eq (.fz (enc (x1 : Str))), .eq .no, .eq .no, .eq .no, .eq .no, .eq .no, .eq .no, .eq .no, .eq .no]) (Γ2 := fun x8 s17 x9 x26 => [.eq (ow ((Prod.snd x26) : (List Int))), .eq (.fz (enc (x1 : Str))), .eq .no, .eq .no, .eq .no, .eq .no, .eq .no, .eq .no, .eq (.fz (enc (x9 : Int))), .eq .no]) (it_rng1 (n := fun x6 => (Prod.fst (Prod.fst x6))) ((ev_callG (ag_io (k := 0) rfl rfl (ag_cons (pu_c).ev fun x2 => ag_nil)) (fun x4 => V__law_draw (a0 : (List Int)) ((Prod.fst x4) : Int)))).tk) (fun x8 => (gale_ga [.eq (ow ((Prod.snd (Prod.fst (Prod.snd x8))) : (List Int))), .eq (.fz (enc (x1 : Str))), .eq .no, .eq .no, .eq .no, .eq .no, .eq .no, .eq .no, .eq .no, .eq .no] (by kernel_rfl) (.cons .rfl (.cons .rfl (.cons .rfl (.cons .rfl (.cons .rfl (.cons .rfl (.cons .rfl (.cons .rfl (.cons .rfl (.cons .rfl .nil)))))))))))) (fun _ _ => rfl) (fun x8 s17 x9 => tg_n) (fun _ _ _ => ts_ok) (fun x8 s17 x9 => (ev_ga [.eq (ow (s17 : (List Int))), .eq (.fz (enc (x1 : Str))), .eq .no, .eq .no, .eq .no, .eq .no, .eq .no, .eq .no, .eq (.fz (enc (x9 : Int))), .eq .no] (by kernel_rfl) (Ev.mapW (fun x25 => ((Prod.fst x25), (Prod.snd (Prod.fst (Prod.snd (Prod.snd x25)))))) ((ev2g Nv.op_ixS (va := fun x24 => x24) (vb := fun x24 x22 => (Prod.fst (Prod.fst x22))) ((pu_var 1 rfl)).ev.er fun x24 => (((ev_callG (ag_io (k := 0) rfl rfl (ag_cons (pu_c).ev fun x18 => ag_nil)) (fun x20 => V__law_draw (s17 : (List Int)) ((Prod.fst x20) : Int)))).er).es)).tk fun x25 => (gale_ga [.eq (ow ((Prod.snd (Prod.fst (Prod.snd (Prod.snd x25)))) : (List Int))), .eq (.fz (enc (x1 : Str))), .eq .no, .eq .no, .eq .no, .eq .no, .eq .no, .eq .no, .eq (.fz (enc (x9 : Int))), .eq .no] (by kernel_rfl) (.cons .rfl (.cons .rfl (.cons .rfl (.cons .rfl (.cons .rfl (.cons .rfl (.cons .rfl (.cons .rfl (.cons .rfl (.cons .rfl .nil)))))))))))))) fun _ _ _ _ => (gale_ga _ rfl (.cons .rfl (.cons .rfl (.cons .rfl (.cons .rfl (.cons .rfl (.cons .rfl (.cons .rfl (.cons .rfl (.cons .rfl (.cons .rfl .nil))))))))))))).erT fun _ => ow_tree _)).es)).tk fun x29 => (bl_ga [.eq (ow ((Prod.snd (Prod.fst (Prod.snd x29))) : (List Int))), .eq (.fz (enc (x1 : Str))), .eq (.fz (enc ((Prod.fst x29) : Str))), .eq .no, .eq .no, .eq .no, .eq .no, .eq .no, .eq .no, .eq .no] (by kernel_rfl) (bl_asgV ((ev2g Nv.op_ix2 (va := fun x43 => (Prod.fst x43)) (vb := fun x43 x44 => (Prod.fst (Prod.fst x44))) (((ev_lst (dl_cons ((pu_c).tkP).ev fun x30 => (dl_cons ((pu_c).tkP).ev fun x31 => (dl_cons ((ev_callG (ag_io (k := 0) rfl rfl (ag_cons (pu_c).ev fun x32 => ag_nil)) (fun x34 => V__law_draw ((Prod.snd (Prod.fst (Prod.snd x29))) : (List Int)) ((Prod.fst x34) : Int)))).tk fun x36 => (dl_ga [.eq (ow ((Prod.snd (Prod.fst x36)) : (List Int))), .eq (.fz (enc (x1 : Str))), .eq (.fz (enc ((Prod.fst x29) : Str))), .eq .no, .eq .no, .eq .no, .eq .no, .eq .no, .eq .no, .eq .no] (by kernel_rfl) (dl_cons ((pu_none).tkP).ev fun x37 => dl_nil))))) (fun x38 => ([(some (Prod.fst x38)), (some (Prod.fst (Prod.snd x38))), (some (Prod.fst (Prod.fst (Prod.fst (Prod.snd (Prod.snd x38)))))), (none : (Option Int))] : (List (Option Int)))))).erT fun _ => ow_tree _) fun x43 => (es_ga [.eq (ow ((Prod.snd (Prod.fst (Prod.fst (Prod.snd (Prod.snd (Prod.snd x43)))))) : (List Int))), .eq (.fz (enc (x1 : Str))), .eq (.fz (enc ((Prod.fst x29) : Str))), .eq .no, .eq .no, .eq .no, .eq .no, .eq .no, .eq .no, .eq .no] (by kernel_rfl) (((ev_callG (ag_io (k := 0) rfl rfl (ag_cons (pu_c).ev fun x46 => ag_nil)) (fun x48 => V__law_draw ((Prod.snd (Prod.fst (Prod.fst (Prod.snd (Prod.snd (Prod.snd x43)))))) : (List Int)) ((Prod.fst x48) : Int)))).er).es))).tk fun x50 => (bl_ga [.eq (ow ((Prod.snd (Prod.fst (Prod.snd (Prod.snd x50)))) : (List Int))), .eq (.fz (enc (x1 : Str))), .eq (.fz (enc ((Prod.fst x29) : Str))), .eq (.fz (enc ((Prod.fst x50) : (Option Int)))), .eq .no, .eq .no, .eq .no, .eq .no, .eq .no, .eq .no] (by kernel_rfl) (bl_retV ((pu_tail 2 3 [2, 3, 4, 5, 7, 6, 9] rfl rfl rfl)).ev fun x51 => (rf_eq rfl (.cons .rfl (.cons .aa (.cons .aa (.cons .aa (.cons .aa (.cons .aa (.cons .aa (.cons .aa (.cons .aa (.cons .aa .nil))))))))))))))))))))
end P
namespace P
open PySem PySem.Spec PyProof.Rows L2 Hb Nv
open Enc (enc)
def B__law_tap : List Sl → Ot :=
    oSeq (oAsg (sTk (s2 gAdd (s2 gMulX (sC (.int 2)) (s1 (gRd absD) (sVar 0))) (s1 (gRd intD) (s2 gLt (sVar 0) (sC (.int 0)))))) (tgN 2))
    (oRet (sLst (lCons (sVar 2) (lCons (s2 gAdd (s2 gAdd (s2 gMod (s1 (gRd intD) (sVar 2)) (sC (.int 4294967291))) (s2 gMulX (sC (.int 977)) (sVar 1))) (sC (.int 1))) (lCons (s2 gAdd (s2 gAdd (s2 gMod (s1 (gRd intD) (sVar 2)) (sC (.int 2147483587))) (s2 gMulX (sC (.int 31)) (sVar 1))) (sC (.int 2))) (lNil))))))
def F__law_tap : List Sl → FR := fnRun 2 3 [] B__law_tap
def n__law_tap (a0 : Int) (a1 : Int) : Option ((List Int)) :=
    (Option.bind (Option.bind (Option.bind (some (2 : Int)) fun x2 => Option.bind (Option.bind (some a0) fun x1 => absI x1) fun x3 => mulI x2 x3) fun x7 => Option.bind (Option.bind (Option.bind (some a0) fun x4 => Option.bind (some (0 : Int)) fun x5 => ltI x4 x5) fun x6 => intB x6) fun x8 => addI x7 x8) fun x9 => (Option.bind (Option.bind (Option.bind (some x9) fun x10 => Option.bind (Option.bind (Option.bind (Option.bind (Option.bind (Option.bind (some x9) fun x11 => intI x11) fun x12 => Option.bind (some (4294967291 : Int)) fun x13 => modI x12 x13) fun x16 => Option.bind (Option.bind (some (977 : Int)) fun x14 => Option.bind (some a1) fun x15 => mulI x14 x15) fun x17 => addI x16 x17) fun x18 => Option.bind (some (1 : Int)) fun x19 => addI x18 x19) fun x20 => Option.bind (Option.bind (Option.bind (Option.bind (Option.bind (Option.bind (some x9) fun x21 => intI x21) fun x22 => Option.bind (some (2147483587 : Int)) fun x23 => modI x22 x23) fun x26 => Option.bind (Option.bind (some (31 : Int)) fun x24 => Option.bind (some a1) fun x25 => mulI x24 x25) fun x27 => addI x26 x27) fun x28 => Option.bind (some (2 : Int)) fun x29 => addI x28 x29) fun x30 => Option.bind (some ()) fun x32 => some (x30, x32)) fun x33 => some (x20, x33)) fun x34 => some (x10, x34)) fun x31 => some ([(Prod.fst x31), (Prod.fst (Prod.snd x31)), (Prod.fst (Prod.snd (Prod.snd x31)))] : (List Int))) fun x35 => some x35))
theorem V__law_tap (a0 : Int) (a1 : Int) : Fun F__law_tap (n__law_tap a0 a1) [.fz (enc a0), .fz (enc a1)] (fun r : ((List Int)) => ow (r : (List Int))) fun r => [.no, .no] :=
  fun_of (ΓR := fun r => [.aa, .aa, .aa]) (show Bl B__law_tap _ _ _ from (bl_ga [.eq (.fz (enc (a0 : Int))), .eq (.fz (enc (a1 : Int))), .eq .no] (by kernel_rfl) (bl_asgV (((pu2 Nv.op_add ((pu2 Nv.op_mul (pu_c).rd ((pu1A Nv.op_abs (((pu_var 0 rfl)).rd).ra)).rd)).rd ((pu1A Nv.op_intB (((pu2 Nv.op_lt ((pu_var 0 rfl)).rd (pu_c).rd)).rd).ra)).rd)).tkP).ev fun x9 => (bl_ga [.eq (.fz (enc (a0 : Int))), .eq (.fz (enc (a1 : Int))), .eq (.fz (enc (x9 : Int)))] (by kernel_rfl) (bl_retT ((pu_lst (dp_cons ((pu_var 2 rfl)).tkP (dp_cons ((pu2 Nv.op_add ((pu2 Nv.op_add ((pu2 Nv.op_mod ((pu1A Nv.op_int (((pu_var 2 rfl)).rd).ra)).rd (pu_c).rd)).rd ((pu2 Nv.op_mul (pu_c).rd ((pu_var 1 rfl)).rd)).rd)).rd (pu_c).rd)).tkP (dp_cons ((pu2 Nv.op_add ((pu2 Nv.op_add ((pu2 Nv.op_mod ((pu1A Nv.op_int (((pu_var 2 rfl)).rd).ra)).rd (pu_c).rd)).rd ((pu2 Nv.op_mul (pu_c).rd ((pu_var 1 rfl)).rd)).rd)).rd (pu_c).rd)).tkP dp_nil))) (fun x31 => ([(Prod.fst x31), (Prod.fst (Prod.snd x31)), (Prod.fst (Prod.snd (Prod.snd x31)))] : (List Int))))).ev fun x35 => (rf_eq rfl (.cons .aa (.cons .aa (.cons .aa .nil)))))))))
end P
namespace P
open PySem PySem.Spec PyProof.Rows L2 Hb Nv
open Enc (enc)
def B_law_v25 : List Sl → Ot :=
    oSeq (oAsg (sTk (sCall F__law_cells [] (rCons (sTk (sVar 0)) (rCons (sC (.int 3)) (rNil))))) (tgN 1))
    (oRet (s2 (gEqE false) (sLc false (wRng1 (s1 (gRd lenD) (sVar 1))) [2] (tgN 2) (sNot (sTru (sCall F__law_right_v24 [] (rCons (sCall F__law_tap [] (rCons (sTk (s2 gIx2 (sVar 1) (sVar 2))) (rCons (sTk (sVar 2)) (rNil)))) (rNil))))) (sTk (sVar 2))) (sLst (lNil))))
def F_law_v25 : List Sl → FR := fnRun 1 3 [] B_law_v25
def n_law_v25 (a0 : (List Int)) : Option (Bool) :=
    (Option.bind (Option.bind (Option.bind (some a0) fun x1 => Option.bind (Option.bind (some (3 : Int)) fun x2 => Option.bind (some ()) fun x3 => some (x2, x3)) fun x4 => some (x1, x4)) fun x5 => n__law_cells ((Prod.fst x5) : (List Int)) ((Prod.fst (Prod.snd x5)) : Int)) fun x6 => (Option.bind (Option.bind (Option.bind (Option.bind (Option.bind (some x6) fun x7 => lenL x7) fun x8 => ri1 x8) fun x9 => if List.length (x9) ≤ cap then mapF x9 (fun x10 => (Option.bind (Option.bind (Option.bind (Option.bind (Option.bind (Option.bind (Option.bind (some x6) fun x11 => Option.bind (some x10) fun x12 => atL x11 x12) fun x13 => Option.bind (Option.bind (some x10) fun x14 => Option.bind (some ()) fun x15 => some (x14, x15)) fun x16 => some (x13, x16)) fun x17 => n__law_tap ((Prod.fst x17) : Int) ((Prod.fst (Prod.snd x17)) : Int)) fun x18 => Option.bind (some ()) fun x19 => some (x18, x19)) fun x20 => n__law_right_v24 ((Prod.fst x20) : (List Int))) fun x21 => some (Prod.fst x21)) fun x23 => some !x23)) (fun x10 => (some x10)) else none) fun x24 => some (false != List.isEmpty x24)) fun x25 => some x25))
theorem V_law_v25 (a0 : (List Int)) : Fun F_law_v25 (n_law_v25 a0) [.fz (enc a0)] (fun r : (Bool) => .fz (enc (r : Bool))) fun r => [.no] :=
  fun_of (ΓR := fun r => [.aa, .aa, .aa]) (show Bl B_law_v25 _ _ _ from (bl_ga [.eq (.fz (enc (a0 : (List Int)))), .eq .no, .eq .no] (by kernel_rfl) (bl_asgV ((((pu_call (ap_cons ((pu_var 0 rfl)).tkP (ap_cons pu_c ap_nil)) (fun x5 => V__law_cells ((Prod.fst x5) : (List Int)) ((Prod.fst (Prod.snd x5)) : Int)))).tkTP ow_tree)).ev fun x6 => (bl_ga [.eq (.fz (enc (a0 : (List Int)))), .eq (.fz (enc (x6 : (List Int)))), .eq .no] (by kernel_rfl) (bl_retV ((pu_eqE ((((pu_lc (vs := [2]) (ip_rng1 ((pu1A Nv.op_len (((pu_var 1 rfl)).rd).ra)).tkP) rfl rfl (fun x9 x10 => tg_n) (fun x9 x10 => (ts_ga [.eq (.fz (enc (a0 : (List Int)))), .eq (.fz (enc (x6 : (List Int)))), .eq (.fz (enc (x10 : Int)))] (by kernel_rfl) (ts_not (ts_truB (((Pu.mapV (fun x21 => (Prod.fst x21)) (pu_call (ap_cons (pu_call (ap_cons ((pu2 Nv.op_ix2 ((pu_var 1 rfl)).rd ((pu_var 2 rfl)).rd)).tkP (ap_cons ((pu_var 2 rfl)).tkP ap_nil)) (fun x17 => V__law_tap ((Prod.fst x17) : Int) ((Prod.fst (Prod.snd x17)) : Int))) ap_nil) (fun x20 => V__law_right_v24 ((Prod.fst x20) : (List Int)))))).rd).ra)))) fun x9 x10 => (pu_ga [.eq (.fz (enc (a0 : (List Int)))), .eq (.fz (enc (x6 : (List Int)))), .eq (.fz (enc (x10 : Int)))] (by kernel_rfl) ((pu_var 2 rfl)).tkP))).rdT ow_tree)).ra)).ev fun x25 => (rf_eq rfl (.cons .aa (.cons .aa (.cons .aa .nil)))))))))
end P
namespace K04
open PySem PySem.Spec PyProof.Rows L2 Hb P
def topS (i : Nat) : Stmt := PySem.Challenge.pw_hillballots_k04_errors_made.main.body.getD i (.Pass ⟨0, 0, 0, 0⟩)
def d__law_cells : He.DefD := ⟨("_law_cells", none), "_law_cells", "_law_cells", defArgs (topS 29), defBody (topS 29), defScope (topS 29), [], []⟩
def d__law_draw : He.DefD := ⟨("_law_draw", none), "_law_draw", "_law_draw", defArgs (topS 28), defBody (topS 28), defScope (topS 28), [], []⟩
def d__law_right : He.DefD := ⟨("_law_right", none), "_law_right", "_law_right", defArgs (topS 32), defBody (topS 32), defScope (topS 32), [], []⟩
def d__law_tap : He.DefD := ⟨("_law_tap", none), "_law_tap", "_law_tap", defArgs (topS 27), defBody (topS 27), defScope (topS 27), [], []⟩
def d_law : He.DefD := ⟨("law", none), "law", "law", defArgs (topS 33), defBody (topS 33), defScope (topS 33), [], []⟩
def d__law_made : He.DefD := ⟨("_law_made", none), "_law_made", "_law_made", defArgs (topS 30), defBody (topS 30), defScope (topS 30), [], []⟩
def d__law_which : He.DefD := ⟨("_law_which", none), "_law_which", "_law_which", defArgs (topS 31), defBody (topS 31), defScope (topS 31), [], []⟩
def d___init__ : He.DefD := ⟨(tI, some "__init__"), "__init__", "InvalidText.__init__", defArgs (inClass (topS 25) 0), defBody (inClass (topS 25) 0), defScope (inClass (topS 25) 0), [], []⟩
def fn : List He.DefD := [d__law_cells, d__law_draw, d__law_right, d__law_tap, d_law, d__law_made, d__law_which, d___init__]
def fa : List He.Fa := [.glo "_law_cells", .glo "_law_draw", .glo "_law_right", .glo "_law_tap", .glo "law", .glo "_law_made", .glo "_law_which", .free "ValueError", .free "abs", .free "int", .free "isinstance", .free "len", .free "max", .free "min", .free "range", .free "repr", .glo "BallotError", .glo "EvenVoters", .glo "InvalidBallot", .glo "InvalidBallots", .glo "InvalidCommand", .glo "InvalidCount", .glo "InvalidFixed", .glo "InvalidIndex", .glo "InvalidLine", .glo "InvalidLists", .glo "InvalidPairs", .glo "InvalidPeople", .glo "InvalidPlace", .glo "InvalidTable", .glo "InvalidTelling", .glo "InvalidText", .glo "InvalidVoters", .glo "NoBallot", .glo "NoLine", .glo "NoRow", .glo "NotFalling", .glo "NotFree", .glo "NotMatching", .glo "NotTold", .glo "NothingToUndo", .exc "BallotError", .exc "EvenVoters", .exc "InvalidBallot", .exc "InvalidBallots", .exc "InvalidCommand", .exc "InvalidCount", .exc "InvalidFixed", .exc "InvalidIndex", .exc "InvalidLine", .exc "InvalidLists", .exc "InvalidPairs", .exc "InvalidPeople", .exc "InvalidPlace", .exc "InvalidTable", .exc "InvalidTelling", .exc "InvalidVoters", .exc "NoBallot", .exc "NoLine", .exc "NoRow", .exc "NotFalling", .exc "NotFree", .exc "NotMatching", .exc "NotTold", .exc "NothingToUndo"]
structure Ctx (K : PySem.W.Frag) (mg : Str → Option Value) : Prop where
  c : He.SaysD fa fn K
  ex : ∃ h : Heap, K.In h ∧ h.Ns mainGlobals mg
  x : mkB K = true
variable {Pg : Program} {w : World} {K : PySem.W.Frag} {mg : Str → Option Value} {base : Heap}
theorem m_ValueError (Y : Ctx K mg) : mg "ValueError" = none := let ⟨_, X, G⟩ := Y.ex; He.free_ok X G (Y.c.fact 7)
theorem m_abs (Y : Ctx K mg) : mg "abs" = none := let ⟨_, X, G⟩ := Y.ex; He.free_ok X G (Y.c.fact 8)
theorem m_int (Y : Ctx K mg) : mg "int" = none := let ⟨_, X, G⟩ := Y.ex; He.free_ok X G (Y.c.fact 9)
theorem m_isinstance (Y : Ctx K mg) : mg "isinstance" = none := let ⟨_, X, G⟩ := Y.ex; He.free_ok X G (Y.c.fact 10)
theorem m_len (Y : Ctx K mg) : mg "len" = none := let ⟨_, X, G⟩ := Y.ex; He.free_ok X G (Y.c.fact 11)
theorem m_max (Y : Ctx K mg) : mg "max" = none := let ⟨_, X, G⟩ := Y.ex; He.free_ok X G (Y.c.fact 12)
theorem m_min (Y : Ctx K mg) : mg "min" = none := let ⟨_, X, G⟩ := Y.ex; He.free_ok X G (Y.c.fact 13)
theorem m_range (Y : Ctx K mg) : mg "range" = none := let ⟨_, X, G⟩ := Y.ex; He.free_ok X G (Y.c.fact 14)
theorem m_repr (Y : Ctx K mg) : mg "repr" = none := let ⟨_, X, G⟩ := Y.ex; He.free_ok X G (Y.c.fact 15)
theorem g_BallotError (Y : Ctx K mg) : mg "BallotError" = some (.ref (He.ga K "BallotError")) := let ⟨_, X, G⟩ := Y.ex; He.glo_ok X G (Y.c.fact 16)
theorem g_EvenVoters (Y : Ctx K mg) : mg "EvenVoters" = some (.ref (He.ga K "EvenVoters")) := let ⟨_, X, G⟩ := Y.ex; He.glo_ok X G (Y.c.fact 17)
theorem g_InvalidBallot (Y : Ctx K mg) : mg "InvalidBallot" = some (.ref (He.ga K "InvalidBallot")) := let ⟨_, X, G⟩ := Y.ex; He.glo_ok X G (Y.c.fact 18)
theorem g_InvalidBallots (Y : Ctx K mg) : mg "InvalidBallots" = some (.ref (He.ga K "InvalidBallots")) := let ⟨_, X, G⟩ := Y.ex; He.glo_ok X G (Y.c.fact 19)
theorem g_InvalidCommand (Y : Ctx K mg) : mg "InvalidCommand" = some (.ref (He.ga K "InvalidCommand")) := let ⟨_, X, G⟩ := Y.ex; He.glo_ok X G (Y.c.fact 20)
theorem g_InvalidCount (Y : Ctx K mg) : mg "InvalidCount" = some (.ref (He.ga K "InvalidCount")) := let ⟨_, X, G⟩ := Y.ex; He.glo_ok X G (Y.c.fact 21)
theorem g_InvalidFixed (Y : Ctx K mg) : mg "InvalidFixed" = some (.ref (He.ga K "InvalidFixed")) := let ⟨_, X, G⟩ := Y.ex; He.glo_ok X G (Y.c.fact 22)
theorem g_InvalidIndex (Y : Ctx K mg) : mg "InvalidIndex" = some (.ref (He.ga K "InvalidIndex")) := let ⟨_, X, G⟩ := Y.ex; He.glo_ok X G (Y.c.fact 23)
theorem g_InvalidLine (Y : Ctx K mg) : mg "InvalidLine" = some (.ref (He.ga K "InvalidLine")) := let ⟨_, X, G⟩ := Y.ex; He.glo_ok X G (Y.c.fact 24)
theorem g_InvalidLists (Y : Ctx K mg) : mg "InvalidLists" = some (.ref (He.ga K "InvalidLists")) := let ⟨_, X, G⟩ := Y.ex; He.glo_ok X G (Y.c.fact 25)
theorem g_InvalidPairs (Y : Ctx K mg) : mg "InvalidPairs" = some (.ref (He.ga K "InvalidPairs")) := let ⟨_, X, G⟩ := Y.ex; He.glo_ok X G (Y.c.fact 26)
theorem g_InvalidPeople (Y : Ctx K mg) : mg "InvalidPeople" = some (.ref (He.ga K "InvalidPeople")) := let ⟨_, X, G⟩ := Y.ex; He.glo_ok X G (Y.c.fact 27)
theorem g_InvalidPlace (Y : Ctx K mg) : mg "InvalidPlace" = some (.ref (He.ga K "InvalidPlace")) := let ⟨_, X, G⟩ := Y.ex; He.glo_ok X G (Y.c.fact 28)
theorem g_InvalidTable (Y : Ctx K mg) : mg "InvalidTable" = some (.ref (He.ga K "InvalidTable")) := let ⟨_, X, G⟩ := Y.ex; He.glo_ok X G (Y.c.fact 29)
theorem g_InvalidTelling (Y : Ctx K mg) : mg "InvalidTelling" = some (.ref (He.ga K "InvalidTelling")) := let ⟨_, X, G⟩ := Y.ex; He.glo_ok X G (Y.c.fact 30)
theorem g_InvalidText (Y : Ctx K mg) : mg "InvalidText" = some (.ref (He.ga K "InvalidText")) := let ⟨_, X, G⟩ := Y.ex; He.glo_ok X G (Y.c.fact 31)
theorem g_InvalidVoters (Y : Ctx K mg) : mg "InvalidVoters" = some (.ref (He.ga K "InvalidVoters")) := let ⟨_, X, G⟩ := Y.ex; He.glo_ok X G (Y.c.fact 32)
theorem g_NoBallot (Y : Ctx K mg) : mg "NoBallot" = some (.ref (He.ga K "NoBallot")) := let ⟨_, X, G⟩ := Y.ex; He.glo_ok X G (Y.c.fact 33)
theorem g_NoLine (Y : Ctx K mg) : mg "NoLine" = some (.ref (He.ga K "NoLine")) := let ⟨_, X, G⟩ := Y.ex; He.glo_ok X G (Y.c.fact 34)
theorem g_NoRow (Y : Ctx K mg) : mg "NoRow" = some (.ref (He.ga K "NoRow")) := let ⟨_, X, G⟩ := Y.ex; He.glo_ok X G (Y.c.fact 35)
theorem g_NotFalling (Y : Ctx K mg) : mg "NotFalling" = some (.ref (He.ga K "NotFalling")) := let ⟨_, X, G⟩ := Y.ex; He.glo_ok X G (Y.c.fact 36)
theorem g_NotFree (Y : Ctx K mg) : mg "NotFree" = some (.ref (He.ga K "NotFree")) := let ⟨_, X, G⟩ := Y.ex; He.glo_ok X G (Y.c.fact 37)
theorem g_NotMatching (Y : Ctx K mg) : mg "NotMatching" = some (.ref (He.ga K "NotMatching")) := let ⟨_, X, G⟩ := Y.ex; He.glo_ok X G (Y.c.fact 38)
theorem g_NotTold (Y : Ctx K mg) : mg "NotTold" = some (.ref (He.ga K "NotTold")) := let ⟨_, X, G⟩ := Y.ex; He.glo_ok X G (Y.c.fact 39)
theorem g_NothingToUndo (Y : Ctx K mg) : mg "NothingToUndo" = some (.ref (He.ga K "NothingToUndo")) := let ⟨_, X, G⟩ := Y.ex; He.glo_ok X G (Y.c.fact 40)
theorem e_BallotError (Y : Ctx K mg) : ExcC K mg "BallotError" (He.ga K "BallotError") := let ⟨_, X, G⟩ := Y.ex; excC_of X G (g_BallotError Y) (Y.c.fact 41)
theorem e_EvenVoters (Y : Ctx K mg) : ExcC K mg "EvenVoters" (He.ga K "EvenVoters") := let ⟨_, X, G⟩ := Y.ex; excC_of X G (g_EvenVoters Y) (Y.c.fact 42)
theorem e_InvalidBallot (Y : Ctx K mg) : ExcC K mg "InvalidBallot" (He.ga K "InvalidBallot") := let ⟨_, X, G⟩ := Y.ex; excC_of X G (g_InvalidBallot Y) (Y.c.fact 43)
theorem e_InvalidBallots (Y : Ctx K mg) : ExcC K mg "InvalidBallots" (He.ga K "InvalidBallots") := let ⟨_, X, G⟩ := Y.ex; excC_of X G (g_InvalidBallots Y) (Y.c.fact 44)
theorem e_InvalidCommand (Y : Ctx K mg) : ExcC K mg "InvalidCommand" (He.ga K "InvalidCommand") := let ⟨_, X, G⟩ := Y.ex; excC_of X G (g_InvalidCommand Y) (Y.c.fact 45)
theorem e_InvalidCount (Y : Ctx K mg) : ExcC K mg "InvalidCount" (He.ga K "InvalidCount") := let ⟨_, X, G⟩ := Y.ex; excC_of X G (g_InvalidCount Y) (Y.c.fact 46)
theorem e_InvalidFixed (Y : Ctx K mg) : ExcC K mg "InvalidFixed" (He.ga K "InvalidFixed") := let ⟨_, X, G⟩ := Y.ex; excC_of X G (g_InvalidFixed Y) (Y.c.fact 47)
theorem e_InvalidIndex (Y : Ctx K mg) : ExcC K mg "InvalidIndex" (He.ga K "InvalidIndex") := let ⟨_, X, G⟩ := Y.ex; excC_of X G (g_InvalidIndex Y) (Y.c.fact 48)
theorem e_InvalidLine (Y : Ctx K mg) : ExcC K mg "InvalidLine" (He.ga K "InvalidLine") := let ⟨_, X, G⟩ := Y.ex; excC_of X G (g_InvalidLine Y) (Y.c.fact 49)
theorem e_InvalidLists (Y : Ctx K mg) : ExcC K mg "InvalidLists" (He.ga K "InvalidLists") := let ⟨_, X, G⟩ := Y.ex; excC_of X G (g_InvalidLists Y) (Y.c.fact 50)
theorem e_InvalidPairs (Y : Ctx K mg) : ExcC K mg "InvalidPairs" (He.ga K "InvalidPairs") := let ⟨_, X, G⟩ := Y.ex; excC_of X G (g_InvalidPairs Y) (Y.c.fact 51)
theorem e_InvalidPeople (Y : Ctx K mg) : ExcC K mg "InvalidPeople" (He.ga K "InvalidPeople") := let ⟨_, X, G⟩ := Y.ex; excC_of X G (g_InvalidPeople Y) (Y.c.fact 52)
theorem e_InvalidPlace (Y : Ctx K mg) : ExcC K mg "InvalidPlace" (He.ga K "InvalidPlace") := let ⟨_, X, G⟩ := Y.ex; excC_of X G (g_InvalidPlace Y) (Y.c.fact 53)
theorem e_InvalidTable (Y : Ctx K mg) : ExcC K mg "InvalidTable" (He.ga K "InvalidTable") := let ⟨_, X, G⟩ := Y.ex; excC_of X G (g_InvalidTable Y) (Y.c.fact 54)
theorem e_InvalidTelling (Y : Ctx K mg) : ExcC K mg "InvalidTelling" (He.ga K "InvalidTelling") := let ⟨_, X, G⟩ := Y.ex; excC_of X G (g_InvalidTelling Y) (Y.c.fact 55)
theorem e_InvalidVoters (Y : Ctx K mg) : ExcC K mg "InvalidVoters" (He.ga K "InvalidVoters") := let ⟨_, X, G⟩ := Y.ex; excC_of X G (g_InvalidVoters Y) (Y.c.fact 56)
theorem e_NoBallot (Y : Ctx K mg) : ExcC K mg "NoBallot" (He.ga K "NoBallot") := let ⟨_, X, G⟩ := Y.ex; excC_of X G (g_NoBallot Y) (Y.c.fact 57)
theorem e_NoLine (Y : Ctx K mg) : ExcC K mg "NoLine" (He.ga K "NoLine") := let ⟨_, X, G⟩ := Y.ex; excC_of X G (g_NoLine Y) (Y.c.fact 58)
theorem e_NoRow (Y : Ctx K mg) : ExcC K mg "NoRow" (He.ga K "NoRow") := let ⟨_, X, G⟩ := Y.ex; excC_of X G (g_NoRow Y) (Y.c.fact 59)
theorem e_NotFalling (Y : Ctx K mg) : ExcC K mg "NotFalling" (He.ga K "NotFalling") := let ⟨_, X, G⟩ := Y.ex; excC_of X G (g_NotFalling Y) (Y.c.fact 60)
theorem e_NotFree (Y : Ctx K mg) : ExcC K mg "NotFree" (He.ga K "NotFree") := let ⟨_, X, G⟩ := Y.ex; excC_of X G (g_NotFree Y) (Y.c.fact 61)
theorem e_NotMatching (Y : Ctx K mg) : ExcC K mg "NotMatching" (He.ga K "NotMatching") := let ⟨_, X, G⟩ := Y.ex; excC_of X G (g_NotMatching Y) (Y.c.fact 62)
theorem e_NotTold (Y : Ctx K mg) : ExcC K mg "NotTold" (He.ga K "NotTold") := let ⟨_, X, G⟩ := Y.ex; excC_of X G (g_NotTold Y) (Y.c.fact 63)
theorem e_NothingToUndo (Y : Ctx K mg) : ExcC K mg "NothingToUndo" (He.ga K "NothingToUndo") := let ⟨_, X, G⟩ := Y.ex; excC_of X G (g_NothingToUndo Y) (Y.c.fact 64)
theorem MX_ (Y : Ctx K mg) : MkX K := mkB_ok Y.x
def N___init__ : List Str := ["self", "number"]
theorem S___init__ : FnScope N___init__ ["self", "number"] (defScope (inClass (topS 25) 0)) := ⟨rfl, rfl, rfl, by decide, rfl, by decide +kernel, by decide +kernel⟩
theorem I_init (Y : Ctx K mg) : ∃ fd, Binds K fd ["self", "number"] [] ∧ FnOk Pg w K mg base CX0 1 (He.fAd K (tI, some "__init__")) fd ["self", "number"] (spInit (He.ga K tI)) := by
  obtain ⟨_, X, G⟩ := Y.ex
  obtain ⟨fd, FD⟩ := Y.c.def_ 7 (d := d___init__)
  have hb : Binds K fd ["self", "number"] [] := FD.bindsN fun _ _ _ _ _ _ us h => by
    match us, h with
    | [a0, a1], _ => rfl
  have hk := FD.kp
  obtain ⟨oc, od, dV, kV, doc, pm, an, cdv, ct, osl, rfl, lk, hcd, _, _⟩ := FD.ex
  refine ⟨_, hb, fn_of (CX := CX0) (k := 0) lk hcd S___init__ (fun vs H Q E h => by obtain ⟨_, _, rfl, _⟩ := h; rfl) fun A outer s H vs Q E hr h => ?_⟩
  obtain ⟨a, v, rfl, ha, kq⟩ := h
  have hI : InitOk (cxOf CX0 Pg w K mg base N___init__ "InvalidText.__init__" (defScope (inClass (topS 25) 0)) (He.fAd K (tI, some "__init__")) cdv A outer s H E) (He.ga K tI) (defBody (inClass (topS 25) 0)) := init_body (MX_ Y).b (MX_ Y).o rfl (by decide) (.inl rfl) (.inl rfl) (MX_ Y).f.hn rfl (g_BallotError Y) (by decide) (by decide) (by decide) (by decide) (by decide) _ (by rfl) (by rfl) (by rfl) (by rfl) (by rfl) (by rfl)
  obtain ⟨t, ht, hq⟩ := hI
  exact ⟨t, ht, hq a v H Q ha fun d H2 h1 h2 h3 => kq d H2 h1 h2 h3⟩
def N__law_which : List Str := ["_law_error", "_law_found"]
theorem S__law_which : FnScope N__law_which ["_law_error"] (defScope (topS 31)) := ⟨rfl, rfl, rfl, by decide, rfl, by decide +kernel, by decide +kernel⟩
theorem I_which (Y : Ctx K mg) : ∃ f fd, mg "_law_which" = some (.ref f) ∧ PySem.W.keepIn K (.ref f) = true ∧ Binds K fd ["_law_error"] [] ∧ FnOk Pg w K mg base CX0 1 f fd ["_law_error"] (spWhich (He.ga K)) := by
  obtain ⟨_, X, G⟩ := Y.ex
  obtain ⟨fd, FD⟩ := Y.c.def_ 6 (d := d__law_which)
  have hb : Binds K fd ["_law_error"] [] := FD.bindsN fun _ _ _ _ _ _ us h => by
    match us, h with
    | [a0], _ => rfl
  have hk := FD.kp
  obtain ⟨oc, od, dV, kV, doc, pm, an, cdv, ct, osl, rfl, lk, hcd, _, _⟩ := FD.ex
  refine ⟨_, _, He.glo_ok X G (Y.c.fact 6), hk, hb, fn_of (CX := CX0) (k := 0) lk hcd S__law_which (fun vs H Q E h => by obtain ⟨_, _, _, rfl, _⟩ := h; rfl) fun A outer s H vs Q E hr h => ?_⟩
  obtain ⟨a, x, n, rfl, hx, hv, kq⟩ := h
  have nd : N__law_which.Nodup := by decide
  have u : Xof (cxOf CX0 Pg w K mg base N__law_which "_law_which" (defScope (topS 31)) (He.fAd K ("_law_which", none)) cdv A outer s H E) := ⟨⟩
  refine ⟨_, (show PSs (cxOf CX0 Pg w K mg base N__law_which "_law_which" (defScope (topS 31)) (He.fAd K ("_law_which", none)) cdv A outer s H E) (defBody (topS 31)) _ from pss_parts (X := (cxOf CX0 Pg w K mg base N__law_which "_law_which" (defScope (topS 31)) (He.fAd K ("_law_which", none)) cdv A outer s H E)) (j := 1) (H0 := H) (I := fun σ => σ[0]? = some (some (.ref a)) ∧ σ.length = 2) (fun σ y ⟨h1, h2⟩ => ⟨by rw [List.getElem?_set_ne (by decide)]; exact h1, by rw [List.length_set]; exact h2⟩) (fun σ h => by rw [h.2]; decide) (first := ((defBody (topS 31)).getD 0 (.Pass ⟨0, 0, 0, 0⟩))) (fc := (taIs K [("InvalidCount" : Str), ("InvalidBallot" : Str), ("InvalidBallots" : Str)], [("InvalidCount" : Str), ("InvalidBallot" : Str), ("InvalidBallots" : Str)].map fun y => prB (decide (x = y))))
    (ps_set nd rfl (by first | exact Or.inl rfl | exact Or.inr rfl) (pe_lst (pa_cons (peO u (by exact rfl) (by exact .inl rfl) (by exact rfl) (m_isinstance Y) (by exact rfl) (g_InvalidCount Y)) (pa_cons (peO u (by exact rfl) (by exact .inl rfl) (by exact rfl) (m_isinstance Y) (by exact rfl) (g_InvalidBallot Y)) (pa_cons (peO u (by exact rfl) (by exact .inl rfl) (by exact rfl) (m_isinstance Y) (by exact rfl) (g_InvalidBallots Y)) pa_nil)))))
    (fun σ H1 h e => evp_is (MX_ Y).f h.1 hx (hv.keep e) _ (by decide))
    [(((defBody (topS 31)).getD 1 (.Pass ⟨0, 0, 0, 0⟩)), (taIs K [("InvalidLine" : Str), ("InvalidPlace" : Str), ("InvalidVoters" : Str)], [("InvalidLine" : Str), ("InvalidPlace" : Str), ("InvalidVoters" : Str)].map fun y => prB (decide (x = y)))), (((defBody (topS 31)).getD 2 (.Pass ⟨0, 0, 0, 0⟩)), (taIs K [("InvalidIndex" : Str), ("InvalidPeople" : Str), ("InvalidTable" : Str)], [("InvalidIndex" : Str), ("InvalidPeople" : Str), ("InvalidTable" : Str)].map fun y => prB (decide (x = y)))), (((defBody (topS 31)).getD 3 (.Pass ⟨0, 0, 0, 0⟩)), (taIs K [("InvalidFixed" : Str), ("InvalidTelling" : Str)], [("InvalidFixed" : Str), ("InvalidTelling" : Str)].map fun y => prB (decide (x = y)))), (((defBody (topS 31)).getD 4 (.Pass ⟨0, 0, 0, 0⟩)), (taIs K [("InvalidPairs" : Str), ("InvalidLists" : Str)], [("InvalidPairs" : Str), ("InvalidLists" : Str)].map fun y => prB (decide (x = y)))), (((defBody (topS 31)).getD 5 (.Pass ⟨0, 0, 0, 0⟩)), (taIs K [("InvalidCommand" : Str), ("NoLine" : Str), ("NoRow" : Str)], [("InvalidCommand" : Str), ("NoLine" : Str), ("NoRow" : Str)].map fun y => prB (decide (x = y)))), (((defBody (topS 31)).getD 6 (.Pass ⟨0, 0, 0, 0⟩)), (taIs K [("NotFalling" : Str), ("NotFree" : Str), ("NoBallot" : Str)], [("NotFalling" : Str), ("NotFree" : Str), ("NoBallot" : Str)].map fun y => prB (decide (x = y)))), (((defBody (topS 31)).getD 7 (.Pass ⟨0, 0, 0, 0⟩)), (taIs K [("NotMatching" : Str), ("EvenVoters" : Str), ("NotTold" : Str)], [("NotMatching" : Str), ("EvenVoters" : Str), ("NotTold" : Str)].map fun y => prB (decide (x = y))))]
    ((defBody (topS 31)).getD 8 (.Pass ⟨0, 0, 0, 0⟩)) (taIs K [("NothingToUndo" : Str), ("InvalidText" : Str)], [("NothingToUndo" : Str), ("InvalidText" : Str)].map fun y => prB (decide (x = y)))
    (List.forall_mem_cons.mpr ⟨⟨(ps_set nd rfl (by first | exact Or.inl rfl | exact Or.inr rfl) (pe_op op_cat (pv 1) (pe_lst (pa_cons (peO u (by exact rfl) (by exact .inl rfl) (by exact rfl) (m_isinstance Y) (by exact rfl) (g_InvalidLine Y)) (pa_cons (peO u (by exact rfl) (by exact .inl rfl) (by exact rfl) (m_isinstance Y) (by exact rfl) (g_InvalidPlace Y)) (pa_cons (peO u (by exact rfl) (by exact .inl rfl) (by exact rfl) (m_isinstance Y) (by exact rfl) (g_InvalidVoters Y)) pa_nil)))))), fun σ H1 h e => evp_is (MX_ Y).f h.1 hx (hv.keep e) _ (by decide)⟩, (List.forall_mem_cons.mpr ⟨⟨(ps_set nd rfl (by first | exact Or.inl rfl | exact Or.inr rfl) (pe_op op_cat (pv 1) (pe_lst (pa_cons (peO u (by exact rfl) (by exact .inl rfl) (by exact rfl) (m_isinstance Y) (by exact rfl) (g_InvalidIndex Y)) (pa_cons (peO u (by exact rfl) (by exact .inl rfl) (by exact rfl) (m_isinstance Y) (by exact rfl) (g_InvalidPeople Y)) (pa_cons (peO u (by exact rfl) (by exact .inl rfl) (by exact rfl) (m_isinstance Y) (by exact rfl) (g_InvalidTable Y)) pa_nil)))))), fun σ H1 h e => evp_is (MX_ Y).f h.1 hx (hv.keep e) _ (by decide)⟩, (List.forall_mem_cons.mpr ⟨⟨(ps_set nd rfl (by first | exact Or.inl rfl | exact Or.inr rfl) (pe_op op_cat (pv 1) (pe_lst (pa_cons (peO u (by exact rfl) (by exact .inl rfl) (by exact rfl) (m_isinstance Y) (by exact rfl) (g_InvalidFixed Y)) (pa_cons (peO u (by exact rfl) (by exact .inl rfl) (by exact rfl) (m_isinstance Y) (by exact rfl) (g_InvalidTelling Y)) pa_nil))))), fun σ H1 h e => evp_is (MX_ Y).f h.1 hx (hv.keep e) _ (by decide)⟩, (List.forall_mem_cons.mpr ⟨⟨(ps_set nd rfl (by first | exact Or.inl rfl | exact Or.inr rfl) (pe_op op_cat (pv 1) (pe_lst (pa_cons (peO u (by exact rfl) (by exact .inl rfl) (by exact rfl) (m_isinstance Y) (by exact rfl) (g_InvalidPairs Y)) (pa_cons (peO u (by exact rfl) (by exact .inl rfl) (by exact rfl) (m_isinstance Y) (by exact rfl) (g_InvalidLists Y)) pa_nil))))), fun σ H1 h e => evp_is (MX_ Y).f h.1 hx (hv.keep e) _ (by decide)⟩, (List.forall_mem_cons.mpr ⟨⟨(ps_set nd rfl (by first | exact Or.inl rfl | exact Or.inr rfl) (pe_op op_cat (pv 1) (pe_lst (pa_cons (peO u (by exact rfl) (by exact .inl rfl) (by exact rfl) (m_isinstance Y) (by exact rfl) (g_InvalidCommand Y)) (pa_cons (peO u (by exact rfl) (by exact .inl rfl) (by exact rfl) (m_isinstance Y) (by exact rfl) (g_NoLine Y)) (pa_cons (peO u (by exact rfl) (by exact .inl rfl) (by exact rfl) (m_isinstance Y) (by exact rfl) (g_NoRow Y)) pa_nil)))))), fun σ H1 h e => evp_is (MX_ Y).f h.1 hx (hv.keep e) _ (by decide)⟩, (List.forall_mem_cons.mpr ⟨⟨(ps_set nd rfl (by first | exact Or.inl rfl | exact Or.inr rfl) (pe_op op_cat (pv 1) (pe_lst (pa_cons (peO u (by exact rfl) (by exact .inl rfl) (by exact rfl) (m_isinstance Y) (by exact rfl) (g_NotFalling Y)) (pa_cons (peO u (by exact rfl) (by exact .inl rfl) (by exact rfl) (m_isinstance Y) (by exact rfl) (g_NotFree Y)) (pa_cons (peO u (by exact rfl) (by exact .inl rfl) (by exact rfl) (m_isinstance Y) (by exact rfl) (g_NoBallot Y)) pa_nil)))))), fun σ H1 h e => evp_is (MX_ Y).f h.1 hx (hv.keep e) _ (by decide)⟩, (List.forall_mem_cons.mpr ⟨⟨(ps_set nd rfl (by first | exact Or.inl rfl | exact Or.inr rfl) (pe_op op_cat (pv 1) (pe_lst (pa_cons (peO u (by exact rfl) (by exact .inl rfl) (by exact rfl) (m_isinstance Y) (by exact rfl) (g_NotMatching Y)) (pa_cons (peO u (by exact rfl) (by exact .inl rfl) (by exact rfl) (m_isinstance Y) (by exact rfl) (g_EvenVoters Y)) (pa_cons (peO u (by exact rfl) (by exact .inl rfl) (by exact rfl) (m_isinstance Y) (by exact rfl) (g_NotTold Y)) pa_nil)))))), fun σ H1 h e => evp_is (MX_ Y).f h.1 hx (hv.keep e) _ (by decide)⟩, (fun _ h => nomatch h)⟩)⟩)⟩)⟩)⟩)⟩)⟩)
    (ps_ret (pe_op op_cat (pv 1) (pe_lst (pa_cons (peO u (by exact rfl) (by exact .inl rfl) (by exact rfl) (m_isinstance Y) (by exact rfl) (g_NothingToUndo Y)) (pa_cons (peO u (by exact rfl) (by exact .inl rfl) (by exact rfl) (m_isinstance Y) (by exact rfl) (g_InvalidText Y)) pa_nil)))))
    (fun σ H1 h e => evp_is (MX_ Y).f h.1 hx (hv.keep e) _ (by decide))), ?_⟩
  exact ⟨⟨rfl, rfl⟩, Evl.Ex.refl H, by simp, fun p ws H2 np ex hw hs => kq p ws H2 np ex hw hs⟩
def N__law_made : List Str := ["_law_text", "_law_field", "_law_found"]
theorem S__law_made : FnScope N__law_made ["_law_text", "_law_field"] (defScope (topS 30)) := ⟨rfl, rfl, rfl, by decide, rfl, by decide +kernel, by decide +kernel⟩
theorem I_made (Y : Ctx K mg) : ∃ f fd, mg "_law_made" = some (.ref f) ∧ PySem.W.keepIn K (.ref f) = true ∧ Binds K fd ["_law_text", "_law_field"] [] ∧ FnOk Pg w K mg base CX0 3 f fd ["_law_text", "_law_field"] (spMade (He.ga K)) := by
  obtain ⟨fdi, bi, Fi⟩ := I_init (Pg := Pg) (w := w) (base := base) Y
  obtain ⟨_, X, G⟩ := Y.ex
  obtain ⟨fd, FD⟩ := Y.c.def_ 5 (d := d__law_made)
  have hb : Binds K fd ["_law_text", "_law_field"] [] := FD.bindsN fun _ _ _ _ _ _ us h => by
    match us, h with
    | [a0, a1], _ => rfl
  have hk := FD.kp
  obtain ⟨oc, od, dV, kV, doc, pm, an, cdv, ct, osl, rfl, lk, hcd, _, _⟩ := FD.ex
  refine ⟨_, _, He.glo_ok X G (Y.c.fact 5), hk, hb, fn_of (CX := CX0) (k := 2) lk hcd S__law_made (fun vs H Q E h => by obtain ⟨_, _, rfl, _⟩ := h; rfl) fun A outer s H vs Q E hr h => ?_⟩
  obtain ⟨wv, v, rfl, kq⟩ := h
  have nd : N__law_made.Nodup := by decide
  have u : Xof (cxOf CX0 Pg w K mg base N__law_made "_law_made" (defScope (topS 30)) (He.fAd K ("_law_made", none)) cdv A outer s H E) := ⟨⟩
  refine ⟨_, (show PSs (cxOf CX0 Pg w K mg base N__law_made "_law_made" (defScope (topS 30)) (He.fAd K ("_law_made", none)) cdv A outer s H E) (defBody (topS 30)) _ from pss_parts (X := (cxOf CX0 Pg w K mg base N__law_made "_law_made" (defScope (topS 30)) (He.fAd K ("_law_made", none)) cdv A outer s H E)) (j := 2) (H0 := H) (I := fun σ => σ[0]? = some (some (.str wv)) ∧ σ[1]? = some (some v) ∧ σ.length = 3) (fun σ y ⟨h1, h2, h3⟩ => ⟨by rw [List.getElem?_set_ne (by decide)]; exact h1, by rw [List.getElem?_set_ne (by decide)]; exact h2, by rw [List.length_set]; exact h3⟩) (fun σ h => by rw [h.2.2]; decide) (first := ((defBody (topS 30)).getD 0 (.Pass ⟨0, 0, 0, 0⟩))) (fc := (taEx K [("InvalidCount" : Str), ("InvalidBallot" : Str), ("InvalidBallots" : Str), ("InvalidLine" : Str), ("InvalidPlace" : Str)] tNil, [("InvalidCount" : Str), ("InvalidBallot" : Str), ("InvalidBallots" : Str), ("InvalidLine" : Str), ("InvalidPlace" : Str)].map (fun x => prE (He.ga K x) (nOf v x)) ++ []))
    (ps_set nd rfl (by first | exact Or.inl rfl | exact Or.inr rfl) (pe_lst (pa_cons (peX1 u (e_InvalidCount Y).q (g_InvalidCount Y) (e_InvalidCount Y).k (by exact rfl) (pv 0)) (pa_cons (peX1 u (e_InvalidBallot Y).q (g_InvalidBallot Y) (e_InvalidBallot Y).k (by exact rfl) (pv 0)) (pa_cons (peX1 u (e_InvalidBallots Y).q (g_InvalidBallots Y) (e_InvalidBallots Y).k (by exact rfl) (pv 0)) (pa_cons (peX1 u (e_InvalidLine Y).q (g_InvalidLine Y) (e_InvalidLine Y).k (by exact rfl) (pv 0)) (pa_cons (peX1 u (e_InvalidPlace Y).q (g_InvalidPlace Y) (e_InvalidPlace Y).k (by exact rfl) (pv 0)) pa_nil)))))))
    (fun σ H1 h e => evp_ex h.1 evp_nil _ (by decide))
    [(((defBody (topS 30)).getD 1 (.Pass ⟨0, 0, 0, 0⟩)), (taEx K [("InvalidVoters" : Str), ("InvalidIndex" : Str), ("InvalidPeople" : Str), ("InvalidTable" : Str)] tNil, [("InvalidVoters" : Str), ("InvalidIndex" : Str), ("InvalidPeople" : Str), ("InvalidTable" : Str)].map (fun x => prE (He.ga K x) (nOf v x)) ++ [])), (((defBody (topS 30)).getD 2 (.Pass ⟨0, 0, 0, 0⟩)), (taEx K [("InvalidFixed" : Str), ("InvalidTelling" : Str), ("InvalidPairs" : Str), ("InvalidLists" : Str)] tNil, [("InvalidFixed" : Str), ("InvalidTelling" : Str), ("InvalidPairs" : Str), ("InvalidLists" : Str)].map (fun x => prE (He.ga K x) (nOf v x)) ++ [])), (((defBody (topS 30)).getD 3 (.Pass ⟨0, 0, 0, 0⟩)), (taEx K [("InvalidCommand" : Str), ("NoLine" : Str), ("NoRow" : Str), ("NotFalling" : Str), ("NotFree" : Str), ("NoBallot" : Str)] tNil, [("InvalidCommand" : Str), ("NoLine" : Str), ("NoRow" : Str), ("NotFalling" : Str), ("NotFree" : Str), ("NoBallot" : Str)].map (fun x => prE (He.ga K x) (nOf v x)) ++ []))]
    ((defBody (topS 30)).getD 4 (.Pass ⟨0, 0, 0, 0⟩)) (taEx K [("NotMatching" : Str), ("EvenVoters" : Str), ("NotTold" : Str), ("NothingToUndo" : Str)] (tCons (tOexV (He.ga K tI) (spInit (He.ga K tI)) (tCons (tVar 1) tNil)) tNil), [("NotMatching" : Str), ("EvenVoters" : Str), ("NotTold" : Str), ("NothingToUndo" : Str)].map (fun x => prE (He.ga K x) (nOf v x)) ++ [prE (He.ga K tI) (nOf v tI)])
    (List.forall_mem_cons.mpr ⟨⟨(ps_set nd rfl (by first | exact Or.inl rfl | exact Or.inr rfl) (pe_op op_cat (pv 2) (pe_lst (pa_cons (peX1 u (e_InvalidVoters Y).q (g_InvalidVoters Y) (e_InvalidVoters Y).k (by exact rfl) (pv 0)) (pa_cons (peX1 u (e_InvalidIndex Y).q (g_InvalidIndex Y) (e_InvalidIndex Y).k (by exact rfl) (pv 0)) (pa_cons (peX1 u (e_InvalidPeople Y).q (g_InvalidPeople Y) (e_InvalidPeople Y).k (by exact rfl) (pv 0)) (pa_cons (peX1 u (e_InvalidTable Y).q (g_InvalidTable Y) (e_InvalidTable Y).k (by exact rfl) (pv 0)) pa_nil))))))), fun σ H1 h e => evp_ex h.1 evp_nil _ (by decide)⟩, (List.forall_mem_cons.mpr ⟨⟨(ps_set nd rfl (by first | exact Or.inl rfl | exact Or.inr rfl) (pe_op op_cat (pv 2) (pe_lst (pa_cons (peX1 u (e_InvalidFixed Y).q (g_InvalidFixed Y) (e_InvalidFixed Y).k (by exact rfl) (pv 0)) (pa_cons (peX1 u (e_InvalidTelling Y).q (g_InvalidTelling Y) (e_InvalidTelling Y).k (by exact rfl) (pv 0)) (pa_cons (peX1 u (e_InvalidPairs Y).q (g_InvalidPairs Y) (e_InvalidPairs Y).k (by exact rfl) (pv 0)) (pa_cons (peX1 u (e_InvalidLists Y).q (g_InvalidLists Y) (e_InvalidLists Y).k (by exact rfl) (pv 0)) pa_nil))))))), fun σ H1 h e => evp_ex h.1 evp_nil _ (by decide)⟩, (List.forall_mem_cons.mpr ⟨⟨(ps_set nd rfl (by first | exact Or.inl rfl | exact Or.inr rfl) (pe_op op_cat (pv 2) (pe_lst (pa_cons (peX1 u (e_InvalidCommand Y).q (g_InvalidCommand Y) (e_InvalidCommand Y).k (by exact rfl) (pv 0)) (pa_cons (peX1 u (e_NoLine Y).q (g_NoLine Y) (e_NoLine Y).k (by exact rfl) (pv 0)) (pa_cons (peX1 u (e_NoRow Y).q (g_NoRow Y) (e_NoRow Y).k (by exact rfl) (pv 0)) (pa_cons (peX1 u (e_NotFalling Y).q (g_NotFalling Y) (e_NotFalling Y).k (by exact rfl) (pv 0)) (pa_cons (peX1 u (e_NotFree Y).q (g_NotFree Y) (e_NotFree Y).k (by exact rfl) (pv 0)) (pa_cons (peX1 u (e_NoBallot Y).q (g_NoBallot Y) (e_NoBallot Y).k (by exact rfl) (pv 0)) pa_nil))))))))), fun σ H1 h e => evp_ex h.1 evp_nil _ (by decide)⟩, (fun _ h => nomatch h)⟩)⟩)⟩)
    (ps_ret (pe_op op_cat (pv 2) (pe_lst (pa_cons (peX1 u (e_NotMatching Y).q (g_NotMatching Y) (e_NotMatching Y).k (by exact rfl) (pv 0)) (pa_cons (peX1 u (e_EvenVoters Y).q (g_EvenVoters Y) (e_EvenVoters Y).k (by exact rfl) (pv 0)) (pa_cons (peX1 u (e_NotTold Y).q (g_NotTold Y) (e_NotTold Y).k (by exact rfl) (pv 0)) (pa_cons (peX1 u (e_NothingToUndo Y).q (g_NothingToUndo Y) (e_NothingToUndo Y).k (by exact rfl) (pv 0)) (pa_cons (peXV u (MX_ Y).o (MX_ Y).i (MX_ Y).t Fi (hr.mono (by decide)) bi pass0 (by exact rfl) (g_InvalidText Y) (pa_cons (pv 1) pa_nil)) pa_nil))))))))
    (fun σ H1 h e => evp_ex h.1 (by rw [show nOf v tI = some v from if_pos rfl]; exact evp_cons (elp_oex h.2.1) evp_nil) _ (by decide))), ?_⟩
  exact ⟨⟨rfl, rfl, rfl⟩, Evl.Ex.refl H, by simp, fun p ws H2 np ex hw hs => kq p ws H2 np ex hw hs⟩
def N__law_cells : List Str := ["_law_script", "_law_many"]
theorem W__law_cells (Y : Ctx K mg) {f : Addr} (cdv : Value) (A : Around) (outer : List Env) (s : Shared) (H : Hp) (E : XK) (hr : Room 0 (A.deeper (envOfC "_law_cells" (defScope (topS 29)) s.heap.objs.size f cdv))) (hgd : A.guards = some []) :
    SSs (GX Pg w K mg base N__law_cells "_law_cells" (defScope (topS 29)) f cdv A outer s H E) (GW E) [] (defBody (topS 29)) B__law_cells := by
  have h64 : (A.deeper (envOfC "_law_cells" (defScope (topS 29)) s.heap.objs.size f cdv)).units + 64 < cLine := hr.units
  have h65 : (A.deeper (envOfC "_law_cells" (defScope (topS 29)) s.heap.objs.size f cdv)).units + 65 < cLine := by have := hr.un; omega
  have h1 := unl1 h64
  have h0 := unl0 h64
  have nd : N__law_cells.Nodup := by decide
  exact (ss_one (ss_ret (se_sl (se_add (se_var 0) (se_lst (sa_cons se_int sa_nil))) .no (.yes (se_b2 (call_max2 rfl) c2_i rfl (m_max Y) (by decide +kernel) se_int (se_b2 (call_min2 rfl) c2_i rfl (m_min Y) (by decide +kernel) (se_var 1) (se_b1 call_lenU c1_len rfl (m_len Y) (by decide +kernel) (se_var 0))))))))
theorem S__law_cells : FnScope N__law_cells ["_law_script", "_law_many"] (defScope (topS 29)) := ⟨rfl, rfl, rfl, by decide, rfl, by decide +kernel, by decide +kernel⟩
theorem D__law_cells_2 (Y : Ctx K mg) : Dfn Pg w K mg base 1 "_law_cells" 2 F__law_cells 2 [] := by
  obtain ⟨_, X, G⟩ := Y.ex
  obtain ⟨fd, FD⟩ := Y.c.def_ 0 (d := d__law_cells)
  have hb : Binds K fd ["_law_script", "_law_many"] [] := FD.bindsN fun _ _ _ _ _ _ us h => by
    match us, h with
    | [a0, a1], _ => rfl
  exact ⟨⟨_, fd, ["_law_script", "_law_many"], [], He.glo_ok X G (Y.c.fact 0), FD.kp, fnG_D FD S__law_cells rfl fun cdv  A outer s H E hr hgd => W__law_cells Y  cdv  A outer s H E hr hgd, hb, .nil, rfl, rfl⟩⟩
def N__law_draw : List Str := ["_law_tap_here", "_law_bound", "_law_found"]
theorem W__law_draw (Y : Ctx K mg) {f : Addr} (cdv : Value) (A : Around) (outer : List Env) (s : Shared) (H : Hp) (E : XK) (hr : Room 0 (A.deeper (envOfC "_law_draw" (defScope (topS 28)) s.heap.objs.size f cdv))) (hgd : A.guards = some []) :
    SSs (GX Pg w K mg base N__law_draw "_law_draw" (defScope (topS 28)) f cdv A outer s H E) (GW E) [0] (defBody (topS 28)) B__law_draw := by
  have h64 : (A.deeper (envOfC "_law_draw" (defScope (topS 28)) s.heap.objs.size f cdv)).units + 64 < cLine := hr.units
  have h65 : (A.deeper (envOfC "_law_draw" (defScope (topS 28)) s.heap.objs.size f cdv)).units + 65 < cLine := by have := hr.un; omega
  have h1 := unl1 h64
  have h0 := unl0 h64
  have nd : N__law_draw.Nodup := by decide
  exact (ss_cons (ss_if (st_ge (se_ix2 h64 (se_var 0) se_int) (se_powW se_int se_int)) (ss_cons (ss_set 2 nd rfl (by first | exact Or.inl rfl | exact Or.inr rfl) (by decide) (se_mod (se_t1 call_int1 c1_int rfl (m_int Y) (by decide +kernel) (se_ix2 h64 (se_var 0) se_int)) (se_var 1)))
    (ss_cons (ss_asg (se_fdivW (se_ix2 h64 (se_var 0) se_int) (se_var 1)) (sg_sub (se_var 0) se_int))
    (ss_one (ss_ret (se_var 2))))) ss_nil)
    (ss_cons (ss_asg (se_mod (se_t1 call_int1 c1_int rfl (m_int Y) (by decide +kernel) (se_add (se_mul (se_ix2 h64 (se_var 0) se_int) se_int) se_int)) se_int) (sg_sub (se_var 0) se_int))
    (ss_cons (ss_asg (se_mod (se_t1 call_int1 c1_int rfl (m_int Y) (by decide +kernel) (se_add (se_mul (se_ix2 h64 (se_var 0) se_int) (se_ix2 h64 (se_var 0) se_int)) (se_ix2 h64 (se_var 0) se_int))) se_int) (sg_sub (se_var 0) se_int))
    (ss_one (ss_ret (se_mod (se_t1 call_int1 c1_int rfl (m_int Y) (by decide +kernel) (se_add (se_fdivW (se_ix2 h64 (se_var 0) se_int) se_int) (se_fdivW (se_ix2 h64 (se_var 0) se_int) se_int))) (se_var 1)))))))
theorem S__law_draw : FnScope N__law_draw ["_law_tap_here", "_law_bound"] (defScope (topS 28)) := ⟨rfl, rfl, rfl, by decide, rfl, by decide +kernel, by decide +kernel⟩
theorem D__law_draw_2 (Y : Ctx K mg) : Dfn Pg w K mg base 1 "_law_draw" 2 F__law_draw 2 [] := by
  obtain ⟨_, X, G⟩ := Y.ex
  obtain ⟨fd, FD⟩ := Y.c.def_ 1 (d := d__law_draw)
  have hb : Binds K fd ["_law_tap_here", "_law_bound"] [] := FD.bindsN fun _ _ _ _ _ _ us h => by
    match us, h with
    | [a0, a1], _ => rfl
  exact ⟨⟨_, fd, ["_law_tap_here", "_law_bound"], [], He.glo_ok X G (Y.c.fact 1), FD.kp, fnG_D FD S__law_draw rfl fun cdv  A outer s H E hr hgd => W__law_draw Y  cdv  A outer s H E hr hgd, hb, .nil, rfl, rfl⟩⟩
def N__law_right : List Str := ["_law_tap_here", "_law_letters", "_law_text", "_law_field", "_law_errors_here", "_law_k", "_law_first", "_law_error", "_law_turn", "_law_other"]
theorem W__law_right (Y : Ctx K mg) {f : Addr} (cdv : Value) (A : Around) (outer : List Env) (s : Shared) (H : Hp) (E : XK) (hr : Room 3 (A.deeper (envOfC "_law_right" (defScope (topS 32)) s.heap.objs.size f cdv))) (hgd : A.guards = some []) :
    SSs (GX Pg w K mg base N__law_right "_law_right" (defScope (topS 32)) f cdv A outer s H E) (GW E) [0] (defBody (topS 32)) B__law_right_v24 := by
  have h64 : (A.deeper (envOfC "_law_right" (defScope (topS 32)) s.heap.objs.size f cdv)).units + 64 < cLine := hr.units
  have h65 : (A.deeper (envOfC "_law_right" (defScope (topS 32)) s.heap.objs.size f cdv)).units + 65 < cLine := by have := hr.un; omega
  have h1 := unl1 h64
  have h0 := unl0 h64
  have nd : N__law_right.Nodup := by decide
  exact (ss_cons (ss_set 1 nd rfl (by first | exact Or.inl rfl | exact Or.inr rfl) (by decide) (se_tk se_str))
    (ss_cons (ss_set 2 nd rfl (by first | exact Or.inl rfl | exact Or.inr rfl) (by decide) (se_tk (se_joinC (se_lc false rfl nd (si_rng1 rfl (m_range Y) (se_callD ((D__law_draw_2 Y).mono (by decide)) hr hgd gx_pass rfl (sr_io 0 rfl (by first | exact Or.inl rfl | exact Or.inr (Or.inl rfl) | exact Or.inr (Or.inr rfl)) (sr_cons se_int sr_nil)) (len_rIo (len_rCons len_rNil)))) (own := [("_law_turn", 8)]) (by kernel_rfl) (by decide) (by decide) (fun _ _ _ _ _ => (sg_name 8 nd rfl (by first | exact Or.inl rfl | exact Or.inr rfl) (by decide))) (fun _ _ _ _ _ => sts_nil) (fun _ _ _ _ _ => (se_tk (se_ixS (se_var 1) (se_callD ((D__law_draw_2 Y).mono (by decide)) hr hgd w0_pass rfl (sr_io 0 rfl (by first | exact Or.inl rfl | exact Or.inr (Or.inl rfl) | exact Or.inr (Or.inr rfl)) (sr_cons se_int sr_nil)) (len_rIo (len_rCons len_rNil))))))))))
    (ss_cons (ss_set 3 nd rfl (by first | exact Or.inl rfl | exact Or.inr rfl) (by decide) (se_tk (se_ix2 h64 (se_lst (sa_cons se_int (sa_cons se_int (sa_cons (se_callD ((D__law_draw_2 Y).mono (by decide)) hr hgd gx_pass rfl (sr_io 0 rfl (by first | exact Or.inl rfl | exact Or.inr (Or.inl rfl) | exact Or.inr (Or.inr rfl)) (sr_cons se_int sr_nil)) (len_rIo (len_rCons len_rNil))) (sa_cons se_non sa_nil))))) (se_callD ((D__law_draw_2 Y).mono (by decide)) hr hgd gx_pass rfl (sr_io 0 rfl (by first | exact Or.inl rfl | exact Or.inr (Or.inl rfl) | exact Or.inr (Or.inr rfl)) (sr_cons se_int sr_nil)) (len_rIo (len_rCons len_rNil))))))
    (have u : Xof (GX Pg w K mg base N__law_right "_law_right" (defScope (topS 32)) f cdv A outer s H E) := ⟨⟩; match I_made (Pg := Pg) (w := w) (base := base) Y, I_which (Pg := Pg) (w := w) (base := base) Y with | ⟨f1, fd1, m1, k1, b1, F1⟩, ⟨f2, fd2, m2, k2, b2, F2⟩ => ss_tailR (it := 2) (ji := 3) (je := 4) (jk := 5) (jx := 7) (jf := 6) (jo := 9) (E := E0) (MX_ Y).f (by decide) (pss_cons (ps_set nd rfl (by first | exact Or.inl rfl | exact Or.inr rfl) (peC u F1 (hr.mono (by decide)) (by exact rfl) m1 k1 b1 pass0 (pa_cons (pv 2) (pa_cons (pv 3) pa_nil)))) (pss_cons (ps_for (passes_of rfl) rfl (piR u (by exact rfl) (m_range Y) (pa_cons (peB u call_len_seq (by exact rfl) (m_len Y) (by decide +kernel) (pa_cons (pv 4) pa_nil)) pa_nil)) (pg_name nd rfl (by first | exact Or.inl rfl | exact Or.inr rfl)) (pss_cons (ps_set nd rfl (by first | exact Or.inl rfl | exact Or.inr rfl) (pe_ix ix_seq (pv 4) (pv 5) (by intro _ _; rfl))) (pss_cons (ps_if (PW.pt (pw_or (pt_not (pt_val (peO u (by exact rfl) (by exact .inl rfl) (by exact rfl) (m_isinstance Y) (by exact rfl) (g_BallotError Y)))) (pw_or1 (pt_not (pt_val (peOB u (by exact rfl) (by exact .inl rfl) (by exact rfl) (m_isinstance Y) (by exact rfl) (m_ValueError Y) (by decide +kernel))))))) (pss_one (ps_ret pe_bl)) pss_nil) (pss_one (ps_if (pt_cmpR (op_neD h64) (peC u F2 (hr.mono (by decide)) (by exact rfl) m2 k2 b2 pass0 (pa_cons (pv 7) pa_nil)) (pe_lc rfl nd (piR u (by exact rfl) (m_range Y) (pa_cons pe_int pa_nil)) (blkOk_by (own := [("_law_other", 9)]) (by kernel_rfl)) (fun _ _ _ _ _ => pg_name nd rfl (by first | exact Or.inl rfl | exact Or.inr rfl) (by first | exact .inl rfl | exact .inr rfl)) (fun _ _ _ _ _ => pts_nil) (fun _ _ _ _ _ => (pe_cmpR op_eq (pv 9) (pv 5) rfl))) rfl) (pss_one (ps_ret pe_bl)) pss_nil))))) (pss_cons (ps_set nd rfl (by first | exact Or.inl rfl | exact Or.inr rfl) (peX1 u (e_BallotError Y).q (g_BallotError Y) (e_BallotError Y).k (by exact rfl) (pv 2))) (pss_cons (ps_if (pt_cmpR op_ne (peB u (call_reprT h64 hgd) (by exact rfl) (m_repr Y) PyProof.Rows.boot_repr (pa_cons (pe_num (pe_ix ix_seq (pv 4) (pe_un un_neg pe_int) (by intro _ _; rfl))) pa_nil)) (peB u (call_reprT h64 hgd) (by exact rfl) (m_repr Y) PyProof.Rows.boot_repr (pa_cons (pv 3) pa_nil)) rfl) (pss_one (ps_ret pe_bl)) pss_nil) (pss_one (ps_ret (pe_and (peOB u (by exact rfl) (by exact .inl rfl) (by exact rfl) (m_isinstance Y) (by exact rfl) (m_ValueError Y) (by decide +kernel)) (pe_one (pe_cmpR op_notIn_seq pe_bl (peC u F2 (hr.mono (by decide)) (by exact rfl) m2 k2 b2 pass0 (pa_cons (pv 6) pa_nil)) rfl)))))))))))))
theorem S__law_right : FnScope N__law_right ["_law_tap_here"] (defScope (topS 32)) := ⟨rfl, rfl, rfl, by decide, rfl, by decide +kernel, by decide +kernel⟩
theorem D__law_right_1 (Y : Ctx K mg) : Dfn Pg w K mg base 4 "_law_right" 1 F__law_right_v24 1 [] := by
  obtain ⟨_, X, G⟩ := Y.ex
  obtain ⟨fd, FD⟩ := Y.c.def_ 2 (d := d__law_right)
  have hb : Binds K fd ["_law_tap_here"] [] := FD.bindsN fun _ _ _ _ _ _ us h => by
    match us, h with
    | [a0], _ => rfl
  exact ⟨⟨_, fd, ["_law_tap_here"], [], He.glo_ok X G (Y.c.fact 2), FD.kp, fnG_D FD S__law_right rfl fun cdv  A outer s H E hr hgd => W__law_right Y  cdv  A outer s H E hr hgd, hb, .nil, rfl, rfl⟩⟩
def N__law_tap : List Str := ["_law_cell", "_law_turn", "_law_whole"]
theorem W__law_tap (Y : Ctx K mg) {f : Addr} (cdv : Value) (A : Around) (outer : List Env) (s : Shared) (H : Hp) (E : XK) (hr : Room 0 (A.deeper (envOfC "_law_tap" (defScope (topS 27)) s.heap.objs.size f cdv))) (hgd : A.guards = some []) :
    SSs (GX Pg w K mg base N__law_tap "_law_tap" (defScope (topS 27)) f cdv A outer s H E) (GW E) [] (defBody (topS 27)) B__law_tap := by
  have h64 : (A.deeper (envOfC "_law_tap" (defScope (topS 27)) s.heap.objs.size f cdv)).units + 64 < cLine := hr.units
  have h65 : (A.deeper (envOfC "_law_tap" (defScope (topS 27)) s.heap.objs.size f cdv)).units + 65 < cLine := by have := hr.un; omega
  have h1 := unl1 h64
  have h0 := unl0 h64
  have nd : N__law_tap.Nodup := by decide
  exact (ss_cons (ss_set 2 nd rfl (by first | exact Or.inl rfl | exact Or.inr rfl) (by decide) (se_tk (se_add (se_mul se_int (se_b1 call_abs c1_abs rfl (m_abs Y) (by decide +kernel) (se_var 0))) (se_t1 call_int1 c1_int rfl (m_int Y) (by decide +kernel) (se_lt (se_var 0) se_int)))))
    (ss_one (ss_ret (se_lst (sa_cons (se_var 2) (sa_cons (se_add (se_add (se_mod (se_t1 call_int1 c1_int rfl (m_int Y) (by decide +kernel) (se_var 2)) se_int) (se_mul se_int (se_var 1))) se_int) (sa_cons (se_add (se_add (se_mod (se_t1 call_int1 c1_int rfl (m_int Y) (by decide +kernel) (se_var 2)) se_int) (se_mul se_int (se_var 1))) se_int) sa_nil)))))))
theorem S__law_tap : FnScope N__law_tap ["_law_cell", "_law_turn"] (defScope (topS 27)) := ⟨rfl, rfl, rfl, by decide, rfl, by decide +kernel, by decide +kernel⟩
theorem D__law_tap_2 (Y : Ctx K mg) : Dfn Pg w K mg base 1 "_law_tap" 2 F__law_tap 2 [] := by
  obtain ⟨_, X, G⟩ := Y.ex
  obtain ⟨fd, FD⟩ := Y.c.def_ 3 (d := d__law_tap)
  have hb : Binds K fd ["_law_cell", "_law_turn"] [] := FD.bindsN fun _ _ _ _ _ _ us h => by
    match us, h with
    | [a0, a1], _ => rfl
  exact ⟨⟨_, fd, ["_law_cell", "_law_turn"], [], He.glo_ok X G (Y.c.fact 3), FD.kp, fnG_D FD S__law_tap rfl fun cdv  A outer s H E hr hgd => W__law_tap Y  cdv  A outer s H E hr hgd, hb, .nil, rfl, rfl⟩⟩
def N_law : List Str := ["_law_script", "_law_cells_here", "_law_k"]
theorem W_law (Y : Ctx K mg) {f : Addr} (cdv : Value) (A : Around) (outer : List Env) (s : Shared) (H : Hp) (E : XK) (hr : Room 4 (A.deeper (envOfC "law" (defScope (topS 33)) s.heap.objs.size f cdv))) (hgd : A.guards = some []) :
    SSs (GX Pg w K mg base N_law "law" (defScope (topS 33)) f cdv A outer s H E) (GW E) [] (defBody (topS 33)) B_law_v25 := by
  have h64 : (A.deeper (envOfC "law" (defScope (topS 33)) s.heap.objs.size f cdv)).units + 64 < cLine := hr.units
  have h65 : (A.deeper (envOfC "law" (defScope (topS 33)) s.heap.objs.size f cdv)).units + 65 < cLine := by have := hr.un; omega
  have h1 := unl1 h64
  have h0 := unl0 h64
  have nd : N_law.Nodup := by decide
  exact (ss_cons (ss_set 1 nd rfl (by first | exact Or.inl rfl | exact Or.inr rfl) (by decide) (se_tk (se_callD ((D__law_cells_2 Y).mono (by decide)) hr hgd gx_pass rfl (sr_cons (se_tk (se_var 0)) (sr_cons se_int sr_nil)) (len_rCons (len_rCons len_rNil)))))
    (ss_one (ss_ret (se_eqE h64 (se_lc false rfl nd (si_rng1 rfl (m_range Y) (se_b1 call_lenU c1_len rfl (m_len Y) (by decide +kernel) (se_var 1))) (own := [("_law_k", 2)]) (by kernel_rfl) (by decide) (by decide) (fun _ _ _ _ _ => (sg_name 2 nd rfl (by first | exact Or.inl rfl | exact Or.inr rfl) (by decide))) (fun _ _ _ _ _ => (sts_one (st_not (st_tru (se_callD ((D__law_right_1 Y).mono (by decide)) hr hgd w0_pass rfl (sr_cons (se_callD ((D__law_tap_2 Y).mono (by decide)) hr hgd w0_pass rfl (sr_cons (se_tk (se_ix2 h64 (se_var 1) (se_var 2))) (sr_cons (se_tk (se_var 2)) sr_nil)) (len_rCons (len_rCons len_rNil))) sr_nil) (len_rCons len_rNil)))))) (fun _ _ _ _ _ => (se_tk (se_var 2)))) (se_lst sa_nil)))))
theorem S_law : FnScope N_law ["_law_script"] (defScope (topS 33)) := ⟨rfl, rfl, rfl, by decide, rfl, by decide +kernel, by decide +kernel⟩
end K04
namespace Hb
open PySem PySem.Spec PyProof.Rows L2
abbrev AlM : Type := He.AlD × Bool
def frM (n : Nat) (g : Addr → Option Obj) : PySem.W.Frag := He.frT g (cStatics :: He.asD g n)
def obsM (n : Nat) (fa : List He.Fa) (fn : List He.DefD) (ex : PySem.W.Frag → Bool) (g : Addr → Option Obj) : AlM := (He.obsD fa fn (frM n g), ex (frM n g))
structure SaysM (fa : List He.Fa) (fn : List He.DefD) (ex : PySem.W.Frag → Bool) (K : PySem.W.Frag) : Prop where
  d : He.SaysD fa fn K
  more : ex K = true
def hookM (n : Nat) (fa : List He.Fa) (fn : List He.DefD) (ex : PySem.W.Frag → Bool) : PySem.W.Hook where
  α := AlM
  obs := fun s => obsM n fa fn ex s.heap.get?
  val := fun _ => (He.valD fn, true)
  says := fun _ h => ∃ K : PySem.W.Frag, K.In h ∧ SaysM fa fn ex K
  of := fun _ s e => ⟨frM n s.heap.get?, He.frT_in, congrArg (fun z : AlM => z.1) e, congrArg (fun z : AlM => z.2) e⟩
  keeps := fun _ _ _ ⟨K, hK, c⟩ k => ⟨K, PySem.W.Frag.In.keeps hK k, c⟩
theorem obsM_eq {n : Nat} {fa : List He.Fa} {fn : List He.DefD} {ex : PySem.W.Frag → Bool} {g : Addr → Option Obj} {s : Shared} (h : ∀ a, g a = s.heap.get? a) : obsM n fa fn ex g = (hookM n fa fn ex).obs s := by
  have e : g = s.heap.get? := funext h
  rw [e] <;> rfl
end Hb
namespace Lw
open PySem Hb Nv L2
variable {α β γ σ ρ ζ : Type}
theorem bnd {p : Option α} {x : α} {f : α → Option β} {y : β} (h : p = some x) (h2 : f x = some y) : p.bind f = some y := by rw [h]; exact h2
theorem mapF_ok (c : α → Option Bool) (g : α → Option γ) (p : α → Bool) (f : α → γ) : ∀ (xs : List α), (∀ x ∈ xs, c x = some (p x)) → (∀ x ∈ xs, p x = true → g x = some (f x)) → mapF xs c g = some ((xs.filter p).map f)
  | [], _, _ => rfl
  | x :: r, hc, hg => by
    have ih := mapF_ok c g p f r (fun y hy => hc y (by simp [hy])) (fun y hy => hg y (by simp [hy]))
    show (c x).bind _ = _
    rw [hc x (by simp), List.filter_cons]
    cases hp : p x with
    | true =>
      show (g x).bind _ = _
      rw [hg x (by simp) hp]
      show (mapF r c g).bind _ = _
      rw [ih]; rfl
    | false =>
      show mapF r c g = _
      rw [ih]; rfl
theorem mapT_ok (g : α → Option γ) (f : α → γ) (xs : List α) (hg : ∀ x ∈ xs, g x = some (f x)) : mapF xs (fun _ => some true) g = some (xs.map f) := by
  rw [mapF_ok (fun _ => some true) g (fun _ => true) f xs (fun _ _ => rfl) (fun x hx _ => hg x hx)]
  rw [List.filter_eq_self.mpr (fun _ _ => rfl)]
/-- the items that a test keeps -/
theorem mapC_ok (c : α → Option Bool) (p : α → Bool) (xs : List α) (hc : ∀ x ∈ xs, c x = some (p x)) : mapF xs c (fun x => some x) = some (xs.filter p) := by
  have := mapF_ok c (fun x => some x) p id xs hc (fun _ _ _ => rfl)
  rwa [List.map_id] at this
theorem mapE_inv (g : σ → α → Option (γ × σ)) (I : σ → Prop) (Q : γ → Prop) : ∀ (xs : List α) (s : σ), I s → (∀ s, I s → ∀ x ∈ xs, ∃ y s', g s x = some (y, s') ∧ Q y ∧ I s') → ∃ ys s', mapE xs s g = some (ys, s') ∧ ys.length = xs.length ∧ (∀ y ∈ ys, Q y) ∧ I s'
  | [], s, h, _ => ⟨[], s, rfl, rfl, by simp, h⟩
  | x :: r, s, h, hg => by
    obtain ⟨y, s1, e1, q1, h1⟩ := hg s h x (by simp)
    obtain ⟨ys, s2, e2, l2, q2, h2⟩ := mapE_inv g I Q r s1 h1 fun s hs z hz => hg s hs z (by simp [hz])
    refine ⟨y :: ys, s2, ?_, by simp [l2], ?_, h2⟩
    · show (g s x).bind _ = _
      rw [e1]
      show (mapE r s1 g).bind _ = _
      rw [e2]; rfl
    · intro z hz
      rcases List.mem_cons.mp hz with rfl | hz
      · exact q1
      · exact q2 z hz
def Wp (p : Option α) (Q : α → Prop) : Prop := ∃ z, p = some z ∧ Q z
theorem Wp.some {Q : α → Prop} {z : α} (q : Q z) : Wp (some z) Q := ⟨z, rfl, q⟩
theorem Wp.bind {p : Option α} {f : α → Option β} {Q : β → Prop} {R : α → Prop} (h : Wp p R) (h2 : ∀ z, R z → Wp (f z) Q) : Wp (p.bind f) Q := by
  obtain ⟨z, e, r⟩ := h
  rw [e]; exact h2 z r
theorem Wp.mono {p : Option α} {Q R : α → Prop} (h : Wp p Q) (i : ∀ z, Q z → R z) : Wp p R := ⟨h.choose, h.choose_spec.1, i _ h.choose_spec.2⟩
theorem Wp.get {p : Option α} {Q : α → Prop} (h : Wp p Q) {z : α} (e : p = Option.some z) : Q z := by
  obtain ⟨y, e1, q⟩ := h
  cases e1.symm.trans e
  exact q
theorem bs {α β : Type} (x : α) (f : α → Option β) : Option.bind (some x) f = f x := by rw [Option.bind_some]
theorem lenL_e {α : Type} (xs : List α) : lenL xs = some (xs.length : Int) := by unfold lenL; rfl
theorem addI_e (i j : Int) : addI i j = some (i + j) := by unfold addI; rfl
theorem ltI_e (i j : Int) : ltI i j = some (decide (i < j)) := by unfold ltI; rfl
theorem geI_e (i j : Int) : geI i j = some (decide (j ≤ i)) := by unfold geI; rfl
theorem intI_e (i : Int) : intI i = some i := by unfold intI; rfl
theorem intB_e (k : Bool) : intB k = some (if k then 1 else 0) := by unfold intB; rfl
theorem absI_e (i : Int) : absI i = some (if i < 0 then -i else i) := by unfold absI; rfl
theorem maxI2_e (i j : Int) : maxI2 i j = some (if j > i then j else i) := by unfold maxI2; rfl
theorem minI2_e (i j : Int) : minI2 i j = some (if j < i then j else i) := by unfold minI2; rfl
/-- the numbers 0 .. n-1 -/
def iot (n : Nat) : List Int := (List.range n).map fun i : Nat => (i : Int)
theorem iot_len (n : Nat) : (iot n).length = n := by unfold iot; simp
theorem mem_iot {n : Nat} {x : Int} : x ∈ iot n ↔ 0 ≤ x ∧ x < n := by
  unfold iot
  rw [List.mem_map]
  constructor
  · rintro ⟨k, hk, rfl⟩
    rw [List.mem_range] at hk
    omega
  · rintro ⟨h0, h1⟩
    exact ⟨x.toNat, List.mem_range.mpr (by omega), by omega⟩
theorem rgI0 (n : Nat) : rgI 0 n = iot n := by
  unfold rgI iot
  refine List.map_congr_left fun i _ => ?_
  omega
theorem ri1_ok (n : Int) (h : n ≤ 1000000) (h0 : 0 ≤ n) : ri1 n = some (iot n.toNat) := by
  unfold ri1
  rw [if_pos (by omega), rgI0]
theorem ri1_nat (n : Nat) (h : n ≤ 1000000) : ri1 (n : Int) = some (iot n) := by
  rw [ri1_ok _ (by omega) (by omega)]; rfl
theorem ixN_nat {n k : Nat} (h : k < n) : ixN n (k : Int) = some k := by
  unfold ixN
  rw [if_pos (by omega), if_pos (by omega)]; rfl
theorem atL_nat {xs : List α} {k : Nat} {x : α} (h : xs[k]? = some x) : atL xs (k : Int) = some x := by
  have hk : k < xs.length := (List.getElem?_eq_some_iff.mp h).1
  show atI xs _ = _
  unfold atI
  rw [ixN_nat hk]
  exact h
theorem atL_lt {xs : List α} {k : Nat} (h : k < xs.length) : atL xs (k : Int) = some xs[k] := atL_nat (List.getElem?_eq_getElem h)
theorem atL_int {xs : List α} {i : Int} (h0 : 0 ≤ i) (h1 : i < xs.length) : ∃ x, atL xs i = some x ∧ xs[i.toNat]? = some x ∧ x ∈ xs := by
  have hk : i.toNat < xs.length := by omega
  refine ⟨xs[i.toNat], ?_, List.getElem?_eq_getElem hk, List.getElem_mem hk⟩
  have := atL_lt hk
  rwa [show ((i.toNat : Nat) : Int) = i by omega] at this
theorem cap_ge {n : Nat} (h : n ≤ 100000) : n ≤ cap := by
  have : (100000 : Nat) ≤ cap := by decide
  omega
theorem apL_ok {xs : List α} (x : α) (h : xs.length ≤ 100000) : apL xs x = some (xs ++ [x]) := by
  unfold apL; rw [if_pos (cap_ge h)]
theorem catL_ok {xs ys : List α} (h : xs.length ≤ 100000) (h2 : ys.length ≤ 100000) : catL xs ys = some (xs ++ ys) := by
  unfold catL; rw [if_pos ⟨cap_ge h, cap_ge h2⟩]
theorem mapT_cap {α γ : Type} {g : α → Option γ} {xs : List α} (f : α → γ) (hl : xs.length ≤ 100000) (hg : ∀ x ∈ xs, g x = some (f x)) : (if List.length xs ≤ cap then mapF xs (fun _ => some true) g else none) = some (xs.map f) := by
  rw [if_pos (cap_ge hl)]; exact mapT_ok g f xs hg
theorem mapC_cap {α : Type} {c : α → Option Bool} {xs : List α} (p : α → Bool) (hl : xs.length ≤ 100000) (hc : ∀ x ∈ xs, c x = some (p x)) : (if List.length xs ≤ cap then mapF xs c (fun x => some x) else none) = some (xs.filter p) := by
  rw [if_pos (cap_ge hl)]; exact mapC_ok c p xs hc
theorem cut_len (xs : List α) (lo hi : Option Int) : (cutL xs lo hi).length ≤ xs.length := by
  unfold cutL
  simp only [List.length_take, List.length_drop]
  omega
end Lw
namespace P
open PySem PySem.Spec PyProof.Rows L2 Hb Nv
open Enc (enc)
end P
namespace Lw
open PySem Hb Nv L2 P
def Tap (t : List Int) : Prop := ∃ a b c : Int, t = [a, b, c] ∧ c.natAbs < 2 ^ 64
theorem at0 (a b c : Int) : atL [a, b, c] 0 = some a := rfl
theorem at1 (a b c : Int) : atL [a, b, c] 1 = some b := rfl
theorem at2 (a b c : Int) : atL [a, b, c] 2 = some c := rfl
theorem st0 (a b c v : Int) : Nv.stI [a, b, c] 0 v = some [v, b, c] := rfl
theorem st1 (a b c v : Int) : Nv.stI [a, b, c] 1 v = some [a, v, c] := rfl
theorem st2 (a b c v : Int) : Nv.stI [a, b, c] 2 v = some [a, b, v] := rfl
theorem pow18 : powW 10 18 = some 1000000000000000000 := by
  unfold powW; rw [if_pos (by decide)]; rfl
theorem modI_ok (i : Int) {j : Int} (h : 0 < j) : modI i j = some (i % j) := by unfold modI; rw [if_pos h]
theorem fdivW_ok (i : Int) {j : Int} (h : 0 < j) (h2 : j < 2 ^ 1000) : fdivW i j = some (i / j) := by unfold fdivW; rw [if_pos ⟨h, h2⟩]
theorem mulI_l (i j : Int) (h : i.natAbs < 2 ^ 64) : mulI i j = some (i * j) := by unfold mulI; rw [if_pos (.inl h)]
theorem mulI_r (i j : Int) (h : j.natAbs < 2 ^ 64) : mulI i j = some (i * j) := by unfold mulI; rw [if_pos (.inr h)]
theorem draw_ok {t : List Int} (ht : Tap t) {n : Int} (h0 : 0 < n) (h1 : n ≤ 1000000000) : Wp (n__law_draw t n) fun z => Tap z.2 ∧ 0 ≤ z.1 ∧ z.1 < n := by
  obtain ⟨a, b, c, rfl, hc⟩ := ht
  have hn : n < 2 ^ 1000 := Int.lt_of_le_of_lt h1 (by decide)
  by_cases q : a ≥ 1000000000000000000
  · refine ⟨(a % n, [a / n, b, c]), ?_, ⟨_, _, _, rfl, hc⟩, Int.emod_nonneg _ (by omega), Int.emod_lt_of_pos _ h0⟩
    unfold n__law_draw
    simp only [bs, at0, pow18, geI_e, intI_e, modI_ok _ h0, fdivW_ok _ h0 hn, st0]
    rw [if_pos (decide_eq_true q)]
  · have e1 : ∀ x : Int, modI x 4294967291 = some (x % 4294967291) := fun x => modI_ok x (by decide)
    have e2 : ∀ x : Int, modI x 2147483587 = some (x % 2147483587) := fun x => modI_ok x (by decide)
    have e3 : ∀ x : Int, fdivW x 32 = some (x / 32) := fun x => fdivW_ok x (by decide) (by decide)
    have e4 : ∀ x : Int, fdivW x 16 = some (x / 16) := fun x => fdivW_ok x (by decide) (by decide)
    have e5 : mulI b 69069 = some (b * 69069) := mulI_r _ _ (by decide)
    have e6 : mulI c c = some (c * c) := mulI_l _ _ hc
    have h1 := Int.emod_nonneg (c * c + (b * 69069 + 40503) % 4294967291) (show (2147483587 : Int) ≠ 0 by decide)
    have h2 := Int.emod_lt_of_pos (c * c + (b * 69069 + 40503) % 4294967291) (show (0 : Int) < 2147483587 by decide)
    have h3 : (2147483587 : Nat) < 2 ^ 64 := by decide
    refine ⟨(((b * 69069 + 40503) % 4294967291 / 32 + (c * c + (b * 69069 + 40503) % 4294967291) % 2147483587 / 16) % n, [a, (b * 69069 + 40503) % 4294967291, (c * c + (b * 69069 + 40503) % 4294967291) % 2147483587]), ?_, ⟨_, _, _, rfl, by omega⟩, Int.emod_nonneg _ (Int.ne_of_gt h0), Int.emod_lt_of_pos _ h0⟩
    unfold n__law_draw
    simp only [bs, at0, at1, at2, pow18, geI_e, intI_e, addI_e, e1, e2, e3, e4, e5, e6, modI_ok _ h0, st0, st1, st2]
    rw [if_neg (by rw [decide_eq_true_eq]; exact q)]
theorem tap_ok (c k : Int) (h0 : 0 ≤ k) (h1 : k ≤ 1000) : Wp (n__law_tap c k) Tap := by
  have e0 : ∀ x : Int, mulI 2 x = some (2 * x) := fun x => mulI_l _ _ (by decide)
  have e1 : ∀ x : Int, modI x 4294967291 = some (x % 4294967291) := fun x => modI_ok x (by decide)
  have e2 : ∀ x : Int, modI x 2147483587 = some (x % 2147483587) := fun x => modI_ok x (by decide)
  have e5 : mulI 977 k = some (977 * k) := mulI_l _ _ (by decide)
  have e6 : mulI 31 k = some (31 * k) := mulI_l _ _ (by decide)
  obtain ⟨w, hw⟩ : ∃ w : Int, (2 * (if c < 0 then -c else c) + if decide (c < 0) = true then (1 : Int) else 0) = w := ⟨_, rfl⟩
  have h2 := Int.emod_nonneg w (show (2147483587 : Int) ≠ 0 by decide)
  have h3 := Int.emod_lt_of_pos w (show (0 : Int) < 2147483587 by decide)
  have h4 : (3147483587 : Nat) < 2 ^ 64 := by decide
  refine ⟨[w, w % 4294967291 + 977 * k + 1, w % 2147483587 + 31 * k + 2], ?_, ⟨_, _, _, rfl, by omega⟩⟩
  unfold n__law_tap
  simp only [bs, absI_e, ltI_e, intB_e, intI_e, addI_e, e0, e1, e2, e5, e6, hw]
def Row (n : Nat) (r : List Int) : Prop := r.Perm (iot n)
theorem Row.len {n : Nat} {r : List Int} (h : Row n r) : r.length = n := by rw [List.Perm.length_eq h, iot_len]
theorem cells_ok {ms : List Int} (hl : ms.length ≤ 63) (m : Int) : Wp (n__law_cells ms m) fun cs => cs.length ≤ 64 := by
  unfold n__law_cells
  simp only [bs, lenL_e, minI2_e, maxI2_e, catL_ok (xs := ms) (ys := [(0 : Int)]) (by omega) (by simp)]
  refine .some (Nat.le_trans (cut_len _ _ _) ?_)
  simp; omega
end Lw
namespace P
open PySem PySem.Spec PyProof.Rows L2 Hb Nv
open Enc (enc)
end P
namespace P
open PySem PySem.Spec PyProof.Rows L2 Hb Nv
open Enc (enc)
end P
namespace P
open PySem PySem.Spec PyProof.Rows L2 Hb Nv
open Enc (enc)
end P
namespace P
open PySem PySem.Spec PyProof.Rows L2 Hb Nv
open Enc (enc)
end P
namespace Lw
open PySem Hb Nv L2 P
/-- where x stands -/
def pos (r : List Int) (x : Int) : Int := (r.idxOf x : Nat)
/-- what stands at k -/
def pat (r : List Int) (k : Int) : Int := (r[k.toNat]?).getD 0
theorem pos_nn (r : List Int) (x : Int) : 0 ≤ pos r x := by unfold pos; omega
theorem pos_lt {r : List Int} {x : Int} (h : x ∈ r) : pos r x < r.length := by
  have := List.idxOf_lt_length_of_mem h
  unfold pos; omega
theorem get_pos {r : List Int} {x : Int} (h : x ∈ r) : r[r.idxOf x]? = some x := by
  have hl := List.idxOf_lt_length_of_mem h
  rw [List.getElem?_eq_getElem hl, List.getElem_idxOf]
theorem pat_get {r : List Int} {k : Nat} {x : Int} (h : r[k]? = some x) : pat r (k : Int) = x := by
  unfold pat
  rw [show ((k : Int)).toNat = k by omega, h]; rfl
theorem pat_pos {r : List Int} {x : Int} (h : x ∈ r) : pat r (pos r x) = x := pat_get (get_pos h)
def fl : Int → Int → List Int → Bool
  | _, _, [] => true
  | lo, hi, x :: r => if x = lo - 1 then fl (lo - 1) hi r else if x = hi + 1 then fl lo (hi + 1) r else false
end Lw
namespace Lw
open PySem Hb Nv L2 P
end Lw
namespace Lw
open PySem Hb Nv L2 P
/-- the last first: what stands before is between -/
inductive Dn : Int → Int → List Int → Prop
  | one (x : Int) : Dn x x [x]
  | lo {lo hi : Int} {q : List Int} : Dn (lo + 1) hi q → Dn lo hi (lo :: q)
  | hi {lo hi : Int} {q : List Int} : Dn lo (hi - 1) q → Dn lo hi (hi :: q)
theorem Dn.ne {lo hi : Int} {q : List Int} (h : Dn lo hi q) : q ≠ [] := by cases h <;> simp
end Lw
namespace P
open PySem PySem.Spec PyProof.Rows L2 Hb Nv
open Enc (enc)
end P
namespace P
open PySem PySem.Spec PyProof.Rows L2 Hb Nv
open Enc (enc)
end P
namespace Lw
open PySem Hb Nv L2 P
end Lw
namespace P
open PySem PySem.Spec PyProof.Rows L2 Hb Nv
open Enc (enc)
end P
namespace P
open PySem PySem.Spec PyProof.Rows L2 Hb Nv
open Enc (enc)
end P
namespace Lw
open PySem Hb Nv L2 P
/-- the row with the two at k and k+1 exchanged -/
def ex2 (r : List Int) (k : Nat) : List Int := r.take k ++ [pat r ((k : Int) + 1), pat r (k : Int)] ++ r.drop (k + 2)
end Lw
namespace P
open PySem PySem.Spec PyProof.Rows L2 Hb Nv
open Enc (enc)
end P
namespace P
open PySem PySem.Spec PyProof.Rows L2 Hb Nv
open Enc (enc)
end P
namespace P
open PySem PySem.Spec PyProof.Rows L2 Hb Nv
open Enc (enc)
end P
namespace P
open PySem PySem.Spec PyProof.Rows L2 Hb Nv
open Enc (enc)
end P
namespace P
open PySem PySem.Spec PyProof.Rows L2 Hb Nv
open Enc (enc)
end P
namespace P
open PySem PySem.Spec PyProof.Rows L2 Hb Nv
open Enc (enc)
end P
namespace P
open PySem PySem.Spec PyProof.Rows L2 Hb Nv
open Enc (enc)
end P
namespace Lw
open PySem Hb Nv L2 P
open Enc (enc)
/-- a value whose lists are not too long -/
def Sml (d : PyData) : Prop := ∀ ds, d = .list ds → ds.length ≤ 100000
end Lw
namespace P
open PySem PySem.Spec PyProof.Rows L2 Hb Nv
open Enc (enc)
end P
namespace P
open PySem PySem.Spec PyProof.Rows L2 Hb Nv
open Enc (enc)
end P
namespace Lw
open PySem Hb Nv L2 P
open Enc (enc)
def cnt (f : Int → Int → Bool) : List Int → Nat
  | [] => 0
  | x :: l => l.countP (f x) + cnt f l
end Lw
namespace P
open PySem PySem.Spec PyProof.Rows L2 Hb Nv
open Enc (enc)
end P
namespace P
open PySem PySem.Spec PyProof.Rows L2 Hb Nv
open Enc (enc)
end P
namespace Lw
open PySem Hb Nv L2 P
open Enc (enc)
def Okv (v : PyData) : Prop := ∀ ds, v = .list ds → ds.length ≤ 100000 ∧ ∀ d ∈ ds, Sml d
end Lw
namespace Lw
open PySem Hb Nv L2 P
open Enc (enc)
structure Vd (D W : Nat) (d : PyData) : Prop where
  hs : shw d = true
  hl : d.leavesShort 13 = true
  hd : d.depth ≤ D
  hw : d.weight ≤ W
structure Va (D W : Nat) (xs : List PyData) : Prop where
  s : shwAll xs = true
  l : PyData.leavesShortAll 13 xs = true
  d : PyData.depthAll xs ≤ D
  w : PyData.weightAll xs ≤ W
theorem Vd.mono {D W D' W' : Nat} {d : PyData} (h : Vd D W d) (h1 : D ≤ D') (h2 : W ≤ W') : Vd D' W' d := ⟨h.hs, h.hl, Nat.le_trans h.hd h1, Nat.le_trans h.hw h2⟩
theorem Va.mono {D W D' W' : Nat} {d : List PyData} (h : Va D W d) (h1 : D ≤ D') (h2 : W ≤ W') : Va D' W' d := ⟨h.s, h.l, Nat.le_trans h.d h1, Nat.le_trans h.w h2⟩
theorem Va.nil : Va 0 0 [] := ⟨by simp [shwAll], by simp [PyData.leavesShortAll], by simp [PyData.depthAll], by simp [PyData.weightAll]⟩
theorem Va.cons {D W W' : Nat} {x : PyData} {xs : List PyData} (h : Vd D W x) (h' : Va D W' xs) : Va D (W + 1 + W') (x :: xs) := by
  have a1 := h.hd
  have a2 := h.hw
  have a3 := h'.d
  have a4 := h'.w
  exact ⟨by simp [shwAll, h.hs, h'.s], by simp [PyData.leavesShortAll, h.hl, h'.l], by simp only [PyData.depthAll]; omega, by simp only [PyData.weightAll]; omega⟩
theorem shw_app : ∀ xs ys : List PyData, shwAll (xs ++ ys) = (shwAll xs && shwAll ys)
  | [], ys => by simp [shwAll]
  | x :: r, ys => by simp [shwAll, shw_app r ys, Bool.and_assoc]
theorem lsh_app : ∀ xs ys : List PyData, PyData.leavesShortAll 13 (xs ++ ys) = (PyData.leavesShortAll 13 xs && PyData.leavesShortAll 13 ys)
  | [], ys => by simp [PyData.leavesShortAll]
  | x :: r, ys => by simp [PyData.leavesShortAll, lsh_app r ys, Bool.and_assoc]
theorem dep_app : ∀ xs ys : List PyData, PyData.depthAll (xs ++ ys) = max (PyData.depthAll xs) (PyData.depthAll ys)
  | [], ys => by simp [PyData.depthAll]
  | x :: r, ys => by simp [PyData.depthAll, dep_app r ys, Nat.max_assoc]
theorem wei_app : ∀ xs ys : List PyData, PyData.weightAll (xs ++ ys) = PyData.weightAll xs + PyData.weightAll ys
  | [], ys => by simp [PyData.weightAll]
  | x :: r, ys => by simp [PyData.weightAll, wei_app r ys, Nat.add_assoc]
theorem Va.app {D W W' : Nat} {xs ys : List PyData} (h : Va D W xs) (h' : Va D W' ys) : Va D (W + W') (xs ++ ys) := by
  refine ⟨by rw [shw_app, h.s, h'.s]; rfl, by rw [lsh_app, h.l, h'.l]; rfl, ?_, ?_⟩
  · rw [dep_app]
    have h1 := h.d
    have h2 := h'.d
    omega
  · rw [wei_app]
    exact Nat.add_le_add h.w h'.w
theorem Va.list {D W : Nat} {xs : List PyData} (h : Va D W xs) : Vd (D + 1) W (.list xs) := by
  obtain ⟨h1, h2, h3, h4⟩ := h
  exact ⟨by simpa [shw] using h1, by simpa [PyData.leavesShort] using h2, by simp only [PyData.depth]; omega, by simpa only [PyData.weight] using h4⟩
theorem Va.tup {D W : Nat} {xs : List PyData} (h : Va D W xs) : Vd (D + 1) W (.tuple xs) := by
  obtain ⟨h1, h2, h3, h4⟩ := h
  exact ⟨by simpa [shw] using h1, by simpa [PyData.leavesShort] using h2, by simp only [PyData.depth]; omega, by simpa only [PyData.weight] using h4⟩
end Lw
namespace P
open PySem PySem.Spec PyProof.Rows L2 Hb Nv
open Enc (enc)
end P
namespace Lw
open PySem Hb Nv L2 P
open Enc (enc)
/-- a value to be judged -/
def Val (W : Nat) (d : PyData) : Prop := Okv d ∧ Vd 4 W d
theorem Val.mono {W W' : Nat} {d : PyData} (h : Val W d) (hw : W ≤ W') : Val W' d := ⟨h.1, h.2.mono (Nat.le_refl _) hw⟩
end Lw
namespace P
open PySem PySem.Spec PyProof.Rows L2 Hb Nv
open Enc (enc)
end P
namespace P
open PySem PySem.Spec PyProof.Rows L2 Hb Nv
open Enc (enc)
end P
namespace P
open PySem PySem.Spec PyProof.Rows L2 Hb Nv
open Enc (enc)
end P
namespace P
open PySem PySem.Spec PyProof.Rows L2 Hb Nv
open Enc (enc)
end P
namespace P
open PySem PySem.Spec PyProof.Rows L2 Hb Nv
open Enc (enc)
end P
namespace P
open PySem PySem.Spec PyProof.Rows L2 Hb Nv
open Enc (enc)
end P
namespace P
open PySem PySem.Spec PyProof.Rows L2 Hb Nv
open Enc (enc)
end P
namespace P
open PySem PySem.Spec PyProof.Rows L2 Hb Nv
open Enc (enc)
end P
namespace Lw
open PySem Hb Nv L2 P
open Enc (enc)
variable {α β γ σ ρ ζ : Type}
theorem forS_fm {b : List γ → α → Option (List γ)} (F : α → List γ) {N : Nat} : ∀ {xs : List α} {s : List γ}, (∀ s, ∀ x ∈ xs, s.length ≤ N → b s x = some (s ++ F x)) → s.length + (xs.flatMap F).length ≤ N → forS xs s b = some (s ++ xs.flatMap F)
  | [], s, _, _ => by rw [List.flatMap_nil, List.append_nil]; rfl
  | x :: r, s, h, hl => by
    rw [List.flatMap_cons, List.length_append] at hl
    show (b s x).bind _ = _
    rw [h s x (by simp) (by omega), List.flatMap_cons, ← List.append_assoc]
    exact forS_fm F (fun s y hy => h s y (by simp [hy])) (by rw [List.length_append]; omega)
/-- the pairs (lesser first) of which D holds -/
def prsF (D : Int → Int → Bool) (a b : Int) : List (Int × Int) := if decide (a < b) && D a b then [(a, b)] else []
def prs (D : Int → Int → Bool) (n : Nat) : List (Int × Int) := (iot n).flatMap fun a => (iot n).flatMap fun b => prsF D a b
end Lw
namespace P
open PySem PySem.Spec PyProof.Rows L2 Hb Nv
open Enc (enc)
end P
namespace P
open PySem PySem.Spec PyProof.Rows L2 Hb Nv
open Enc (enc)
end P
namespace P
open PySem PySem.Spec PyProof.Rows L2 Hb Nv
open Enc (enc)
end P
namespace P
open PySem PySem.Spec PyProof.Rows L2 Hb Nv
open Enc (enc)
end P
namespace P
open PySem PySem.Spec PyProof.Rows L2 Hb Nv
open Enc (enc)
end P
namespace Lw
open PySem Hb Nv L2 P
def Well (K : Int) (t : List Int) : Prop := ∃ a b c : Int, t = [a, b, c] ∧ 0 ≤ b ∧ b < 10 ^ 33 ∧ 0 ≤ c ∧ c ≤ K
theorem Well.mono {K K' : Int} {t : List Int} (h : Well K t) (l : K ≤ K') : Well K' t := by
  obtain ⟨a, b, c, e, h1, h2, h3, h4⟩ := h
  exact ⟨a, b, c, e, h1, h2, h3, by omega⟩
end Lw
namespace P
open PySem PySem.Spec PyProof.Rows L2 Hb Nv
open Enc (enc)
end P
namespace P
open PySem PySem.Spec PyProof.Rows L2 Hb Nv
open Enc (enc)
end P
namespace P
open PySem PySem.Spec PyProof.Rows L2 Hb Nv
open Enc (enc)
end P
namespace P
open PySem PySem.Spec PyProof.Rows L2 Hb Nv
open Enc (enc)
end P
namespace P
open PySem PySem.Spec PyProof.Rows L2 Hb Nv
open Enc (enc)
end P
namespace Lw
open PySem Hb Nv L2 P
open Enc (enc)
variable {α β γ σ ρ ζ : Type}
def ext (n : Nat) (f : List (List Int)) : List (List Int) := f.flatMap fun r => ((iot n).filter fun x => !decide (x ∈ r)).map fun x => r ++ [x]
end Lw
namespace P
open PySem PySem.Spec PyProof.Rows L2 Hb Nv
open Enc (enc)
end P
namespace P
open PySem PySem.Spec PyProof.Rows L2 Hb Nv
open Enc (enc)
end P
namespace P
open PySem PySem.Spec PyProof.Rows L2 Hb Nv
open Enc (enc)
end P
namespace Lw
open PySem Hb Nv L2 P
end Lw
namespace P
open PySem PySem.Spec PyProof.Rows L2 Hb Nv
open Enc (enc)
end P
namespace Lw
open PySem Hb Nv L2 P
open Enc (enc)
/-- the weight at a place that the test wants -/
def wsI (q : Int → Bool) : List (Int × Int) → Int
  | [] => 0
  | z :: r => (if q z.1 = true then z.2 else 0) + wsI q r
def A (z : List (Int × Int)) (k : Int) : Int := wsI (fun x => decide (x < k)) z
end Lw
namespace P
open PySem PySem.Spec PyProof.Rows L2 Hb Nv
open Enc (enc)
end P
namespace P
open PySem PySem.Spec PyProof.Rows L2 Hb Nv
open Enc (enc)
end P
namespace P
open PySem PySem.Spec PyProof.Rows L2 Hb Nv
open Enc (enc)
end P
namespace P
open PySem PySem.Spec PyProof.Rows L2 Hb Nv
open Enc (enc)
end P
namespace Lw
open PySem Hb Nv L2 P
open Enc (enc)
structure Vb (D W : Nat) (d : PyData) : Prop where
  hs : shw d = true
  hl : d.leavesShort 40 = true
  hd : d.depth ≤ D
  hw : d.bulk ≤ W
theorem Vb.mono {D W D' W' : Nat} {d : PyData} (h : Vb D W d) (h1 : D ≤ D') (h2 : W ≤ W') : Vb D' W' d := ⟨h.hs, h.hl, Nat.le_trans h.hd h1, Nat.le_trans h.hw h2⟩
theorem vb_int {i : Int} (h0 : 0 ≤ i) (h1 : i < 10 ^ 40) : Vb 0 0 (.int i) := by
  refine ⟨?_, ?_, by simp [PyData.depth], by simp [PyData.bulk]⟩
  · show decide _ = true
    refine decide_eq_true ?_
    by_cases c : i.natAbs = 0
    · rw [c]; decide
    · rw [Nat.log2_lt c]
      have : (10 : Nat) ^ 40 < 2 ^ 1920 := by decide
      omega
  · show decide _ = true
    exact decide_eq_true (PyProof.Rows.toString_length_le h0 (by omega) h1)
end Lw
namespace Lw.Er
open PySem Hb Nv L2 P Lw
open Enc (enc)
variable {α : Type}
/-- small enough to be walked and shown -/
def tameB (v : PyData) : Bool := shw v && (v.leavesShort 50 && (decide (v.depth ≤ 5) && decide (v.bulk ≤ 2000)))
structure Tame (v : PyData) : Prop where
  hs : shw v = true
  hl : v.leavesShort 50 = true
  hd : v.depth ≤ 5
  hw : v.bulk ≤ 2000
theorem tameB_ok {v : PyData} (h : tameB v = true) : Tame v := by
  unfold tameB at h
  simp only [Bool.and_eq_true, decide_eq_true_eq] at h
  exact ⟨h.1, h.2.1, h.2.2.1, h.2.2.2⟩
end Lw.Er
namespace Lw.Er
open PySem Hb Nv L2 P Lw
open Enc (enc)
mutual
theorem short_more : ∀ d : PyData, d.leavesShort 40 = true → d.leavesShort 50 = true
  | .none, _ => rfl
  | .bool _, _ => rfl
  | .int i, h => by
    simp only [PyData.leavesShort, decide_eq_true_eq] at h ⊢
    omega
  | .str x, h => by simpa only [PyData.leavesShort] using h
  | .list xs, h => by
    simp only [PyData.leavesShort] at h ⊢
    exact shortAll_more xs h
  | .tuple xs, h => by
    simp only [PyData.leavesShort] at h ⊢
    exact shortAll_more xs h
  | .dict kvs, h => by
    simp only [PyData.leavesShort] at h ⊢
    exact shortKv_more kvs h
theorem shortAll_more : ∀ xs : List PyData, PyData.leavesShortAll 40 xs = true → PyData.leavesShortAll 50 xs = true
  | [], _ => rfl
  | x :: r, h => by
    simp only [PyData.leavesShortAll, Bool.and_eq_true] at h ⊢
    exact ⟨short_more x h.1, shortAll_more r h.2⟩
theorem shortKv_more : ∀ kvs : List (PyData × PyData), PyData.leavesShortKv 40 kvs = true → PyData.leavesShortKv 50 kvs = true
  | [], _ => rfl
  | (k, v) :: r, h => by
    simp only [PyData.leavesShortKv, Bool.and_eq_true] at h ⊢
    exact ⟨⟨short_more k h.1.1, short_more v h.1.2⟩, shortKv_more r h.2⟩
end
theorem tame_vb {D W : Nat} {v : PyData} (h : Vb D W v) (hD : D ≤ 5) (hW : W ≤ 2000) : Tame v := ⟨h.hs, short_more v h.hl, Nat.le_trans h.hd hD, Nat.le_trans h.hw hW⟩
theorem tame_int {i : Int} (h0 : 0 ≤ i) (h1 : i < 10 ^ 40) : Tame (enc i) := tame_vb (vb_int h0 h1) (by omega) (by omega)
theorem tame_none : Tame .none := tameB_ok (by decide +kernel)
end Lw.Er
namespace P
open PySem PySem.Spec PyProof.Rows L2 Hb Nv
open Enc (enc)
end P
namespace P
open PySem PySem.Spec PyProof.Rows L2 Hb Nv
open Enc (enc)
end P
namespace P
open PySem PySem.Spec PyProof.Rows L2 Hb Nv
open Enc (enc)
end P
namespace P
open PySem PySem.Spec PyProof.Rows L2 Hb Nv
open Enc (enc)
end P
namespace P
open PySem PySem.Spec PyProof.Rows L2 Hb Nv
open Enc (enc)
end P
namespace P
open PySem PySem.Spec PyProof.Rows L2 Hb Nv
open Enc (enc)
end P
namespace P
open PySem PySem.Spec PyProof.Rows L2 Hb Nv
open Enc (enc)
end P
namespace P
open PySem PySem.Spec PyProof.Rows L2 Hb Nv
open Enc (enc)
end P
namespace P
open PySem PySem.Spec PyProof.Rows L2 Hb Nv
open Enc (enc)
end P
namespace P
open PySem PySem.Spec PyProof.Rows L2 Hb Nv
open Enc (enc)
end P
namespace P
open PySem PySem.Spec PyProof.Rows L2 Hb Nv
open Enc (enc)
end P
namespace P
open PySem PySem.Spec PyProof.Rows L2 Hb Nv
open Enc (enc)
end P
namespace P
open PySem PySem.Spec PyProof.Rows L2 Hb Nv
open Enc (enc)
end P
namespace Lw
open PySem Hb Nv L2 P
open Enc (enc)
end Lw
namespace Lw
open PySem Hb Nv L2 P
open Enc (enc)
abbrev TI := T3 Int Int Int
def leA (u v : TI) : Bool := decide (u.a ≤ v.a)
/-- the sides of a stretch -/
def sid (p : List Int) (n lo hi : Int) : List TI := (if 0 < lo then [⟨pat p (lo - 1), lo - 1, hi⟩] else []) ++ (if hi + 1 < n then [⟨pat p (hi + 1), lo, hi + 1⟩] else [])
def nxt (p : List Int) (n lo hi : Int) : List TI := (sid p n lo hi).mergeSort leA
variable {n : Nat} {p : List Int}
/-- all ways on, in their order -/
def sl (p : List Int) (n : Int) : Nat → Int → Int → List (List Int)
  | 0, _, _ => [[]]
  | k + 1, lo, hi => (nxt p n lo hi).flatMap fun t => (sl p n k t.b t.c).map (t.a :: ·)
end Lw
namespace Lw
open PySem Hb Nv L2 P
open Enc (enc)
end Lw
namespace P
open PySem PySem.Spec PyProof.Rows L2 Hb Nv
open Enc (enc)
end P
namespace Lw
open PySem Hb Nv L2 P
end Lw
namespace P
open PySem PySem.Spec PyProof.Rows L2 Hb Nv
open Enc (enc)
end P
namespace Lw
open PySem Hb Nv L2 P
open Enc (enc)
variable {α β γ σ ρ ζ : Type}
/-- a table by its places -/
def tab (n : Nat) (T : Int → Int → Int) : List (List Int) := (iot n).map fun a => (iot n).map (T a)
end Lw
namespace P
open PySem PySem.Spec PyProof.Rows L2 Hb Nv
open Enc (enc)
end P
namespace P
open PySem PySem.Spec PyProof.Rows L2 Hb Nv
open Enc (enc)
end P
namespace P
open PySem PySem.Spec PyProof.Rows L2 Hb Nv
open Enc (enc)
end P
namespace P
open PySem PySem.Spec PyProof.Rows L2 Hb Nv
open Enc (enc)
end P
namespace P
open PySem PySem.Spec PyProof.Rows L2 Hb Nv
open Enc (enc)
end P
namespace P
open PySem PySem.Spec PyProof.Rows L2 Hb Nv
open Enc (enc)
end P
namespace P
open PySem PySem.Spec PyProof.Rows L2 Hb Nv
open Enc (enc)
end P
namespace P
open PySem PySem.Spec PyProof.Rows L2 Hb Nv
open Enc (enc)
end P
namespace P
open PySem PySem.Spec PyProof.Rows L2 Hb Nv
open Enc (enc)
end P
namespace P
open PySem PySem.Spec PyProof.Rows L2 Hb Nv
open Enc (enc)
end P
namespace Lw
open PySem Hb Nv L2 P
open Enc (enc)
end Lw
namespace Lw
open PySem Hb Nv L2 P
open Enc (enc)
end Lw
namespace Lw
open PySem Hb Nv L2 P
open Enc (enc)
end Lw
namespace Lw
open PySem Hb Nv L2 P
open Enc (enc)
end Lw
namespace Lw
open PySem Hb Nv L2 P
open Enc (enc)
variable {n : Nat} {p : List Int}
abbrev TR := T3 (List Int) Int Int
def g1 (p : List Int) (n : Nat) : List TR := (iot n).map fun x => ⟨[pat p x], x, x⟩
end Lw
namespace Lw
section
variable {π : Type}
/-- how many of the pairs are seen otherwise -/
def dst (P : List π) (u v : π → Bool) : Nat := P.countP fun p => u p != v p
def Alk (P : List π) (u v : π → Bool) : Prop := ∀ p ∈ P, u p = v p
def Once (P : List π) (g : Nat → π → Bool) (m : Nat) : Prop := ∀ i j k, i ≤ j → j ≤ k → k < m → ∀ p ∈ P, g i p = g k p → g j p = g i p
theorem count_le {q r : π → Bool} : ∀ {P : List π}, (∀ p ∈ P, q p = true → r p = true) → P.countP q ≤ P.countP r := fun h => List.countP_mono_left h
variable {P : List π}
theorem Alk.symm {u v : π → Bool} (h : Alk P u v) : Alk P v u := fun p hp => (h p hp).symm
theorem Alk.trans {u v w : π → Bool} (h : Alk P u v) (h2 : Alk P v w) : Alk P u w := fun p hp => (h p hp).trans (h2 p hp)
theorem Alk.refl (u : π → Bool) : Alk P u u := fun _ _ => rfl
/-- what v differs in, w differs in, too -/
def Sub (P : List π) (e u v : π → Bool) : Prop := ∀ p ∈ P, e p ≠ u p → e p ≠ v p
theorem Sub.le {e u v : π → Bool} (h : Sub P e u v) : dst P e u ≤ dst P e v := count_le fun p hp q => by
  have := h p hp
  simp only [bne_iff_ne] at q ⊢
  exact this q
/-- nested by the distance from e -/
def Nest (P : List π) (e : π → Bool) (f : Nat → π → Bool) (m : Nat) : Prop := ∀ a b, a < m → b < m → dst P e (f a) ≤ dst P e (f b) → Sub P e (f a) (f b)
end
end Lw
namespace P
open PySem PySem.Spec PyProof.Rows L2 Hb Nv
open Enc (enc)
end P
namespace P
open PySem PySem.Spec PyProof.Rows L2 Hb Nv
open Enc (enc)
end P
namespace P
open PySem PySem.Spec PyProof.Rows L2 Hb Nv
open Enc (enc)
end P
namespace P
open PySem PySem.Spec PyProof.Rows L2 Hb Nv
open Enc (enc)
end P
namespace P
open PySem PySem.Spec PyProof.Rows L2 Hb Nv
open Enc (enc)
end P
namespace Lw
open PySem Hb Nv L2 P
open Enc (enc)
variable {n : Nat} {f : List (List Int)}
def pairs (n : Nat) : List (Int × Int) := prs (fun _ _ => true) n
def sd (r : List Int) (p : Int × Int) : Bool := decide (pos r p.1 < pos r p.2)
theorem mem_pairs {n : Nat} {p : Int × Int} : p ∈ pairs n ↔ (0 ≤ p.1 ∧ p.1 < n) ∧ (0 ≤ p.2 ∧ p.2 < n) ∧ p.1 < p.2 := by
  unfold pairs prs
  rw [List.mem_flatMap]
  constructor
  · rintro ⟨a, ha, h⟩
    obtain ⟨b, hb, h⟩ := List.mem_flatMap.mp h
    unfold prsF at h
    rw [Bool.and_true] at h
    split at h
    · rename_i c
      have c := of_decide_eq_true c
      rw [List.mem_singleton] at h
      subst h
      exact ⟨mem_iot.mp ha, mem_iot.mp hb, c⟩
    · cases h
  · rintro ⟨ha, hb, h⟩
    refine ⟨p.1, mem_iot.mpr ha, List.mem_flatMap.mpr ⟨p.2, mem_iot.mpr hb, ?_⟩⟩
    unfold prsF
    rw [Bool.and_true, if_pos (by simpa using h)]
    simp
/-- the ballot of an index -/
def ath (f : List (List Int)) (i : Int) : List Int := f.getD i.toNat []
end Lw
namespace Lw
open PySem Hb Nv L2 P
open Enc (enc)
variable {n : Nat} {f : List (List Int)}
/-- how far the ballot of an index is -/
def farI (n : Nat) (e : List Int) (f : List (List Int)) (i : Int) : Int := (dst (pairs n) (sd e) (sd (ath f i)) : Int)
end Lw
namespace P
open PySem PySem.Spec PyProof.Rows L2 Hb Nv
open Enc (enc)
end P
namespace Lw
open PySem Hb Nv L2 P
open Enc (enc)
variable {n : Nat} {f : List (List Int)}
/-- nested by the distance from e -/
def Chn (n : Nat) (f : List (List Int)) (e : List Int) : Prop := Nest (pairs n) (sd e) (fun j => sd (ath f (j : Int))) f.length
theorem Chn.get {e : List Int} (h : Chn n f e) {a b : Int} (a0 : 0 ≤ a) (a1 : a < f.length) (b0 : 0 ≤ b) (b1 : b < f.length) (l : farI n e f a ≤ farI n e f b) : Sub (pairs n) (sd e) (sd (ath f a)) (sd (ath f b)) := by
  have := h a.toNat b.toNat (by omega) (by omega)
  simp only [Int.toNat_of_nonneg a0, Int.toNat_of_nonneg b0] at this
  exact this (by unfold farI at l; omega)
variable {w : List Int}
end Lw
namespace P
open PySem PySem.Spec PyProof.Rows L2 Hb Nv
open Enc (enc)
end P
namespace Lw
open PySem Hb Nv L2 P
open Enc (enc)
variable {n : Nat} {f : List (List Int)} {w : List Int}
/-- a sequence of all indices along which each pair turns at most once -/
def Turn (n : Nat) (f : List (List Int)) (σ : List Int) : Prop := σ.Perm (iot f.length) ∧ Once (pairs n) (fun t => sd (ath f (pat σ (t : Int)))) f.length
theorem Turn.len {σ : List Int} (h : Turn n f σ) : σ.length = f.length := by rw [h.1.length_eq, iot_len]
theorem Turn.at_ {σ : List Int} (h : Turn n f σ) {i : Int} (h0 : 0 ≤ i) (h1 : i < f.length) : ∃ t : Nat, t < f.length ∧ pat σ (t : Int) = i := by
  have hi := h.1.mem_iff.mpr (mem_iot.mpr ⟨h0, h1⟩)
  have hl := pos_lt hi
  have hn := pos_nn σ i
  rw [h.len] at hl
  refine ⟨(pos σ i).toNat, by omega, ?_⟩
  rw [Int.toNat_of_nonneg hn]
  exact pat_pos hi
end Lw
namespace Lw
open PySem Hb Nv L2 P
open Enc (enc)
end Lw
namespace P
open PySem PySem.Spec PyProof.Rows L2 Hb Nv
open Enc (enc)
end P
namespace P
open PySem PySem.Spec PyProof.Rows L2 Hb Nv
open Enc (enc)
end P
namespace Lw
open PySem Hb Nv L2 P
open Enc (enc)
variable {n : Nat}
theorem ath_app {f : List (List Int)} {r : List Int} {i : Nat} : (i < f.length → ath (f ++ [r]) (i : Int) = ath f (i : Int)) ∧ ath (f ++ [r]) (f.length : Int) = r := by
  constructor
  · intro h
    unfold ath
    rw [List.getD_eq_getElem?_getD, List.getD_eq_getElem?_getD, Int.toNat_natCast, List.getElem?_append_left h]
  · unfold ath
    rw [List.getD_eq_getElem?_getD, Int.toNat_natCast, List.getElem?_append_right (Nat.le_refl _), Nat.sub_self]
    rfl
/-- what has been found, and what is at hand -/
structure Tu (n : Nat) (b : List Int) (f : List (List Int)) (l : List Int) : Prop where
  row : Row n l
  rows : ∀ r ∈ f, Row n r
  up : ∀ i j : Nat, i ≤ j → j < f.length → Sub (pairs n) (sd b) (sd (ath f (i : Int))) (sd (ath f (j : Int)))
  last : ∀ i : Nat, i < f.length → Sub (pairs n) (sd b) (sd (ath f (i : Int))) (sd l)
theorem Tu.nil {b : List Int} (h : Row n b) : Tu n b [] b := by
  refine ⟨h, fun r hr => ?_, fun i j _ hj => ?_, fun i hi => ?_⟩
  · cases hr
  · exact absurd hj (Nat.not_lt_zero _)
  · exact absurd hi (Nat.not_lt_zero _)
theorem Tu.app {b l : List Int} {f : List (List Int)} (h : Tu n b f l) : Tu n b (f ++ [l]) l := by
  refine ⟨h.row, fun r hr => ?_, fun i j hij hj => ?_, fun i hi => ?_⟩
  · rcases List.mem_append.mp hr with hr | hr
    · exact h.rows r hr
    · rw [List.mem_singleton.mp hr]; exact h.row
  · rw [List.length_append] at hj
    have hj : j < f.length + 1 := hj
    rcases Nat.lt_or_ge j f.length with c | c
    · rw [ath_app.1 c, ath_app.1 (by omega : i < f.length)]
      exact h.up i j hij c
    · have : j = f.length := by omega
      subst this
      rw [(ath_app (i := 0)).2]
      rcases Nat.lt_or_ge i f.length with c2 | c2
      · rw [ath_app.1 c2]; exact h.last i c2
      · have : i = f.length := by omega
        subst this
        rw [(ath_app (i := 0)).2]
        exact fun p hp q => q
  · rw [List.length_append] at hi
    have hi : i < f.length + 1 := hi
    rcases Nat.lt_or_ge i f.length with c | c
    · rw [ath_app.1 c]; exact h.last i c
    · have : i = f.length := by omega
      subst this
      rw [(ath_app (i := 0)).2]
      exact fun p hp q => q
end Lw
namespace P
open PySem PySem.Spec PyProof.Rows L2 Hb Nv
open Enc (enc)
end P
namespace Lw
end Lw
namespace P
open PySem PySem.Spec PyProof.Rows L2 Hb Nv
open Enc (enc)
end P
namespace Lw
end Lw
namespace P
open PySem PySem.Spec PyProof.Rows L2 Hb Nv
open Enc (enc)
end P
namespace P
open PySem PySem.Spec PyProof.Rows L2 Hb Nv
open Enc (enc)
end P
namespace P
open PySem PySem.Spec PyProof.Rows L2 Hb Nv
open Enc (enc)
end P
namespace P
open PySem PySem.Spec PyProof.Rows L2 Hb Nv
open Enc (enc)
end P
namespace Lw
namespace K21
open PySem Hb Nv L2 P
open Enc (enc)
end K21
end Lw
namespace P
open PySem PySem.Spec PyProof.Rows L2 Hb Nv
open Enc (enc)
end P
namespace Lw
namespace K21
open PySem Hb Nv L2 P
open Enc (enc)
end K21
end Lw
namespace P
open PySem PySem.Spec PyProof.Rows L2 Hb Nv
open Enc (enc)
end P
namespace P
open PySem PySem.Spec PyProof.Rows L2 Hb Nv
open Enc (enc)
end P
namespace P
open PySem PySem.Spec PyProof.Rows L2 Hb Nv
open Enc (enc)
end P
namespace P
open PySem PySem.Spec PyProof.Rows L2 Hb Nv
open Enc (enc)
end P
namespace P
open PySem PySem.Spec PyProof.Rows L2 Hb Nv
open Enc (enc)
end P
namespace P
open PySem PySem.Spec PyProof.Rows L2 Hb Nv
open Enc (enc)
end P
namespace P
open PySem PySem.Spec PyProof.Rows L2 Hb Nv
open Enc (enc)
end P
namespace Lw
namespace K21
open PySem Hb Nv L2 P
open Enc (enc)
/-- all sequences of m indices, in the law's order -/
def seqs : Nat → List (List Int)
  | 0 => [[]]
  | m + 1 => (iot (m + 1)).flatMap fun a => (seqs m).map fun r => a :: r.map fun x => x + if decide (x ≥ a) = true then 1 else 0
theorem seqs_len {m : Nat} (h : m ≤ 5) : (seqs m).length ≤ 120 := by
  have : m = 0 ∨ m = 1 ∨ m = 2 ∨ m = 3 ∨ m = 4 ∨ m = 5 := by omega
  rcases this with rfl | rfl | rfl | rfl | rfl | rfl <;> decide +kernel
theorem seqs_row {m : Nat} : ∀ r ∈ seqs m, r.length = m := by
  induction m with
  | zero => intro r hr; rw [List.mem_singleton.mp hr]; rfl
  | succ m ih =>
    intro r hr
    obtain ⟨a, _, h⟩ := List.mem_flatMap.mp hr
    obtain ⟨q, hq, rfl⟩ := List.mem_map.mp h
    rw [List.length_cons, List.length_map, ih q hq]
theorem turn_ok {m : Nat} (hm : m ≤ 5) (a : Int) {s : List (List Int)} (hs : s.length ≤ 1000) : (forS (seqs m) s fun s20 x19 => (((if List.length x19 ≤ cap then mapF x19 (fun x25 => some true) (fun x25 => ((geI x25 a).bind fun x28 => intB x28).bind fun x30 => addI x25 x30) else none).bind fun x32 => catL [a] x32).bind fun x33 => (apL s20 x33).bind fun x34 => some (x34, x33)).bind fun x35 => some x35.fst) = some (s ++ (seqs m).map fun r => a :: r.map fun x => x + if decide (x ≥ a) = true then 1 else 0) := by
  have hl := seqs_len hm
  have : (seqs m).map (fun r => a :: r.map fun x => x + if decide (x ≥ a) = true then 1 else 0) = (seqs m).flatMap fun r => [a :: r.map fun x => x + if decide (x ≥ a) = true then 1 else 0] := by rw [List.map_eq_flatMap]
  rw [this]
  refine forS_fm (N := 2000) (fun r : List Int => [a :: r.map fun x => x + if decide (x ≥ a) = true then 1 else 0]) (fun s r hr hs => ?_) (by rw [← this, List.length_map]; omega)
  have rl := seqs_row r hr
  rw [mapT_cap (fun x => x + if decide (x ≥ a) = true then 1 else 0) (by omega) fun x _ => by simp only [geI_e, bs, intB_e, addI_e]]
  simp only [bs, catL_ok (xs := [a]) (ys := r.map fun x => x + if decide (x ≥ a) = true then 1 else 0) (by simp) (by rw [List.length_map]; omega), apL_ok (xs := s) _ (by omega : s.length ≤ 100000)]
  rfl
end K21
end Lw
namespace Lw
namespace K21
open PySem Hb Nv L2 P
open Enc (enc)
section
variable {α β : Type} [DecidableEq α] [DecidableEq β]
/-- in how many ways equal ones may be exchanged -/
def Fct : List α → Nat
  | [] => 1
  | x :: r => (r.count x + 1) * Fct r
theorem count_map_inj {g : α → β} {x : α} : ∀ {l : List α}, (∀ y ∈ l, g x = g y → x = y) → (l.map g).count (g x) = l.count x
  | [], _ => rfl
  | y :: l, h => by
    rw [List.map_cons, List.count_cons, List.count_cons, count_map_inj fun z hz => h z (by simp [hz])]
    by_cases c : y = x
    · subst c; simp
    · rw [if_neg (by simpa using fun e => c (h y (by simp) (Eq.symm e)).symm), if_neg (by simpa using c)]
theorem Fct.map {g : α → β} : ∀ {l : List α}, (∀ x ∈ l, ∀ y ∈ l, g x = g y → x = y) → Fct (l.map g) = Fct l
  | [], _ => rfl
  | x :: l, h => by
    show ((l.map g).count (g x) + 1) * Fct (l.map g) = (l.count x + 1) * Fct l
    rw [Fct.map fun y hy z hz => h y (by simp [hy]) z (by simp [hz]), count_map_inj fun y hy => h x (by simp) y (by simp [hy])]
end
end K21
end Lw
namespace Lw
namespace K21
open PySem Hb Nv L2 P
open Enc (enc)
end K21
end Lw
namespace P
open PySem PySem.Spec PyProof.Rows L2 Hb Nv
open Enc (enc)
end P
namespace Lw
namespace K21
open PySem Hb Nv L2 P
open Enc (enc)
def fac : Nat → Nat
  | 0 => 1
  | k + 1 => (k + 1) * fac k
section
variable {κ : Type} [DecidableEq κ]
def lk (l : List (κ × Int)) (k : κ) : Option Int := (l.find? fun p => decide (p.1 = k)).map (·.2)
/-- the product of the factorials of what is held -/
def PF : List (κ × Int) → Nat
  | [] => 1
  | p :: r => fac p.2.toNat * PF r
/-- what the groups hold of what has been passed -/
structure Gr (pre : List κ) (g : List (κ × Int)) : Prop where
  nd : (g.map Prod.fst).Nodup
  mem : ∀ k, k ∈ g.map Prod.fst ↔ k ∈ pre
  cnt : ∀ k, k ∈ pre → lk g k = some (pre.count k : Int)
  pf : PF g = Fct pre
  pos : ∀ p ∈ g, 0 < p.2
  len : g.length ≤ pre.length
theorem Gr.nil : Gr ([] : List κ) [] := by
  refine ⟨List.nodup_nil, fun k => Iff.rfl, fun k h => ?_, rfl, fun p h => ?_, Nat.le_refl _⟩ <;> cases h
end
variable {n : Nat} {f : List (List Int)}
end K21
end Lw
namespace P
open PySem PySem.Spec PyProof.Rows L2 Hb Nv
open Enc (enc)
end P
namespace P
open PySem PySem.Spec PyProof.Rows L2 Hb Nv
open Enc (enc)
end P
namespace P
open PySem PySem.Spec PyProof.Rows L2 Hb Nv
open Enc (enc)
end P
namespace P
open PySem PySem.Spec PyProof.Rows L2 Hb Nv
open Enc (enc)
end P
namespace P
open PySem PySem.Spec PyProof.Rows L2 Hb Nv
open Enc (enc)
end P
namespace P
open PySem PySem.Spec PyProof.Rows L2 Hb Nv
open Enc (enc)
end P
namespace Lw
namespace K21
open PySem Hb Nv L2 P PyProof.Rows
open Enc (enc)
variable {n : Nat} {f : List (List Int)}
/-- a pair of places -/
def Pr (n : Nat) (p : Int × Int) : Prop := (0 ≤ p.1 ∧ p.1 < n) ∧ (0 ≤ p.2 ∧ p.2 < n) ∧ p.1 ≠ p.2
/-- u differs from both others in some pair -/
def Al (n : Nat) (u v w : List Int) : Prop := ∃ p ∈ pairs n, sd u p ≠ sd v p ∧ sd u p ≠ sd w p
end K21
end Lw
namespace Lw
namespace K21
open PySem Hb Nv L2 P PyProof.Rows
open Enc (enc)
end K21
end Lw
namespace P
open PySem PySem.Spec PyProof.Rows L2 Hb Nv
open Enc (enc)
end P
namespace P
open PySem PySem.Spec PyProof.Rows L2 Hb Nv
open Enc (enc)
end P
namespace P
open PySem PySem.Spec PyProof.Rows L2 Hb Nv
open Enc (enc)
end P
namespace Lw
namespace K21
open PySem Hb Nv L2 P PyProof.Rows
open Enc (enc)
end K21
end Lw
namespace Lw
open PySem Hb Nv L2 P
open Enc (enc)
end Lw
namespace P
open PySem PySem.Spec PyProof.Rows L2 Hb Nv
open Enc (enc)
end P
namespace P
open PySem PySem.Spec PyProof.Rows L2 Hb Nv
open Enc (enc)
end P
namespace P
open PySem PySem.Spec PyProof.Rows L2 Hb Nv
open Enc (enc)
end P
namespace P
open PySem PySem.Spec PyProof.Rows L2 Hb Nv
open Enc (enc)
end P
namespace Lw
open PySem Hb Nv L2 P
open Enc (enc)
end Lw
namespace Lw
end Lw
namespace P
open PySem PySem.Spec PyProof.Rows L2 Hb Nv
open Enc (enc)
end P
namespace P
open PySem PySem.Spec PyProof.Rows L2 Hb Nv
open Enc (enc)
end P
namespace P
open PySem PySem.Spec PyProof.Rows L2 Hb Nv
open Enc (enc)
end P
namespace P
open PySem PySem.Spec PyProof.Rows L2 Hb Nv
open Enc (enc)
end P
namespace P
open PySem PySem.Spec PyProof.Rows L2 Hb Nv
open Enc (enc)
end P
namespace P
open PySem PySem.Spec PyProof.Rows L2 Hb Nv
open Enc (enc)
end P
namespace Lw
namespace Rg
open PySem Hb Nv L2 P PyProof.Rows
open Enc (enc)

variable {n : Nat} {f : List (List Int)}
/-- three ballots see three places by turns -/
def Ring (u v w : List Int) (a b c : Int) : Prop := (pos u a < pos u b ∧ pos u b < pos u c) ∧ (pos v b < pos v c ∧ pos v c < pos v a) ∧ (pos w c < pos w a ∧ pos w a < pos w b)
/-- three ballots that see three places by turns: each one alone in a pair -/
theorem Ring.al {u v w : List Int} (hu : Row n u) (hv : Row n v) (hw : Row n w) {a b c : Int} (ha : 0 ≤ a ∧ a < n) (hb : 0 ≤ b ∧ b < n) (hc : 0 ≤ c ∧ c < n) (h : Ring u v w a b c) : K21.Al n u v w ∧ K21.Al n v u w ∧ K21.Al n w u v := by
  obtain ⟨⟨u1, u2⟩, ⟨v1, v2⟩, w1, w2⟩ := h
  have one : ∀ {r s t : List Int} {x y : Int}, (0 ≤ x ∧ x < n) → (0 ≤ y ∧ y < n) → pos r x < pos r y → pos s y < pos s x → pos t y < pos t x → K21.Al n r s t := fun {r s t x y} hx hy q1 q2 q3 => by
    rcases Int.lt_trichotomy x y with l | l | l
    · refine ⟨(x, y), mem_pairs.mpr ⟨hx, hy, l⟩, ?_, ?_⟩ <;> unfold sd <;> simp only [] <;> rw [decide_eq_true q1, decide_eq_false (by omega)] <;> decide
    · rw [l] at q1
      omega
    · refine ⟨(y, x), mem_pairs.mpr ⟨hy, hx, l⟩, ?_, ?_⟩ <;> unfold sd <;> simp only []
      · rw [decide_eq_false (show ¬ pos r y < pos r x by omega), decide_eq_true q2]; decide
      · rw [decide_eq_false (show ¬ pos r y < pos r x by omega), decide_eq_true q3]; decide
  exact ⟨one ha hc (by omega) (by omega) (by omega), one hb ha (by omega) (by omega) (by omega), one hc hb (by omega) (by omega) (by omega)⟩
end Rg
end Lw
namespace P
open PySem PySem.Spec PyProof.Rows L2 Hb Nv
open Enc (enc)
end P
namespace P
open PySem PySem.Spec PyProof.Rows L2 Hb Nv
open Enc (enc)
end P
namespace P
open PySem PySem.Spec PyProof.Rows L2 Hb Nv
open Enc (enc)
end P
namespace Lw
end Lw
namespace Lw
namespace K04
open PySem Hb Nv L2 P Lw Lw.Er
open Enc (enc)
theorem ok_tame {d : PyData} (ha : atomD d = true) (h : Tame d) : okAt d = true := by
  have h5 := PyData.shown_le_bulk 50 (by omega) d h.hl
  have h6 := h.hw
  have h7 : d.shown.length ≤ sizeLine := by
    have : sizeLine = 2 ^ 24 := rfl
    omega
  have h8 := h.hd
  unfold okAt
  rw [ha, h.hs, decide_eq_true (by omega : d.depth ≤ 60), decide_eq_true h7]
  rfl
theorem ok_int {i : Int} (h0 : 0 ≤ i) (h1 : i ≤ 100000) (w : Str) : tailN w (some i) = some true := by
  have big : (100000 : Int) < 10 ^ 40 := by decide
  exact if_pos (ok_tame (d := .int i) (decide_eq_true ⟨h0, h1⟩) (tame_int h0 (by omega)))
theorem ok_none (w : Str) : tailN w none = some true := by
  exact if_pos (ok_tame (d := .none) rfl tame_none)
abbrev lets : Str := " abcz>0-"
theorem at_lets {d : Int} (h0 : 0 ≤ d) (h1 : d < 8) : ∃ z : Str, atS lets d = some z ∧ z.length = 1 := by
  have h : (List.range 8).all (fun k => match atS lets (k : Int) with | some z => decide (z.length = 1) | none => false) = true := by decide +kernel
  have := List.all_eq_true.mp h d.toNat (List.mem_range.mpr (by omega))
  rw [show ((d.toNat : Nat) : Int) = d by omega] at this
  cases q : atS lets d with
  | none => rw [q] at this; cases this
  | some z => rw [q] at this; exact ⟨z, rfl, of_decide_eq_true this⟩
theorem right_ok {t : List Int} (ht : Tap t) : Wp (n__law_right_v24 t) fun z => z.1 = true := by
  obtain ⟨⟨m, T1⟩, e1, hT1, m0, m1⟩ := draw_ok ht (n := (12 : Int)) (by omega) (by omega)
  have m0 : 0 ≤ m := m0
  have m1 : m < 12 := m1
  obtain ⟨k, rfl⟩ : ∃ k : Nat, m = (k : Int) := ⟨m.toNat, by omega⟩
  have ri := ri1_nat k (by omega : k ≤ 1000000)
  unfold n__law_right_v24
  simp only [bs, e1, ri]
  rw [if_pos (cap_ge (by rw [iot_len]; omega))]
  obtain ⟨ys, T2, e2, hl, hy, hT2⟩ := mapE_inv (fun (s17 : List Int) (x9 : Int) => (((n__law_draw s17 8).bind fun x21 => some (x21, (8 : Int), ())).bind fun x22 => (atS lets x22.fst.fst).bind fun x23 => some (x23, lets, x22)).bind fun x25 => some (x25.fst, x25.snd.snd.fst.snd)) Tap (fun z : Str => z.length = 1) (iot k) T1 hT1 (fun s hs x _ => by
    obtain ⟨⟨d, T⟩, e, hT, d0, d1⟩ := draw_ok hs (n := (8 : Int)) (by omega) (by omega)
    obtain ⟨z, ez, hz⟩ := at_lets d0 d1
    exact ⟨z, T, by simp only [e, bs, ez], hz, hT⟩)
  have hsum : (ys.map (fun z : Str => z.length)).sum = ys.length := by
    clear hl e2
    induction ys with
    | nil => rfl
    | cons y r ih =>
      rw [List.map_cons, List.sum_cons, ih fun z hz => hy z (List.mem_cons_of_mem _ hz), hy y List.mem_cons_self, List.length_cons]
      omega
  have ej : ∃ w, joinN "" ys = some w := by
    refine ⟨_, if_pos ?_⟩
    rw [hsum]
    have : (("" : Str)).length = 0 := by rfl
    rw [this, hl, iot_len]
    omega
  obtain ⟨w, ej⟩ := ej
  obtain ⟨⟨m, T3⟩, e3, hT3, m0, m1⟩ := draw_ok hT2 (n := (4001 : Int)) (by omega) (by omega)
  have m0 : 0 ≤ m := m0
  have m1 : m < 4001 := m1
  obtain ⟨⟨j, T4⟩, e4, hT4, j0, j1⟩ := draw_ok hT3 (n := (4 : Int)) (by omega) (by omega)
  have j0 : 0 ≤ j := j0
  have j1 : j < 4 := j1
  have ef : ∃ v, atL [some (0 : Int), some 39, some m, none] j = some v ∧ tailN w v = some true := by
    rcases (by omega : j = 0 ∨ j = 1 ∨ j = 2 ∨ j = 3) with rfl | rfl | rfl | rfl
    · exact ⟨_, rfl, ok_int (by omega) (by omega) w⟩
    · exact ⟨_, rfl, ok_int (by omega) (by omega) w⟩
    · exact ⟨_, rfl, ok_int (by omega) (by omega) w⟩
    · exact ⟨_, rfl, ok_none w⟩
  obtain ⟨v, ev, et⟩ := ef
  simp only [e2, bs, ej, e3, e4, ev, et]
  exact ⟨_, rfl, rfl⟩
theorem k04_law_ok {ms : List Int} (hl : ms.length ≤ 63) : n_law_v25 ms = some true := by
  obtain ⟨cs, ec, hc⟩ := cells_ok hl 3
  unfold n_law_v25
  simp only [bs, ec, lenL_e, ri1_nat cs.length (by omega : cs.length ≤ 1000000)]
  refine bnd (bnd (mapC_cap (fun _ => false) (by rw [iot_len]; omega) fun k hk => ?_) rfl) ?_
  · rw [mem_iot] at hk
    obtain ⟨x, ex, _⟩ := atL_int (xs := cs) hk.1 hk.2
    obtain ⟨t, et, ht⟩ := tap_ok x k hk.1 (by omega)
    obtain ⟨z, ez, hz⟩ := right_ok ht
    simp only [ex, bs, et, ez, hz]
    rfl
  · have fl : List.filter (fun _ : Int => false) (iot cs.length) = [] := by simp
    rw [fl]; rfl
end K04
end Lw
namespace K04
open PySem PySem.Spec PyProof.Rows L2 Hb
def names : List PySem.Str := (["_law_tap", "_law_draw", "_law_cells", "_law_made", "_law_which", "_law_right", "BallotError", "InvalidCount", "InvalidBallot", "InvalidBallots", "InvalidLine", "InvalidPlace", "InvalidVoters", "InvalidIndex", "InvalidPeople", "InvalidTable", "InvalidFixed", "InvalidTelling", "InvalidPairs", "InvalidLists", "InvalidCommand", "NoLine", "NoRow", "NotFalling", "NotFree", "NoBallot", "NotMatching", "EvenVoters", "NotTold", "NothingToUndo"] : List PySem.Str) ++ (["InvalidText"] : List PySem.Str)
abbrev R : PySem.W.OpenRow := PySem.W.OpenLaw.row PySem.Challenge.rw_hillballots_k04_errors_made
abbrev hk : PySem.W.Hook := Hb.hookM 4 fa fn Hb.mkB
def ob (s : PySem.W.SharedT) : Hb.AlM := Hb.obsM 4 fa fn Hb.mkB (HandSHeadRun.getT s)
theorem ob_eq (s : PySem.W.SharedT) : ob s = hk.obs s.abs := Hb.obsM_eq (HandSHeadRun.getT_eq s)
theorem run (w : World) : HandSHeadRun.RunEq R (PySem.W.view R.prog [33]) hk ob 8000 names w := by
  intro os
  kernel_rfl
theorem head_law_ok {ms : List Int} (hl : ms.length ≤ 63) : ∃ δ, P.F_law_v25 [.fz (.list (ms.map .int))] = .ok (.fz (.bool true)) δ :=
  ⟨_, P.V_law_v25 ms true (Lw.K04.k04_law_ok hl)⟩
end K04
open PySem PySem.W PySem.Calls PyProof.Rows
theorem PySem.Challenge.cw_hillballots_k04_errors_made_holds : PySem.Challenge.rw_hillballots_k04_errors_made.Holds := by
  w_on; o_law
  refine HandSHeadRun.head_any (r := OpenLaw.row PySem.Challenge.rw_hillballots_k04_errors_made) (q := view (OpenLaw.row PySem.Challenge.rw_hillballots_k04_errors_made).prog [33]) (H := K04.hk) (ob := K04.ob) (M := 8000) (loose := K04.names) (d := HandSHeadRun.topDef (OpenLaw.row PySem.Challenge.rw_hillballots_k04_errors_made).prog 33) (kwd := []) K04.ob_eq
    (by kernel_rfl) (fun s => by kernel_rfl) K04.run (by kernel_rfl) (by kernel_rfl) (by kernel_rfl) (by rfl) (by first | assumption | decide +kernel) (by decide +kernel) ⟨rfl, rfl, rfl, rfl, rfl, by decide +kernel⟩ ?hw ?hc
  case hw => w_witness2
  case hc =>
    refine Hb.walkGT (l := PySem.Challenge.rw_hillballots_k04_errors_made) (n := 63) (k := 5) (x := "_law_script") rfl (by decide) (by kernel_rfl) ⟨rfl, by decide, by decide⟩ ?F
    intro w mg fa h Y G hmg0
    obtain ⟨K, KX, cX⟩ := Y
    have c := cX.d
    have hmg : mg ("law" : PySem.Str) = some (.ref fa) := by
      have e : (HandSHeadRun.topDef (OpenLaw.row PySem.Challenge.rw_hillballots_k04_errors_made).prog 33).name = ("law" : PySem.Str) := by kernel_rfl
      rw [← e]
      exact hmg0
    have Y : K04.Ctx K mg := ⟨c, ⟨h, KX, G⟩, cX.more⟩
    obtain ⟨fd, FD⟩ := c.def_ 4 (d := K04.d_law)
    have hf : fa = He.fAd K ("law", none) := by
      have e2 := He.glo_ok KX G (c.fact 4 (f := .glo "law"))
      rw [hmg] at e2
      exact PySem.Value.ref.inj (Option.some.inj e2)
    refine ⟨K, fd, [], Hb.spF K mg 1 P.F_law_v25, KX, (fun _ h => nomatch h), (fun _ h => nomatch h), (fun _ h => nomatch h), fun s u => ?_, fun H a ns hl _ hX => ?_, fun bs _ _ _ => ?_⟩
    · exact FD.bindsA (ps := ["_law_script"]) (fun _ _ _ _ _ _ us h => by
        match us, h with
        | [a0], _ => rfl) s [u] rfl
    · obtain ⟨δ, e⟩ := K04.head_law_ok hl
      exact Hb.sp_law hX e
    · rw [hf]
      exact Hb.fnG_D FD K04.S_law rfl fun cdv A outer s H E hr hgd => K04.W_law Y cdv A outer s H E hr hgd
