import PyProof.Rows.All
import Wide.All
import OpenK.AllK
import Wide.FinOn
import KE.KStateDown
import Lean
import HandS.ForExc
import HandS.Defaults
import HandS.Head0
import HandS.Head1
import HandS.Head2
import HandS.HeadEnd
import HandS.HeadHook1
import HandS.HeadHook2
import HandS.ForMost
import HandS.Exc
import HandS.TryOnly
import HandS.ExcOwn
import HandS.WordsExc
import HandS.Wide
import HandS.Conv
import HandS.Flow
import HandS.Style
import HandS.Deep
import HandS.IsInst
import HandS.SortInts
import HandS.Lambda
import HandS.HeadHook4
import HandS.Zip
import HandS.TupAny
import KE.KIndexWalk
import KE.DataFind
import KE.Datum
import HandS.Dict
import HandS.TupLen
import HandS.SortRule
import HandS.Star
import HandS.WordsDict
import HandS.Rev
import HandS.RevRange
import KE.SortData
import KE.KRevSl
import HandS.TryMany
import HandS.DictComp
import KE.DataMinMax
import KE.KDictCopyH
import HandS.SetFor
import HandS.NoneIn
import HandS.Small
import HandS.Strs
import KE.KDictZip
import HandS.Iter
import KE.KDictWalk
import HandS.Remove
import HandS.TupMul
import HandS.CallRecv
import HandS.Property
import OpenK.KOps
import KE.KDictSum
import KE.KDictDisplayH
import PyProof.DictTable
import KE.KEqDict
import KE.KIsAll
import HandS.OwnEq
import PySem.Challenge.RW_hillballots_k37_places_made
set_option Elab.async false
set_option linter.all false
set_option maxRecDepth 100000
set_option exponentiation.threshold 3000
set_option maxHeartbeats 0
namespace Hb
open PySem PySem.Spec PyProof.Rows L2
def kD : Key → PyData
  | .inl i => .int i
  | .inr x => .str x
/-- a list that may be read: tracked, locked, or one of the module's own in the plain form -/
def SqX (K : PySem.W.Frag) (H : Hp) (a : Addr) (xs : List V) : Prop :=
  Rd H a (.lst xs) ∨ ∃ (its : List Value) (n : Nat), K.lookup a = some { cls := .type "list", data := .seq its.toArray n } ∧ its.length ≤ sizeLine ∧ Vals xs its
theorem SqX.of {K : PySem.W.Frag} {H : Hp} {a : Addr} {xs : List V} (h : H a = some (.lst xs)) : SqX K H a xs := .inl (.inl h)
theorem SqX.sq {K : PySem.W.Frag} {H : Hp} {a : Addr} {xs : List V} (h : SqX K H a xs) : SqL K H a xs := by
  rcases h with h | ⟨its, n, h1, h2, h3⟩
  · exact .inl h
  · exact .inr ⟨_, its.toArray, n, h1, rfl, rfl, rfl, by simpa using h2, by simpa using h3⟩
theorem inv_lstX {X : Cx} {pins : List (Addr × Obj)} {σ : L2.St} {H : Hp} {s : Shared} {a : Addr} {xs : List V} (I : Inv X pins σ H s) (h : SqX X.K H a xs) :
    ∃ (its : List Value) (n : Nat), Vals xs its ∧ s.heap.get? a = some { cls := .type "list", data := .seq its.toArray n } ∧ xs.length ≤ sizeLine := by
  rcases h with h | ⟨its, n, h1, h2, h3⟩
  · obtain ⟨z, its, n, r, e⟩ := h.ok I.hok
    exact ⟨its, n, r, e, z⟩
  · exact ⟨its, n, h3, I.kIn a _ h1, by rw [h3.length]; exact h2⟩
def tupO (its : Array Value) : Obj := { cls := .type "tuple", data := .seq its }
def TP (H : Hp) (a : Addr) (xs : List V) : Prop := ∃ its : Array Value, H a = some (.frz (tupO its) (.tup xs))
theorem TP.mono {H H' : Hp} {a : Addr} {xs : List V} (e : Same H H') (h : TP H a xs) : TP H' a xs := ⟨h.choose, e _ _ h.choose_spec⟩
theorem TP.rd {H : Hp} {a : Addr} {xs : List V} (h : TP H a xs) : Rd H a (.tup xs) := .inr ⟨_, h.choose_spec⟩
theorem TP.sq {K : PySem.W.Frag} {H : Hp} {a : Addr} {xs : List V} (h : TP H a xs) : SqT K H a xs := .inl h.rd
/-- keys that are ints alone: their hash is the same everywhere -/
def isI : Key → Bool
  | .inl _ => true
  | .inr _ => false
abbrev TX := List (List Key × Addr × Value)
/-- a dict by tuples of ints -/
def dPf (a : Addr) (ep : Nat) (xs : TX) (h : Heap) : Prop := ∃ o es, h.get? a = some o ∧ o.ExactDict ∧ o.data = .dict es ep ∧ (∀ P w, es.toList = xs.map (entryOfKey (tupleKind (mixKind P w)))) ∧ (xs.map (·.1)).Nodup ∧ xs.length ≤ sizeLine ∧ (a == sysModules) = false
def dPO (a : Addr) (ep : Nat) (xs : TX) : HO := .ext (dPf a ep xs)
def KTP (H : Hp) : List (List Key × V) → TX → Prop := Paired fun p q => p.1 = q.1 ∧ p.1.all isI = true ∧ TP H q.2.1 (p.1.map kV) ∧ RelV p.2 q.2.2
/-- the dict at a in H, its keys in Z -/
def DP (Z H : Hp) (a : Addr) (ws : List (List Key × V)) : Prop := ∃ xs ep, H a = some (dPO a ep xs) ∧ KTP Z ws xs
theorem KTP.mono {H H' : Hp} (e : Same H H') {ws : List (List Key × V)} {xs : TX} (h : KTP H ws xs) : KTP H' ws xs := Paired.mapP h fun _ _ z => ⟨z.1, z.2.1, z.2.2.1.mono e, z.2.2.2⟩
theorem DP.mono {Z Z' H H' : Hp} {a : Addr} {ws : List (List Key × V)} (e : Same Z Z') (f : H' a = H a) (h : DP Z H a ws) : DP Z' H' a ws := by
  obtain ⟨xs, ep, h1, h2⟩ := h
  exact ⟨xs, ep, f.trans h1, h2.mono e⟩
theorem DP.monoS {Z Z' H H' : Hp} {a : Addr} {ws : List (List Key × V)} (e : Same Z Z') (f : Same H H') (h : DP Z H a ws) : DP Z' H' a ws := by
  obtain ⟨xs, ep, h1, h2⟩ := h
  exact ⟨xs, ep, f _ _ h1, h2.mono e⟩
theorem DP.ne {Z H : Hp} {a : Addr} {ws : List (List Key × V)} (h : DP Z H a ws) : H a ≠ none := by
  obtain ⟨xs, ep, h1, _⟩ := h
  rw [h1]
  simp
/-- a dict by plain keys; an empty one is known as a dict by tuples -/
def DK1 (H : Hp) (a : Addr) (kvs : List (Key × V)) : Prop := H a = some (.dK kvs) ∧ kvs ≠ []
mutual
/-- the value v stands, in the heap H, for the tree d -/
inductive Rp (K : PySem.W.Frag) (H : Hp) : V → PyData → Prop
  | non : Rp K H .non .none
  | bl (b : Bool) : Rp K H (.bl b) (.bool b)
  | int (i : Int) : Rp K H (.int i) (.int i)
  | str (x : Str) : Rp K H (.str x) (.str x)
  | lst {a : Addr} {xs : List V} {ds : List PyData} : SqX K H a xs → RpL K H xs ds → Rp K H (.ref a) (.list ds)
  | tup {a : Addr} {xs : List V} {ds : List PyData} : TP H a xs → RpL K H xs ds → Rp K H (.ref a) (.tuple ds)
  | dK {a : Addr} {kvs : List (Key × V)} {ds : List (PyData × PyData)} : DK1 H a kvs → RpK K H kvs ds → Rp K H (.ref a) (.dict ds)
  | dT {a : Addr} {kvs : List (List Key × V)} {ds : List (PyData × PyData)} : DP H H a kvs → RpT K H kvs ds → Rp K H (.ref a) (.dict ds)
inductive RpL (K : PySem.W.Frag) (H : Hp) : List V → List PyData → Prop
  | nil : RpL K H [] []
  | cons {v : V} {vs : List V} {d : PyData} {ds : List PyData} : Rp K H v d → RpL K H vs ds → RpL K H (v :: vs) (d :: ds)
inductive RpK (K : PySem.W.Frag) (H : Hp) : List (Key × V) → List (PyData × PyData) → Prop
  | nil : RpK K H [] []
  | cons {k : Key} {v : V} {vs : List (Key × V)} {d : PyData} {ds : List (PyData × PyData)} : Rp K H v d → RpK K H vs ds → RpK K H ((k, v) :: vs) ((kD k, d) :: ds)
inductive RpT (K : PySem.W.Frag) (H : Hp) : List (List Key × V) → List (PyData × PyData) → Prop
  | nil : RpT K H [] []
  | cons {k : List Key} {v : V} {vs : List (List Key × V)} {d : PyData} {ds : List (PyData × PyData)} : k.all isI = true → Rp K H v d → RpT K H vs ds → RpT K H ((k, v) :: vs) ((.tuple (k.map kD), d) :: ds)
end
theorem same_sqT {K : PySem.W.Frag} {H H' : Hp} {a : Addr} {xs : List V} (e : Same H H') (h : SqT K H a xs) : SqT K H' a xs := by
  rcases h with (h | ⟨o, h⟩) | h
  · exact .inl (.inl (e _ _ h))
  · exact .inl (.inr ⟨o, e _ _ h⟩)
  · exact .inr h
theorem same_rd {H H' : Hp} {a : Addr} {u : HO} (e : Same H H') (h : Rd H a u) : Rd H' a u := by
  rcases h with h | ⟨o, h⟩
  · exact .inl (e _ _ h)
  · exact .inr ⟨o, e _ _ h⟩
theorem same_sqX {K : PySem.W.Frag} {H H' : Hp} {a : Addr} {xs : List V} (e : Same H H') (h : SqX K H a xs) : SqX K H' a xs := by
  rcases h with h | h
  · exact .inl (same_rd e h)
  · exact .inr h
section
variable {K : PySem.W.Frag} {H H' : Hp} (e : Same H H')
include e
mutual
theorem Rp.mono : ∀ {v : V} {d : PyData}, Rp K H v d → Rp K H' v d
  | _, _, .non => .non
  | _, _, .bl b => .bl b
  | _, _, .int i => .int i
  | _, _, .str x => .str x
  | _, _, .lst h1 h2 => .lst (same_sqX e h1) (RpL.mono h2)
  | _, _, .tup h1 h2 => .tup (h1.mono e) (RpL.mono h2)
  | _, _, .dK h1 h2 => .dK ⟨e _ _ h1.1, h1.2⟩ (RpK.mono h2)
  | _, _, .dT h1 h2 => .dT (h1.monoS e e) (RpT.mono h2)
theorem RpL.mono : ∀ {vs : List V} {ds : List PyData}, RpL K H vs ds → RpL K H' vs ds
  | _, _, .nil => .nil
  | _, _, .cons h1 h2 => .cons (Rp.mono h1) (RpL.mono h2)
theorem RpK.mono : ∀ {vs : List (Key × V)} {ds : List (PyData × PyData)}, RpK K H vs ds → RpK K H' vs ds
  | _, _, .nil => .nil
  | _, _, .cons h1 h2 => .cons (Rp.mono h1) (RpK.mono h2)
theorem RpT.mono : ∀ {vs : List (List Key × V)} {ds : List (PyData × PyData)}, RpT K H vs ds → RpT K H' vs ds
  | _, _, .nil => .nil
  | _, _, .cons hi h1 h2 => .cons hi (Rp.mono h1) (RpT.mono h2)
end
end
section
variable {K : PySem.W.Frag} {H : Hp}
theorem RpL.len : ∀ {vs : List V} {ds : List PyData}, RpL K H vs ds → vs.length = ds.length
  | _, _, .nil => rfl
  | _, _, .cons _ t => by simp [RpL.len t]
theorem RpL.get : ∀ {vs : List V} {ds : List PyData} {i : Nat} {d : PyData}, RpL K H vs ds → ds[i]? = some d → ∃ v, vs[i]? = some v ∧ Rp K H v d
  | _, _, _, _, .nil, e => by simp at e
  | _, _, 0, _, .cons r _, e => by simp at e; subst e; exact ⟨_, rfl, r⟩
  | _, _, i + 1, d, .cons _ t, e => by
    obtain ⟨u, h1, h2⟩ := RpL.get (i := i) (d := d) t (by simpa using e)
    exact ⟨u, by simpa using h1, h2⟩
theorem RpL.append : ∀ {vs ws : List V} {ds es : List PyData}, RpL K H vs ds → RpL K H ws es → RpL K H (vs ++ ws) (ds ++ es)
  | _, _, _, _, .nil, s => s
  | _, _, _, _, .cons r t, s => .cons r (RpL.append t s)
theorem RpL.one {v : V} {d : PyData} (h : Rp K H v d) : RpL K H [v] [d] := .cons h .nil
theorem RpL.set {v : V} {d : PyData} (h : Rp K H v d) : ∀ {vs : List V} {ds : List PyData} (n : Nat), RpL K H vs ds → RpL K H (vs.set n v) (ds.set n d)
  | _, _, _, .nil => .nil
  | _, _, 0, .cons _ t => .cons h t
  | _, _, n + 1, .cons r t => .cons r (RpL.set h n t)
theorem RpL.eraseIdx : ∀ {vs : List V} {ds : List PyData} (n : Nat), RpL K H vs ds → RpL K H (vs.eraseIdx n) (ds.eraseIdx n)
  | _, _, _, .nil => .nil
  | _, _, 0, .cons _ t => t
  | _, _, n + 1, .cons r t => .cons r (RpL.eraseIdx n t)
theorem RpL.reverse : ∀ {vs : List V} {ds : List PyData}, RpL K H vs ds → RpL K H vs.reverse ds.reverse
  | _, _, .nil => .nil
  | _, _, .cons r t => by
    rw [List.reverse_cons, List.reverse_cons]
    exact (RpL.reverse t).append (.one r)
theorem RpL.ints : ∀ {vs : List V} {ns : List Int}, RpL K H vs (ns.map .int) → vs = ns.map V.int
  | _, [], .nil => rfl
  | _, n :: ns, .cons r t => by
    cases r
    rw [RpL.ints t]
    rfl
theorem RpL.ofInts : ∀ ns : List Int, RpL K H (ns.map V.int) (ns.map .int)
  | [] => .nil
  | n :: ns => .cons (.int n) (RpL.ofInts ns)
end
/-- an item of a list that is one's own: a tree that stands still, or a list of one's own -/
inductive El where
  | fz (d : PyData) | ow (xs : List PyData)
def El.d : El → PyData
  | .fz d => d
  | .ow xs => .list xs
/-- a part of another thing of one's own: a tree that stands still, a list, a dict of one's own -/
inductive Pa where
  | fz (d : PyData) | ow (xs : List PyData) | od (kvs : List (PyData × PyData))
def Pa.d : Pa → PyData
  | .fz d => d
  | .ow xs => .list xs
  | .od kvs => .dict kvs
/-- other things of one's own: a tuple with parts of one's own; an instance of the class c, its attributes in order; a list of tuples, each of an instance of the class c and a list; a list of instances of the class c; a dict by tuples of ints, also when it is empty -/
inductive Ex where
  | ot (xs : List Pa) | ob (c : Str) (fs : List (Str × Pa)) | lp (c : Str) (its : List (List (Str × Pa) × List PyData)) | li (c : Str) (fss : List (List (Str × Pa))) | dt (kvs : List (PyData × PyData))
/-- a name: nothing is known; a tree that stands still; a list of one's own; a dict of one's own; the item j of the list of slot x -/
inductive Sl where
  | no | fz (d : PyData) | ol (xs : List El) | od (kvs : List (PyData × PyData)) | al (x j : Nat) | ex (e : Ex)
def ElR (K : PySem.W.Frag) (Fz H : Hp) (f : List Addr) (v : V) : El → Prop
  | .fz d => f = [] ∧ Rp K Fz v d
  | .ow xs => ∃ a vs, v = .ref a ∧ f = [a] ∧ H a = some (.lst vs) ∧ RpL K Fz vs xs
inductive ElL (K : PySem.W.Frag) (Fz H : Hp) : List Addr → List V → List El → Prop
  | nil : ElL K Fz H [] [] []
  | cons {f g : List Addr} {v : V} {vs : List V} {e : El} {es : List El} : ElR K Fz H f v e → ElL K Fz H g vs es → ElL K Fz H (f ++ g) (v :: vs) (e :: es)
def DcR (K : PySem.W.Frag) (Fz H : Hp) (a : Addr) (kvs : List (PyData × PyData)) : Prop :=
  (∃ ws, DK1 H a ws ∧ RpK K Fz ws kvs) ∨ (∃ ws, DP Fz H a ws ∧ RpT K Fz ws kvs)
def PaR (K : PySem.W.Frag) (Fz H : Hp) (f : List Addr) (v : V) : Pa → Prop
  | .fz d => f = [] ∧ Rp K Fz v d
  | .ow xs => ∃ a vs, v = .ref a ∧ f = [a] ∧ H a = some (.lst vs) ∧ RpL K Fz vs xs
  | .od kvs => ∃ a, v = .ref a ∧ f = [a] ∧ DcR K Fz H a kvs
inductive PaL (K : PySem.W.Frag) (Fz H : Hp) : List Addr → List V → List Pa → Prop
  | nil : PaL K Fz H [] [] []
  | cons {f g : List Addr} {v : V} {vs : List V} {e : Pa} {es : List Pa} : PaR K Fz H f v e → PaL K Fz H g vs es → PaL K Fz H (f ++ g) (v :: vs) (e :: es)
/-- attributes by name, in order -/
inductive FdL (K : PySem.W.Frag) (Fz H : Hp) : List Addr → List (Str × V) → List (Str × Pa) → Prop
  | nil : FdL K Fz H [] [] []
  | cons {f g : List Addr} {n : Str} {v : V} {vs : List (Str × V)} {e : Pa} {es : List (Str × Pa)} : PaR K Fz H f v e → FdL K Fz H g vs es → FdL K Fz H (f ++ g) ((n, v) :: vs) ((n, e) :: es)
/-- tuples of an instance and a list -/
inductive ItL (K : PySem.W.Frag) (Fz H : Hp) (c : Str) : List Addr → List V → List (List (Str × Pa) × List PyData) → Prop
  | nil : ItL K Fz H c [] [] []
  | cons {t p dx l : Addr} {vs : List (Str × V)} {ws : List V} {g f : List Addr} {us : List V} {fs : List (Str × Pa)} {xs : List PyData} {its : List (List (Str × Pa) × List PyData)} : TP Fz t [.ref p, .ref l] → H p = some (.ins (He.ga K c) dx vs) → H dx = some (.own p) → FdL K Fz H g vs fs →
      H l = some (.lst ws) → RpL K Fz ws xs → ItL K Fz H c f us its → ItL K Fz H c ((p :: dx :: l :: g) ++ f) (.ref t :: us) ((fs, xs) :: its)
/-- instances -/
inductive InL (K : PySem.W.Frag) (Fz H : Hp) (c : Str) : List Addr → List V → List (List (Str × Pa)) → Prop
  | nil : InL K Fz H c [] [] []
  | cons {p dx : Addr} {vs : List (Str × V)} {g f : List Addr} {us : List V} {fs : List (Str × Pa)} {fss : List (List (Str × Pa))} : H p = some (.ins (He.ga K c) dx vs) → H dx = some (.own p) → FdL K Fz H g vs fs → InL K Fz H c f us fss → InL K Fz H c ((p :: dx :: g) ++ f) (.ref p :: us) (fs :: fss)
def ExH (K : PySem.W.Frag) (Fz H : Hp) (f : List Addr) (o : Option V) : Ex → Prop
  | .ot xs => ∃ a vs, o = some (.ref a) ∧ TP Fz a vs ∧ PaL K Fz H f vs xs
  | .ob c fs => ∃ p dx vs g, o = some (.ref p) ∧ f = p :: dx :: g ∧ H p = some (.ins (He.ga K c) dx vs) ∧ H dx = some (.own p) ∧ FdL K Fz H g vs fs
  | .lp c its => ∃ a vs g, o = some (.ref a) ∧ f = a :: g ∧ H a = some (.lst vs) ∧ ItL K Fz H c g vs its
  | .li c fss => ∃ a vs g, o = some (.ref a) ∧ f = a :: g ∧ H a = some (.lst vs) ∧ InL K Fz H c g vs fss
  | .dt kvs => ∃ a ws, o = some (.ref a) ∧ f = [a] ∧ DP Fz H a ws ∧ RpT K Fz ws kvs
def SlH (K : PySem.W.Frag) (Fz H : Hp) (σ : L2.St) (f : List Addr) (o : Option V) : Sl → Prop
  | .no => f = []
  | .fz d => f = [] ∧ ∃ v, o = some v ∧ Rp K Fz v d
  | .ol xs => ∃ a vs g, o = some (.ref a) ∧ f = a :: g ∧ H a = some (.lst vs) ∧ ElL K Fz H g vs xs
  | .od kvs => ∃ a, o = some (.ref a) ∧ f = [a] ∧ DcR K Fz H a kvs
  | .al x j => f = [] ∧ ∃ a b vs, σ[x]? = some (some (.ref a)) ∧ H a = some (.lst vs) ∧ vs[j]? = some (.ref b) ∧ o = some (.ref b)
  | .ex e => ExH K Fz H f o e
/-- what stays through a body: the ground B, what of it stands still (F0), the slots that stay (pin, as in so) -/
structure Bk where
  B : Hp
  F0 : Hp
  pin : List Nat
  so : L2.St
  T : List (Addr × Str) := []
/-- a mark among the pinned slots: the table of the code objects of lambdas is followed here -/
@[reducible] def mkT : Nat := 1000000
/-- the one table that is followed: that of the def that makes a lambda -/
def TK (K : PySem.W.Frag) : List (Addr × Str) := [((He.cT K ("_law_raised", none)).2, "_law_raised.<locals>.<lambda>")]
/-- no tuple, no table of code objects, no code object -/
def Pl (o : Option HO) : Prop := ∀ ob u, o ≠ some (.frz ob u)
theorem Pl.lst {xs : List V} : Pl (some (.lst xs)) := fun _ _ z => nomatch z
theorem Pl.dK {xs : List (Key × V)} : Pl (some (.dK xs)) := fun _ _ z => nomatch z
theorem Pl.dP {a : Addr} {ep : Nat} {xs : TX} : Pl (some (dPO a ep xs)) := fun _ _ z => nomatch z
theorem Pl.tup {H : Hp} {a : Addr} (h : Pl (H a)) {xs : List V} (e : TP H a xs) : False := h _ _ e.choose_spec
/-- no table of code objects is followed here -/
def Tb (b : Bk) (_Fz _H : Hp) : Prop := b.T = []
theorem Tb.keep {b : Bk} {Fz H H' : Hp} (t : Tb b Fz H) (_k : ∀ a o, H a = some o → ¬Pl (some o) → H' a = some o) : Tb b Fz H' := t
theorem Tb.nil {b : Bk} {Fz H : Hp} (h : b.T = []) : Tb b Fz H := h
theorem Tb.upd {b : Bk} {Fz H : Hp} (t : Tb b Fz H) {a : Addr} {o : HO} (_h : H a = none ∨ Pl (H a)) : Tb b Fz (upd H a o) := t
theorem Tb.fz {b : Bk} {Fz Fz' H : Hp} (t : Tb b Fz H) (_h : ∀ p ∈ b.T, Fz' p.1 = none) : Tb b Fz' H := t
structure Rl (K : PySem.W.Frag) (b : Bk) (Fz : Hp) (F : Nat → List Addr) (δ : List Sl) (σ : L2.St) (H : Hp) : Prop where
  le : Same Fz H
  base : Same b.B H
  len : σ.length = δ.length
  slot : ∀ i s, δ[i]? = some s → SlH K Fz H σ (F i) (σ[i]?.join) s
  nd : ∀ i, (F i).Nodup
  dj : ∀ i j a, a ∈ F i → a ∈ F j → i = j
  offF : ∀ i a, a ∈ F i → Fz a = none
  offB : ∀ i a, a ∈ F i → b.B a = none
  on : ∀ i a, a ∈ F i → H a ≠ none
  keep : ∀ a, b.B a ≠ none → Fz a = b.F0 a ∨ ((∃ xs, TP b.B a xs) ∧ Fz a = b.B a)
  f0 : ∀ a, b.F0 a ≠ none → b.B a ≠ none
  pin : ∀ i ∈ b.pin, σ[i]? = b.so[i]?
  als : ∀ (i x j : Nat), δ[i]? = some (.al x j) → ∃ xs, δ[x]? = some (.ol xs)
  noT : ∀ i a, a ∈ F i → Pl (H a)
  tb : Tb b Fz H
  tp : mkT ∈ b.pin → b.T = TK K
theorem ElL.noT {K : PySem.W.Frag} {Fz H : Hp} : ∀ {f : List Addr} {vs : List V} {es : List El}, ElL K Fz H f vs es → ∀ a ∈ f, Pl (H a)
  | _, _, _, .nil, _, h => nomatch h
  | _, _, _, .cons (e := .fz d) h t, a, ha => by
    rw [h.1, List.nil_append] at ha
    exact t.noT a ha
  | _, _, _, .cons (e := .ow ys) h t, a, ha => by
    obtain ⟨c, vs, _, e2, e3, _⟩ := h
    rw [e2] at ha
    rcases List.mem_append.mp ha with z | z
    · rw [List.mem_singleton] at z
      subst z
      rw [e3]
      exact .lst
    · exact t.noT a z
theorem DcR.noT {K : PySem.W.Frag} {Fz H : Hp} {c : Addr} {kvs : List (PyData × PyData)} (h : DcR K Fz H c kvs) : Pl (H c) := by
  rcases h with ⟨ws, ⟨h1, _⟩, _⟩ | ⟨ws, ⟨xs, ep, h1, _⟩, _⟩ <;> rw [h1]
  · exact .dK
  · exact .dP
theorem PaR.noT {K : PySem.W.Frag} {Fz H : Hp} {f : List Addr} {v : V} {e : Pa} (h : PaR K Fz H f v e) : ∀ a ∈ f, Pl (H a) := fun a ha => by
  cases e with
  | fz d => rw [h.1] at ha; cases ha
  | ow ys =>
    obtain ⟨c, vs, _, e2, e3, _⟩ := h
    rw [e2, List.mem_singleton] at ha
    subst ha
    rw [e3]
    exact .lst
  | od kvs =>
    obtain ⟨c, _, e2, e3⟩ := h
    rw [e2, List.mem_singleton] at ha
    subst ha
    exact e3.noT
theorem PaL.noT {K : PySem.W.Frag} {Fz H : Hp} : ∀ {f : List Addr} {vs : List V} {es : List Pa}, PaL K Fz H f vs es → ∀ a ∈ f, Pl (H a)
  | _, _, _, .nil, _, h => nomatch h
  | _, _, _, .cons h t, a, ha => by
    rcases List.mem_append.mp ha with z | z
    · exact h.noT a z
    · exact t.noT a z
theorem FdL.noT {K : PySem.W.Frag} {Fz H : Hp} : ∀ {f : List Addr} {vs : List (Str × V)} {es : List (Str × Pa)}, FdL K Fz H f vs es → ∀ a ∈ f, Pl (H a)
  | _, _, _, .nil, _, h => nomatch h
  | _, _, _, .cons h t, a, ha => by
    rcases List.mem_append.mp ha with z | z
    · exact h.noT a z
    · exact t.noT a z
theorem ItL.noT {K : PySem.W.Frag} {Fz H : Hp} {c : Str} : ∀ {f : List Addr} {vs : List V} {its : List (List (Str × Pa) × List PyData)}, ItL K Fz H c f vs its → ∀ a ∈ f, Pl (H a)
  | _, _, _, .nil, _, h => nomatch h
  | _, _, _, .cons h1 h2 h3 h4 h5 h6 t, a, ha => by
    rcases List.mem_append.mp ha with z | z
    · rcases List.mem_cons.mp z with z | z
      · subst z
        rw [h2]
        exact fun _ _ z => nomatch z
      · rcases List.mem_cons.mp z with z | z
        · subst z
          rw [h3]
          exact fun _ _ z => nomatch z
        · rcases List.mem_cons.mp z with z | z
          · subst z
            rw [h5]
            exact .lst
          · exact h4.noT a z
    · exact t.noT a z
theorem InL.noT {K : PySem.W.Frag} {Fz H : Hp} {c : Str} : ∀ {f : List Addr} {vs : List V} {fss : List (List (Str × Pa))}, InL K Fz H c f vs fss → ∀ a ∈ f, Pl (H a)
  | _, _, _, .nil, _, h => nomatch h
  | _, _, _, .cons h2 h3 h4 t, a, ha => by
    rcases List.mem_append.mp ha with z | z
    · rcases List.mem_cons.mp z with z | z
      · subst z
        rw [h2]
        exact fun _ _ z => nomatch z
      · rcases List.mem_cons.mp z with z | z
        · subst z
          rw [h3]
          exact fun _ _ z => nomatch z
        · exact h4.noT a z
    · exact t.noT a z
theorem ExH.noT {K : PySem.W.Frag} {Fz H : Hp} {f : List Addr} {o : Option V} {e : Ex} (h : ExH K Fz H f o e) : ∀ a ∈ f, Pl (H a) := fun a ha => by
  cases e with
  | ot xs =>
    obtain ⟨c, vs, _, _, e4⟩ := h
    exact e4.noT a ha
  | ob c fs =>
    obtain ⟨p, dx, vs, g, _, e2, e3, e4, e5⟩ := h
    rw [e2] at ha
    rcases List.mem_cons.mp ha with z | z
    · subst z
      rw [e3]
      exact fun _ _ z => nomatch z
    · rcases List.mem_cons.mp z with z | z
      · subst z
        rw [e4]
        exact fun _ _ z => nomatch z
      · exact e5.noT a z
  | lp c its =>
    obtain ⟨p, vs, g, _, e2, e3, e4⟩ := h
    rw [e2] at ha
    rcases List.mem_cons.mp ha with z | z
    · subst z
      rw [e3]
      exact .lst
    · exact e4.noT a z
  | li c fss =>
    obtain ⟨p, vs, g, _, e2, e3, e4⟩ := h
    rw [e2] at ha
    rcases List.mem_cons.mp ha with z | z
    · subst z
      rw [e3]
      exact .lst
    · exact e4.noT a z
  | dt kvs =>
    obtain ⟨p, ws, _, e2, e3, e4⟩ := h
    rw [e2, List.mem_singleton] at ha
    subst ha
    exact DcR.noT (K := K) (Fz := Fz) (kvs := kvs) (.inr ⟨ws, e3, e4⟩)
/-- what a slot owns is plain -/
theorem SlH.noT {K : PySem.W.Frag} {Fz H : Hp} {σ : L2.St} {f : List Addr} {o : Option V} {s : Sl} (h : SlH K Fz H σ f o s) : ∀ a ∈ f, Pl (H a) := fun a ha => by
  cases s with
  | no => rw [show f = [] from h] at ha; cases ha
  | fz d => rw [h.1] at ha; cases ha
  | al x j => rw [h.1] at ha; cases ha
  | ol ys =>
    obtain ⟨c, vs, g, _, e2, e3, e4⟩ := h
    rw [e2] at ha
    rcases List.mem_cons.mp ha with z | z
    · subst z
      rw [e3]
      exact .lst
    · exact e4.noT a z
  | od kvs =>
    obtain ⟨c, _, e2, e3⟩ := h
    rw [e2, List.mem_singleton] at ha
    subst ha
    exact e3.noT
  | ex e => exact ExH.noT h a ha
theorem ElR.keeps {K : PySem.W.Frag} {Fz Fz' H H' : Hp} {f : List Addr} {v : V} {e : El} (h : ElR K Fz H f v e) (hF : Same Fz Fz') (hH : ∀ a ∈ f, H' a = H a) : ElR K Fz' H' f v e := by
  cases e with
  | fz d => exact ⟨h.1, h.2.mono hF⟩
  | ow xs =>
    obtain ⟨a, vs, e1, e2, e3, e4⟩ := h
    exact ⟨a, vs, e1, e2, (hH a (by simp [e2])).trans e3, e4.mono hF⟩
theorem ElL.keeps {K : PySem.W.Frag} {Fz Fz' H H' : Hp} : ∀ {f : List Addr} {vs : List V} {es : List El}, ElL K Fz H f vs es → Same Fz Fz' → (∀ a ∈ f, H' a = H a) → ElL K Fz' H' f vs es
  | _, _, _, .nil, _, _ => .nil
  | _, _, _, .cons h t, hF, hH => .cons (h.keeps hF fun a ha => hH a (List.mem_append_left _ ha)) (t.keeps hF fun a ha => hH a (List.mem_append_right _ ha))
theorem DcR.keeps {K : PySem.W.Frag} {Fz Fz' H H' : Hp} {a : Addr} {kvs : List (PyData × PyData)} (h : DcR K Fz H a kvs) (hF : Same Fz Fz') (hH : H' a = H a) : DcR K Fz' H' a kvs := by
  rcases h with ⟨ws, h1, h2⟩ | ⟨ws, h1, h2⟩
  · exact .inl ⟨ws, ⟨hH.trans h1.1, h1.2⟩, h2.mono hF⟩
  · exact .inr ⟨ws, h1.mono hF hH, h2.mono hF⟩
theorem PaR.keeps {K : PySem.W.Frag} {Fz Fz' H H' : Hp} {f : List Addr} {v : V} {e : Pa} (h : PaR K Fz H f v e) (hF : Same Fz Fz') (hH : ∀ a ∈ f, H' a = H a) : PaR K Fz' H' f v e := by
  cases e with
  | fz d => exact ⟨h.1, h.2.mono hF⟩
  | ow xs =>
    obtain ⟨a, vs, e1, e2, e3, e4⟩ := h
    exact ⟨a, vs, e1, e2, (hH a (by simp [e2])).trans e3, e4.mono hF⟩
  | od kvs =>
    obtain ⟨a, e1, e2, e3⟩ := h
    exact ⟨a, e1, e2, e3.keeps hF (hH a (by simp [e2]))⟩
theorem PaL.keeps {K : PySem.W.Frag} {Fz Fz' H H' : Hp} : ∀ {f : List Addr} {vs : List V} {es : List Pa}, PaL K Fz H f vs es → Same Fz Fz' → (∀ a ∈ f, H' a = H a) → PaL K Fz' H' f vs es
  | _, _, _, .nil, _, _ => .nil
  | _, _, _, .cons h t, hF, hH => .cons (h.keeps hF fun a ha => hH a (List.mem_append_left _ ha)) (t.keeps hF fun a ha => hH a (List.mem_append_right _ ha))
theorem FdL.keeps {K : PySem.W.Frag} {Fz Fz' H H' : Hp} : ∀ {f : List Addr} {vs : List (Str × V)} {es : List (Str × Pa)}, FdL K Fz H f vs es → Same Fz Fz' → (∀ a ∈ f, H' a = H a) → FdL K Fz' H' f vs es
  | _, _, _, .nil, _, _ => .nil
  | _, _, _, .cons h t, hF, hH => .cons (h.keeps hF fun a ha => hH a (List.mem_append_left _ ha)) (t.keeps hF fun a ha => hH a (List.mem_append_right _ ha))
theorem ItL.keeps {K : PySem.W.Frag} {Fz Fz' H H' : Hp} {c : Str} : ∀ {f : List Addr} {vs : List V} {its : List (List (Str × Pa) × List PyData)}, ItL K Fz H c f vs its → Same Fz Fz' → (∀ a ∈ f, H' a = H a) → ItL K Fz' H' c f vs its
  | _, _, _, .nil, _, _ => .nil
  | _, _, _, .cons h1 h2 h3 h4 h5 h6 t, hF, hH => .cons (h1.mono hF) ((hH _ (by simp)).trans h2) ((hH _ (by simp)).trans h3) (h4.keeps hF fun a ha => hH a (by simp [ha])) ((hH _ (by simp)).trans h5) (h6.mono hF) (t.keeps hF fun a ha => hH a (List.mem_append_right _ ha))
theorem InL.keeps {K : PySem.W.Frag} {Fz Fz' H H' : Hp} {c : Str} : ∀ {f : List Addr} {vs : List V} {fss : List (List (Str × Pa))}, InL K Fz H c f vs fss → Same Fz Fz' → (∀ a ∈ f, H' a = H a) → InL K Fz' H' c f vs fss
  | _, _, _, .nil, _, _ => .nil
  | _, _, _, .cons h2 h3 h4 t, hF, hH => .cons ((hH _ (by simp)).trans h2) ((hH _ (by simp)).trans h3) (h4.keeps hF fun a ha => hH a (by simp [ha])) (t.keeps hF fun a ha => hH a (List.mem_append_right _ ha))
theorem ExH.keeps {K : PySem.W.Frag} {Fz Fz' H H' : Hp} {f : List Addr} {o : Option V} {e : Ex} (h : ExH K Fz H f o e) (hF : Same Fz Fz') (hH : ∀ a ∈ f, H' a = H a) : ExH K Fz' H' f o e := by
  cases e with
  | ot xs =>
    obtain ⟨a, vs, e1, e2, e3⟩ := h
    exact ⟨a, vs, e1, e2.mono hF, e3.keeps hF hH⟩
  | ob c fs =>
    obtain ⟨p, dx, vs, g, e1, e2, e3, e4, e5⟩ := h
    subst e2
    exact ⟨p, dx, vs, g, e1, rfl, (hH p (by simp)).trans e3, (hH dx (by simp)).trans e4, e5.keeps hF fun a ha => hH a (by simp [ha])⟩
  | lp c its =>
    obtain ⟨p, vs, g, e1, e2, e3, e4⟩ := h
    subst e2
    exact ⟨p, vs, g, e1, rfl, (hH p (by simp)).trans e3, e4.keeps hF fun a ha => hH a (by simp [ha])⟩
  | li c fss =>
    obtain ⟨p, vs, g, e1, e2, e3, e4⟩ := h
    subst e2
    exact ⟨p, vs, g, e1, rfl, (hH p (by simp)).trans e3, e4.keeps hF fun a ha => hH a (by simp [ha])⟩
  | dt kvs =>
    obtain ⟨p, ws, e1, e2, e3, e4⟩ := h
    subst e2
    exact ⟨p, ws, e1, rfl, e3.mono hF (hH p (by simp)), e4.mono hF⟩
/-- the slot's own objects, and (for an item of another slot) its list, are as they were -/
theorem SlH.keeps {K : PySem.W.Frag} {Fz Fz' H H' : Hp} {σ : L2.St} {f : List Addr} {o : Option V} {s : Sl} (h : SlH K Fz H σ f o s) (hF : Same Fz Fz') (hH : ∀ a ∈ f, H' a = H a)
    (hA : ∀ x j, s = .al x j → ∀ a, σ[x]? = some (some (.ref a)) → H' a = H a) : SlH K Fz' H' σ f o s := by
  cases s with
  | no => exact h
  | fz d =>
    obtain ⟨e, v, e2, r⟩ := h
    exact ⟨e, v, e2, r.mono hF⟩
  | ol xs =>
    obtain ⟨a, vs, g, e1, e2, e3, e4⟩ := h
    exact ⟨a, vs, g, e1, e2, (hH a (by simp [e2])).trans e3, e4.keeps hF fun c hc => hH c (by simp [e2, hc])⟩
  | od kvs =>
    obtain ⟨a, e1, e2, e3⟩ := h
    exact ⟨a, e1, e2, e3.keeps hF (hH a (by simp [e2]))⟩
  | al x j =>
    obtain ⟨e, a, b, vs, e1, e2, e3, e4⟩ := h
    exact ⟨e, a, b, vs, e1, (hA x j rfl a e1).trans e2, e3, e4⟩
  | ex e => exact ExH.keeps h hF hH
theorem upd_new {H : Hp} {p b : Addr} {o : HO} (n : H p = none) (h : H b ≠ none) : upd H p o b = H b := upd_ne fun e => h (by rw [e]; exact n)
theorem same_new {H : Hp} {p : Addr} {o : HO} (n : H p = none) : Same H (upd H p o) := fun b x e => by
  rw [upd_new n (by rw [e]; simp)]
  exact e
section
variable {K : PySem.W.Frag} {b : Bk} {Fz : Hp} {F : Nat → List Addr} {δ : List Sl} {σ : L2.St} {H : Hp}
/-- the heap grew -/
theorem Rl.grow (R : Rl K b Fz F δ σ H) {H' : Hp} (s : Same H H') : Rl K b Fz F δ σ H' where
  le := R.le.trans s
  base := R.base.trans s
  len := R.len
  slot := fun i s' e => (R.slot i s' e).keeps (Same.refl _) (fun a ha => by
    cases q : H a with
    | none => exact absurd q (R.on i a ha)
    | some o => exact s a o q) fun x j _ a ha => by
      cases q : H a with
      | some o => exact s a o q
      | none =>
        rename_i e2
        subst e2
        obtain ⟨_, a', _, vs, e1, e2, _⟩ := R.slot i _ e
        rw [ha] at e1
        cases e1
        rw [q] at e2
        cases e2
  nd := R.nd
  dj := R.dj
  offF := R.offF
  offB := R.offB
  on := fun i a ha => by
    cases q : H a with
    | none => exact absurd q (R.on i a ha)
    | some o =>
      rw [s a o q]
      simp
  keep := R.keep
  f0 := R.f0
  pin := R.pin
  als := R.als
  noT := fun i a ha => by
    cases q : H a with
    | none => exact absurd q (R.on i a ha)
    | some o =>
      rw [s a o q, ← q]
      exact R.noT i a ha
  tb := R.tb.keep fun a o e _ => s a o e
  tp := R.tp
theorem Rl.new (R : Rl K b Fz F δ σ H) {p : Addr} (n : H p = none) (o : HO) : Rl K b Fz F δ σ (upd H p o) := R.grow (same_new n)
theorem Rl.offN (R : Rl K b Fz F δ σ H) {p : Addr} (n : H p = none) : Fz p = none ∧ b.B p = none ∧ ∀ i, p ∉ F i := by
  refine ⟨?_, ?_, fun i hi => R.on i p hi n⟩
  · cases q : Fz p with
    | none => rfl
    | some o =>
      have := R.le p o q
      rw [n] at this
      cases this
  · cases q : b.B p with
    | none => rfl
    | some o =>
      have := R.base p o q
      rw [n] at this
      cases this
/-- more stands still: objects at hand that nobody owns, outside the ground, or tuples -/
theorem Rl.freezeT (R : Rl K b Fz F δ σ H) {Fz' : Hp} (s : Same Fz Fz') (le : Same Fz' H) (off : ∀ a, Fz a = none → Fz' a ≠ none → (b.B a = none ∧ ∀ i, a ∉ F i) ∨ ∃ xs, TP H a xs) (ht : ∀ p ∈ b.T, Fz' p.1 = none) : Rl K b Fz' F δ σ H where
  le := le
  base := R.base
  len := R.len
  slot := fun i s' e => (R.slot i s' e).keeps s (fun _ _ => rfl) fun _ _ _ _ _ => rfl
  nd := R.nd
  dj := R.dj
  offF := fun i a ha => by
    cases q : Fz' a with
    | none => rfl
    | some o =>
      rcases off a (R.offF i a ha) (by rw [q]; simp) with z | ⟨xs, z⟩
      · exact absurd ha (z.2 i)
      · exact ((R.noT i a ha).tup z).elim
  offB := R.offB
  on := R.on
  keep := fun a ha => by
    rcases R.keep a ha with k | ⟨⟨xs, k1⟩, k2⟩
    · cases q : Fz a with
      | some o => exact .inl (by rw [← k, q]; exact s a o q)
      | none =>
        cases q' : Fz' a with
        | none => exact .inl (by rw [← k, q])
        | some o =>
          rcases off a q (by rw [q']; simp) with z | ⟨xs, z⟩
          · exact absurd z.1 ha
          · have h1 := le a o q'
            obtain ⟨its, z⟩ := z
            rw [z] at h1
            cases h1
            cases qb : b.B a with
            | none => exact absurd qb ha
            | some o' =>
              have h2 := R.base a o' qb
              rw [z] at h2
              cases h2
              exact .inr ⟨⟨xs, its, qb⟩, rfl⟩
    · obtain ⟨its, k1⟩ := k1
      exact .inr ⟨⟨xs, its, k1⟩, by rw [k1] at k2 ⊢; exact s a _ k2⟩
  f0 := R.f0
  pin := R.pin
  als := R.als
  noT := R.noT
  tb := R.tb.fz ht
  tp := R.tp
theorem Rl.freeze (R : Rl K b Fz F δ σ H) {Fz' : Hp} (s : Same Fz Fz') (le : Same Fz' H) (off : ∀ a, Fz a = none → Fz' a ≠ none → b.B a = none ∧ ∀ i, a ∉ F i) (ht : ∀ p ∈ b.T, Fz' p.1 = none) : Rl K b Fz' F δ σ H :=
  R.freezeT s le (fun a h1 h2 => .inl (off a h1 h2)) ht
end
end Hb
namespace Hb
open PySem PySem.Spec PyProof.Rows L2
/-- a new tuple, known to the object -/
@[reducible] def nT (its : Array Value) (xs : List V) : HO := .frz (tupO its) (.tup xs)
theorem TP.new {H : Hp} {p : Addr} {its : Array Value} {xs : List V} : TP (upd H p (nT its xs)) p xs := ⟨its, upd_same⟩
section
variable {P : Program} {w : World} {H : Hp} {h : Heap} {a : Addr}
theorem okT {its : List Value} {xs : List V} (e : h.get? a = some (tupO its.toArray)) (r : Vals xs its) (z : xs.length ≤ sizeLine) : ObjOk P w H h a (nT its.toArray xs) :=
  ⟨e, z, its, r, _, e, rfl, _, rfl⟩
end
section
variable {X : Cx} {pins : List (Addr × Obj)} {σ : L2.St} {H : Hp} {s : Shared}
theorem layT (I : Inv X pins σ H s) {its : List Value} {xs : List V} (r : Vals xs its) (z : xs.length ≤ sizeLine) (k : Nat) :
    H s.heap.objs.size = none ∧ Inv X pins σ (upd H s.heap.objs.size (nT its.toArray xs)) { s with heap := s.heap.push (tupO its.toArray), toks := k } :=
  ⟨I.hok.fresh (Nat.le_refl _), I.laid (t' := k) (fun _ _ g => Heap.get?_push_of_some _ g) (Nat.le_refl _) (okT (Heap.get?_push_size _ rfl) r z)⟩
end
section
variable {X : Cx} {es : List Expr} {t : TA} {pos : Pos}
def tTupP (t : TA) : TE := fun σ H Q => t σ H fun xs G => xs.length ≤ sizeLine ∧ ∀ p its, G p = none → Q (.ref p) (upd G p (nT its xs))
theorem pe_tupP {k : Nat} (hes : PA X es t) : PE X (.Tuple es k pos) (tTupP t) :=
  ⟨fun pins s0 σ H Q I0 q0 => wpAny_Tuple_spliced (thn (hes.run pos pins s0 σ H _ I0 q0) fun us s1 ⟨xs, G, I1, rl, hz, q⟩ => ⟨rl.length ▸ hz, .ref _, _, (layT I1 rl hz s1.toks).2, rfl, q _ _ (layT I1 rl hz 0).1⟩)⟩
/-- t + u -/
def rCatP (K : PySem.W.Frag) : R2 := fun x y H Q => ∃ a b xs ys, x = .ref a ∧ y = .ref b ∧ SqT K H a xs ∧ SqT K H b ys ∧ xs.length + ys.length ≤ sizeLine ∧
  (xs = [] → Q (.ref b) H) ∧ (xs ≠ [] → ys = [] → Q (.ref a) H) ∧ (xs ≠ [] → ys ≠ [] → ∀ p its, H p = none → Q (.ref p) (upd H p (nT its (xs ++ ys))))
theorem op_catP : OpR X (binaryOp .Add) (rCatP X.K) := fun pins s σ H x y v u Q I rx ry ⟨a, b, xs, ys, ex, ey, ha, hb, hz, q0, q1, q2⟩ => by
  subst ex ey
  cases rx
  cases ry
  obtain ⟨us, rl, it, _⟩ := I.tuple ha
  obtain ⟨ws, rl2, it2, _⟩ := I.tuple hb
  by_cases hx : xs = []
  · have eu : us = [] := (rl.nil_iff).mpr hx
    subst eu
    exact cat_tup0 it it2 ⟨.ref _, _, I, rfl, q0 hx⟩
  · have L := layT I (rl.append rl2) (by rw [List.length_append]; exact hz) s.toks
    exact HT.cat_tup it it2 (fun z => hx (rl.nil_iff.mp z)) (fun z => ⟨.ref _, _, I, rfl, q1 hx (rl2.nil_iff.mp z)⟩) (fun z => ⟨.ref _, _, L.2, rfl, q2 hx (fun e => z (rl2.nil_iff.mpr e)) _ _ L.1⟩) (by rw [← rl.length, ← rl2.length]; exact hz)
/-- tuple(list), tuple(t) -/
theorem call_tupleP : CallR X (.type "tuple") (fun xs H Q => ∃ p ys, xs = [.ref p] ∧ ((SqL X.K H p ys ∧ ∀ l its, H l = none → Q (.ref l) (upd H l (nT its ys))) ∨ (SqT X.K H p ys ∧ Q (.ref p) H))) :=
  fun pins s σ H xs us Q I r ⟨p, ys, ex, h⟩ => by
  subst ex
  obtain ⟨u, eu, ru⟩ := vals1 r
  subst eu
  cases ru
  rcases h with ⟨hl, q⟩ | ⟨ht, q⟩
  · obtain ⟨its, rl, pl, hz⟩ := I.list hl
    refine call_tuple_list pl.isList (fun g kp => ?_) (by have := rl.length; simp only [List.size_toArray]; omega)
    have J : Inv X pins σ H { s with heap := g } := I.kept (t' := s.toks) kp
    have L := layT J rl hz s.toks
    exact ⟨.ref _, _, L.2, rfl, q _ _ L.1⟩
  · obtain ⟨_, _, pl, _⟩ := I.tuple ht
    exact call_tuple_same pl ⟨.ref _, _, I, rfl, q⟩
end
/-- a turn that lays a new pair -/
theorem turn2 {X : Cx} {pins : List (Addr × Obj)} {σ : L2.St} {H : Hp} {s : Shared} {ch : List Addr} {h' : Heap} {k : Nat} {u1 u2 : Value} {x1 x2 : V} (I : Inv X pins σ H s) (hf : ∀ b ∈ ch, FpOk X pins H b)
    (kp : ∀ b o, b ∉ ch → s.heap.get? b = some o → h'.get? b = some o) (hT : h'.get? s.heap.objs.size = some (tupO #[u1, u2])) (r1 : RelV x1 u1) (r2 : RelV x2 u2) :
    Inv X pins σ (upd H s.heap.objs.size (nT #[u1, u2] [x1, x2])) { s with heap := h', toks := k } :=
  I.turnedNew kp hf (Nat.le_refl _) (okT (its := [u1, u2]) hT (.cons r1 (.cons r2 .nil)) (by show 2 ≤ sizeLine; decide))
def ItzP (K : PySem.W.Frag) (a b : Addr) : It where
  go := (Itz K a b).go
  yld := fun i H v H' => ∃ T x y its, v = .ref T ∧ H T = none ∧ H' = upd H T (nT its [x, y]) ∧ (∀ xs, SqL K H a xs → xs[i]? = some x) ∧ ∀ ys, SqL K H b ys → ys[i]? = some y
  stop := (Itz K a b).stop
def ItzTP (K : PySem.W.Frag) (a b : Addr) : It where
  go := (RZ.ItzT K a b).go
  yld := fun i H v H' => ∃ T x y its, v = .ref T ∧ H T = none ∧ H' = upd H T (nT its [x, y]) ∧ (∀ xs, SqT K H a xs → xs[i]? = some x) ∧ ∀ ys, SqT K H b ys → ys[i]? = some y
  stop := (RZ.ItzT K a b).stop
/-- what stands behind a turn of a zip -/
theorem zip_fp {X : Cx} {pins : List (Addr × Obj)} {H : Hp} {h : Heap} {z TI TO i1 i2 p : Addr} {o : HO} (hp : h.objs.size = p) (l : z < h.objs.size ∧ TI < h.objs.size ∧ TO < h.objs.size ∧ i1 < h.objs.size ∧ i2 < h.objs.size)
    (hf : ∀ b ∈ [z, TI, TO, i1, i2], FpOk X pins H b) : ∀ b ∈ [z, TI, TO, i1, i2], upd H p o b = none := fun b hb => by
  have lb : b < h.objs.size := by
    have e : b = z ∨ b = TI ∨ b = TO ∨ b = i1 ∨ b = i2 := by simpa using hb
    rcases e with q | q | q | q | q <;> (rw [q]; first | exact l.1 | exact l.2.1 | exact l.2.2.1 | exact l.2.2.2.1 | exact l.2.2.2.2)
  rw [upd_ne (hp ▸ Nat.ne_of_lt lb)]
  exact (hf b hb).1
theorem turn_zipP {P : Program} {w : World} {K : PySem.W.Frag} {elts : List Expr} {kk : Nat} {tpos : Pos} {a b z TI TO i1 i2 : Addr} (D : ZipApart z TI TO i1 i2 a b) :
    Turn P w K (.Tuple elts kk tpos) (ItzP K a b) [z, TI, TO, i1, i2] z (fun i h => IsZip h z TI TO .none ∧ IsPair h TI (.ref i1) (.ref i2) ∧ (∃ x y, IsPair h TO x y) ∧ h.IsListIter i1 a i ∧ h.IsListIter i2 b i) :=
  have T0 := turn_zip (P := P) (w := w) (K := K) (elts := elts) (kk := kk) (tpos := tpos) D
  {
    mem := T0.mem, obj := T0.obj, keep := T0.keep, done := T0.done, self := T0.self
    item := by
      intro X hP hw hK hc i pins s σ H E I hf ⟨hz, hTI, ⟨x0, y0, hTO⟩, h1, h2⟩ ⟨xs, ys, x, y, qx, qy, ex, ey⟩
      subst hP hw hK
      obtain ⟨us, rv, pl, _⟩ := I.list qx
      obtain ⟨us2, rv2, pl2, _⟩ := I.list qy
      obtain ⟨u, hu, ru⟩ := rv.get ex
      obtain ⟨u2, hu2, ru2⟩ := rv2.get ey
      refine wpAny_pyNext_zip_item D hz hTI hTO h1 h2 pl.isList pl2.isList (x := u) (y := u2) (by simpa using hu) (by simpa using hu2) fun g gz gO g1 g2 gT _ gk => ?_
      refine ⟨_, rfl, wpAny_letOwnedTupleGo_zip (s := { s with heap := g }) gz fun f fz sb => ?_⟩
      have J := turn2 (k := s.toks) I hf (h' := f) (fun c o nb q => (sb.2 c fun e => nb (by simp [e])).trans (gk c o (fun e => nb (by simp [e])) (fun e => nb (by simp [e])) (fun e => nb (by simp [e])) (fun e => nb (by simp [e])) q))
        ((sb.2 _ (Nat.ne_of_gt (Heap.lt_size hz))).trans gT) ru ru2
      exact ⟨.ref _, _, J, rfl, ⟨_, x, y, _, rfl, I.hok.fresh (Nat.le_refl _), rfl, fun l hl => by rw [I.list_inj hl qx, ex], fun l hl => by rw [I.list_inj hl qy, ey]⟩,
        ⟨fz, (sb.2 _ D.TIz).trans (gk _ _ D.TIz D.TITO D.TIi1 D.TIi2 hTI), ⟨u, u2, (sb.2 _ D.TOz).trans gO⟩, g1.at fun o q => (sb.2 _ D.i1z).trans q, g2.at fun o q => (sb.2 _ D.i2z).trans q⟩,
        zip_fp rfl ⟨Heap.lt_size hz, Heap.lt_size hTI, Heap.lt_size hTO, h1.elim fun _ q => Heap.lt_size q.1, h2.elim fun _ q => Heap.lt_size q.1⟩ hf⟩ }
theorem turn_zipTP {P : Program} {w : World} {K : PySem.W.Frag} {elts : List Expr} {kk : Nat} {tpos : Pos} {a b z TI TO i1 i2 : Addr} (D : ZipApart z TI TO i1 i2 a b) :
    Turn P w K (.Tuple elts kk tpos) (ItzTP K a b) [z, TI, TO, i1, i2] z (fun i h => IsZip h z TI TO .none ∧ IsPair h TI (.ref i1) (.ref i2) ∧ (∃ x y, IsPair h TO x y) ∧ h.IsTupleIter i1 a i ∧ h.IsTupleIter i2 b i) :=
  have T0 := RZ.turn_zipT (P := P) (w := w) (K := K) (elts := elts) (kk := kk) (tpos := tpos) D
  {
    mem := T0.mem, obj := T0.obj, keep := T0.keep, done := T0.done, self := T0.self
    item := by
      intro X hP hw hK hc i pins s σ H E I hf ⟨hz, hTI, ⟨x0, y0, hTO⟩, h1, h2⟩ ⟨xs, ys, x, y, qx, qy, ex, ey⟩
      subst hP hw hK
      obtain ⟨us, rv, pl, _⟩ := I.tuple qx
      obtain ⟨us2, rv2, pl2, _⟩ := I.tuple qy
      obtain ⟨u, hu, ru⟩ := rv.get ex
      obtain ⟨u2, hu2, ru2⟩ := rv2.get ey
      refine RZ.pyNext_zipT_item D hz hTI hTO h1 h2 pl pl2 (x := u) (y := u2) (by simpa using hu) (by simpa using hu2) fun g gz gO g1 g2 gT _ gk => ?_
      refine ⟨_, rfl, wpAny_letOwnedTupleGo_zip (s := { s with heap := g }) gz fun f fz sb => ?_⟩
      have J := turn2 (k := s.toks) I hf (h' := f) (fun c o nb q => (sb.2 c fun e => nb (by simp [e])).trans (gk c o (fun e => nb (by simp [e])) (fun e => nb (by simp [e])) (fun e => nb (by simp [e])) (fun e => nb (by simp [e])) q))
        ((sb.2 _ (Nat.ne_of_gt (Heap.lt_size hz))).trans gT) ru ru2
      exact ⟨.ref _, _, J, rfl, ⟨_, x, y, _, rfl, I.hok.fresh (Nat.le_refl _), rfl, fun l hl => by rw [I.tuple_inj hl qx, ex], fun l hl => by rw [I.tuple_inj hl qy, ey]⟩,
        ⟨fz, (sb.2 _ D.TIz).trans (gk _ _ D.TIz D.TITO D.TIi1 D.TIi2 hTI), ⟨u, u2, (sb.2 _ D.TOz).trans gO⟩, g1.at fun o q => (sb.2 _ D.i1z).trans q, g2.at fun o q => (sb.2 _ D.i2z).trans q⟩,
        zip_fp rfl ⟨Heap.lt_size hz, Heap.lt_size hTI, Heap.lt_size hTO, h1.elim fun _ q => Heap.lt_size q.1, h2.elim fun _ q => Heap.lt_size q.1⟩ hf⟩ }
def iZipP (K : PySem.W.Frag) (ta : TA) : TI := fun σ H R => ta σ H fun vs G => ∃ a b xs ys, vs = [.ref a, .ref b] ∧ ((SqL K G a xs ∧ SqL K G b ys ∧ R (ItzP K a b) G) ∨ (SqT K G a xs ∧ SqT K G b ys ∧ R (ItzTP K a b) G))
theorem pi_zipP {X : Cx} {e e2 : Expr} {ta : TA} {p pos tpos : Pos} {elts : List Expr} {kk : Nat} (hg : Gl X "zip") (hm : X.mg "zip" = none) (ha : PA X [e, e2] ta)
    (hs : starEach [e, e2] X.env = (false, eval e X.env) :: starEach [e2] X.env := by rfl) (hpl : (backTo pos (starEach [e2] X.env)).any (·.1) = false := by rfl) :
    PI X (.Tuple elts kk tpos) (.Call (.Name "zip" p) [e, e2] [] pos) (iZipP X.K ta) :=
  ⟨fun pins s σ H R I h => Call_ (ld_blt I hg hm PyProof.Rows.boot_zip (PyProof.Rows.callWith_type1 (thn (ha.run pos pins s σ H _ I h) fun us s1 ⟨vs, G, I1, r1, a, b, xs, ys, ex, q1⟩ => by
    subst ex
    obtain ⟨u, u2, eu, ru, ru2⟩ := Vals.two r1
    subst eu
    cases ru
    cases ru2
    have fresh5 : ∀ c ∈ [s1.heap.objs.size + 4, s1.heap.objs.size + 2, s1.heap.objs.size + 3, s1.heap.objs.size, s1.heap.objs.size + 1], FpOk X pins G c := fun c hc => by
      have e5 : c = s1.heap.objs.size + 4 ∨ c = s1.heap.objs.size + 2 ∨ c = s1.heap.objs.size + 3 ∨ c = s1.heap.objs.size ∨ c = s1.heap.objs.size + 1 := by simpa using hc
      have lc : s1.heap.objs.size ≤ c := by omega
      exact I1.fpOk lc (I1.hok.fresh lc)
    rcases q1 with ⟨qx, qy, q⟩ | ⟨qx, qy, q⟩
    · obtain ⟨_, _, pl, _⟩ := I1.list qx
      obtain ⟨_, _, pl2, _⟩ := I1.list qy
      exact call_zip_2 pl.isList pl2.isList fun g hz hTI hTO h1 h2 _ hk => wpAny_pyIter_zip hz ⟨_, _, _, _, G, rfl, I1.kept (t' := s1.toks) hk, turn_zipP (PySem.W.ktu_apart s1.heap.objs.size a b pl.lt pl2.lt), ⟨hz, hTI, ⟨_, _, hTO⟩, h1, h2⟩, fresh5, q⟩
    · obtain ⟨us, _, pl, _⟩ := I1.tuple qx
      obtain ⟨us2, _, pl2, _⟩ := I1.tuple qy
      exact RZ.call_zipT (show s1.heap.IsTuple a us.toArray from pl) (show s1.heap.IsTuple b us2.toArray from pl2) fun g hz hTI hTO h1 h2 _ hk => wpAny_pyIter_zip hz
        ⟨_, _, _, _, G, rfl, I1.kept (t' := s1.toks) hk, turn_zipTP (PySem.W.ktu_apart s1.heap.objs.size a b pl.lt pl2.lt), ⟨hz, hTI, ⟨_, _, hTO⟩, h1, h2⟩, fresh5, q⟩) hs hpl))⟩
section
variable {X : Cx} {o e : Expr} {to : TE} {t : TA} {name : Str} {apos cpos : Pos} {id : String} {r : V → List V → Hp → VK → Prop}
end
end Hb
namespace Hb
open PySem PySem.Spec PyProof.Rows L2
/-- tuples that are known, seen as tuples alone -/
def unT (H : Hp) : Hp := fun b => match H b with
  | some (.frz _ (.tup xs)) => some (.tup xs)
  | o => o
theorem TP.un {H : Hp} {a : Addr} {xs : List V} (h : TP H a xs) : unT H a = some (.tup xs) := by
  obtain ⟨its, e⟩ := h
  unfold unT
  rw [e]
theorem KTP.un {H : Hp} {ws : List (List Key × V)} {xs : TX} (h : KTP H ws xs) : KT (unT H) ws xs := Paired.mapP h fun _ _ z => ⟨z.1, z.2.2.1.un, z.2.2.2⟩
theorem KTP.val {H : Hp} {ws : List (List Key × V)} {xs : TX} (h : KTP H ws xs) (k : List Key) : RelO (valV ws k) ((atKey xs k).map (·.2)) := h.un.val k
theorem KTP.any {H : Hp} {ws : List (List Key × V)} {xs : TX} (h : KTP H ws xs) (k : List Key) : (ws.any fun kv => decide (kv.1 = k)) = (atKey xs k).isSome := by
  rw [valV_any, (h.val k).isSome_eq, Option.isSome_map]
theorem KTP.putAt {H : Hp} (k : List Key) {y : V} {u : Value} (ry : RelV y u) : ∀ {ws : List (List Key × V)} {xs : TX}, KTP H ws xs → KTP H (ws.map fun kv => if kv.1 = k then (kv.1, y) else kv) (xs.map (PySem.putAt k u))
  | _, _, .nil => .nil
  | _, _, .cons (a := p) (b := q) h t => by
    rw [List.map_cons, List.map_cons]
    refine .cons ?_ (KTP.putAt k ry t)
    by_cases e : p.1 = k
    · rw [if_pos e, PySem.putAt, if_pos (h.1 ▸ e)]
      exact ⟨h.1, h.2.1, h.2.2.1, ry⟩
    · rw [if_neg e, PySem.putAt, if_neg fun z => e (h.1.trans z)]
      exact h
theorem KTP.put {H : Hp} {ws : List (List Key × V)} {xs : TX} (h : KTP H ws xs) {k : List Key} (hk : k.all isI = true) {b : Addr} {y : V} {u : Value} (hb : TP H b (k.map kV)) (ry : RelV y u) : KTP H (putK ws k y) (storedH xs k b u) := by
  unfold putK storedH
  rw [h.any k]
  cases q : (atKey xs k).isSome with
  | true => exact h.putAt k ry
  | false => exact Paired.snoc h ⟨rfl, hk, hb, ry⟩
theorem KTP.ints {H : Hp} {ws : List (List Key × V)} {xs : TX} (h : KTP H ws xs) : ∀ x ∈ xs, x.1.all isI = true ∧ TP H x.2.1 (x.1.map kV) := by
  induction h with
  | nil => exact fun _ z => nomatch z
  | cons h t ih =>
    intro x hx
    rcases List.mem_cons.mp hx with e | hx
    · subst e
      rw [← h.1]
      exact ⟨h.2.1, h.2.2.1⟩
    · exact ih x hx
/-- the hash of ints knows no world -/
theorem hash_I (P P' : Program) (w w' : World) : ∀ {ks : List Key}, ks.all isI = true → (tupleKind (mixKind P w)).hash ks = (tupleKind (mixKind P' w')).hash ks := fun {ks} h => by
  show tupleKeyHash _ _ = tupleKeyHash _ _
  unfold tupleKeyHash
  congr 2
  refine List.map_congr_left fun k hk => ?_
  have hi := List.all_eq_true.mp h k hk
  cases k with
  | inl i => rfl
  | inr x => cases hi
theorem ents_I {P P' : Program} {w w' : World} {xs : TX} (h : ∀ x ∈ xs, x.1.all isI = true) : xs.map (entryOfKey (tupleKind (mixKind P w))) = xs.map (entryOfKey (tupleKind (mixKind P' w'))) :=
  List.map_congr_left fun x hx => by
    show DictEntry.mk _ _ _ = DictEntry.mk _ _ _
    rw [hash_I P P' w w' (h x hx)]
section
variable {P : Program} {w : World} {H : Hp} {h : Heap} {a : Addr}
theorem key_ofP {ks : List Key} (ok : HOk P w H h) (e : TP H a (ks.map kV)) : (tupleKind (mixKind P w)).is h ks a := by
  obtain ⟨its, e⟩ := e
  obtain ⟨_, _, us, r, o, h1, h2, n, h3⟩ := ok a _ e
  exact ⟨o, us.toArray, n, h1, h2, h3, by simpa using items_are r⟩
/-- a dict by tuples, or an empty one -/
def DE (Z H : Hp) (a : Addr) (kvs : List (List Key × V)) : Prop := DP Z H a kvs ∨ (H a = some (.dK []) ∧ kvs = [])
theorem dp_of {Z : Hp} (ok : HOk P w H h) (le : Same Z H) {ws : List (List Key × V)} (e : DE Z H a ws) : ws.length ≤ sizeLine ∧ (a == sysModules) = false ∧ ∃ xs, KTP Z ws xs ∧ h.DictOfH (tupleKind (mixKind P w)) a xs := by
  rcases e with ⟨xs, ep, e, kt⟩ | ⟨e, rfl⟩
  · obtain ⟨⟨o, es, h1, h2, h3, h4, h5, h6, h7⟩, _⟩ := ok a _ e
    exact ⟨by have := Paired.length kt; omega, h7, xs, kt, o, es, ep, h1, h2, h3, h4 P w, fun x hx => key_ofP ok ((kt.ints x hx).2.mono le), h5⟩
  · obtain ⟨z, hd, vs, rel, o, es, ep, h1, h2, h3, _, h5, _⟩ := dk_of ok e
    cases rel
    refine ⟨by simp, hd, [], .nil, o, es, ep, h1, h2, h3, ?_, fun x hx => (nomatch hx), List.nodup_nil⟩
    cases q : es.toList with
    | nil => rfl
    | cons e r => rw [q] at h5; cases h5
/-- a dict object of such a content is one -/
theorem okD {xs : TX} (dd : h.DictOfH (tupleKind (mixKind P w)) a xs) (hi : ∀ x ∈ xs, x.1.all isI = true) (z : xs.length ≤ sizeLine) (hs : (a == sysModules) = false) : ∃ ep, ∀ H : Hp, ObjOk P w H h a (dPO a ep xs) := by
  obtain ⟨o, es, ep, h1, h2, h3, h4, _, h5⟩ := dd
  refine ⟨ep, fun H => ⟨⟨o, es, h1, h2, h3, fun P' w' => h4.trans (ents_I hi), h5, z, hs⟩, ⟨o, h1⟩, fun g1 g2 p k => ?_⟩⟩
  obtain ⟨o1, es1, p1, pr⟩ := p
  exact ⟨o1, es1, k _ p1, pr⟩
theorem DP.pl {Z : Hp} {ws : List (List Key × V)} (e : DP Z H a ws) : Pl (H a) := by
  obtain ⟨xs, ep, e, _⟩ := e
  rw [e]
  exact .dP
theorem dp_empty (h : Heap) (hs : sysModules < h.objs.size) : ObjOk P w H (h.push { cls := .type "dict", data := .dict #[] }) h.objs.size (dPO h.objs.size 0 []) := by
  have g : (h.push { cls := .type "dict", data := .dict #[] }).get? h.objs.size = some { cls := .type "dict", data := .dict #[] } := Heap.get?_push_size _ rfl
  exact ⟨⟨_, #[], g, ⟨rfl, rfl, rfl⟩, rfl, fun _ _ => rfl, List.nodup_nil, Nat.zero_le _, beq_eq_false_iff_ne.mpr (Nat.ne_of_gt hs)⟩, ⟨_, g⟩, fun g1 g2 ⟨o1, es1, p1, pr⟩ k => ⟨o1, es1, k _ p1, pr⟩⟩
theorem DP.mut {Z : Hp} {ws : List (List Key × V)} (e : DP Z H a ws) : Mut (H a) := by
  obtain ⟨xs, ep, e, _⟩ := e
  rw [e]
  exact True.intro
theorem DE.mut {Z : Hp} {ws : List (List Key × V)} (e : DE Z H a ws) : Mut (H a) := by
  rcases e with e | ⟨e, _⟩
  · exact e.mut
  · rw [e]
    exact True.intro
end
section
variable {X : Cx} {pins : List (Addr × Obj)} {σ : L2.St} {H : Hp} {s : Shared} {a b : Addr}
/-- the heap behind d[k] = v -/
theorem write_P {Z : Hp} (I : Inv X pins σ H s) {ws : List (List Key × V)} {xs : TX} (m : Mut (H a)) (hs : (a == sysModules) = false) (kt : KTP Z ws xs) {k : List Key} (hk : k.all isI = true) (eb : TP Z b (k.map kV)) {y : V} {u : Value} (ry : RelV y u) (lt : ws.length < sizeLine)
    {h' : Heap} {t : Nat} (dd : h'.DictOfH (tupleKind (mixKind X.prog X.w)) a (storedH xs k b u)) (same : Heap.SameBut a s.heap h') :
    ∃ o, Inv X pins σ (upd H a o) { s with heap := h', toks := t } ∧ DP Z (upd H a o) a (putK ws k y) := by
  have kp := kt.put hk eb ry
  have lp : (storedH xs k b u).length ≤ sizeLine := by
    have h1 := Paired.length kp
    have h2 := length_putK ws k y
    omega
  obtain ⟨q, es, ep, hq, _⟩ := id dd
  obtain ⟨e0, ok⟩ := okD dd (fun x hx => (kp.ints x hx).1) lp hs
  exact ⟨_, d_write I m same ⟨q, hq⟩ (ok _), _, _, upd_same, kp⟩
theorem call_len_dP : CallR X (.builtin "len") (fun xs H Q => ∃ a kvs, xs = [V.ref a] ∧ DP H H a kvs ∧ Q (.int (kvs.length : Nat)) H) := fun pins s σ H xs us Q I r ⟨p, kvs, ex, hp, q⟩ => by
  subst ex
  obtain ⟨u, eu, ru⟩ := vals1 r
  subst eu
  cases ru
  obtain ⟨z, hd, ys, rel, dd⟩ := dp_of I.hok (Same.refl _) (.inl hp)
  have hl : kvs.length = ys.length := Paired.length rel
  refine call_len_dictH hd dd (by rw [sizeLine_eq] at z; omega) ⟨.int (kvs.length : Nat), H, I.tok _, ⟨_, by rw [hl]⟩, q⟩
/-- isinstance(d, T) -/
def rIsiP (K : PySem.W.Frag) : List V → Hp → VK → Prop := fun xs H Q => ∃ (a : Addr) (ws : List (List Key × V)) (T : String) (b : Bool), xs = [.ref a, .ty T] ∧ DP H H a ws ∧ PySem.W.kitOne K (.type "dict") (.type T) = some b ∧ Q (.bl b) H
theorem call_isiP : CallR X (.builtin "isinstance") (rIsiP X.K) := fun pins s σ H xs us Q I r ⟨a, ws, T, b, ex, ⟨ys, ep, hd, _⟩, e, q⟩ => by
  subst ex
  obtain ⟨u, u2, eu, ru, ru2⟩ := Vals.two r
  subst eu
  cases ru
  cases ru2
  obtain ⟨⟨o, es, h1, h2, _⟩, _⟩ := I.hok a _ hd
  exact PySem.W.kia_one PySem.W.kitx_dict I.kIn ⟨o, h1, h2.1⟩ e (fun z => nomatch z) fun tk => ⟨.bl b, H, I.tok _, rfl, q⟩
end
end Hb
namespace Hb
open PySem PySem.Spec PyProof.Rows L2
/-- what an expression gives: a tree that stands still; the slot i by reference; a new thing of nobody's -/
inductive AV where
  | val (d : PyData) | ref (i : Nat) | tmp (s : Sl)
/-- an error: its class's name, the field that it bears -/
structure Exn where
  cls : Str
  arg : Option (Str × PyData) := none
inductive Rs (α : Type) where
  | ok (a : α) (δ : List Sl) | er (x : Exn) (δ : List Sl) | bad
def Rs.bind {α β : Type} (r : Rs α) (k : α → List Sl → Rs β) : Rs β := match r with
  | .ok a δ => k a δ
  | .er x δ => .er x δ
  | .bad => .bad
def Sl.tree : Sl → Option PyData
  | .fz d => some d
  | .ol xs => some (.list (xs.map El.d))
  | .od kvs => some (.dict kvs)
  | .ex (.ot xs) => some (.tuple (xs.map Pa.d))
  | _ => none
def Sl.live : Sl → Bool
  | .no => false
  | .al _ _ => false
  | _ => true
/-- the tree that is read -/
def rdA (δ : List Sl) : AV → Option PyData
  | .val d => some d
  | .ref i => match δ[i]? with
    | some (.al x j) => (match δ[x]? with
      | some (.ol xs) => xs[j]?.map El.d
      | _ => none)
    | some s => s.tree
    | none => none
  | .tmp _ => none
def allFz : List El → Option (List PyData)
  | [] => some []
  | .fz d :: r => (allFz r).map (d :: ·)
  | .ow _ :: _ => none
/-- a list whose items stand still -/
def rdC (δ : List Sl) : AV → Option PyData
  | .val d => some d
  | .ref i => match δ[i]? with
    | some (.al x j) => (match δ[x]? with
      | some (.ol xs) => xs[j]?.map El.d
      | _ => none)
    | some (.fz d) => some d
    | some (.ol xs) => (allFz xs).map .list
    | _ => none
  | .tmp _ => none
def AvS (K : PySem.W.Frag) (Fz : Hp) (σ : L2.St) (v : V) : AV → Prop
  | .val d => Rp K Fz v d
  | .ref i => σ[i]? = some (some v)
  | .tmp _ => False
def AvR (K : PySem.W.Frag) (b : Bk) (Fz : Hp) (F : Nat → List Addr) (H : Hp) (σ : L2.St) (v : V) : AV → Prop
  | .val d => Rp K Fz v d
  | .ref i => σ[i]? = some (some v)
  | .tmp s => s.live = true ∧ ∃ g, SlH K Fz H [] g (some v) s ∧ g.Nodup ∧ ∀ a ∈ g, Fz a = none ∧ b.B a = none ∧ H a ≠ none ∧ ∀ i, a ∉ F i
def ExR (K : PySem.W.Frag) (mg : Str → Option Value) (Fz H : Hp) (x : Exn) (c : Value) (dd : Option Addr) : Prop :=
  (∃ C, mg x.cls = some (.ref C) ∧ c = .ref C) ∧ match x.arg with
    | none => dd = none
    | some p => ∃ a v, dd = some a ∧ H a = some (.xd [(p.1, v)]) ∧ Rp K Fz v p.2
section
variable (K : PySem.W.Frag) (mg : Str → Option Value) (W : WX)
def PostX (b : Bk) (Fz : Hp) (σ : L2.St) (x : Exn) (δ : List Sl) : Prop := ∀ c dd H' Fz' F', Same Fz Fz' → Rl K b Fz' F' δ σ H' → ExR K mg Fz' H' x c dd → W c dd σ H'
def Post (b : Bk) (Fz : Hp) (σ : L2.St) (Q : VK) : Rs AV → Prop
  | .ok a δ => ∀ v H' Fz' F', Same Fz Fz' → Rl K b Fz' F' δ σ H' → AvR K b Fz' F' H' σ v a → Q v H'
  | .er x δ => PostX K mg W b Fz σ x δ
  | .bad => False
def rdE (pin : List Nat) (f : List Sl → Rs AV) : TE := fun σ H Q => ∃ b Fz F δ, b.pin = pin ∧ Rl K b Fz F δ σ H ∧ Post K mg W b Fz σ Q (f δ)
/-- a test -/
def PostT (b : Bk) (Fz : Hp) (σ : L2.St) (Q : Bool → Hp → Prop) : Rs Bool → Prop
  | .ok a δ => ∀ H' Fz' F', Same Fz Fz' → Rl K b Fz' F' δ σ H' → Q a H'
  | .er x δ => PostX K mg W b Fz σ x δ
  | .bad => False
def rdT (pin : List Nat) (f : List Sl → Rs Bool) : TT := fun σ H Q => ∃ b Fz F δ, b.pin = pin ∧ Rl K b Fz F δ σ H ∧ PostT K mg W b Fz σ Q (f δ)
end
abbrev SE (X : Cx) (W : WX) (pin : List Nat) (e : Expr) (f : List Sl → Rs AV) : Prop := PE X e (rdE X.K X.mg W pin f)
abbrev ST (X : Cx) (W : WX) (pin : List Nat) (e : Expr) (f : List Sl → Rs Bool) : Prop := PT X e (rdT X.K X.mg W pin f)
theorem pe_mono {X : Cx} {e : Expr} {t t' : TE} (h : PE X e t) (i : ∀ σ H Q, t' σ H Q → t σ H Q) : PE X e t' := ⟨fun pins s σ H Q I q => h.run pins s σ H Q I (i σ H Q q)⟩
theorem pt_mono {X : Cx} {e : Expr} {t t' : TT} (h : PT X e t) (i : ∀ σ H Q, t' σ H Q → t σ H Q) : PT X e t' := ⟨fun pins s σ H Q I q => h.run pins s σ H Q I (i σ H Q q)⟩
section
variable {K : PySem.W.Frag} {mg : Str → Option Value} {W : WX} {b : Bk} {Fz Fz1 : Hp} {F : Nat → List Addr} {δ : List Sl} {σ : L2.St} {H : Hp} {Q : VK}
theorem PostX.le {x : Exn} (s : Same Fz Fz1) (p : PostX K mg W b Fz σ x δ) : PostX K mg W b Fz1 σ x δ := fun c dd H' Fz' F' s' R e => p c dd H' Fz' F' (s.trans s') R e
theorem Post.le {r : Rs AV} (s : Same Fz Fz1) (p : Post K mg W b Fz σ Q r) : Post K mg W b Fz1 σ Q r := by
  cases r with
  | ok a δ => exact fun v H' Fz' F' s' R e => p v H' Fz' F' (s.trans s') R e
  | er x δ => exact PostX.le s p
  | bad => exact p
theorem PostT.le {Q : Bool → Hp → Prop} {r : Rs Bool} (s : Same Fz Fz1) (p : PostT K mg W b Fz σ Q r) : PostT K mg W b Fz1 σ Q r := by
  cases r with
  | ok a δ => exact fun H' Fz' F' s' R => p H' Fz' F' (s.trans s') R
  | er x δ => exact PostX.le s p
  | bad => exact p
theorem AvS.le {v : V} {a : AV} (s : Same Fz Fz1) (p : AvS K Fz σ v a) : AvS K Fz1 σ v a := by
  cases a with
  | val d => exact Rp.mono s p
  | ref i => exact p
  | tmp t => exact p
theorem AvR.of {v : V} {a : AV} (p : AvS K Fz σ v a) : AvR K b Fz F H σ v a := by
  cases a with
  | val d => exact p
  | ref i => exact p
  | tmp t => exact False.elim p
theorem ElL.tree {Fz H : Hp} (le : Same Fz H) : ∀ {f : List Addr} {vs : List V} {es : List El}, ElL K Fz H f vs es → RpL K H vs (es.map El.d)
  | _, _, _, .nil => .nil
  | _, _, _, .cons (e := .fz d) h t => .cons (h.2.mono le) (ElL.tree le t)
  | _, _, _, .cons (e := .ow xs) h t => by
    obtain ⟨a, vs, e1, e2, e3, e4⟩ := h
    subst e1
    exact .cons (.lst (SqX.of e3) (e4.mono le)) (ElL.tree le t)
theorem DcR.tree {Fz H : Hp} (le : Same Fz H) {a : Addr} {kvs : List (PyData × PyData)} (h : DcR K Fz H a kvs) : Rp K H (.ref a) (.dict kvs) := by
  rcases h with ⟨ws, h1, h2⟩ | ⟨ws, h1, h2⟩
  · exact .dK h1 (h2.mono le)
  · exact .dT (h1.mono le rfl) (h2.mono le)
theorem PaR.tree {Fz H : Hp} (le : Same Fz H) {f : List Addr} {v : V} {e : Pa} (h : PaR K Fz H f v e) : Rp K H v e.d := by
  cases e with
  | fz d => exact h.2.mono le
  | ow xs =>
    obtain ⟨a, vs, e1, e2, e3, e4⟩ := h
    subst e1
    exact .lst (SqX.of e3) (e4.mono le)
  | od kvs =>
    obtain ⟨a, e1, _, e3⟩ := h
    subst e1
    exact e3.tree le
theorem PaL.tree {Fz H : Hp} (le : Same Fz H) : ∀ {f : List Addr} {vs : List V} {es : List Pa}, PaL K Fz H f vs es → RpL K H vs (es.map Pa.d)
  | _, _, _, .nil => .nil
  | _, _, _, .cons h t => .cons (h.tree le) (PaL.tree le t)
theorem ElL.at_ {Fz H : Hp} : ∀ {f : List Addr} {vs : List V} {es : List El} {j : Nat} {e : El}, ElL K Fz H f vs es → es[j]? = some e → ∃ v g, vs[j]? = some v ∧ ElR K Fz H g v e ∧ ∀ a ∈ g, a ∈ f
  | _, _, _, _, _, .nil, e => by simp at e
  | _, _, _, 0, _, .cons (f := f) (v := v) h t, e => by
    simp at e
    subst e
    exact ⟨v, f, rfl, h, fun a ha => List.mem_append_left _ ha⟩
  | _, _, _, j + 1, _, .cons h t, e => by
    obtain ⟨v, g, e1, e2, e3⟩ := ElL.at_ t (by simpa using e)
    exact ⟨v, g, by simpa using e1, e2, fun a ha => List.mem_append_right _ (e3 a ha)⟩
theorem ElL.allFz {Fz H : Hp} : ∀ {f : List Addr} {vs : List V} {es : List El} {ds : List PyData}, ElL K Fz H f vs es → Hb.allFz es = some ds → RpL K Fz vs ds
  | _, _, _, _, .nil, e => by cases e; exact .nil
  | _, _, _, ds, .cons (e := .fz d) (es := es) h t, e => by
    cases q : Hb.allFz es with
    | none =>
      rw [Hb.allFz, q] at e
      cases e
    | some ds' =>
      rw [Hb.allFz, q] at e
      cases e
      exact .cons h.2 (ElL.allFz t q)
  | _, _, _, ds, .cons (e := .ow xs) h t, e => by cases e
/-- a value that is read -/
def RpC (K : PySem.W.Frag) (Fz H : Hp) (v : V) (d : PyData) : Prop := Rp K Fz v d ∨ ∃ a vs ds, v = .ref a ∧ d = .list ds ∧ H a = some (.lst vs) ∧ RpL K Fz vs ds
theorem join_some {o : Option (Option V)} {v : V} (h : o.join = some v) : o = some (some v) := by
  cases o with
  | none => cases h
  | some o => exact congrArg some h
theorem Rl.al (R : Rl K b Fz F δ σ H) {i x j : Nat} {xs : List El} {e : El} {v : V} (h : δ[i]? = some (.al x j)) (hx : δ[x]? = some (.ol xs)) (hj : xs[j]? = some e) (hv : σ[i]? = some (some v)) : ∃ g, ElR K Fz H g v e ∧ ∀ a ∈ g, a ∈ F x := by
  obtain ⟨_, a, c, vs, e1, e2, e3, e4⟩ := R.slot i _ h
  obtain ⟨a', vs', g, e5, e6, e7, e8⟩ := R.slot x _ hx
  rw [e1] at e5
  cases e5
  rw [e2] at e7
  cases e7
  obtain ⟨v', g', e9, e10, e11⟩ := e8.at_ hj
  rw [e3] at e9
  cases e9
  rw [hv] at e4
  cases e4
  exact ⟨g', e10, fun a ha => by rw [e6]; exact List.mem_cons_of_mem _ (e11 a ha)⟩
theorem rdA_ok (R : Rl K b Fz F δ σ H) {v : V} {a : AV} {d : PyData} (p : AvS K Fz σ v a) (h : rdA δ a = some d) : Rp K H v d := by
  cases a with
  | val d' =>
    cases h
    exact Rp.mono R.le p
  | tmp t => exact False.elim p
  | ref i =>
    have hv : σ[i]? = some (some v) := p
    cases q : δ[i]? with
    | none =>
      simp only [rdA, q] at h
      cases h
    | some s =>
      have hs := R.slot i s q
      rw [hv] at hs
      cases s with
      | no =>
        simp only [rdA, q] at h
        cases h
      | fz d' =>
        simp only [rdA, q] at h
        cases h
        obtain ⟨_, v', e1, e2⟩ := hs
        cases e1
        exact e2.mono R.le
      | ol xs =>
        simp only [rdA, q] at h
        cases h
        obtain ⟨a, vs, g, e1, e2, e3, e4⟩ := hs
        cases e1
        exact .lst (SqX.of e3) (e4.tree R.le)
      | od kvs =>
        simp only [rdA, q] at h
        cases h
        obtain ⟨a, e1, e2, e3⟩ := hs
        cases e1
        rcases e3 with ⟨ws, h1, h2⟩ | ⟨ws, h1, h2⟩
        · exact .dK h1 (h2.mono R.le)
        · exact .dT (h1.mono R.le rfl) (h2.mono R.le)
      | ex e =>
        cases e with
        | ot xs =>
          simp only [rdA, q] at h
          cases h
          obtain ⟨a, vs, e1, e2, e3⟩ := hs
          cases e1
          exact .tup (e2.mono R.le) (e3.tree R.le)
        | ob c fs =>
          simp only [rdA, q] at h
          cases h
        | lp c its =>
          simp only [rdA, q] at h
          cases h
        | li c its =>
          simp only [rdA, q] at h
          cases h
        | dt its =>
          simp only [rdA, q] at h
          cases h
      | al x j =>
        cases q2 : δ[x]? with
        | none =>
          simp only [rdA, q, q2] at h
          cases h
        | some t =>
          cases t with
          | ol xs =>
            cases q3 : xs[j]? with
            | none =>
              simp only [rdA, q, q2, q3] at h
              cases h
            | some e =>
              simp only [rdA, q, q2, q3] at h
              cases h
              obtain ⟨g, e1, _⟩ := R.al q q2 q3 hv
              cases e with
              | fz d' => exact e1.2.mono R.le
              | ow ys =>
                obtain ⟨a, vs, f1, _, f3, f4⟩ := e1
                subst f1
                exact .lst (SqX.of f3) (f4.mono R.le)
          | _ =>
            simp only [rdA, q, q2] at h
            cases h
theorem rdC_ok (R : Rl K b Fz F δ σ H) {v : V} {a : AV} {d : PyData} (p : AvS K Fz σ v a) (h : rdC δ a = some d) : RpC K Fz H v d := by
  cases a with
  | val d' =>
    cases h
    exact .inl p
  | tmp t => exact False.elim p
  | ref i =>
    have hv : σ[i]? = some (some v) := p
    cases q : δ[i]? with
    | none =>
      simp only [rdC, q] at h
      cases h
    | some s =>
      have hs := R.slot i s q
      rw [hv] at hs
      cases s with
      | no =>
        simp only [rdC, q] at h
        cases h
      | fz d' =>
        simp only [rdC, q] at h
        cases h
        obtain ⟨_, v', e1, e2⟩ := hs
        cases e1
        exact .inl e2
      | ol xs =>
        simp only [rdC, q] at h
        cases q2 : allFz xs with
        | none =>
          rw [q2] at h
          cases h
        | some ds =>
          rw [q2] at h
          cases h
          obtain ⟨a, vs, g, e1, e2, e3, e4⟩ := hs
          cases e1
          exact .inr ⟨a, vs, ds, rfl, rfl, e3, e4.allFz q2⟩
      | od kvs =>
        simp only [rdC, q] at h
        cases h
      | ex e =>
        simp only [rdC, q] at h
        cases h
      | al x j =>
        cases q2 : δ[x]? with
        | none =>
          simp only [rdC, q, q2] at h
          cases h
        | some t =>
          cases t with
          | ol xs =>
            cases q3 : xs[j]? with
            | none =>
              simp only [rdC, q, q2, q3] at h
              cases h
            | some e =>
              simp only [rdC, q, q2, q3] at h
              cases h
              obtain ⟨g, e1, _⟩ := R.al q q2 q3 hv
              cases e with
              | fz d' => exact .inl e1.2
              | ow ys =>
                obtain ⟨a, vs, f1, _, f3, f4⟩ := e1
                subst f1
                exact .inr ⟨a, vs, ys, rfl, rfl, f3, f4⟩
          | _ =>
            simp only [rdC, q, q2] at h
            cases h
theorem RpC.list {v : V} {ds : List PyData} (le : Same Fz H) (h : RpC K Fz H v (.list ds)) : ∃ a vs, v = .ref a ∧ SqX K H a vs ∧ RpL K Fz vs ds := by
  rcases h with h | ⟨a, vs, es, e1, e2, e3, e4⟩
  · cases h with
    | lst h1 h2 => exact ⟨_, _, rfl, same_sqX le h1, h2⟩
  · cases e2
    exact ⟨a, vs, e1, SqX.of e3, e4⟩
theorem RpC.tup {v : V} {ds : List PyData} (le : Same Fz H) (h : RpC K Fz H v (.tuple ds)) : ∃ a vs, v = .ref a ∧ SqT K H a vs ∧ RpL K Fz vs ds := by
  rcases h with h | ⟨a, vs, es, e1, e2, e3, e4⟩
  · cases h with
    | tup h1 h2 => exact ⟨_, _, rfl, (h1.mono le).sq, h2⟩
  · cases e2
theorem ElL.ofFz {H : Hp} : ∀ {vs : List V} {ds : List PyData}, RpL K Fz vs ds → ElL K Fz H [] vs (ds.map .fz)
  | _, _, .nil => .nil
  | _, _, .cons h t => .cons (f := []) ⟨rfl, h⟩ (ElL.ofFz t)
theorem post_newL (R : Rl K b Fz F δ σ H) {vs : List V} {ds : List PyData} (h : RpL K Fz vs ds) (P : Post K mg W b Fz σ Q (.ok (.tmp (.ol (ds.map .fz))) δ)) : ∀ p, H p = none → Q (.ref p) (upd H p (.lst vs)) := fun p n => by
  obtain ⟨n1, n2, n3⟩ := R.offN n
  refine P (.ref p) _ Fz F (Same.refl _) (R.new n _) ⟨rfl, [p], ⟨p, vs, [], rfl, rfl, upd_same, ElL.ofFz h⟩, by simp, fun a ha => ?_⟩
  rw [List.mem_singleton] at ha
  subst ha
  exact ⟨n1, n2, by rw [upd_same]; simp, n3⟩
theorem post_newDT (R : Rl K b Fz F δ σ H) (P : Post K mg W b Fz σ Q (.ok (.tmp (.od [])) δ)) : ∀ p, H p = none → Q (.ref p) (upd H p (dPO p 0 [])) := fun p n => by
  obtain ⟨n1, n2, n3⟩ := R.offN n
  refine P (.ref p) _ Fz F (Same.refl _) (R.new n _) ⟨rfl, [p], ⟨p, rfl, rfl, .inr ⟨[], ⟨[], 0, upd_same, .nil⟩, .nil⟩⟩, by simp, fun a ha => ?_⟩
  rw [List.mem_singleton] at ha
  subst ha
  exact ⟨n1, n2, by rw [upd_same]; simp, n3⟩
/-- a new thing that stands still at once -/
theorem Rl.newF (R : Rl K b Fz F δ σ H) {p : Addr} (n : H p = none) (o : HO) : Same Fz (upd Fz p o) ∧ Rl K b (upd Fz p o) F δ σ (upd H p o) := by
  obtain ⟨n1, n2, n3⟩ := R.offN n
  refine ⟨same_new n1, (R.new n o).freeze (same_new n1) (fun a x e => ?_) (fun a ha hb => ?_) fun q hq => ?_⟩
  · by_cases q : a = p
    · subst q
      rw [upd_same] at e ⊢
      exact e
    · rw [upd_ne q] at e ⊢
      exact R.le a x e
  · by_cases q : a = p
    · subst q
      exact ⟨n2, n3⟩
    · rw [upd_ne q] at hb
      exact absurd ha hb
  · rw [show b.T = [] from R.tb] at hq
    cases hq
theorem post_newT (R : Rl K b Fz F δ σ H) {vs : List V} {ds : List PyData} (h : RpL K Fz vs ds) (P : Post K mg W b Fz σ Q (.ok (.val (.tuple ds)) δ)) : ∀ p its, H p = none → Q (.ref p) (upd H p (nT its vs)) := fun p its n => by
  obtain ⟨s, R'⟩ := R.newF n (nT its vs)
  exact P (.ref p) _ _ F s R' (.tup TP.new (h.mono s))
theorem ElL.treeF {H : Hp} {Fz' : Hp} (s : Same Fz Fz') : ∀ {f : List Addr} {vs : List V} {es : List El}, ElL K Fz H f vs es → (∀ a ∈ f, Fz' a = H a) → RpL K Fz' vs (es.map El.d)
  | _, _, _, .nil, _ => .nil
  | _, _, _, .cons (e := .fz d) h t, hg => .cons (h.2.mono s) (ElL.treeF s t fun a ha => hg a (List.mem_append_right _ ha))
  | _, _, _, .cons (e := .ow xs) h t, hg => by
    obtain ⟨a, vs, e1, e2, e3, e4⟩ := h
    subst e1
    have q := hg a (List.mem_append_left _ (by simp [e2]))
    exact .cons (.lst (SqX.of (q.trans e3)) (e4.mono s)) (ElL.treeF s t fun a ha => hg a (List.mem_append_right _ ha))
theorem PaR.treeF {Fz H Fz' : Hp} (s : Same Fz Fz') {f : List Addr} {v : V} {e : Pa} (h : PaR K Fz H f v e) (hg : ∀ a ∈ f, Fz' a = H a) : Rp K Fz' v e.d := by
  cases e with
  | fz d => exact h.2.mono s
  | ow xs =>
    obtain ⟨a, vs, e1, e2, e3, e4⟩ := h
    subst e1
    exact .lst (SqX.of ((hg a (by simp [e2])).trans e3)) (e4.mono s)
  | od kvs =>
    obtain ⟨a, e1, e2, e3⟩ := h
    subst e1
    have q := hg a (by simp [e2])
    rcases e3 with ⟨ws, h1, h2⟩ | ⟨ws, h1, h2⟩
    · exact .dK ⟨q.trans h1.1, h1.2⟩ (h2.mono s)
    · exact .dT (h1.mono s q) (h2.mono s)
theorem PaL.treeF {Fz H : Hp} {Fz' : Hp} (s : Same Fz Fz') : ∀ {f : List Addr} {vs : List V} {es : List Pa}, PaL K Fz H f vs es → (∀ a ∈ f, Fz' a = H a) → RpL K Fz' vs (es.map Pa.d)
  | _, _, _, .nil, _ => .nil
  | _, _, _, .cons h t, hg => .cons (h.treeF s fun a ha => hg a (List.mem_append_left _ ha)) (PaL.treeF s t fun a ha => hg a (List.mem_append_right _ ha))
theorem SlH.treeF {Fz' : Hp} {σ0 : L2.St} {g : List Addr} {v : V} {t : Sl} {d : PyData} (h : SlH K Fz H σ0 g (some v) t) (ht : t.tree = some d) (s : Same Fz Fz') (hg : ∀ a ∈ g, Fz' a = H a) : Rp K Fz' v d := by
  cases t with
  | no => cases ht
  | fz d' =>
    cases ht
    obtain ⟨_, v', e1, e2⟩ := h
    cases e1
    exact e2.mono s
  | ol xs =>
    cases ht
    obtain ⟨a, vs, g', e1, e2, e3, e4⟩ := h
    cases e1
    exact .lst (SqX.of ((hg a (by simp [e2])).trans e3)) (e4.treeF s fun c hc => hg c (by simp [e2, hc]))
  | od kvs =>
    cases ht
    obtain ⟨a, e1, e2, e3⟩ := h
    cases e1
    have q := hg a (by simp [e2])
    rcases e3 with ⟨ws, h1, h2⟩ | ⟨ws, h1, h2⟩
    · exact .dK ⟨q.trans h1.1, h1.2⟩ (h2.mono s)
    · exact .dT (h1.mono s q) (h2.mono s)
  | al x j => cases ht
  | ex e =>
    cases e with
    | ob c fs => cases ht
    | lp c its => cases ht
    | li c its => cases ht
    | dt its => cases ht
    | ot xs =>
      cases ht
      obtain ⟨a, vs, e1, e2, e3⟩ := h
      cases e1
      exact .tup (e2.mono s) (e3.treeF s hg)
/-- Fz with the objects at g as they stand -/
def addF (Fz H : Hp) (g : List Addr) : Hp := fun a => if a ∈ g then H a else Fz a
theorem addF_in {Fz H : Hp} {g : List Addr} {a : Addr} (h : a ∈ g) : addF Fz H g a = H a := if_pos h
theorem addF_out {Fz H : Hp} {g : List Addr} {a : Addr} (h : a ∉ g) : addF Fz H g a = Fz a := if_neg h
theorem addF_same {Fz H : Hp} {g : List Addr} (h : ∀ a ∈ g, Fz a = none) : Same Fz (addF Fz H g) := fun a o e => by
  by_cases q : a ∈ g
  · rw [h a q] at e
    cases e
  · rw [addF_out q]
    exact e
theorem addF_le {Fz H : Hp} {g : List Addr} (le : Same Fz H) : Same (addF Fz H g) H := fun a o e => by
  by_cases q : a ∈ g
  · rw [addF_in q] at e
    exact e
  · rw [addF_out q] at e
    exact le a o e
theorem addT {b : Bk} {Fz H : Hp} {g : List Addr} (t : Tb b Fz H) (hp : ∀ a ∈ g, Pl (H a)) {p : Addr × Str} (hq : p ∈ b.T) : Hb.addF Fz H g p.1 = none := by
  rw [show b.T = [] from t] at hq
  cases hq
theorem Rl.addF (R : Rl K b Fz F δ σ H) {g : List Addr} (hg : ∀ a ∈ g, Fz a = none ∧ b.B a = none ∧ ∀ i, a ∉ F i) (hp : ∀ a ∈ g, Pl (H a)) : Same Fz (addF Fz H g) ∧ Rl K b (Hb.addF Fz H g) F δ σ H := by
  have s := addF_same (H := H) fun a ha => (hg a ha).1
  refine ⟨s, R.freeze s (addF_le R.le) (fun a h1 h2 => ?_) fun p hq => addT R.tb hp hq⟩
  by_cases q : a ∈ g
  · exact ⟨(hg a q).2.1, (hg a q).2.2⟩
  · rw [addF_out q] at h2
    exact absurd h1 h2
/-- aliases of slot i are forgotten -/
def dropAl (i : Nat) (δ : List Sl) : List Sl := δ.map fun s => match s with
  | .al x j => if x = i then .no else .al x j
  | s => s
def upS (i : Nat) (s : Sl) (δ : List Sl) : List Sl := (dropAl i δ).set i s
theorem dropAl_at {i k : Nat} {s : Sl} {δ : List Sl} (h : (dropAl i δ)[k]? = some s) : s = .no ∧ (∃ j, δ[k]? = some (.al i j)) ∨ δ[k]? = some s ∧ ∀ j, s ≠ .al i j := by
  unfold dropAl at h
  rw [List.getElem?_map] at h
  cases q : δ[k]? with
  | none =>
    rw [q] at h
    cases h
  | some t =>
    rw [q] at h
    cases t with
    | al x j =>
      by_cases e : x = i
      · subst e
        have h' : some (if x = x then Sl.no else Sl.al x j) = some s := h
        rw [if_pos rfl] at h'
        cases h'
        exact .inl ⟨rfl, j, rfl⟩
      · have h' : some (if x = i then Sl.no else Sl.al x j) = some s := h
        rw [if_neg e] at h'
        cases h'
        exact .inr ⟨rfl, fun j' z => by cases z; exact e rfl⟩
    | no => cases h; exact .inr ⟨rfl, fun j' z => nomatch z⟩
    | fz d => cases h; exact .inr ⟨rfl, fun j' z => nomatch z⟩
    | ol xs => cases h; exact .inr ⟨rfl, fun j' z => nomatch z⟩
    | od kvs => cases h; exact .inr ⟨rfl, fun j' z => nomatch z⟩
    | ex e => cases h; exact .inr ⟨rfl, fun j' z => nomatch z⟩
theorem dropAl_len {i : Nat} {δ : List Sl} : (dropAl i δ).length = δ.length := by simp [dropAl]
/-- slot i (not pinned, or its value the same) gets another value, another heap of its own -/
theorem Rl.put (R : Rl K b Fz F δ σ H) {i : Nat} {s : Sl} {g : List Addr} {σ' : L2.St} {H' : Hp} {Fz' : Hp} (sF : Same Fz Fz') (leF : Same Fz' H') (hb : Same b.B H')
    (hl : σ'.length = σ.length) (hσ : ∀ k, k ≠ i → σ'[k]? = σ[k]?) (hp : σ'[i]? = σ[i]? ∨ i ∉ b.pin)
    (hs : i < δ.length → SlH K Fz' H' σ' g (σ'[i]?.join) s) (ns : ∀ x j, s = .al x j → x ≠ i ∧ ∃ xs, δ[x]? = some (.ol xs))
    (hg : g.Nodup) (gF : ∀ a ∈ g, Fz' a = none) (gB : ∀ a ∈ g, b.B a = none) (gO : ∀ a ∈ g, ∀ k, k ≠ i → a ∉ F k) (gH : ∀ a ∈ g, H' a ≠ none)
    (oH : ∀ k, k ≠ i → ∀ a ∈ F k, H' a = H a) (oF : ∀ k, k ≠ i → ∀ a ∈ F k, Fz' a = none) (kF : ∀ a, b.B a ≠ none → Fz' a = Fz a) (gT : ∀ a ∈ g, Pl (H' a) := by intro _ z; exact nomatch z) (tb : Tb b Fz' H' := by first | exact Rl.tb (by assumption) | assumption) :
    Rl K b Fz' (fun k => if k = i then g else F k) (upS i s δ) σ' H' where
  le := leF
  base := hb
  len := by rw [hl, R.len, upS, List.length_set, dropAl_len]
  slot := fun k t e => by
    by_cases hk : k = i
    · subst hk
      unfold upS at e
      have hlt : k < δ.length := by
        have := (List.getElem?_eq_some_iff.mp e).1
        rw [List.length_set, dropAl_len] at this
        exact this
      rw [List.getElem?_set_self (by rw [dropAl_len]; exact hlt)] at e
      cases e
      rw [if_pos rfl]
      exact hs hlt
    · unfold upS at e
      rw [List.getElem?_set_ne (Ne.symm hk)] at e
      rw [if_neg hk]
      rcases dropAl_at e with ⟨e1, j, e2⟩ | ⟨e1, e2⟩
      · subst e1
        exact (R.slot k _ e2).1
      · have h0 := R.slot k t e1
        rw [hσ k hk]
        have h1 : SlH K Fz' H' σ (F k) (σ[k]?.join) t := h0.keeps sF (oH k hk) fun x j ej a ha => by
          subst ej
          have hx : x ≠ i := fun z => e2 j (by rw [z])
          obtain ⟨xs, hxs⟩ := R.als k x j e1
          obtain ⟨a2, vs2, g2, p1, p2, _⟩ := R.slot x _ hxs
          rw [ha] at p1
          cases p1
          exact oH x hx a (by rw [p2]; exact List.mem_cons_self)
        cases t with
        | al x j =>
          obtain ⟨f0, a1, c1, vs1, f1, f2, f3, f4⟩ := h1
          exact ⟨f0, a1, c1, vs1, by rw [hσ x (fun z => e2 j (by rw [z]))]; exact f1, f2, f3, f4⟩
        | no => exact h1
        | fz d => exact h1
        | ol xs => exact h1
        | od kvs => exact h1
        | ex e => exact h1
  nd := fun k => by
    by_cases hk : k = i
    · rw [if_pos hk]; exact hg
    · rw [if_neg hk]; exact R.nd k
  dj := fun k l a h1 h2 => by
    by_cases hk : k = i
    · by_cases hl : l = i
      · rw [hk, hl]
      · rw [if_pos hk] at h1
        rw [if_neg hl] at h2
        exact absurd h2 (gO a h1 l hl)
    · by_cases hl : l = i
      · rw [if_pos hl] at h2
        rw [if_neg hk] at h1
        exact absurd h1 (gO a h2 k hk)
      · rw [if_neg hk] at h1
        rw [if_neg hl] at h2
        exact R.dj k l a h1 h2
  offF := fun k a h => by
    by_cases hk : k = i
    · rw [if_pos hk] at h; exact gF a h
    · rw [if_neg hk] at h; exact oF k hk a h
  offB := fun k a h => by
    by_cases hk : k = i
    · rw [if_pos hk] at h; exact gB a h
    · rw [if_neg hk] at h; exact R.offB k a h
  on := fun k a h => by
    by_cases hk : k = i
    · rw [if_pos hk] at h; exact gH a h
    · rw [if_neg hk] at h
      rw [oH k hk a h]
      exact R.on k a h
  keep := fun a h => by
    rw [kF a h]
    exact R.keep a h
  noT := fun k a h => by
    by_cases hk : k = i
    · rw [if_pos hk] at h; exact gT a h
    · rw [if_neg hk] at h
      rw [oH k hk a h]
      exact R.noT k a h
  tb := tb
  tp := R.tp
  f0 := R.f0
  pin := fun k hk => by
    by_cases e : k = i
    · subst e
      rcases hp with z | z
      · exact z.trans (R.pin k hk)
      · exact absurd hk z
    · rw [hσ k e]
      exact R.pin k hk
  als := fun k x j e => by
    unfold upS at e ⊢
    by_cases hk : k = i
    · subst hk
      have hlt : k < δ.length := by
        have := (List.getElem?_eq_some_iff.mp e).1
        rw [List.length_set, dropAl_len] at this
        exact this
      rw [List.getElem?_set_self (by rw [dropAl_len]; exact hlt)] at e
      cases e
      obtain ⟨hx, xs, e1⟩ := ns x j rfl
      refine ⟨xs, ?_⟩
      rw [List.getElem?_set_ne (Ne.symm hx), dropAl, List.getElem?_map, e1]
      rfl
    · rw [List.getElem?_set_ne (Ne.symm hk)] at e
      rcases dropAl_at e with ⟨e1, _⟩ | ⟨e1, e2⟩
      · cases e1
      · obtain ⟨xs, e3⟩ := R.als k x j e1
        refine ⟨xs, ?_⟩
        rw [List.getElem?_set_ne (fun z => e2 j (by rw [z])), dropAl, List.getElem?_map, e3]
        rfl
end
end Hb
namespace Hb
open PySem PySem.Spec PyProof.Rows L2
def sSt (f : List Sl → Rs AV) : List Sl → Rs AV := fun δ => match f δ with
  | .ok (.tmp s) δ' => (match s.tree with
    | some d => .ok (.val d) δ'
    | none => .bad)
  | r => r
/-- the slot i by reference: its tree stands still from now on -/
def takeI (i : Nat) (δ : List Sl) : Rs AV := match δ[i]? with
  | some (.fz d) => .ok (.val d) δ
  | some (.ol xs) => .ok (.val (.list (xs.map El.d))) (upS i (.fz (.list (xs.map El.d))) δ)
  | some (.od kvs) => .ok (.val (.dict kvs)) (upS i (.fz (.dict kvs)) δ)
  | some (.al x j) => (match δ[x]? with
    | some (.ol xs) => (match xs[j]? with
      | some (.fz d) => .ok (.val d) δ
      | _ => .bad)
    | _ => .bad)
  | some (.ex (.ot xs)) => .ok (.val (.tuple (xs.map Pa.d))) (upS i (.fz (.tuple (xs.map Pa.d))) δ)
  | _ => .bad
def sTk (f : List Sl → Rs AV) : List Sl → Rs AV := fun δ => match sSt f δ with
  | .ok (.ref i) δ' => takeI i δ'
  | r => r
/-- the slot i by reference: its thing is given away -/
def moveI (i : Nat) (δ : List Sl) : Rs AV := match δ[i]? with
  | some (.fz d) => .ok (.val d) δ
  | some (.ol xs) => .ok (.tmp (.ol xs)) (upS i .no δ)
  | some (.od kvs) => .ok (.tmp (.od kvs)) (upS i .no δ)
  | some (.ex e) => .ok (.tmp (.ex e)) (upS i .no δ)
  | _ => .bad
def sMv (f : List Sl → Rs AV) : List Sl → Rs AV := fun δ => match f δ with
  | .ok (.ref i) δ' => moveI i δ'
  | r => r
section
variable {X : Cx} {W : WX} {pin : List Nat} {e : Expr} {f : List Sl → Rs AV}
theorem se_st (h : SE X W pin e f) : SE X W pin e (sSt f) := pe_mono h fun σ H Q ⟨b, Fz, F, δ, hp, R, P⟩ => by
  refine ⟨b, Fz, F, δ, hp, R, ?_⟩
  unfold sSt at P
  cases q : f δ with
  | bad => rw [q] at P; exact P
  | er x δ' => rw [q] at P; exact P
  | ok a δ' =>
    rw [q] at P
    cases a with
    | val d => exact P
    | ref i => exact P
    | tmp s =>
      intro v H' Fz' F' s1 R' ⟨ht, g, hs, hn, hg⟩
      cases q2 : s.tree with
      | none => simp only [q2] at P; exact P.elim
      | some d =>
        simp only [q2] at P
        obtain ⟨s2, R2⟩ := R'.addF (g := g) (fun a ha => ⟨(hg a ha).1, (hg a ha).2.1, (hg a ha).2.2.2⟩) hs.noT
        exact P v H' _ F' (s1.trans s2) R2 (hs.treeF q2 s2 fun a ha => addF_in ha)
theorem take_ok {K : PySem.W.Frag} {b : Bk} {Fz : Hp} {F : Nat → List Addr} {δ : List Sl} {σ : L2.St} {H : Hp} {i : Nat} {s : Sl} {d : PyData} {v : V} (R : Rl K b Fz F δ σ H) (hs : δ[i]? = some s) (ht : s.tree = some d) (hv : σ[i]? = some (some v)) (na : ∀ x j, s ≠ .al x j) :
    ∃ Fz', Same Fz Fz' ∧ Rl K b Fz' (fun k => if k = i then [] else F k) (upS i (.fz d) δ) σ H ∧ Rp K Fz' v d := by
  have h := R.slot i s hs
  rw [hv] at h
  have sF := addF_same (H := H) (g := F i) fun a ha => R.offF i a ha
  have r : Rp K (addF Fz H (F i)) v d := by
    have h2 : SlH K Fz H [] (F i) (some v) s := by
      cases s with
      | al x j => exact absurd rfl (na x j)
      | _ => exact h
    exact h2.treeF ht sF fun a ha => addF_in ha
  have out : ∀ k, k ≠ i → ∀ a ∈ F k, a ∉ F i := fun k hk a ha hi => hk (R.dj k i a ha hi)
  have tb : Tb b (addF Fz H (F i)) H := R.tb.fz fun p hp => addT R.tb (R.noT i) hp
  refine ⟨addF Fz H (F i), sF, R.put sF (addF_le R.le) R.base rfl (fun _ _ => rfl) (.inl rfl) (fun _ => ⟨rfl, v, by rw [hv]; rfl, r⟩) (fun x j z => nomatch z) List.nodup_nil (fun _ z => nomatch z) (fun _ z => nomatch z) (fun _ z => nomatch z) (fun _ z => nomatch z) (fun _ _ _ _ => rfl) (fun k hk a ha => ?_) (fun a ha => ?_), r⟩
  · rw [addF_out (out k hk a ha)]
    exact R.offF k a ha
  · exact addF_out fun hi => ha (R.offB i a hi)
theorem post_take {K : PySem.W.Frag} {mg : Str → Option Value} {W : WX} {b : Bk} {Fz : Hp} {F : Nat → List Addr} {δ : List Sl} {σ : L2.St} {H : Hp} {Q : VK} {i : Nat} {v : V} (R : Rl K b Fz F δ σ H) (hv : σ[i]? = some (some v)) (P : Post K mg W b Fz σ Q (takeI i δ)) : Q v H := by
  unfold takeI at P
  cases q : δ[i]? with
  | none => simp only [q] at P; exact P.elim
  | some s =>
    cases s with
    | no => simp only [q] at P; exact P.elim
    | fz d =>
      simp only [q] at P
      obtain ⟨_, v', e1, e2⟩ := R.slot i _ q
      rw [hv] at e1
      cases e1
      exact P v H Fz F (Same.refl _) R e2
    | ol xs =>
      simp only [q] at P
      obtain ⟨Fz', s1, R', r⟩ := take_ok R q rfl hv (fun _ _ z => nomatch z)
      exact P v H Fz' _ s1 R' r
    | od kvs =>
      simp only [q] at P
      obtain ⟨Fz', s1, R', r⟩ := take_ok R q rfl hv (fun _ _ z => nomatch z)
      exact P v H Fz' _ s1 R' r
    | ex e =>
      cases e with
      | ob c fs => simp only [q] at P; exact P.elim
      | lp c its => simp only [q] at P; exact P.elim
      | li c its => simp only [q] at P; exact P.elim
      | dt its => simp only [q] at P; exact P.elim
      | ot xs =>
        simp only [q] at P
        obtain ⟨Fz', s1, R', r⟩ := take_ok R q rfl hv (fun _ _ z => nomatch z)
        exact P v H Fz' _ s1 R' r
    | al x j =>
      simp only [q] at P
      cases q2 : δ[x]? with
      | none => simp only [q2] at P; exact P.elim
      | some t =>
        cases t with
        | ol xs =>
          simp only [q2] at P
          cases q3 : xs[j]? with
          | none => simp only [q3] at P; exact P.elim
          | some el =>
            cases el with
            | ow ys => simp only [q3] at P; exact P.elim
            | fz d =>
              simp only [q3] at P
              obtain ⟨g, e1, _⟩ := R.al q q2 q3 hv
              exact P v H Fz F (Same.refl _) R e1.2
        | _ => simp only [q2] at P; exact P.elim
theorem se_tk (h : SE X W pin e f) : SE X W pin e (sTk f) := pe_mono (se_st h) fun σ H Q ⟨b, Fz, F, δ, hp, R, P⟩ => by
  refine ⟨b, Fz, F, δ, hp, R, ?_⟩
  unfold sTk at P
  cases q : sSt f δ with
  | bad => rw [q] at P; exact P
  | er x δ' => rw [q] at P; exact P
  | ok a δ' =>
    rw [q] at P
    cases a with
    | val d => exact P
    | tmp s => exact P
    | ref i => exact fun v H' Fz' F' s1 R' hv => post_take R' hv (P.le s1)
theorem se_mv (h : SE X W pin e f) : SE X W pin e (sMv f) := pe_mono h fun σ H Q ⟨b, Fz, F, δ, hp, R, P⟩ => by
  refine ⟨b, Fz, F, δ, hp, R, ?_⟩
  unfold sMv at P
  cases q : f δ with
  | bad => rw [q] at P; exact P
  | er x δ' => rw [q] at P; exact P
  | ok a δ' =>
    rw [q] at P
    cases a with
    | val d => exact P
    | tmp s => exact P
    | ref i =>
      intro v H' Fz' F' s1 R' hv
      have hv' : σ[i]? = some (some v) := hv
      have P' := P.le s1
      unfold moveI at P'
      have go : ∀ s : Sl, δ'[i]? = some s → s.live = true → (∀ x j, s ≠ .al x j) → (∀ d, s ≠ .fz d) → Post X.K X.mg W b Fz' σ Q (.ok (.tmp s) (upS i .no δ')) → Q v H' := fun s hs ht na nf PP => by
        have h0 := R'.slot i s hs
        rw [hv'] at h0
        have h2 : SlH X.K Fz' H' [] (F' i) (some v) s := by
          cases s with
          | al x j => exact absurd rfl (na x j)
          | _ => exact h0
        have R2 := R'.put (i := i) (s := .no) (g := []) (Same.refl _) R'.le R'.base rfl (fun _ _ => rfl) (.inl rfl) (fun _ => rfl) (fun x j z => nomatch z) List.nodup_nil (fun _ z => nomatch z) (fun _ z => nomatch z) (fun _ z => nomatch z) (fun _ z => nomatch z) (fun _ _ _ _ => rfl) (fun k _ a ha => R'.offF k a ha) (fun _ _ => rfl)
        refine PP v H' Fz' _ (Same.refl _) R2 ⟨ht, F' i, h2, R'.nd i, fun a ha => ⟨R'.offF i a ha, R'.offB i a ha, R'.on i a ha, fun k hk => ?_⟩⟩
        have hk' : a ∈ (if k = i then [] else F' k) := hk
        by_cases e : k = i
        · rw [if_pos e] at hk'
          cases hk'
        · rw [if_neg e] at hk'
          exact e (R'.dj k i a hk' ha)
      cases q2 : δ'[i]? with
      | none => simp only [q2] at P'; exact P'.elim
      | some s =>
        cases s with
        | no => simp only [q2] at P'; exact P'.elim
        | fz d =>
          simp only [q2] at P'
          obtain ⟨_, v', e1, e2⟩ := R'.slot i _ q2
          rw [hv'] at e1
          cases e1
          exact P' v H' Fz' F' (Same.refl _) R' e2
        | ol xs =>
          simp only [q2] at P'
          exact go _ q2 rfl (fun _ _ z => nomatch z) (fun _ z => nomatch z) P'
        | od kvs =>
          simp only [q2] at P'
          exact go _ q2 rfl (fun _ _ z => nomatch z) (fun _ z => nomatch z) P'
        | ex e =>
          simp only [q2] at P'
          exact go _ q2 rfl (fun _ _ z => nomatch z) (fun _ z => nomatch z) P'
        | al x j => simp only [q2] at P'; exact P'.elim
end
def sC (d : PyData) : List Sl → Rs AV := fun δ => .ok (.val d) δ
def sVar (i : Nat) : List Sl → Rs AV := fun δ => match δ[i]? with
  | some (.fz d) => .ok (.val d) δ
  | some (.ol _) => .ok (.ref i) δ
  | some (.od _) => .ok (.ref i) δ
  | some (.al _ _) => .ok (.ref i) δ
  | some (.ex _) => .ok (.ref i) δ
  | _ => .bad
section
variable {X : Cx} {W : WX} {pin : List Nat} {pos : Pos}
theorem se_int {i : Int} {j : Nat} : SE X W pin (.Constant (.int i) j pos) (sC (.int i)) := pe_mono pe_int fun σ H Q ⟨b, Fz, F, δ, hp, R, P⟩ => P _ H Fz F (Same.refl _) R (.int i)
theorem se_bl {i : Bool} {j : Nat} : SE X W pin (.Constant (.bool i) j pos) (sC (.bool i)) := pe_mono pe_bl fun σ H Q ⟨b, Fz, F, δ, hp, R, P⟩ => P _ H Fz F (Same.refl _) R (.bl i)
theorem se_non {j : Nat} : SE X W pin (.Constant .none j pos) (sC .none) := pe_mono pe_non fun σ H Q ⟨b, Fz, F, δ, hp, R, P⟩ => P _ H Fz F (Same.refl _) R .non
theorem se_globI {x : Str} {i : Int} (hg : Gl X x) (hm : ∃ t, X.mg x = some (.int i t)) (hd : (x == ("__debug__" : Str)) = false := by decide) : SE X W pin (.Name x pos) (sC (.int i)) := by
  obtain ⟨t, hm⟩ := hm
  exact pe_mono (pe_glob hg hm (v := .int i) ⟨t, rfl⟩ hd) fun σ H Q ⟨b, Fz, F, δ, hp, R, P⟩ => P _ H Fz F (Same.refl _) R (.int i)
theorem post_var {K : PySem.W.Frag} {mg : Str → Option Value} {b : Bk} {Fz : Hp} {F : Nat → List Addr} {δ : List Sl} {σ : L2.St} {H : Hp} {Q : VK} {i : Nat} (R : Rl K b Fz F δ σ H) (P : Post K mg W b Fz σ Q (sVar i δ)) : ∃ v, σ[i]? = some (some v) ∧ Q v H := by
  unfold sVar at P
  cases q : δ[i]? with
  | none => simp only [q] at P; exact P.elim
  | some s =>
    have h := R.slot i s q
    cases s with
    | no => simp only [q] at P; exact P.elim
    | fz d =>
      simp only [q] at P
      obtain ⟨_, v, e1, e2⟩ := h
      exact ⟨v, join_some e1, P v H Fz F (Same.refl _) R e2⟩
    | ol xs =>
      simp only [q] at P
      obtain ⟨a, vs, g, e1, _⟩ := h
      exact ⟨_, join_some e1, P _ H Fz F (Same.refl _) R (join_some e1)⟩
    | od kvs =>
      simp only [q] at P
      obtain ⟨a, e1, _⟩ := h
      exact ⟨_, join_some e1, P _ H Fz F (Same.refl _) R (join_some e1)⟩
    | ex e =>
      simp only [q] at P
      cases e with
      | ot xs =>
        obtain ⟨a, vs, e1, _⟩ := h
        exact ⟨_, join_some e1, P _ H Fz F (Same.refl _) R (join_some e1)⟩
      | ob c fs =>
        obtain ⟨a, dx, vs, g, e1, _⟩ := h
        exact ⟨_, join_some e1, P _ H Fz F (Same.refl _) R (join_some e1)⟩
      | lp c its =>
        obtain ⟨a, vs, g, e1, _⟩ := h
        exact ⟨_, join_some e1, P _ H Fz F (Same.refl _) R (join_some e1)⟩
      | li c its =>
        obtain ⟨a, vs, g, e1, _⟩ := h
        exact ⟨_, join_some e1, P _ H Fz F (Same.refl _) R (join_some e1)⟩
      | dt its =>
        obtain ⟨a, ws, e1, _⟩ := h
        exact ⟨_, join_some e1, P _ H Fz F (Same.refl _) R (join_some e1)⟩
    | al x j =>
      simp only [q] at P
      obtain ⟨_, a, c, vs, _, _, _, e1⟩ := h
      exact ⟨_, join_some e1, P _ H Fz F (Same.refl _) R (join_some e1)⟩
theorem se_var (i : Nat) {x : Str} (hN : X.N[i]? = some x := by rfl) (hv : Vis X.env.scope x := by first | exact Or.inl rfl | exact Or.inr (Or.inl rfl) | exact Or.inr (Or.inr rfl)) (hd : (x == ("__debug__" : Str)) = false := by decide)
    (hcd : (x == ("__classdict__" : Str)) = false := by decide) : SE X W pin (.Name x pos) (sVar i) := pe_mono (pe_var hN hv hd hcd) fun σ H Q ⟨b, Fz, F, δ, hp, R, P⟩ => post_var R P
end
def s2 (g : AV → AV → List Sl → Rs AV) (fa fb : List Sl → Rs AV) : List Sl → Rs AV := fun δ => (sSt fa δ).bind fun x δ1 => (sSt fb δ1).bind fun y δ2 => g x y δ2
def s1 (g : AV → List Sl → Rs AV) (fa : List Sl → Rs AV) : List Sl → Rs AV := fun δ => (sSt fa δ).bind fun x δ1 => g x δ1
section
variable (K : PySem.W.Frag) (mg : Str → Option Value) (W : WX) (pin : List Nat)
def V2 (r : R2) (g : AV → AV → List Sl → Rs AV) : Prop := ∀ b Fz F δ σ H v w x y Q, b.pin = pin → Rl K b Fz F δ σ H → AvS K Fz σ v x → AvS K Fz σ w y → Post K mg W b Fz σ Q (g x y δ) → r v w H Q
def V1 (r : V → Hp → VK → Prop) (g : AV → List Sl → Rs AV) : Prop := ∀ b Fz F δ σ H v x Q, b.pin = pin → Rl K b Fz F δ σ H → AvS K Fz σ v x → Post K mg W b Fz σ Q (g x δ) → r v H Q
end
section
variable {X : Cx} {W : WX} {pin : List Nat} {fa fb : List Sl → Rs AV}
theorem sSt_notmp (f : List Sl → Rs AV) (δ : List Sl) (s : Sl) (δ' : List Sl) : sSt f δ ≠ .ok (.tmp s) δ' := by
  unfold sSt
  cases q : f δ with
  | bad => exact fun z => nomatch z
  | er x δ' => exact fun z => nomatch z
  | ok a δ2 =>
    cases a with
    | val d => exact fun z => nomatch z
    | ref i => exact fun z => nomatch z
    | tmp t =>
      cases q2 : t.tree with
      | none => simp only [q2]; exact fun z => nomatch z
      | some d => simp only [q2]; exact fun z => nomatch z
/-- behind one stable operand -/
theorem rd_bind {K : PySem.W.Frag} {mg : Str → Option Value} {σ : L2.St} {H : Hp} {b : Bk} {Fz : Hp} {F : Nat → List Addr} {δ : List Sl} {k : AV → List Sl → Rs AV} {Q R : VK} (hp : b.pin = pin) (Rr : Rl K b Fz F δ σ H) (P : Post K mg W b Fz σ Q ((sSt fa δ).bind k))
    (h : ∀ v H' Fz' F' x δ', Same Fz Fz' → Rl K b Fz' F' δ' σ H' → AvS K Fz' σ v x → Post K mg W b Fz' σ Q (k x δ') → R v H') : rdE K mg W pin (sSt fa) σ H R := by
  refine ⟨b, Fz, F, δ, hp, Rr, ?_⟩
  cases q : sSt fa δ with
  | bad => rw [q] at P; exact P
  | er x δ' => rw [q] at P; exact P
  | ok a δ' =>
    rw [q] at P
    intro v H' Fz' F' s R' A
    cases a with
    | tmp t => exact absurd q (sSt_notmp _ _ _ _)
    | val d => exact h v H' Fz' F' (.val d) δ' s R' A (Post.le s P)
    | ref i => exact h v H' Fz' F' (.ref i) δ' s R' A (Post.le s P)
theorem t2_ok {a c : Expr} {g : AV → AV → List Sl → Rs AV} {r : R2} (hv : V2 X.K X.mg W pin r g) : ∀ σ H Q, rdE X.K X.mg W pin (s2 g fa fb) σ H Q → tOp r (rdE X.K X.mg W pin (sSt fa)) (rdE X.K X.mg W pin (sSt fb)) σ H Q := fun σ H Q ⟨b, Fz, F, δ, hp, R, P⟩ => by
  refine rd_bind hp R P fun v H1 Fz1 F1 x δ1 s1 R1 A1 P1 => ?_
  refine rd_bind hp R1 P1 fun w H2 Fz2 F2 y δ2 s2 R2 A2 P2 => ?_
  exact hv b Fz2 F2 δ2 σ H2 v w x y Q hp R2 (A1.le s2) A2 P2
theorem t1_ok {g : AV → List Sl → Rs AV} {r : V → Hp → VK → Prop} (hv : V1 X.K X.mg W pin r g) : ∀ σ H Q, rdE X.K X.mg W pin (s1 g fa) σ H Q → tUn r (rdE X.K X.mg W pin (sSt fa)) σ H Q := fun σ H Q ⟨b, Fz, F, δ, hp, R, P⟩ => by
  refine rd_bind hp R P fun v H1 Fz1 F1 x δ1 s1 R1 A1 P1 => ?_
  exact hv b Fz1 F1 δ1 σ H1 v x Q hp R1 A1 P1
theorem se_bin {a c : Expr} {op : Operator} {pos : Pos} {g : AV → AV → List Sl → Rs AV} {r : R2} (ho : OpR X (binaryOp op) r) (hv : V2 X.K X.mg W pin r g) (ha : SE X W pin a fa) (hb : SE X W pin c fb) : SE X W pin (.BinOp a op c pos) (s2 g fa fb) :=
  pe_mono (pe_op ho (se_st ha) (se_st hb)) (t2_ok (a := a) (c := c) hv)
theorem se_cmp {a c : Expr} {op : CmpOp} {pos : Pos} {g : AV → AV → List Sl → Rs AV} {r : R2} (ho : OpR X (compareOp op) r) (hv : V2 X.K X.mg W pin r g) (ha : SE X W pin a fa) (hb : SE X W pin c fb) (hm : behindInMarks op c = false) : SE X W pin (.Compare a [op] [c] pos) (s2 g fa fb) :=
  pe_mono (pe_cmpR ho (se_st ha) (se_st hb) hm) (t2_ok (a := a) (c := c) hv)
theorem se_un {a : Expr} {op : UnaryOp} {pos : Pos} {g : AV → List Sl → Rs AV} {r : V → Hp → VK → Prop} (ho : UnR X (unaryOp op) r) (hv : V1 X.K X.mg W pin r g) (ha : SE X W pin a fa) : SE X W pin (.UnaryOp op a pos) (s1 g fa) :=
  pe_mono (pe_un ho (se_st ha)) (t1_ok hv)
/-- a test by a comparison -/
def sTst (f : List Sl → Rs AV) : List Sl → Rs Bool := fun δ => (f δ).bind fun a δ' => match a with
  | .val (.bool k) => .ok k δ'
  | _ => .bad
theorem tst_ok {K : PySem.W.Frag} {mg : Str → Option Value} {f : List Sl → Rs AV} : ∀ σ H Q, rdT K mg W pin (sTst f) σ H Q → rdE K mg W pin f σ H (fun x H' => ∃ k, x = .bl k ∧ Q k H') := fun σ H Q ⟨b, Fz, F, δ, hp, R, P⟩ => by
  refine ⟨b, Fz, F, δ, hp, R, ?_⟩
  unfold sTst at P
  cases q : f δ with
  | bad => rw [q] at P; exact P
  | er x δ' => rw [q] at P; exact P
  | ok a δ' =>
    rw [q] at P
    cases a with
    | tmp s => exact P.elim
    | ref i => exact P.elim
    | val d =>
      cases d with
      | bool k =>
        intro v H' Fz' F' s R' A
        cases (show Rp K Fz' v (.bool k) from A)
        exact ⟨k, rfl, P H' Fz' F' s R'⟩
      | _ => exact P.elim
theorem st_cmp {a c : Expr} {op : CmpOp} {pos : Pos} {g : AV → AV → List Sl → Rs AV} {r : R2} (ho : OpR X (compareOp op) r) (hv : V2 X.K X.mg W pin r g) (ha : SE X W pin a fa) (hb : SE X W pin c fb) (hm : behindInMarks op c = false) : ST X W pin (.Compare a [op] [c] pos) (sTst (s2 g fa fb)) :=
  pt_mono (pt_cmpR ho (se_st ha) (se_st hb) hm) fun σ H Q h => t2_ok (a := a) (c := c) hv σ H _ (tst_ok σ H Q h)
def truD : PyData → Option Bool
  | .none => some false
  | .bool b => some b
  | .int i => some (i != 0)
  | .list ds => some !ds.isEmpty
  | .tuple ds => some !ds.isEmpty
  | _ => none
theorem RpL.isEmpty {K : PySem.W.Frag} {H : Hp} {vs : List V} {ds : List PyData} (h : RpL K H vs ds) : vs.isEmpty = ds.isEmpty := by
  cases h <;> rfl
theorem truD_ok {K : PySem.W.Frag} {H : Hp} {v : V} {d : PyData} {k : Bool} (r : Rp K H v d) (h : truD d = some k) : TruV K v H k := by
  cases r with
  | non => cases h; rfl
  | bl b => cases h; rfl
  | int i => cases h; rfl
  | str x => cases h
  | lst h1 h2 => cases h; exact .inl ⟨_, h1.sq, by rw [h2.isEmpty]⟩
  | tup h1 h2 => cases h; exact .inr (.inl ⟨_, (TP.sq h1), by rw [h2.isEmpty]⟩)
  | dK h1 h2 => cases h
  | dT h1 h2 => cases h
def sTru (f : List Sl → Rs AV) : List Sl → Rs Bool := fun δ => (sSt f δ).bind fun a δ' => match (rdA δ' a).bind truD with
  | some k => .ok k δ'
  | none => .bad
theorem rd_bindT {K : PySem.W.Frag} {mg : Str → Option Value} {σ : L2.St} {H : Hp} {b : Bk} {Fz : Hp} {F : Nat → List Addr} {δ : List Sl} {k : AV → List Sl → Rs Bool} {Q : Bool → Hp → Prop} {R : VK} (hp : b.pin = pin) (Rr : Rl K b Fz F δ σ H) (P : PostT K mg W b Fz σ Q ((sSt fa δ).bind k))
    (h : ∀ v H' Fz' F' x δ', Same Fz Fz' → Rl K b Fz' F' δ' σ H' → AvS K Fz' σ v x → PostT K mg W b Fz' σ Q (k x δ') → R v H') : rdE K mg W pin (sSt fa) σ H R := by
  refine ⟨b, Fz, F, δ, hp, Rr, ?_⟩
  cases q : sSt fa δ with
  | bad => rw [q] at P; exact P
  | er x δ' => rw [q] at P; exact P
  | ok a δ' =>
    rw [q] at P
    intro v H' Fz' F' s R' A
    cases a with
    | tmp t => exact absurd q (sSt_notmp _ _ _ _)
    | val d => exact h v H' Fz' F' (.val d) δ' s R' A (PostT.le s P)
    | ref i => exact h v H' Fz' F' (.ref i) δ' s R' A (PostT.le s P)
theorem tru_mono {K : PySem.W.Frag} {mg : Str → Option Value} : ∀ σ H Q, rdT K mg W pin (sTru fa) σ H Q → rdE K mg W pin (sSt fa) σ H fun x H' => ∃ k, TruV K x H' k ∧ Q k H' := fun σ H Q ⟨b, Fz, F, δ, hp, R, P⟩ => by
  refine rd_bindT hp R P fun v H1 Fz1 F1 x δ1 s1 R1 A1 P1 => ?_
  cases q : rdA δ1 x with
  | none => simp only [q, Option.bind_none] at P1; exact P1.elim
  | some d =>
    cases q2 : truD d with
    | none => simp only [q, Option.bind_some, q2] at P1; exact P1.elim
    | some k =>
      simp only [q, Option.bind_some, q2] at P1
      exact ⟨k, truD_ok (rdA_ok R1 A1 q) q2, P1 H1 Fz1 F1 (Same.refl _) R1⟩
theorem st_tru {a : Expr} (ha : SE X W pin a fa) (he : ∀ whole, isTrue a X.env whole = (do let v ← whole; standAt a.pos; holding [v] (truthy v)) := by intro _; rfl) : ST X W pin a (sTru fa) :=
  pt_mono (pt_truth (se_st ha) he) fun σ H Q h => tru_mono σ H Q h
def sNot (t : List Sl → Rs Bool) : List Sl → Rs Bool := fun δ => (t δ).bind fun k δ' => .ok (!k) δ'
def sAnd (t u : List Sl → Rs Bool) : List Sl → Rs Bool := fun δ => (t δ).bind fun k δ' => if k = true then u δ' else .ok false δ'
def sOr (t u : List Sl → Rs Bool) : List Sl → Rs Bool := fun δ => (t δ).bind fun k δ' => if k = true then .ok true δ' else u δ'
def sIf (t : List Sl → Rs Bool) (f g : List Sl → Rs AV) : List Sl → Rs AV := fun δ => (t δ).bind fun k δ' => if k = true then f δ' else g δ'
section
variable {K : PySem.W.Frag} {mg : Str → Option Value} {σ : L2.St} {H : Hp} {b : Bk} {Fz : Hp} {F : Nat → List Addr} {δ : List Sl} {t : List Sl → Rs Bool}
theorem rdT_bind {k : Bool → List Sl → Rs Bool} {Q : Bool → Hp → Prop} {R : Bool → Hp → Prop} (hp : b.pin = pin) (Rr : Rl K b Fz F δ σ H) (P : PostT K mg W b Fz σ Q ((t δ).bind k))
    (h : ∀ c H' Fz' F' δ', Same Fz Fz' → Rl K b Fz' F' δ' σ H' → PostT K mg W b Fz' σ Q (k c δ') → R c H') : rdT K mg W pin t σ H R := by
  refine ⟨b, Fz, F, δ, hp, Rr, ?_⟩
  cases q : t δ with
  | bad => rw [q] at P; exact P
  | er x δ' => rw [q] at P; exact P
  | ok a δ' =>
    rw [q] at P
    exact fun H' Fz' F' s R' => h a H' Fz' F' δ' s R' (PostT.le s P)
theorem rdT_bindE {k : Bool → List Sl → Rs AV} {Q : VK} {R : Bool → Hp → Prop} (hp : b.pin = pin) (Rr : Rl K b Fz F δ σ H) (P : Post K mg W b Fz σ Q ((t δ).bind k))
    (h : ∀ c H' Fz' F' δ', Same Fz Fz' → Rl K b Fz' F' δ' σ H' → Post K mg W b Fz' σ Q (k c δ') → R c H') : rdT K mg W pin t σ H R := by
  refine ⟨b, Fz, F, δ, hp, Rr, ?_⟩
  cases q : t δ with
  | bad => rw [q] at P; exact P
  | er x δ' => rw [q] at P; exact P
  | ok a δ' =>
    rw [q] at P
    exact fun H' Fz' F' s R' => h a H' Fz' F' δ' s R' (Post.le s P)
end
variable {a c d : Expr} {rest : List Expr} {pos : Pos} {t u : List Sl → Rs Bool} {f g : List Sl → Rs AV}
theorem st_not (h : ST X W pin a t) : ST X W pin (.UnaryOp .Not a pos) (sNot t) := pt_mono (pt_not h) fun σ H Q ⟨b, Fz, F, δ, hp, R, P⟩ =>
  rdT_bind hp R P fun c H' Fz' F' δ' s R' P' => P' H' Fz' F' (Same.refl _) R'
abbrev SW (X : Cx) (W : WX) (pin : List Nat) (e : Expr) (f : List Sl → Rs Bool) : Prop := PW X e (rdT X.K X.mg W pin f)
theorem pw_mono {e : Expr} {t t' : TT} (h : PW X e t) (i : ∀ σ H Q, t' σ H Q → t σ H Q) : PW X e t' := ⟨fun wh pins s σ H Q I q => h.run wh pins s σ H Q I (i σ H Q q)⟩
theorem sw_and1 (h : ST X W pin a t) : SW X W pin (.BoolOp .And [a] pos) t := pw_and1 h
theorem sw_or1 (h : ST X W pin a t) : SW X W pin (.BoolOp .Or [a] pos) t := pw_or1 h
theorem sw_and (h : ST X W pin a t) (h2 : SW X W pin (.BoolOp .And (c :: rest) pos) u) : SW X W pin (.BoolOp .And (a :: c :: rest) pos) (sAnd t u) := pw_mono (pw_and h h2) fun σ H Q ⟨b, Fz, F, δ, hp, R, P⟩ =>
  rdT_bind hp R P fun k H' Fz' F' δ' s R' P' => by
    by_cases e : k = true
    · rw [if_pos e] at P' ⊢
      exact ⟨b, Fz', F', δ', hp, R', P'⟩
    · rw [if_neg e] at P' ⊢
      exact P' H' Fz' F' (Same.refl _) R'
theorem sw_or (h : ST X W pin a t) (h2 : SW X W pin (.BoolOp .Or (c :: rest) pos) u) : SW X W pin (.BoolOp .Or (a :: c :: rest) pos) (sOr t u) := pw_mono (pw_or h h2) fun σ H Q ⟨b, Fz, F, δ, hp, R, P⟩ =>
  rdT_bind hp R P fun k H' Fz' F' δ' s R' P' => by
    by_cases e : k = true
    · rw [if_pos e] at P' ⊢
      exact P' H' Fz' F' (Same.refl _) R'
    · rw [if_neg e] at P' ⊢
      exact ⟨b, Fz', F', δ', hp, R', P'⟩
theorem st_w (h : SW X W pin a t) : ST X W pin a t := h.pt
theorem se_if (hc : ST X W pin a t) (ha : SE X W pin c f) (hb : SE X W pin d g) : SE X W pin (.IfExp a c d pos) (sIf t f g) := pe_mono (pe_ifExp hc ha hb) fun σ H Q ⟨b, Fz, F, δ, hp, R, P⟩ =>
  rdT_bindE hp R P fun k H' Fz' F' δ' s R' P' => by
    by_cases e : k = true
    · rw [if_pos e] at P' ⊢
      exact ⟨b, Fz', F', δ', hp, R', P'⟩
    · rw [if_neg e] at P' ⊢
      exact ⟨b, Fz', F', δ', hp, R', P'⟩
/-- and, or, not as values: the value's truth decides -/
def sAndV (f g : List Sl → Rs AV) : List Sl → Rs AV := fun δ => (sSt f δ).bind fun a δ' => match (rdA δ' a).bind truD with
  | some k => if k = true then g δ' else .ok a δ'
  | none => .bad
def sOrV (f g : List Sl → Rs AV) : List Sl → Rs AV := fun δ => (sSt f δ).bind fun a δ' => match (rdA δ' a).bind truD with
  | some k => if k = true then .ok a δ' else g δ'
  | none => .bad
theorem se_and (ha : SE X W pin a f) (hb : SE X W pin (.BoolOp .And (c :: rest) pos) g) : SE X W pin (.BoolOp .And (a :: c :: rest) pos) (sAndV f g) := pe_mono (pe_andT (se_st ha) hb) fun σ H Q ⟨b, Fz, F, δ, hp, R, P⟩ =>
  rd_bind hp R P fun v H1 Fz1 F1 x δ1 s1 R1 A1 P1 => by
    cases q : rdA δ1 x with
    | none => simp only [q, Option.bind_none] at P1; exact P1.elim
    | some d =>
      cases q2 : truD d with
      | none => simp only [q, Option.bind_some, q2] at P1; exact P1.elim
      | some k =>
        simp only [q, Option.bind_some, q2] at P1
        refine ⟨k, truD_ok (rdA_ok R1 A1 q) q2, ?_⟩
        by_cases e : k = true
        · rw [if_pos e] at P1 ⊢
          exact ⟨b, Fz1, F1, δ1, hp, R1, P1⟩
        · rw [if_neg e] at P1 ⊢
          exact P1 v H1 Fz1 F1 (Same.refl _) R1 (AvR.of A1)
theorem se_or (ha : SE X W pin a f) (hb : SE X W pin (.BoolOp .Or (c :: rest) pos) g) : SE X W pin (.BoolOp .Or (a :: c :: rest) pos) (sOrV f g) := pe_mono (pe_orT (se_st ha) hb) fun σ H Q ⟨b, Fz, F, δ, hp, R, P⟩ =>
  rd_bind hp R P fun v H1 Fz1 F1 x δ1 s1 R1 A1 P1 => by
    cases q : rdA δ1 x with
    | none => simp only [q, Option.bind_none] at P1; exact P1.elim
    | some d =>
      cases q2 : truD d with
      | none => simp only [q, Option.bind_some, q2] at P1; exact P1.elim
      | some k =>
        simp only [q, Option.bind_some, q2] at P1
        refine ⟨k, truD_ok (rdA_ok R1 A1 q) q2, ?_⟩
        by_cases e : k = true
        · rw [if_pos e] at P1 ⊢
          exact P1 v H1 Fz1 F1 (Same.refl _) R1 (AvR.of A1)
        · rw [if_neg e] at P1 ⊢
          exact ⟨b, Fz1, F1, δ1, hp, R1, P1⟩
theorem se_oneO (ha : SE X W pin a f) : SE X W pin (.BoolOp .Or [a] pos) f := ha_one ha
where ha_one {X : Cx} {W : WX} {pin : List Nat} {a : Expr} {f : List Sl → Rs AV} {pos : Pos} (ha : SE X W pin a f) : SE X W pin (.BoolOp .Or [a] pos) f := pe_one ha
theorem se_oneA (ha : SE X W pin a f) : SE X W pin (.BoolOp .And [a] pos) f := pe_one ha
end
end Hb
namespace Hb
open PySem PySem.Spec PyProof.Rows L2
abbrev cap : Nat := 1000000
theorem cap_line : cap + cap < sizeLine := by rw [sizeLine_eq]; decide
theorem le_line {n : Nat} (h : n ≤ cap) : n ≤ sizeLine := Nat.le_trans h (by rw [sizeLine_eq]; decide)
theorem lt_line {n : Nat} (h : n ≤ cap) : n < sizeLine := Nat.lt_of_le_of_lt h (by rw [sizeLine_eq]; decide)
def gI (C : Int → Int → Bool) (g : Int → Int → Int) (x y : AV) (δ : List Sl) : Rs AV := match rdC δ x, rdC δ y with
  | some (.int i), some (.int j) => if C i j = true then .ok (.val (.int (g i j))) δ else .bad
  | _, _ => .bad
def gB (g : Int → Int → Bool) (x y : AV) (δ : List Sl) : Rs AV := match rdC δ x, rdC δ y with
  | some (.int i), some (.int j) => .ok (.val (.bool (g i j))) δ
  | _, _ => .bad
def gNeg (x : AV) (δ : List Sl) : Rs AV := match rdC δ x with
  | some (.int i) => .ok (.val (.int (-i))) δ
  | _ => .bad
theorem rpc_int {K : PySem.W.Frag} {Fz H : Hp} {v : V} {i : Int} (h : RpC K Fz H v (.int i)) : v = .int i := by
  rcases h with h | ⟨a, vs, ds, e1, e2, _⟩
  · cases h; rfl
  · cases e2
theorem rpc_str {K : PySem.W.Frag} {Fz H : Hp} {v : V} {i : Str} (h : RpC K Fz H v (.str i)) : v = .str i := by
  rcases h with h | ⟨a, vs, ds, e1, e2, _⟩
  · cases h; rfl
  · cases e2
section
variable {K : PySem.W.Frag} {mg : Str → Option Value} {W : WX} {pin : List Nat}
theorem v2_i {C : Int → Int → Bool} {C' : Int → Int → Prop} {g : Int → Int → Int} (hC : ∀ i j, C i j = true → C' i j) : V2 K mg W pin (rI C' fun i j => .int (g i j)) (gI C g) := by
  intro b Fz F δ σ H v w x y Q hp R A B P
  unfold gI at P
  cases q1 : rdC δ x with
  | none => simp only [q1] at P; exact P.elim
  | some d =>
    cases q2 : rdC δ y with
    | none => cases d <;> (simp only [q1, q2] at P; exact P.elim)
    | some e =>
      cases d with
      | int i =>
        cases e with
        | int j =>
          simp only [q1, q2] at P
          by_cases c : C i j = true
          · rw [if_pos c] at P
            exact ⟨i, j, rpc_int (rdC_ok R A q1), rpc_int (rdC_ok R B q2), hC i j c, P _ H Fz F (Same.refl _) R (.int _)⟩
          · rw [if_neg c] at P
            exact P.elim
        | _ => simp only [q1, q2] at P; exact P.elim
      | _ => simp only [q1, q2] at P; exact P.elim
theorem v2_i0 {C : Int → Int → Bool} {g : Int → Int → Int} : V2 K mg W pin (rI0 fun i j => .int (g i j)) (gI C g) := by
  intro b Fz F δ σ H v w x y Q hp R A B P
  obtain ⟨i, j, h1, h2, _, q⟩ := v2_i (K := K) (mg := mg) (W := W) (C' := fun _ _ => True) (fun _ _ _ => trivial) b Fz F δ σ H v w x y Q hp R A B P
  exact ⟨i, j, h1, h2, q⟩
theorem v2_b {g : Int → Int → Bool} : V2 K mg W pin (rI0 fun i j => .bl (g i j)) (gB g) := by
  intro b Fz F δ σ H v w x y Q hp R A B P
  unfold gB at P
  cases q1 : rdC δ x with
  | none => simp only [q1] at P; exact P.elim
  | some d =>
    cases q2 : rdC δ y with
    | none => cases d <;> (simp only [q1, q2] at P; exact P.elim)
    | some e =>
      cases d with
      | int i =>
        cases e with
        | int j =>
          simp only [q1, q2] at P
          exact ⟨i, j, rpc_int (rdC_ok R A q1), rpc_int (rdC_ok R B q2), P _ H Fz F (Same.refl _) R (.bl _)⟩
        | _ => simp only [q1, q2] at P; exact P.elim
      | _ => simp only [q1, q2] at P; exact P.elim
theorem v1_neg : V1 K mg W pin (rU fun i => .int (-i)) gNeg := by
  intro b Fz F δ σ H v x Q hp R A P
  unfold gNeg at P
  cases q1 : rdC δ x with
  | none => simp only [q1] at P; exact P.elim
  | some d =>
    cases d with
    | int i =>
      simp only [q1] at P
      exact ⟨i, rpc_int (rdC_ok R A q1), P _ H Fz F (Same.refl _) R (.int _)⟩
    | _ => simp only [q1] at P; exact P.elim
end
def yes2 : Int → Int → Bool := fun _ _ => true
abbrev gSub := gI yes2 (· - ·)
abbrev gMod := gI (fun _ j => decide (0 < j)) (· % ·)
abbrev gLt := gB fun i j => decide (i < j)
abbrev gLe := gB fun i j => decide (i ≤ j)
abbrev gGt := gB fun i j => decide (j < i)
section
variable {X : Cx} {W : WX} {pin : List Nat} {fa fb : List Sl → Rs AV} {a c : Expr} {pos : Pos}
theorem se_sub (ha : SE X W pin a fa) (hb : SE X W pin c fb) : SE X W pin (.BinOp a .Sub c pos) (s2 gSub fa fb) := se_bin op_sub v2_i0 ha hb
theorem se_mod (ha : SE X W pin a fa) (hb : SE X W pin c fb) : SE X W pin (.BinOp a .Mod c pos) (s2 gMod fa fb) := se_bin op_mod (v2_i fun _ _ h => of_decide_eq_true h) ha hb
theorem se_neg (ha : SE X W pin a fa) : SE X W pin (.UnaryOp .USub a pos) (s1 gNeg fa) := se_un un_neg v1_neg ha
theorem se_le (ha : SE X W pin a fa) (hb : SE X W pin c fb) : SE X W pin (.Compare a [.LtE] [c] pos) (s2 gLe fa fb) := se_cmp op_le v2_b ha hb (nomark _)
theorem st_lt (ha : SE X W pin a fa) (hb : SE X W pin c fb) : ST X W pin (.Compare a [.Lt] [c] pos) (sTst (s2 gLt fa fb)) := st_cmp op_lt v2_b ha hb (nomark _)
theorem st_gt (ha : SE X W pin a fa) (hb : SE X W pin c fb) : ST X W pin (.Compare a [.Gt] [c] pos) (sTst (s2 gGt fa fb)) := st_cmp op_gt v2_b ha hb (nomark _)
end
def rCatX (K : PySem.W.Frag) : R2 := fun x y H Q => ∃ l b xs zs, x = .ref l ∧ y = .ref b ∧ SqX K H l xs ∧ SqX K H b zs ∧ xs.length + zs.length ≤ sizeLine ∧ ∀ p, H p = none → Q (.ref p) (upd H p (.lst (xs ++ zs)))
theorem op_catX {X : Cx} : OpR X (binaryOp .Add) (rCatX X.K) := by
  intro pins s σ H x y v u Q I rx ry h
  obtain ⟨l, b, xs, zs, e1, e2, hX, hZ, hz, q⟩ := h
  subst e1 e2
  cases rx
  cases ry
  obtain ⟨i1, n1, r1, g1, z1⟩ := inv_lstX I hX
  obtain ⟨i2, n2, r2, g2, z2⟩ := inv_lstX I hZ
  have l1 := r1.length
  have l2 := r2.length
  refine PySem.P.add_list g1 g2 ?_ (by rw [List.size_toArray, List.size_toArray, ← l1, ← l2]; exact hz)
  rw [show i1.toArray ++ i2.toArray = (i1 ++ i2).toArray by simp]
  exact ⟨.ref _, _, I.lnew (t' := s.toks) (r1.append r2) (by rw [List.length_append]; exact hz), rfl, q _ I.fresh⟩
def rStrCat : R2 := fun x y H Q => ∃ i j, x = .str i ∧ y = .str j ∧ i.length + j.length ≤ sizeLine ∧ Q (.str (i ++ j)) H
def rAddU (K : PySem.W.Frag) : R2 := fun x y H Q => ((rI0 (fun i j => .int (i + j)) x y H Q ∨ rCatX K x y H Q) ∨ rStrCat x y H Q) ∨ rCatP K x y H Q
theorem op_addU {X : Cx} : OpR X (binaryOp .Add) (rAddU X.K) := OpR.or (OpR.or (OpR.or op_add op_catX) op_add_str) op_catP
def gAdd (x y : AV) (δ : List Sl) : Rs AV := match rdC δ x, rdC δ y with
  | some (.int i), some (.int j) => .ok (.val (.int (i + j))) δ
  | some (.list ds), some (.list es) => if ds.length ≤ cap ∧ es.length ≤ cap then .ok (.tmp (.ol ((ds ++ es).map .fz))) δ else .bad
  | some (.str s), some (.str t) => if s.length ≤ cap ∧ t.length ≤ cap then .ok (.val (.str (s ++ t))) δ else .bad
  | some (.tuple ds), some (.tuple es) => if ds.length ≤ cap ∧ es.length ≤ cap then .ok (.val (.tuple (ds ++ es))) δ else .bad
  | _, _ => .bad
section
variable {K : PySem.W.Frag} {mg : Str → Option Value} {W : WX} {pin : List Nat}
theorem v2_add : V2 K mg W pin (rAddU K) gAdd := by
  intro b Fz F δ σ H v w x y Q hp R A B P
  unfold gAdd at P
  cases q1 : rdC δ x with
  | none => simp only [q1] at P; exact P.elim
  | some d =>
    cases q2 : rdC δ y with
    | none => cases d <;> (simp only [q1, q2] at P; exact P.elim)
    | some e =>
      have h1 := rdC_ok R A q1
      have h2 := rdC_ok R B q2
      have cl := cap_line
      cases d with
      | int i =>
        cases e with
        | int j =>
          simp only [q1, q2] at P
          exact .inl (.inl (.inl ⟨i, j, rpc_int h1, rpc_int h2, P _ H Fz F (Same.refl _) R (.int _)⟩))
        | _ => simp only [q1, q2] at P; exact P.elim
      | str i =>
        cases e with
        | str j =>
          simp only [q1, q2] at P
          by_cases c : i.length ≤ cap ∧ j.length ≤ cap
          · rw [if_pos c] at P
            exact .inl (.inr ⟨i, j, rpc_str h1, rpc_str h2, by omega, P _ H Fz F (Same.refl _) R (.str _)⟩)
          · rw [if_neg c] at P; exact P.elim
        | _ => simp only [q1, q2] at P; exact P.elim
      | list ds =>
        cases e with
        | list es =>
          simp only [q1, q2] at P
          by_cases c : ds.length ≤ cap ∧ es.length ≤ cap
          · rw [if_pos c] at P
            obtain ⟨a1, v1, e1, s1, r1⟩ := h1.list R.le
            obtain ⟨a2, v2, e2, s2, r2⟩ := h2.list R.le
            have l1 := r1.len
            have l2 := r2.len
            exact .inl (.inl (.inr ⟨a1, a2, v1, v2, e1, e2, s1, s2, by omega, post_newL R (r1.append r2) P⟩))
          · rw [if_neg c] at P; exact P.elim
        | _ => simp only [q1, q2] at P; exact P.elim
      | tuple ds =>
        cases e with
        | tuple es =>
          simp only [q1, q2] at P
          by_cases c : ds.length ≤ cap ∧ es.length ≤ cap
          · rw [if_pos c] at P
            have k1 : Rp K Fz v (.tuple ds) := by
              rcases h1 with h | ⟨_, _, _, _, e2, _⟩
              · exact h
              · cases e2
            have k2 : Rp K Fz w (.tuple es) := by
              rcases h2 with h | ⟨_, _, _, _, e2, _⟩
              · exact h
              · cases e2
            obtain ⟨a1, v1, e1, s1, r1⟩ := h1.tup R.le
            obtain ⟨a2, v2, e2, s2, r2⟩ := h2.tup R.le
            have l1 := r1.len
            have l2 := r2.len
            refine .inr ⟨a1, a2, v1, v2, e1, e2, s1, s2, by omega, fun z => ?_, fun _ z => ?_, fun _ _ => post_newT R (r1.append r2) P⟩
            · subst z
              cases r1
              rw [← e2]
              exact P w H Fz F (Same.refl _) R k2
            · subst z
              cases r2
              rw [← e1]
              rw [List.append_nil] at P
              exact P v H Fz F (Same.refl _) R k1
          · rw [if_neg c] at P; exact P.elim
        | _ => simp only [q1, q2] at P; exact P.elim
      | _ => simp only [q1, q2] at P; exact P.elim
end
theorem se_add {X : Cx} {W : WX} {pin : List Nat} {fa fb : List Sl → Rs AV} {a c : Expr} {pos : Pos} (ha : SE X W pin a fa) (hb : SE X W pin c fb) : SE X W pin (.BinOp a .Add c pos) (s2 gAdd fa fb) := se_bin op_addU v2_add ha hb
mutual
theorem Rp.dp {K : PySem.W.Frag} {H : Hp} : ∀ {v : V} {d : PyData}, Rp K H v d → d.canLay0 = true → Dp K H v d
  | _, _, .non, _ => .non
  | _, _, .bl b, _ => .bl b
  | _, _, .int i, _ => .int i
  | _, _, .str x, _ => .str x
  | _, _, .lst (ds := ds) h1 h2, c => .lst h1.sq (RpL.dp h2 (by rw [PyData.canLay0] at c; exact c))
  | _, _, .tup (ds := ds) h1 h2, c => .tup h1.sq (RpL.dp h2 (by rw [PyData.canLay0] at c; exact c))
  | _, _, .dK h1 h2, c => by rw [PyData.canLay0] at c; cases c
  | _, _, .dT h1 h2, c => by rw [PyData.canLay0] at c; cases c
theorem RpL.dp {K : PySem.W.Frag} {H : Hp} : ∀ {vs : List V} {ds : List PyData}, RpL K H vs ds → PyData.canLayAll0 ds = true → DpAll K H vs ds
  | _, _, .nil, _ => .nil
  | _, _, .cons h t, c => by
    rw [PyData.canLayAll0, Bool.and_eq_true] at c
    exact .cons (Rp.dp h c.1) (RpL.dp t c.2)
end
theorem rp_dp {K : PySem.W.Frag} {H : Hp} {v : V} {d : PyData} (h : Rp K H v d) (c : SeqAt.shaped d = true) : Dp K H v d := h.dp (SeqAt.canLay_of_shaped c)
def eqD (d e : PyData) : Option Bool := if SeqAt.shaped d = true ∧ SeqAt.shaped e = true then some (PyData.eqv d e) else none
def gEq (x y : AV) (δ : List Sl) : Rs AV := match rdA δ x, rdA δ y with
  | some d, some e => (match eqD d e with
    | some k => .ok (.val (.bool k)) δ
    | none => .bad)
  | _, _ => .bad
def gNe (x y : AV) (δ : List Sl) : Rs AV := match rdA δ x, rdA δ y with
  | some d, some e => (match eqD d e with
    | some k => .ok (.val (.bool !k)) δ
    | none => .bad)
  | _, _ => .bad
section
variable {K : PySem.W.Frag} {mg : Str → Option Value} {W : WX} {pin : List Nat}
theorem v2_eq : V2 K mg W pin (rEqD K) gEq := by
  intro b Fz F δ σ H v w x y Q hp R A B P
  unfold gEq at P
  cases q1 : rdA δ x with
  | none => simp only [q1] at P; exact P.elim
  | some d =>
    cases q2 : rdA δ y with
    | none => simp only [q1, q2] at P; exact P.elim
    | some e =>
      simp only [q1, q2, eqD] at P
      by_cases c : SeqAt.shaped d = true ∧ SeqAt.shaped e = true
      · simp only [if_pos c] at P
        exact ⟨d, e, rp_dp (rdA_ok R A q1) c.1, rp_dp (rdA_ok R B q2) c.2, c.1, c.2, P _ H Fz F (Same.refl _) R (.bl _)⟩
      · simp only [if_neg c] at P
        exact P.elim
theorem v2_ne : V2 K mg W pin (rNeD K) gNe := by
  intro b Fz F δ σ H v w x y Q hp R A B P
  unfold gNe at P
  cases q1 : rdA δ x with
  | none => simp only [q1] at P; exact P.elim
  | some d =>
    cases q2 : rdA δ y with
    | none => simp only [q1, q2] at P; exact P.elim
    | some e =>
      simp only [q1, q2, eqD] at P
      by_cases c : SeqAt.shaped d = true ∧ SeqAt.shaped e = true
      · simp only [if_pos c] at P
        exact ⟨d, e, rp_dp (rdA_ok R A q1) c.1, rp_dp (rdA_ok R B q2) c.2, c.1, c.2, P _ H Fz F (Same.refl _) R (.bl _)⟩
      · simp only [if_neg c] at P
        exact P.elim
end
def flatD : PyData → Bool
  | .none | .bool _ | .int _ | .str _ => true
  | _ => false
def inD (d : PyData) : PyData → Option Bool
  | .list ds => if SeqAt.shaped d = true ∧ SeqAt.shaped (.list ds) = true then some (ds.any fun z => PyData.eqv z d) else none
  | .tuple ds => if flatD d = true ∧ ds.all flatD = true then some (ds.any fun z => PyData.eqv z d) else none
  | _ => none
def rIsU : R2 := fun x y H Q => (y = .non ∧ Q (.bl (decide (x = .non))) H) ∨ rIsB x y H Q
theorem op_isU {X : Cx} : OpR X (compareOp .Is) rIsU := OpR.or op_isN op_isBl
def isD : PyData → PyData → Option Bool
  | .none, .none => some true
  | _, .none => some false
  | .bool a, .bool b => some (a == b)
  | _, _ => none
def gIs (n : Bool) (x y : AV) (δ : List Sl) : Rs AV := match rdA δ x, rdA δ y with
  | some d, some e => (match isD d e with
    | some k => .ok (.val (.bool (if n = true then !k else k))) δ
    | none => .bad)
  | _, _ => .bad
theorem isD_ok {K : PySem.W.Frag} {H : Hp} {v w : V} {d e : PyData} {k : Bool} (h : Rp K H v d) (h2 : Rp K H w e) (i : isD d e = some k) : (w = .non ∧ k = decide (v = .non)) ∨ ∃ a c : Bool, v = .bl a ∧ w = .bl c ∧ k = decide (a = c) := by
  cases h2 with
  | non =>
    refine .inl ⟨rfl, ?_⟩
    cases h <;> (simp only [isD, Option.some.injEq] at i; subst i; simp)
  | bl c =>
    cases h with
    | bl a =>
      simp only [isD, Option.some.injEq] at i
      subst i
      refine .inr ⟨a, c, rfl, rfl, ?_⟩
      cases a <;> cases c <;> rfl
    | _ => simp [isD] at i
  | _ => cases h <;> simp [isD] at i
theorem v2_is {K : PySem.W.Frag} {mg : Str → Option Value} {W : WX} {pin : List Nat} : V2 K mg W pin rIsU (gIs false) := by
  intro b Fz F δ σ H v w x y Q hp R A B P
  unfold gIs at P
  cases q1 : rdA δ x with
  | none => simp only [q1] at P; exact P.elim
  | some d =>
    cases q2 : rdA δ y with
    | none => simp only [q1, q2] at P; exact P.elim
    | some e =>
      cases q3 : isD d e with
      | none => simp only [q1, q2, q3] at P; exact P.elim
      | some k =>
        simp only [q1, q2, q3] at P
        have q := P (.bl k) H Fz F (Same.refl _) R (.bl _)
        rcases isD_ok (rdA_ok R A q1) (rdA_ok R B q2) q3 with ⟨e1, e2⟩ | ⟨a, c, e1, e2, e3⟩
        · subst e2
          exact .inl ⟨e1, q⟩
        · subst e3
          exact .inr ⟨a, c, e1, e2, q⟩
section
variable {X : Cx} {W : WX} {pin : List Nat} {fa fb : List Sl → Rs AV} {a c : Expr} {pos : Pos}
theorem se_eq (hu : X.A.units + 64 < cLine) (ha : SE X W pin a fa) (hb : SE X W pin c fb) : SE X W pin (.Compare a [.Eq] [c] pos) (s2 gEq fa fb) := se_cmp (op_eqD hu) v2_eq ha hb (nomark _)
theorem st_eq (hu : X.A.units + 64 < cLine) (ha : SE X W pin a fa) (hb : SE X W pin c fb) : ST X W pin (.Compare a [.Eq] [c] pos) (sTst (s2 gEq fa fb)) := st_cmp (op_eqD hu) v2_eq ha hb (nomark _)
theorem st_ne (hu : X.A.units + 64 < cLine) (ha : SE X W pin a fa) (hb : SE X W pin c fb) : ST X W pin (.Compare a [.NotEq] [c] pos) (sTst (s2 gNe fa fb)) := st_cmp (op_neD hu) v2_ne ha hb (nomark _)
theorem se_is (ha : SE X W pin a fa) (hb : SE X W pin c fb) : SE X W pin (.Compare a [.Is] [c] pos) (s2 (gIs false) fa fb) := se_cmp op_isU v2_is ha hb (nomark _)
end
/-- the item at a place, a tree that stands still -/
def itemD : PyData → PyData → Option PyData
  | .list ds, .int i => atI ds i
  | .tuple ds, .int i => atI ds i
  | _, _ => none
def El.fzd : El → Option PyData
  | .fz d => some d
  | .ow _ => none
def itemA (δ : List Sl) (x : AV) (i : PyData) : Option PyData := match x with
  | .val d => itemD d i
  | .ref k => match δ[k]? with
    | some (.fz d) => itemD d i
    | some (.ol xs) => (match i with
      | .int i => (atI xs i).bind El.fzd
      | _ => none)
    | some (.al x j) => (match δ[x]? with
      | some (.ol xs) => (match xs[j]? with
        | some (.ow ys) => itemD (.list ys) i
        | some (.fz d) => itemD d i
        | none => none)
      | _ => none)
    | _ => none
  | .tmp _ => none
def gIx (x y : AV) (δ : List Sl) : Rs AV := match rdC δ y with
  | some i => (match itemA δ x i with
    | some d => .ok (.val d) δ
    | none => .bad)
  | none => .bad
theorem atI_map {α β : Type} {f : α → β} {xs : List α} {i : Int} : atI (xs.map f) i = (atI xs i).map f := by
  unfold atI
  rw [List.length_map]
  cases ixN xs.length i with
  | none => rfl
  | some j => simp
theorem rpl_at {K : PySem.W.Frag} {H : Hp} {vs : List V} {ds : List PyData} {i : Int} {d : PyData} (h : RpL K H vs ds) (e : atI ds i = some d) : ∃ v, atI vs i = some v ∧ Rp K H v d := by
  unfold atI at e ⊢
  rw [h.len]
  cases q : ixN ds.length i with
  | none => rw [q] at e; cases e
  | some j =>
    rw [q] at e
    exact h.get e
def rIxU (K : PySem.W.Frag) : R2 := fun x y H Q => rIxL K x y H Q ∨ rIxT K x y H Q
theorem ix_U {X : Cx} : IxR X (rIxU X.K) := IxR.or ix_list ix_tup
theorem itemD_ok {K : PySem.W.Frag} {Fz H : Hp} {v w : V} {d i r : PyData} {Q : VK} (le : Same Fz H) (h : RpC K Fz H v d) (h2 : RpC K Fz H w i) (e : itemD d i = some r) (q : ∀ u, Rp K Fz u r → Q u H) : rIxU K v w H Q := by
  cases d with
  | list ds =>
    cases i with
    | int i =>
      obtain ⟨a, vs, e1, s1, r1⟩ := h.list le
      obtain ⟨u, e2, r2⟩ := rpl_at r1 (show atI ds i = some r from e)
      exact .inl ⟨a, vs, i, u, e1, rpc_int h2, s1.sq, e2, q u r2⟩
    | _ => cases e
  | tuple ds =>
    cases i with
    | int i =>
      obtain ⟨a, vs, e1, s1, r1⟩ := h.tup le
      obtain ⟨u, e2, r2⟩ := rpl_at r1 (show atI ds i = some r from e)
      exact .inr ⟨a, vs, i, u, e1, rpc_int h2, s1, e2, q u r2⟩
    | _ => cases e
  | _ => cases i <;> cases e
theorem ElL.len {K : PySem.W.Frag} {Fz H : Hp} : ∀ {f : List Addr} {vs : List V} {es : List El}, ElL K Fz H f vs es → vs.length = es.length
  | _, _, _, .nil => rfl
  | _, _, _, .cons _ t => by simp [ElL.len t]
theorem ElL.atI {K : PySem.W.Frag} {Fz H : Hp} {f : List Addr} {vs : List V} {es : List El} {i : Int} {e : El} (h : ElL K Fz H f vs es) (q : L2.atI es i = some e) : ∃ v g, L2.atI vs i = some v ∧ ElR K Fz H g v e := by
  unfold L2.atI at q ⊢
  rw [h.len]
  cases q1 : ixN es.length i with
  | none => rw [q1] at q; cases q
  | some j =>
    rw [q1] at q
    obtain ⟨v, g, e1, e2, _⟩ := h.at_ (j := j) q
    exact ⟨v, g, e1, e2⟩
theorem v2_ix {K : PySem.W.Frag} {mg : Str → Option Value} {W : WX} {pin : List Nat} : V2 K mg W pin (rIxU K) gIx := by
  intro b Fz F δ σ H v w x y Q hp R A B P
  unfold gIx at P
  cases q1 : rdC δ y with
  | none => simp only [q1] at P; exact P.elim
  | some i =>
    cases q2 : itemA δ x i with
    | none => simp only [q1, q2] at P; exact P.elim
    | some r =>
      simp only [q1, q2] at P
      have h2 := rdC_ok R B q1
      have fin : ∀ u, Rp K Fz u r → Q u H := fun u hu => P u H Fz F (Same.refl _) R hu
      cases x with
      | val d => exact itemD_ok R.le (.inl A) h2 q2 fin
      | tmp s => exact False.elim A
      | ref k =>
        have hv : σ[k]? = some (some v) := A
        unfold itemA at q2
        cases q3 : δ[k]? with
        | none => simp only [q3] at q2; cases q2
        | some s =>
          have hs := R.slot k s q3
          rw [hv] at hs
          cases s with
          | no => simp only [q3] at q2; cases q2
          | od kvs => simp only [q3] at q2; cases q2
          | ex e => simp only [q3] at q2; cases q2
          | fz d =>
            simp only [q3] at q2
            obtain ⟨_, v', e1, e2⟩ := hs
            cases e1
            exact itemD_ok R.le (.inl e2) h2 q2 fin
          | ol xs =>
            cases i with
            | int n =>
              simp only [q3] at q2
              cases q4 : atI xs n with
              | none => rw [q4] at q2; cases q2
              | some e =>
                rw [q4] at q2
                cases e with
                | ow ys => cases q2
                | fz d =>
                  cases q2
                  obtain ⟨a, vs, g, e1, e2, e3, e4⟩ := hs
                  cases e1
                  obtain ⟨u, g', f1, f2⟩ := e4.atI q4
                  exact .inl ⟨a, vs, n, u, rfl, rpc_int h2, SqL.of e3, f1, fin u f2.2⟩
            | _ => simp only [q3] at q2; cases q2
          | al x j =>
            simp only [q3] at q2
            cases q4 : δ[x]? with
            | none => simp only [q4] at q2; cases q2
            | some t =>
              cases t with
              | ol xs =>
                simp only [q4] at q2
                cases q5 : xs[j]? with
                | none => simp only [q5] at q2; cases q2
                | some e =>
                  obtain ⟨g, e1, _⟩ := R.al q3 q4 q5 hv
                  cases e with
                  | fz d =>
                    simp only [q5] at q2
                    exact itemD_ok R.le (.inl e1.2) h2 q2 fin
                  | ow ys =>
                    simp only [q5] at q2
                    obtain ⟨a, vs, f1, _, f3, f4⟩ := e1
                    exact itemD_ok R.le (.inr ⟨a, vs, ys, f1, rfl, f3, f4⟩) h2 q2 fin
              | _ => simp only [q4] at q2; cases q2
end Hb
namespace Hb
open PySem PySem.Spec PyProof.Rows L2
def sPartO : Option (List Sl → Rs AV) → List Sl → Rs (Option Int)
  | none => fun δ => .ok none δ
  | some f => fun δ => (sSt f δ).bind fun a δ' => match rdC δ' a with
    | some (.int i) => .ok (some i) δ'
    | _ => .bad
section
variable (K : PySem.W.Frag) (mg : Str → Option Value) (W : WX)
def PostL (b : Bk) (Fz : Hp) (σ : L2.St) (Q : List V → Hp → Prop) : Rs (List PyData) → Prop
  | .ok ds δ => ∀ vs H' Fz' F', Same Fz Fz' → Rl K b Fz' F' δ σ H' → RpL K Fz' vs ds → Q vs H'
  | .er x δ => PostX K mg W b Fz σ x δ
  | .bad => False
def rdL (pin : List Nat) (f : List Sl → Rs (List PyData)) : TA := fun σ H Q => ∃ b Fz F δ, b.pin = pin ∧ Rl K b Fz F δ σ H ∧ PostL K mg W b Fz σ Q (f δ)
end
abbrev SA (X : Cx) (W : WX) (pin : List Nat) (es : List Expr) (f : List Sl → Rs (List PyData)) : Prop := PA X es (rdL X.K X.mg W pin f)
theorem pa_mono {X : Cx} {es : List Expr} {t t' : TA} (h : PA X es t) (i : ∀ σ H Q, t' σ H Q → t σ H Q) : PA X es t' := ⟨fun pos pins s σ H Q I q => h.run pos pins s σ H Q I (i σ H Q q)⟩
/-- a value taken -/
def Rs.val {α : Type} (r : Rs AV) (k : PyData → List Sl → Rs α) : Rs α := r.bind fun a δ => match a with
  | .val d => k d δ
  | _ => .bad
def lNil : List Sl → Rs (List PyData) := fun δ => .ok [] δ
def lCons (f : List Sl → Rs AV) (g : List Sl → Rs (List PyData)) : List Sl → Rs (List PyData) := fun δ => (sTk f δ).val fun d δ1 => (g δ1).bind fun ds δ2 => .ok (d :: ds) δ2
def seqD : PyData → Option (List PyData)
  | .list ds => some ds
  | .tuple ds => some ds
  | _ => none
/-- *x in a display -/
def lStar (f : List Sl → Rs AV) (g : List Sl → Rs (List PyData)) : List Sl → Rs (List PyData) := fun δ => (sTk f δ).val fun d δ1 => match seqD d with
  | some es => (g δ1).bind fun ds δ2 => .ok (es ++ ds) δ2
  | none => .bad
section
variable {X : Cx} {W : WX} {pin : List Nat} {f : List Sl → Rs AV} {g : List Sl → Rs (List PyData)} {e : Expr} {es : List Expr}
theorem PostL.le {K : PySem.W.Frag} {mg : Str → Option Value} {b : Bk} {Fz Fz1 : Hp} {σ : L2.St} {Q : List V → Hp → Prop} {r : Rs (List PyData)} (s : Same Fz Fz1) (p : PostL K mg W b Fz σ Q r) : PostL K mg W b Fz1 σ Q r := by
  cases r with
  | ok a δ => exact fun v H' Fz' F' s' R e => p v H' Fz' F' (s.trans s') R e
  | er x δ => exact PostX.le s p
  | bad => exact p
/-- behind a taken value -/
theorem rd_valL {K : PySem.W.Frag} {mg : Str → Option Value} {σ : L2.St} {H : Hp} {b : Bk} {Fz : Hp} {F : Nat → List Addr} {δ : List Sl} {k : PyData → List Sl → Rs (List PyData)} {Q : List V → Hp → Prop} {R : VK} (hp : b.pin = pin) (Rr : Rl K b Fz F δ σ H) (P : PostL K mg W b Fz σ Q ((sTk f δ).val k))
    (h : ∀ v H' Fz' F' d δ', Same Fz Fz' → Rl K b Fz' F' δ' σ H' → Rp K Fz' v d → PostL K mg W b Fz' σ Q (k d δ') → R v H') : rdE K mg W pin (sTk f) σ H R := by
  refine ⟨b, Fz, F, δ, hp, Rr, ?_⟩
  cases q : sTk f δ with
  | bad => rw [q] at P; exact P
  | er x δ' => rw [q] at P; exact P
  | ok a δ' =>
    rw [q] at P
    intro v H' Fz' F' s R' A
    cases a with
    | tmp t => exact False.elim P
    | ref i => exact False.elim P
    | val d => exact h v H' Fz' F' d δ' s R' A (PostL.le s P)
/-- behind the values -/
theorem rdL_bindL {K : PySem.W.Frag} {mg : Str → Option Value} {σ : L2.St} {H : Hp} {b : Bk} {Fz : Hp} {F : Nat → List Addr} {δ : List Sl} {k : List PyData → List Sl → Rs (List PyData)} {Q R : List V → Hp → Prop} (hp : b.pin = pin) (Rr : Rl K b Fz F δ σ H) (P : PostL K mg W b Fz σ Q ((g δ).bind k))
    (h : ∀ vs H' Fz' F' ds δ', Same Fz Fz' → Rl K b Fz' F' δ' σ H' → RpL K Fz' vs ds → PostL K mg W b Fz' σ Q (k ds δ') → R vs H') : rdL K mg W pin g σ H R := by
  refine ⟨b, Fz, F, δ, hp, Rr, ?_⟩
  cases q : g δ with
  | bad => rw [q] at P; exact P
  | er x δ' => rw [q] at P; exact P
  | ok a δ' =>
    rw [q] at P
    exact fun v H' Fz' F' s R' A => h v H' Fz' F' a δ' s R' A (PostL.le s P)
theorem rdL_bind {K : PySem.W.Frag} {mg : Str → Option Value} {σ : L2.St} {H : Hp} {b : Bk} {Fz : Hp} {F : Nat → List Addr} {δ : List Sl} {k : List PyData → List Sl → Rs AV} {Q : VK} {R : List V → Hp → Prop} (hp : b.pin = pin) (Rr : Rl K b Fz F δ σ H) (P : Post K mg W b Fz σ Q ((g δ).bind k))
    (h : ∀ vs H' Fz' F' ds δ', Same Fz Fz' → Rl K b Fz' F' δ' σ H' → RpL K Fz' vs ds → Post K mg W b Fz' σ Q (k ds δ') → R vs H') : rdL K mg W pin g σ H R := by
  refine ⟨b, Fz, F, δ, hp, Rr, ?_⟩
  cases q : g δ with
  | bad => rw [q] at P; exact P
  | er x δ' => rw [q] at P; exact P
  | ok a δ' =>
    rw [q] at P
    exact fun v H' Fz' F' s R' A => h v H' Fz' F' a δ' s R' A (Post.le s P)
theorem sa_nil : SA X W pin [] lNil := pa_mono pa_nil fun σ H Q ⟨b, Fz, F, δ, hp, R, P⟩ => P [] H Fz F (Same.refl _) R .nil
theorem sa_cons (h : SE X W pin e f) (h2 : SA X W pin es g) (hs : starEach (e :: es) X.env = (false, eval e X.env) :: starEach es X.env := by rfl) : SA X W pin (e :: es) (lCons f g) := pa_mono (pa_cons (se_tk h) h2 hs) fun σ H Q ⟨b, Fz, F, δ, hp, R, P⟩ => by
  refine rd_valL hp R P fun v H1 Fz1 F1 d δ1 s1 R1 A1 P1 => ?_
  refine rdL_bindL hp R1 P1 fun vs H2 Fz2 F2 ds δ2 s2 R2 A2 P2 => ?_
  exact P2 (v :: vs) H2 Fz2 F2 (Same.refl _) R2 (.cons (A1.mono s2) A2)
theorem sa_star {p : Pos} (h : SE X W pin e f) (h2 : SA X W pin es g) (hs : starEach (.Starred e p :: es) X.env = (true, eval e X.env) :: starEach es X.env := by rfl) : SA X W pin (.Starred e p :: es) (lStar f g) := pa_mono (StX.pa_star (se_tk h) h2 hs) fun σ H Q ⟨b, Fz, F, δ, hp, R, P⟩ => by
  refine rd_valL hp R P fun v H1 Fz1 F1 d δ1 s1 R1 A1 P1 => ?_
  cases d with
  | list es =>
    refine (?_ : ∃ p xs, _)
    cases A1 with
    | lst h1 h2 =>
      refine ⟨_, _, rfl, .inr (same_sqX R1.le h1).sq, ?_⟩
      refine rdL_bindL hp R1 P1 fun vs H2 Fz2 F2 ds δ2 s2 R2 A2 P2 => ?_
      exact P2 _ H2 Fz2 F2 (Same.refl _) R2 ((h2.mono s2).append A2)
  | tuple es =>
    cases A1 with
    | tup h1 h2 =>
      refine ⟨_, _, rfl, .inl ((h1.mono R1.le).sq), ?_⟩
      refine rdL_bindL hp R1 P1 fun vs H2 Fz2 F2 ds δ2 s2 R2 A2 P2 => ?_
      exact P2 _ H2 Fz2 F2 (Same.refl _) R2 ((h2.mono s2).append A2)
  | _ => exact P1.elim
def sLst (g : List Sl → Rs (List PyData)) : List Sl → Rs AV := fun δ => (g δ).bind fun ds δ' => if ds.length ≤ cap then .ok (.tmp (.ol (ds.map .fz))) δ' else .bad
def sTup (g : List Sl → Rs (List PyData)) : List Sl → Rs AV := fun δ => (g δ).bind fun ds δ' => if ds.length ≤ cap then .ok (.val (.tuple ds)) δ' else .bad
theorem se_lst {pos : Pos} (h : SA X W pin es g) : SE X W pin (.List es pos) (sLst g) := pe_mono (pe_lst h) fun σ H Q ⟨b, Fz, F, δ, hp, R, P⟩ => by
  refine rdL_bind hp R P fun vs H2 Fz2 F2 ds δ2 s2 R2 A2 P2 => ?_
  by_cases c : ds.length ≤ cap
  · rw [if_pos c] at P2
    exact ⟨by rw [A2.len]; exact le_line c, post_newL R2 A2 P2⟩
  · rw [if_neg c] at P2
    exact P2.elim
theorem se_tup {x1 : Nat} {pos : Pos} (h : SA X W pin es g) : SE X W pin (.Tuple es x1 pos) (sTup g) := pe_mono (pe_tupP h) fun σ H Q ⟨b, Fz, F, δ, hp, R, P⟩ => by
  refine rdL_bind hp R P fun vs H2 Fz2 F2 ds δ2 s2 R2 A2 P2 => ?_
  by_cases c : ds.length ≤ cap
  · rw [if_pos c] at P2
    exact ⟨by rw [A2.len]; exact le_line c, post_newT R2 A2 P2⟩
  · rw [if_neg c] at P2
    exact P2.elim
def sDic0 : List Sl → Rs AV := fun δ => .ok (.tmp (.od [])) δ
theorem pe_dnewP {X : Cx} {pos : Pos} : PE X (.Dict [] [] pos) (fun σ H Q => ∀ p, H p = none → Q (.ref p) (upd H p (dPO p 0 []))) := ⟨fun pins s σ H Q I h =>
  wpAny_Dict_empty ⟨.ref s.heap.objs.size, _, I.laid (a := s.heap.objs.size) (o := dPO s.heap.objs.size 0 []) (t' := s.toks) (fun _ _ q => Heap.get?_push_of_some _ q) (Nat.le_refl _) (dp_empty s.heap I.big), rfl, h _ (I.hok.fresh (Nat.le_refl _))⟩⟩
theorem se_dic0 {pos : Pos} : SE X W pin (.Dict [] [] pos) sDic0 := pe_mono pe_dnewP fun σ H Q ⟨b, Fz, F, δ, hp, R, P⟩ => post_newDT R P
end
section
variable (K : PySem.W.Frag) (mg : Str → Option Value) (W : WX) (pin : List Nat)
def C1 (r : List V → Hp → VK → Prop) (g : AV → List Sl → Rs AV) : Prop := ∀ b Fz F δ σ H v x Q, b.pin = pin → Rl K b Fz F δ σ H → AvS K Fz σ v x → Post K mg W b Fz σ Q (g x δ) → r [v] H Q
def C2 (r : List V → Hp → VK → Prop) (g : AV → AV → List Sl → Rs AV) : Prop := ∀ b Fz F δ σ H v w x y Q, b.pin = pin → Rl K b Fz F δ σ H → AvS K Fz σ v x → AvS K Fz σ w y → Post K mg W b Fz σ Q (g x y δ) → r [v, w] H Q
end
section
variable {X : Cx} {W : WX} {pin : List Nat} {fa fb : List Sl → Rs AV} {a c : Expr} {x : Str} {p pos : Pos} {id T : String} {r : List V → Hp → VK → Prop} {g : AV → List Sl → Rs AV} {g2 : AV → AV → List Sl → Rs AV}
theorem se_b1 (hc : CallR X (.builtin id) r) (hv : C1 X.K X.mg W pin r g) (hg : Gl X x) (hm : X.mg x = none) (hb : bootBuiltins x = some (.builtin id)) (ha : SE X W pin a fa) (hn : x ≠ "__name__" := by decide) (hdb : (x == ("__debug__" : Str)) = false := by decide)
    (he : starEach [a] X.env = (false, eval a X.env) :: starEach [] X.env := by rfl) : SE X W pin (.Call (.Name x p) [a] [] pos) (s1 g fa) := pe_mono (pe_callB hc hg hm hb (pa_cons (se_st ha) pa_nil he) hn hdb he rfl) fun σ H Q ⟨b, Fz, F, δ, hp, R, P⟩ => by
  refine rd_bind hp R P fun v H1 Fz1 F1 x δ1 s1 R1 A1 P1 => ?_
  exact hv b Fz1 F1 δ1 σ H1 v x Q hp R1 A1 P1
theorem se_t1 (hc : CallR X (.type T) r) (hv : C1 X.K X.mg W pin r g) (hg : Gl X x) (hm : X.mg x = none) (hb : bootBuiltins x = some (.type T)) (ha : SE X W pin a fa) (hn : x ≠ "__name__" := by decide) (hdb : (x == ("__debug__" : Str)) = false := by decide)
    (he : starEach [a] X.env = (false, eval a X.env) :: starEach [] X.env := by rfl) : SE X W pin (.Call (.Name x p) [a] [] pos) (s1 g fa) := pe_mono (pe_callTy hc hg hm hb (pa_cons (se_st ha) pa_nil he) hn hdb he rfl) fun σ H Q ⟨b, Fz, F, δ, hp, R, P⟩ => by
  refine rd_bind hp R P fun v H1 Fz1 F1 x δ1 s1 R1 A1 P1 => ?_
  exact hv b Fz1 F1 δ1 σ H1 v x Q hp R1 A1 P1
theorem se_b2 (hc : CallR X (.builtin id) r) (hv : C2 X.K X.mg W pin r g2) (hg : Gl X x) (hm : X.mg x = none) (hb : bootBuiltins x = some (.builtin id)) (ha : SE X W pin a fa) (hcc : SE X W pin c fb) (hn : x ≠ "__name__" := by decide) (hdb : (x == ("__debug__" : Str)) = false := by decide)
    (he : starEach [a, c] X.env = (false, eval a X.env) :: starEach [c] X.env := by rfl) (he2 : starEach [c] X.env = (false, eval c X.env) :: starEach [] X.env := by rfl) (hpl : (backTo pos (starEach [c] X.env)).any (·.1) = false := by rfl) : SE X W pin (.Call (.Name x p) [a, c] [] pos) (s2 g2 fa fb) := pe_mono (pe_callB hc hg hm hb (pa_cons (se_st ha) (pa_cons (se_st hcc) pa_nil he2) he) hn hdb he hpl) fun σ H Q ⟨b, Fz, F, δ, hp, R, P⟩ => by
  refine rd_bind hp R P fun v H1 Fz1 F1 x δ1 s1 R1 A1 P1 => ?_
  refine rd_bind hp R1 P1 fun w H2 Fz2 F2 y δ2 s2 R2 A2 P2 => ?_
  exact hv b Fz2 F2 δ2 σ H2 v w x y Q hp R2 (A1.le s2) A2 P2
end
/-- a look at a tree that gives a number, a truth value, a text -/
def gRd (k : PyData → Option PyData) (x : AV) (δ : List Sl) : Rs AV := match (rdA δ x).bind k with
  | some d => if flatD d = true then .ok (.val d) δ else .bad
  | none => .bad
def dV : PyData → V
  | .none => .non
  | .bool b => .bl b
  | .int i => .int i
  | .str s => .str s
  | _ => .non
theorem rp_flat {K : PySem.W.Frag} {H : Hp} {d : PyData} (h : flatD d = true) : Rp K H (dV d) d := by
  cases d with
  | none => exact .non
  | bool b => exact .bl b
  | int i => exact .int i
  | str s => exact .str s
  | _ => cases h
theorem c1_rd {K : PySem.W.Frag} {mg : Str → Option Value} {W : WX} {pin : List Nat} {k : PyData → Option PyData} {r : List V → Hp → VK → Prop} (h : ∀ v d e H (Q : VK), Rp K H v d → k d = some e → flatD e = true → Q (dV e) H → r [v] H Q) : C1 K mg W pin r (gRd k) := by
  intro b Fz F δ σ H v x Q hp R A P
  unfold gRd at P
  cases q : rdA δ x with
  | none => simp only [q, Option.bind_none] at P; exact P.elim
  | some d =>
    cases q2 : k d with
    | none => simp only [q, Option.bind_some, q2] at P; exact P.elim
    | some e =>
      simp only [q, Option.bind_some, q2] at P
      by_cases c : flatD e = true
      · rw [if_pos c] at P
        exact h v d e H Q (rdA_ok R A q) q2 c (P _ H Fz F (Same.refl _) R (rp_flat c))
      · rw [if_neg c] at P
        exact P.elim
def lenD : PyData → Option PyData
  | .list ds => some (.int ds.length)
  | .tuple ds => some (.int ds.length)
  | .str z => if z.length ≤ cap then some (.int z.length) else none
  | .dict ds => some (.int ds.length)
  | _ => none
theorem RpK.len {K : PySem.W.Frag} {H : Hp} : ∀ {vs : List (Key × V)} {ds : List (PyData × PyData)}, RpK K H vs ds → vs.length = ds.length
  | _, _, .nil => rfl
  | _, _, .cons _ t => by simp [RpK.len t]
theorem RpT.len {K : PySem.W.Frag} {H : Hp} : ∀ {vs : List (List Key × V)} {ds : List (PyData × PyData)}, RpT K H vs ds → vs.length = ds.length
  | _, _, .nil => rfl
  | _, _, .cons _ _ t => by simp [RpT.len t]
def rLenU (K : PySem.W.Frag) : List V → Hp → VK → Prop := fun xs H Q => ((∃ x n, xs = [x] ∧ LenV K x H n ∧ Q (.int n) H) ∨ ∃ a kvs, xs = [V.ref a] ∧ H a = some (.dK kvs) ∧ Q (.int kvs.length) H) ∨ ∃ a kvs, xs = [V.ref a] ∧ DP H H a kvs ∧ Q (.int kvs.length) H
theorem call_lenU {X : Cx} : CallR X (.builtin "len") (rLenU X.K) := CallR.or (CallR.or call_len call_lenD) call_len_dP
theorem c1_len {K : PySem.W.Frag} {mg : Str → Option Value} {W : WX} {pin : List Nat} : C1 K mg W pin (rLenU K) (gRd lenD) := c1_rd fun v d e H Q r k f q => by
  cases r with
  | lst h1 h2 =>
    cases k
    exact .inl (.inl ⟨_, _, rfl, .inl ⟨_, h1.sq, rfl⟩, by rw [h2.len]; exact q⟩)
  | tup h1 h2 =>
    cases k
    exact .inl (.inl ⟨_, _, rfl, .inr ⟨_, (TP.sq h1), rfl⟩, by rw [h2.len]; exact q⟩)
  | dK h1 h2 =>
    cases k
    exact .inl (.inr ⟨_, _, rfl, h1.1, by rw [h2.len]; exact q⟩)
  | dT h1 h2 =>
    cases k
    exact .inr ⟨_, _, rfl, h1, by rw [h2.len]; exact q⟩
  | str z =>
    simp only [lenD] at k
    by_cases c : z.length ≤ cap
    · rw [if_pos c] at k
      cases k
      exact .inl (.inl ⟨_, _, rfl, ⟨le_line c, rfl⟩, q⟩)
    · rw [if_neg c] at k
      cases k
  | _ => cases k
def absD : PyData → Option PyData
  | .int i => some (.int (if i < 0 then -i else i))
  | _ => none
theorem c1_abs {K : PySem.W.Frag} {mg : Str → Option Value} {W : WX} {pin : List Nat} : C1 K mg W pin (fun xs H Q => ∃ i, xs = [.int i] ∧ Q (.int (if i < 0 then -i else i)) H) (gRd absD) := c1_rd fun v d e H Q r k f q => by
  cases r with
  | int i =>
    cases k
    exact ⟨i, rfl, q⟩
  | _ => cases k
def intD : PyData → Option PyData
  | .int i => some (.int i)
  | .bool k => some (.int (if k then 1 else 0))
  | _ => none
theorem c1_int {K : PySem.W.Frag} {mg : Str → Option Value} {W : WX} {pin : List Nat} : C1 K mg W pin (fun xs H Q => (∃ i, xs = [.int i] ∧ Q (.int i) H) ∨ ∃ k, xs = [.bl k] ∧ Q (.int (if k then 1 else 0)) H) (gRd intD) := c1_rd fun v d e H Q r k f q => by
  cases r with
  | int i =>
    cases k
    exact .inl ⟨i, rfl, q⟩
  | bl b =>
    cases k
    exact .inr ⟨b, rfl, q⟩
  | _ => cases k
def boolsOf : List PyData → Option (List Bool)
  | [] => some []
  | .bool i :: r => (boolsOf r).map (i :: ·)
  | _ :: _ => none
theorem boolsOf_eq : ∀ {ds : List PyData} {ns : List Bool}, boolsOf ds = some ns → ds = ns.map .bool
  | [], _, h => by cases h; rfl
  | .bool i :: r, ns, h => by
    rw [boolsOf] at h
    cases q : boolsOf r with
    | none => rw [q] at h; cases h
    | some ms =>
      rw [q] at h
      cases h
      rw [boolsOf_eq q]
      rfl
  | .none :: r, _, h => by cases h
  | .int _ :: r, _, h => by cases h
  | .str _ :: r, _, h => by cases h
  | .list _ :: r, _, h => by cases h
  | .tuple _ :: r, _, h => by cases h
  | .dict _ :: r, _, h => by cases h
theorem boolsOf_map : ∀ ns : List Bool, boolsOf (ns.map .bool) = some ns
  | [] => rfl
  | n :: ns => by
    rw [List.map_cons, boolsOf, boolsOf_map ns]
    rfl
theorem RpL.bools {K : PySem.W.Frag} {H : Hp} : ∀ {vs : List V} {ns : List Bool}, RpL K H vs (ns.map .bool) → vs = ns.map V.bl
  | _, [], .nil => rfl
  | _, n :: ns, .cons r t => by
    cases r
    rw [RpL.bools t]
    rfl
def overB (k : List Bool → Option PyData) : PyData → Option PyData
  | .list ds => (boolsOf ds).bind k
  | _ => none
theorem c1_overB {K : PySem.W.Frag} {mg : Str → Option Value} {W : WX} {pin : List Nat} {k : List Bool → Option PyData} {r : List V → Hp → VK → Prop} (h : ∀ a ns e H (Q : VK), SqL K H a (ns.map V.bl) → k ns = some e → Q (dV e) H → r [.ref a] H Q) : C1 K mg W pin r (gRd (overB k)) := c1_rd fun v d e H Q rp ke f q => by
  cases rp with
  | lst h1 h2 =>
    rename_i ds
    simp only [overB] at ke
    cases q1 : boolsOf ds with
    | none => rw [q1] at ke; cases ke
    | some ns =>
      rw [q1] at ke
      have e1 := boolsOf_eq q1
      subst e1
      have e2 := h2.bools
      subst e2
      exact h _ ns e H Q h1.sq ke q
  | _ => cases ke
def maxI : List Int → Option PyData
  | [] => none
  | n :: ns => some (.int (ns.foldl max n))
def minI : List Int → Option PyData
  | [] => none
  | n :: ns => some (.int (ns.foldl min n))
section
variable {K : PySem.W.Frag} {mg : Str → Option Value} {W : WX} {pin : List Nat}
theorem c1_all : C1 K mg W pin (rAll K) (gRd (overB fun ns => some (.bool (ns.all id)))) := c1_overB fun a ns e H Q s k q => by
  cases k
  exact ⟨a, ns, rfl, s, q⟩
abbrev gMax2 := gI yes2 fun i j => if j > i then j else i
abbrev gMin2 := gI yes2 fun i j => if j < i then j else i
theorem c2_i {g : Int → Int → Int} : C2 K mg W pin (fun xs H Q => ∃ i j, xs = [.int i, .int j] ∧ Q (.int (g i j)) H) (gI yes2 g) := by
  intro b Fz F δ σ H v w x y Q hp R A B P
  obtain ⟨i, j, h1, h2, _, q⟩ := v2_i (K := K) (mg := mg) (W := W) (C' := fun _ _ => True) (fun _ _ _ => trivial) b Fz F δ σ H v w x y Q hp R A B P
  exact ⟨i, j, by rw [h1, h2], q⟩
/-- list(xs), tuple(xs) -/
def gList (x : AV) (δ : List Sl) : Rs AV := match rdC δ x with
  | some (.list ds) => .ok (.tmp (.ol (ds.map .fz))) δ
  | some (.tuple ds) => .ok (.tmp (.ol (ds.map .fz))) δ
  | _ => .bad
def gTuple (x : AV) (δ : List Sl) : Rs AV := match rdC δ x with
  | some (.list ds) => .ok (.val (.tuple ds)) δ
  | some (.tuple ds) => .ok (.val (.tuple ds)) δ
  | _ => .bad
theorem c1_list : C1 K mg W pin (fun xs H Q => ∃ p ys, xs = [.ref p] ∧ (SqL K H p ys ∨ SqT K H p ys) ∧ ∀ l, H l = none → Q (.ref l) (upd H l (.lst ys))) gList := by
  intro b Fz F δ σ H v x Q hp R A P
  unfold gList at P
  cases q : rdC δ x with
  | none => simp only [q] at P; exact P.elim
  | some d =>
    cases d with
    | list ds =>
      simp only [q] at P
      obtain ⟨a, vs, e1, s1, r1⟩ := (rdC_ok R A q).list R.le
      exact ⟨a, vs, by rw [e1], .inl s1.sq, post_newL R r1 P⟩
    | tuple ds =>
      simp only [q] at P
      obtain ⟨a, vs, e1, s1, r1⟩ := (rdC_ok R A q).tup R.le
      exact ⟨a, vs, by rw [e1], .inr s1, post_newL R r1 P⟩
    | _ => simp only [q] at P; exact P.elim
theorem c1_tuple : C1 K mg W pin (fun xs H Q => ∃ p ys, xs = [.ref p] ∧ ((SqL K H p ys ∧ ∀ l its, H l = none → Q (.ref l) (upd H l (nT its ys))) ∨ (SqT K H p ys ∧ Q (.ref p) H))) gTuple := by
  intro b Fz F δ σ H v x Q hp R A P
  unfold gTuple at P
  cases q : rdC δ x with
  | none => simp only [q] at P; exact P.elim
  | some d =>
    have h := rdC_ok R A q
    cases d with
    | list ds =>
      simp only [q] at P
      obtain ⟨a, vs, e1, s1, r1⟩ := h.list R.le
      exact ⟨a, vs, by rw [e1], .inl ⟨s1.sq, post_newT R r1 P⟩⟩
    | tuple ds =>
      simp only [q] at P
      obtain ⟨a, vs, e1, s1, r1⟩ := h.tup R.le
      refine ⟨a, vs, by rw [e1], .inr ⟨s1, ?_⟩⟩
      rcases h with h | ⟨_, _, _, _, e3, _⟩
      · rw [← e1]
        exact P v H Fz F (Same.refl _) R h
      · cases e3
    | _ => simp only [q] at P; exact P.elim
def sortI (ns : List Int) : List Int := ns.mergeSort fun a b => decide (a ≤ b)
theorem sortI_perm (ns : List Int) : (sortI ns).Perm ns := List.mergeSort_perm _ _
theorem sortI_up (ns : List Int) : (sortI ns).Pairwise (· ≤ ·) := by
  have h := List.pairwise_mergeSort (le := fun a b : Int => decide (a ≤ b)) (fun a b c h1 h2 => by simp at *; omega) (fun a b => by simp; omega) ns
  exact h.imp fun {a b} q => of_decide_eq_true q
theorem up_unique : ∀ {xs ys : List Int}, xs.Perm ys → xs.Pairwise (· ≤ ·) → ys.Pairwise (· ≤ ·) → xs = ys
  | [], ys, p, _, _ => by rw [List.Perm.eq_nil (p.symm)]
  | x :: xs, [], p, _, _ => by cases p.eq_nil
  | x :: xs, y :: ys, p, h1, h2 => by
    rw [List.pairwise_cons] at h1 h2
    have e : x = y := by
      have a1 : x ∈ y :: ys := p.mem_iff.mp List.mem_cons_self
      have a2 : y ∈ x :: xs := p.mem_iff.mpr List.mem_cons_self
      rcases List.mem_cons.mp a1 with z | z
      · exact z
      · rcases List.mem_cons.mp a2 with w | w
        · exact w.symm
        · have := h1.1 y w
          have := h2.1 x z
          omega
    subst e
    rw [up_unique (List.Perm.cons_inv p) h1.2 h2.2]
theorem sortI_eq {ns ms : List Int} (p : ms.Perm ns) (h : ms.Pairwise (· ≤ ·)) : ms = sortI ns := up_unique (p.trans (sortI_perm ns).symm) h (sortI_up ns)
end
def tyD : PyData → String
  | .none => "NoneType"
  | .bool _ => "bool"
  | .int _ => "int"
  | .str _ => "str"
  | .list _ => "list"
  | .tuple _ => "tuple"
  | .dict _ => "dict"
def isiB (a b : String) : Bool := a == b || (a == "bool" && b == "int")
def gIsi (T : String) : AV → List Sl → Rs AV := gRd fun d => some (.bool (isiB (tyD d) T))
theorem tyx_of {K : PySem.W.Frag} {H : Hp} {v : V} {d : PyData} (h : Rp K H v d) : TyX K H v (.type (tyD d)) ∨ (tyD d = "dict" ∧ ∃ a ws, v = .ref a ∧ DP H H a ws) := by
  cases h with
  | non => exact .inl (.base .non)
  | bl b => exact .inl (.base (.bl b))
  | int i => exact .inl (.base (.int i))
  | str x => exact .inl (.base (.str x))
  | lst h1 h2 =>
    rcases h1 with (h | ⟨o, h⟩) | ⟨its, n, h, _⟩
    · exact .inl (.base (.lst h))
    · exact .inl (.base (.frz h))
    · exact .inl (.kList h rfl)
  | tup h1 h2 => exact .inl (.fTuple h1.choose_spec)
  | dK h1 h2 => exact .inl (.base (.dK h1.1))
  | dT h1 h2 => exact .inr ⟨rfl, _, _, rfl, h1⟩
def kitAll (T : String) : Bool := ["NoneType", "bool", "int", "str", "list", "tuple", "dict"].all fun t => decide (kitB t T = some (isiB t T))
theorem se_isi {X : Cx} {W : WX} {pin : List Nat} {fa : List Sl → Rs AV} {a : Expr} {y : Str} {T : String} {p p2 pos : Pos} (hk : kitAll T = true) (hg : Gl X "isinstance") (hm : X.mg "isinstance" = none) (hg2 : Gl X y) (hm2 : X.mg y = none) (hv2 : bootBuiltins y = some (.type T)) (ha : SE X W pin a fa)
    (hn : y ≠ "__name__" := by decide) (hdb : (y == ("__debug__" : Str)) = false := by decide) (he : starEach [a, .Name y p2] X.env = (false, eval a X.env) :: starEach [.Name y p2] X.env := by rfl) : SE X W pin (.Call (.Name "isinstance" p) [a, .Name y p2] [] pos) (s1 (gIsi T) fa) :=
  pe_mono (pe_callB (CallR.or call_isi call_isiP) hg hm PyProof.Rows.boot_isinstance (pa_cons (se_st ha) (pa_cons (pe_bltn (v := .ty T) hg2 hm2 hv2 rfl hn hdb) pa_nil) he) (by decide) (by decide) he) fun σ H Q ⟨b, Fz, F, δ, hp, R, P⟩ => by
    refine rd_bind hp R P fun v H1 Fz1 F1 x δ1 s1 R1 A1 P1 => ?_
    unfold gIsi gRd at P1
    cases q : rdA δ1 x with
    | none => simp only [q, Option.bind_none] at P1; exact P1.elim
    | some d =>
      simp only [q, Option.bind_some, flatD, if_true] at P1
      have r := rdA_ok R1 A1 q
      have kit : PySem.W.kitOne X.K (.type (tyD d)) (.type T) = some (isiB (tyD d) T) := by
        refine kit_ty ?_
        unfold kitAll at hk
        rw [List.all_eq_true] at hk
        have hin : tyD d ∈ ["NoneType", "bool", "int", "str", "list", "tuple", "dict"] := by cases d <;> simp [tyD]
        exact of_decide_eq_true (hk _ hin)
      rcases tyx_of r with ty | ⟨ed, a', ws, ev, dp⟩
      · exact .inl ⟨v, .ty T, .type (tyD d), .type T, isiB (tyD d) T, rfl, .ty T, ty, kit, P1 _ H1 Fz1 F1 (Same.refl _) R1 (.bl _)⟩
      · subst ev
        rw [ed] at kit P1
        exact .inr ⟨a', ws, T, _, rfl, dp, kit, P1 _ H1 Fz1 F1 (Same.refl _) R1 (.bl _)⟩
end Hb
namespace Hb
open PySem PySem.Spec PyProof.Rows L2
theorem Rl.mut {K : PySem.W.Frag} {b : Bk} {Fz : Hp} {F : Nat → List Addr} {δ : List Sl} {σ : L2.St} {H : Hp} (R : Rl K b Fz F δ σ H) {i : Nat} {xs es : List El} {l : Addr} {vs : List V} {g : List Addr}
    (hs : δ[i]? = some (.ol xs)) (hv : σ[i]? = some (some (.ref l))) (hE : ElL K Fz H g vs es) (hg : (l :: g).Nodup) (sub : ∀ a ∈ g, a ∈ F i) :
    Rl K b Fz (fun k => if k = i then l :: g else F k) (upS i (.ol es) δ) σ (upd H l (.lst vs)) := by
  obtain ⟨a, ws, g0, e1, e2, e3, e4⟩ := R.slot i _ hs
  rw [hv] at e1
  cases e1
  have hl : l ∈ F i := by rw [e2]; exact List.mem_cons_self
  have ne : ∀ c, Fz c ≠ none → c ≠ l := fun c hc z => hc (by rw [z]; exact R.offF i l hl)
  have neB : ∀ c, b.B c ≠ none → c ≠ l := fun c hc z => hc (by rw [z]; exact R.offB i l hl)
  have all : ∀ a ∈ l :: g, a ∈ F i := fun a ha => (List.mem_cons.mp ha).elim (fun z => by rw [z]; exact hl) (sub a)
  refine R.put (Same.refl _) (fun c o e => ?_) (fun c o e => ?_) rfl (fun _ _ => rfl) (.inl rfl) (fun _ => ?_) (fun x j z => nomatch z) hg (fun a ha => R.offF i a (all a ha)) (fun a ha => R.offB i a (all a ha)) (fun a ha k hk hin => hk (R.dj k i a hin (all a ha))) (fun a ha => ?_) (fun k hk a ha => ?_) (fun k hk a ha => R.offF k a ha) (fun _ _ => rfl) (fun a ha => ?_) (R.tb.upd (.inr (R.noT i l hl)))
  · rw [upd_ne (ne c (by rw [e]; simp))]
    exact R.le c o e
  · rw [upd_ne (neB c (by rw [e]; simp))]
    exact R.base c o e
  · rw [hv]
    refine ⟨l, vs, g, rfl, rfl, upd_same, hE.keeps (Same.refl _) fun c hc => upd_ne fun z => ?_⟩
    subst z
    exact (List.nodup_cons.mp hg).1 hc
  · by_cases z : a = l
    · rw [z, upd_same]; simp
    · rw [upd_ne z]
      exact R.on i a (all a ha)
  · exact upd_ne fun z => hk (R.dj k i a ha (by rw [z]; exact hl))
  · by_cases z : a = l
    · rw [z, upd_same]; exact .lst
    · rw [upd_ne z]
      exact R.noT i a (all a ha)
theorem Rl.own {K : PySem.W.Frag} {b : Bk} {Fz : Hp} {F : Nat → List Addr} {δ : List Sl} {σ : L2.St} {H : Hp} (R : Rl K b Fz F δ σ H) {i : Nat} {xs : List El} {v : V} (hs : δ[i]? = some (.ol xs)) (hv : σ[i]? = some (some v)) :
    ∃ l vs g, v = .ref l ∧ H l = some (.lst vs) ∧ ElL K Fz H g vs xs ∧ F i = l :: g ∧ (l :: g).Nodup := by
  obtain ⟨a, ws, g0, e1, e2, e3, e4⟩ := R.slot i _ hs
  rw [hv] at e1
  cases e1
  exact ⟨a, ws, g0, rfl, e3, e4, e2, by rw [← e2]; exact R.nd i⟩
theorem ElL.app {K : PySem.W.Frag} {Fz H : Hp} : ∀ {f g : List Addr} {vs ws : List V} {es ds : List El}, ElL K Fz H f vs es → ElL K Fz H g ws ds → ElL K Fz H (f ++ g) (vs ++ ws) (es ++ ds)
  | _, _, _, _, _, _, .nil, s => s
  | _, _, _, _, _, _, .cons h t, s => by
    rw [List.append_assoc]
    exact .cons h (t.app s)
def appI (i : Nat) (d : PyData) (δ : List Sl) : Rs AV := match δ[i]? with
  | some (.ol xs) => if xs.length ≤ cap then .ok (.val .none) (upS i (.ol (xs ++ [.fz d])) δ) else .bad
  | _ => .bad
def appA (x : AV) (d : PyData) (δ : List Sl) : Rs AV := match x with
  | .ref i => appI i d δ
  | _ => .bad
def isLst (δ : List Sl) (x : AV) : Bool := match rdA δ x with
  | some (.list _) => true
  | _ => false
def sApp (fo fa : List Sl → Rs AV) : List Sl → Rs AV := fun δ => (sSt fo δ).bind fun x δ1 => if isLst δ1 x = true then (sTk fa δ1).val fun d δ2 => appA x d δ2
  else .bad
theorem isLst_ty {K : PySem.W.Frag} {b : Bk} {Fz : Hp} {F : Nat → List Addr} {δ : List Sl} {σ : L2.St} {H : Hp} {v : V} {x : AV} (R : Rl K b Fz F δ σ H) (A : AvS K Fz σ v x) (h : isLst δ x = true) : tyV K "list" v H := by
  unfold isLst at h
  cases q : rdA δ x with
  | none => rw [q] at h; cases h
  | some d =>
    rw [q] at h
    cases d with
    | list ds =>
      have r := rdA_ok R A q
      cases r with
      | lst h1 h2 => exact .inl ⟨rfl, _, h1.sq⟩
    | _ => cases h
section
variable {K : PySem.W.Frag} {mg : Str → Option Value} {W : WX} {pin : List Nat}
theorem rd_val {f : List Sl → Rs AV} {σ : L2.St} {H : Hp} {b : Bk} {Fz : Hp} {F : Nat → List Addr} {δ : List Sl} {k : PyData → List Sl → Rs AV} {Q : VK} {R : VK} (hp : b.pin = pin) (Rr : Rl K b Fz F δ σ H) (P : Post K mg W b Fz σ Q ((sTk f δ).val k))
    (h : ∀ v H' Fz' F' d δ', Same Fz Fz' → Rl K b Fz' F' δ' σ H' → Rp K Fz' v d → Post K mg W b Fz' σ Q (k d δ') → R v H') : rdE K mg W pin (sTk f) σ H R := by
  refine ⟨b, Fz, F, δ, hp, Rr, ?_⟩
  cases q : sTk f δ with
  | bad => rw [q] at P; exact P
  | er x δ' => rw [q] at P; exact P
  | ok a δ' =>
    rw [q] at P
    intro v H' Fz' F' s R' A
    cases a with
    | tmp t => exact False.elim P
    | ref i => exact False.elim P
    | val d => exact h v H' Fz' F' d δ' s R' A (Post.le s P)
theorem app_ok {b : Bk} {Fz : Hp} {F : Nat → List Addr} {δ : List Sl} {σ : L2.St} {H : Hp} {Q : VK} {v w : V} {x : AV} {d : PyData} (R : Rl K b Fz F δ σ H) (A : AvS K Fz σ v x) (r : Rp K Fz w d) (P : Post K mg W b Fz σ Q (appA x d δ)) : rAppend v [w] H Q := by
  cases x with
  | val e => exact P.elim
  | tmp s => exact P.elim
  | ref i =>
    have hv : σ[i]? = some (some v) := A
    have P : Post K mg W b Fz σ Q (appI i d δ) := P
    unfold appI at P
    cases q : δ[i]? with
    | none => simp only [q] at P; exact P.elim
    | some s =>
      cases s with
      | ol xs =>
        simp only [q] at P
        by_cases c : xs.length ≤ cap
        · rw [if_pos c] at P
          obtain ⟨l, vs, g, e1, e2, e3, e4, e5⟩ := R.own q hv
          subst e1
          have e6 : ElL K Fz H (g ++ ([] ++ [])) (vs ++ [w]) (xs ++ [.fz d]) := e3.app (.cons ⟨rfl, r⟩ .nil)
          rw [List.append_nil, List.append_nil] at e6
          have R' := R.mut q hv e6 e5 (fun a ha => by rw [e4]; exact List.mem_cons_of_mem _ ha)
          exact ⟨l, vs, w, rfl, rfl, e2, by rw [e3.len]; exact lt_line c, P .non _ Fz _ (Same.refl _) R' .non⟩
        · rw [if_neg c] at P
          exact P.elim
      | _ => simp only [q] at P; exact P.elim
end
section
variable {X : Cx} {W : WX} {pin : List Nat} {fo fa : List Sl → Rs AV} {o e : Expr} {apos cpos : Pos}
theorem se_app (ho : SE X W pin o fo) (ha : SE X W pin e fa) (hbase : attributeBase o "append" X.env (eval o X.env) = eval o X.env := by rfl) (hline : (apos.endLine == cpos.line) = true := by rfl)
    (hs : starEach [e] X.env = (false, eval e X.env) :: starEach [] X.env := by rfl) (hfew : ((backTo cpos (starEach [e] X.env)).all (fun x => !x.1) && (backToKw cpos (keywordEach [] X.env)).all (fun x => x.1.isSome)
      && decide ([e].length + ([] : List Keyword).length + (if ([] : List Keyword).isEmpty then 0 else 1) < 30)) = true := by rfl) :
    SE X W pin (.Call (.Attribute o "append" apos) [e] [] cpos) (sApp fo fa) :=
  pe_mono (pe_bm PySem.F.plainAttrs_list PySem.F.slot_list_append PySem.F.type_list_append mt_append (se_st ho) (pa_cons (se_tk ha) pa_nil hs) hbase hfew hline hs rfl) fun σ H Q ⟨b, Fz, F, δ, hp, R, P⟩ => by
    refine rd_bind hp R P fun v H1 Fz1 F1 x δ1 s1 R1 A1 P1 => ?_
    by_cases c : isLst δ1 x = true
    · rw [if_pos c] at P1
      refine ⟨isLst_ty R1 A1 c, ?_⟩
      refine rd_val hp R1 P1 fun w H2 Fz2 F2 d δ2 s2 R2 A2 P2 => ?_
      exact app_ok R2 (A1.le s2) A2 P2
    · rw [if_neg c] at P1
      exact P1.elim
/-- xs.pop(i) -/
def popI (i : Nat) (k : Int) (δ : List Sl) : Rs AV := match δ[i]? with
  | some (.ol xs) => (match allFz xs with
    | some ds => (match ixN ds.length k with
      | some j => (match ds[j]? with
        | some d => if ds.length ≤ cap then .ok (.val d) (upS i (.ol ((ds.eraseIdx j).map .fz)) δ) else .bad
        | none => .bad)
      | none => .bad)
    | none => .bad)
  | _ => .bad
def sPop1 (fo fa : List Sl → Rs AV) : List Sl → Rs AV := fun δ => (sSt fo δ).bind fun x δ1 => if isLst δ1 x = true then (sTk fa δ1).val fun d δ2 => match x, d with
  | .ref i, .int k => popI i k δ2
  | _, _ => .bad
  else .bad
theorem pop_ok {K : PySem.W.Frag} {mg : Str → Option Value} {b : Bk} {Fz : Hp} {F : Nat → List Addr} {δ : List Sl} {σ : L2.St} {H : Hp} {Q : VK} {v : V} {i : Nat} {k : Int} (R : Rl K b Fz F δ σ H) (hv : σ[i]? = some (some v)) (P : Post K mg W b Fz σ Q (popI i k δ)) :
    ∃ l vs j u, v = .ref l ∧ H l = some (.lst vs) ∧ ixN vs.length k = some j ∧ vs[j]? = some u ∧ vs.length ≤ cap ∧ Q u (upd H l (.lst (vs.eraseIdx j))) := by
  unfold popI at P
  cases q : δ[i]? with
  | none => simp only [q] at P; exact P.elim
  | some s =>
    cases s with
    | ol xs =>
      simp only [q] at P
      cases q2 : allFz xs with
      | none => simp only [q2] at P; exact P.elim
      | some ds =>
        simp only [q2] at P
        cases q3 : ixN ds.length k with
        | none => simp only [q3] at P; exact P.elim
        | some j =>
          simp only [q3] at P
          cases q4 : ds[j]? with
          | none => simp only [q4] at P; exact P.elim
          | some d =>
            simp only [q4] at P
            by_cases c : ds.length ≤ cap
            · rw [if_pos c] at P
              obtain ⟨l, vs, g, e1, e2, e3, e4, e5⟩ := R.own q hv
              subst e1
              have rp := e3.allFz q2
              obtain ⟨u, hu, ru⟩ := rp.get q4
              have R' := R.mut (g := []) q hv (ElL.ofFz (rp.eraseIdx j)) (by simp) (fun a ha => nomatch ha)
              exact ⟨l, vs, j, u, rfl, e2, by rw [rp.len]; exact q3, hu, by rw [rp.len]; exact c, P u _ Fz _ (Same.refl _) R' ru⟩
            · rw [if_neg c] at P
              exact P.elim
    | _ => simp only [q] at P; exact P.elim
theorem se_pop1 (ho : SE X W pin o fo) (ha : SE X W pin e fa) (hbase : attributeBase o "pop" X.env (eval o X.env) = eval o X.env := by rfl) (hline : (apos.endLine == cpos.line) = true := by rfl)
    (hs : starEach [e] X.env = (false, eval e X.env) :: starEach [] X.env := by rfl) (hfew : ((backTo cpos (starEach [e] X.env)).all (fun x => !x.1) && (backToKw cpos (keywordEach [] X.env)).all (fun x => x.1.isSome)
      && decide ([e].length + ([] : List Keyword).length + (if ([] : List Keyword).isEmpty then 0 else 1) < 30)) = true := by rfl) :
    SE X W pin (.Call (.Attribute o "pop" apos) [e] [] cpos) (sPop1 fo fa) :=
  pe_mono (pe_bm PySem.F.plainAttrs_list PySem.F.slot_list_pop PySem.F.type_list_pop mt_popAt (se_st ho) (pa_cons (se_tk ha) pa_nil hs) hbase hfew hline hs rfl) fun σ H Q ⟨b, Fz, F, δ, hp, R, P⟩ => by
    refine rd_bind hp R P fun v H1 Fz1 F1 x δ1 s1 R1 A1 P1 => ?_
    by_cases c : isLst δ1 x = true
    · rw [if_pos c] at P1
      refine ⟨isLst_ty R1 A1 c, ?_⟩
      refine rd_val hp R1 P1 fun w H2 Fz2 F2 d δ2 s2 R2 A2 P2 => ?_
      cases x with
      | val e => exact P2.elim
      | tmp s => exact P2.elim
      | ref i =>
        cases d with
        | int k =>
          cases (show Rp X.K Fz2 w (.int k) from A2)
          obtain ⟨l, vs, j, u, e1, e2, e3, e4, e5, e6⟩ := pop_ok R2 (show σ[i]? = some (some v) from A1) P2
          obtain ⟨k1, k2, k3, k4⟩ := ixN_seq e3
          have : vs.length ≤ 1000000 := e5
          exact ⟨l, vs, k, j, u, e1, rfl, e2, by omega, by omega, k1, e4, e6⟩
        | _ => exact P2.elim
    · rw [if_neg c] at P1
      exact P1.elim
end
inductive Ot where
  | nx (δ : List Sl) | rt (s : Sl) (δ : List Sl) | bk (δ : List Sl) | ct (δ : List Sl) | er (x : Exn) (δ : List Sl) | bad
section
variable (K : PySem.W.Frag) (mg : Str → Option Value) (W : WX)
def PostXS (b : Bk) (Fz : Hp) (x : Exn) (δ : List Sl) : Prop := ∀ c dd σ' H' Fz' F', Same Fz Fz' → Rl K b Fz' F' δ σ' H' → ExR K mg Fz' H' x c dd → W c dd σ' H'
def PostS (b : Bk) (Fz : Hp) (D : Ends) : Ot → Prop
  | .nx δ => ∀ σ' H' Fz' F', Same Fz Fz' → Rl K b Fz' F' δ σ' H' → D.nx σ' H'
  | .rt s δ => ∀ v σ' H' Fz' F', Same Fz Fz' → Rl K b Fz' F' δ σ' H' → AvR K b Fz' F' H' σ' v (.tmp s) → D.rt v H'
  | .bk δ => ∀ σ' H' Fz' F', Same Fz Fz' → Rl K b Fz' F' δ σ' H' → D.bk σ' H'
  | .ct δ => ∀ σ' H' Fz' F', Same Fz Fz' → Rl K b Fz' F' δ σ' H' → D.ct σ' H'
  | .er x δ => PostXS K mg W b Fz x δ
  | .bad => False
def rdS (pin : List Nat) (f : List Sl → Ot) : TS := fun D σ H => ∃ b Fz F δ, b.pin = pin ∧ Rl K b Fz F δ σ H ∧ PostS K mg W b Fz D (f δ)
end
abbrev SS (X : Cx) (W : WX) (pin : List Nat) (st : Stmt) (f : List Sl → Ot) : Prop := PS X st (rdS X.K X.mg W pin f)
abbrev SSs (X : Cx) (W : WX) (pin : List Nat) (st : List Stmt) (f : List Sl → Ot) : Prop := PSs X st (rdS X.K X.mg W pin f)
theorem ps_mono {X : Cx} {st : Stmt} {t t' : TS} (h : PS X st t) (i : ∀ D σ H, t' D σ H → t D σ H) : PS X st t' := ⟨fun pins s σ H D I q => h.run pins s σ H D I (i D σ H q)⟩
theorem pss_mono {X : Cx} {st : List Stmt} {t t' : TS} (h : PSs X st t) (i : ∀ D σ H, t' D σ H → t D σ H) : PSs X st t' := ⟨fun pins s σ H D I q => h.run pins s σ H D I (i D σ H q)⟩
def Rs.ot {α : Type} (r : Rs α) (k : α → List Sl → Ot) : Ot := match r with
  | .ok a δ => k a δ
  | .er x δ => .er x δ
  | .bad => .bad
def oNext : List Sl → Ot := fun δ => .nx δ
def oSeq (f g : List Sl → Ot) : List Sl → Ot := fun δ => match f δ with
  | .nx δ' => g δ'
  | r => r
def oIf (t : List Sl → Rs Bool) (f g : List Sl → Ot) : List Sl → Ot := fun δ => (t δ).ot fun k δ' => if k = true then f δ' else g δ'
def oDrop (f : List Sl → Rs AV) : List Sl → Ot := fun δ => (f δ).ot fun _ δ' => .nx δ'
def oRet (f : List Sl → Rs AV) : List Sl → Ot := fun δ => (sMv f δ).ot fun a δ' => match a with
  | .val d => .rt (.fz d) δ'
  | .tmp s => .rt s δ'
  | .ref _ => .bad
section
variable {K : PySem.W.Frag} {mg : Str → Option Value} {W : WX} {pin : List Nat} {b : Bk} {Fz Fz1 : Hp}
theorem PostXS.le {x : Exn} {δ : List Sl} (s : Same Fz Fz1) (p : PostXS K mg W b Fz x δ) : PostXS K mg W b Fz1 x δ := fun c dd σ' H' Fz' F' s' R e => p c dd σ' H' Fz' F' (s.trans s') R e
theorem PostXS.at_ {x : Exn} {δ : List Sl} {σ : L2.St} (p : PostXS K mg W b Fz x δ) : PostX K mg W b Fz σ x δ := fun c dd H' Fz' F' s' R e => p c dd σ H' Fz' F' s' R e
theorem PostS.le {D : Ends} {r : Ot} (s : Same Fz Fz1) (p : PostS K mg W b Fz D r) : PostS K mg W b Fz1 D r := by
  cases r with
  | nx δ => exact fun σ' H' Fz' F' s' R => p σ' H' Fz' F' (s.trans s') R
  | rt t δ => exact fun v σ' H' Fz' F' s' R A => p v σ' H' Fz' F' (s.trans s') R A
  | bk δ => exact fun σ' H' Fz' F' s' R => p σ' H' Fz' F' (s.trans s') R
  | ct δ => exact fun σ' H' Fz' F' s' R => p σ' H' Fz' F' (s.trans s') R
  | er x δ => exact PostXS.le s p
  | bad => exact p
/-- behind an expression -/
theorem rdS_bind {f : List Sl → Rs AV} {σ : L2.St} {H : Hp} {F : Nat → List Addr} {δ : List Sl} {k : AV → List Sl → Ot} {D : Ends} {R : VK} (hp : b.pin = pin) (Rr : Rl K b Fz F δ σ H) (P : PostS K mg W b Fz D ((f δ).ot k))
    (h : ∀ v H' Fz' F' a δ', Same Fz Fz' → Rl K b Fz' F' δ' σ H' → AvR K b Fz' F' H' σ v a → PostS K mg W b Fz' D (k a δ') → R v H') : rdE K mg W pin f σ H R := by
  refine ⟨b, Fz, F, δ, hp, Rr, ?_⟩
  cases q : f δ with
  | bad => rw [q] at P; exact P
  | er x δ' => rw [q] at P; exact PostXS.at_ P
  | ok a δ' =>
    rw [q] at P
    exact fun v H' Fz' F' s R' A => h v H' Fz' F' a δ' s R' A (PostS.le s P)
theorem rdS_bindT {t : List Sl → Rs Bool} {σ : L2.St} {H : Hp} {F : Nat → List Addr} {δ : List Sl} {k : Bool → List Sl → Ot} {D : Ends} {R : Bool → Hp → Prop} (hp : b.pin = pin) (Rr : Rl K b Fz F δ σ H) (P : PostS K mg W b Fz D ((t δ).ot k))
    (h : ∀ c H' Fz' F' δ', Same Fz Fz' → Rl K b Fz' F' δ' σ H' → PostS K mg W b Fz' D (k c δ') → R c H') : rdT K mg W pin t σ H R := by
  refine ⟨b, Fz, F, δ, hp, Rr, ?_⟩
  cases q : t δ with
  | bad => rw [q] at P; exact P
  | er x δ' => rw [q] at P; exact PostXS.at_ P
  | ok a δ' =>
    rw [q] at P
    exact fun H' Fz' F' s R' => h a H' Fz' F' δ' s R' (PostS.le s P)
end
section
variable {X : Cx} {W : WX} {pin : List Nat} {st : Stmt} {rest : List Stmt} {e c : Expr} {pos : Pos} {f : List Sl → Rs AV} {t : List Sl → Rs Bool} {u w : List Sl → Ot}
theorem ss_nil : SSs X W pin [] oNext := pss_mono pss_nil fun D σ H ⟨b, Fz, F, δ, hp, R, P⟩ => P σ H Fz F (Same.refl _) R
theorem seq_ok {K : PySem.W.Frag} {mg : Str → Option Value} : ∀ D σ H, rdS K mg W pin (oSeq u w) D σ H → tSeq (rdS K mg W pin u) (rdS K mg W pin w) D σ H := fun D σ H ⟨b, Fz, F, δ, hp, R, P⟩ => by
  refine ⟨b, Fz, F, δ, hp, R, ?_⟩
  unfold oSeq at P
  cases q : u δ with
  | nx δ' =>
    rw [q] at P
    exact fun σ' H' Fz' F' s R' => ⟨b, Fz', F', δ', hp, R', PostS.le s P⟩
  | rt s δ' => rw [q] at P; exact P
  | bk δ' => rw [q] at P; exact P
  | ct δ' => rw [q] at P; exact P
  | er x δ' => rw [q] at P; exact P
  | bad => rw [q] at P; exact P
theorem ss_cons (h1 : SS X W pin st u) (h2 : SSs X W pin rest w) : SSs X W pin (st :: rest) (oSeq u w) := pss_mono (pss_cons h1 h2) seq_ok
theorem ss_one (h1 : SS X W pin st u) : SSs X W pin [st] u := pss_one h1
theorem ss_expr (h : SE X W pin e f) (hs : swapsWith e none pos.line X.env = pure false := by rfl) : SS X W pin (.Expr e pos) (oDrop f) := ps_mono (ps_expr h hs) fun D σ H ⟨b, Fz, F, δ, hp, R, P⟩ =>
  rdS_bind hp R P fun v H' Fz' F' a δ' s R' A P' => P' σ H' Fz' F' (Same.refl _) R'
theorem ss_ret (h : SE X W pin e f) : SS X W pin (.Return (some e) pos) (oRet f) := ps_mono (ps_ret (se_mv h)) fun D σ H ⟨b, Fz, F, δ, hp, R, P⟩ =>
  rdS_bind hp R P fun v H' Fz' F' a δ' s R' A P' => by
    cases a with
    | val d => exact P' v σ H' Fz' F' (Same.refl _) R' ⟨rfl, [], ⟨rfl, v, rfl, A⟩, List.nodup_nil, fun _ z => nomatch z⟩
    | tmp s => exact P' v σ H' Fz' F' (Same.refl _) R' A
    | ref i => exact P'.elim
theorem ss_if {a d : List Stmt} (hc : ST X W pin c t) (ha : SSs X W pin a u) (hb : SSs X W pin d w) : SS X W pin (.If c a d pos) (oIf t u w) := ps_mono (ps_if hc ha hb) fun D σ H ⟨b, Fz, F, δ, hp, R, P⟩ =>
  rdS_bindT hp R P fun k H' Fz' F' δ' s R' P' => by
    by_cases e : k = true
    · rw [if_pos e] at P' ⊢
      exact ⟨b, Fz', F', δ', hp, R', P'⟩
    · rw [if_neg e] at P' ⊢
      exact ⟨b, Fz', F', δ', hp, R', P'⟩
def oWh (t : List Sl → Rs Bool) (f : List Sl → Ot) : Nat → List Sl → Ot
  | 0, _ => .bad
  | n + 1, δ => (t δ).ot fun k δ1 => if k = true then (match f δ1 with
    | .nx δ2 => oWh t f n δ2
    | .ct δ2 => oWh t f n δ2
    | .bk δ2 => .nx δ2
    | r => r) else .nx δ1
theorem ss_while (n : Nat) {body : List Stmt} (hp : PassesOwn (model X.prog X.w) X.A X.env X.xe) (hc : ST X W pin c t) (hb : SSs X W pin body u) : SS X W pin (.While c body [] pos) (oWh t u n) := ps_mono (ps_while hp hc hb) fun D σ H ⟨b, Fz, F, δ, hpin, R, P⟩ => by
  refine ⟨fun m σ H => ∃ Fz F δ, Rl X.K b Fz F δ σ H ∧ PostS X.K X.mg W b Fz D (oWh t u m δ), ⟨n, Fz, F, δ, R, P⟩, ?_⟩
  rintro m σ1 H1 ⟨Fz1, F1, δ1, R1, P1⟩
  cases m with
  | zero => exact P1.elim
  | succ m =>
    refine rdS_bindT hpin R1 P1 fun k H' Fz' F' δ' s R' P' => ?_
    by_cases e : k = true
    · rw [if_pos e] at P' ⊢
      refine ⟨fun σ H => ∃ Fz F δ, Rl X.K b Fz F δ σ H ∧ PostS X.K X.mg W b Fz D (oWh t u m δ), fun σ2 H2 h => ⟨m, Nat.lt_succ_self m, h⟩, b, Fz', F', δ', hpin, R', ?_⟩
      cases q : u δ' with
      | nx δ2 => rw [q] at P'; exact fun σ3 H3 Fz3 F3 s3 R3 => ⟨Fz3, F3, δ2, R3, PostS.le s3 P'⟩
      | ct δ2 => rw [q] at P'; exact fun σ3 H3 Fz3 F3 s3 R3 => ⟨Fz3, F3, δ2, R3, PostS.le s3 P'⟩
      | bk δ2 => rw [q] at P'; exact P'
      | rt s δ2 => rw [q] at P'; exact P'
      | er x δ2 => rw [q] at P'; exact P'
      | bad => rw [q] at P'; exact P'
    · rw [if_neg e] at P' ⊢
      exact P' σ1 H' Fz' F' (Same.refl _) R'
end
end Hb
namespace Hb
open PySem PySem.Spec PyProof.Rows L2
/-- only the slots ts were stored -/
def Stored (ts : List Nat) (σ σ' : L2.St) : Prop := σ'.length = σ.length ∧ ∀ k, k ∉ ts → σ'[k]? = σ[k]?
theorem Stored.refl (ts : List Nat) (σ : L2.St) : Stored ts σ σ := ⟨rfl, fun _ _ => rfl⟩
section
variable (K : PySem.W.Frag) (mg : Str → Option Value) (W : WX)
def PostG (b : Bk) (Fz : Hp) (ts : List Nat) (σ : L2.St) (Q : L2.St → Hp → Prop) : Rs Unit → Prop
  | .ok _ δ => ∀ σ' H' Fz' F', Same Fz Fz' → Rl K b Fz' F' δ σ' H' → Stored ts σ σ' → Q σ' H'
  | .er x δ => PostXS K mg W b Fz x δ
  | .bad => False
def rdG (pin ts : List Nat) (t : AV → List Sl → Rs Unit) : TG := fun v σ H Q => ∃ b Fz F δ a, b.pin = pin ∧ Rl K b Fz F δ σ H ∧ AvR K b Fz F H σ v a ∧ PostG K mg W b Fz ts σ Q (t a δ)
def rdGs (pin ts : List Nat) (t : List PyData → List Sl → Rs Unit) : TGs := fun vs σ H Q => ∃ b Fz F δ ds, b.pin = pin ∧ Rl K b Fz F δ σ H ∧ RpL K Fz vs ds ∧ PostG K mg W b Fz ts σ Q (t ds δ)
end
abbrev SG (X : Cx) (W : WX) (pin ts : List Nat) (e : Expr) (t : AV → List Sl → Rs Unit) : Prop := PG X e (rdG X.K X.mg W pin ts t)
abbrev SGs (X : Cx) (W : WX) (pin ts : List Nat) (es : List Expr) (t : List PyData → List Sl → Rs Unit) : Prop := PGs X es (rdGs X.K X.mg W pin ts t)
theorem pg_mono {X : Cx} {e : Expr} {t t' : TG} (h : PG X e t) (i : ∀ v σ H Q, t' v σ H Q → t v σ H Q) : PG X e t' := ⟨fun pins s σ H v u Q I r q => h.run pins s σ H v u Q I r (i v σ H Q q)⟩
theorem pgs_mono {X : Cx} {e : List Expr} {t t' : TGs} (h : PGs X e t) (i : ∀ v σ H Q, t' v σ H Q → t v σ H Q) : PGs X e t' := ⟨fun pins s σ H v u Q I r q => h.run pins s σ H v u Q I r (i v σ H Q q)⟩
def tgN (i : Nat) (a : AV) (δ : List Sl) : Rs Unit := match a with
  | .val d => .ok () (upS i (.fz d) δ)
  | .tmp s => .ok () (upS i s δ)
  | .ref _ => .bad
def tgNil (ds : List PyData) (δ : List Sl) : Rs Unit := match ds with
  | [] => .ok () δ
  | _ => .bad
def tgCons (t : AV → List Sl → Rs Unit) (u : List PyData → List Sl → Rs Unit) (ds : List PyData) (δ : List Sl) : Rs Unit := match ds with
  | [] => .bad
  | d :: ds => (t (.val d) δ).bind fun _ δ' => u ds δ'
def tgT (n : Nat) (u : List PyData → List Sl → Rs Unit) (a : AV) (δ : List Sl) : Rs Unit := match a with
  | .val (.tuple ds) => if ds.length = n then u ds δ else .bad
  | _ => .bad
section
variable {K : PySem.W.Frag} {mg : Str → Option Value} {W : WX} {pin ts us : List Nat}
theorem PostG.le {b : Bk} {Fz Fz1 : Hp} {σ : L2.St} {Q : L2.St → Hp → Prop} {r : Rs Unit} (s : Same Fz Fz1) (p : PostG K mg W b Fz ts σ Q r) : PostG K mg W b Fz1 ts σ Q r := by
  cases r with
  | ok a δ => exact fun σ' H' Fz' F' s' R e => p σ' H' Fz' F' (s.trans s') R e
  | er x δ => exact PostXS.le s p
  | bad => exact p
theorem upd_slot {σ : L2.St} {i k : Nat} {v : V} (h : k ≠ i) : (σ.set i (some v))[k]? = σ[k]? := List.getElem?_set_ne (Ne.symm h)
/-- a name gets a value -/
theorem Rl.name {b : Bk} {Fz : Hp} {F : Nat → List Addr} {δ : List Sl} {σ : L2.St} {H : Hp} {i : Nat} {v : V} {s : Sl} {g : List Addr} (R : Rl K b Fz F δ σ H) (hi : i ∉ b.pin) (ht : s.live = true) (hs : SlH K Fz H [] g (some v) s) (hn : g.Nodup)
    (hg : ∀ a ∈ g, Fz a = none ∧ b.B a = none ∧ H a ≠ none ∧ ∀ i, a ∉ F i) : Rl K b Fz (fun k => if k = i then g else F k) (upS i s δ) (σ.set i (some v)) H := by
  refine R.put (Same.refl _) R.le R.base (List.length_set) (fun k hk => upd_slot hk) (.inr hi) (fun hlt => ?_) (fun x j z => by subst z; cases ht) hn (fun a ha => (hg a ha).1) (fun a ha => (hg a ha).2.1) (fun a ha k _ => (hg a ha).2.2.2 k) (fun a ha => (hg a ha).2.2.1) (fun _ _ _ _ => rfl) (fun k _ a ha => R.offF k a ha) (fun _ _ => rfl) hs.noT
  rw [List.getElem?_set_self (by rw [R.len]; exact hlt)]
  cases s with
  | no => cases ht
  | al x j => cases ht
  | fz d => exact hs
  | ol xs => exact hs
  | od kvs => exact hs
  | ex e => exact hs
theorem tgN_ok {b : Bk} {Fz : Hp} {F : Nat → List Addr} {δ : List Sl} {σ : L2.St} {H : Hp} {i : Nat} {v : V} {a : AV} {Q : L2.St → Hp → Prop} (hi : i ∈ ts) (hpin : i ∉ b.pin) (R : Rl K b Fz F δ σ H) (A : AvR K b Fz F H σ v a) (P : PostG K mg W b Fz ts σ Q (tgN i a δ)) : Q (σ.set i (some v)) H := by
  have fr : Stored ts σ (σ.set i (some v)) := ⟨List.length_set, fun k hk => upd_slot fun z => hk (by rw [z]; exact hi)⟩
  cases a with
  | val d => exact P _ H Fz _ (Same.refl _) (R.name hpin rfl (g := []) ⟨rfl, v, rfl, A⟩ List.nodup_nil fun _ z => nomatch z) fr
  | tmp s =>
    obtain ⟨ht, g, h1, h2, h3⟩ := A
    exact P _ H Fz _ (Same.refl _) (R.name hpin ht h1 h2 h3) fr
  | ref j => exact P.elim
end
section
variable {X : Cx} {W : WX} {pin ts us : List Nat} {pos : Pos}
theorem sg_name (i : Nat) {x : Str} (hN : X.N.Nodup) (hi : X.N[i]? = some x) (hx : Loc X.env.scope x) (hp : i ∉ pin) (hf : X.fn x = true ∨ X.env.scope.names.lookup x = some .local := by first | exact .inl rfl | exact .inr rfl | assumption) : SG X W pin [i] (.Name x pos) (tgN i) :=
  pg_mono (pg_name hN hi hx hf) fun v σ H Q ⟨b, Fz, F, δ, a, hpin, R, A, P⟩ => tgN_ok (List.mem_singleton.mpr rfl) (by rw [hpin]; exact hp) R A P
theorem sgs_nil : SGs X W pin [] [] tgNil := pgs_mono pgs_nil fun vs σ H Q ⟨b, Fz, F, δ, ds, hpin, R, A, P⟩ => by
  cases A with
  | nil => exact ⟨rfl, P σ H Fz F (Same.refl _) R (Stored.refl _ _)⟩
  | cons h t => exact P.elim
theorem sgs_cons {e : Expr} {es : List Expr} {t : AV → List Sl → Rs Unit} {u : List PyData → List Sl → Rs Unit} (h1 : SG X W pin ts e t) (h2 : SGs X W pin us es u)
    (hs : (assignEach (e :: es) X.env).map (·.2) = assign e X.env :: (assignEach es X.env).map (·.2) := by rfl) : SGs X W pin (ts ++ us) (e :: es) (tgCons t u) := pgs_mono (pgs_cons h1 h2 hs) fun vs σ H Q ⟨b, Fz, F, δ, ds, hpin, R, A, P⟩ => by
  cases A with
  | nil => exact P.elim
  | @cons v0 vs0 d ds h r =>
    refine ⟨_, _, rfl, b, Fz, F, δ, .val d, hpin, R, h, ?_⟩
    have P : PostG X.K X.mg W b Fz (ts ++ us) σ Q ((t (.val d) δ).bind fun _ δ' => u ds δ') := P
    cases q : t (.val d) δ with
    | bad => rw [q] at P; exact P
    | er x δ' => rw [q] at P; exact P
    | ok a δ' =>
      rw [q] at P
      have P : PostG X.K X.mg W b Fz (ts ++ us) σ Q (u ds δ') := P
      intro σ1 H1 Fz1 F1 s1 R1 fr1
      refine ⟨b, Fz1, F1, δ', ds, hpin, R1, r.mono s1, ?_⟩
      cases q2 : u ds δ' with
      | bad => rw [q2] at P; exact P
      | er x δ2 => rw [q2] at P; exact PostXS.le s1 P
      | ok a δ2 =>
        rw [q2] at P
        exact fun σ2 H2 Fz2 F2 s2 R2 fr2 => P σ2 H2 Fz2 F2 (s1.trans s2) R2 ⟨fr2.1.trans fr1.1, fun k hk => (fr2.2 k fun z => hk (List.mem_append_right _ z)).trans (fr1.2 k fun z => hk (List.mem_append_left _ z))⟩
theorem sg_tup {es : List Expr} {k n : Nat} {u : List PyData → List Sl → Rs Unit} (hc : X.calm = true) (h : SGs X W pin ts es u)
    (hn : (assignEach es X.env).length = n := by rfl) (hst : (assignEach es X.env).findIdx? (·.1) = none := by rfl) : SG X W pin ts (.Tuple es k pos) (tgT n u) := pg_mono (pg_tup hc h hn hst) fun v σ H Q ⟨b, Fz, F, δ, a, hpin, R, A, P⟩ => by
  cases a with
  | tmp s => exact P.elim
  | ref i => exact P.elim
  | val d =>
    cases d with
    | tuple ds =>
      have P : PostG X.K X.mg W b Fz ts σ Q (if ds.length = n then u ds δ else .bad) := P
      by_cases c : ds.length = n
      · rw [if_pos c] at P
        cases (show Rp X.K Fz v (.tuple ds) from A) with
        | tup h1 h2 => exact ⟨_, _, rfl, (h1.mono R.le).sq, by rw [h2.len]; exact c, b, Fz, F, δ, ds, hpin, R, h2, P⟩
      · rw [if_neg c] at P
        exact P.elim
    | _ => exact P.elim
def Rs.otU (r : Rs Unit) : Ot := match r with
  | .ok _ δ => .nx δ
  | .er x δ => .er x δ
  | .bad => .bad
def oAsg (f : List Sl → Rs AV) (t : AV → List Sl → Rs Unit) : List Sl → Ot := fun δ => (f δ).ot fun a δ' => (t a δ').otU
theorem asg_ok {K : PySem.W.Frag} {mg : Str → Option Value} {f : List Sl → Rs AV} {t : AV → List Sl → Rs Unit} : ∀ D σ H, rdS K mg W pin (oAsg f t) D σ H → tAsg (rdE K mg W pin f) (rdG K mg W pin ts t) D σ H := fun D σ H ⟨b, Fz, F, δ, hp, R, P⟩ => by
  refine rdS_bind hp R P fun v H' Fz' F' a δ' s R' A P' => ?_
  refine ⟨b, Fz', F', δ', a, hp, R', A, ?_⟩
  cases q : t a δ' with
  | bad => rw [q] at P'; exact P'
  | er x δ2 => rw [q] at P'; exact P'
  | ok u δ2 =>
    rw [q] at P'
    exact fun σ2 H2 Fz2 F2 s2 R2 _ => P' σ2 H2 Fz2 F2 s2 R2
theorem ss_set (i : Nat) {x : Str} {e : Expr} {f : List Sl → Rs AV} {pos' : Pos} (hN : X.N.Nodup) (hi : X.N[i]? = some x) (hx : Loc X.env.scope x) (hp : i ∉ pin) (he : SE X W pin e f) (hs : swapsWith e (some (.Name x pos')) pos.line X.env = pure false := by rfl) (hf : X.fn x = true ∨ X.env.scope.names.lookup x = some .local := by first | exact .inl rfl | exact .inr rfl | assumption) :
    SS X W pin (.Assign [.Name x pos'] e pos) (oAsg f (tgN i)) := ps_mono (ps_set hN hi hx he hs hf) fun D σ H h => by
  obtain ⟨b, Fz, F, δ, hpin, R, P⟩ := h
  refine rdS_bind hpin R P fun v H' Fz' F' a δ' s R' A P' => ?_
  refine tgN_ok (K := X.K) (mg := X.mg) (W := W) (b := b) (ts := [i]) (List.mem_singleton.mpr rfl) (by rw [hpin]; exact hp) R' A ?_
  cases q : tgN i a δ' with
  | bad => rw [q] at P'; exact P'
  | er x δ2 => rw [q] at P'; exact P'
  | ok u δ2 =>
    rw [q] at P'
    exact fun σ2 H2 Fz2 F2 s2 R2 _ => P' σ2 H2 Fz2 F2 s2 R2
theorem ss_asg {tg e : Expr} {f : List Sl → Rs AV} {t : AV → List Sl → Rs Unit} (he : SE X W pin e f) (hg : SG X W pin ts tg t) (hs : swapsWithSole [tg] e pos.line X.env = pure false := by rfl) (hw : swappedStores [tg] e X.env = pure none := by rfl)
    (h1 : (assignEach [tg] X.env).map (·.2) = [assign tg X.env] := by rfl) : SS X W pin (.Assign [tg] e pos) (oAsg f t) := ps_mono (ps_asg he hg hs hw h1) asg_ok
/-- x[i] = v -/
def setA (x y : AV) (d : PyData) (δ : List Sl) : Rs Unit := match x, rdC δ y with
  | .ref k, some (.int i) => (match δ[k]? with
    | some (.ol xs) => (match ixN xs.length i with
      | some j => (match allFz xs with
        | some ds => .ok () (upS k (.ol ((ds.set j d).map .fz)) δ)
        | none => .bad)
      | none => .bad)
    | some (.al x j) => (match δ[x]? with
      | some (.ol es) => (match es[j]? with
        | some (.ow ys) => (match ixN ys.length i with
          | some m => .ok () (δ.set x (.ol (es.set j (.ow (ys.set m d)))))
          | none => .bad)
        | _ => .bad)
      | _ => .bad)
    | _ => .bad)
  | _, _ => .bad
def tgS (fo fi : List Sl → Rs AV) (a : AV) (δ : List Sl) : Rs Unit := match a with
  | .val d => (sSt fo δ).bind fun x δ1 => (sSt fi δ1).bind fun y δ2 => setA x y d δ2
  | _ => .bad
theorem ElL.set_ow {K : PySem.W.Frag} {Fz H : Hp} {a : Addr} {ws : List V} {ys : List PyData} (hr : RpL K Fz ws ys) : ∀ {f : List Addr} {vs : List V} {es : List El} {j : Nat} {xs : List PyData}, ElL K Fz H f vs es → f.Nodup → es[j]? = some (.ow xs) → vs[j]? = some (.ref a) →
    a ∈ f ∧ ElL K Fz (upd H a (.lst ws)) f vs (es.set j (.ow ys))
  | _, _, _, _, _, .nil, _, e, _ => by simp at e
  | _, _, _, 0, xs, .cons (f := f) (g := g) (v := v) h t, nd, e, e2 => by
    simp at e e2
    subst e e2
    obtain ⟨a', us, e3, e4, e5, e6⟩ := h
    cases e3
    subst e4
    rw [List.nodup_append] at nd
    refine ⟨by simp, .cons ⟨a, ws, rfl, rfl, upd_same, hr⟩ (t.keeps (Same.refl _) fun c hc => upd_ne fun z => ?_)⟩
    subst z
    exact nd.2.2 c (by simp) c hc rfl
  | _, _, _, j + 1, xs, .cons (f := f) (g := g) (v := v) (e := e0) h t, nd, e, e2 => by
    rw [List.nodup_append] at nd
    obtain ⟨h1, h2⟩ := ElL.set_ow hr t nd.2.1 (by simpa using e) (by simpa using e2)
    refine ⟨List.mem_append_right _ h1, .cons (h.keeps (Same.refl _) fun c hc => upd_ne fun z => ?_) h2⟩
    subst z
    exact nd.2.2 c hc c h1 rfl
/-- a row of a list of one's own changes -/
theorem Rl.row {K : PySem.W.Frag} {b : Bk} {Fz : Hp} {F : Nat → List Addr} {δ : List Sl} {σ : L2.St} {H : Hp} (R : Rl K b Fz F δ σ H) {x j : Nat} {es : List El} {xs ys : List PyData} {l a : Addr} {vs ws : List V}
    (hs : δ[x]? = some (.ol es)) (hv : σ[x]? = some (some (.ref l))) (hl : H l = some (.lst vs)) (hj : es[j]? = some (.ow xs)) (ha : vs[j]? = some (.ref a)) (hr : RpL K Fz ws ys) : Rl K b Fz F (δ.set x (.ol (es.set j (.ow ys)))) σ (upd H a (.lst ws)) := by
  obtain ⟨l', vs', g, e1, e2, e3, e4⟩ := R.slot x _ hs
  rw [hv] at e1
  cases e1
  rw [hl] at e3
  cases e3
  have nd := R.nd x
  rw [e2] at nd
  obtain ⟨nl, ng⟩ := List.nodup_cons.mp nd
  obtain ⟨h1, h2⟩ := ElL.set_ow hr e4 ng hj ha
  have hal : a ≠ l := fun z => nl (by rw [← z]; exact h1)
  have haF : a ∈ F x := by rw [e2]; exact List.mem_cons_of_mem _ h1
  have hlF : l ∈ F x := by rw [e2]; exact List.mem_cons_self
  have xl : x < δ.length := (List.getElem?_eq_some_iff.mp hs).1
  have ne : ∀ c, Fz c ≠ none → c ≠ a := fun c hc z => hc (by rw [z]; exact R.offF x a haF)
  have neB : ∀ c, b.B c ≠ none → c ≠ a := fun c hc z => hc (by rw [z]; exact R.offB x a haF)
  refine ⟨fun c o e => ?_, fun c o e => ?_, by rw [List.length_set]; exact R.len, fun k t e => ?_, R.nd, R.dj, R.offF, R.offB, fun k c hc => ?_, R.keep, R.f0, R.pin, fun k y m e => ?_, fun k c hc => ?_, R.tb.upd (.inr (R.noT x a haF)), R.tp⟩
  · rw [upd_ne (ne c (by rw [e]; simp))]
    exact R.le c o e
  · rw [upd_ne (neB c (by rw [e]; simp))]
    exact R.base c o e
  · by_cases hk : k = x
    · subst hk
      rw [List.getElem?_set_self xl] at e
      cases e
      rw [hv]
      exact ⟨l, vs, g, rfl, e2, by rw [upd_ne hal.symm]; exact hl, h2⟩
    · rw [List.getElem?_set_ne (Ne.symm hk)] at e
      refine (R.slot k t e).keeps (Same.refl _) (fun c hc => upd_ne fun z => hk (R.dj k x a (by rw [← z]; exact hc) haF)) fun y m ey c hc => upd_ne fun z => ?_
      subst ey
      subst z
      obtain ⟨xs', f1⟩ := R.als k y m e
      obtain ⟨l2, vs2, g2, p1, p2, p3, p4⟩ := R.slot y _ f1
      rw [hc] at p1
      cases p1
      have hyx : y = x := R.dj y x c (by rw [p2]; exact List.mem_cons_self) haF
      subst hyx
      rw [hv] at hc
      cases hc
      exact hal rfl
  · by_cases z : c = a
    · rw [z, upd_same]; simp
    · rw [upd_ne z]; exact R.on k c hc
  · by_cases hk : k = x
    · subst hk
      rw [List.getElem?_set_self xl] at e
      cases e
    · rw [List.getElem?_set_ne (Ne.symm hk)] at e
      obtain ⟨xs', f1⟩ := R.als k y m e
      by_cases hy : y = x
      · subst hy
        exact ⟨_, List.getElem?_set_self xl⟩
      · exact ⟨xs', by rw [List.getElem?_set_ne (Ne.symm hy)]; exact f1⟩
  · by_cases z : c = a
    · rw [z, upd_same]; exact .lst
    · rw [upd_ne z]; exact R.noT k c hc
theorem sg_sub {o i : Expr} {fo fi : List Sl → Rs AV} (ho : SE X W pin o fo) (hi : SE X W pin i fi)
    (ha : ∀ v, assign (.Subscript o i pos) X.env v = (do
      let ov ← holding [v] (eval o X.env)
      let iv ← holding [v, ov] (eval i X.env)
      standAt pos
      holding [v, ov, iv] (setItem ov iv v)
      release [v, ov, iv] []) := by intro _; rfl) : SG X W pin [] (.Subscript o i pos) (tgS fo fi) := pg_mono (pg_sub (se_st ho) (se_st hi) set_list ha) fun v σ H Q ⟨b, Fz, F, δ, a, hpin, R, A, P⟩ => by
  cases a with
  | tmp s => exact P.elim
  | ref i => exact P.elim
  | val d =>
    have A : Rp X.K Fz v d := A
    have P : PostG X.K X.mg W b Fz [] σ Q ((sSt fo δ).bind fun x δ1 => (sSt fi δ1).bind fun y δ2 => setA x y d δ2) := P
    -- the two operands
    have two : ∀ (f : List Sl → Rs AV) (Fz1 : Hp) (F1 : Nat → List Addr) (δ1 : List Sl) (H1 : Hp) (k : AV → List Sl → Rs Unit) (R' : VK), Rl X.K b Fz1 F1 δ1 σ H1 → PostG X.K X.mg W b Fz1 [] σ Q ((sSt f δ1).bind k) →
        (∀ v H' Fz' F' x δ', Same Fz1 Fz' → Rl X.K b Fz' F' δ' σ H' → AvS X.K Fz' σ v x → PostG X.K X.mg W b Fz' [] σ Q (k x δ') → R' v H') → rdE X.K X.mg W pin (sSt f) σ H1 R' := fun f Fz1 F1 δ1 H1 k R' Rr PP h => by
      refine ⟨b, Fz1, F1, δ1, hpin, Rr, ?_⟩
      cases q : sSt f δ1 with
      | bad => rw [q] at PP; exact PP
      | er x δ' => rw [q] at PP; exact PostXS.at_ PP
      | ok a δ' =>
        rw [q] at PP
        intro v H' Fz' F' s R2 A2
        cases a with
        | tmp t => exact absurd q (sSt_notmp _ _ _ _)
        | val d => exact h v H' Fz' F' (.val d) δ' s R2 A2 (PostG.le s PP)
        | ref i => exact h v H' Fz' F' (.ref i) δ' s R2 A2 (PostG.le s PP)
    refine two fo Fz F δ H _ _ R P fun ov H1 Fz1 F1 x δ1 s1 R1 A1 P1 => ?_
    refine two fi Fz1 F1 δ1 H1 _ _ R1 P1 fun iv H2 Fz2 F2 y δ2 s2 R2 A2 P2 => ?_
    have A0 : Rp X.K Fz2 v d := (A.mono s1).mono s2
    have A1 := A1.le s2
    unfold setA at P2
    cases x with
    | val e => cases q : rdC δ2 y <;> exact P2.elim
    | tmp e => exact A1.elim
    | ref k =>
      cases q : rdC δ2 y with
      | none => simp only [q] at P2; exact P2.elim
      | some n =>
        cases n with
        | int n =>
          simp only [q] at P2
          have ei := rpc_int (rdC_ok R2 A2 q)
          have hv : σ[k]? = some (some ov) := A1
          cases q2 : δ2[k]? with
          | none => simp only [q2] at P2; exact P2.elim
          | some t =>
            cases t with
            | ol xs =>
              simp only [q2] at P2
              cases q3 : ixN xs.length n with
              | none => simp only [q3] at P2; exact P2.elim
              | some j =>
                simp only [q3] at P2
                cases q4 : allFz xs with
                | none => simp only [q4] at P2; exact P2.elim
                | some ds =>
                  simp only [q4] at P2
                  obtain ⟨l, vs, g, e1, e2, e3, e4, e5⟩ := R2.own q2 hv
                  subst e1
                  have rp := e3.allFz q4
                  have R' := R2.mut (g := []) q2 hv (ElL.ofFz (rp.set A0 j)) (by simp) (fun a ha => nomatch ha)
                  exact ⟨l, vs, n, j, rfl, ei, e2, by rw [e3.len]; exact q3, P2 _ _ Fz2 _ (Same.refl _) R' (Stored.refl _ _)⟩
            | al x j =>
              simp only [q2] at P2
              cases q3 : δ2[x]? with
              | none => simp only [q3] at P2; exact P2.elim
              | some t =>
                cases t with
                | ol es =>
                  simp only [q3] at P2
                  cases q4 : es[j]? with
                  | none => simp only [q4] at P2; exact P2.elim
                  | some el =>
                    cases el with
                    | fz d' => simp only [q4] at P2; exact P2.elim
                    | ow ys =>
                      simp only [q4] at P2
                      cases q5 : ixN ys.length n with
                      | none => simp only [q5] at P2; exact P2.elim
                      | some m =>
                        simp only [q5] at P2
                        obtain ⟨_, l, c, vs, f1, f2, f3, f4⟩ := R2.slot k _ q2
                        rw [hv] at f4
                        cases f4
                        obtain ⟨g, ⟨c', ws, g1, g2, g3, g4⟩, _⟩ := R2.al q2 q3 q4 hv
                        cases g1
                        have R' := R2.row q3 f1 f2 q4 f3 (g4.set A0 m)
                        exact ⟨c, ws, n, m, rfl, ei, g3, by rw [g4.len]; exact q5, P2 _ _ Fz2 _ (Same.refl _) R' (Stored.refl _ _)⟩
                | _ => simp only [q3] at P2; exact P2.elim
            | _ => simp only [q2] at P2; exact P2.elim
        | _ => simp only [q] at P2; exact P2.elim
end
end Hb
namespace Hb
open PySem PySem.Spec PyProof.Rows L2
/-- J gives the trees ds, one a turn -/
def Wk (K : PySem.W.Frag) (Fz0 : Hp) (J : It) (ds : List PyData) : Prop := ∀ b Fz F δ σ H, Same Fz0 Fz → Rl K b Fz F δ σ H →
  (∀ i, i < ds.length → J.go i H ∧ ∀ x H', J.yld i H x H' → ∃ Fz' d, ds[i]? = some d ∧ Same Fz Fz' ∧ Rl K b Fz' F δ σ H' ∧ Rp K Fz' x d) ∧ J.stop ds.length H
section
variable (K : PySem.W.Frag) (mg : Str → Option Value) (W : WX)
def PostI (b : Bk) (Fz : Hp) (σ : L2.St) (R : It → Hp → Prop) : Rs (List PyData) → Prop
  | .ok ds δ => ∀ J H' Fz' F', Same Fz Fz' → Rl K b Fz' F' δ σ H' → Wk K Fz' J ds → R J H'
  | .er x δ => PostX K mg W b Fz σ x δ
  | .bad => False
def rdI (pin : List Nat) (w : List Sl → Rs (List PyData)) : TI := fun σ H R => ∃ b Fz F δ, b.pin = pin ∧ Rl K b Fz F δ σ H ∧ PostI K mg W b Fz σ R (w δ)
end
abbrev SI (X : Cx) (W : WX) (pin : List Nat) (tg iter : Expr) (w : List Sl → Rs (List PyData)) : Prop := PI X tg iter (rdI X.K X.mg W pin w)
theorem pi_mono {X : Cx} {tg iter : Expr} {t t' : TI} (h : PI X tg iter t) (i : ∀ σ H R, t' σ H R → t σ H R) : PI X tg iter t' := ⟨fun pins s σ H R I q => h.run pins s σ H R I (i σ H R q)⟩
theorem pi_or {X : Cx} {tg iter : Expr} {t t' : TI} (h : PI X tg iter t) (h' : PI X tg iter t') : PI X tg iter (fun σ H R => t σ H R ∨ t' σ H R) := ⟨fun pins s σ H R I q => q.elim (h.run pins s σ H R I) (h'.run pins s σ H R I)⟩
section
variable {K : PySem.W.Frag} {mg : Str → Option Value} {W : WX} {pin : List Nat}
theorem PostI.le {b : Bk} {Fz Fz1 : Hp} {σ : L2.St} {R : It → Hp → Prop} {r : Rs (List PyData)} (s : Same Fz Fz1) (p : PostI K mg W b Fz σ R r) : PostI K mg W b Fz1 σ R r := by
  cases r with
  | ok a δ => exact fun J H' Fz' F' s' R e => p J H' Fz' F' (s.trans s') R e
  | er x δ => exact PostX.le s p
  | bad => exact p
theorem rd_valI {f : List Sl → Rs AV} {σ : L2.St} {H : Hp} {b : Bk} {Fz : Hp} {F : Nat → List Addr} {δ : List Sl} {k : PyData → List Sl → Rs (List PyData)} {Q : It → Hp → Prop} {R : VK} (hp : b.pin = pin) (Rr : Rl K b Fz F δ σ H) (P : PostI K mg W b Fz σ Q ((sTk f δ).val k))
    (h : ∀ v H' Fz' F' d δ', Same Fz Fz' → Rl K b Fz' F' δ' σ H' → Rp K Fz' v d → PostI K mg W b Fz' σ Q (k d δ') → R v H') : rdE K mg W pin (sTk f) σ H R := by
  refine ⟨b, Fz, F, δ, hp, Rr, ?_⟩
  cases q : sTk f δ with
  | bad => rw [q] at P; exact P
  | er x δ' => rw [q] at P; exact P
  | ok a δ' =>
    rw [q] at P
    intro v H' Fz' F' s R' A
    cases a with
    | tmp t => exact False.elim P
    | ref i => exact False.elim P
    | val d => exact h v H' Fz' F' d δ' s R' A (PostI.le s P)
theorem wk_list {Fz0 : Hp} {a : Addr} {vs : List V} {ds : List PyData} (h : SqX K Fz0 a vs) (r : RpL K Fz0 vs ds) : Wk K Fz0 (Itl K a) ds := fun b Fz F δ σ H s R => by
  have hq : SqL K H a vs := (same_sqX (s.trans R.le) h).sq
  refine ⟨fun i hi => ?_, ⟨vs, hq, by rw [r.len]; exact Nat.le_refl _⟩⟩
  obtain ⟨v, e1, e2⟩ := r.get (List.getElem?_eq_getElem hi)
  refine ⟨⟨vs, v, hq, e1⟩, fun x H' y => ?_⟩
  obtain ⟨rfl, y⟩ := y
  have := y vs hq
  rw [e1] at this
  cases this
  exact ⟨Fz, _, List.getElem?_eq_getElem hi, Same.refl _, R, e2.mono s⟩
theorem wk_tup {Fz0 : Hp} {a : Addr} {vs : List V} {ds : List PyData} (h : SqT K Fz0 a vs) (r : RpL K Fz0 vs ds) : Wk K Fz0 (Itt K a) ds := fun b Fz F δ σ H s R => by
  have hq : SqT K H a vs := same_sqT (s.trans R.le) h
  refine ⟨fun i hi => ?_, ⟨vs, hq, by rw [r.len]; exact Nat.le_refl _⟩⟩
  obtain ⟨v, e1, e2⟩ := r.get (List.getElem?_eq_getElem hi)
  refine ⟨⟨vs, v, hq, e1⟩, fun x H' y => ?_⟩
  obtain ⟨rfl, y⟩ := y
  have := y vs hq
  rw [e1] at this
  cases this
  exact ⟨Fz, _, List.getElem?_eq_getElem hi, Same.refl _, R, e2.mono s⟩
def rangeD (lo : Int) (n : Nat) : List PyData := (List.range n).map fun i => .int (lo + (i : Nat))
theorem rangeD_len (lo : Int) (n : Nat) : (rangeD lo n).length = n := by simp [rangeD]
theorem rangeD_at {lo : Int} {n i : Nat} (h : i < n) : (rangeD lo n)[i]? = some (.int (lo + (i : Nat))) := by
  unfold rangeD
  rw [List.getElem?_map, List.getElem?_range h]
  rfl
theorem wk_range {Fz0 : Hp} (lo : Int) (n : Nat) : Wk K Fz0 (Itr lo n) (rangeD lo n) := fun b Fz F δ σ H s R => by
  rw [rangeD_len]
  refine ⟨fun i hi => ⟨hi, fun x H' y => ?_⟩, Nat.le_refl n⟩
  obtain ⟨rfl, rfl⟩ := y
  exact ⟨Fz, _, rangeD_at hi, Same.refl _, R, .int _⟩
def zipD : List PyData → List PyData → List PyData
  | d :: ds, e :: es => .tuple [d, e] :: zipD ds es
  | _, _ => []
theorem zipD_len : ∀ ds es : List PyData, (zipD ds es).length = min ds.length es.length
  | [], es => by simp [zipD]
  | d :: ds, [] => by simp [zipD]
  | d :: ds, e :: es => by
    rw [zipD, List.length_cons, zipD_len ds es, List.length_cons, List.length_cons]
    omega
theorem zipD_at : ∀ {ds es : List PyData} {i : Nat} {d e : PyData}, ds[i]? = some d → es[i]? = some e → (zipD ds es)[i]? = some (.tuple [d, e])
  | [], _, _, _, _, h, _ => by simp at h
  | _ :: _, [], _, _, _, _, h => by simp at h
  | d :: ds, e :: es, 0, _, _, h, h2 => by
    simp at h h2
    subst h h2
    rfl
  | d :: ds, e :: es, i + 1, _, _, h, h2 => by
    rw [zipD, List.getElem?_cons_succ]
    exact zipD_at (by simpa using h) (by simpa using h2)
theorem wk_zip {Fz0 : Hp} {a c : Addr} {vs ws : List V} {ds es : List PyData} (h : SqX K Fz0 a vs) (r : RpL K Fz0 vs ds) (h2 : SqX K Fz0 c ws) (r2 : RpL K Fz0 ws es) : Wk K Fz0 (ItzP K a c) (zipD ds es) := fun b Fz F δ σ H s R => by
  have hq : SqL K H a vs := (same_sqX (s.trans R.le) h).sq
  have hq2 : SqL K H c ws := (same_sqX (s.trans R.le) h2).sq
  have l1 := r.len
  have l2 := r2.len
  rw [zipD_len]
  refine ⟨fun i hi => ?_, ⟨vs, ws, hq, hq2, by omega⟩⟩
  obtain ⟨v, e1, e2⟩ := r.get (List.getElem?_eq_getElem (show i < ds.length by omega))
  obtain ⟨w, f1, f2⟩ := r2.get (List.getElem?_eq_getElem (show i < es.length by omega))
  refine ⟨⟨vs, ws, v, w, hq, hq2, e1, f1⟩, fun x H' y => ?_⟩
  obtain ⟨T, u, t, its, rfl, hn, rfl, y1, y2⟩ := y
  have z1 := y1 vs hq
  rw [e1] at z1
  cases z1
  have z2 := y2 ws hq2
  rw [f1] at z2
  cases z2
  obtain ⟨s2, R2⟩ := R.newF hn (nT its [v, w])
  exact ⟨_, _, zipD_at (List.getElem?_eq_getElem (show i < ds.length by omega)) (List.getElem?_eq_getElem (show i < es.length by omega)), s2, R2, .tup TP.new (.cons (e2.mono (s.trans s2)) (.cons (f2.mono (s.trans s2)) .nil))⟩
theorem wk_zipT {Fz0 : Hp} {a c : Addr} {vs ws : List V} {ds es : List PyData} (h : SqT K Fz0 a vs) (r : RpL K Fz0 vs ds) (h2 : SqT K Fz0 c ws) (r2 : RpL K Fz0 ws es) : Wk K Fz0 (ItzTP K a c) (zipD ds es) := fun b Fz F δ σ H s R => by
  have hq : SqT K H a vs := same_sqT (s.trans R.le) h
  have hq2 : SqT K H c ws := same_sqT (s.trans R.le) h2
  have l1 := r.len
  have l2 := r2.len
  rw [zipD_len]
  refine ⟨fun i hi => ?_, ⟨vs, ws, hq, hq2, by omega⟩⟩
  obtain ⟨v, e1, e2⟩ := r.get (List.getElem?_eq_getElem (show i < ds.length by omega))
  obtain ⟨w, f1, f2⟩ := r2.get (List.getElem?_eq_getElem (show i < es.length by omega))
  refine ⟨⟨vs, ws, v, w, hq, hq2, e1, f1⟩, fun x H' y => ?_⟩
  obtain ⟨T, u, t, its, rfl, hn, rfl, y1, y2⟩ := y
  have z1 := y1 vs hq
  rw [e1] at z1
  cases z1
  have z2 := y2 ws hq2
  rw [f1] at z2
  cases z2
  obtain ⟨s2, R2⟩ := R.newF hn (nT its [v, w])
  exact ⟨_, _, zipD_at (List.getElem?_eq_getElem (show i < ds.length by omega)) (List.getElem?_eq_getElem (show i < es.length by omega)), s2, R2, .tup TP.new (.cons (e2.mono (s.trans s2)) (.cons (f2.mono (s.trans s2)) .nil))⟩
end
def wSeq (f : List Sl → Rs AV) : List Sl → Rs (List PyData) := fun δ => (sTk f δ).val fun d δ' => match seqD d with
  | some ds => .ok ds δ'
  | none => .bad
def wRng1 (f : List Sl → Rs AV) : List Sl → Rs (List PyData) := fun δ => (sTk f δ).val fun d δ' => match d with
  | .int n => if -(2 ^ 62) ≤ n ∧ n < 2 ^ 62 then .ok (rangeD 0 n.toNat) δ' else .bad
  | _ => .bad
def wRng2 (f g : List Sl → Rs AV) : List Sl → Rs (List PyData) := fun δ => (sTk f δ).val fun d δ1 => (sTk g δ1).val fun e δ2 => match d, e with
  | .int i, .int j => if -(2 ^ 62) ≤ i ∧ i < 2 ^ 62 ∧ -(2 ^ 62) ≤ j ∧ j < 2 ^ 62 then .ok (rangeD i (j - i).toNat) δ2 else .bad
  | _, _ => .bad
def wZip (f g : List Sl → Rs AV) : List Sl → Rs (List PyData) := fun δ => (sTk f δ).val fun d δ1 => (sTk g δ1).val fun e δ2 => match d, e with
  | .list ds, .list es => .ok (zipD ds es) δ2
  | .tuple ds, .tuple es => .ok (zipD ds es) δ2
  | _, _ => .bad
section
variable {X : Cx} {W : WX} {pin : List Nat} {f g : List Sl → Rs AV} {e c tg : Expr} {p pos tpos : Pos} {elts : List Expr} {kk : Nat}
theorem si_seq (h : SE X W pin e f) : SI X W pin tg e (wSeq f) := pi_mono (pi_or (pi_list (se_tk h)) (pi_tup (se_tk h))) fun σ H R ⟨b, Fz, F, δ, hp, Rr, P⟩ => by
  have P0 := P
  unfold wSeq at P
  cases q : sTk f δ with
  | bad => rw [q] at P; exact P.elim
  | er x δ' =>
    rw [q] at P
    exact .inl ⟨b, Fz, F, δ, hp, Rr, by rw [q]; exact P⟩
  | ok a δ' =>
    rw [q] at P
    cases a with
    | tmp t => exact P.elim
    | ref i => exact P.elim
    | val d =>
      cases d with
      | list ds =>
        refine .inl ⟨b, Fz, F, δ, hp, Rr, ?_⟩
        rw [q]
        intro v H' Fz' F' s R' A
        cases (show Rp X.K Fz' v (.list ds) from A) with
        | lst h1 h2 => exact ⟨_, rfl, ⟨_, (same_sqX R'.le h1).sq⟩, P (Itl X.K _) H' Fz' F' s R' (wk_list h1 h2)⟩
      | tuple ds =>
        refine .inr ⟨b, Fz, F, δ, hp, Rr, ?_⟩
        rw [q]
        intro v H' Fz' F' s R' A
        cases (show Rp X.K Fz' v (.tuple ds) from A) with
        | tup h1 h2 => exact ⟨_, rfl, ⟨_, (h1.mono R'.le).sq⟩, P (Itt X.K _) H' Fz' F' s R' (wk_tup ((TP.sq h1)) h2)⟩
      | _ => exact P.elim
theorem si_rng1 (hg : Gl X "range") (hm : X.mg "range" = none) (h : SE X W pin e f) (hs : starEach [e] X.env = [(false, eval e X.env)] := by rfl) : SI X W pin tg (.Call (.Name "range" p) [e] [] pos) (wRng1 f) :=
  pi_mono (pi_range1 hg hm (pa_cons (se_tk h) pa_nil hs) hs) fun σ H R ⟨b, Fz, F, δ, hp, Rr, P⟩ => by
    refine rd_valI hp Rr P fun v H' Fz' F' d δ' s R' A P' => ?_
    cases d with
    | int n =>
      cases A
      have P' : PostI X.K X.mg W b Fz' σ R (if -(2 ^ 62) ≤ n ∧ n < 2 ^ 62 then .ok (rangeD 0 n.toNat) δ' else .bad) := P'
      by_cases c : -(2 ^ 62) ≤ n ∧ n < 2 ^ 62
      · rw [if_pos c] at P'
        exact ⟨n, rfl, c.1, c.2, P' _ H' Fz' F' (Same.refl _) R' (wk_range 0 n.toNat)⟩
      · rw [if_neg c] at P'
        exact P'.elim
    | _ => exact P'.elim
theorem si_rng2 (hg : Gl X "range") (hm : X.mg "range" = none) (h : SE X W pin e f) (h2 : SE X W pin c g) (hs : starEach [e, c] X.env = [(false, eval e X.env), (false, eval c X.env)] := by rfl) (hs2 : starEach [c] X.env = [(false, eval c X.env)] := by rfl) : SI X W pin tg (.Call (.Name "range" p) [e, c] [] pos) (wRng2 f g) :=
  pi_mono (pi_range2 hg hm (pa_cons (se_tk h) (pa_cons (se_tk h2) pa_nil hs2) (by rw [hs, hs2])) hs hs2) fun σ H R ⟨b, Fz, F, δ, hp, Rr, P⟩ => by
    refine rd_valI hp Rr P fun v H1 Fz1 F1 d δ1 s1 R1 A1 P1 => ?_
    refine rd_valI hp R1 P1 fun w H2 Fz2 F2 e δ2 s2 R2 A2 P2 => ?_
    cases d with
    | int i =>
      cases e with
      | int j =>
        cases A1
        cases A2
        have P2 : PostI X.K X.mg W b Fz2 σ R (if -(2 ^ 62) ≤ i ∧ i < 2 ^ 62 ∧ -(2 ^ 62) ≤ j ∧ j < 2 ^ 62 then .ok (rangeD i (j - i).toNat) δ2 else .bad) := P2
        by_cases c : -(2 ^ 62) ≤ i ∧ i < 2 ^ 62 ∧ -(2 ^ 62) ≤ j ∧ j < 2 ^ 62
        · rw [if_pos c] at P2
          exact ⟨i, j, rfl, c, P2 _ H2 Fz2 F2 (Same.refl _) R2 (wk_range i (j - i).toNat)⟩
        · rw [if_neg c] at P2
          exact P2.elim
      | _ => exact P2.elim
    | _ => exact P2.elim
theorem si_zip (hg : Gl X "zip") (hm : X.mg "zip" = none) (h : SE X W pin e f) (h2 : SE X W pin c g) (hs : starEach [e, c] X.env = (false, eval e X.env) :: starEach [c] X.env := by rfl) (hs2 : starEach [c] X.env = (false, eval c X.env) :: starEach [] X.env := by rfl) (hpl : (backTo pos (starEach [c] X.env)).any (·.1) = false := by rfl) :
    SI X W pin (.Tuple elts kk tpos) (.Call (.Name "zip" p) [e, c] [] pos) (wZip f g) :=
  pi_mono (pi_zipP hg hm (pa_cons (se_tk h) (pa_cons (se_tk h2) pa_nil hs2) hs) hs hpl) fun σ H R ⟨b, Fz, F, δ, hp, Rr, P⟩ => by
    refine rd_valI hp Rr P fun v H1 Fz1 F1 d δ1 s1 R1 A1 P1 => ?_
    refine rd_valI hp R1 P1 fun w H2 Fz2 F2 e δ2 s2 R2 A2 P2 => ?_
    cases d with
    | list ds =>
      cases e with
      | list es =>
        cases A1.mono s2 with
        | lst h1 h2 =>
          cases A2 with
          | lst h3 h4 => exact ⟨_, _, _, _, rfl, .inl ⟨(same_sqX R2.le h1).sq, (same_sqX R2.le h3).sq, P2 _ H2 Fz2 F2 (Same.refl _) R2 (wk_zip h1 h2 h3 h4)⟩⟩
      | _ => exact P2.elim
    | tuple ds =>
      cases e with
      | tuple es =>
        cases A1.mono s2 with
        | tup h1 h2 =>
          cases A2 with
          | tup h3 h4 => exact ⟨_, _, _, _, rfl, .inr ⟨(h1.mono R2.le).sq, (h3.mono R2.le).sq, P2 _ H2 Fz2 F2 (Same.refl _) R2 (wk_zipT ((TP.sq h1)) h2 ((TP.sq h3)) h4)⟩⟩
      | _ => exact P2.elim
    | _ => exact P2.elim
end
def forL (t : AV → List Sl → Rs Unit) (f : List Sl → Ot) : List PyData → List Sl → Ot
  | [], δ => .nx δ
  | d :: r, δ => match t (.val d) δ with
    | .ok _ δ1 => (match f δ1 with
      | .nx δ2 => forL t f r δ2
      | .ct δ2 => forL t f r δ2
      | .bk δ2 => .nx δ2
      | o => o)
    | .er x δ1 => .er x δ1
    | .bad => .bad
def oFor (w : List Sl → Rs (List PyData)) (t : AV → List Sl → Rs Unit) (f : List Sl → Ot) : List Sl → Ot := fun δ => (w δ).ot fun ds δ' => forL t f ds δ'
theorem ss_for {X : Cx} {W : WX} {pin ts : List Nat} {tg iter : Expr} {body : List Stmt} {w : List Sl → Rs (List PyData)} {t : AV → List Sl → Rs Unit} {u : List Sl → Ot} {pos : Pos} (hp : PassesOwn (model X.prog X.w) X.A X.env X.xe) (hc : X.calm = true) (hi : SI X W pin tg iter w) (hg : SG X W pin ts tg t) (hb : SSs X W pin body u)
    (hs : ∀ x, foldedSetIterable iter X.env x = pure x := by intro _; rfl) : SS X W pin (.For tg iter body [] pos) (oFor w t u) := ps_mono (ps_for hp hc hi hg hb hs) fun D σ H ⟨b, Fz, F, δ, hpin, R, P⟩ => by
  unfold oFor at P
  refine ⟨b, Fz, F, δ, hpin, R, ?_⟩
  cases q : w δ with
  | bad => rw [q] at P; exact P
  | er x δ' => rw [q] at P; exact PostXS.at_ P
  | ok ds δ' =>
    rw [q] at P
    have P : PostS X.K X.mg W b Fz D (forL t u ds δ') := P
    intro J H1 Fz1 F1 s1 R1 hw
    refine ⟨fun i m σ H => m = ds.length - i ∧ i ≤ ds.length ∧ ∃ Fz F δ, Same Fz1 Fz ∧ Rl X.K b Fz F δ σ H ∧ PostS X.K X.mg W b Fz D (forL t u (ds.drop i) δ), ⟨ds.length, by simp, Nat.zero_le _, Fz1, F1, δ', Same.refl _, R1, by rw [List.drop_zero]; exact PostS.le s1 P⟩, ?_⟩
    rintro i m σ2 H2 ⟨rfl, hi, Fz2, F2, δ2, s2, R2, P2⟩
    obtain ⟨go, stop⟩ := hw b Fz2 F2 δ2 σ2 H2 s2 R2
    by_cases hlt : i < ds.length
    · obtain ⟨g1, g2⟩ := go i hlt
      refine .inr ⟨g1, fun σ H => ∃ Fz F δ, Same Fz1 Fz ∧ Rl X.K b Fz F δ σ H ∧ PostS X.K X.mg W b Fz D (forL t u (ds.drop (i + 1)) δ), fun σ3 H3 h3 => ⟨ds.length - (i + 1), by omega, rfl, hlt, h3⟩, fun x H3 y => ?_⟩
      obtain ⟨Fz3, d, e1, s3, R3, r3⟩ := g2 x H3 y
      have ed : ds.drop i = d :: ds.drop (i + 1) := by
        rw [List.drop_eq_getElem_cons hlt]
        rw [List.getElem?_eq_getElem hlt] at e1
        rw [Option.some.inj e1]
      rw [ed] at P2
      unfold forL at P2
      refine ⟨b, Fz3, F2, δ2, .val d, hpin, R3, r3, ?_⟩
      cases q2 : t (.val d) δ2 with
      | bad => rw [q2] at P2; exact P2
      | er x δ3 => rw [q2] at P2; exact PostXS.le s3 P2
      | ok a δ3 =>
        simp only [q2] at P2
        intro σ4 H4 Fz4 F4 s4 R4 _
        refine ⟨b, Fz4, F4, δ3, hpin, R4, ?_⟩
        have s24 := s3.trans s4
        cases q3 : u δ3 with
        | nx δ4 =>
          simp only [q3] at P2
          exact fun σ5 H5 Fz5 F5 s5 R5 => ⟨Fz5, F5, δ4, (s2.trans s24).trans s5, R5, PostS.le (s24.trans s5) P2⟩
        | ct δ4 =>
          simp only [q3] at P2
          exact fun σ5 H5 Fz5 F5 s5 R5 => ⟨Fz5, F5, δ4, (s2.trans s24).trans s5, R5, PostS.le (s24.trans s5) P2⟩
        | bk δ4 => simp only [q3] at P2; exact PostS.le s24 P2
        | rt s δ4 => simp only [q3] at P2; exact PostS.le (r := .rt s δ4) s24 P2
        | er x δ4 => simp only [q3] at P2; exact PostS.le (r := .er x δ4) s24 P2
        | bad => simp only [q3] at P2; exact P2
    · have e : i = ds.length := by omega
      subst e
      rw [List.drop_length] at P2
      exact .inl ⟨stop, P2 σ2 H2 Fz2 F2 (Same.refl _) R2⟩
end Hb
namespace Hb
open PySem PySem.Spec PyProof.Rows L2
abbrev gd (b : Bk) (H : Hp) (g : List Addr) : Bk := ⟨Hb.addF b.B H g, b.F0, b.pin, b.so, b.T⟩
section
variable {K : PySem.W.Frag} {b : Bk} {Fz : Hp} {F : Nat → List Addr} {δ : List Sl} {σ : L2.St} {H : Hp}
theorem Rl.guard (R : Rl K b Fz F δ σ H) {g : List Addr} (hg : ∀ a ∈ g, Fz a = none ∧ b.B a = none ∧ ∀ k, a ∉ F k) (hp : ∀ a ∈ g, Pl (H a)) : Rl K (gd b H g) Fz F δ σ H where
  le := R.le
  base := addF_le R.base
  len := R.len
  slot := R.slot
  nd := R.nd
  dj := R.dj
  offF := R.offF
  offB := fun i a ha => by
    show Hb.addF b.B H g a = none
    rw [addF_out (fun z => (hg a z).2.2 i ha)]
    exact R.offB i a ha
  on := R.on
  keep := fun a ha => by
    have ha : Hb.addF b.B H g a ≠ none := ha
    show Fz a = b.F0 a ∨ ((∃ xs, TP (Hb.addF b.B H g) a xs) ∧ Fz a = Hb.addF b.B H g a)
    by_cases q : a ∈ g
    · left
      rw [(hg a q).1]
      cases e : b.F0 a with
      | none => rfl
      | some o => exact absurd (hg a q).2.1 (R.f0 a (by rw [e]; simp))
    · rw [addF_out q] at ha ⊢
      rcases R.keep a ha with z | ⟨⟨xs, its, z⟩, z2⟩
      · exact .inl z
      · exact .inr ⟨⟨xs, its, (addF_out q).trans z⟩, z2⟩
  f0 := fun a ha => by
    have h := R.f0 a ha
    show Hb.addF b.B H g a ≠ none
    rw [addF_out fun z => h (hg a z).2.1]
    exact h
  pin := R.pin
  als := R.als
  noT := R.noT
  tb := R.tb
  tp := R.tp
theorem Rl.guarded {H' Fz' : Hp} {F' : Nat → List Addr} {δ' : List Sl} {σ' : L2.St} {g : List Addr} (R : Rl K (gd b H g) Fz' F' δ' σ' H') (hB : ∀ a ∈ g, b.B a = none) (f0 : ∀ a, b.F0 a ≠ none → b.B a ≠ none) (hH : ∀ a ∈ g, H a ≠ none) (hT : ∀ a ∈ g, Pl (H a)) :
    ∀ a ∈ g, H' a = H a ∧ Fz' a = none ∧ ∀ k, a ∉ F' k := fun a ha => by
  have e : (gd b H g).B a = H a := addF_in ha
  have n : (gd b H g).B a ≠ none := by rw [e]; exact hH a ha
  refine ⟨?_, ?_, fun k hk => n (R.offB k a hk)⟩
  · cases q : H a with
    | none => exact absurd q (hH a ha)
    | some o => exact R.base a o (e.trans q)
  · rcases R.keep a n with k | ⟨⟨xs, k⟩, _⟩
    · rw [k]
      cases q : b.F0 a with
      | none => rfl
      | some o => exact absurd (hB a ha) (f0 a (by rw [q]; simp))
    · obtain ⟨its, k⟩ := k
      exact (hT a ha _ _ (e.symm.trans k)).elim
theorem Rl.unguard {H' : Hp} {g : List Addr} (R : Rl K (gd b H g) Fz F δ σ H') (hB : ∀ a ∈ g, b.B a = none) (f0 : ∀ a, b.F0 a ≠ none → b.B a ≠ none) : Rl K b Fz F δ σ H' where
  le := R.le
  base := fun a o e => R.base a o (by
    show Hb.addF b.B H g a = some o
    rw [addF_out fun z => by rw [hB a z] at e; cases e]
    exact e)
  len := R.len
  slot := R.slot
  nd := R.nd
  dj := R.dj
  offF := R.offF
  offB := fun i a ha => by
    have h : Hb.addF b.B H g a = none := R.offB i a ha
    by_cases q : a ∈ g
    · exact hB a q
    · rw [addF_out q] at h
      exact h
  on := R.on
  keep := fun a ha => by
    have eb : (gd b H g).B a = b.B a := addF_out fun z => ha (hB a z)
    have h := R.keep a (by rw [eb]; exact ha)
    rw [eb] at h
    rcases h with z | ⟨⟨xs, its, z⟩, z2⟩
    · exact .inl z
    · exact .inr ⟨⟨xs, its, eb.symm.trans z⟩, z2⟩
  f0 := f0
  pin := R.pin
  als := R.als
  noT := R.noT
  tb := R.tb
  tp := R.tp
/-- what nobody here knows of changes -/
theorem Rl.other (R : Rl K b Fz F δ σ H) {D : Addr} {o : HO} (h1 : Fz D = none) (h2 : b.B D = none) (h3 : ∀ k, D ∉ F k) (h4 : Pl (H D)) : Rl K b Fz F δ σ (upd H D o) where
  le := fun a x e => by
    rw [upd_ne fun z => by rw [z, h1] at e; cases e]
    exact R.le a x e
  base := fun a x e => by
    rw [upd_ne fun z => by rw [z, h2] at e; cases e]
    exact R.base a x e
  len := R.len
  slot := fun i s e => (R.slot i s e).keeps (Same.refl _) (fun a ha => upd_ne fun z => h3 i (by rw [← z]; exact ha)) fun x j ej a ha => upd_ne fun z => by
    subst ej
    subst z
    obtain ⟨xs, hx⟩ := R.als i x j e
    obtain ⟨l, vs, g, p1, p2, _⟩ := R.slot x _ hx
    rw [ha] at p1
    cases p1
    exact h3 x (by rw [p2]; exact List.mem_cons_self)
  nd := R.nd
  dj := R.dj
  offF := R.offF
  offB := R.offB
  on := fun i a ha => by
    rw [upd_ne fun z => h3 i (by rw [← z]; exact ha)]
    exact R.on i a ha
  keep := R.keep
  f0 := R.f0
  pin := R.pin
  als := R.als
  noT := fun i a ha => by
    rw [upd_ne fun z => h3 i (by rw [← z]; exact ha)]
    exact R.noT i a ha
  tb := R.tb.upd (.inr h4)
  tp := R.tp
def plainS : Option Sl → Bool
  | some .no => true
  | some (.fz _) => true
  | _ => false
def okW (vs : List Nat) (δ : List Sl) : Bool := vs.all fun v => plainS δ[v]?
def wipeD (vs : List Nat) (δ : List Sl) : List Sl := vs.foldr (fun v δ => δ.set v .no) δ
def unw (vs : List Nat) (δ δ' : List Sl) : List Sl := vs.foldr (fun v δ' => upS v (δ[v]?.getD .no) δ') δ'
theorem Rl.wipe1 (R : Rl K b Fz F δ σ H) {v : Nat} (hv : plainS δ[v]? = true) (hp : v ∉ b.pin) : Rl K b Fz F (δ.set v .no) (σ.set v none) H := by
  have hF : F v = [] := by
    cases q : δ[v]? with
    | none => rw [q] at hv; cases hv
    | some s =>
      have h := R.slot v s q
      rw [q] at hv
      cases s with
      | no => exact h
      | fz d => exact h.1
      | _ => cases hv
  have hx : ∀ (x : Nat) xs, δ[x]? = some (.ol xs) → x ≠ v := fun x xs e z => by
    rw [z] at e
    rw [e] at hv
    cases hv
  refine ⟨R.le, R.base, by rw [List.length_set, List.length_set]; exact R.len, fun i s e => ?_, R.nd, R.dj, R.offF, R.offB, R.on, R.keep, R.f0, fun i hi => ?_, fun i x j e => ?_, R.noT, R.tb, R.tp⟩
  · by_cases q : i = v
    · subst q
      have hl : i < δ.length := by
        have := (List.getElem?_eq_some_iff.mp e).1
        rwa [List.length_set] at this
      rw [List.getElem?_set_self hl] at e
      cases e
      exact hF
    · rw [List.getElem?_set_ne (Ne.symm q)] at e
      have h := R.slot i s e
      rw [List.getElem?_set_ne (Ne.symm q)]
      cases s with
      | al x j =>
        obtain ⟨h0, a, c, ws, h1, h2⟩ := h
        obtain ⟨xs, e2⟩ := R.als i x j e
        exact ⟨h0, a, c, ws, by rw [List.getElem?_set_ne (Ne.symm (hx x xs e2))]; exact h1, h2⟩
      | no => exact h
      | fz d => exact h
      | ol xs => exact h
      | od kvs => exact h
      | ex e => exact h
  · rw [List.getElem?_set_ne fun z => hp (by rw [z]; exact hi)]
    exact R.pin i hi
  · by_cases q : i = v
    · subst q
      have hl : i < δ.length := by
        have := (List.getElem?_eq_some_iff.mp e).1
        rwa [List.length_set] at this
      rw [List.getElem?_set_self hl] at e
      cases e
    · rw [List.getElem?_set_ne (Ne.symm q)] at e
      obtain ⟨xs, e2⟩ := R.als i x j e
      exact ⟨xs, by rw [List.getElem?_set_ne (Ne.symm (hx x xs e2))]; exact e2⟩
theorem plain_wipe {v : Nat} {δ : List Sl} (h : plainS δ[v]? = true) : ∀ vs : List Nat, plainS (wipeD vs δ)[v]? = true
  | [] => h
  | w :: vs => by
    show plainS ((wipeD vs δ).set w .no)[v]? = true
    have ih := plain_wipe h vs
    by_cases e : v = w
    · subst e
      by_cases hl : v < (wipeD vs δ).length
      · rw [List.getElem?_set_self hl]; rfl
      · rw [List.getElem?_eq_none (by omega)] at ih
        cases ih
    · rw [List.getElem?_set_ne (Ne.symm e)]
      exact ih
theorem Rl.wipe (R : Rl K b Fz F δ σ H) : ∀ {vs : List Nat}, okW vs δ = true → (∀ v ∈ vs, v ∉ b.pin) → Rl K b Fz F (wipeD vs δ) (L2.wipe σ vs) H
  | [], _, _ => R
  | v :: vs, h, hp => by
    have h' : plainS δ[v]? = true ∧ okW vs δ = true := by
      unfold okW at h ⊢
      rwa [List.all_cons, Bool.and_eq_true] at h
    exact (R.wipe h'.2 fun w hw => hp w (List.mem_cons_of_mem _ hw)).wipe1 (plain_wipe h'.1 vs) (hp v List.mem_cons_self)
theorem wipe_get {σ : L2.St} {k : Nat} : ∀ {vs : List Nat}, k ∉ vs → (L2.wipe σ vs)[k]? = σ[k]?
  | [], _ => rfl
  | v :: vs, h => by
    unfold L2.wipe
    rw [List.getElem?_set_ne fun z => h (by rw [z]; exact List.mem_cons_self)]
    exact wipe_get fun z => h (List.mem_cons_of_mem _ z)
theorem wipe_in {σ : L2.St} {k : Nat} : ∀ {vs : List Nat}, k ∈ vs → k < σ.length → (L2.wipe σ vs)[k]? = some none
  | v :: vs, h, hl => by
    unfold L2.wipe
    by_cases e : k = v
    · subst e
      rw [List.getElem?_set_self (by rw [L2.wipe_length]; exact hl)]
    · rw [List.getElem?_set_ne (Ne.symm e)]
      exact wipe_in ((List.mem_cons.mp h).resolve_left e) hl
theorem wipe_eq {σ σ2 : L2.St} {vs : List Nat} (hl : σ2.length = σ.length) (h : ∀ k, k ∉ vs → σ2[k]? = σ[k]?) : L2.wipe σ2 vs = L2.wipe σ vs := by
  refine List.ext_getElem? fun k => ?_
  by_cases q : k ∈ vs
  · by_cases hk : k < σ.length
    · rw [wipe_in q hk, wipe_in q (by rw [hl]; exact hk)]
    · rw [List.getElem?_eq_none (by rw [L2.wipe_length]; omega), List.getElem?_eq_none (by rw [L2.wipe_length]; omega)]
  · rw [wipe_get q, wipe_get q]
    exact h k q
def rst (vs : List Nat) (σ σ2 : L2.St) : L2.St := vs.foldr (fun v τ => τ.set v (σ[v]?.join)) σ2
theorem rst_len (vs : List Nat) (σ σ2 : L2.St) : (rst vs σ σ2).length = σ2.length := by
  induction vs with
  | nil => rfl
  | cons v vs ih =>
    show ((rst vs σ σ2).set v _).length = _
    rw [List.length_set, ih]
theorem rst_eq {vs : List Nat} {σ σ2 : L2.St} (hl : σ2.length = σ.length) (h : ∀ k, k ∉ vs → σ2[k]? = σ[k]?) : rst vs σ σ2 = σ := by
  have key : ∀ ws : List Nat, ∀ k, (k ∈ ws → (rst ws σ σ2)[k]? = σ[k]?) ∧ (k ∉ ws → (rst ws σ σ2)[k]? = σ2[k]?) := by
    intro ws
    induction ws with
    | nil => exact fun k => ⟨(fun z => nomatch z), fun _ => rfl⟩
    | cons v ws ih =>
      intro k
      have e : rst (v :: ws) σ σ2 = (rst ws σ σ2).set v (σ[v]?.join) := rfl
      rw [e]
      by_cases q : k = v
      · subst q
        refine ⟨fun _ => ?_, fun z => absurd List.mem_cons_self z⟩
        by_cases hk : k < σ.length
        · rw [List.getElem?_set_self (by rw [rst_len]; omega), List.getElem?_eq_getElem hk]
          rfl
        · rw [List.getElem?_eq_none (by rw [List.length_set, rst_len]; omega), List.getElem?_eq_none (by omega)]
      · rw [List.getElem?_set_ne (Ne.symm q)]
        exact ⟨fun z => (ih k).1 ((List.mem_cons.mp z).resolve_left q), fun z => (ih k).2 fun y => z (List.mem_cons_of_mem _ y)⟩
  refine List.ext_getElem? fun k => ?_
  by_cases q : k ∈ vs
  · exact (key vs k).1 q
  · rw [(key vs k).2 q]
    exact h k q
/-- the outer slots come back -/
theorem Rl.unwipe {δ' : List Sl} {σ2 : L2.St} (R2 : Rl K b Fz F δ' σ2 H) (hl : σ2.length = σ.length) : ∀ {vs : List Nat}, (∀ v ∈ vs, v ∉ b.pin) → (∀ v ∈ vs, ∀ s, δ[v]? = some s → SlH K Fz H [] [] (σ[v]?.join) s ∧ (∀ x j, s ≠ .al x j)) →
    ∃ F', Rl K b Fz F' (unw vs δ δ') (rst vs σ σ2) H ∧ ∀ k a, a ∈ F' k → a ∈ F k
  | [], _, _ => ⟨F, R2, fun _ _ h => h⟩
  | v :: vs, hp, hs => by
    obtain ⟨F1, R1, h1⟩ := Rl.unwipe R2 hl (vs := vs) (fun w hw => hp w (List.mem_cons_of_mem _ hw)) fun w hw => hs w (List.mem_cons_of_mem _ hw)
    have e1 : rst (v :: vs) σ σ2 = (rst vs σ σ2).set v (σ[v]?.join) := rfl
    have e2 : unw (v :: vs) δ δ' = upS v (δ[v]?.getD .no) (unw vs δ δ') := rfl
    rw [e1, e2]
    refine ⟨fun k => if k = v then [] else F1 k, R1.put (Same.refl _) R1.le R1.base List.length_set (fun k hk => List.getElem?_set_ne (Ne.symm hk)) (.inr (hp v List.mem_cons_self)) (fun hlt => ?_) (fun x j z => ?_) List.nodup_nil (fun _ z => nomatch z) (fun _ z => nomatch z) (fun _ z => nomatch z) (fun _ z => nomatch z) (fun _ _ _ _ => rfl) (fun k _ a ha => R1.offF k a ha) (fun _ _ => rfl), fun k a ha => ?_⟩
    · rw [List.getElem?_set_self (by rw [R1.len]; exact hlt)]
      cases q : δ[v]? with
      | none => exact rfl
      | some s =>
        obtain ⟨g1, g2⟩ := hs v List.mem_cons_self s q
        cases s with
        | al x j => exact absurd rfl (g2 x j)
        | no => exact g1
        | fz d => exact g1
        | ol xs => exact g1
        | od kvs => exact g1
        | ex e => exact g1
    · cases q : δ[v]? with
      | none => rw [q] at z; cases z
      | some s =>
        rw [q] at z
        exact absurd z ((hs v List.mem_cons_self s q).2 x j)
    · have ha : a ∈ (if k = v then [] else F1 k) := ha
      by_cases q : k = v
      · rw [if_pos q] at ha; cases ha
      · rw [if_neg q] at ha
        exact h1 k a ha
end
abbrev W0 : WX := fun _ _ _ _ => False
/-- an item for the list: a tree, or (w) a list of its own -/
def elOf (w : Bool) : AV → Option El
  | .val d => some (.fz d)
  | .tmp (.ol xs) => if w = true then (allFz xs).map .ow else none
  | _ => none
def lcL (w : Bool) (vs : List Nat) (t : AV → List Sl → Rs Unit) (tt : List Sl → Rs Bool) (f : List Sl → Rs AV) : List PyData → List El → List Sl → Rs (List El)
  | [], es, δ => .ok es δ
  | d :: r, es, δ => if okW vs δ = true then (match t (.val d) (wipeD vs δ) with
    | .ok _ δ1 => (match tt δ1 with
      | .ok k δ2 => if k = true then (match f δ2 with
        | .ok a δ3 => (match elOf w a with
          | some e => if es.length ≤ cap then lcL w vs t tt f r (es ++ [e]) (unw vs δ δ3) else .bad
          | none => .bad)
        | _ => .bad) else lcL w vs t tt f r es (unw vs δ δ2)
      | _ => .bad)
    | _ => .bad) else .bad
def sLc (w : Bool) (wi : List Sl → Rs (List PyData)) (vs : List Nat) (t : AV → List Sl → Rs Unit) (tt : List Sl → Rs Bool) (f : List Sl → Rs AV) : List Sl → Rs AV := fun δ => (wi δ).bind fun ds δ1 => (lcL w vs t tt f ds [] δ1).bind fun es δ2 => .ok (.tmp (.ol es)) δ2
def tOk : List Sl → Rs Bool := fun δ => .ok true δ
theorem elOf_ok {K : PySem.W.Frag} {b : Bk} {Fz : Hp} {F : Nat → List Addr} {σ : L2.St} {H : Hp} {w : Bool} {a : AV} {e : El} {y : V} (A : AvR K b Fz F H σ y a) (h : elOf w a = some e) :
    ∃ g, ElR K Fz H g y e ∧ g.Nodup ∧ ∀ a ∈ g, Fz a = none ∧ b.B a = none ∧ H a ≠ none ∧ ∀ i, a ∉ F i := by
  cases a with
  | val d => cases h; exact ⟨[], ⟨rfl, A⟩, List.nodup_nil, fun _ z => nomatch z⟩
  | ref i => cases h
  | tmp s =>
    cases s with
    | ol xs =>
      unfold elOf at h
      by_cases c : w = true
      · simp only [if_pos c] at h
        cases q : allFz xs with
        | none => rw [q] at h; cases h
        | some ds =>
          rw [q] at h
          cases h
          obtain ⟨_, g, ⟨l, vs, g', e1, e2, e3, e4⟩, hn, hg⟩ := A
          cases e1
          have rp := e4.allFz q
          refine ⟨[l], ⟨l, vs, rfl, rfl, e3, rp⟩, by simp, fun c hc => hg c ?_⟩
          rw [List.mem_singleton] at hc
          rw [hc, e2]
          exact List.mem_cons_self
      · simp only [if_neg c] at h
        cases h
    | _ => cases h
theorem lc_ok {K : PySem.W.Frag} {mg : Str → Option Value} {W : WX} {pin ts vs : List Nat} {w : Bool} {wi : List Sl → Rs (List PyData)} {t : AV → List Sl → Rs Unit} {tt : List Sl → Rs Bool} {f : List Sl → Rs AV} {tT : TT} (hv : ∀ v ∈ vs, v ∉ pin) (hts : ∀ v ∈ ts, v ∈ vs) (hT : ∀ σ H Q, rdT K mg W0 pin tt σ H Q → tT σ H Q) :
    ∀ σ H Q, rdE K mg W pin (sLc w wi vs t tt f) σ H Q → tLc (rdI K mg W pin wi) (rdG K mg W0 pin ts t) tT (rdE K mg W0 pin f) vs σ H Q := fun σ H Q ⟨b, Fz, F, δ, hpin, R, P⟩ => by
  refine ⟨b, Fz, F, δ, hpin, R, ?_⟩
  unfold sLc at P
  cases q : wi δ with
  | bad => rw [q] at P; exact P
  | er x δ' => rw [q] at P; exact P
  | ok ds δ1 =>
    rw [q] at P
    have P : Post K mg W b Fz σ Q ((lcL w vs t tt f ds [] δ1).bind fun es δ2 => .ok (.tmp (.ol es)) δ2) := P
    intro J H1 Fz1 F1 s1 R1 hw D hD
    obtain ⟨d1, d2, d3⟩ := R1.offN hD
    refine ⟨fun i m H => m = ds.length - i ∧ i ≤ ds.length ∧ ∃ Fz F δ acc es g, Same Fz1 Fz ∧ Rl K b Fz F δ σ H ∧ H D = some (.lst acc) ∧ ElL K Fz H g acc es ∧ (D :: g).Nodup ∧ (∀ a ∈ D :: g, Fz a = none ∧ b.B a = none ∧ H a ≠ none ∧ ∀ k, a ∉ F k) ∧ Post K mg W b Fz σ Q ((lcL w vs t tt f (ds.drop i) es δ).bind fun es δ2 => .ok (.tmp (.ol es)) δ2),
      ⟨ds.length, by simp, Nat.zero_le _, Fz1, F1, δ1, [], [], [], Same.refl _, R1.new hD _, upd_same, .nil, by simp, fun a ha => ?_, by rw [List.drop_zero]; exact P.le s1⟩, ?_⟩
    · rw [List.mem_singleton] at ha
      subst ha
      exact ⟨d1, d2, by rw [upd_same]; simp, d3⟩
    rintro i m H2 ⟨rfl, hi, Fz2, F2, δ2, acc, es, g, s2, R2, hacc, hes, hnd, hg, P2⟩
    have gB : ∀ a ∈ D :: g, b.B a = none := fun a ha => (hg a ha).2.1
    have gH : ∀ a ∈ D :: g, H2 a ≠ none := fun a ha => (hg a ha).2.2.1
    have gT : ∀ a ∈ D :: g, Pl (H2 a) := fun a ha => by
      rcases List.mem_cons.mp ha with z | z
      · rw [z, hacc]; exact .lst
      · exact hes.noT a z
    have Rg := R2.guard (g := D :: g) (fun a ha => ⟨(hg a ha).1, (hg a ha).2.1, (hg a ha).2.2.2⟩) gT
    obtain ⟨go, stop⟩ := hw _ Fz2 F2 δ2 σ H2 s2 Rg
    by_cases hlt : i < ds.length
    · obtain ⟨g1, g2⟩ := go i hlt
      refine .inr ⟨g1, fun H => ∃ Fz F δ acc es g, Same Fz1 Fz ∧ Rl K b Fz F δ σ H ∧ H D = some (.lst acc) ∧ ElL K Fz H g acc es ∧ (D :: g).Nodup ∧ (∀ a ∈ D :: g, Fz a = none ∧ b.B a = none ∧ H a ≠ none ∧ ∀ k, a ∉ F k) ∧ Post K mg W b Fz σ Q ((lcL w vs t tt f (ds.drop (i + 1)) es δ).bind fun es δ2 => .ok (.tmp (.ol es)) δ2),
        fun H3 h3 => ⟨ds.length - (i + 1), by omega, rfl, hlt, h3⟩, fun x H3 y => ?_⟩
      obtain ⟨Fz3, d, e1, s3, R3, r3⟩ := g2 x H3 y
      have ed : ds.drop i = d :: ds.drop (i + 1) := by
        rw [List.drop_eq_getElem_cons hlt]
        rw [List.getElem?_eq_getElem hlt] at e1
        rw [Option.some.inj e1]
      rw [ed] at P2
      unfold lcL at P2
      by_cases cw : okW vs δ2 = true
      · rw [if_pos cw] at P2
        have hvb : ∀ v ∈ vs, v ∉ b.pin := by rw [hpin]; exact hv
        have R4 := R3.wipe cw hvb
        -- how it ends for a state behind the turn
        have back : ∀ {δ5 : List Sl} {σ5 : L2.St} {H5 Fz5 : Hp} {F5 : Nat → List Addr}, Same Fz2 Fz5 → Rl K (gd b H2 (D :: g)) Fz5 F5 δ5 σ5 H5 → σ5.length = σ.length → (∀ k, k ∉ vs → σ5[k]? = σ[k]?) → ∃ F6, Rl K b Fz5 F6 (unw vs δ2 δ5) σ H5 ∧ ∀ k a, a ∈ F6 k → a ∈ F5 k := by
          intro δ5 σ5 H5 Fz5 F5 s25 R5 hl5 fr5
          have R6 := R5.unguard gB R2.f0
          obtain ⟨F6, R7, h7⟩ := Rl.unwipe (σ := σ) (δ := δ2) R6 hl5 (vs := vs) hvb fun v hvv s hs => by
            have h0 := R2.slot v s hs
            have hpl : plainS δ2[v]? = true := by
              unfold okW at cw
              exact List.all_eq_true.mp cw v hvv
            rw [hs] at hpl
            cases s with
            | no => exact ⟨rfl, fun x j z => nomatch z⟩
            | fz d' =>
              obtain ⟨_, v', k1, k2⟩ := h0
              exact ⟨⟨rfl, v', k1, k2.mono s25⟩, fun x j z => nomatch z⟩
            | _ => cases hpl
          rw [rst_eq hl5 fr5] at R7
          exact ⟨F6, R7, h7⟩
        have fits : ∀ {δ5 : List Sl} {σ5 : L2.St} {H5 Fz5 : Hp} {F5 : Nat → List Addr}, Rl K (gd b H2 (D :: g)) Fz5 F5 δ5 σ5 H5 → ∀ a ∈ D :: g, H5 a = H2 a ∧ Fz5 a = none ∧ ∀ k, a ∉ F5 k := fun R5 => R5.guarded gB R2.f0 gH gT
        refine ⟨gd b H2 (D :: g), Fz3, F2, wipeD vs δ2, .val d, hpin, R4, r3, ?_⟩
        cases q2 : t (.val d) (wipeD vs δ2) with
        | bad => simp only [q2] at P2; exact P2
        | er x δ3 => simp only [q2] at P2; exact P2.elim
        | ok u δ3 =>
          simp only [q2] at P2
          intro σ4 H4 Fz4 F4 s4 R5 fr
          have hl4 : σ4.length = σ.length := by rw [fr.1, L2.wipe_length]
          have fr4 : ∀ k, k ∉ vs → σ4[k]? = σ[k]? := fun k hk => (fr.2 k fun z => hk (hts k z)).trans (wipe_get hk)
          refine ⟨wipe_eq hl4 fr4, ?_⟩
          have s24 : Same Fz2 Fz4 := s3.trans s4
          refine hT _ _ _ ⟨gd b H2 (D :: g), Fz4, F4, δ3, hpin, R5, ?_⟩
          cases q3 : tt δ3 with
          | bad => simp only [q3] at P2; exact P2.elim
          | er x δ4 => simp only [q3] at P2; exact P2.elim
          | ok k δ4 =>
            simp only [q3] at P2
            intro H5 Fz5 F5 s5 R6
            by_cases ck : k = true
            · rw [if_pos ck] at P2 ⊢
              refine ⟨gd b H2 (D :: g), Fz5, F5, δ4, hpin, R6, ?_⟩
              cases q4 : f δ4 with
              | bad => simp only [q4] at P2; exact P2.elim
              | er x δ5 => simp only [q4] at P2; exact P2.elim
              | ok a δ5 =>
                simp only [q4] at P2
                cases q5 : elOf w a with
                | none => simp only [q5] at P2; exact P2.elim
                | some e =>
                  simp only [q5] at P2
                  by_cases cl : es.length ≤ cap
                  · rw [if_pos cl] at P2
                    intro y H6 Fz6 F6 s6 R7 A
                    have s26 : Same Fz2 Fz6 := (s24.trans s5).trans s6
                    obtain ⟨ge, he, hne, hge⟩ := elOf_ok A q5
                    obtain ⟨F7, R8, h7⟩ := back s26 R7 hl4 fr4
                    have fit := fits R7
                    have fD := fit D List.mem_cons_self
                    have eD : H6 D = some (.lst acc) := fD.1.trans hacc
                    refine ⟨acc, eD, by rw [hes.len]; exact lt_line cl, ?_⟩
                    have gnot : ∀ a ∈ ge, a ∉ D :: g := fun a ha z => by
                      have h1 : (gd b H2 (D :: g)).B a = none := (hge a ha).2.1
                      have h2 : Hb.addF b.B H2 (D :: g) a = H2 a := addF_in z
                      have h3 : H2 a = none := h2.symm.trans h1
                      exact gH a z h3
                    have geB : ∀ a ∈ ge, b.B a = none := fun a ha => by
                      have h1 : Hb.addF b.B H2 (D :: g) a = none := (hge a ha).2.1
                      rwa [addF_out (gnot a ha)] at h1
                    have neD : ∀ a ∈ g, a ≠ D := fun a ha z => (List.nodup_cons.mp hnd).1 (by rw [← z]; exact ha)
                    have neD2 : ∀ a ∈ ge, a ≠ D := fun a ha z => gnot a ha (by rw [z]; exact List.mem_cons_self)
                    have R9 := R8.other (D := D) (o := .lst (acc ++ [y])) fD.2.1 (gB D List.mem_cons_self) (fun k hk => fD.2.2 k (h7 k D hk)) (by rw [fD.1.trans hacc]; exact .lst)
                    have E1 : ElL K Fz6 (upd H6 D (.lst (acc ++ [y]))) g acc es := hes.keeps s26 fun a ha => by
                      rw [upd_ne (neD a ha)]
                      exact (fit a (List.mem_cons_of_mem _ ha)).1
                    have E2 : ElL K Fz6 (upd H6 D (.lst (acc ++ [y]))) (ge ++ []) [y] [e] := .cons (he.keeps (Same.refl _) fun a ha => upd_ne (neD2 a ha)) .nil
                    rw [List.append_nil] at E2
                    refine ⟨Fz6, F7, _, acc ++ [y], es ++ [e], g ++ ge, s2.trans s26, R9, upd_same, E1.app E2, ?_, fun a ha => ?_, P2.le s26⟩
                    · rw [List.nodup_cons, List.nodup_append]
                      refine ⟨fun z => ?_, (List.nodup_cons.mp hnd).2, hne, fun a ha c hc z => ?_⟩
                      · rcases List.mem_append.mp z with z | z
                        · exact (List.nodup_cons.mp hnd).1 z
                        · exact gnot D z List.mem_cons_self
                      · subst z
                        exact gnot a hc (List.mem_cons_of_mem _ ha)
                    · have cases3 : a = D ∨ a ∈ g ∨ a ∈ ge := by
                        rcases List.mem_cons.mp ha with z | z
                        · exact .inl z
                        · exact .inr (List.mem_append.mp z)
                      rcases cases3 with z | z | z
                      · subst z
                        exact ⟨fD.2.1, gB a List.mem_cons_self, by rw [upd_same]; simp, fun k hk => fD.2.2 k (h7 k a hk)⟩
                      · have fa := fit a (List.mem_cons_of_mem _ z)
                        exact ⟨fa.2.1, gB a (List.mem_cons_of_mem _ z), by rw [upd_ne (neD a z), fa.1]; exact gH a (List.mem_cons_of_mem _ z), fun k hk => fa.2.2 k (h7 k a hk)⟩
                      · have fa := hge a z
                        exact ⟨fa.1, geB a z, by rw [upd_ne (neD2 a z)]; exact fa.2.2.1, fun k hk => fa.2.2.2 k (h7 k a hk)⟩
                  · rw [if_neg cl] at P2
                    exact P2.elim
            · rw [if_neg ck] at P2 ⊢
              have s25 : Same Fz2 Fz5 := s24.trans s5
              obtain ⟨F7, R8, h7⟩ := back s25 R6 hl4 fr4
              have fit := fits R6
              refine ⟨Fz5, F7, _, acc, es, g, s2.trans s25, R8, (fit D List.mem_cons_self).1.trans hacc, hes.keeps s25 fun a ha => (fit a (List.mem_cons_of_mem _ ha)).1, hnd, fun a ha => ?_, P2.le s25⟩
              have fa := fit a ha
              exact ⟨fa.2.1, gB a ha, by rw [fa.1]; exact gH a ha, fun k hk => fa.2.2 k (h7 k a hk)⟩
      · rw [if_neg cw] at P2
        exact P2.elim
    · have e : i = ds.length := by omega
      subst e
      rw [List.drop_length] at P2
      refine .inl ⟨stop, ?_⟩
      exact P2 (.ref D) H2 Fz2 F2 (Same.refl _) R2 ⟨rfl, D :: g, ⟨D, acc, g, rfl, rfl, hacc, hes⟩, hnd, fun a ha => hg a ha⟩
section
variable {X : Cx} {W : WX} {pin ts : List Nat} {elt tg iter : Expr} {ifs : List Expr} {scope : Scope} {own : List (Str × Nat)} {pos : Pos} {wi : List Sl → Rs (List PyData)} {t : AV → List Sl → Rs Unit} {tt : List Sl → Rs Bool} {f : List Sl → Rs AV}
/-- the block's context -/
abbrev BX (X : Cx) (scope : Scope) (s : Shared) (H : Hp) (C : Addr) (cl : List (Str × Addr)) (fp : List Addr) : Cx := X.blk s H scope (compEnvC scope cl C X.env) fp
abbrev STs (X : Cx) (pin : List Nat) (ifs : List Expr) (tt : List Sl → Rs Bool) : Prop := PTs X ifs (rdT X.K X.mg W0 pin tt)
theorem pts_mono {X : Cx} {es : List Expr} {t t' : TT} (h : PTs X es t) (i : ∀ σ H Q, t' σ H Q → t σ H Q) : PTs X es t' := ⟨fun pins s σ H Q I q => h.run pins s σ H Q I (i σ H Q q)⟩
theorem sts_nil {X : Cx} : STs X pin [] tOk := pts_mono pts_nil fun σ H Q ⟨b, Fz, F, δ, hp, R, P⟩ => P H Fz F (Same.refl _) R
theorem sts_one {X : Cx} {c : Expr} (h : ST X W0 pin c tt) : STs X pin [c] tt := pts_one h
theorem se_lc (w : Bool) (hc : X.calm = true) (hN : X.N.Nodup) (hi : SI X W pin tg iter wi) (ok : blkC X.N X.env.scope scope own = true) (hv : ∀ v ∈ own.map (·.2), v ∉ pin) (hts : ∀ v ∈ ts, v ∈ own.map (·.2))
    (hg : ∀ s H C cl fp, SG (BX X scope s H C cl fp) W0 pin ts tg t) (ht : ∀ s H C cl fp, STs (BX X scope s H C cl fp) pin ifs tt) (he : ∀ s H C cl fp, SE (BX X scope s H C cl fp) W0 pin elt f) (hs : ∀ x, foldedSetIterable iter X.env x = pure x := by intro _; rfl) :
    SE X W pin (.ListComp elt [⟨tg, iter, ifs, 0⟩] scope pos) (sLc w wi (own.map (·.2)) t tt f) :=
  pe_mono (pe_lc hc hN hi (blkOk_by ok) hg ht he hs) (lc_ok hv hts fun _ _ _ h => h)
end
end Hb
namespace Hb
open PySem PySem.Spec PyProof.Rows L2
/-- an argument: a tree that stands still; the slot k by reference; a new thing of the callee's own -/
inductive Ar where
  | fz (d : PyData) | io (k : Nat) | own (s : Sl)
def ArH (K : PySem.W.Frag) (Fz H : Hp) (σ : L2.St) (f : List Addr) (v : V) : Ar → Prop
  | .fz d => f = [] ∧ Rp K Fz v d
  | .io k => f = [] ∧ σ[k]? = some (some v)
  | .own s => s.live = true ∧ SlH K Fz H [] f (some v) s
theorem ArH.noT {K : PySem.W.Frag} {Fz H : Hp} {σ : L2.St} {f : List Addr} {v : V} {a : Ar} (h : ArH K Fz H σ f v a) : ∀ c ∈ f, Pl (H c) := fun c hc => by
  cases a with
  | fz d => rw [h.1] at hc; cases hc
  | io k => rw [h.1] at hc; cases hc
  | own s => exact h.2.noT c hc
structure ArOk (K : PySem.W.Frag) (b : Bk) (Fz : Hp) (F : Nat → List Addr) (H : Hp) (σ : L2.St) (vs : List V) (ars : List Ar) (G : Nat → List Addr) : Prop where
  len : vs.length = ars.length
  at_ : ∀ (j : Nat) (a : Ar), ars[j]? = some a → ∃ v, vs[j]? = some v ∧ ArH K Fz H σ (G j) v a
  nd : ∀ j, (G j).Nodup
  dj : ∀ i j a, a ∈ G i → a ∈ G j → i = j
  off : ∀ j a, a ∈ G j → Fz a = none ∧ b.B a = none ∧ H a ≠ none ∧ ∀ k, a ∉ F k
section
variable (K : PySem.W.Frag) (mg : Str → Option Value) (W : WX)
def PostAr (b : Bk) (Fz : Hp) (σ : L2.St) (Q : List V → Hp → Prop) : Rs (List Ar) → Prop
  | .ok ars δ => ∀ vs H' Fz' F' G, Same Fz Fz' → Rl K b Fz' F' δ σ H' → ArOk K b Fz' F' H' σ vs ars G → Q vs H'
  | .er x δ => PostX K mg W b Fz σ x δ
  | .bad => False
def rdAr (pin : List Nat) (f : List Sl → Rs (List Ar)) : TA := fun σ H Q => ∃ b Fz F δ, b.pin = pin ∧ Rl K b Fz F δ σ H ∧ PostAr K mg W b Fz σ Q (f δ)
end
abbrev SAr (X : Cx) (W : WX) (pin : List Nat) (es : List Expr) (f : List Sl → Rs (List Ar)) : Prop := PA X es (rdAr X.K X.mg W pin f)
def rNil : List Sl → Rs (List Ar) := fun δ => .ok [] δ
def arOf : AV → Option Ar
  | .val d => some (.fz d)
  | .tmp s => some (.own s)
  | .ref _ => none
/-- a value, or a new thing -/
def rCons (f : List Sl → Rs AV) (g : List Sl → Rs (List Ar)) : List Sl → Rs (List Ar) := fun δ => (f δ).bind fun a δ1 => match arOf a with
  | some r => (g δ1).bind fun rs δ2 => .ok (r :: rs) δ2
  | none => .bad
/-- a name by reference -/
def rIo (k : Nat) (g : List Sl → Rs (List Ar)) : List Sl → Rs (List Ar) := fun δ => (sVar k δ).bind fun _ δ1 => (g δ1).bind fun rs δ2 => .ok (.io k :: rs) δ2
section
variable {K : PySem.W.Frag} {mg : Str → Option Value} {W : WX} {pin : List Nat}
theorem PostAr.le {b : Bk} {Fz Fz1 : Hp} {σ : L2.St} {Q : List V → Hp → Prop} {r : Rs (List Ar)} (s : Same Fz Fz1) (p : PostAr K mg W b Fz σ Q r) : PostAr K mg W b Fz1 σ Q r := by
  cases r with
  | ok a δ => exact fun v H' Fz' F' G s' R e => p v H' Fz' F' G (s.trans s') R e
  | er x δ => exact PostX.le s p
  | bad => exact p
theorem arOk_nil {b : Bk} {Fz : Hp} {F : Nat → List Addr} {H : Hp} {σ : L2.St} : ArOk K b Fz F H σ [] [] (fun _ => []) := ⟨rfl, fun j a h => by simp at h, fun _ => List.nodup_nil, fun _ _ _ h => (nomatch h), fun _ _ h => (nomatch h)⟩
/-- one more argument ahead of the rest, which was reckoned while its thing belonged to the ground -/
theorem ArOk.cons {b : Bk} {Fz1 Fz2 : Hp} {F1 F2 : Nat → List Addr} {H1 H2 : Hp} {δ2 : List Sl} {σ : L2.St} {v : V} {vs : List V} {a : Ar} {ars : List Ar} {g : List Addr} {G : Nat → List Addr} (hs : Same Fz1 Fz2) (h1 : ArH K Fz1 H1 σ g v a) (hn : g.Nodup)
    (hg : ∀ c ∈ g, Fz1 c = none ∧ b.B c = none ∧ H1 c ≠ none ∧ ∀ k, c ∉ F1 k) (f0 : ∀ c, b.F0 c ≠ none → b.B c ≠ none) (R2 : Rl K (gd b H1 g) Fz2 F2 δ2 σ H2) (h2 : ArOk K (gd b H1 g) Fz2 F2 H2 σ vs ars G) :
    ArOk K b Fz2 F2 H2 σ (v :: vs) (a :: ars) (fun j => match j with
      | 0 => g
      | j + 1 => G j) := by
  have fit := R2.guarded (fun c hc => (hg c hc).2.1) f0 (fun c hc => (hg c hc).2.2.1) h1.noT
  have notg : ∀ j c, c ∈ G j → c ∉ g := fun j c hc z => by
    have e1 : Hb.addF b.B H1 g c = none := (h2.off j c hc).2.1
    rw [addF_in z] at e1
    exact (hg c z).2.2.1 e1
  refine ⟨congrArg Nat.succ h2.len, fun j r e => ?_, fun j => ?_, fun i j c hi hj => ?_, fun j c hc => ?_⟩
  · cases j with
    | zero =>
      simp at e
      subst e
      refine ⟨v, rfl, ?_⟩
      cases a with
      | fz d => exact ⟨h1.1, h1.2.mono hs⟩
      | io k => exact h1
      | own s => exact ⟨h1.1, h1.2.keeps hs (fun c hc => (fit c hc).1) fun x j ej _ hx => by
          have := h1.1
          rw [ej] at this
          cases this⟩
    | succ j =>
      obtain ⟨u, e1, e2⟩ := h2.at_ j r (by simpa using e)
      exact ⟨u, by simpa using e1, e2⟩
  · cases j with
    | zero => exact hn
    | succ j => exact h2.nd j
  · cases i with
    | zero =>
      cases j with
      | zero => rfl
      | succ j => exact absurd hi (notg j c hj)
    | succ i =>
      cases j with
      | zero => exact absurd hj (notg i c hi)
      | succ j => exact congrArg Nat.succ (h2.dj i j c hi hj)
  · cases j with
    | zero =>
      obtain ⟨e1, e2, e3⟩ := fit c hc
      exact ⟨e2, (hg c hc).2.1, by rw [e1]; exact (hg c hc).2.2.1, e3⟩
    | succ j =>
      obtain ⟨e1, e2, e3⟩ := h2.off j c hc
      have e2 : Hb.addF b.B H1 g c = none := e2
      rw [addF_out (notg j c hc)] at e2
      exact ⟨e1, e2, e3⟩
end
section
variable {X : Cx} {W : WX} {pin : List Nat} {f : List Sl → Rs AV} {g : List Sl → Rs (List Ar)} {e : Expr} {es : List Expr}
theorem sr_nil : SAr X W pin [] rNil := pa_mono pa_nil fun σ H Q ⟨b, Fz, F, δ, hp, R, P⟩ => P [] H Fz F _ (Same.refl _) R arOk_nil
/-- the rest, while things of the ground's -/
theorem rest_ok {K : PySem.W.Frag} {mg : Str → Option Value} {b : Bk} {Fz1 : Hp} {F1 : Nat → List Addr} {δ1 : List Sl} {σ : L2.St} {H1 : Hp} {Q : List V → Hp → Prop} {v : V} {a : Ar} {gs : List Addr} (hp : b.pin = pin) (R1 : Rl K b Fz1 F1 δ1 σ H1) (h1 : ArH K Fz1 H1 σ gs v a) (hn : gs.Nodup)
    (hg : ∀ c ∈ gs, Fz1 c = none ∧ b.B c = none ∧ H1 c ≠ none ∧ ∀ k, c ∉ F1 k) (P : PostAr K mg W b Fz1 σ Q ((g δ1).bind fun rs δ2 => .ok (a :: rs) δ2)) : rdAr K mg W pin g σ H1 fun vs H2 => Q (v :: vs) H2 := by
  refine ⟨gd b H1 gs, Fz1, F1, δ1, hp, R1.guard (fun c hc => ⟨(hg c hc).1, (hg c hc).2.1, (hg c hc).2.2.2⟩) h1.noT, ?_⟩
  have un : ∀ {Fz' F' δ' H'}, Rl K (gd b H1 gs) Fz' F' δ' σ H' → Rl K b Fz' F' δ' σ H' := fun R => R.unguard (fun c hc => (hg c hc).2.1) R1.f0
  cases q : g δ1 with
  | bad => rw [q] at P; exact P
  | er x δ' =>
    rw [q] at P
    exact fun c dd H' Fz' F' s R e => P c dd H' Fz' F' s (un R) e
  | ok ars δ' =>
    rw [q] at P
    exact fun vs H' Fz' F' G s R A => P (v :: vs) H' Fz' F' _ s (un R) (ArOk.cons s h1 hn hg R1.f0 R A)
theorem sr_cons (h : SE X W pin e f) (h2 : SAr X W pin es g) (hs : starEach (e :: es) X.env = (false, eval e X.env) :: starEach es X.env := by rfl) : SAr X W pin (e :: es) (rCons f g) := pa_mono (pa_cons h h2 hs) fun σ H Q ⟨b, Fz, F, δ, hp, R, P⟩ => by
  refine ⟨b, Fz, F, δ, hp, R, ?_⟩
  unfold rCons at P
  cases q : f δ with
  | bad => rw [q] at P; exact P
  | er x δ' => rw [q] at P; exact P
  | ok a δ1 =>
    rw [q] at P
    intro v H1 Fz1 F1 s1 R1 A
    have P := PostAr.le s1 P
    cases a with
    | ref i => exact P.elim
    | val d => exact rest_ok hp R1 (a := .fz d) (gs := []) ⟨rfl, A⟩ List.nodup_nil (fun _ z => nomatch z) P
    | tmp s =>
      obtain ⟨ht, gs, k1, k2, k3⟩ := A
      exact rest_ok hp R1 (a := .own s) (gs := gs) ⟨ht, k1⟩ k2 k3 P
theorem sr_io (k : Nat) {x : Str} {pos : Pos} (hN : X.N[k]? = some x) (hv : Vis X.env.scope x) (h2 : SAr X W pin es g) (hd : (x == ("__debug__" : Str)) = false := by decide) (hcd : (x == ("__classdict__" : Str)) = false := by decide)
    (hs : starEach (.Name x pos :: es) X.env = (false, eval (.Name x pos) X.env) :: starEach es X.env := by rfl) : SAr X W pin (.Name x pos :: es) (rIo k g) := pa_mono (pa_cons (pe_var hN hv hd hcd) h2 hs) fun σ H Q ⟨b, Fz, F, δ, hp, R, P⟩ => by
  unfold rIo at P
  have hvar : ∃ v, σ[k]? = some (some v) ∧ ∃ a, sVar k δ = .ok a δ := by
    cases q : sVar k δ with
    | bad => rw [q] at P; exact P.elim
    | er x δ' => unfold sVar at q; split at q <;> cases q
    | ok a δ' =>
      unfold sVar at q
      cases q2 : δ[k]? with
      | none => rw [q2] at q; cases q
      | some s =>
        have h := R.slot k s q2
        rw [q2] at q
        cases s with
        | no => cases q
        | fz d => cases q; obtain ⟨_, v, e1, _⟩ := h; exact ⟨v, join_some e1, _, rfl⟩
        | ol xs => cases q; obtain ⟨a, _, _, e1, _⟩ := h; exact ⟨_, join_some e1, _, rfl⟩
        | od kvs => cases q; obtain ⟨a, e1, _⟩ := h; exact ⟨_, join_some e1, _, rfl⟩
        | ex e =>
          cases q
          cases e with
          | ot xs => obtain ⟨a, _, e1, _⟩ := h; exact ⟨_, join_some e1, _, rfl⟩
          | ob c fs => obtain ⟨a, _, _, _, e1, _⟩ := h; exact ⟨_, join_some e1, _, rfl⟩
          | lp c its => obtain ⟨a, _, _, e1, _⟩ := h; exact ⟨_, join_some e1, _, rfl⟩
          | li c its => obtain ⟨a, _, _, e1, _⟩ := h; exact ⟨_, join_some e1, _, rfl⟩
          | dt its => obtain ⟨a, _, e1, _⟩ := h; exact ⟨_, join_some e1, _, rfl⟩
        | al y j => cases q; obtain ⟨_, a, c, vs, _, _, _, e1⟩ := h; exact ⟨_, join_some e1, _, rfl⟩
  obtain ⟨v, e1, a, e2⟩ := hvar
  rw [e2] at P
  exact ⟨v, e1, rest_ok hp R (a := .io k) (gs := []) ⟨rfl, e1⟩ List.nodup_nil (fun _ z => nomatch z) P⟩
end
inductive FR where
  | ok (r : Sl) (δ : List Sl) | er (x : Exn) (δ : List Sl) | bad
section
variable (K : PySem.W.Frag) (mg : Str → Option Value)
def PostF (b : Bk) (Fz : Hp) (vs : List V) (Q : VK) (E : XK) : FR → Prop
  | .ok r δ => ∀ v H' Fz' F', Same Fz Fz' → Rl K b Fz' F' δ (vs.map some) H' → AvR K b Fz' F' H' (vs.map some) v (.tmp r) → Q v H'
  | .er x δ => ∀ c dd H' Fz' F', Same Fz Fz' → Rl K b Fz' F' δ (vs.map some) H' → ExR K mg Fz' H' x c dd → E c dd H'
  | .bad => False
/-- the promise: n parameters -/
def spF (n : Nat) (f : List Sl → FR) : Sp := fun vs H Q E => vs.length = n ∧ ∃ b Fz F δ, Rl K b Fz F δ (vs.map some) H ∧ PostF K mg b Fz vs Q E (f δ)
end
def argS (δ : List Sl) : Ar → Option Sl
  | .fz d => some (.fz d)
  | .own s => some s
  | .io k => match δ[k]? with
    | some (.fz d) => some (.fz d)
    | some (.ol xs) => some (.ol xs)
    | some (.od kvs) => some (.od kvs)
    | some (.ex e) => some (.ex e)
    | _ => none
def argsS (δ : List Sl) : List Ar → Option (List Sl)
  | [] => some []
  | a :: r => match argS δ a, argsS δ r with
    | some s, some l => some (s :: l)
    | _, _ => none
/-- the slots that were handed over -/
def iosOf (δ : List Sl) : List Ar → List Nat
  | [] => []
  | .io k :: r => (match δ[k]? with
    | some (.ol _) => k :: iosOf δ r
    | some (.od _) => k :: iosOf δ r
    | some (.ex _) => k :: iosOf δ r
    | _ => iosOf δ r)
  | _ :: r => iosOf δ r
/-- .. and come back -/
def clr (ks : List Nat) (δ : List Sl) : List Sl := ks.foldr (fun k δ => upS k .no δ) δ
def noAl : Sl → Sl
  | .al _ _ => .no
  | s => s
def putB (ks : List Nat) : List Ar → List Sl → List Sl → List Sl
  | .io k :: r, s :: l, δ => putB ks r l (if k ∈ ks then upS k (noAl s) δ else δ)
  | .fz _ :: r, _ :: l, δ => putB ks r l δ
  | .own _ :: r, _ :: l, δ => putB ks r l δ
  | _, _, δ => δ
def AV.ofSl : Sl → AV
  | .fz d => .val d
  | s => .tmp s
def backS (ars : List Ar) (δ' δ : List Sl) : List Sl := putB (iosOf δ ars) ars δ' (clr (iosOf δ ars) δ)
def callF (f : List Sl → FR) (ars : List Ar) (δ : List Sl) : Rs AV := if (iosOf δ ars).Nodup then (match argsS δ ars with
  | some δa => (match f δa with
    | .ok r δ' => .ok (AV.ofSl r) (backS ars δ' δ)
    | .er x δ' => .er x (backS ars δ' δ)
    | .bad => .bad)
  | none => .bad) else .bad
def sCall (f : List Sl → FR) (dd : List PyData) (g : List Sl → Rs (List Ar)) : List Sl → Rs AV := fun δ => (g δ).bind fun ars δ1 => callF f (ars ++ dd.map .fz) δ1
section
variable {δ : List Sl}
def ownS : Option Sl → Bool
  | some (.ol _) => true
  | some (.od _) => true
  | some (.ex _) => true
  | _ => false
theorem ios_cons_io {k : Nat} {r : List Ar} : iosOf δ (.io k :: r) = if ownS δ[k]? = true then k :: iosOf δ r else iosOf δ r := by
  cases q : δ[k]? with
  | none => simp [iosOf, q, ownS]
  | some s => cases s <;> simp [iosOf, q, ownS]
theorem ios_mem {k : Nat} (c : ownS δ[k]? = true) : ∀ {ars : List Ar} {j : Nat}, ars[j]? = some (.io k) → k ∈ iosOf δ ars
  | [], _, h => by simp at h
  | a :: r, 0, h => by
    simp at h
    subst h
    rw [ios_cons_io, if_pos c]
    exact List.mem_cons_self
  | a :: r, j + 1, h => by
    have ih := ios_mem c (ars := r) (j := j) (by simpa using h)
    cases a with
    | fz d => exact ih
    | own s => exact ih
    | io m =>
      rw [ios_cons_io]
      by_cases e : ownS δ[m]? = true
      · rw [if_pos e]; exact List.mem_cons_of_mem _ ih
      · rw [if_neg e]; exact ih
theorem ios_uniq {k : Nat} (c : ownS δ[k]? = true) : ∀ {ars : List Ar} {i j : Nat}, (iosOf δ ars).Nodup → ars[i]? = some (.io k) → ars[j]? = some (.io k) → i = j
  | [], _, _, _, h, _ => by simp at h
  | a :: r, 0, 0, _, _, _ => rfl
  | a :: r, 0, j + 1, nd, h, h2 => by
    simp at h
    subst h
    rw [ios_cons_io, if_pos c] at nd
    exact absurd (ios_mem c (ars := r) (j := j) (by simpa using h2)) (List.nodup_cons.mp nd).1
  | a :: r, i + 1, 0, nd, h, h2 => by
    simp at h2
    subst h2
    rw [ios_cons_io, if_pos c] at nd
    exact absurd (ios_mem c (ars := r) (j := i) (by simpa using h)) (List.nodup_cons.mp nd).1
  | a :: r, i + 1, j + 1, nd, h, h2 => by
    have nd' : (iosOf δ r).Nodup := by
      cases a with
      | fz d => exact nd
      | own s => exact nd
      | io m =>
        rw [ios_cons_io] at nd
        by_cases e : ownS δ[m]? = true
        · rw [if_pos e] at nd; exact (List.nodup_cons.mp nd).2
        · rw [if_neg e] at nd; exact nd
    exact congrArg Nat.succ (ios_uniq c nd' (by simpa using h) (by simpa using h2))
theorem argsS_get : ∀ {ars : List Ar} {l : List Sl}, argsS δ ars = some l → l.length = ars.length ∧ ∀ (j : Nat) (a : Ar), ars[j]? = some a → ∃ s, l[j]? = some s ∧ argS δ a = some s
  | [], _, h => by
    cases h
    exact ⟨rfl, fun j a h => by simp at h⟩
  | a :: r, l, h => by
    unfold argsS at h
    cases q1 : argS δ a with
    | none => rw [q1] at h; cases h
    | some s =>
      cases q2 : argsS δ r with
      | none => rw [q1, q2] at h; cases h
      | some l' =>
        rw [q1, q2] at h
        cases h
        obtain ⟨e1, e2⟩ := argsS_get q2
        refine ⟨by simp [e1], fun j b hb => ?_⟩
        cases j with
        | zero =>
          simp at hb
          subst hb
          exact ⟨s, rfl, q1⟩
        | succ j =>
          obtain ⟨t, e3, e4⟩ := e2 j b (by simpa using hb)
          exact ⟨t, by simpa using e3, e4⟩
end
section
variable {K : PySem.W.Frag} {mg : Str → Option Value} {b : Bk} {Fz : Hp} {F : Nat → List Addr} {δ : List Sl} {σ : L2.St} {H : Hp}
theorem Rl.clear (R : Rl K b Fz F δ σ H) : ∀ ks : List Nat, Rl K b Fz (fun k => if k ∈ ks then [] else F k) (clr ks δ) σ H
  | [] => by
    have e : (fun k => if k ∈ ([] : List Nat) then [] else F k) = F := by funext k; simp
    rw [e]
    exact R
  | m :: ks => by
    have R1 := R.clear ks
    have R2 := R1.put (i := m) (s := .no) (g := []) (Same.refl _) R1.le R1.base rfl (fun _ _ => rfl) (.inl rfl) (fun _ => rfl) (fun x j z => nomatch z) List.nodup_nil (fun _ z => nomatch z) (fun _ z => nomatch z) (fun _ z => nomatch z) (fun _ z => nomatch z) (fun _ _ _ _ => rfl) (fun k _ a ha => R1.offF k a ha) (fun _ _ => rfl)
    have e : (fun k => if k = m then [] else if k ∈ ks then [] else F k) = fun k => if k ∈ m :: ks then [] else F k := by
      funext k
      by_cases q : k = m
      · simp [q]
      · simp [q]
    rw [e] at R2
    exact R2
theorem Rl.move (R : Rl K b Fz F δ σ H) {Fz' H' : Hp} (s : Same Fz Fz') (le : Same Fz' H') (base : Same b.B H') (hF : ∀ k a, a ∈ F k → H' a = H a ∧ Fz' a = none) (hB : ∀ a, b.B a ≠ none → Fz' a = Fz a ∨ ((∃ xs, TP b.B a xs) ∧ Fz' a = b.B a)) (tb : Tb b Fz' H') : Rl K b Fz' F δ σ H' where
  le := le
  base := base
  len := R.len
  slot := fun i t e => (R.slot i t e).keeps s (fun a ha => (hF i a ha).1) fun x j ej a ha => by
    subst ej
    obtain ⟨xs, hx⟩ := R.als i x j e
    obtain ⟨l, vs, g, p1, p2, _⟩ := R.slot x _ hx
    rw [ha] at p1
    cases p1
    exact (hF x a (by rw [p2]; exact List.mem_cons_self)).1
  nd := R.nd
  dj := R.dj
  offF := fun i a ha => (hF i a ha).2
  offB := R.offB
  on := fun i a ha => by
    rw [(hF i a ha).1]
    exact R.on i a ha
  keep := fun a ha => by
    rcases hB a ha with z | z
    · rw [z]
      exact R.keep a ha
    · exact .inr z
  f0 := R.f0
  pin := R.pin
  als := R.als
  noT := fun i a ha => by
    rw [(hF i a ha).1]
    exact R.noT i a ha
  tb := tb
  tp := R.tp
theorem noAl_ok {Fz H : Hp} {σ1 σ2 : L2.St} {f : List Addr} {o : Option V} {s : Sl} (h : SlH K Fz H σ1 f o s) : SlH K Fz H σ2 f o (noAl s) := by
  cases s with
  | al x j => exact h.1
  | no => exact h
  | fz d => exact h
  | ol xs => exact h
  | od kvs => exact h
  | ex e => exact h
/-- the slots that were handed over come back, one by one -/
theorem Rl.putBack {ks : List Nat} {Fz' H' : Hp} {F' : Nat → List Addr} {δ' : List Sl} {vs : List V} {b' : Bk} (R' : Rl K b' Fz' F' δ' (vs.map some) H') (hb : ∀ a, b.B a ≠ none → b'.B a ≠ none) :
    ∀ (ars : List Ar) (l : List Sl) (j : Nat) (Fc : Nat → List Addr) (δc : List Sl), Rl K b Fz' Fc δc σ H' → l.length = ars.length → (∀ i s, l[i]? = some s → δ'[j + i]? = some s) → (∀ i k, ars[i]? = some (.io k) → ∃ v, vs[j + i]? = some v ∧ σ[k]? = some (some v)) →
      (∀ m a, a ∈ Fc m → b'.B a ≠ none ∨ ∃ i, i < j ∧ a ∈ F' i) → ∃ Fn, Rl K b Fz' Fn (putB ks ars l δc) σ H' ∧ ∀ m a, a ∈ Fn m → b'.B a ≠ none ∨ ∃ i, a ∈ F' i
  | [], l, j, Fc, δc, R, _, _, _, h => ⟨Fc, by cases l <;> exact R, fun m a ha => (h m a ha).imp id fun ⟨i, _, e⟩ => ⟨i, e⟩⟩
  | a :: r, [], _, _, _, _, hl, _, _, _ => by cases hl
  | .fz d :: r, s :: l, j, Fc, δc, R, hl, h1, h2, h3 => by
    refine Rl.putBack R' hb r l (j + 1) Fc δc R (by simpa using hl) (fun i t e => ?_) (fun i k e => ?_) fun m c hc => (h3 m c hc).imp id fun ⟨i, e1, e2⟩ => ⟨i, by omega, e2⟩
    · have := h1 (i + 1) t (by simpa using e)
      rwa [show j + (i + 1) = j + 1 + i by omega] at this
    · have := h2 (i + 1) k (by simpa using e)
      rwa [show j + (i + 1) = j + 1 + i by omega] at this
  | .own d :: r, s :: l, j, Fc, δc, R, hl, h1, h2, h3 => by
    refine Rl.putBack R' hb r l (j + 1) Fc δc R (by simpa using hl) (fun i t e => ?_) (fun i k e => ?_) fun m c hc => (h3 m c hc).imp id fun ⟨i, e1, e2⟩ => ⟨i, by omega, e2⟩
    · have := h1 (i + 1) t (by simpa using e)
      rwa [show j + (i + 1) = j + 1 + i by omega] at this
    · have := h2 (i + 1) k (by simpa using e)
      rwa [show j + (i + 1) = j + 1 + i by omega] at this
  | .io k :: r, s :: l, j, Fc, δc, R, hl, h1, h2, h3 => by
    have n1 : ∀ i t, l[i]? = some t → δ'[j + 1 + i]? = some t := fun i t e => by
      have := h1 (i + 1) t (by simpa using e)
      rwa [show j + (i + 1) = j + 1 + i by omega] at this
    have n2 : ∀ i k', r[i]? = some (.io k') → ∃ v, vs[j + 1 + i]? = some v ∧ σ[k']? = some (some v) := fun i k' e => by
      have := h2 (i + 1) k' (by simpa using e)
      rwa [show j + (i + 1) = j + 1 + i by omega] at this
    by_cases c : k ∈ ks
    · have e0 : putB ks (.io k :: r) (s :: l) δc = putB ks r l (upS k (noAl s) δc) := by
        show putB ks r l (if k ∈ ks then upS k (noAl s) δc else δc) = _
        rw [if_pos c]
      rw [e0]
      obtain ⟨v, v1, v2⟩ := h2 0 k rfl
      have hs := R'.slot j s (by simpa using h1 0 s rfl)
      have hvj : (vs.map some)[j]? = some (some v) := by
        rw [List.getElem?_map, show vs[j]? = some v by simpa using v1]
        rfl
      rw [hvj] at hs
      refine Rl.putBack R' hb r l (j + 1) _ _ (R.put (i := k) (s := noAl s) (g := F' j) (Same.refl _) R.le R.base rfl (fun _ _ => rfl) (.inl rfl) (fun _ => ?_) (fun x i z => ?_) (R'.nd j) (fun a ha => R'.offF j a ha) (fun a ha => ?_) (fun a ha m hm hin => ?_) (fun a ha => R'.on j a ha) (fun _ _ _ _ => rfl) (fun m _ a ha => R.offF m a ha) (fun _ _ => rfl) (fun a ha => R'.noT j a ha)) (by simpa using hl) n1 n2 (fun m a ha => ?_)
      · rw [v2]
        exact noAl_ok hs
      · cases s <;> cases z
      · cases q : b.B a with
        | none => rfl
        | some o => exact absurd (R'.offB j a ha) (hb a (by rw [q]; simp))
      · rcases h3 m a hin with z | ⟨i, z1, z2⟩
        · exact z (R'.offB j a ha)
        · have := R'.dj i j a z2 ha
          omega
      · have ha : a ∈ (if m = k then F' j else Fc m) := ha
        by_cases q : m = k
        · rw [if_pos q] at ha
          exact .inr ⟨j, Nat.lt_succ_self j, ha⟩
        · rw [if_neg q] at ha
          exact (h3 m a ha).imp id fun ⟨i, e1, e2⟩ => ⟨i, by omega, e2⟩
    · have e0 : putB ks (.io k :: r) (s :: l) δc = putB ks r l δc := by
        show putB ks r l (if k ∈ ks then upS k (noAl s) δc else δc) = _
        rw [if_neg c]
      rw [e0]
      exact Rl.putBack R' hb r l (j + 1) Fc δc R (by simpa using hl) n1 n2 fun m a ha => (h3 m a ha).imp id fun ⟨i, e1, e2⟩ => ⟨i, by omega, e2⟩
end
end Hb
namespace Hb
open PySem PySem.Spec PyProof.Rows L2
section
variable {K : PySem.W.Frag} {mg : Str → Option Value} {W : WX} {b : Bk} {Fz : Hp} {F : Nat → List Addr} {δ : List Sl} {σ : L2.St} {H : Hp}
/-- what is handed over -/
def passL (δ : List Sl) (F G : Nat → List Addr) (ars : List Ar) : List Addr := (iosOf δ ars).flatMap F ++ (List.range ars.length).flatMap G
/-- the callee's ground: all else -/
def calB (H : Hp) (p : List Addr) : Hp := fun a => if a ∈ p then none else H a
def calF0 (H Fz : Hp) (p : List Addr) : Hp := fun a => if a ∈ p then none else if H a = none then none else Fz a
def calF (δ : List Sl) (F G : Nat → List Addr) (ars : List Ar) (j : Nat) : List Addr := match ars[j]? with
  | some (.io k) => if ownS δ[k]? = true then F k else []
  | some (.own _) => G j
  | _ => []
theorem call_ok {Q : VK} {vs : List V} {ars : List Ar} {G : Nat → List Addr} {f : List Sl → FR} (R : Rl K b Fz F δ σ H) (A : ArOk K b Fz F H σ vs ars G) (P : Post K mg W b Fz σ Q (callF f ars δ)) :
    spF K mg ars.length f vs H Q (fun c dd H' => W c dd σ H') := by
  refine ⟨A.len, ?_⟩
  unfold callF at P
  by_cases nd : (iosOf δ ars).Nodup
  · rw [if_pos nd] at P
    cases q1 : argsS δ ars with
    | none => simp only [q1] at P; exact P.elim
    | some δa =>
      simp only [q1] at P
      obtain ⟨la, ga⟩ := argsS_get q1
      obtain ⟨p, hp⟩ : ∃ p, p = passL δ F G ars := ⟨_, rfl⟩
      have pio : ∀ k, k ∈ iosOf δ ars → ∀ a ∈ F k, a ∈ p := fun k hk a ha => by
        rw [hp]
        exact List.mem_append_left _ (List.mem_flatMap.mpr ⟨k, hk, ha⟩)
      have pown : ∀ j, j < ars.length → ∀ a ∈ G j, a ∈ p := fun j hj a ha => by
        rw [hp]
        exact List.mem_append_right _ (List.mem_flatMap.mpr ⟨j, List.mem_range.mpr hj, ha⟩)
      have pin : ∀ a ∈ p, (∃ k, k ∈ iosOf δ ars ∧ a ∈ F k) ∨ ∃ j, a ∈ G j := fun a ha => by
        rw [hp] at ha
        rcases List.mem_append.mp ha with z | z
        · obtain ⟨k, e1, e2⟩ := List.mem_flatMap.mp z
          exact .inl ⟨k, e1, e2⟩
        · obtain ⟨j, _, e2⟩ := List.mem_flatMap.mp z
          exact .inr ⟨j, e2⟩
      have pFz : ∀ a ∈ p, Fz a = none := fun a ha => (pin a ha).elim (fun ⟨k, _, e⟩ => R.offF k a e) fun ⟨j, e⟩ => (A.off j a e).1
      have pB : ∀ a ∈ p, b.B a = none := fun a ha => (pin a ha).elim (fun ⟨k, _, e⟩ => R.offB k a e) fun ⟨j, e⟩ => (A.off j a e).2.1
      have pPl : ∀ a ∈ p, Pl (H a) := fun a ha => by
        rw [hp] at ha
        rcases List.mem_append.mp ha with z | z
        · obtain ⟨k, _, e⟩ := List.mem_flatMap.mp z
          exact R.noT k a e
        · obtain ⟨j, hj, e⟩ := List.mem_flatMap.mp z
          have hj := List.mem_range.mp hj
          obtain ⟨v, _, e4⟩ := A.at_ j _ (List.getElem?_eq_getElem hj)
          exact e4.noT a e
      have getV : ∀ j a, ars[j]? = some a → ∃ s v, δa[j]? = some s ∧ argS δ a = some s ∧ vs[j]? = some v ∧ ArH K Fz H σ (G j) v a := fun j a e => by
        obtain ⟨s, e1, e2⟩ := ga j a e
        obtain ⟨v, e3, e4⟩ := A.at_ j a e
        exact ⟨s, v, e1, e2, e3, e4⟩
      have cF : ∀ j a, a ∈ calF δ F G ars j → (∃ k, ars[j]? = some (.io k) ∧ ownS δ[k]? = true ∧ a ∈ F k) ∨ ∃ s, ars[j]? = some (.own s) ∧ a ∈ G j := fun j a ha => by
        unfold calF at ha
        cases q : ars[j]? with
        | none => rw [q] at ha; cases ha
        | some r =>
          rw [q] at ha
          cases r with
          | fz d => cases ha
          | own s => exact .inr ⟨s, rfl, ha⟩
          | io k =>
            have ha : a ∈ (if ownS δ[k]? = true then F k else []) := ha
            by_cases c : ownS δ[k]? = true
            · rw [if_pos c] at ha
              exact .inl ⟨k, rfl, c, ha⟩
            · rw [if_neg c] at ha
              cases ha
      have cp : ∀ j a, a ∈ calF δ F G ars j → a ∈ p := fun j a ha => (cF j a ha).elim (fun ⟨k, e1, e2, e3⟩ => pio k (ios_mem e2 e1) a e3) fun ⟨s, e1, e2⟩ => pown j (List.getElem?_eq_some_iff.mp e1).1 a e2
      have Rc : Rl K ⟨calB H p, calF0 H Fz p, [], [], []⟩ Fz (calF δ F G ars) δa (vs.map some) H := by
        refine ⟨R.le, fun a o e => ?_, by rw [List.length_map, A.len, la], fun j s e => ?_, fun j => ?_, fun i j a h1 h2 => ?_, fun j a h => pFz a (cp j a h), fun j a h => if_pos (cp j a h), fun j a h => ?_, fun a h => .inl ?_, fun a h => ?_, fun _ z => (nomatch z), fun j x m e => ?_, fun j a h => ?_, .nil rfl, fun z => (nomatch z)⟩
        · have e : (if a ∈ p then none else H a) = some o := e
          by_cases c : a ∈ p
          · rw [if_pos c] at e; cases e
          · rw [if_neg c] at e; exact e
        · have hj : j < ars.length := by rw [← la]; exact (List.getElem?_eq_some_iff.mp e).1
          obtain ⟨s', v, e1, e2, e3, e4⟩ := getV j _ (List.getElem?_eq_getElem hj)
          rw [e] at e1
          cases e1
          have hv : (vs.map some)[j]?.join = some v := by rw [List.getElem?_map, e3]; rfl
          rw [hv]
          unfold calF
          rw [List.getElem?_eq_getElem hj]
          generalize ars[j] = r at e2 e4
          cases r with
          | fz d =>
            cases e2
            exact ⟨rfl, v, rfl, e4.2⟩
          | own t =>
            cases e2
            have h2 := e4.2
            cases s with
            | al x m => have := e4.1; cases this
            | no => exact h2
            | fz d => exact h2
            | ol xs => exact h2
            | od kvs => exact h2
            | ex e => exact h2
          | io k =>
            have hk : σ[k]? = some (some v) := e4.2
            unfold argS at e2
            cases q2 : δ[k]? with
            | none => simp only [q2] at e2; cases e2
            | some t =>
              have hs := R.slot k t q2
              rw [hk] at hs
              cases t with
              | fz d => simp only [q2] at e2; cases e2; exact ⟨by simp [ownS, q2], hs.2⟩
              | ol xs => simp only [q2] at e2; cases e2; simp only [ownS, q2, if_true]; exact hs
              | od kvs => simp only [q2] at e2; cases e2; simp only [ownS, q2, if_true]; exact hs
              | ex e => simp only [q2] at e2; cases e2; simp only [ownS, q2, if_true]; exact hs
              | no => simp only [q2] at e2; cases e2
              | al x m => simp only [q2] at e2; cases e2
        · unfold calF
          cases q : ars[j]? with
          | none => exact List.nodup_nil
          | some r =>
            cases r with
            | fz d => exact List.nodup_nil
            | own s => exact A.nd j
            | io k =>
              show (if ownS δ[k]? = true then F k else []).Nodup
              by_cases c : ownS δ[k]? = true
              · rw [if_pos c]; exact R.nd k
              · rw [if_neg c]; exact List.nodup_nil
        · rcases cF i a h1 with ⟨k, e1, e2, e3⟩ | ⟨s, e1, e2⟩
          · rcases cF j a h2 with ⟨m, f1, f2, f3⟩ | ⟨t, f1, f2⟩
            · have := R.dj k m a e3 f3
              subst this
              exact ios_uniq e2 nd e1 f1
            · exact absurd e3 ((A.off j a f2).2.2.2 k)
          · rcases cF j a h2 with ⟨m, f1, f2, f3⟩ | ⟨t, f1, f2⟩
            · exact absurd f3 ((A.off i a e2).2.2.2 m)
            · exact A.dj i j a e2 f2
        · rcases cF j a h with ⟨k, e1, e2, e3⟩ | ⟨s, e1, e2⟩
          · exact R.on k a e3
          · exact (A.off j a e2).2.2.1
        · have h : (if a ∈ p then none else H a) ≠ none := h
          show Fz a = if a ∈ p then none else if H a = none then none else Fz a
          by_cases c : a ∈ p
          · rw [if_pos c] at h; exact absurd rfl h
          · rw [if_neg c] at h ⊢
            rw [if_neg h]
        · have h : (if a ∈ p then none else if H a = none then none else Fz a) ≠ none := h
          show (if a ∈ p then none else H a) ≠ none
          by_cases c : a ∈ p
          · rw [if_pos c] at h; exact absurd rfl h
          · rw [if_neg c] at h ⊢
            by_cases c2 : H a = none
            · rw [if_pos c2] at h; exact absurd rfl h
            · exact c2
        · have hj : j < ars.length := by rw [← la]; exact (List.getElem?_eq_some_iff.mp e).1
          obtain ⟨s', v, e1, e2, e3, e4⟩ := getV j _ (List.getElem?_eq_getElem hj)
          rw [e] at e1
          cases e1
          generalize ars[j] = r at e2 e4
          cases r with
          | fz d => cases e2
          | own t =>
            cases e2
            have := e4.1
            cases this
          | io k =>
            unfold argS at e2
            cases q2 : δ[k]? with
            | none => simp only [q2] at e2; cases e2
            | some t => cases t <;> (simp only [q2] at e2; cases e2)
        · rcases cF j a h with ⟨k, e1, e2, e3⟩ | ⟨s, e1, e2⟩
          · exact R.noT k a e3
          · obtain ⟨v, _, e4⟩ := A.at_ j _ e1
            exact e4.noT a e2
      refine ⟨_, Fz, _, δa, Rc, ?_⟩
      have calN : ∀ a, H a ≠ none → a ∉ p → calB H p a ≠ none := fun a h1 h2 => by
        show (if a ∈ p then none else H a) ≠ none
        rw [if_neg h2]
        exact h1
      -- what comes back
      have fin : ∀ {δ' : List Sl} {H' Fz' : Hp} {F' : Nat → List Addr}, Same Fz Fz' → Rl K ⟨calB H p, calF0 H Fz p, [], [], []⟩ Fz' F' δ' (vs.map some) H' → ∃ Fn, Rl K b Fz' Fn (backS ars δ' δ) σ H' ∧ ∀ m a, a ∈ Fn m → calB H p a ≠ none ∨ ∃ i, a ∈ F' i := by
        intro δ' H' Fz' F' s R'
        have outF : ∀ k, k ∉ iosOf δ ars → ∀ a ∈ F k, a ∉ p := fun k hk a ha z => by
          rcases pin a z with ⟨m, e1, e2⟩ | ⟨j, e⟩
          · exact hk (by rw [R.dj k m a ha e2]; exact e1)
          · exact (A.off j a e).2.2.2 k ha
        have tb' : Tb b Fz' H' := R.tb
        have R1 := (R.clear (iosOf δ ars)).move (Fz' := Fz') (H' := H') s R'.le (fun a o e => ?_) (fun k a ha => ?_) (fun a ha => ?_) tb'
        · refine Rl.putBack (b := b) R' (fun a ha => ?_) ars δ' 0 _ _ R1 (by have := R'.len; rw [List.length_map, A.len] at this; exact this.symm) (fun i t e => by rwa [Nat.zero_add]) (fun i k e => ?_) (fun m a ha => ?_)
          · cases q : b.B a with
            | none => exact absurd q ha
            | some o => exact calN a (by rw [R.base a o q]; simp) fun z => by rw [pB a z] at q; cases q
          · obtain ⟨v, e1, e2⟩ := A.at_ i _ e
            exact ⟨v, by rwa [Nat.zero_add], e2.2⟩
          · have ha : a ∈ (if m ∈ iosOf δ ars then [] else F m) := ha
            by_cases c : m ∈ iosOf δ ars
            · rw [if_pos c] at ha; cases ha
            · rw [if_neg c] at ha
              exact .inl (calN a (R.on m a ha) (outF m c a ha))
        · have hn : a ∉ p := fun z => by rw [pB a z] at e; cases e
          exact R'.base a o (by
            show (if a ∈ p then none else H a) = some o
            rw [if_neg hn]
            exact R.base a o e)
        · have ha : a ∈ (if k ∈ iosOf δ ars then [] else F k) := ha
          by_cases c : k ∈ iosOf δ ars
          · rw [if_pos c] at ha; cases ha
          · rw [if_neg c] at ha
            have hn := outF k c a ha
            have nn := calN a (R.on k a ha) hn
            refine ⟨?_, ?_⟩
            · cases q : H a with
              | none => exact absurd q (R.on k a ha)
              | some o => exact R'.base a o (by
                  show (if a ∈ p then none else H a) = some o
                  rw [if_neg hn]
                  exact q)
            · rcases R'.keep a nn with z | ⟨⟨xs, z⟩, _⟩
              · rw [z]
                show (if a ∈ p then none else if H a = none then none else Fz a) = none
                rw [if_neg hn, if_neg (R.on k a ha)]
                exact R.offF k a ha
              · obtain ⟨its, z⟩ := z
                have z : (if a ∈ p then none else H a) = some (nT its xs) := z
                rw [if_neg hn] at z
                exact (R.noT k a ha _ _ z).elim
        · have hn : a ∉ p := fun z => ha (pB a z)
          have hH : H a ≠ none := by
            cases q : b.B a with
            | none => exact absurd q ha
            | some o => rw [R.base a o q]; simp
          have z := R'.keep a (calN a hH hn)
          have z : Fz' a = (if a ∈ p then none else if H a = none then none else Fz a) ∨ ((∃ xs its, (if a ∈ p then none else H a) = some (nT its xs)) ∧ Fz' a = (if a ∈ p then none else H a)) := z
          rw [if_neg hn, if_neg hH, if_neg hn] at z
          rcases z with z | ⟨⟨xs, its, z1⟩, z2⟩
          · exact .inl z
          · cases qb : b.B a with
            | none => exact absurd qb ha
            | some o =>
              have h2 := R.base a o qb
              rw [z1] at h2
              cases h2
              exact .inr ⟨⟨xs, its, qb⟩, z2.trans z1⟩
      cases q2 : f δa with
      | bad => simp only [q2] at P; exact P
      | er x δ' =>
        simp only [q2] at P
        intro c dd H' Fz' F' s R' e
        obtain ⟨Fn, Rn, _⟩ := fin s R'
        exact P c dd H' Fz' Fn s Rn e
      | ok r δ' =>
        simp only [q2] at P
        intro v H' Fz' F' s R' Ar
        obtain ⟨Fn, Rn, hn⟩ := fin s R'
        refine P v H' Fz' Fn s Rn ?_
        obtain ⟨ht, g, h1, h2, h3⟩ := Ar
        have gn : ∀ a ∈ g, calB H p a = none := fun a ha => (h3 a ha).2.1
        have gen : AvR K b Fz' Fn H' σ v (.tmp r) := ⟨ht, g, h1, h2, fun a ha => ⟨(h3 a ha).1, ?_, (h3 a ha).2.2.1, fun m hm => ?_⟩⟩
        · cases r with
          | fz d =>
            obtain ⟨e, v', e1, e2⟩ := h1
            cases e1
            exact e2
          | no => cases ht
          | al x j => cases ht
          | ol xs => exact gen
          | od kvs => exact gen
          | ex e => exact gen
        · cases q : b.B a with
          | none => rfl
          | some o => exact absurd (gn a ha) (calN a (by rw [R.base a o q]; simp) fun z => by rw [pB a z] at q; cases q)
        · rcases hn m a hm with z | ⟨i, z⟩
          · exact z (gn a ha)
          · exact (h3 a ha).2.2.2 i z
  · rw [if_neg nd] at P
    exact P.elim
end
structure FnG (P : Program) (w : World) (K : PySem.W.Frag) (mg : Str → Option Value) (base : Heap) (k : Nat) (f : Addr) (fd : FuncData) (ps : List Str) (sp : Sp) : Prop where
  len : ∀ vs H Q E, sp vs H Q E → vs.length = ps.length
  run : ∀ (A : Around) (outer : List Env) (s : Shared) (H : Hp) (args : Args) (us : List Value) (vs : List V) (Q : VK) (E : XK), A.guards = some [] → Room k A → Env0 P w K mg base A outer s H → BindsTo s fd args (ps.zip us) → Vals vs us → sp vs H Q E →
    codeAny (model P w) A (.call (.ref f) args) (CR (L2.CX P w) outer P w H s Q E) s
theorem FnG.mono {P : Program} {w : World} {K : PySem.W.Frag} {mg : Str → Option Value} {base : Heap} {j k : Nat} {f : Addr} {fd : FuncData} {ps : List Str} {sp : Sp} (F : FnG P w K mg base j f fd ps sp) (h : j ≤ k) : FnG P w K mg base k f fd ps sp :=
  ⟨F.len, fun A outer s H args us vs Q E hg hr => F.run A outer s H args us vs Q E hg (hr.mono h)⟩
section
variable {X : Cx} {k : Nat} {f : Addr} {fd : FuncData} {ps : List Str} {W : WX} {pin : List Nat} {x : Str} {p pos : Pos} {e : Expr} {es : List Expr} {n : Nat} {F : List Sl → FR} {g : List Sl → Rs (List Ar)} {ds : List Value} {dd : List PyData}
/-- a call of it, by values -/
theorem run_G (G : FnG X.prog X.w X.K X.mg X.base k f fd ps (spF X.K X.mg n F)) (hr : Room k X.A) (hgd : X.A.guards = some []) {pins : List (Addr × Obj)} {σ : L2.St} {H : Hp} {s : Shared} {Q : VK} {us : List Value} {vs dvs : List V} (hx : PassesAt (L2.CX X.prog X.w) X σ (WE W σ))
    (hb : Binds X.K fd ps ds) (hd : Vals dvs ds) (I : Inv X pins σ H s) (r : Vals vs us) (h : spF X.K X.mg n F (vs ++ dvs) H Q (WE W σ)) : wpAny (model X.prog X.w) X.A (call (.ref f) us) (EP X pins σ Q) X.xe s := by
  have r2 := r.append hd
  have hl : (us ++ ds).length = ps.length := r2.length.symm.trans (G.len _ _ _ _ h)
  have go := G.run X.A X.stack s H ⟨us, []⟩ (us ++ ds) (vs ++ dvs) Q (WE W σ) hgd hr I.env0 (hb s us I.kIn hl) r2 h
  refine wpAny_call (codeAny_mono go fun res s' hq => ?_)
  match res, hq with
  | .error err, hq => exact hx pins H s err s' I hq
  | .ok (.ret u), hq => exact I.after hq
theorem arOk_dfl {K : PySem.W.Frag} {b : Bk} {Fz : Hp} {F : Nat → List Addr} {H : Hp} {σ : L2.St} {vs : List V} {ars : List Ar} {G : Nat → List Addr} (A : ArOk K b Fz F H σ vs ars G) {dvs : List V} (h : RpL K Fz dvs dd) :
    ArOk K b Fz F H σ (vs ++ dvs) (ars ++ dd.map .fz) (fun j => if j < ars.length then G j else []) := by
  refine ⟨by simp [A.len, h.len], fun j a e => ?_, fun j => ?_, fun i j a h1 h2 => ?_, fun j a h1 => ?_⟩
  · by_cases c : j < ars.length
    · rw [List.getElem?_append_left c] at e
      obtain ⟨v, e1, e2⟩ := A.at_ j a e
      exact ⟨v, by rw [List.getElem?_append_left (by rw [A.len]; exact c)]; exact e1, by rw [if_pos c]; exact e2⟩
    · rw [List.getElem?_append_right (by omega), List.getElem?_map] at e
      cases q : dd[j - ars.length]? with
      | none => rw [q] at e; cases e
      | some d =>
        rw [q] at e
        cases e
        obtain ⟨v, e1, e2⟩ := h.get q
        exact ⟨v, by rw [List.getElem?_append_right (by rw [A.len]; omega), A.len]; exact e1, by rw [if_neg c], e2⟩
  · by_cases c : j < ars.length
    · rw [if_pos c]; exact A.nd j
    · rw [if_neg c]; exact List.nodup_nil
  · have h1 : a ∈ (if i < ars.length then G i else []) := h1
    have h2 : a ∈ (if j < ars.length then G j else []) := h2
    by_cases c : i < ars.length
    · by_cases c2 : j < ars.length
      · rw [if_pos c] at h1
        rw [if_pos c2] at h2
        exact A.dj i j a h1 h2
      · rw [if_neg c2] at h2; cases h2
    · rw [if_neg c] at h1; cases h1
  · have h1 : a ∈ (if j < ars.length then G j else []) := h1
    by_cases c : j < ars.length
    · rw [if_pos c] at h1; exact A.off j a h1
    · rw [if_neg c] at h1; cases h1
theorem rpl_flat {K : PySem.W.Frag} {H : Hp} : ∀ {dd : List PyData}, dd.all flatD = true → RpL K H (dd.map dV) dd
  | [], _ => .nil
  | d :: dd, h => by
    rw [List.all_cons, Bool.and_eq_true] at h
    exact .cons (rp_flat h.1) (rpl_flat h.2)
theorem call_rd {K : PySem.W.Frag} {mg : Str → Option Value} {W : WX} (hflat : dd.all flatD = true) (hlen : ∀ δ ars δ', g δ = .ok ars δ' → ars.length + dd.length = n) : ∀ σ H Q, rdE K mg W pin (sCall F dd g) σ H Q → rdAr K mg W pin g σ H fun vs H1 => spF K mg n F (vs ++ dd.map dV) H1 Q (WE W σ) := fun σ H Q ⟨b, Fz, Ff, δ, hp, R, P⟩ => by
  refine ⟨b, Fz, Ff, δ, hp, R, ?_⟩
  unfold sCall at P
  cases q : g δ with
  | bad => rw [q] at P; exact P
  | er x δ' => rw [q] at P; exact P
  | ok ars δ' =>
    rw [q] at P
    intro vs H' Fz' F' G s R' A
    have A' := arOk_dfl (dd := dd) A (rpl_flat hflat)
    have h := call_ok (mg := mg) (W := W) (f := F) R' A' (Post.le s P)
    have e : (ars ++ dd.map Ar.fz).length = n := by
      rw [List.length_append, List.length_map]
      exact hlen _ _ _ q
    rw [e] at h
    exact h
theorem se_call (G : FnG X.prog X.w X.K X.mg X.base k f fd ps (spF X.K X.mg n F)) (hr : Room k X.A) (hgd : X.A.guards = some []) (hx : ∀ σ, PassesAt (L2.CX X.prog X.w) X σ (WE W σ)) (hg : Gl X x) (hm : X.mg x = some (.ref f)) (hk : PySem.W.keepIn X.K (.ref f) = true)
    (hb : Binds X.K fd ps ds) (hd : Vals (dd.map dV) ds) (hflat : dd.all flatD = true) (ha : SAr X W pin (e :: es) g) (hlen : ∀ δ ars δ', g δ = .ok ars δ' → ars.length + dd.length = n)
    (hdb : (x == ("__debug__" : Str)) = false := by decide) (he : starEach (e :: es) X.env = (false, eval e X.env) :: starEach es X.env := by rfl) (hpl : (backTo pos (starEach es X.env)).any (·.1) = false := by rfl) :
    SE X W pin (.Call (.Name x p) (e :: es) [] pos) (sCall F dd g) := by
  refine ⟨fun pins s σ H Q I h => wpAny_Call_Name_kw (ld_glob I hg hm ?_ hdb)⟩
  have h2 := call_rd (n := n) hflat hlen σ H Q h
  refine PySem.W.callWith_K (h₀ := X.base) I.ok.mod.kin hk (thn (ha.run pos pins s σ H _ I h2) fun us s1 q => ?_) he hpl
  obtain ⟨vs, H1, I1, r, q⟩ := q
  exact ⟨I1.kIn, run_G G hr hgd (hx σ) hb hd I1 r q⟩
theorem len_rNil : ∀ δ ars δ', rNil δ = .ok ars δ' → ars.length = 0 := fun _ _ _ e => by cases e; rfl
theorem len_rCons {f : List Sl → Rs AV} {m : Nat} (h : ∀ δ ars δ', g δ = .ok ars δ' → ars.length = m) : ∀ δ ars δ', rCons f g δ = .ok ars δ' → ars.length = m + 1 := fun δ ars δ' e => by
  unfold rCons at e
  cases q : f δ with
  | bad => rw [q] at e; cases e
  | er x d => rw [q] at e; cases e
  | ok a δ1 =>
    rw [q] at e
    have e : (match arOf a with
      | some r => (g δ1).bind fun rs δ2 => .ok (r :: rs) δ2
      | none => .bad) = Rs.ok ars δ' := e
    cases q2 : arOf a with
    | none => simp only [q2] at e; cases e
    | some r =>
      simp only [q2] at e
      cases q3 : g δ1 with
      | bad => rw [q3] at e; cases e
      | er x d => rw [q3] at e; cases e
      | ok rs δ2 =>
        rw [q3] at e
        cases e
        simp [h _ _ _ q3]
theorem len_rIo {j m : Nat} (h : ∀ δ ars δ', g δ = .ok ars δ' → ars.length = m) : ∀ δ ars δ', rIo j g δ = .ok ars δ' → ars.length = m + 1 := fun δ ars δ' e => by
  unfold rIo at e
  cases q : sVar j δ with
  | bad => rw [q] at e; cases e
  | er x d => rw [q] at e; cases e
  | ok a δ1 =>
    rw [q] at e
    have e : ((g δ1).bind fun rs δ2 => Rs.ok (Ar.io j :: rs) δ2) = Rs.ok ars δ' := e
    cases q3 : g δ1 with
    | bad => rw [q3] at e; cases e
    | er x d => rw [q3] at e; cases e
    | ok rs δ2 =>
      rw [q3] at e
      cases e
      simp [h _ _ _ q3]
end
end Hb
namespace Hb
open PySem PySem.Spec PyProof.Rows L2
def outs (n : Nat) (pin : List Nat) (δ : List Sl) : List Sl := (List.range n).map fun i => if i ∈ pin then noAl ((δ[i]?).getD .no) else .no
def fnRun (n m : Nat) (pin : List Nat) (body : List Sl → Ot) : List Sl → FR := fun δ => match body (δ ++ List.replicate (m - n) .no) with
  | .nx δ' => .ok (.fz .none) (outs n pin δ')
  | .rt s δ' => .ok s (outs n pin δ')
  | .er x δ' => .er x (outs n pin δ')
  | _ => .bad
def oF (pin : List Nat) (n : Nat) (F : Nat → List Addr) : Nat → List Addr := fun i => if i < n ∧ i ∈ pin then F i else []
theorem no_al {s : Sl} {x j : Nat} : noAl s ≠ .al x j := by cases s <;> simp [noAl]
theorem start_get {N : List Str} {vs : List V} {i : Nat} (h : i < vs.length) : (L2.start N vs)[i]? = (vs.map some)[i]? := by
  unfold L2.start
  rw [List.getElem?_append_left (by simpa using h)]
section
variable {K : PySem.W.Frag} {mg : Str → Option Value} {b : Bk} {Fz : Hp} {F : Nat → List Addr} {δ : List Sl} {H : Hp} {vs : List V} {N : List Str} {pin : List Nat}
theorem rl_in (R : Rl K b Fz F δ (vs.map some) H) (hN : vs.length ≤ N.length) (hm : mkT ∈ pin → b.T = TK K) : Rl K ⟨b.B, b.F0, pin, L2.start N vs, b.T⟩ Fz (fun i => if i < vs.length then F i else []) (δ ++ List.replicate (N.length - vs.length) .no) (L2.start N vs) H := by
  have hl : δ.length = vs.length := by have := R.len; simpa using this.symm
  refine ⟨R.le, R.base, ?_, fun i s e => ?_, fun i => ?_, fun i j a h1 h2 => ?_, fun i a h => ?_, fun i a h => ?_, fun i a h => ?_, R.keep, R.f0, fun _ _ => rfl, fun i x j e => ?_, fun i a h => ?_, R.tb, hm⟩
  · unfold L2.start
    simp [hl]
  · by_cases c : i < vs.length
    · rw [List.getElem?_append_left (by omega)] at e
      rw [start_get c, if_pos c]
      have h := R.slot i s e
      cases s with
      | al x j =>
        obtain ⟨h1, a, b', ws, h2, h3⟩ := h
        refine ⟨h1, a, b', ws, ?_, h3⟩
        have hx : x < vs.length := by
          by_cases q : x < vs.length
          · exact q
          · rw [List.getElem?_eq_none (by simpa using q)] at h2
            cases h2
        rw [start_get hx]
        exact h2
      | no => exact h
      | fz d => exact h
      | ol xs => exact h
      | od kvs => exact h
      | ex e => exact h
    · rw [List.getElem?_append_right (by omega), List.getElem?_replicate] at e
      split at e
      · cases e
        exact if_neg c
      · cases e
  · by_cases c : i < vs.length
    · rw [if_pos c]; exact R.nd i
    · rw [if_neg c]; exact List.nodup_nil
  · have h1 : a ∈ (if i < vs.length then F i else []) := h1
    have h2 : a ∈ (if j < vs.length then F j else []) := h2
    by_cases c : i < vs.length
    · by_cases c2 : j < vs.length
      · rw [if_pos c] at h1
        rw [if_pos c2] at h2
        exact R.dj i j a h1 h2
      · rw [if_neg c2] at h2; cases h2
    · rw [if_neg c] at h1; cases h1
  · have h : a ∈ (if i < vs.length then F i else []) := h
    by_cases c : i < vs.length
    · rw [if_pos c] at h; exact R.offF i a h
    · rw [if_neg c] at h; cases h
  · have h : a ∈ (if i < vs.length then F i else []) := h
    by_cases c : i < vs.length
    · rw [if_pos c] at h; exact R.offB i a h
    · rw [if_neg c] at h; cases h
  · have h : a ∈ (if i < vs.length then F i else []) := h
    by_cases c : i < vs.length
    · rw [if_pos c] at h; exact R.on i a h
    · rw [if_neg c] at h; cases h
  · by_cases c : i < δ.length
    · rw [List.getElem?_append_left c] at e
      obtain ⟨xs, hx⟩ := R.als i x j e
      exact ⟨xs, by rw [List.getElem?_append_left (List.getElem?_eq_some_iff.mp hx).1]; exact hx⟩
    · rw [List.getElem?_append_right (by omega), List.getElem?_replicate] at e
      split at e <;> cases e
  · have h : a ∈ (if i < vs.length then F i else []) := h
    by_cases c : i < vs.length
    · rw [if_pos c] at h; exact R.noT i a h
    · rw [if_neg c] at h; cases h
theorem rl_out {Fz0 : Hp} {F0 : Nat → List Addr} {δ0 : List Sl} {H0 : Hp} (R0 : Rl K b Fz0 F0 δ0 (vs.map some) H0) {σ : L2.St} (R : Rl K ⟨b.B, b.F0, pin, L2.start N vs, b.T⟩ Fz F δ σ H) : Rl K b Fz (oF pin vs.length F) (outs vs.length pin δ) (vs.map some) H := by
  have inF : ∀ i a, a ∈ oF pin vs.length F i → i < vs.length ∧ i ∈ pin ∧ a ∈ F i := fun i a h => by
    unfold oF at h
    by_cases c : i < vs.length ∧ i ∈ pin
    · rw [if_pos c] at h
      exact ⟨c.1, c.2, h⟩
    · rw [if_neg c] at h
      cases h
  have gt : ∀ i, i < vs.length → (outs vs.length pin δ)[i]? = some (if i ∈ pin then noAl ((δ[i]?).getD .no) else .no) := fun i h => by
    unfold outs
    rw [List.getElem?_map, List.getElem?_range h]
    rfl
  refine ⟨R.le, R.base, by simp [outs], fun i s e => ?_, fun i => ?_, fun i j a h1 h2 => R.dj i j a (inF i a h1).2.2 (inF j a h2).2.2, fun i a h => R.offF i a (inF i a h).2.2, fun i a h => R.offB i a (inF i a h).2.2, fun i a h => R.on i a (inF i a h).2.2, R.keep, R.f0, R0.pin, fun i x j e => ?_, fun i a h => R.noT i a (inF i a h).2.2, R.tb, R0.tp⟩
  · have hi : i < vs.length := by
      have := (List.getElem?_eq_some_iff.mp e).1
      simpa [outs] using this
    rw [gt i hi] at e
    cases e
    unfold oF
    by_cases c : i ∈ pin
    · rw [if_pos c, if_pos ⟨hi, c⟩]
      have hp : σ[i]? = (L2.start N vs)[i]? := R.pin i c
      rw [start_get hi] at hp
      rw [← hp]
      cases q : δ[i]? with
      | none =>
        exfalso
        have h1 : i < σ.length := by
          have : σ[i]? = some (some vs[i]) := by rw [hp, List.getElem?_map, List.getElem?_eq_getElem hi]; rfl
          exact (List.getElem?_eq_some_iff.mp this).1
        rw [R.len] at h1
        rw [List.getElem?_eq_getElem h1] at q
        cases q
      | some t => exact noAl_ok (R.slot i t q)
    · rw [if_neg c, if_neg (fun z => c z.2)]
      rfl
  · unfold oF
    by_cases c : i < vs.length ∧ i ∈ pin
    · rw [if_pos c]; exact R.nd i
    · rw [if_neg c]; exact List.nodup_nil
  · have hi : i < vs.length := by
      have := (List.getElem?_eq_some_iff.mp e).1
      simpa [outs] using this
    rw [gt i hi] at e
    by_cases c : i ∈ pin
    · rw [if_pos c] at e
      exact absurd (Option.some.inj e) no_al
    · rw [if_neg c] at e
      cases e
theorem av_out {σ : L2.St} {v : V} {s : Sl} {n : Nat} (A : AvR K b Fz F H σ v (.tmp s)) : AvR K b Fz (oF pin n F) H (vs.map some) v (.tmp s) := by
  obtain ⟨h1, g, h2, h3, h4⟩ := A
  refine ⟨h1, g, h2, h3, fun a ha => ⟨(h4 a ha).1, (h4 a ha).2.1, (h4 a ha).2.2.1, fun i hi => ?_⟩⟩
  unfold oF at hi
  by_cases c : i < n ∧ i ∈ pin
  · rw [if_pos c] at hi
    exact (h4 a ha).2.2.2 i hi
  · rw [if_neg c] at hi
    cases hi
end
theorem body_okM {K : PySem.W.Frag} {mg : Str → Option Value} {N : List Str} {vs : List V} {H : Hp} {Q : VK} {E : XK} {n : Nat} {pin : List Nat} {body : List Sl → Ot} (hN : n ≤ N.length) (h : vs.length = n ∧ ∃ b Fz F δ, (mkT ∈ pin → b.T = TK K) ∧ Rl K b Fz F δ (vs.map some) H ∧ PostF K mg b Fz vs Q E (fnRun n N.length pin body δ)) :
    rdS K mg (fun cls d _ H => E cls d H) pin body { nx := fun _ H' => Q .non H', rt := Q } (L2.start N vs) H := by
  obtain ⟨hl, b, Fz, F, δ, hm, R, P⟩ := h
  subst hl
  refine ⟨_, Fz, _, _, rfl, rl_in (pin := pin) R hN hm, ?_⟩
  unfold fnRun at P
  cases q : body (δ ++ List.replicate (N.length - vs.length) .no) with
  | bad => rw [q] at P; exact P
  | bk δ' => rw [q] at P; exact P.elim
  | ct δ' => rw [q] at P; exact P.elim
  | nx δ' =>
    rw [q] at P
    exact fun σ' H' Fz' F' s R' => P .non H' Fz' _ s (rl_out R R') ⟨rfl, [], ⟨rfl, _, rfl, .non⟩, List.nodup_nil, fun _ z => nomatch z⟩
  | rt t δ' =>
    rw [q] at P
    exact fun v σ' H' Fz' F' s R' A => P v H' Fz' _ s (rl_out R R') (av_out (b := b) (σ := σ') A)
  | er x δ' =>
    rw [q] at P
    exact fun c dd σ' H' Fz' F' s R' e => P c dd H' Fz' _ s (rl_out R R') e
theorem body_ok {K : PySem.W.Frag} {mg : Str → Option Value} {N : List Str} {vs : List V} {H : Hp} {Q : VK} {E : XK} {n : Nat} {pin : List Nat} {body : List Sl → Ot} (hN : n ≤ N.length) (hm : mkT ∉ pin) (h : spF K mg n (fnRun n N.length pin body) vs H Q E) :
    rdS K mg (fun cls d _ H => E cls d H) pin body { nx := fun _ H' => Q .non H', rt := Q } (L2.start N vs) H := by
  obtain ⟨hl, b, Fz, F, δ, R, P⟩ := h
  exact body_okM hN ⟨hl, b, Fz, F, δ, fun z => absurd z hm, R, P⟩
/-- the context of a def's body -/
abbrev GX (P : Program) (w : World) (K : PySem.W.Frag) (mg : Str → Option Value) (base : Heap) (N : List Str) (qual : Str) (scope : Scope) (f : Addr) (cd : Value) (A : Around) (outer : List Env) (s : Shared) (H : Hp) (E : XK) : Cx := cxOf (L2.CX P w) P w K mg base N qual scope f cd A outer s H E
abbrev GW (E : XK) : WX := fun cls d _ H => E cls d H
theorem fnG_ofM {P : Program} {w : World} {K : PySem.W.Frag} {mg : Str → Option Value} {base : Heap} {k : Nat} {f : Addr} {name qual : Str} {params : Arguments} {body : List Stmt} {scope : Scope} {dV kV doc pm cdv ct oc : Value} {an od : Option Addr}
    {osl : Array (Option Value)} {N ps : List Str} {n : Nat} {pin : List Nat} {fb : List Sl → Ot} (lk : K.lookup f = some ⟨oc, od, .func (PySem.W.fnOf name qual params body scope dV kV doc pm an cdv ct), osl⟩) (hcd : PySem.W.codeIn K cdv qual = true) (S : FnScope N ps scope)
    (hn : ps.length = n) (sp : Sp) (hs1 : ∀ vs H Q E, sp vs H Q E → vs.length = n) (hs2 : n ≤ N.length → ∀ vs H Q E, sp vs H Q E → rdS K mg (fun cls d _ H => E cls d H) pin fb { nx := fun _ H' => Q .non H', rt := Q } (L2.start N vs) H)
    (hbody : ∀ (A : Around) (outer : List Env) (s : Shared) (H : Hp) (E : XK), Room k (A.deeper (envOfC qual scope s.heap.objs.size f cdv)) → A.guards = some [] →
      SSs (GX P w K mg base N qual scope f cdv A outer s H E) (GW E) pin body fb) :
    FnG P w K mg base (k + 1) f (PySem.W.fnOf name qual params body scope dV kV doc pm an cdv ct) ps sp := by
  have hpl : n ≤ N.length := by have := congrArg List.length S.pre; rw [List.length_take] at this; omega
  refine ⟨fun vs H Q E h => (hs1 vs H Q E h).trans hn.symm, fun A outer s H args us vs Q E hgd hr e0 hb r hsp => ?_⟩
  have hl : vs.length = ps.length := (hs1 _ _ _ _ hsp).trans hn.symm
  have KX : K.In s.heap := e0.mod.kin.keeps fun b o e => (e0.bs b o e).1
  have lim : s.heap.NoLimit := e0.mod.nolimit.keeps fun b o e => (e0.bs b o e).1
  have hkind : ∀ y ∈ ps.zip us, scope.names.lookup y.1 = some .local ∨ (scope.names.lookup y.1 = some .cell ∧ ((cellsFrom (s.heap.objs.size + 1) scope.names []).lookup y.1).isSome = true) := fun ⟨n, v⟩ hy => by
    rcases S.par n (List.of_mem_zip hy).1 with q | q
    · exact .inl q
    · exact .inr ⟨q, PySem.W.cellsFrom_some _ _ _ (.inl q)⟩
  refine codeAny_call_function hr.depth (KX _ _ lk) rfl S.co S.gen rfl (PySem.W.codeRec_of KX hcd) (hb _ _ _ _ ?_)
  refine wpAny_newFunctionEnv_cells S.kind hkind fun env he s1 x => ?_
  subst he
  refine ⟨lim.keeps x.toInCall.keep, codeAny_func ?_⟩
  have ht := hbody A outer s H E (hr.deeper _) hgd
  have hq := hs2 hpl _ _ _ _ hsp
  have I : Inv (GX P w K mg base N qual scope f cdv A outer s H E) [] (L2.start N vs) H s1 := inv_start S hr.hd e0 hl r x
  refine wpAny_mono (ht.run [] s1 (L2.start N vs) H _ I hq) (fun fl s' hs => ?_) fun e s' hs => hs
  have fin : ∀ {σ' : L2.St} {H' : Hp} {v : V} {u : Value}, Inv (GX P w K mg base N qual scope f cdv A outer s H E) [] σ' H' s' → RelV v u → Q v H' → CE outer P w H s Q u s' :=
    fun {σ' H' v u} J rv q => ⟨v, H', J.os, J.bare, J.base, J.hok, rv, q⟩
  cases fl with
  | ret u =>
    obtain ⟨v, σ', H', J, rv, q⟩ := hs
    exact fin J rv q
  | next =>
    obtain ⟨σ', H', J, q⟩ := hs
    exact fin (v := V.non) (u := Value.none) J rfl q
  | brk =>
    obtain ⟨_, _, _, q⟩ := hs
    exact False.elim q
  | cont =>
    obtain ⟨_, _, _, q⟩ := hs
    exact False.elim q
theorem fnG_of {P : Program} {w : World} {K : PySem.W.Frag} {mg : Str → Option Value} {base : Heap} {k : Nat} {f : Addr} {name qual : Str} {params : Arguments} {body : List Stmt} {scope : Scope} {dV kV doc pm cdv ct oc : Value} {an od : Option Addr}
    {osl : Array (Option Value)} {N ps : List Str} {n : Nat} {pin : List Nat} {fb : List Sl → Ot} (lk : K.lookup f = some ⟨oc, od, .func (PySem.W.fnOf name qual params body scope dV kV doc pm an cdv ct), osl⟩) (hcd : PySem.W.codeIn K cdv qual = true) (S : FnScope N ps scope)
    (hn : ps.length = n)
    (hbody : ∀ (A : Around) (outer : List Env) (s : Shared) (H : Hp) (E : XK), Room k (A.deeper (envOfC qual scope s.heap.objs.size f cdv)) → A.guards = some [] →
      SSs (GX P w K mg base N qual scope f cdv A outer s H E) (GW E) pin body fb) (hm : mkT ∉ pin := by decide) :
    FnG P w K mg base (k + 1) f (PySem.W.fnOf name qual params body scope dV kV doc pm an cdv ct) ps (spF K mg n (fnRun n N.length pin fb)) :=
  fnG_ofM lk hcd S hn (spF K mg n (fnRun n N.length pin fb)) (fun _ _ _ _ h => h.1) (fun h _ _ _ _ z => body_ok h hm z) hbody
theorem gx_pass {P : Program} {w : World} {K : PySem.W.Frag} {mg : Str → Option Value} {base : Heap} {N : List Str} {qual : Str} {scope : Scope} {f : Addr} {cd : Value} {A : Around} {outer : List Env} {s : Shared} {H : Hp} {E : XK} :
    ∀ σ, PassesAt (L2.CX P w) (GX P w K mg base N qual scope f cd A outer s H E) σ (WE (GW E) σ) := passAt (X := GX P w K mg base N qual scope f cd A outer s H E) (W := GW E) (takes_of rfl rfl rfl rfl)
theorem w0_pass {X : Cx} {P : Program} {w : World} : ∀ σ, PassesAt (L2.CX P w) X σ (WE W0 σ) := fun σ pins H s e s' I h => by
  obtain ⟨_, _, _, _, _, _, _, _, _, _, _, _, z⟩ := h
  exact z.elim
theorem sp_law {K : PySem.W.Frag} {mg : Str → Option Value} {F : List Sl → FR} {H : Hp} {a : Addr} {ns : List Int} {δ : List Sl} (hX : SqX K H a (ns.map V.int)) (h : F [.fz (.list (ns.map PyData.int))] = .ok (.fz (.bool true)) δ) :
    spF K mg 1 F [.ref a] H (fun v _ => v = .bl true) fun _ _ _ => False := by
  have rL : ∀ ns : List Int, RpL K H (ns.map V.int) (ns.map PyData.int) := fun ns => by
    induction ns with
    | nil => exact .nil
    | cons n r ih => exact .cons (.int n) ih
  refine ⟨rfl, ⟨H, H, [], [], []⟩, H, fun _ => [], [.fz (.list (ns.map PyData.int))], ⟨Same.refl _, Same.refl _, rfl, fun i s e => ?_, fun _ => List.nodup_nil, fun _ _ _ z => (nomatch z), fun _ _ z => (nomatch z), fun _ _ z => (nomatch z), fun _ _ z => (nomatch z), fun _ _ => .inl rfl, fun _ h => h, fun _ z => (nomatch z), fun i x j e => ?_, fun _ _ z => (nomatch z), .nil rfl, fun z => (nomatch z)⟩, ?_⟩
  · cases i with
    | zero =>
      cases e
      exact ⟨rfl, _, rfl, .lst hX (rL ns)⟩
    | succ i => cases e
  · cases i with
    | zero => cases e
    | succ i => cases e
  · rw [h]
    intro v H' Fz' F' s R A
    obtain ⟨_, g, ⟨_, v', e, r⟩, _⟩ := A
    cases e
    cases r
    rfl
/-- the head's end: the law is called over a ground that shows nothing but the script -/
theorem lawG {P : Program} {w : World} {K : PySem.W.Frag} {mg mb : Str → Option Value} {k : Nat} {fa a : Addr} {fd : FuncData} {x : Str} {sp : Sp} {s₁ : Shared} {vs : List Value} {ns : List Int}
    (KX : K.In s₁.heap) (hns : s₁.heap.Ns mainGlobals mg) (hb : s₁.heap.Ns builtinsNs mb) (hbb : ∀ x : Str, x ≠ "__name__" → mb x = bootBuiltins x) (hlim : s₁.heap.NoLimit) (hg : s₁.gens = #[])
    (ha : s₁.heap.get? a = some { cls := .type "list", data := .seq vs.toArray }) (hi : IntsAre vs ns) (hl : ns.length ≤ sizeLine) (hr : Room k callerA)
    (FF : ∀ bs : Heap, K.In bs → bs.Ns mainGlobals mg → FnG P w K mg bs k fa fd [x] sp) (hbind : ∀ (s : Shared) (u : Value), BindsTo s fd ⟨[u], []⟩ [(x, u)])
    (hsp : ∀ H : Hp, SqX K H a (ns.map V.int) → sp [.ref a] H (fun v _ => v = .bl true) fun _ _ _ => False) :
    codeAny (model P w) callerA (.call (.ref fa) ⟨[.ref a], []⟩) (fun r s' => r = .ok (.ret (.bool true)) ∧ OldK s₁.heap s'.heap ∧ s'.os = s₁.os ∧ AllBare s'.gens) s₁ := by
  have rv := vals_ints hi
  have nv := hi.length
  have main : ∀ G : Hp, Only G → SqX K G a (ns.map V.int) → HOk P w G s₁.heap → (∀ c, G c ≠ none → c = a) → (G a ≠ none → K.lookup a = none) →
      codeAny (model P w) callerA (.call (.ref fa) ⟨[.ref a], []⟩) (fun r s' => r = .ok (.ret (.bool true)) ∧ OldK s₁.heap s'.heap ∧ s'.os = s₁.os ∧ AllBare s'.gens) s₁ := by
    intro G gO gS gok gA gK
    have at_a : ∀ {c : Addr} {u : HO}, G c = some u → c = a := fun {c u} e => gA c (by rw [e]; simp)
    have free : ∀ {c : Addr} {o : Obj} {es : Array DictEntry} {ep : Nat}, s₁.heap.get? c = some o → o.data = .dict es ep → G c = none := fun {c o es ep} e d => by
      cases q : G c with
      | none => rfl
      | some u =>
        have e2 := at_a q
        subst e2
        rw [ha] at e
        cases e
        exact absurd d (by intro z; cases z)
    have names : ∀ {c : Addr} {m : Str → Option Value}, s₁.heap.Ns c m → (hidT s₁.heap G).Ns c m := fun {c m} ⟨o, es, ep, e, d, r⟩ => ⟨o, es, ep, hidT_get e (free e d), d, r⟩
    have kin : K.In (hidT s₁.heap G) := fun c o e => hidT_get (KX c o e) (by
      cases q : G c with
      | none => rfl
      | some u =>
        have e2 := at_a q
        subst e2
        rw [gK (by rw [q]; simp)] at e
        cases e)
    have md : Mod K mg (hidT s₁.heap G) := ⟨kin, names hns, ⟨mb, names hb, hbb⟩, let ⟨mc, h1, h2⟩ := hlim; ⟨mc, names h1, h2⟩⟩
    have e0 : Env0 P w K mg (hidT s₁.heap G) callerA [] s₁ G := ⟨rfl, md, fun c o e => of_hidT e, Nat.le_of_eq (hidT_size _ _), trivial, fun c z => absurd (show c ∈ ([] : List Addr) from z) (by simp), gok, .of_eq hg⟩
    refine codeAny_mono ((FF _ kin (names hns)).run callerA [] s₁ G ⟨[.ref a], []⟩ [.ref a] [.ref a] _ _ rfl hr e0 (hbind s₁ (.ref a)) (.cons rfl .nil) (hsp G gS)) fun r s' h => ?_
    cases r with
    | error e =>
      obtain ⟨_, _, _, _, _, _, _, _, _, _, _, _, z⟩ := h
      exact z.elim
    | ok fl =>
      cases fl with
      | next => exact False.elim h
      | brk => exact False.elim h
      | cont => exact False.elim h
      | ret u =>
        obtain ⟨v, G2, os, bare, un, ok2, r2, q⟩ := h
        have q : v = .bl true := q
        subst q
        obtain rfl : u = Value.bool true := r2
        refine ⟨rfl, OldK.of_keep fun c o e => ?_, os, bare⟩
        cases q2 : G c with
        | none => exact un.keep c o e q2 (fun z => absurd (show c ∈ ([] : List Addr) from z) (by simp)) (by simp)
        | some u =>
          rcases gO c with z | ⟨oc, xs, z⟩
          · rw [q2] at z; cases z
          · obtain ⟨e1, _⟩ := gok c _ z
            obtain ⟨e2, _⟩ := ok2 c _ (un.frzs c oc _ z)
            rw [e] at e1
            cases e1
            exact e2
  cases hk : K.lookup a with
  | some o =>
    have e := KX a o hk
    rw [ha] at e
    cases e
    exact main (fun _ => none) (fun _ => .inl rfl) (.inr ⟨vs, 0, hk, by rw [nv]; exact hl, rv⟩) (fun c u z => nomatch z) (fun c z => absurd rfl z) fun z => absurd rfl z
  | none =>
    refine main (fun c => if c = a then some (.frz { cls := .type "list", data := .seq vs.toArray } (.lst (ns.map V.int))) else none) (fun c => ?_) (.inl (.inr ⟨_, if_pos rfl⟩)) (fun c u z => ?_) (fun c z => ?_) fun _ => hk
    · by_cases hc : c = a
      · exact .inr ⟨_, _, if_pos hc⟩
      · exact .inl (if_neg hc)
    · by_cases hc : c = a
      · have z2 := (if_pos hc).symm.trans z
        cases z2
        subst hc
        exact ⟨ha, by rw [List.length_map]; exact hl, vs, _, rv, ha⟩
      · have z2 := (if_neg hc).symm.trans z
        cases z2
    · by_cases hc : c = a
      · exact hc
      · exact absurd (if_neg hc) z
theorem walkG {l : PySem.W.OpenLaw} {n k : Nat} {q : Program} {loose : List Str} {XP : (Str → Option Value) → Heap → Prop} {YP : World → Heap → Prop} {d : DefRec} {x : Str}
    (hn : l.most = some n) (hn2 : n ≤ sizeLine) (hdf : d.params.defaults = []) (hr : Room k callerA)
    (FF : ∀ (w : World) (mg : Str → Option Value) (fa : Addr) (h : Heap), YP w h → h.Ns mainGlobals mg → mg d.name = some (.ref fa) →
      ∃ (K : PySem.W.Frag) (fd : FuncData) (sp : Sp), K.In h ∧ (∀ (s : Shared) (u : Value), BindsTo s fd ⟨[u], []⟩ [(x, u)]) ∧
        (∀ (H : Hp) (a : Addr) (ns : List Int), ns.length ≤ n → SqX K H a (ns.map V.int) → sp [.ref a] H (fun v _ => v = .bl true) fun _ _ _ => False) ∧
        ∀ bs : Heap, K.In bs → bs.Ns mainGlobals mg → FnG l.prog w K mg bs k fa fd [x] sp) :
    PySem.W.WalkO q loose XP YP l.row.toRowW d [] (fun f vs => PySem.call f vs) := by
  refine Att.attach_call hn hdf fun w s₀ s₁ mg mb fa o pm cd doc a vs ns G Y ho hd hcd hmg hobj hints hlen hg => ?_
  obtain ⟨K, fd, sp, KX, hb, hsp, hF⟩ := FF w mg fa _ Y G.T.g hmg
  exact lawG KX G.T.g G.T.b G.T.builtins G.T.nolimit hg hobj hints (Nat.le_trans hlen hn2) hr hF hb fun H hS => hsp H a ns hlen hS
end Hb
namespace Hb
open PySem PySem.Spec PyProof.Rows L2
mutual
def shw : PyData → Bool
  | .none => true
  | .bool _ => true
  | .str _ => true
  | .int i => decide (i.natAbs.log2 < 1920)
  | .list xs => shwAll xs
  | .tuple xs => shwAll xs
  | .dict kvs => kvs.isEmpty
def shwAll : List PyData → Bool
  | [] => true
  | x :: xs => shw x && shwAll xs
end
section
variable {X : Cx} {pins : List (Addr × Obj)} {σ : L2.St} {H : Hp} {s : Shared}
def RR (X : Cx) (h : Heap) (u : Value) (d : PyData) : Prop := ∃ bs as, Reads h u d as ∧ ReadAtMost h d.depth bs ∧ ReprK X.prog X.w bs h d.depth u d.shown
def RRs (X : Cx) (h : Heap) (us : List Value) (ds : List PyData) : Prop := ∃ bs as, ReadsAll h us ds as ∧ ReadAtMost h (PyData.depthAll ds) bs ∧ ReprAllK X.prog X.w bs h (PyData.depthAll ds) us (PyData.shownAll ds)
theorem rr_cons {h : Heap} {u : Value} {us : List Value} {d : PyData} {ds : List PyData} : RR X h u d → RRs X h us ds → RRs X h (u :: us) (d :: ds) := fun ⟨b1, a1, r1, m1, k1⟩ ⟨b2, a2, r2, m2, k2⟩ => by
  refine ⟨b1 ++ b2, _, .cons r1 r2, ?_, ?_⟩
  · simp only [PyData.depthAll]
    exact (m1.mono (Nat.le_max_left _ _)).append (m2.mono (Nat.le_max_right _ _))
  · simp only [PyData.depthAll, PyData.shownAll]
    exact .cons ((k1.more fun b hb => List.mem_append_left _ hb).level_le (Nat.le_max_left _ _)) (k2.more_le (fun b hb => List.mem_append_right _ hb) (Nat.le_max_right _ _))
theorem rr_leaf {h : Heap} {u : Value} {d : PyData} (r : Reads h u d []) (k : ReprIs X.prog X.w u d.shown) : RR X h u d := ⟨[], _, r, fun _ z => (nomatch z), .of_is k _ _ _⟩
theorem rr_list {h : Heap} {a : Addr} {its : List Value} {n : Nat} {ds : List PyData} (e : h.get? a = some { cls := .type "list", data := .seq its.toArray n }) : RRs X h its ds → RR X h (.ref a) (.list ds) := fun ⟨bs, as, r, m, k⟩ => by
  have rr : Reads h (.ref a) (.list ds) _ := .list e rfl rfl (by simpa using r)
  have na : a ∉ bs := not_mem_of_deeper rr (by simp only [PyData.depth]; omega) m
  refine ⟨a :: bs, _, rr, ReadAtMost.cons rr (by simp only [PyData.depth]; omega) m, ?_⟩
  simp only [PyData.depth, PyData.shown]
  cases its with
  | nil =>
    cases r
    simp only [PyData.shownAll, listText_nil]
    exact ReprK.listEmpty e rfl rfl
  | cons x l => exact ReprK.list e rfl rfl na (by simpa using k.length_eq) fun i y q => k.item i y (by simpa using q)
theorem rr_tup {h : Heap} {a : Addr} {o : Obj} {its : List Value} {n : Nat} {ds : List PyData} (e : h.get? a = some o) (hc : o.cls = .type "tuple") (hd : o.data = .seq its.toArray n) : RRs X h its ds → RR X h (.ref a) (.tuple ds) := fun ⟨bs, as, r, m, k⟩ => by
  have rr : Reads h (.ref a) (.tuple ds) _ := .tuple e hc hd (by simpa using r)
  have na : a ∉ bs := not_mem_of_deeper rr (by simp only [PyData.depth]; omega) m
  refine ⟨a :: bs, _, rr, ReadAtMost.cons rr (by simp only [PyData.depth]; omega) m, ?_⟩
  simp only [PyData.depth, PyData.shown]
  exact ReprK.tuple e hc hd na (by simpa using k)
theorem rr_dic {h : Heap} {a : Addr} {o : Obj} {n : Nat} (e : h.get? a = some o) (hc : o.cls = .type "dict") (hd : o.data = .dict #[] n) (hs : (a == sysModules) = false) : RR X h (.ref a) (.dict []) := by
  have rr : Reads h (.ref a) (.dict []) _ := .dict e hc hd (by simpa using ReadsAll.nil) (by simpa using ReadsAll.nil)
  have m : ReadAtMost h (PyData.depthKv []) [] := fun _ z => (nomatch z)
  refine ⟨a :: [], _, rr, ReadAtMost.cons rr (by simp only [PyData.depth]; omega) m, ?_⟩
  simp only [PyData.depth, PyData.shown]
  exact ReprK.dict e hc hd hs (by simp) (by simpa [PyData.shownKv] using ReprEntriesK.nil)
mutual
theorem rr_of (I : Inv X pins σ H s) : ∀ {v : V} {d : PyData} {u : Value}, Rp X.K H v d → RelV v u → shw d = true → d.shown.length ≤ sizeLine → RR X s.heap u d
  | _, _, _, .non, e, _, _ => by
    obtain rfl : _ = Value.none := e
    exact rr_leaf .none (by simp only [PyData.shown]; exact ReprIs.none)
  | _, _, _, .bl b, e, _, _ => by
    obtain rfl : _ = Value.bool b := e
    exact rr_leaf (.bool b) (by simp only [PyData.shown]; exact ReprIs.bool b)
  | _, _, _, .int i, e, hs, _ => by
    obtain ⟨t, rfl⟩ := e
    exact rr_leaf (.int i t) (by simp only [PyData.shown]; exact ReprIs.int t (by simpa [shw] using hs))
  | _, _, _, .str x, e, _, hz => by
    obtain ⟨t, rfl⟩ := e
    exact rr_leaf (.str x t) (by simp only [PyData.shown] at hz ⊢; exact ReprIs.str x t hz)
  | _, _, _, .lst (ds := ds) h1 h2, e, hs, hz => by
    obtain rfl : _ = Value.ref _ := e
    obtain ⟨its, n, r, e, _⟩ := inv_lstX I h1
    have hz' : (listText (PyData.shownAll ds)).length ≤ sizeLine := by simpa only [PyData.shown] using hz
    exact rr_list e (rrs_of I h2 r (by simpa [shw] using hs) fun t ht => Nat.le_trans (listText_mem_le ht) hz')
  | _, _, _, .tup (ds := ds) h1 h2, e, hs, hz => by
    obtain rfl : _ = Value.ref _ := e
    obtain ⟨its, r, ⟨o, e, hc, n, hd⟩, _⟩ := I.tuple (h1.sq (K := X.K))
    have hz' : (tupleText (PyData.shownAll ds)).length ≤ sizeLine := by simpa only [PyData.shown] using hz
    exact rr_tup e hc hd (rrs_of I h2 r (by simpa [shw] using hs) fun t ht => Nat.le_trans (tupleText_mem_le ht) hz')
  | _, _, _, .dK h1 h2, e, hs, _ => by
    obtain rfl : _ = Value.ref _ := e
    cases h2 with
    | cons _ _ => simp [shw] at hs
    | nil =>
      obtain ⟨_, hy, vs, kv, o, es, ep, e, hx, hd, _, pr, _⟩ := I.hok _ _ h1.1
      exact absurd rfl h1.2
  | _, _, _, .dT h1 h2, e, hs, _ => by
    obtain rfl : _ = Value.ref _ := e
    cases h2 with
    | cons _ _ _ => simp [shw] at hs
    | nil =>
      obtain ⟨_, hy, xs, kv, o, es, ep, e, hx, hd, pr, _⟩ := dp_of I.hok (Same.refl _) (.inl h1)
      cases kv
      have e2 : es = #[] := by simpa using pr
      subst e2
      exact rr_dic e hx.1 hd hy
theorem rrs_of (I : Inv X pins σ H s) : ∀ {vs : List V} {ds : List PyData} {us : List Value}, RpL X.K H vs ds → Vals vs us → shwAll ds = true → (∀ t ∈ PyData.shownAll ds, t.length ≤ sizeLine) → RRs X s.heap us ds
  | _, _, _, .nil, r, _, _ => by
    cases r
    exact ⟨[], _, .nil, fun _ z => (nomatch z), by simp only [PyData.shownAll]; exact .nil⟩
  | _, _, _, .cons (d := d) (ds := ds) h t, r, hs, hz => by
    cases r with
    | cons r1 r2 =>
      have hs2 : shw d = true ∧ shwAll ds = true := by simpa [shwAll] using hs
      exact rr_cons (rr_of I h r1 hs2.1 (hz _ (by simp only [PyData.shownAll]; exact List.mem_cons_self))) (rrs_of I t r2 hs2.2 fun t ht => hz _ (by simp only [PyData.shownAll]; exact List.mem_cons_of_mem _ ht))
end
/-- repr(v): no repr is running -/
def rRepr (K : PySem.W.Frag) : List V → Hp → VK → Prop := fun xs H Q => ∃ v d, xs = [v] ∧ Rp K H v d ∧ (shw d = true ∧ d.depth ≤ 60) ∧ d.shown.length ≤ sizeLine ∧ Q (.str d.shown) H
theorem call_reprT (hu : X.A.units + 64 < cLine) (hg : X.A.guards = some []) : CallR X (.builtin "repr") (rRepr X.K) := by
  intro pins s σ H xs us Q I r h
  obtain ⟨v, d, rfl, hr, ⟨hs, hd⟩, hz, q⟩ := h
  obtain ⟨u, rfl, rv⟩ := vals1 r
  have fin : ∀ h' tk tk2, (∀ b o, s.heap.get? b = some o → h'.get? b = some o) → EP X pins σ Q (.str d.shown tk) { s with heap := h', toks := tk2 } := fun h' tk tk2 k => ⟨.str d.shown, H, I.kept k, ⟨_, rfl⟩, q⟩
  cases hr with
  | non =>
    obtain rfl : _ = Value.none := rv
    exact PySem.P.repr_of_none (by simpa [PyData.shown] using fin s.heap _ _ fun _ _ e => e)
  | bl b =>
    obtain rfl : _ = Value.bool b := rv
    exact PySem.P.repr_of_bool (by simpa [PyData.shown] using fin s.heap _ _ fun _ _ e => e)
  | int i =>
    obtain ⟨t, rfl⟩ := rv
    exact PySem.P.repr_of_int (by simpa [shw] using hs) (by simpa [PyData.shown] using fin s.heap _ _ fun _ _ e => e)
  | str x =>
    obtain ⟨t, rfl⟩ := rv
    exact PySem.P.repr_of_str (by simpa [PyData.shown] using fin s.heap _ _ fun _ _ e => e) (by simpa [PyData.shown] using hz)
  | lst h1 h2 =>
    rename_i a xs ds
    obtain rfl : _ = Value.ref a := rv
    obtain ⟨its, n, r, e, _⟩ := inv_lstX I h1
    have hz' : (listText (PyData.shownAll ds)).length ≤ sizeLine := by simpa only [PyData.shown] using hz
    obtain ⟨bs, as, rs, m, k⟩ := rrs_of I h2 r (by simpa [shw] using hs) fun t ht => Nat.le_trans (listText_mem_le ht) hz'
    have rr : Reads s.heap (.ref a) (.list ds) _ := .list e rfl rfl (by simpa using rs)
    have na : a ∉ bs := not_mem_of_deeper rr (by simp only [PyData.depth]; omega) m
    simp only [PyData.depth] at hd
    simp only [PyData.shown] at fin
    refine call_repr_slot (T := "list") (by omega) ⟨_, e, rfl⟩ F.slot_list_repr.toG ?_
    cases its with
    | nil =>
      cases rs
      simp only [PyData.shownAll, listText_nil] at fin
      exact call_list_repr_empty ⟨_, e, rfl⟩ e rfl ⟨_, _, rfl, fin s.heap _ _ fun _ _ e => e⟩
    | cons x l =>
      exact call_list_reprK e rfl rfl na (by simpa using k.length_eq) (fun i y q => k.item i y (by simpa using q)) hg (fun b _ => Clear.nil b) (by show X.A.units + 1 + _ < cLine; omega) (fun _ _ e => e) (fun h' u tk kk => ⟨_, _, rfl, fin h' _ _ kk⟩) hz'
  | tup h1 h2 =>
    rename_i a xs ds
    obtain rfl : _ = Value.ref a := rv
    obtain ⟨its, r, ⟨o, e, hc, n, hdd⟩, _⟩ := I.tuple (h1.sq (K := X.K))
    have hz' : (tupleText (PyData.shownAll ds)).length ≤ sizeLine := by simpa only [PyData.shown] using hz
    obtain ⟨bs, as, rs, m, k⟩ := rrs_of I h2 r (by simpa [shw] using hs) fun t ht => Nat.le_trans (tupleText_mem_le ht) hz'
    have rr : Reads s.heap (.ref a) (.tuple ds) _ := .tuple e hc hdd (by simpa using rs)
    have na : a ∉ bs := not_mem_of_deeper rr (by simp only [PyData.depth]; omega) m
    simp only [PyData.depth] at hd
    simp only [PyData.shown] at fin
    refine call_repr_slot (T := "tuple") (by omega) ⟨_, e, hc⟩ F.slot_tuple_repr ?_
    exact call_tuple_reprK e hc hdd na (by simpa using k) hg (fun b _ => Clear.nil b) (by show X.A.units + 1 + _ < cLine; omega) (fun _ _ e => e) (fun h' u tk kk => ⟨_, _, rfl, fin h' _ _ kk⟩) hz'
  | dK h1 h2 =>
    cases h2 with
    | cons _ _ => simp [shw] at hs
    | nil => exact absurd rfl h1.2
  | dT h1 h2 =>
    cases h2 with
    | cons _ _ _ => simp [shw] at hs
    | nil =>
      rename_i a
      obtain rfl : _ = Value.ref a := rv
      obtain ⟨_, hy, xs, kv, o, es, ep, e, hx, hdd, pr, _⟩ := dp_of I.hok (Same.refl _) (.inl h1)
      cases kv
      have e2 : es = #[] := by simpa using pr
      subst e2
      simp only [PyData.shown] at fin hz
      refine call_repr_slot (T := "dict") (by omega) ⟨_, e, hx.1⟩ F.slot_dict_repr ?_
      exact call_dict_reprK (as := []) (d := 0) e hx.1 hdd hy (by simp) .nil hg (fun b _ => Clear.nil b) (by show X.A.units + 1 + _ < cLine; omega) (fun _ _ e => e) (fun h' u tk kk => ⟨_, _, rfl, by simpa [PyData.shownKv] using fin h' _ _ kk⟩) (by simpa [PyData.shownKv] using hz)
def reprD (d : PyData) : Option PyData := if (shw d = true ∧ d.depth ≤ 60) ∧ d.shown.length ≤ sizeLine then some (.str d.shown) else none
theorem c1_repr {K : PySem.W.Frag} {mg : Str → Option Value} {W : WX} {pin : List Nat} : C1 K mg W pin (rRepr K) (gRd reprD) := c1_rd fun v d e H Q r k f q => by
  unfold reprD at k
  split at k
  · rename_i h
    cases k
    exact ⟨v, d, rfl, r, h.1, h.2, q⟩
  · cases k
end
end Hb
namespace Hb
open PySem PySem.Spec PyProof.Rows L2
def rRepX (K : PySem.W.Frag) : R2 := fun x y H Q => ∃ l k xs, x = .ref l ∧ y = .int k ∧ SqX K H l xs ∧ -(2 ^ 63) ≤ k ∧ k < 2 ^ 63 ∧ xs.length * k.toNat ≤ sizeLine ∧
  ∀ p, H p = none → Q (.ref p) (upd H p (.lst (List.replicate k.toNat xs).flatten))
theorem op_repX {X : Cx} : OpR X (binaryOp .Mult) (rRepX X.K) := by
  intro pins s σ H x y v u Q I rx ry h
  obtain ⟨l, k, xs, rfl, rfl, hX, k1, k2, hz, q⟩ := h
  cases rx
  obtain ⟨t, rfl⟩ := ry
  obtain ⟨its, n, r, e, z⟩ := inv_lstX I hX
  have hl := r.length
  have hlen : its.toArray.size * k.toNat ≤ sizeLine := by rw [List.size_toArray, ← hl]; exact hz
  have line8 : (sizeLine : Nat) ≤ (2 ^ 63 - 1) / 8 := by decide
  have notcap : ¬ its.toArray.size * k.toNat > (2 ^ 63 - 1) / 8 := by omega
  have fit : ¬ (!Builtin.List.listFitsIndex k) = true := by
    rw [fitsIndex_both k1 k2]
    exact Bool.false_ne_true
  have notlong : ¬ Builtin.List.listTooLong (its.toArray.size * k.toNat) = true := by
    rw [notLongL hlen]
    exact Bool.false_ne_true
  have made : List.foldl (fun x1 x2 => x1 ++ x2) #[] (List.replicate (if its.toArray.isEmpty = true then 0 else k.toNat) its.toArray) = (List.replicate k.toNat its).flatten.toArray := by
    have f0 : ∀ m : Nat, List.foldl (fun x1 x2 => x1 ++ x2) #[] (List.replicate m its.toArray) = (List.replicate m its).flatten.toArray := fun m => by
      have g := foldl_rep its m []
      rwa [List.nil_append] at g
    rw [f0]
    cases its with
    | nil => simp
    | cons a r' => rw [if_neg (by simp)]
  refine wpAny_binaryOp_repeat_ref (T := "list") (U := "int") (by decide) ⟨_, e, rfl⟩ (fun s' => typeIs_int s' k t) noFill_list_mul F.fills_int_mul F.slot_int_rmul repeat_list F.slot_int_index.lookup
    (call_meets F.slot_int_rmul (typeIs_int s k t) F.entry_int_rmul (F.args_int_rmul_2 _ _) (int___rmul___int_list k t l its.toArray n)
      ⟨e, rfl, ⟨_, e, rfl⟩, call_meets F.slot_list_mul ⟨_, e, rfl⟩ F.entry_list_mul (F.args_list_mul_2 _ _) (AutoListH.list___mul___list_int_3 l its.toArray n k t fit notcap notlong) ⟨e, ?_⟩⟩)
  rw [made]
  exact ⟨.ref _, _, I.lnew (t' := s.toks) (r.rep k.toNat) (by rw [PyProof.Rows.lm_len_rep_flat, Nat.mul_comm]; exact hz), rfl, q _ I.fresh⟩
def rMulX (K : PySem.W.Frag) : R2 := fun x y H Q => (rI CMul (fun i j => .int (i * j)) x y H Q ∨ rI CMulW (fun i j => .int (i * j)) x y H Q) ∨ rRepX K x y H Q
theorem op_mulX2 {X : Cx} : OpR X (binaryOp .Mult) (rMulX X.K) := OpR.or (OpR.or op_mul op_mulW) op_repX
theorem RpL.rep {K : PySem.W.Frag} {H : Hp} {vs : List V} {ds : List PyData} (h : RpL K H vs ds) : ∀ k : Nat, RpL K H (List.replicate k vs).flatten (List.replicate k ds).flatten
  | 0 => .nil
  | k + 1 => by
    rw [List.replicate_succ, List.replicate_succ, List.flatten_cons, List.flatten_cons]
    exact h.append (RpL.rep h k)
def gMulX (x y : AV) (δ : List Sl) : Rs AV := match rdC δ x, rdC δ y with
  | some (.int i), some (.int j) => if i.natAbs < 2 ^ 64 ∨ j.natAbs < 2 ^ 64 then .ok (.val (.int (i * j))) δ else .bad
  | some (.list ds), some (.int k) => if ds.length ≤ 1000 ∧ 0 ≤ k ∧ k ≤ 1000 then .ok (.tmp (.ol ((List.replicate k.toNat ds).flatten.map .fz))) δ else .bad
  | _, _ => .bad
section
variable {K : PySem.W.Frag} {mg : Str → Option Value} {W : WX} {pin : List Nat}
theorem v2_mul : V2 K mg W pin (rMulX K) gMulX := by
  intro b Fz F δ σ H v w x y Q hp R A B P
  unfold gMulX at P
  cases q1 : rdC δ x with
  | none => simp only [q1] at P; exact P.elim
  | some d =>
    cases q2 : rdC δ y with
    | none => cases d <;> (simp only [q1, q2] at P; exact P.elim)
    | some e =>
      have h1 := rdC_ok R A q1
      have h2 := rdC_ok R B q2
      cases d with
      | int i =>
        cases e with
        | int j =>
          simp only [q1, q2] at P
          by_cases c : i.natAbs < 2 ^ 64 ∨ j.natAbs < 2 ^ 64
          · rw [if_pos c] at P
            exact .inl (.inl ⟨i, j, rpc_int h1, rpc_int h2, by unfold CMul; omega, P _ H Fz F (Same.refl _) R (.int _)⟩)
          · rw [if_neg c] at P; exact P.elim
        | _ => simp only [q1, q2] at P; exact P.elim
      | list ds =>
        cases e with
        | int k =>
          simp only [q1, q2] at P
          by_cases c : ds.length ≤ 1000 ∧ 0 ≤ k ∧ k ≤ 1000
          · rw [if_pos c] at P
            obtain ⟨a1, v1, e1, s1, r1⟩ := h1.list R.le
            have l1 := r1.len
            have hk : k.toNat ≤ 1000 := by omega
            refine .inr ⟨a1, k, v1, e1, rpc_int h2, s1, by omega, by omega, ?_, post_newL R (r1.rep k.toNat) P⟩
            have := Nat.mul_le_mul (Nat.le_of_eq l1) hk
            have h3 := Nat.mul_le_mul_right 1000 c.1
            rw [sizeLine_eq]
            omega
          · rw [if_neg c] at P; exact P.elim
        | _ => simp only [q1, q2] at P; exact P.elim
      | _ => cases e <;> (simp only [q1, q2] at P; exact P.elim)
end
section
variable {X : Cx} {W : WX} {pin : List Nat} {fa fb : List Sl → Rs AV} {a c : Expr} {pos : Pos}
theorem se_mul (ha : SE X W pin a fa) (hb : SE X W pin c fb) : SE X W pin (.BinOp a .Mult c pos) (s2 gMulX fa fb) := se_bin op_mulX2 v2_mul ha hb
end
def noIo : List Ar → Bool
  | [] => true
  | .io _ :: _ => false
  | .fz _ :: r => noIo r
  | .own _ :: r => noIo r
def asgA : List Nat → List Ar → List Sl → Ot
  | [], [], δ => .nx δ
  | k :: ks, .fz d :: r, δ => asgA ks r (upS k (.fz d) δ)
  | k :: ks, .own s :: r, δ => asgA ks r (upS k s δ)
  | _, _, _ => .bad
def oPar (ks : List Nat) (g : List Sl → Rs (List Ar)) : List Sl → Ot := fun δ => match g δ with
  | .ok ars δ' => if noIo ars = true then asgA ks ars δ' else .bad
  | .er x δ' => .er x δ'
  | .bad => .bad
def setL (σ : L2.St) : List Nat → List V → L2.St
  | k :: ks, v :: vs => setL (σ.set k (some v)) ks vs
  | _, _ => σ
def ParH (K : PySem.W.Frag) (Fz H : Hp) (g : List Addr) (v : V) : Ar → Prop
  | .fz d => g = [] ∧ Rp K Fz v d
  | .own s => s.live = true ∧ SlH K Fz H [] g (some v) s
  | .io _ => False
def ParOk (K : PySem.W.Frag) (b : Bk) (Fz H : Hp) : (Addr → Prop) → List V → List Ar → Prop
  | _, [], [] => True
  | U, v :: vs, a :: r => ∃ g : List Addr, ParH K Fz H g v a ∧ g.Nodup ∧ (∀ c ∈ g, Fz c = none ∧ b.B c = none ∧ H c ≠ none ∧ ¬U c) ∧ ParOk K b Fz H (fun c => U c ∨ c ∈ g) vs r
  | _, _, _ => False
theorem parOk_of {K : PySem.W.Frag} {b : Bk} {Fz H : Hp} {σ : L2.St} : ∀ {ars : List Ar} {vs : List V} {G : Nat → List Addr} {U : Addr → Prop}, vs.length = ars.length → (∀ (j : Nat) (a : Ar), ars[j]? = some a → ∃ v, vs[j]? = some v ∧ ArH K Fz H σ (G j) v a) → (∀ j, (G j).Nodup) →
    (∀ i j a, a ∈ G i → a ∈ G j → i = j) → (∀ j c, c ∈ G j → Fz c = none ∧ b.B c = none ∧ H c ≠ none ∧ ¬U c) → noIo ars = true → ParOk K b Fz H U vs ars
  | [], [], _, _, _, _, _, _, _, _ => trivial
  | [], v :: vs, _, _, h, _, _, _, _, _ => by cases h
  | a :: r, [], _, _, h, _, _, _, _, _ => by cases h
  | a :: r, v :: vs, G, U, h, hA, nd, dj, off, io => by
    obtain ⟨w, e1, e2⟩ := hA 0 a rfl
    cases e1
    refine ⟨G 0, ?_, nd 0, off 0, parOk_of (σ := σ) (G := fun j => G (j + 1)) (by simpa using h) (fun j c e => ?_) (fun j => nd _) (fun i j c h1 h2 => by have := dj _ _ c h1 h2; omega) (fun j c hc => ?_) ?_⟩
    · cases a with
      | fz d => exact e2
      | own s => exact e2
      | io k => cases io
    · obtain ⟨w, e3, e4⟩ := hA (j + 1) c (by simpa using e)
      exact ⟨w, by simpa using e3, e4⟩
    · obtain ⟨h1, h2, h3, h4⟩ := off (j + 1) c hc
      exact ⟨h1, h2, h3, fun z => z.elim h4 fun z => by have := dj _ _ c hc z; omega⟩
    · cases a with
      | fz d => exact io
      | own s => exact io
      | io k => cases io
theorem asgA_ok {K : PySem.W.Frag} {mg : Str → Option Value} {W : WX} {b : Bk} {Fz H : Hp} {D : Ends} : ∀ {ks : List Nat} {ars : List Ar} {vs : List V} {F : Nat → List Addr} {δ : List Sl} {σ : L2.St} {U : Addr → Prop}, (∀ k ∈ ks, k ∉ b.pin) → (∀ k c, c ∈ F k → U c) → Rl K b Fz F δ σ H → ParOk K b Fz H U vs ars →
    PostS K mg W b Fz D (asgA ks ars δ) → vs.length = ks.length ∧ D.nx (setL σ ks vs) H
  | [], [], [], F, δ, σ, U, _, _, R, A, P => ⟨rfl, P σ H Fz F (Same.refl _) R⟩
  | _, [], v :: vs, _, _, _, _, _, _, _, A, _ => A.elim
  | _, a :: r, [], _, _, _, _, _, _, _, A, _ => A.elim
  | [], .fz d :: r, _, _, _, _, _, _, _, _, _, P => P.elim
  | [], .own d :: r, _, _, _, _, _, _, _, _, _, P => P.elim
  | k :: ks, [], _, _, _, _, _, _, _, _, _, P => P.elim
  | _, .io m :: r, v :: vs, _, _, _, _, _, _, _, A, _ => by
    obtain ⟨_, z, _⟩ := A
    exact z.elim
  | k :: ks, .fz d :: r, v :: vs, F, δ, σ, U, hp, hU, R, A, P => by
    obtain ⟨g, ⟨h0, h1⟩, h2, h3, h4⟩ := A
    subst h0
    have R1 := R.name (s := .fz d) (v := v) (hp k List.mem_cons_self) rfl (g := []) ⟨rfl, v, rfl, h1⟩ List.nodup_nil fun _ z => nomatch z
    have hU2 : ∀ m c, c ∈ (fun m => if m = k then [] else F m) m → U c ∨ c ∈ ([] : List Addr) := fun m c hc => by
      have hc : c ∈ (if m = k then [] else F m) := hc
      by_cases e : m = k
      · rw [if_pos e] at hc; cases hc
      · rw [if_neg e] at hc; exact .inl (hU m c hc)
    obtain ⟨q1, q2⟩ := asgA_ok (fun m hm => hp m (List.mem_cons_of_mem _ hm)) hU2 R1 h4 P
    exact ⟨by simp [q1], q2⟩
  | k :: ks, .own s :: r, v :: vs, F, δ, σ, U, hp, hU, R, A, P => by
    obtain ⟨g, ⟨h0, h1⟩, h2, h3, h4⟩ := A
    have R1 := R.name (s := s) (v := v) (hp k List.mem_cons_self) h0 (g := g) h1 h2 fun c hc => ⟨(h3 c hc).1, (h3 c hc).2.1, (h3 c hc).2.2.1, fun m z => (h3 c hc).2.2.2 (hU m c z)⟩
    have hU2 : ∀ m c, c ∈ (fun m => if m = k then g else F m) m → U c ∨ c ∈ g := fun m c hc => by
      have hc : c ∈ (if m = k then g else F m) := hc
      by_cases e : m = k
      · rw [if_pos e] at hc; exact .inr hc
      · rw [if_neg e] at hc; exact .inl (hU m c hc)
    obtain ⟨q1, q2⟩ := asgA_ok (fun m hm => hp m (List.mem_cons_of_mem _ hm)) hU2 R1 h4 P
    exact ⟨by simp [q1], q2⟩
theorem par_ok {K : PySem.W.Frag} {mg : Str → Option Value} {W : WX} {pin ks : List Nat} {g : List Sl → Rs (List Ar)} {D : Ends} {σ : L2.St} {H : Hp} (hp : ∀ k ∈ ks, k ∉ pin) : rdS K mg W pin (oPar ks g) D σ H → rdAr K mg W pin g σ H fun vs H' => vs.length = ks.length ∧ D.nx (setL σ ks vs) H' :=
  fun ⟨b, Fz, F, δ, hb, R, P⟩ => by
    refine ⟨b, Fz, F, δ, hb, R, ?_⟩
    unfold oPar at P
    cases q : g δ with
    | bad => rw [q] at P; exact P
    | er x δ' => rw [q] at P; exact PostXS.at_ P
    | ok ars δ' =>
      rw [q] at P
      simp only at P
      by_cases c : noIo ars = true
      · rw [if_pos c] at P
        intro vs H' Fz' F' G s R' A
        exact asgA_ok (U := fun c => ∃ k, c ∈ F' k) (by rw [hb]; exact hp) (fun k c hc => ⟨k, hc⟩) R' (parOk_of A.len A.at_ A.nd A.dj (fun j c hc => ⟨(A.off j c hc).1, (A.off j c hc).2.1, (A.off j c hc).2.2.1, fun ⟨k, z⟩ => (A.off j c hc).2.2.2 k z⟩) c) (PostS.le s P)
      · rw [if_neg c] at P
        exact P.elim
section
variable {X : Cx} {W : WX} {pin : List Nat} {a c e : Expr} {g : List Sl → Rs (List Ar)} {pos : Pos}
theorem ss_par2 {i j : Nat} {x y : Str} {px py pt : Pos} {kt k2 pt2} (hc : X.calm = true) (hN : X.N.Nodup) (hi : X.N[i]? = some x) (hj : X.N[j]? = some y) (hij : i ≠ j) (hp : ∀ k ∈ [i, j], k ∉ pin)
    (hx : X.env.scope.names.lookup x = some .local) (hy : X.env.scope.names.lookup y = some .local) (ha : SAr X W pin [a, c] g)
    (hw : swappedStores [.Tuple [.Name x px, .Name y py] kt pt] (.Tuple [a, c] k2 pt2) X.env = pure (some [x, y]) := by rfl)
    (hs : swapsWithSole [.Tuple [.Name x px, .Name y py] kt pt] (.Tuple [a, c] k2 pt2) pos.line X.env = pure false := by rfl) :
    SS X W pin (.Assign [.Tuple [.Name x px, .Name y py] kt pt] (.Tuple [a, c] k2 pt2) pos) (oPar [i, j] g) := ps_mono (ps_par hc hN hi hj hij hx hy ha hw hs) fun D σ H h => by
  obtain ⟨b, Fz, F, δ, hb, R, P⟩ := par_ok hp h
  refine ⟨b, Fz, F, δ, hb, R, ?_⟩
  cases q : g δ with
  | bad => rw [q] at P; exact P
  | er x δ' => rw [q] at P; exact P
  | ok ars δ' =>
    rw [q] at P
    intro vs H' Fz' F' G s R' A
    obtain ⟨hl, q⟩ := P vs H' Fz' F' G s R' A
    match vs, hl with
    | [v, w], _ => exact ⟨v, w, rfl, q⟩
end
end Hb
namespace Hb
open PySem PySem.Spec PyProof.Rows L2
structure Dfn (P : Program) (w : World) (K : PySem.W.Frag) (mg : Str → Option Value) (base : Heap) (k : Nat) (x : Str) (n : Nat) (F : List Sl → FR) (m : Nat) (dd : List PyData) : Prop where
  ex : ∃ (f : Addr) (fd : FuncData) (ps : List Str) (ds : List Value), mg x = some (.ref f) ∧ PySem.W.keepIn K (.ref f) = true ∧ FnG P w K mg base k f fd ps (spF K mg n F) ∧ Binds K fd ps ds ∧ Vals (dd.map dV) ds ∧ m + dd.length = n ∧ dd.all flatD = true
theorem Dfn.mono {P : Program} {w : World} {K : PySem.W.Frag} {mg : Str → Option Value} {base : Heap} {k j : Nat} {x : Str} {n : Nat} {F : List Sl → FR} {m : Nat} {dd : List PyData} (D : Dfn P w K mg base k x n F m dd) (h : k ≤ j) : Dfn P w K mg base j x n F m dd := by
  obtain ⟨f, fd, ps, ds, h1, h2, h3, h4⟩ := D.ex
  exact ⟨f, fd, ps, ds, h1, h2, h3.mono h, h4⟩
section
variable {X : Cx} {k : Nat} {W : WX} {pin : List Nat} {x : Str} {p pos : Pos} {e : Expr} {es : List Expr} {n m : Nat} {F : List Sl → FR} {g : List Sl → Rs (List Ar)} {dd : List PyData}
theorem se_callD (D : Dfn X.prog X.w X.K X.mg X.base k x n F m dd) (hr : Room k X.A) (hgd : X.A.guards = some []) (hx : ∀ σ, PassesAt (L2.CX X.prog X.w) X σ (WE W σ)) (hg : Gl X x)
    (ha : SAr X W pin (e :: es) g) (hlen : ∀ δ ars δ', g δ = .ok ars δ' → ars.length = m)
    (hdb : (x == ("__debug__" : Str)) = false := by decide) (he : starEach (e :: es) X.env = (false, eval e X.env) :: starEach es X.env := by rfl) (hpl : (backTo pos (starEach es X.env)).any (·.1) = false := by rfl) :
    SE X W pin (.Call (.Name x p) (e :: es) [] pos) (sCall F dd g) := by
  obtain ⟨f, fd, ps, ds, hm, hk, G, hb, hd, hn, hf⟩ := D.ex
  exact se_call G hr hgd hx hg hm hk hb hd hf ha (fun δ ars δ' q => by rw [hlen δ ars δ' q]; exact hn) hdb he hpl
end
section
variable {P : Program} {w : World} {K : PySem.W.Frag} {mg : Str → Option Value} {base : Heap} {name qual : Str} {params : Arguments} {body : List Stmt} {scope : Scope} {dvs : List V} {kws : List (Str × V)} {f : Addr} {fd : FuncData} {N ps : List Str} {n k : Nat} {pin : List Nat} {fb : List Sl → Ot}
theorem fnG_D (FD : FunD K name qual params body scope dvs kws f fd) (S : FnScope N ps scope) (hn : ps.length = n)
    (hbody : ∀ (cdv : Value) (A : Around) (outer : List Env) (s : Shared) (H : Hp) (E : XK), Room k (A.deeper (envOfC qual scope s.heap.objs.size f cdv)) → A.guards = some [] →
      SSs (GX P w K mg base N qual scope f cdv A outer s H E) (GW E) pin body fb) (hm : mkT ∉ pin := by decide) : FnG P w K mg base (k + 1) f fd ps (spF K mg n (fnRun n N.length pin fb)) := by
  obtain ⟨oc, od, dV, kV, doc, pm, an, cdv, ct, osl, rfl, lk, hcd, _, _⟩ := FD.ex
  exact fnG_of lk hcd S hn (hbody cdv) hm
end
end Hb
namespace Hb
open PySem PySem.Spec PyProof.Rows L2
def rEqE (K : PySem.W.Frag) (n : Bool) : R2 := fun x y H Q => ∃ a b xs, x = V.ref a ∧ y = V.ref b ∧ SqX K H a xs ∧ SqX K H b [] ∧ Q (.bl (n != xs.isEmpty)) H
section
variable {X : Cx}
theorem isList_of {h : Heap} {a : Addr} {its : List Value} {n : Nat} (e : h.get? a = some { cls := .type "list", data := .seq its.toArray n }) : h.IsList a its.toArray := ⟨_, e, rfl, n, rfl⟩
theorem op_eqE (hu : X.A.units + 64 < cLine) : OpR X (compareOp .Eq) (rEqE X.K false) := by
  intro pins s σ H x y v u Q I rx ry h
  obtain ⟨a, b, xs, rfl, rfl, h1, h2, q⟩ := h
  cases rx
  cases ry
  obtain ⟨i1, n1, r1, g1, _⟩ := inv_lstX I h1
  obtain ⟨i2, n2, r2, g2, _⟩ := inv_lstX I h2
  cases r2
  have hu0 : X.A.units < cLine := by omega
  cases r1 with
  | nil =>
    exact SeqAt.eq_listAt (e := fun _ => true) (isList_of g1) (isList_of g2) rfl hu0 (fun j h => nomatch h) ⟨.bl _, H, I, rfl, q⟩
  | cons r0 rt => exact SeqAt.eq_list_lengthsAt (isList_of g1) (isList_of g2) (by simp) hu0 ⟨.bl _, H, I, rfl, q⟩
theorem op_neE (hu : X.A.units + 64 < cLine) : OpR X (compareOp .NotEq) (rEqE X.K true) := by
  intro pins s σ H x y v u Q I rx ry h
  obtain ⟨a, b, xs, rfl, rfl, h1, h2, q⟩ := h
  cases rx
  cases ry
  obtain ⟨i1, n1, r1, g1, _⟩ := inv_lstX I h1
  obtain ⟨i2, n2, r2, g2, _⟩ := inv_lstX I h2
  cases r2
  have hu0 : X.A.units < cLine := by omega
  cases r1 with
  | nil => exact SeqAt.RcNeAt.lists (e := fun _ => true) (isList_of g1) (isList_of g2) rfl hu0 (fun j h => nomatch h) X.prog X.w _ _ ⟨.bl _, H, I, rfl, q⟩
  | cons r0 rt => exact SeqAt.RcNeAt.lists_lengths (isList_of g1) (isList_of g2) (by simp) hu0 X.prog X.w _ _ ⟨.bl _, H, I, rfl, q⟩
end
def gEqE (n : Bool) (x y : AV) (δ : List Sl) : Rs AV := match rdA δ x, rdA δ y with
  | some (.list ds), some (.list []) => .ok (.val (.bool (n != ds.isEmpty))) δ
  | _, _ => .bad
section
variable {K : PySem.W.Frag} {mg : Str → Option Value} {W : WX} {pin : List Nat}
theorem v2_eqE {n : Bool} : V2 K mg W pin (rEqE K n) (gEqE n) := by
  intro b Fz F δ σ H v w x y Q hp R A B P
  unfold gEqE at P
  cases q1 : rdA δ x with
  | none => simp only [q1] at P; exact P.elim
  | some d =>
    cases q2 : rdA δ y with
    | none => cases d <;> (simp only [q1, q2] at P; exact P.elim)
    | some e =>
      cases d with
      | list ds =>
        cases e with
        | list es =>
          cases es with
          | cons e0 er => simp only [q1, q2] at P; exact P.elim
          | nil =>
            simp only [q1, q2] at P
            have r1 := rdA_ok R A q1
            have r2 := rdA_ok R B q2
            cases r1 with
            | lst s1 l1 =>
              cases r2 with
              | lst s2 l2 =>
                cases l2
                refine ⟨_, _, _, rfl, rfl, s1, s2, ?_⟩
                have := P _ H Fz F (Same.refl _) R (.bl _)
                cases l1 with
                | nil => exact this
                | cons _ _ => exact this
        | _ => simp only [q1, q2] at P; exact P.elim
      | _ => cases e <;> (simp only [q1, q2] at P; exact P.elim)
end
section
variable {X : Cx} {W : WX} {pin : List Nat} {fa fb : List Sl → Rs AV} {a c : Expr} {pos : Pos}
theorem se_eqE (hu : X.A.units + 64 < cLine) (ha : SE X W pin a fa) (hb : SE X W pin c fb) : SE X W pin (.Compare a [.Eq] [c] pos) (s2 (gEqE false) fa fb) := se_cmp (op_eqE hu) v2_eqE ha hb (nomark _)
theorem st_neE (hu : X.A.units + 64 < cLine) (ha : SE X W pin a fa) (hb : SE X W pin c fb) : ST X W pin (.Compare a [.NotEq] [c] pos) (sTst (s2 (gEqE true) fa fb)) := st_cmp (op_neE hu) v2_eqE ha hb (nomark _)
end
def rEqS (n : Bool) : R2 := fun x y H Q => ∃ i j : Str, x = V.str i ∧ y = V.str j ∧ Q (.bl (n != (i.cps.toList == j.cps.toList))) H
section
variable {X : Cx}
theorem op_eqS : OpR X (compareOp .Eq) (rEqS false) := by
  intro pins s σ H x y v u Q I rx ry h
  obtain ⟨i, j, rfl, rfl, q⟩ := h
  obtain ⟨t, rfl⟩ := rx
  obtain ⟨t', rfl⟩ := ry
  exact PySem.P.eq_str ⟨.bl _, H, I, rfl, by simpa using q⟩
theorem op_neS : OpR X (compareOp .NotEq) (rEqS true) := by
  intro pins s σ H x y v u Q I rx ry h
  obtain ⟨i, j, rfl, rfl, q⟩ := h
  obtain ⟨t, rfl⟩ := rx
  obtain ⟨t', rfl⟩ := ry
  exact PySem.P.ne_str ⟨.bl _, H, I, rfl, by simpa [bne] using q⟩
end
def gEqS (n : Bool) (x y : AV) (δ : List Sl) : Rs AV := match rdC δ x, rdC δ y with
  | some (.str i), some (.str j) => .ok (.val (.bool (n != (i.cps.toList == j.cps.toList)))) δ
  | _, _ => .bad
section
variable {K : PySem.W.Frag} {mg : Str → Option Value} {W : WX} {pin : List Nat}
theorem v2_eqS {n : Bool} : V2 K mg W pin (rEqS n) (gEqS n) := by
  intro b Fz F δ σ H v w x y Q hp R A B P
  unfold gEqS at P
  cases q1 : rdC δ x with
  | none => simp only [q1] at P; exact P.elim
  | some d =>
    cases q2 : rdC δ y with
    | none => cases d <;> (simp only [q1, q2] at P; exact P.elim)
    | some e =>
      cases d with
      | str i =>
        cases e with
        | str j =>
          simp only [q1, q2] at P
          exact ⟨i, j, rpc_str (rdC_ok R A q1), rpc_str (rdC_ok R B q2), P _ H Fz F (Same.refl _) R (.bl _)⟩
        | _ => simp only [q1, q2] at P; exact P.elim
      | _ => cases e <;> (simp only [q1, q2] at P; exact P.elim)
end
section
variable {X : Cx} {W : WX} {pin : List Nat} {fa fb : List Sl → Rs AV} {a c : Expr} {pos : Pos}
theorem se_eqS (ha : SE X W pin a fa) (hb : SE X W pin c fb) : SE X W pin (.Compare a [.Eq] [c] pos) (s2 (gEqS false) fa fb) := se_cmp op_eqS v2_eqS ha hb (nomark _)
theorem st_neS (ha : SE X W pin a fa) (hb : SE X W pin c fb) : ST X W pin (.Compare a [.NotEq] [c] pos) (sTst (s2 (gEqS true) fa fb)) := st_cmp op_neS v2_eqS ha hb (nomark _)
end
end Hb
namespace Hb
open PySem L2
section
variable {f fa fb fo : List Sl → Rs AV} {δ δ1 δ2 : List Sl} {a x y : AV} {d e : PyData} {u w : List Sl → Ot} {t : List Sl → Rs Bool}
@[simp] theorem e_sC : sC d δ = .ok (.val d) δ := rfl
@[simp] theorem e_val : sSt (fun δ => .ok (.val d) δ) δ = .ok (.val d) δ := rfl
@[simp] theorem e_bind {α β : Type} {v : α} {k : α → List Sl → Rs β} : (Rs.ok v δ).bind k = k v δ := rfl
@[simp] theorem e_bindb {α β : Type} {k : α → List Sl → Rs β} : (Rs.bad : Rs α).bind k = .bad := rfl
@[simp] theorem e_ot {α : Type} {v : α} {k : α → List Sl → Ot} : (Rs.ok v δ).ot k = k v δ := rfl
@[simp] theorem e_otU {v : Unit} : (Rs.ok v δ).otU = .nx δ := rfl
@[simp] theorem e_oNext : oNext δ = .nx δ := rfl
@[simp] theorem e_rdAv : rdA δ (.val d) = some d := rfl
@[simp] theorem e_rdCv : rdC δ (.val d) = some d := rfl
@[simp] theorem e_allFz (ds : List PyData) : allFz (ds.map El.fz) = some ds := by
  induction ds with
  | nil => rfl
  | cons d r ih => simp [allFz, ih]
end
end Hb
namespace Nv
open PySem Hb L2
/-- a value of Lean's, as a tree -/
class Enc (α : Type) where
  enc : α → PyData
open Enc (enc)
instance : Enc Int := ⟨.int⟩
instance : Enc Bool := ⟨.bool⟩
instance : Enc Str := ⟨.str⟩
instance : Enc Unit := ⟨fun _ => .none⟩
instance : Enc PyData := ⟨fun d => d⟩
instance {α : Type} [Enc α] : Enc (List α) := ⟨fun xs => .list (xs.map enc)⟩
instance {α : Type} [Enc α] : Enc (Option α) := ⟨fun x => match x with
  | none => .none
  | some x => enc x⟩
instance {α β : Type} [Enc α] [Enc β] : Enc (α × β) := ⟨fun x => .tuple [enc x.1, enc x.2]⟩
structure T3 (α β γ : Type) where
  a : α
  b : β
  c : γ
deriving DecidableEq
structure T4 (α β γ δ : Type) where
  a : α
  b : β
  c : γ
  d : δ
deriving DecidableEq
/-- a tuple of any length -/
structure Tp (α : Type) where
  l : List α
deriving DecidableEq
/-- a dict -/
structure Dc (κ α : Type) where
  l : List (κ × α)
deriving DecidableEq
instance {α β γ : Type} [Enc α] [Enc β] [Enc γ] : Enc (T3 α β γ) := ⟨fun x => .tuple [enc x.a, enc x.b, enc x.c]⟩
instance {α β γ δ : Type} [Enc α] [Enc β] [Enc γ] [Enc δ] : Enc (T4 α β γ δ) := ⟨fun x => .tuple [enc x.a, enc x.b, enc x.c, enc x.d]⟩
instance {α : Type} [Enc α] : Enc (Tp α) := ⟨fun x => .tuple (x.l.map enc)⟩
instance {κ α : Type} [Enc κ] [Enc α] : Enc (Dc κ α) := ⟨fun x => .dict (x.l.map fun p => (enc p.1, enc p.2))⟩
/-- a list of one's own whose items stand still; .. whose items are rows of one's own; a dict of one's own -/
def ow {α : Type} [Enc α] (xs : List α) : Sl := .ol ((xs.map enc).map .fz)
def oww {α : Type} [Enc α] (xs : List (List α)) : Sl := .ol (xs.map fun r => .ow (r.map enc))
def od {κ α : Type} [Enc κ] [Enc α] (x : Dc κ α) : Sl := .od (x.l.map fun p => (enc p.1, enc p.2))
section
variable {α : Type} [Enc α]
theorem map_fzd (ds : List PyData) : (ds.map El.fz).map El.d = ds := by
  rw [List.map_map]
  exact List.map_id' ds
theorem ow_tree (xs : List α) : (ow xs).tree = some (enc xs) := by
  show some (PyData.list _) = some (PyData.list _)
  rw [map_fzd]
theorem allFz_map : ∀ ds : List PyData, allFz (ds.map .fz) = some ds
  | [] => rfl
  | d :: r => by
    show (allFz (r.map .fz)).map (d :: ·) = _
    rw [allFz_map r]
    rfl
end
inductive Pt where
  | aa | any | pl | eq (s : Sl) | tr (d : PyData) | ts (d : PyData) | na (s : Sl)
def isAl : Sl → Bool
  | .al _ _ => true
  | _ => false
def isLs : PyData → Bool
  | .list _ => true
  | _ => false
def Pt.Ok : Pt → Sl → Prop
  | .aa, _ => True
  | .any, s => isAl s = false
  | .pl, s => plainS (some s) = true
  | .eq t, s => s = t
  | .tr d, s => s.tree = some d ∧ (∃ ds : List PyData, s = .ol (ds.map .fz)) ∨ s = .fz d
  | .ts d, s => s.tree = some d ∧ (∃ ds : List PyData, s = .ol (ds.map .fz)) ∨ (s = .fz d ∧ isLs d = false)
  | .na t, s => s = t ∧ isAl s = false
abbrev Ga := List Pt
inductive Sat : Ga → List Sl → Prop
  | nil : Sat [] []
  | cons {p : Pt} {s : Sl} {Γ : Ga} {δ : List Sl} : p.Ok s → Sat Γ δ → Sat (p :: Γ) (s :: δ)
theorem Sat.get {Γ : Ga} {δ : List Sl} (h : Sat Γ δ) : ∀ {k : Nat} {p : Pt}, Γ[k]? = some p → ∃ s, δ[k]? = some s ∧ p.Ok s := by
  induction h with
  | nil => intro k p e; simp at e
  | cons h1 _ ih =>
    intro k p e
    cases k with
    | zero => simp at e; subst e; exact ⟨_, rfl, h1⟩
    | succ k => exact ih (by simpa using e)
theorem Sat.at_ {Γ : Ga} {δ : List Sl} (h : Sat Γ δ) {k : Nat} {s : Sl} (e : Γ[k]? = some (.eq s)) : δ[k]? = some s := by
  obtain ⟨t, e1, e2⟩ := h.get e
  rw [e1, show t = s from e2]
theorem Sat.set {Γ : Ga} {δ : List Sl} (h : Sat Γ δ) {p : Pt} {s : Sl} (hp : p.Ok s) : ∀ (k : Nat), Sat (Γ.set k p) (δ.set k s) := by
  induction h with
  | nil => intro k; cases k <;> exact .nil
  | cons h1 h2 ih =>
    intro k
    cases k with
    | zero => exact .cons hp h2
    | succ k => exact .cons h1 (ih k)
def dropP (i : Nat) : Pt → Pt
  | .eq (.al x j) => if x = i then .eq .no else .eq (.al x j)
  | p => p
def upP (i : Nat) (p : Pt) (Γ : Ga) : Ga := (Γ.map (dropP i)).set i p
def dropS (i : Nat) : Sl → Sl
  | .al x j => if x = i then .no else .al x j
  | s => s
theorem dropAl_eq (i : Nat) (δ : List Sl) : dropAl i δ = δ.map (dropS i) := by
  unfold dropAl
  congr 1
theorem dropP_ok {i : Nat} {p : Pt} {s : Sl} (h : p.Ok s) : (dropP i p).Ok (dropS i s) := by
  cases p with
  | aa => trivial
  | any =>
    cases s with
    | al x j => cases h
    | _ => exact h
  | pl =>
    cases s with
    | al x j => cases h
    | _ => exact h
  | eq t =>
    have h : s = t := h
    subst h
    cases s with
    | al x j =>
      show (if x = i then Pt.eq .no else .eq (.al x j)).Ok (if x = i then .no else .al x j)
      by_cases c : x = i
      · rw [if_pos c, if_pos c]; rfl
      · rw [if_neg c, if_neg c]; rfl
    | _ => rfl
  | tr d =>
    cases s with
    | al x j =>
      rcases h with ⟨h, _⟩ | h <;> cases h
    | _ => exact h
  | ts d =>
    cases s with
    | al x j =>
      rcases h with ⟨h, _⟩ | ⟨h, _⟩ <;> cases h
    | _ => exact h
  | na t =>
    cases s with
    | al x j => cases h.2
    | _ => exact h
theorem Sat.drop {Γ : Ga} {δ : List Sl} (h : Sat Γ δ) (i : Nat) : Sat (Γ.map (dropP i)) (dropAl i δ) := by
  rw [dropAl_eq]
  induction h with
  | nil => exact .nil
  | cons h1 _ ih => exact .cons (dropP_ok h1) ih
theorem Sat.up {Γ : Ga} {δ : List Sl} (h : Sat Γ δ) {i : Nat} {p : Pt} {s : Sl} (hp : p.Ok s) : Sat (upP i p Γ) (upS i s δ) := (h.drop i).set hp i
def calmP : Pt → Bool
  | .aa => false
  | .eq s => !isAl s
  | _ => true
/-- weaker -/
inductive PtLe : Pt → Pt → Prop
  | rfl {p : Pt} : PtLe p p
  | aa {p : Pt} : PtLe p .aa
  | any {p : Pt} (h : calmP p = true := by rfl) : PtLe p .any
  | no : PtLe (.eq .no) .pl
  | fz {d : PyData} : PtLe (.eq (.fz d)) .pl
  | trf {d : PyData} : PtLe (.eq (.fz d)) (.tr d)
  | tro {α : Type} [Enc α] {xs : List α} {d : PyData} : enc xs = d → PtLe (.eq (ow xs)) (.tr d)
  | tsf {d : PyData} (h : isLs d = false := by rfl) : PtLe (.eq (.fz d)) (.ts d)
  | tso {α : Type} [Enc α] {xs : List α} {d : PyData} : enc xs = d → PtLe (.eq (ow xs)) (.ts d)
  | tst {d : PyData} : PtLe (.ts d) (.tr d)
theorem PtLe.ok {p q : Pt} (h : PtLe p q) {s : Sl} (hs : p.Ok s) : q.Ok s := by
  cases h with
  | rfl => exact hs
  | aa => trivial
  | any h =>
    cases p with
    | aa => cases h
    | any => exact hs
    | pl => cases s <;> first | rfl | cases hs
    | eq t =>
      cases (show s = t from hs)
      show isAl s = false
      simpa [calmP] using h
    | tr d =>
      rcases hs with ⟨_, ds, rfl⟩ | rfl <;> rfl
    | ts d =>
      rcases hs with ⟨_, ds, rfl⟩ | ⟨rfl, _⟩ <;> rfl
    | na t => exact hs.2
  | no => cases (show s = .no from hs); rfl
  | fz => cases (show s = .fz _ from hs); rfl
  | trf => exact .inr hs
  | @tro α _ xs d e =>
    cases (show s = ow xs from hs)
    exact .inl ⟨by rw [← e]; exact ow_tree xs, xs.map enc, Eq.refl _⟩
  | tsf h => exact .inr ⟨hs, h⟩
  | @tso α _ xs d e =>
    cases (show s = ow xs from hs)
    exact .inl ⟨by rw [← e]; exact ow_tree xs, xs.map enc, Eq.refl _⟩
  | tst => exact hs.imp id And.left
inductive GaLe : Ga → Ga → Prop
  | nil : GaLe [] []
  | cons {p q : Pt} {Γ Δ : Ga} : PtLe p q → GaLe Γ Δ → GaLe (p :: Γ) (q :: Δ)
theorem Sat.wk {Γ Δ : Ga} {δ : List Sl} (h : Sat Γ δ) (l : GaLe Γ Δ) : Sat Δ δ := by
  induction l generalizing δ with
  | nil => exact h
  | cons h1 _ ih =>
    cases h with
    | cons a b => exact .cons (h1.ok a) (ih b)
section
variable {β : Type}
/-- what it gives, and what stands behind -/
def Ev (f : List Sl → Rs AV) (Γ : Ga) (p : Option β) (a : β → AV) (Γ' : β → Ga) : Prop := ∀ v, p = some v → ∀ δ, Sat Γ δ → ∃ δ', f δ = .ok (a v) δ' ∧ Sat (Γ' v) δ'
/-- nothing changes -/
def Pu (f : List Sl → Rs AV) (Γ : Ga) (p : Option β) (a : β → AV) : Prop := ∀ v, p = some v → ∀ δ, Sat Γ δ → f δ = .ok (a v) δ
/-- nothing changes, and its tree may be read -/
def Ra (f : List Sl → Rs AV) (Γ : Ga) (p : Option β) (d : β → PyData) : Prop := ∀ v, p = some v → ∀ δ, Sat Γ δ → ∃ a, sSt f δ = .ok a δ ∧ rdA δ a = some (d v)
def Rd (f : List Sl → Rs AV) (Γ : Ga) (p : Option β) (d : β → PyData) : Prop := ∀ v, p = some v → ∀ δ, Sat Γ δ → ∃ a, sSt f δ = .ok a δ ∧ rdC δ a = some (d v) ∧ rdA δ a = some (d v)
/-- a value -/
def Er (f : List Sl → Rs AV) (Γ : Ga) (p : Option β) (d : β → PyData) (Γ' : β → Ga) : Prop := ∀ v, p = some v → ∀ δ, Sat Γ δ → ∃ δ', sSt f δ = .ok (.val (d v)) δ' ∧ Sat (Γ' v) δ'
/-- its tree may be read -/
def Es (f : List Sl → Rs AV) (Γ : Ga) (p : Option β) (d : β → PyData) (Γ' : β → Ga) : Prop := ∀ v, p = some v → ∀ δ, Sat Γ δ → ∃ a δ', sSt f δ = .ok a δ' ∧ rdC δ' a = some (d v) ∧ rdA δ' a = some (d v) ∧ Sat (Γ' v) δ'
/-- tests -/
def Ts (t : List Sl → Rs Bool) (Γ : Ga) (p : Option Bool) : Prop := ∀ v, p = some v → ∀ δ, Sat Γ δ → t δ = .ok v δ
def Te (t : List Sl → Rs Bool) (Γ : Ga) (p : Option β) (k : β → Bool) (Γ' : β → Ga) : Prop := ∀ v, p = some v → ∀ δ, Sat Γ δ → ∃ δ', t δ = .ok (k v) δ' ∧ Sat (Γ' v) δ'
/-- statements -/
def Bl (f : List Sl → Ot) (Γ : Ga) (p : Option β) (R : β → Ot → Prop) : Prop := ∀ v, p = some v → ∀ δ, Sat Γ δ → R v (f δ)
end
section
variable {α β γ ε : Type} {f fa fb g : List Sl → Rs AV} {Γ : Ga} {Γ' : β → Ga} {p : Option β} {a : β → AV} {d : β → PyData}
theorem some_of {α : Type} {x v : α} (h : some x = some v) : v = x := (Option.some.inj h).symm
theorem bind_of {α β : Type} {p : Option α} {k : α → Option β} {v : β} (h : p.bind k = some v) : ∃ x, p = some x ∧ k x = some v := by
  cases p with
  | none => cases h
  | some x => exact ⟨x, rfl, h⟩
theorem sSt_val {δ δ' : List Sl} {x : PyData} (h : f δ = .ok (.val x) δ') : sSt f δ = .ok (.val x) δ' := by
  unfold sSt; rw [h]
theorem sSt_ref {δ δ' : List Sl} {x : Nat} (h : f δ = .ok (.ref x) δ') : sSt f δ = .ok (.ref x) δ' := by
  unfold sSt; rw [h]
theorem sSt_tmp {δ δ' : List Sl} {s : Sl} {x : PyData} (h : f δ = .ok (.tmp s) δ') (e : s.tree = some x) : sSt f δ = .ok (.val x) δ' := by
  unfold sSt; rw [h]; simp only [e]
theorem Pu.ev (h : Pu f Γ p a) : Ev f Γ p a fun _ => Γ := fun v e δ s => ⟨δ, h v e δ s, s⟩
theorem Pu.rd (h : Pu f Γ p fun v => .val (d v)) : Rd f Γ p d := fun v e δ s => ⟨_, sSt_val (h v e δ s), rfl, rfl⟩
theorem Pu.rdT {s : β → Sl} (h : Pu f Γ p fun v => .tmp (s v)) (ht : ∀ v, (s v).tree = some (d v)) : Rd f Γ p d := fun v e δ z => ⟨_, sSt_tmp (h v e δ z) (ht v), rfl, rfl⟩
theorem Rd.ra (h : Rd f Γ p d) : Ra f Γ p d := fun v e δ s => let ⟨x, h1, _, h3⟩ := h v e δ s; ⟨x, h1, h3⟩
theorem Ev.er (h : Ev f Γ p (fun v => .val (d v)) Γ') : Er f Γ p d Γ' := fun v e δ s => let ⟨δ', h1, h2⟩ := h v e δ s; ⟨δ', sSt_val h1, h2⟩
theorem Ev.erT {s : β → Sl} (h : Ev f Γ p (fun v => .tmp (s v)) Γ') (ht : ∀ v, (s v).tree = some (d v)) : Er f Γ p d Γ' := fun v e δ z => let ⟨δ', h1, h2⟩ := h v e δ z; ⟨δ', sSt_tmp h1 (ht v), h2⟩
theorem Er.es (h : Er f Γ p d Γ') : Es f Γ p d Γ' := fun v e δ s => let ⟨δ', h1, h2⟩ := h v e δ s; ⟨_, δ', h1, rfl, rfl, h2⟩
theorem Rd.es (h : Rd f Γ p d) : Es f Γ p d fun _ => Γ := fun v e δ s => let ⟨x, h1, h2, h3⟩ := h v e δ s; ⟨x, δ, h1, h2, h3, s⟩
theorem pu_c [Enc α] {x : α} {y : PyData} (h : enc x = y := by rfl) : Pu (sC y) Γ (some x) fun v => .val (enc v) := fun v e δ _ => by
  cases some_of e
  show _ = Rs.ok (AV.val (enc x)) δ
  rw [h]
  rfl
theorem pu_var [Enc α] {x : α} (k : Nat) (h : Γ[k]? = some (.eq (.fz (enc x)))) : Pu (sVar k) Γ (some x) fun v => .val (enc v) := fun v e δ s => by
  cases some_of e
  unfold sVar
  rw [s.at_ h]
theorem pu_own [Enc α] {x : List α} (k : Nat) (h : Γ[k]? = some (.eq (ow x))) : Pu (sVar k) Γ (some x) fun _ => .ref k := fun v e δ s => by
  cases some_of e
  unfold sVar
  rw [s.at_ h]
  rfl
theorem rd_own [Enc α] {x : List α} (k : Nat) (h : Γ[k]? = some (.eq (ow x))) : Rd (sVar k) Γ (some x) enc := fun v e δ s => by
  cases some_of e
  refine ⟨.ref k, sSt_ref (pu_own k h x rfl δ s), ?_, ?_⟩
  · simp only [rdC, s.at_ h, ow]
    show (allFz _).map _ = _
    rw [allFz_map]
    rfl
  · simp only [rdA, s.at_ h, ow]
    exact ow_tree x
theorem ra_od [Enc α] [Enc γ] {x : Dc α γ} (k : Nat) (h : Γ[k]? = some (.eq (od x))) : Ra (sVar k) Γ (some x) enc := fun v e δ s => by
  cases some_of e
  refine ⟨.ref k, sSt_ref (by unfold sVar; rw [s.at_ h]; rfl), ?_⟩
  simp only [rdA, s.at_ h, od]
  rfl
theorem Pu.tkP (h : Pu f Γ p fun v => .val (d v)) : Pu (sTk f) Γ p (fun v => .val (d v)) := fun v e δ s => by unfold sTk; rw [sSt_val (h v e δ s)]
theorem Pu.tkTP {s : β → Sl} (h : Pu f Γ p fun v => .tmp (s v)) (ht : ∀ v, (s v).tree = some (d v)) : Pu (sTk f) Γ p (fun v => .val (d v)) := fun v e δ z => by unfold sTk; rw [sSt_tmp (h v e δ z) (ht v)]
theorem Ev.tk (h : Ev f Γ p (fun v => .val (d v)) Γ') : Ev (sTk f) Γ p (fun v => .val (d v)) Γ' := fun v e δ s => let ⟨δ', h1, h2⟩ := h v e δ s; ⟨δ', by unfold sTk; rw [sSt_val h1], h2⟩
theorem Ev.tkT {s : β → Sl} (h : Ev f Γ p (fun v => .tmp (s v)) Γ') (ht : ∀ v, (s v).tree = some (d v)) : Ev (sTk f) Γ p (fun v => .val (d v)) Γ' := fun v e δ z => let ⟨δ', h1, h2⟩ := h v e δ z; ⟨δ', by unfold sTk; rw [sSt_tmp h1 (ht v)], h2⟩
theorem tk_own [Enc α] {x : List α} (k : Nat) (h : Γ[k]? = some (.eq (ow x))) : Ev (sTk (sVar k)) Γ (some x) (fun v => .val (enc v)) fun v => upP k (.eq (.fz (enc v))) Γ := fun v e δ s => by
  cases some_of e
  refine ⟨upS k (.fz (enc x)) δ, ?_, s.up rfl⟩
  unfold sTk
  rw [sSt_ref (pu_own k h x rfl δ s)]
  show takeI k δ = _
  unfold takeI
  rw [s.at_ h]
  simp only [ow, map_fzd]
  rfl
theorem tk_tr [Enc α] {x : α} (k : Nat) (h : Γ[k]? = some (.tr (enc x))) (hm : Γ.map (dropP k) = Γ) : Ev (sTk (sVar k)) Γ (some x) (fun v => .val (enc v)) fun v => Γ.set k (.eq (.fz (enc v))) := fun v e δ s => by
  cases some_of e
  obtain ⟨t, e1, e2⟩ := s.get h
  rcases e2 with ⟨e2, ds, e3⟩ | e2
  · subst e3
    refine ⟨upS k (.fz (enc x)) δ, ?_, ?_⟩
    · unfold sTk
      rw [sSt_ref (by unfold sVar; rw [e1])]
      show takeI k δ = _
      unfold takeI
      rw [e1]
      have : (Sl.ol (ds.map .fz)).tree = some (.list ds) := by
        show some (PyData.list _) = _
        rw [map_fzd]
      rw [this] at e2
      have e4 : PyData.list ds = enc x := Option.some.inj e2
      simp only [map_fzd, e4]
    · have := s.up (i := k) (p := .eq (.fz (enc x))) rfl
      unfold upP at this
      rwa [hm] at this
  · subst e2
    refine ⟨δ, by unfold sTk; rw [sSt_val (by unfold sVar; rw [e1])], ?_⟩
    have := s.set (p := .eq (.fz (enc x))) rfl k
    have e3 : δ.set k (.fz (enc x)) = δ := by
      apply List.ext_getElem?
      intro i
      by_cases c : i = k
      · subst c
        rw [List.getElem?_set_self (List.getElem?_eq_some_iff.mp e1).1, e1]
      · rw [List.getElem?_set_ne (Ne.symm c)]
    rwa [e3] at this
end
end Nv
namespace Nv
open PySem Hb L2
open Enc (enc)
section
variable {α β γ : Type} [Enc α] [Enc β]
def Op2 (g : AV → AV → List Sl → Rs AV) (op : α → β → Option γ) (a : γ → AV) : Prop := ∀ v w r δ x y, rdC δ x = some (enc v) → rdA δ x = some (enc v) → rdC δ y = some (enc w) → rdA δ y = some (enc w) → op v w = some r → g x y δ = .ok (a r) δ
def Op2A (g : AV → AV → List Sl → Rs AV) (op : α → β → Option γ) (a : γ → AV) : Prop := ∀ v w r δ x y, rdA δ x = some (enc v) → rdA δ y = some (enc w) → op v w = some r → g x y δ = .ok (a r) δ
def Op1 (g : AV → List Sl → Rs AV) (op : α → Option γ) (a : γ → AV) : Prop := ∀ v r δ x, rdC δ x = some (enc v) → rdA δ x = some (enc v) → op v = some r → g x δ = .ok (a r) δ
def Op1A (g : AV → List Sl → Rs AV) (op : α → Option γ) (a : γ → AV) : Prop := ∀ v r δ x, rdA δ x = some (enc v) → op v = some r → g x δ = .ok (a r) δ
end
section
variable {α β γ ε ζ : Type} [Enc α] [Enc β] {Γ : Ga} {fa fb : List Sl → Rs AV} {g : AV → AV → List Sl → Rs AV} {h : AV → List Sl → Rs AV} {op : α → β → Option γ} {op1 : α → Option γ} {a : γ → AV}
theorem Op2A.to (o : Op2A g op a) : Op2 g op a := fun v w r δ x y _ h1 _ h2 e => o v w r δ x y h1 h2 e
theorem pu2 (o : Op2 g op a) {pa : Option α} {pb : Option β} (ha : Rd fa Γ pa enc) (hb : Rd fb Γ pb enc) : Pu (s2 g fa fb) Γ (pa.bind fun v => pb.bind fun w => op v w) a := fun r e δ s => by
  obtain ⟨v, e1, e⟩ := bind_of e
  obtain ⟨w, e2, e⟩ := bind_of e
  obtain ⟨x, h1, h2, h3⟩ := ha v e1 δ s
  obtain ⟨y, k1, k2, k3⟩ := hb w e2 δ s
  unfold s2
  rw [h1]
  show (sSt fb δ).bind _ = _
  rw [k1]
  exact o v w r δ x y h2 h3 k2 k3 e
theorem pu2A (o : Op2A g op a) {pa : Option α} {pb : Option β} (ha : Ra fa Γ pa enc) (hb : Ra fb Γ pb enc) : Pu (s2 g fa fb) Γ (pa.bind fun v => pb.bind fun w => op v w) a := fun r e δ s => by
  obtain ⟨v, e1, e⟩ := bind_of e
  obtain ⟨w, e2, e⟩ := bind_of e
  obtain ⟨x, h1, h3⟩ := ha v e1 δ s
  obtain ⟨y, k1, k3⟩ := hb w e2 δ s
  unfold s2
  rw [h1]
  show (sSt fb δ).bind _ = _
  rw [k1]
  exact o v w r δ x y h3 k3 e
theorem pu1 (o : Op1 h op1 a) {pa : Option α} (ha : Rd fa Γ pa enc) : Pu (s1 h fa) Γ (pa.bind op1) a := fun r e δ s => by
  obtain ⟨v, e1, e⟩ := bind_of e
  obtain ⟨x, h1, h2, h3⟩ := ha v e1 δ s
  unfold s1
  rw [h1]
  exact o v r δ x h2 h3 e
theorem pu1A (o : Op1A h op1 a) {pa : Option α} (ha : Ra fa Γ pa enc) : Pu (s1 h fa) Γ (pa.bind op1) a := fun r e δ s => by
  obtain ⟨v, e1, e⟩ := bind_of e
  obtain ⟨x, h1, h3⟩ := ha v e1 δ s
  unfold s1
  rw [h1]
  exact o v r δ x h3 e
theorem Rd.any {f : List Sl → Rs AV} {p : Option α} (hh : Rd f Γ p enc) : Rd f Γ (p.bind fun d => some (enc d)) (enc : PyData → PyData) := fun r e δ s => by
  obtain ⟨v, e1, e⟩ := bind_of e
  cases some_of e
  exact hh _ e1 δ s
end
def addI (i j : Int) : Option Int := some (i + j)
def subI (i j : Int) : Option Int := some (i - j)
def mulI (i j : Int) : Option Int := if i.natAbs < 2 ^ 64 ∨ j.natAbs < 2 ^ 64 then some (i * j) else none
def modI (i j : Int) : Option Int := if 0 < j then some (i % j) else none
def ltI (i j : Int) : Option Bool := some (decide (i < j))
def leI (i j : Int) : Option Bool := some (decide (i ≤ j))
def gtI (i j : Int) : Option Bool := some (decide (j < i))
def maxI2 (i j : Int) : Option Int := some (if j > i then j else i)
def minI2 (i j : Int) : Option Int := some (if j < i then j else i)
def negI (i : Int) : Option Int := some (-i)
section
variable {g : Int → Int → Int} {C : Int → Int → Bool}
theorem op_gI {op : Int → Int → Option Int} (h : ∀ i j r, op i j = some r → C i j = true ∧ r = g i j) : Op2 (gI C g) op fun r => .val (enc r) := fun v w r δ x y h1 _ h2 _ e => by
  obtain ⟨c, rfl⟩ := h v w r e
  have h1 : rdC δ x = some (.int v) := h1
  have h2 : rdC δ y = some (.int w) := h2
  simp only [gI, h1, h2, c]
  rfl
theorem op_gI0 : Op2 (gI yes2 g) (fun i j => some (g i j)) fun r => .val (enc r) := op_gI fun i j r e => ⟨rfl, some_of e⟩
theorem op_gIc {C : Int → Int → Prop} [∀ i j, Decidable (C i j)] : Op2 (gI (fun i j => decide (C i j)) g) (fun i j => if C i j then some (g i j) else none) fun r => .val (enc r) := op_gI fun i j r e => by
  have e : (if C i j then some (g i j) else none) = some r := e
  by_cases c : C i j
  · rw [if_pos c] at e
    exact ⟨decide_eq_true c, some_of e⟩
  · rw [if_neg c] at e
    cases e
theorem op_gB {g : Int → Int → Bool} : Op2 (gB g) (fun i j => some (g i j)) fun r => .val (enc r) := fun v w r δ x y h1 _ h2 _ e => by
  have h1 : rdC δ x = some (.int v) := h1
  have h2 : rdC δ y = some (.int w) := h2
  cases some_of e
  simp only [gB, h1, h2]
  rfl
theorem op_sub : Op2 gSub subI fun r => .val (enc r) := op_gI0
theorem op_max2 : Op2 gMax2 maxI2 fun r => .val (enc r) := op_gI0
theorem op_min2 : Op2 gMin2 minI2 fun r => .val (enc r) := op_gI0
theorem op_mod : Op2 gMod modI fun r => .val (enc r) := op_gIc (C := fun _ j => 0 < j)
theorem op_lt : Op2 gLt ltI fun r => .val (enc r) := op_gB
theorem op_le : Op2 gLe leI fun r => .val (enc r) := op_gB
theorem op_gt : Op2 gGt gtI fun r => .val (enc r) := op_gB
theorem op_neg : Op1 gNeg negI fun r => .val (enc r) := fun v r δ x h1 _ e => by
  have h1 : rdC δ x = some (.int v) := h1
  cases some_of e
  simp only [gNeg, h1]
  rfl
theorem op_add : Op2 gAdd addI fun r => .val (enc r) := fun v w r δ x y h1 _ h2 _ e => by
  have h1 : rdC δ x = some (.int v) := h1
  have h2 : rdC δ y = some (.int w) := h2
  cases some_of e
  simp only [gAdd, h1, h2]
  rfl
theorem op_mul : Op2 gMulX mulI fun r => .val (enc r) := fun v w r δ x y h1 _ h2 _ e => by
  have h1 : rdC δ x = some (.int v) := h1
  have h2 : rdC δ y = some (.int w) := h2
  unfold mulI at e
  by_cases c : v.natAbs < 2 ^ 64 ∨ w.natAbs < 2 ^ 64
  · rw [if_pos c] at e
    cases some_of e
    simp only [gMulX, h1, h2, if_pos c]
    rfl
  · rw [if_neg c] at e
    cases e
end
def catL {α : Type} (xs ys : List α) : Option (List α) := if xs.length ≤ cap ∧ ys.length ≤ cap then some (xs ++ ys) else none
def repL {α : Type} (xs : List α) (k : Int) : Option (List α) := if xs.length ≤ 1000 ∧ 0 ≤ k ∧ k ≤ 1000 then some (List.replicate k.toNat xs).flatten else none
def catT {α : Type} (xs ys : Tp α) : Option (Tp α) := if xs.l.length ≤ cap ∧ ys.l.length ≤ cap then some ⟨xs.l ++ ys.l⟩ else none
def lenL {α : Type} (xs : List α) : Option Int := some xs.length
def atL {α : Type} (xs : List α) (i : Int) : Option α := atI xs i
def atT {α : Type} (xs : Tp α) (i : Int) : Option α := atI xs.l i
def absI (i : Int) : Option Int := some (if i < 0 then -i else i)
def intI (i : Int) : Option Int := some i
def allB (ns : List Bool) : Option Bool := some (ns.all id)
def maxL : List Int → Option Int
  | [] => none
  | n :: ns => some (ns.foldl max n)
def minL : List Int → Option Int
  | [] => none
  | n :: ns => some (ns.foldl min n)
def listL {α : Type} (xs : List α) : Option (List α) := some xs
def listT {α : Type} (xs : Tp α) : Option (List α) := some xs.l
def tupL {α : Type} (xs : List α) : Option (Tp α) := some ⟨xs⟩
def isiN (T : String) (d : PyData) : Option Bool := some (isiB (tyD d) T)
def reprN (d : PyData) : Option Str := if (shw d = true ∧ d.depth ≤ 60) ∧ d.shown.length ≤ sizeLine then some d.shown else none
theorem allFz_inv : ∀ {xs : List El} {ds : List PyData}, allFz xs = some ds → xs = ds.map .fz
  | [], _, h => by cases h; rfl
  | .fz d :: r, ds, h => by
    have h : (allFz r).map (d :: ·) = some ds := h
    cases q : allFz r with
    | none => rw [q] at h; cases h
    | some es =>
      rw [q] at h
      cases h
      rw [allFz_inv q]
      rfl
  | .ow _ :: _, _, h => by cases h
section
variable {α β : Type} [Enc α] [Enc β]
theorem op_cat : Op2 gAdd (catL (α := α)) fun r => .tmp (ow r) := fun v w r δ x y h1 _ h2 _ e => by
  have h1 : rdC δ x = some (.list (v.map enc)) := h1
  have h2 : rdC δ y = some (.list (w.map enc)) := h2
  unfold catL at e
  by_cases c : v.length ≤ cap ∧ w.length ≤ cap
  · rw [if_pos c] at e
    cases some_of e
    simp only [gAdd, h1, h2, List.length_map, if_pos c, ow, List.map_append]
  · rw [if_neg c] at e
    cases e
theorem op_catT : Op2 gAdd (catT (α := α)) fun r => .val (enc r) := fun v w r δ x y h1 _ h2 _ e => by
  have h1 : rdC δ x = some (.tuple (v.l.map enc)) := h1
  have h2 : rdC δ y = some (.tuple (w.l.map enc)) := h2
  unfold catT at e
  by_cases c : v.l.length ≤ cap ∧ w.l.length ≤ cap
  · rw [if_pos c] at e
    cases some_of e
    simp only [gAdd, h1, h2, List.length_map, if_pos c]
    show Rs.ok (AV.val (.tuple _)) δ = Rs.ok (AV.val (.tuple _)) δ
    rw [List.map_append]
  · rw [if_neg c] at e
    cases e
theorem op_rep : Op2 gMulX (repL (α := α)) fun r => .tmp (ow r) := fun v w r δ x y h1 _ h2 _ e => by
  have h1 : rdC δ x = some (.list (v.map enc)) := h1
  have h2 : rdC δ y = some (.int w) := h2
  unfold repL at e
  by_cases c : v.length ≤ 1000 ∧ 0 ≤ w ∧ w ≤ 1000
  · rw [if_pos c] at e
    cases some_of e
    simp only [gMulX, h1, h2, List.length_map, if_pos c, ow]
    simp only [List.map_flatten, List.map_replicate]
  · rw [if_neg c] at e
    cases e
theorem item_list {δ : List Sl} {x : AV} {ds : List PyData} (h : rdC δ x = some (.list ds)) (i : Int) : itemA δ x (.int i) = atI ds i := by
  cases x with
  | val d => cases h; rfl
  | tmp s => cases h
  | ref k =>
    unfold rdC at h
    unfold itemA
    cases q : δ[k]? with
    | none => simp only [q] at h; cases h
    | some s =>
      cases s with
      | no => simp only [q] at h; cases h
      | od kvs => simp only [q] at h; cases h
      | ex e => simp only [q] at h; cases h
      | fz d => simp only [q] at h ⊢; cases h; rfl
      | ol xs =>
        simp only [q] at h ⊢
        cases q2 : allFz xs with
        | none => rw [q2] at h; cases h
        | some es =>
          rw [q2] at h
          cases h
          rw [allFz_inv q2, atI_map]
          cases atI ds i <;> rfl
      | al y j =>
        simp only [q] at h ⊢
        cases q2 : δ[y]? with
        | none => simp only [q2] at h; cases h
        | some t =>
          cases t with
          | ol xs =>
            simp only [q2] at h ⊢
            cases q3 : xs[j]? with
            | none => rw [q3] at h; cases h
            | some el =>
              rw [q3] at h
              cases el with
              | fz d => cases h; rfl
              | ow ys => cases h; rfl
          | _ => simp only [q2] at h; cases h
theorem item_tup {δ : List Sl} {x : AV} {ds : List PyData} (h : rdC δ x = some (.tuple ds)) (i : Int) : itemA δ x (.int i) = atI ds i := by
  cases x with
  | val d => cases h; rfl
  | tmp s => cases h
  | ref k =>
    unfold rdC at h
    unfold itemA
    cases q : δ[k]? with
    | none => simp only [q] at h; cases h
    | some s =>
      cases s with
      | no => simp only [q] at h; cases h
      | od kvs => simp only [q] at h; cases h
      | ex e => simp only [q] at h; cases h
      | fz d => simp only [q] at h ⊢; cases h; rfl
      | ol xs =>
        simp only [q] at h
        cases q2 : allFz xs with
        | none => rw [q2] at h; cases h
        | some es => rw [q2] at h; cases h
      | al y j =>
        simp only [q] at h ⊢
        cases q2 : δ[y]? with
        | none => simp only [q2] at h; cases h
        | some t =>
          cases t with
          | ol xs =>
            simp only [q2] at h ⊢
            cases q3 : xs[j]? with
            | none => rw [q3] at h; cases h
            | some el =>
              rw [q3] at h
              cases el with
              | fz d => cases h; rfl
              | ow ys => cases h
          | _ => simp only [q2] at h; cases h
theorem op_ix : Op2 gIx (atL (α := α)) fun r => .val (enc r) := fun v w r δ x y h1 _ h2 _ e => by
  have h2 : rdC δ y = some (.int w) := h2
  simp only [gIx, h2, item_list (show rdC δ x = some (.list (v.map enc)) from h1), atI_map]
  have e : atI v w = some r := e
  rw [e]
  rfl
theorem op_ixT : Op2 gIx (atT (α := α)) fun r => .val (enc r) := fun v w r δ x y h1 _ h2 _ e => by
  have h2 : rdC δ y = some (.int w) := h2
  simp only [gIx, h2, item_tup (show rdC δ x = some (.tuple (v.l.map enc)) from h1), atI_map]
  have e : atI v.l w = some r := e
  rw [e]
  rfl
theorem op_len : Op1A (gRd lenD) (lenL (α := α)) fun r => .val (enc r) := fun v r δ x h e => by
  have h : rdA δ x = some (.list (v.map enc)) := h
  cases some_of e
  simp only [gRd, h, Option.bind_some, lenD, List.length_map, flatD, if_true]
  rfl
theorem op_rd {k : PyData → Option PyData} {op : α → Option β} (hf : ∀ v r, op v = some r → k (enc v) = some (enc r) ∧ flatD (enc r) = true) : Op1A (gRd k) op fun r => .val (enc r) := fun v r δ x h e => by
  obtain ⟨h1, h2⟩ := hf v r e
  simp only [gRd, h, Option.bind_some, h1, h2, if_true]
theorem op_abs : Op1A (gRd absD) absI fun r => .val (enc r) := op_rd fun v r e => by cases some_of e; exact ⟨rfl, rfl⟩
theorem op_int : Op1A (gRd intD) intI fun r => .val (enc r) := op_rd fun v r e => by cases some_of e; exact ⟨rfl, rfl⟩
theorem op_all : Op1A (gRd (overB fun ns => some (.bool (ns.all id)))) allB fun r => .val (enc r) := op_rd fun v r e => by
  cases some_of e
  refine ⟨?_, rfl⟩
  show (boolsOf (v.map .bool)).bind _ = _
  rw [boolsOf_map]
  rfl
theorem op_isi {T : String} : Op1A (gIsi T) (isiN T) fun r => .val (enc r) := op_rd fun v r e => by
  cases some_of e
  exact ⟨rfl, rfl⟩
theorem op_repr : Op1A (gRd reprD) reprN fun r => .val (enc r) := op_rd fun v r e => by
  unfold reprN at e
  split at e
  · rename_i c
    cases some_of e
    exact ⟨if_pos c, rfl⟩
  · cases e
theorem op_list : Op1 gList (listL (α := α)) fun r => .tmp (ow r) := fun v r δ x h _ e => by
  have h : rdC δ x = some (.list (v.map enc)) := h
  cases some_of e
  simp only [gList, h, ow]
theorem op_listT : Op1 gList (listT (α := α)) fun r => .tmp (ow r) := fun v r δ x h _ e => by
  have h : rdC δ x = some (.tuple (v.l.map enc)) := h
  cases some_of e
  simp only [gList, h, ow]
theorem op_tup : Op1 gTuple (tupL (α := α)) fun r => .val (enc r) := fun v r δ x h _ e => by
  have h : rdC δ x = some (.list (v.map enc)) := h
  cases some_of e
  simp only [gTuple, h]
  rfl
end
end Nv
namespace Nv
open PySem Hb L2
open Enc (enc)
class EncEq (α : Type) [Enc α] [DecidableEq α] where
  n : Nat
  eqv : ∀ x y : α, PyData.eqv (enc x) (enc y) = decide (x = y)
  lay : ∀ x : α, (enc x).canLay0 = true
  dep : ∀ x : α, (enc x).depth ≤ n
class NotNone (α : Type) [Enc α] : Prop where
  a : ∀ x : α, PyData.eqv (enc x) .none = false
  b : ∀ x : α, PyData.eqv .none (enc x) = false
  c : ∀ x : α, enc x ≠ .none
instance : NotNone Int := ⟨fun _ => by simp [enc, PyData.eqv], fun _ => by simp [enc, PyData.eqv], fun _ h => nomatch h⟩
instance : NotNone Bool := ⟨fun _ => by simp [enc, PyData.eqv], fun _ => by simp [enc, PyData.eqv], fun _ h => nomatch h⟩
instance : NotNone Str := ⟨fun _ => by simp [enc, PyData.eqv], fun _ => by simp [enc, PyData.eqv], fun _ h => nomatch h⟩
instance {α : Type} [Enc α] : NotNone (List α) := ⟨fun _ => by simp [enc, PyData.eqv], fun _ => by simp [enc, PyData.eqv], fun _ h => nomatch h⟩
instance {α : Type} [Enc α] : NotNone (Tp α) := ⟨fun _ => by simp [enc, PyData.eqv], fun _ => by simp [enc, PyData.eqv], fun _ h => nomatch h⟩
instance {α β : Type} [Enc α] [Enc β] : NotNone (α × β) := ⟨fun _ => by simp [enc, PyData.eqv], fun _ => by simp [enc, PyData.eqv], fun _ h => nomatch h⟩
instance {α β γ : Type} [Enc α] [Enc β] [Enc γ] : NotNone (T3 α β γ) := ⟨fun _ => by simp [enc, PyData.eqv], fun _ => by simp [enc, PyData.eqv], fun _ h => nomatch h⟩
instance : EncEq Int := ⟨0, fun x y => by simp [enc, PyData.eqv]; by_cases h : x = y <;> simp [h], fun _ => by simp [enc, PyData.canLay0], fun _ => by simp [enc, PyData.depth]⟩
instance : EncEq Bool := ⟨0, fun x y => by cases x <;> cases y <;> simp [enc, PyData.eqv], fun _ => by simp [enc, PyData.canLay0], fun _ => by simp [enc, PyData.depth]⟩
instance : EncEq Unit := ⟨0, fun x y => by simp [enc, PyData.eqv], fun _ => by simp [enc, PyData.canLay0], fun _ => by simp [enc, PyData.depth]⟩
section
variable {α : Type} [Enc α] [DecidableEq α] [EncEq α]
theorem eqvAll_enc : ∀ xs ys : List α, PyData.eqvAll (xs.map enc) (ys.map enc) = decide (xs = ys)
  | [], [] => by simp [PyData.eqvAll]
  | [], y :: ys => by simp [PyData.eqvAll]
  | x :: xs, [] => by simp [PyData.eqvAll]
  | x :: xs, y :: ys => by
    simp only [List.map_cons, PyData.eqvAll, eqvAll_enc xs ys, EncEq.eqv]
    by_cases h : x = y <;> by_cases h2 : xs = ys <;> simp [h, h2]
theorem layAll_enc : ∀ xs : List α, PyData.canLayAll0 (xs.map enc) = true
  | [] => by simp [PyData.canLayAll0]
  | x :: xs => by simp [PyData.canLayAll0, EncEq.lay, layAll_enc xs]
theorem depAll_enc : ∀ xs : List α, PyData.depthAll (xs.map enc) ≤ EncEq.n α
  | [] => by simp [PyData.depthAll]
  | x :: xs => by
    have h1 := EncEq.dep x
    have h2 := depAll_enc xs
    simp only [List.map_cons, PyData.depthAll]
    omega
end
instance {α : Type} [Enc α] [DecidableEq α] [EncEq α] : EncEq (List α) := ⟨EncEq.n α + 1, fun x y => by
    show PyData.eqv (.list _) (.list _) = _
    simp only [PyData.eqv]
    exact eqvAll_enc x y, fun x => by
    show PyData.canLay0 (.list _) = true
    simp only [PyData.canLay0]
    exact layAll_enc x, fun x => by
    show PyData.depth (.list _) ≤ _
    simp only [PyData.depth]
    have := depAll_enc x
    omega⟩
instance {α : Type} [Enc α] [DecidableEq α] [EncEq α] : EncEq (Tp α) := ⟨EncEq.n α + 1, fun x y => by
    show PyData.eqv (.tuple _) (.tuple _) = _
    simp only [PyData.eqv]
    rw [eqvAll_enc]
    cases x; cases y
    simp, fun x => by
    show PyData.canLay0 (.tuple _) = true
    simp only [PyData.canLay0]
    exact layAll_enc x.l, fun x => by
    show PyData.depth (.tuple _) ≤ _
    simp only [PyData.depth]
    have := depAll_enc x.l
    omega⟩
instance {α β : Type} [Enc α] [DecidableEq α] [EncEq α] [Enc β] [DecidableEq β] [EncEq β] : EncEq (α × β) := ⟨max (EncEq.n α) (EncEq.n β) + 1, fun x y => by
    show PyData.eqv (.tuple _) (.tuple _) = _
    simp only [PyData.eqv, PyData.eqvAll, EncEq.eqv, Bool.and_true]
    cases x; cases y
    rw [← Bool.decide_and]
    simp, fun x => by
    show PyData.canLay0 (.tuple _) = true
    simp only [PyData.canLay0, PyData.canLayAll0, EncEq.lay, Bool.and_true], fun x => by
    show PyData.depth (.tuple _) ≤ _
    simp only [PyData.depth, PyData.depthAll]
    have h1 := EncEq.dep x.1
    have h2 := EncEq.dep x.2
    omega⟩
instance {α β γ : Type} [Enc α] [DecidableEq α] [EncEq α] [Enc β] [DecidableEq β] [EncEq β] [Enc γ] [DecidableEq γ] [EncEq γ] : EncEq (T3 α β γ) := ⟨max (EncEq.n α) (max (EncEq.n β) (EncEq.n γ)) + 1, fun x y => by
    show PyData.eqv (.tuple _) (.tuple _) = _
    simp only [PyData.eqv, PyData.eqvAll, EncEq.eqv, Bool.and_true]
    cases x; cases y
    rw [← Bool.decide_and, ← Bool.decide_and]
    simp, fun x => by
    show PyData.canLay0 (.tuple _) = true
    simp only [PyData.canLay0, PyData.canLayAll0, EncEq.lay, Bool.and_true], fun x => by
    show PyData.depth (.tuple _) ≤ _
    simp only [PyData.depth, PyData.depthAll]
    have h1 := EncEq.dep x.a
    have h2 := EncEq.dep x.b
    have h3 := EncEq.dep x.c
    omega⟩
instance {α : Type} [Enc α] [DecidableEq α] [EncEq α] [NotNone α] : EncEq (Option α) := ⟨EncEq.n α, fun x y => by
    cases x with
    | none =>
      cases y with
      | none => simp [enc, PyData.eqv]
      | some y => exact (NotNone.b y).trans (by simp)
    | some x =>
      cases y with
      | none => exact (NotNone.a x).trans (by simp)
      | some y =>
        show PyData.eqv (enc x) (enc y) = _
        rw [EncEq.eqv]
        simp, fun x => by
    cases x with
    | none => simp [enc, PyData.canLay0]
    | some x => exact EncEq.lay x, fun x => by
    cases x with
    | none => simp [enc, PyData.depth]
    | some x => exact EncEq.dep x⟩
def eqN {α : Type} [DecidableEq α] (x y : α) : Option Bool := some (decide (x = y))
def neN {α : Type} [DecidableEq α] (x y : α) : Option Bool := some (!decide (x = y))
def eqA (x y : PyData) : Option Bool := eqD x y
def eqS (x y : Str) : Option Bool := some (x.cps.toList == y.cps.toList)
def neS (x y : Str) : Option Bool := some !(x.cps.toList == y.cps.toList)
def isB (x y : Bool) : Option Bool := some (x == y)
section
variable {α β : Type} [Enc α] [DecidableEq α] [EncEq α]
theorem shaped_enc (h : EncEq.n α ≤ 64) (x : α) : SeqAt.shaped (enc x) = true := by
  unfold SeqAt.shaped
  have := EncEq.dep x
  rw [EncEq.lay, Bool.true_and, decide_eq_true_eq]
  omega
theorem eqD_enc (h : EncEq.n α ≤ 64) (x y : α) : eqD (enc x) (enc y) = some (decide (x = y)) := by
  unfold eqD
  rw [if_pos ⟨shaped_enc h x, shaped_enc h y⟩, EncEq.eqv]
theorem op_eq (h : EncEq.n α ≤ 64 := by decide) : Op2A gEq (eqN (α := α)) fun r => .val (enc r) := fun v w r δ x y h1 h2 e => by
  cases some_of e
  simp only [gEq, h1, h2, eqD_enc h]
  rfl
theorem op_ne (h : EncEq.n α ≤ 64 := by decide) : Op2A gNe (neN (α := α)) fun r => .val (enc r) := fun v w r δ x y h1 h2 e => by
  cases some_of e
  simp only [gNe, h1, h2, eqD_enc h]
  rfl
theorem op_eqA : Op2A gEq eqA fun r => .val (enc r) := fun v w r δ x y h1 h2 e => by
  have e : eqD v w = some r := e
  have h1 : rdA δ x = some v := h1
  have h2 : rdA δ y = some w := h2
  simp only [gEq, h1, h2, e]
  rfl
end
section
variable {α β : Type} [Enc α] {Γ : Ga} {fa fb : List Sl → Rs AV}
theorem rdA_val (d : PyData) (δ : List Sl) : rdA δ (.val d) = some d := rfl
theorem pu_eqE {n : Bool} {pa : Option (List α)} (ha : Ra fa Γ pa enc) : Pu (s2 (gEqE n) fa (sLst lNil)) Γ (pa.bind fun x => some (n != x.isEmpty)) fun r => .val (enc r) := fun r e δ s => by
  obtain ⟨v, e1, e⟩ := bind_of e
  cases some_of e
  obtain ⟨x, h1, h3⟩ := ha v e1 δ s
  unfold s2
  rw [h1]
  have h3 : rdA δ x = some (.list (v.map enc)) := h3
  show gEqE n x (.val (.list [])) δ = _
  simp only [gEqE, h3, rdA_val, List.isEmpty_map]
  rfl
def noneD : PyData → Bool
  | .none => true
  | _ => false
theorem isD_none {d : PyData} : isD d .none = some (noneD d) := by cases d <;> rfl
theorem pu_isX {n : Bool} {pa : Option PyData} (ha : Ra fa Γ pa enc) : Pu (s2 (gIs n) fa (sC .none)) Γ (pa.bind fun d => some (if n = true then !(noneD d) else noneD d)) fun r => .val (enc r) := fun r e δ s => by
  obtain ⟨v, e1, e⟩ := bind_of e
  cases some_of e
  obtain ⟨x, h1, h3⟩ := ha v e1 δ s
  unfold s2
  rw [h1]
  have h3 : rdA δ x = some v := h3
  show gIs n x (.val .none) δ = _
  simp only [gIs, h3, rdA_val, isD_none]
  rfl
theorem isNone_m [NotNone α] (x : Option α) : noneD (enc x : PyData) = x.isNone := by
  cases x with
  | none => rfl
  | some x =>
    show noneD (enc x : PyData) = false
    have := NotNone.c x
    cases q : (enc x : PyData) <;> first | rfl | exact absurd q this
theorem pu_isN [NotNone α] {n : Bool} {pa : Option (Option α)} (ha : Ra fa Γ pa enc) : Pu (s2 (gIs n) fa (sC .none)) Γ (pa.bind fun x => some (if n = true then x.isSome else x.isNone)) fun r => .val (enc r) := fun r e δ s => by
  obtain ⟨v, e1, e⟩ := bind_of e
  have h : Ra fa Γ (some (enc v : PyData)) (enc : PyData → PyData) := fun u eu δ s => by
    cases some_of eu
    exact ha v e1 δ s
  have k := pu_isX (n := n) h r (by
    rw [← e]
    show some _ = some _
    rw [isNone_m]
    cases n with
    | false => rfl
    | true =>
      cases v <;> rfl) δ s
  exact k
theorem op_isB : Op2A (gIs false) isB fun r => .val (enc r) := fun v w r δ x y h1 h2 e => by
  have h1 : rdA δ x = some (.bool v) := h1
  have h2 : rdA δ y = some (.bool w) := h2
  cases some_of e
  simp only [gIs, h1, h2, isD]
  rfl
theorem op_eqS : Op2 (gEqS false) eqS fun r => .val (enc r) := fun v w r δ x y h1 _ h2 _ e => by
  have h1 : rdC δ x = some (.str v) := h1
  have h2 : rdC δ y = some (.str w) := h2
  cases some_of e
  simp only [gEqS, h1, h2]
  show Rs.ok (AV.val (.bool _)) δ = Rs.ok (AV.val (.bool _)) δ
  cases (v.cps.toList == w.cps.toList) <;> rfl
theorem op_neS : Op2 (gEqS true) neS fun r => .val (enc r) := fun v w r δ x y h1 _ h2 _ e => by
  have h1 : rdC δ x = some (.str v) := h1
  have h2 : rdC δ y = some (.str w) := h2
  cases some_of e
  simp only [gEqS, h1, h2]
  show Rs.ok (AV.val (.bool _)) δ = Rs.ok (AV.val (.bool _)) δ
  cases (v.cps.toList == w.cps.toList) <;> rfl
end
section
variable {α β ε ζ : Type} {Γ : Ga} {f : List Sl → Rs AV} {t u : List Sl → Rs Bool}
theorem ts_tst {p : Option Bool} (h : Pu f Γ p fun b => .val (enc b)) : Ts (sTst f) Γ p := fun v e δ s => by
  unfold sTst
  rw [h v e δ s]
  rfl
theorem ts_truB {p : Option Bool} (h : Ra f Γ p enc) : Ts (sTru f) Γ p := fun v e δ s => by
  obtain ⟨x, h1, h2⟩ := h v e δ s
  unfold sTru
  rw [h1]
  show (match (rdA δ x).bind truD with
    | some k => Rs.ok k δ
    | none => .bad) = _
  rw [h2]
  rfl
theorem ts_not {p : Option Bool} (h : Ts t Γ p) : Ts (sNot t) Γ (p.bind fun b => some !b) := fun r e δ s => by
  obtain ⟨v, e1, e⟩ := bind_of e
  cases some_of e
  unfold sNot
  rw [h v e1 δ s]
  rfl
theorem ts_or {p q : Option Bool} (h : Ts t Γ p) (k : Ts u Γ q) : Ts (sOr t u) Γ (p.bind fun b => if b = true then some true else q) := fun r e δ s => by
  obtain ⟨v, e1, e⟩ := bind_of e
  unfold sOr
  rw [h v e1 δ s]
  cases v with
  | true => cases some_of e; rfl
  | false => exact k r e δ s
theorem ts_ok : Ts tOk Γ (some true) := fun r e δ s => by cases some_of e; rfl
theorem te_tst {p : Option ε} {k : ε → Bool} {Γ' : ε → Ga} (h : Ev f Γ p (fun v => .val (enc (k v))) Γ') : Te (sTst f) Γ p k Γ' := fun v e δ s => by
  obtain ⟨δ', h1, s1⟩ := h v e δ s
  refine ⟨δ', ?_, s1⟩
  unfold sTst
  rw [h1]
  rfl
theorem te_truB {p : Option ε} {k : ε → Bool} {Γ' : ε → Ga} (h : Es f Γ p (fun v => enc (k v)) Γ') : Te (sTru f) Γ p k Γ' := fun v e δ s => by
  obtain ⟨x, δ', h1, h2, h3, s1⟩ := h v e δ s
  refine ⟨δ', ?_, s1⟩
  unfold sTru
  rw [h1]
  show (match (rdA δ' x).bind truD with
    | some k => Rs.ok k δ'
    | none => .bad) = _
  rw [h3]
  rfl
theorem te_not {p : Option ε} {k : ε → Bool} {Γ' : ε → Ga} (h : Te t Γ p k Γ') : Te (sNot t) Γ p (fun v => !k v) Γ' := fun v e δ s => by
  obtain ⟨δ', h1, s1⟩ := h v e δ s
  refine ⟨δ', ?_, s1⟩
  unfold sNot
  rw [h1]
  rfl
theorem te_and {p : Option ε} {k : ε → Bool} {Γ1 : ε → Ga} {q : ε → Option ζ} {k2 : ζ → Bool} {Γ2 : ζ → Ga} {z : ε → ζ} (h : Te t Γ p k Γ1) (h2 : ∀ v, Te u (Γ1 v) (q v) k2 Γ2) (hz : ∀ v, k2 (z v) = false ∧ Γ2 (z v) = Γ1 v) : Te (sAnd t u) Γ (p.bind fun v => if k v = true then q v else some (z v)) k2 Γ2 := fun r e δ s => by
  obtain ⟨v, e1, e⟩ := bind_of e
  obtain ⟨δ', h1, s1⟩ := h v e1 δ s
  unfold sAnd
  rw [h1]
  by_cases c : k v = true
  · rw [if_pos c] at e
    show ∃ δ2, (if k v = true then u δ' else .ok false δ') = _ ∧ _
    rw [if_pos c]
    exact h2 v r e δ' s1
  · rw [if_neg c] at e
    cases some_of e
    show ∃ δ2, (if k v = true then u δ' else .ok false δ') = _ ∧ _
    rw [if_neg c]
    exact ⟨δ', by rw [(hz v).1], by rw [(hz v).2]; exact s1⟩
theorem pu_if {fa fb : List Sl → Rs AV} {pt : Option Bool} {pa pb : Option β} {a : β → AV} (h : Ts t Γ pt) (ha : Pu fa Γ pa a) (hb : Pu fb Γ pb a) : Pu (sIf t fa fb) Γ (pt.bind fun c => if c = true then pa else pb) a := fun r e δ s => by
  obtain ⟨v, e1, e⟩ := bind_of e
  unfold sIf
  rw [h v e1 δ s]
  cases v with
  | true => exact ha r e δ s
  | false => exact hb r e δ s
theorem ev_if {fa fb : List Sl → Rs AV} {p : Option ε} {k : ε → Bool} {Γ1 : ε → Ga} {pa pb : ε → Option β} {a : β → AV} {Γ2 : β → Ga} (h : Te t Γ p k Γ1) (ha : ∀ v, Ev fa (Γ1 v) (pa v) a Γ2) (hb : ∀ v, Ev fb (Γ1 v) (pb v) a Γ2) : Ev (sIf t fa fb) Γ (p.bind fun v => if k v = true then pa v else pb v) a Γ2 := fun r e δ s => by
  obtain ⟨v, e1, e⟩ := bind_of e
  obtain ⟨δ', h1, s1⟩ := h v e1 δ s
  unfold sIf
  rw [h1]
  by_cases c : k v = true
  · rw [if_pos c] at e
    show ∃ δ2, (if k v = true then fa δ' else fb δ') = _ ∧ _
    rw [if_pos c]
    exact ha v r e δ' s1
  · rw [if_neg c] at e
    show ∃ δ2, (if k v = true then fa δ' else fb δ') = _ ∧ _
    rw [if_neg c]
    exact hb v r e δ' s1
theorem pu_andV {fa fb : List Sl → Rs AV} {pa pb : Option Bool} (ha : Pu fa Γ pa fun b => .val (enc b)) (hb : Pu fb Γ pb fun b => .val (enc b)) : Pu (sAndV fa fb) Γ (pa.bind fun b => if b = true then pb else some false) fun b => .val (enc b) := fun r e δ s => by
  obtain ⟨v, e1, e⟩ := bind_of e
  unfold sAndV
  rw [sSt_val (ha v e1 δ s)]
  cases v with
  | true => exact hb r e δ s
  | false => cases some_of e; rfl
theorem pu_orV {fa fb : List Sl → Rs AV} {pa pb : Option Bool} (ha : Pu fa Γ pa fun b => .val (enc b)) (hb : Pu fb Γ pb fun b => .val (enc b)) : Pu (sOrV fa fb) Γ (pa.bind fun b => if b = true then some true else pb) fun b => .val (enc b) := fun r e δ s => by
  obtain ⟨v, e1, e⟩ := bind_of e
  unfold sOrV
  rw [sSt_val (ha v e1 δ s)]
  cases v with
  | true => cases some_of e; rfl
  | false => exact hb r e δ s
end
end Nv
namespace Nv
open PySem Hb L2
open Enc (enc)
section
variable {α β γ ε ζ : Type} {Γ : Ga} {f : List Sl → Rs AV}
def Dl (g : List Sl → Rs (List PyData)) (Γ : Ga) (p : Option β) (ds : β → List PyData) (Γ' : β → Ga) : Prop := ∀ v, p = some v → ∀ δ, Sat Γ δ → ∃ δ', g δ = .ok (ds v) δ' ∧ Sat (Γ' v) δ'
def DlP (g : List Sl → Rs (List PyData)) (Γ : Ga) (p : Option β) (ds : β → List PyData) : Prop := ∀ v, p = some v → ∀ δ, Sat Γ δ → g δ = .ok (ds v) δ
variable {g : List Sl → Rs (List PyData)}
theorem dp_nil : DlP lNil Γ (some ()) fun _ => [] := fun v _ δ _ => rfl
theorem dp_cons {p : Option ε} {d : ε → PyData} {q : Option ζ} {ds : ζ → List PyData} (h : Pu (sTk f) Γ p fun v => .val (d v)) (h2 : DlP g Γ q ds) : DlP (lCons f g) Γ (p.bind fun x => q.bind fun y => some (x, y)) fun v => d v.1 :: ds v.2 := fun r e δ s => by
  obtain ⟨v, e1, e⟩ := bind_of e
  obtain ⟨w, e2, e⟩ := bind_of e
  cases some_of e
  unfold lCons Rs.val
  rw [h v e1 δ s]
  show (g δ).bind _ = _
  rw [h2 w e2 δ s]
  rfl
theorem dl_nil : Dl lNil Γ (some ()) (fun _ => []) fun _ => Γ := fun v _ δ s => ⟨δ, rfl, s⟩
theorem dl_cons {p : Option ε} {d : ε → PyData} {Γ1 : ε → Ga} {q : ε → Option ζ} {ds : ζ → List PyData} {Γ2 : ε → ζ → Ga} (h : Ev (sTk f) Γ p (fun v => .val (d v)) Γ1) (h2 : ∀ x, Dl g (Γ1 x) (q x) ds (Γ2 x)) : Dl (lCons f g) Γ (p.bind fun x => (q x).bind fun y => some (x, y)) (fun v => d v.1 :: ds v.2) fun v => Γ2 v.1 v.2 := fun r e δ s => by
  obtain ⟨v, e1, e⟩ := bind_of e
  obtain ⟨w, e2, e⟩ := bind_of e
  cases some_of e
  obtain ⟨δ1, h1, s1⟩ := h v e1 δ s
  obtain ⟨δ2, h3, s2⟩ := h2 v w e2 δ1 s1
  refine ⟨δ2, ?_, s2⟩
  unfold lCons Rs.val
  rw [h1]
  show (g δ1).bind _ = _
  rw [h3]
  rfl
theorem pu_lst [Enc α] {p : Option β} {ds : β → List PyData} (h : DlP g Γ p ds) (xs : β → List α) (hx : ∀ v, ds v = (xs v).map enc := by intro _; rfl) (hl : ∀ v, (xs v).length ≤ cap := by intro _; exact Nat.le_of_ble_eq_true rfl) : Pu (sLst g) Γ (p.bind fun v => some (xs v)) fun r => .tmp (ow r) := fun r e δ s => by
  obtain ⟨v, e1, e⟩ := bind_of e
  cases some_of e
  unfold sLst
  rw [h v e1 δ s]
  show (if (ds v).length ≤ cap then _ else _) = _
  rw [hx v, List.length_map, if_pos (hl v)]
  rfl
theorem pu_tup [Enc α] {p : Option β} {ds : β → List PyData} (h : DlP g Γ p ds) (t : β → α) (hx : ∀ v, enc (t v) = .tuple (ds v) := by intro _; rfl) (hl : ∀ v, (ds v).length ≤ cap := by intro _; exact Nat.le_of_ble_eq_true rfl) : Pu (sTup g) Γ (p.bind fun v => some (t v)) fun r => .val (enc r) := fun r e δ s => by
  obtain ⟨v, e1, e⟩ := bind_of e
  cases some_of e
  unfold sTup
  rw [h v e1 δ s]
  show (if (ds v).length ≤ cap then _ else _) = _
  rw [if_pos (hl v)]
  show Rs.ok (AV.val (.tuple (ds v))) δ = Rs.ok (AV.val (enc (t v))) δ
  rw [hx]
theorem ev_lst [Enc α] {p : Option β} {ds : β → List PyData} {Γ' : β → Ga} (h : Dl g Γ p ds Γ') (xs : β → List α) (hx : ∀ v, ds v = (xs v).map enc := by intro _; rfl) (hl : ∀ v, (xs v).length ≤ cap := by intro _; exact Nat.le_of_ble_eq_true rfl) : Ev (sLst g) Γ (p.bind fun v => some (xs v, v)) (fun r => .tmp (ow r.1)) fun r => Γ' r.2 := fun r e δ s => by
  obtain ⟨v, e1, e⟩ := bind_of e
  cases some_of e
  obtain ⟨δ1, h1, s1⟩ := h v e1 δ s
  refine ⟨δ1, ?_, s1⟩
  unfold sLst
  rw [h1]
  show (if (ds v).length ≤ cap then _ else _) = _
  rw [hx v, List.length_map, if_pos (hl v)]
  rfl
theorem ev_tup [Enc α] {p : Option β} {ds : β → List PyData} {Γ' : β → Ga} (h : Dl g Γ p ds Γ') (t : β → α) (hx : ∀ v, enc (t v) = .tuple (ds v) := by intro _; rfl) (hl : ∀ v, (ds v).length ≤ cap := by intro _; exact Nat.le_of_ble_eq_true rfl) : Ev (sTup g) Γ (p.bind fun v => some (t v, v)) (fun r => .val (enc r.1)) fun r => Γ' r.2 := fun r e δ s => by
  obtain ⟨v, e1, e⟩ := bind_of e
  cases some_of e
  obtain ⟨δ1, h1, s1⟩ := h v e1 δ s
  refine ⟨δ1, ?_, s1⟩
  unfold sTup
  rw [h1]
  show (if (ds v).length ≤ cap then _ else _) = _
  rw [if_pos (hl v)]
  show Rs.ok (AV.val (.tuple (ds v))) δ1 = Rs.ok (AV.val (enc (t v))) δ1
  rw [hx]
end
section
variable {α β γ ε ζ : Type} {Γ : Ga} {f fl fh : List Sl → Rs AV}
/-- a bound -/
inductive Sb (Γ : Ga) : Option (List Sl → Rs AV) → Option (Option Int) → Prop
  | no : Sb Γ none (some none)
  | yes {f : List Sl → Rs AV} {p : Option Int} : Rd f Γ p enc → Sb Γ (some f) (p.bind fun i => some (some i))
theorem Sb.run {o : Option (List Sl → Rs AV)} {p : Option (Option Int)} (h : Sb Γ o p) {v : Option Int} (e : p = some v) {δ : List Sl} (s : Sat Γ δ) : sPartO o δ = .ok v δ := by
  cases h with
  | no => cases some_of e; rfl
  | yes h =>
    obtain ⟨i, e1, e⟩ := bind_of e
    cases some_of e
    obtain ⟨x, h1, h2, _⟩ := h i e1 δ s
    show (sSt _ δ).bind _ = _
    rw [h1]
    show (match rdC δ x with
      | some (.int i) => Rs.ok (some i) δ
      | _ => .bad) = _
    rw [h2]
    rfl
end
section
variable {α β γ ε ζ : Type} {Γ : Ga} {fo fa : List Sl → Rs AV}
theorem sVar_own {k : Nat} {δ : List Sl} {xs : List El} (h : δ[k]? = some (.ol xs)) : sVar k δ = .ok (.ref k) δ := by
  unfold sVar; rw [h]
theorem isLst_ref {k : Nat} {δ : List Sl} {xs : List El} (h : δ[k]? = some (.ol xs)) : isLst δ (.ref k) = true := by
  simp only [isLst, rdA, h, Sl.tree]
def apL {α : Type} (xs : List α) (x : α) : Option (List α) := if xs.length ≤ cap then some (xs ++ [x]) else none
/-- the item's value in the words of what it gives -/
theorem ev_app [Enc α] {k : Nat} {p : Option ε} {va : ε → α} {xs : ε → List α} {Γ1 : ε → Ga} {s0 : Sl} {es : List El} (h0 : Γ[k]? = some (.eq s0)) (hs0 : s0 = .ol es) (ha : Ev (sTk fa) Γ p (fun x => .val (enc (va x))) Γ1) (h1 : ∀ x, (Γ1 x)[k]? = some (.eq (ow (xs x)))) :
    Ev (sApp (sVar k) fa) Γ (p.bind fun x => (apL (xs x) (va x)).bind fun ys => some (ys, x)) (fun _ => .val .none) fun r => upP k (.eq (ow r.1)) (Γ1 r.2) := fun r e δ s => by
  obtain ⟨v, e1, e⟩ := bind_of e
  obtain ⟨ys, e2, e⟩ := bind_of e
  cases some_of e
  obtain ⟨δ1, q1, s1⟩ := ha v e1 δ s
  subst hs0
  have hk := s.at_ h0
  have hk1 := s1.at_ (h1 v)
  unfold apL at e2
  by_cases c : (xs v).length ≤ cap
  · rw [if_pos c] at e2
    cases some_of e2
    refine ⟨_, ?_, s1.up (p := .eq (ow (xs v ++ [va v]))) rfl⟩
    unfold sApp
    rw [sSt_ref (sVar_own hk)]
    show (if isLst δ (.ref k) = true then _ else _) = _
    rw [if_pos (isLst_ref hk)]
    unfold Rs.val
    rw [q1]
    show appI k (enc (va v)) δ1 = _
    unfold appI
    rw [hk1]
    simp only [ow, List.length_map, if_pos c, List.map_append]
    rfl
  · rw [if_neg c] at e2
    cases e2
def popL {α : Type} (xs : List α) (i : Int) : Option (α × List α) := (ixN xs.length i).bind fun j => (xs[j]?).bind fun x => if xs.length ≤ cap then some (x, xs.eraseIdx j) else none
theorem erase_map {α β : Type} (f : α → β) : ∀ (xs : List α) (j : Nat), (xs.map f).eraseIdx j = (xs.eraseIdx j).map f
  | [], _ => rfl
  | x :: r, 0 => rfl
  | x :: r, j + 1 => by
    show f x :: (r.map f).eraseIdx j = f x :: (r.eraseIdx j).map f
    rw [erase_map f r j]
theorem popI_ok [Enc α] {k : Nat} {xs : List α} {i : Int} {r : α × List α} {δ : List Sl} (h : δ[k]? = some (ow xs)) (e : popL xs i = some r) : popI k i δ = .ok (.val (enc r.1)) (upS k (ow r.2) δ) := by
  obtain ⟨j, e1, e⟩ := bind_of e
  obtain ⟨x, e2, e⟩ := bind_of e
  by_cases c : xs.length ≤ cap
  · rw [if_pos c] at e
    cases some_of e
    unfold popI
    rw [h]
    simp only [ow, allFz_map, List.length_map, e1, List.getElem?_map, e2, Option.map_some, if_pos c, erase_map]
  · rw [if_neg c] at e
    cases e
theorem ev_pop1 [Enc α] {k : Nat} {p : Option ε} {va : ε → Int} {xs : ε → List α} {Γ1 : ε → Ga} {s0 : Sl} {es : List El} (h0 : Γ[k]? = some (.eq s0)) (hs0 : s0 = .ol es) (ha : Ev (sTk fa) Γ p (fun x => .val (enc (va x))) Γ1) (h1 : ∀ x, (Γ1 x)[k]? = some (.eq (ow (xs x)))) :
    Ev (sPop1 (sVar k) fa) Γ (p.bind fun x => (popL (xs x) (va x)).bind fun y => some (y, x)) (fun r => .val (enc r.1.1)) fun r => upP k (.eq (ow r.1.2)) (Γ1 r.2) := fun r e δ s => by
  obtain ⟨v, e1, e⟩ := bind_of e
  obtain ⟨y, e2, e⟩ := bind_of e
  cases some_of e
  obtain ⟨δ1, q1, s1⟩ := ha v e1 δ s
  subst hs0
  have hk := s.at_ h0
  have hk1 := s1.at_ (h1 v)
  refine ⟨_, ?_, s1.up (p := .eq (ow y.2)) rfl⟩
  unfold sPop1
  rw [sSt_ref (sVar_own hk)]
  show (if isLst δ (.ref k) = true then _ else _) = _
  rw [if_pos (isLst_ref hk)]
  unfold Rs.val
  rw [q1]
  exact popI_ok hk1 e2
end
section
variable {α β γ ε ζ ρ : Type} {Γ : Ga} {f : List Sl → Rs AV} {g : List Sl → Rs (List Ar)}
def Ag (g : List Sl → Rs (List Ar)) (Γ : Ga) (p : Option β) (as : β → List Ar) (Γ' : β → Ga) : Prop := ∀ v, p = some v → ∀ δ, Sat Γ δ → ∃ δ', g δ = .ok (as v) δ' ∧ Sat (Γ' v) δ'
def AgP (g : List Sl → Rs (List Ar)) (Γ : Ga) (p : Option β) (as : β → List Ar) : Prop := ∀ v, p = some v → ∀ δ, Sat Γ δ → g δ = .ok (as v) δ
def arV : AV → Ar
  | .val d => .fz d
  | .tmp s => .own s
  | .ref k => .io k
def noRef : AV → Bool
  | .ref _ => false
  | _ => true
theorem arOf_V {a : AV} (h : noRef a = true) : arOf a = some (arV a) := by cases a <;> first | rfl | cases h
theorem nodup1 (k : Nat) : [k].Nodup := by simp
theorem ap_nil : AgP rNil Γ (some ()) fun _ => [] := fun v _ δ _ => rfl
theorem ap_cons {p : Option ε} {a : ε → AV} {q : Option ζ} {as : ζ → List Ar} (h : Pu f Γ p a) (h2 : AgP g Γ q as) (hr : ∀ v, noRef (a v) = true := by intro _; rfl) : AgP (rCons f g) Γ (p.bind fun x => q.bind fun y => some (x, y)) fun v => arV (a v.1) :: as v.2 := fun z e δ s => by
  obtain ⟨v, e1, e⟩ := bind_of e
  obtain ⟨w, e2, e⟩ := bind_of e
  cases some_of e
  unfold rCons
  rw [h v e1 δ s]
  show (match arOf (a v) with
    | some r => (g δ).bind fun rs δ2 => Rs.ok (r :: rs) δ2
    | none => .bad) = _
  rw [arOf_V (hr v)]
  show (g δ).bind _ = _
  rw [h2 w e2 δ s]
  rfl
theorem ag_nil : Ag rNil Γ (some ()) (fun _ => []) fun _ => Γ := fun v _ δ s => ⟨δ, rfl, s⟩
theorem ag_cons {p : Option ε} {a : ε → AV} {Γ1 : ε → Ga} {q : ε → Option ζ} {as : ζ → List Ar} {Γ2 : ε → ζ → Ga} (h : Ev f Γ p a Γ1) (h2 : ∀ x, Ag g (Γ1 x) (q x) as (Γ2 x)) (hr : ∀ v, noRef (a v) = true := by intro _; rfl) : Ag (rCons f g) Γ (p.bind fun x => (q x).bind fun y => some (x, y)) (fun v => arV (a v.1) :: as v.2) fun v => Γ2 v.1 v.2 := fun z e δ s => by
  obtain ⟨v, e1, e⟩ := bind_of e
  obtain ⟨w, e2, e⟩ := bind_of e
  cases some_of e
  obtain ⟨δ1, h1, s1⟩ := h v e1 δ s
  obtain ⟨δ2, h3, s2⟩ := h2 v w e2 δ1 s1
  refine ⟨δ2, ?_, s2⟩
  unfold rCons
  rw [h1]
  show (match arOf (a v) with
    | some r => (g δ1).bind fun rs δ2 => Rs.ok (r :: rs) δ2
    | none => .bad) = _
  rw [arOf_V (hr v)]
  show (g δ1).bind _ = _
  rw [h3]
  rfl
def insOf : List Ar → Option (List Sl)
  | [] => some []
  | .fz d :: r => (insOf r).map (.fz d :: ·)
  | .own s :: r => (insOf r).map (s :: ·)
  | .io _ :: _ => none
theorem ins_args {δ : List Sl} : ∀ {as : List Ar} {l : List Sl}, insOf as = some l → argsS δ as = some l ∧ iosOf δ as = []
  | [], l, h => by cases h; exact ⟨rfl, rfl⟩
  | .fz d :: r, l, h => by
    have h : (insOf r).map (.fz d :: ·) = some l := h
    cases q : insOf r with
    | none => rw [q] at h; cases h
    | some m =>
      rw [q] at h
      cases h
      obtain ⟨h1, h2⟩ := ins_args (δ := δ) q
      exact ⟨by simp only [argsS, argS, h1], h2⟩
  | .own s :: r, l, h => by
    have h : (insOf r).map (s :: ·) = some l := h
    cases q : insOf r with
    | none => rw [q] at h; cases h
    | some m =>
      rw [q] at h
      cases h
      obtain ⟨h1, h2⟩ := ins_args (δ := δ) q
      exact ⟨by simp only [argsS, argS, h1], h2⟩
  | .io k :: r, l, h => by cases h
theorem putB_nil {δ : List Sl} : ∀ {as : List Ar} {l m : List Sl}, insOf as = some m → putB [] as l δ = δ
  | [], l, _, _ => by cases l <;> rfl
  | .fz d :: r, [], _, _ => rfl
  | .own s :: r, [], _, _ => rfl
  | .fz d :: r, s :: l, m, h => by
    have h : (insOf r).map (.fz d :: ·) = some m := h
    cases q : insOf r with
    | none => rw [q] at h; cases h
    | some m => exact putB_nil (as := r) q
  | .own t :: r, s :: l, m, h => by
    have h : (insOf r).map (t :: ·) = some m := h
    cases q : insOf r with
    | none => rw [q] at h; cases h
    | some m => exact putB_nil (as := r) q
  | .io k :: r, l, m, h => by cases h
theorem callF_pure {F : List Sl → FR} {as : List Ar} {l : List Sl} {δ o : List Sl} {r : Sl} (h : insOf as = some l) (hF : F l = .ok r o) : callF F as δ = .ok (AV.ofSl r) δ := by
  obtain ⟨h1, h2⟩ := ins_args (δ := δ) h
  unfold callF backS
  rw [h2]
  rw [if_pos List.nodup_nil, h1]
  simp only [hF]
  rw [putB_nil h]
  rfl
/-- F on what stands for v gives what stands for n v -/
def Fun (F : List Sl → FR) (n : Option ρ) (ins : List Sl) (ret : ρ → Sl) (out : ρ → List Sl) : Prop := ∀ r, n = some r → F ins = .ok (ret r) (out r)
theorem pu_call {F : List Sl → FR} {dd : List PyData} {q : Option β} {as : β → List Ar} {n : β → Option ρ} {ins : β → List Sl} {ret : ρ → Sl} {out : ρ → List Sl} (hg : AgP g Γ q as) (hF : ∀ v, Fun F (n v) (ins v) ret out) (hi : ∀ v, insOf (as v ++ dd.map .fz) = some (ins v) := by intro _; rfl) : Pu (sCall F dd g) Γ (q.bind n) fun r => AV.ofSl (ret r) := fun r e δ s => by
  obtain ⟨v, e1, e⟩ := bind_of e
  unfold sCall
  rw [hg v e1 δ s]
  exact callF_pure (hi v) (hF v r e)
/-- a slot handed over -/
theorem ag_io {k : Nat} {q : Option β} {as : β → List Ar} {Γ1 : β → Ga} {s0 : Sl} (h0 : Γ[k]? = some (.eq s0)) (ho : ownS (some s0) = true) (h : Ag g Γ q as Γ1) : Ag (rIo k g) Γ q (fun v => .io k :: as v) Γ1 := fun v e δ s => by
  obtain ⟨δ1, h1, s1⟩ := h v e δ s
  refine ⟨δ1, ?_, s1⟩
  have hk := s.at_ h0
  unfold rIo
  have hv : sVar k δ = .ok (.ref k) δ := by
    unfold sVar
    rw [hk]
    cases s0 <;> first | rfl | cases ho
  rw [hv]
  show (g δ).bind _ = _
  rw [h1]
  rfl
def insG (Γ : Ga) : List Ar → Option (List Sl)
  | [] => some []
  | .fz d :: r => (insG Γ r).map (.fz d :: ·)
  | .own s :: r => (insG Γ r).map (s :: ·)
  | .io k :: r => match Γ[k]? with
    | some (.eq s) => if ownS (some s) = true then (insG Γ r).map (s :: ·) else none
    | _ => none
def iosG : List Ar → List Nat
  | [] => []
  | .io k :: r => k :: iosG r
  | _ :: r => iosG r
def clrP (ks : List Nat) (Γ : Ga) : Ga := ks.foldr (fun k Γ => upP k (.eq .no) Γ) Γ
def putP : List Ar → List Sl → Ga → Ga
  | .io k :: r, s :: l, Γ => putP r l (upP k (.eq (noAl s)) Γ)
  | .fz _ :: r, _ :: l, Γ => putP r l Γ
  | .own _ :: r, _ :: l, Γ => putP r l Γ
  | _, _, Γ => Γ
def backP (Γ : Ga) (as : List Ar) (o : List Sl) : Ga := putP as o (clrP (iosG as) Γ)
theorem insG_ok {δ : List Sl} (s : Sat Γ δ) : ∀ {as : List Ar} {l : List Sl}, insG Γ as = some l → argsS δ as = some l ∧ iosOf δ as = iosG as
  | [], l, h => by cases h; exact ⟨rfl, rfl⟩
  | .fz d :: r, l, h => by
    have h : (insG Γ r).map (.fz d :: ·) = some l := h
    cases q : insG Γ r with
    | none => rw [q] at h; cases h
    | some m =>
      rw [q] at h
      cases h
      obtain ⟨h1, h2⟩ := insG_ok s q
      exact ⟨by simp only [argsS, argS, h1], h2⟩
  | .own t :: r, l, h => by
    have h : (insG Γ r).map (t :: ·) = some l := h
    cases q : insG Γ r with
    | none => rw [q] at h; cases h
    | some m =>
      rw [q] at h
      cases h
      obtain ⟨h1, h2⟩ := insG_ok s q
      exact ⟨by simp only [argsS, argS, h1], h2⟩
  | .io k :: r, l, h => by
    unfold insG at h
    cases q0 : Γ[k]? with
    | none => simp only [q0] at h; cases h
    | some p =>
      cases p with
      | eq t =>
        simp only [q0] at h
        by_cases c : ownS (some t) = true
        · rw [if_pos c] at h
          cases q : insG Γ r with
          | none => rw [q] at h; cases h
          | some m =>
            rw [q] at h
            cases h
            obtain ⟨h1, h2⟩ := insG_ok s q
            have hk := s.at_ q0
            refine ⟨?_, ?_⟩
            · simp only [argsS, h1, argS, hk]
              cases t <;> first | rfl | cases c
            · rw [ios_cons_io, if_pos (by rw [hk]; exact c), h2]
              rfl
        · rw [if_neg c] at h
          cases h
      | _ => simp only [q0] at h; cases h
theorem clrP_ok {δ : List Sl} (s : Sat Γ δ) : ∀ ks : List Nat, Sat (clrP ks Γ) (clr ks δ)
  | [] => s
  | k :: r => (clrP_ok s r).up (p := .eq .no) rfl
theorem putP_ok (ks : List Nat) : ∀ {as : List Ar} {o : List Sl} {Γ : Ga} {δ : List Sl}, Sat Γ δ → (∀ k ∈ iosG as, k ∈ ks) → Sat (putP as o Γ) (putB ks as o δ)
  | [], o, _, _, s, _ => by cases o <;> exact s
  | .fz d :: r, [], _, _, s, _ => s
  | .own t :: r, [], _, _, s, _ => s
  | .io k :: r, [], _, _, s, _ => s
  | .fz d :: r, t :: o, _, _, s, h => putP_ok ks (as := r) s h
  | .own u :: r, t :: o, _, _, s, h => putP_ok ks (as := r) s h
  | .io k :: r, t :: o, Γ, δ, s, h => by
    show Sat (putP r o (upP k (.eq (noAl t)) Γ)) (putB ks r o (if k ∈ ks then upS k (noAl t) δ else δ))
    rw [if_pos (h k List.mem_cons_self)]
    exact putP_ok ks (as := r) (s.up (p := .eq (noAl t)) rfl) fun j hj => h j (List.mem_cons_of_mem _ hj)
theorem ev_callG {F : List Sl → FR} {dd : List PyData} {q : Option β} {as : β → List Ar} {Γ1 : β → Ga} {n : β → Option ρ} {ins : β → List Sl} {ret : ρ → Sl} {out : ρ → List Sl} (hg : Ag g Γ q as Γ1) (hF : ∀ v, Fun F (n v) (ins v) ret out)
    (hi : ∀ v, insG (Γ1 v) (as v ++ dd.map .fz) = some (ins v) := by intro _; rfl) (hn : ∀ v, (iosG (as v ++ dd.map .fz)).Nodup := by intro _; first | exact nodup1 _ | exact List.nodup_nil | decide) :
    Ev (sCall F dd g) Γ (q.bind fun v => (n v).bind fun r => some (r, v)) (fun r => AV.ofSl (ret r.1)) (fun r => backP (Γ1 r.2) (as r.2 ++ dd.map .fz) (out r.1)) := fun r e δ s => by
  obtain ⟨v, e1, e⟩ := bind_of e
  obtain ⟨w, e2, e⟩ := bind_of e
  cases some_of e
  obtain ⟨δ1, h1, sa⟩ := hg v e1 δ s
  obtain ⟨k1, k2⟩ := insG_ok sa (hi v)
  refine ⟨backS (as v ++ dd.map .fz) (out w) δ1, ?_, ?_⟩
  · unfold sCall
    rw [h1]
    show callF F (as v ++ dd.map .fz) δ1 = _
    unfold callF
    rw [k2, if_pos (hn v), k1]
    simp only [hF v w e2]
  · unfold backS backP
    rw [k2]
    exact putP_ok _ (clrP_ok sa _) fun k hk => hk
/-- a def whose result is a list, or stands still: its tree is known -/
def FunM (F : List Sl → FR) (n : Option ρ) (ins : List Sl) (d : ρ → PyData) (out : ρ → List Sl) : Prop := ∀ r, n = some r → ∃ s, F ins = .ok s (out r) ∧ (Pt.tr (d r)).Ok s
theorem tr_tree {d : PyData} {s : Sl} (h : (Pt.tr d).Ok s) : s.tree = some d := by
  rcases h with ⟨h, _⟩ | h
  · exact h
  · rw [h]; rfl
end
end Nv
namespace Nv
open PySem Hb L2
open Enc (enc)
/-- a return -/
def RF {ρ : Type} (ret : ρ → Pt) (ΓR : ρ → Ga) (r : ρ) (o : Ot) : Prop := ∃ s δ', (o = .rt s δ' ∨ (o = .nx δ' ∧ s = .fz .none)) ∧ (ret r).Ok s ∧ Sat (ΓR r) δ'
/-- on to the next turn -/
def RS {σ : Type} (ΓS : σ → Ga) (s : σ) (o : Ot) : Prop := ∃ δ', (o = .nx δ' ∨ o = .ct δ') ∧ Sat (ΓS s) δ'
/-- a turn that may leave its loop -/
inductive Fl (ρ σ : Type) where
  | nx (s : σ) | bk (s : σ) | rt (r : ρ)
def Fl.el {ρ σ ζ : Type} (o : Fl ρ σ) (f : σ → Option ζ) (k : ρ → Option ζ) : Option ζ := match o with
  | .nx s => f s
  | .bk s => f s
  | .rt r => k r
def RL {ρ σ : Type} (R : ρ → Ot → Prop) (ΓS ΓB : σ → Ga) : Fl ρ σ → Ot → Prop
  | .nx s, o => ∃ δ', (o = .nx δ' ∨ o = .ct δ') ∧ Sat (ΓS s) δ'
  | .bk s, o => ∃ δ', o = .bk δ' ∧ Sat (ΓB s) δ'
  | .rt r, o => R r o ∧ ∃ s δ', o = .rt s δ'
section
variable {α β γ ε ζ ρ σ : Type} {Γ : Ga} {f : List Sl → Rs AV} {g h A B : List Sl → Ot} {R : ζ → Ot → Prop}
theorem seq_next (f : List Sl → Ot) : oSeq f oNext = f := by
  funext δ
  unfold oSeq
  cases f δ <;> rfl
theorem bl_last {p : Option ζ} (k : Bl (oSeq g oNext) Γ p R) : Bl g Γ p R := by rwa [seq_next] at k
theorem bl_next {p : Option ζ} (k : Bl g Γ p R) : Bl (oSeq oNext g) Γ p R := k
theorem bl_assoc {p : Option ζ} (k : Bl (oSeq A (oSeq B g)) Γ p R) : Bl (oSeq (oSeq A B) g) Γ p R := fun v e δ s => by
  have := k v e δ s
  unfold oSeq at this ⊢
  cases q : A δ <;> simp only [q] at this ⊢ <;> exact this
theorem nx_of {δ δ' : List Sl} (q : A δ = .nx δ') : oSeq A g δ = g δ' := by unfold oSeq; rw [q]
theorem bl_asgV {k : Nat} {p : Option ε} {d : ε → PyData} {Γ1 : ε → Ga} {kont : ε → Option ζ} (h : Ev f Γ p (fun v => .val (d v)) Γ1) (k2 : ∀ v, Bl g (upP k (.eq (.fz (d v))) (Γ1 v)) (kont v) R) : Bl (oSeq (oAsg f (tgN k)) g) Γ (p.bind kont) R := fun r e δ s => by
  obtain ⟨v, e1, e⟩ := bind_of e
  obtain ⟨δ1, h1, s1⟩ := h v e1 δ s
  rw [nx_of (show oAsg f (tgN k) δ = .nx (upS k (.fz (d v)) δ1) by unfold oAsg; rw [h1]; rfl)]
  exact k2 v r e _ (s1.up rfl)
theorem bl_asgT {k : Nat} {p : Option ε} {t : ε → Sl} {Γ1 : ε → Ga} {kont : ε → Option ζ} (h : Ev f Γ p (fun v => .tmp (t v)) Γ1) (k2 : ∀ v, Bl g (upP k (.eq (t v)) (Γ1 v)) (kont v) R) : Bl (oSeq (oAsg f (tgN k)) g) Γ (p.bind kont) R := fun r e δ s => by
  obtain ⟨v, e1, e⟩ := bind_of e
  obtain ⟨δ1, h1, s1⟩ := h v e1 δ s
  rw [nx_of (show oAsg f (tgN k) δ = .nx (upS k (t v) δ1) by unfold oAsg; rw [h1]; rfl)]
  exact k2 v r e _ (s1.up rfl)
/-- x = y, y's list given away -/
theorem bl_mv {k j : Nat} {s0 : Sl} {kont : Option ζ} (h0 : Γ[j]? = some (.eq s0)) (ho : ownS (some s0) = true) (k2 : Bl g (upP k (.eq s0) (upP j (.eq .no) Γ)) kont R) : Bl (oSeq (oAsg (sMv (sVar j)) (tgN k)) g) Γ kont R := fun r e δ s => by
  have hk := s.at_ h0
  have h1 : sMv (sVar j) δ = .ok (.tmp s0) (upS j .no δ) := by
    unfold sMv
    have : sVar j δ = .ok (.ref j) δ := by
      unfold sVar
      rw [hk]
      cases s0 <;> first | rfl | cases ho
    rw [this]
    show moveI j δ = _
    unfold moveI
    rw [hk]
    cases s0 <;> first | rfl | cases ho
  rw [nx_of (show oAsg (sMv (sVar j)) (tgN k) δ = .nx (upS k s0 (upS j .no δ)) by unfold oAsg; rw [h1]; rfl)]
  exact k2 r e _ ((s.up (p := .eq .no) rfl).up rfl)
theorem bl_expr {p : Option ε} {a : ε → AV} {Γ1 : ε → Ga} {kont : ε → Option ζ} (h : Ev f Γ p a Γ1) (k2 : ∀ v, Bl g (Γ1 v) (kont v) R) : Bl (oSeq (oDrop f) g) Γ (p.bind kont) R := fun r e δ s => by
  obtain ⟨v, e1, e⟩ := bind_of e
  obtain ⟨δ1, h1, s1⟩ := h v e1 δ s
  rw [nx_of (show oDrop f δ = .nx δ1 by unfold oDrop; rw [h1]; rfl)]
  exact k2 v r e _ s1
def stI {α : Type} (xs : List α) (i : Int) (v : α) : Option (List α) := (ixN xs.length i).map fun j => xs.set j v
theorem setA_own [Enc α] {k : Nat} {xs ys : List α} {i : Int} {v : α} {δ : List Sl} {y : AV} (h : δ[k]? = some (ow xs)) (hy : rdC δ y = some (.int i)) (e : stI xs i v = some ys) : setA (.ref k) y (enc v) δ = .ok () (upS k (ow ys) δ) := by
  unfold stI at e
  cases q : ixN xs.length i with
  | none => rw [q] at e; cases e
  | some j =>
    rw [q] at e
    cases some_of e
    unfold setA
    simp only [hy, h, ow, List.length_map, q, allFz_map, List.map_set]
theorem bl_set [Enc α] {k : Nat} {fi : List Sl → Rs AV} {p : Option ε} {va : ε → α} {Γ1 : ε → Ga} {xs : ε → List α} {pi : ε → Option Int} {kont : ε → List α → Option ζ} (h : Ev f Γ p (fun v => .val (enc (va v))) Γ1) (h0 : ∀ v, (Γ1 v)[k]? = some (.eq (ow (xs v)))) (hi : ∀ v, Rd fi (Γ1 v) (pi v) enc)
    (k2 : ∀ v ys, Bl g (upP k (.eq (ow ys)) (Γ1 v)) (kont v ys) R) : Bl (oSeq (oAsg f (tgS (sVar k) fi)) g) Γ (p.bind fun v => (pi v).bind fun i => (stI (xs v) i (va v)).bind (kont v)) R := fun r e δ s => by
  obtain ⟨v, e1, e⟩ := bind_of e
  obtain ⟨i, e2, e⟩ := bind_of e
  obtain ⟨ys, e3, e⟩ := bind_of e
  obtain ⟨δ1, h1, s1⟩ := h v e1 δ s
  obtain ⟨x, q1, q2, _⟩ := hi v i e2 δ1 s1
  have hk := s1.at_ (h0 v)
  rw [nx_of (show oAsg f (tgS (sVar k) fi) δ = .nx (upS k (ow ys) δ1) by
    unfold oAsg
    rw [h1]
    show (tgS (sVar k) fi (.val (enc (va v))) δ1).otU = _
    unfold tgS
    show ((sSt (sVar k) δ1).bind _).otU = _
    rw [sSt_ref (sVar_own hk)]
    show ((sSt fi δ1).bind _).otU = _
    rw [q1]
    show (setA (.ref k) x (enc (va v)) δ1).otU = _
    rw [setA_own hk q2 e3]
    rfl)]
  exact k2 v ys r e _ (s1.up rfl)
def asgP : List Nat → List Ar → Ga → Ga
  | k :: ks, .fz d :: r, Γ => asgP ks r (upP k (.eq (.fz d)) Γ)
  | k :: ks, .own s :: r, Γ => asgP ks r (upP k (.eq s) Γ)
  | _, _, Γ => Γ
def parOk : List Nat → List Ar → Bool
  | [], [] => true
  | _ :: ks, .fz _ :: r => parOk ks r
  | _ :: ks, .own _ :: r => parOk ks r
  | _, _ => false
theorem asgP_ok : ∀ {ks : List Nat} {as : List Ar} {Γ : Ga} {δ : List Sl}, Sat Γ δ → parOk ks as = true → noIo as = true ∧ ∃ δ', asgA ks as δ = .nx δ' ∧ Sat (asgP ks as Γ) δ'
  | [], [], Γ, δ, s, _ => ⟨rfl, δ, rfl, s⟩
  | [], _ :: _, _, _, _, h => by cases h
  | _ :: _, [], _, _, _, h => by cases h
  | k :: ks, .io j :: r, _, _, _, h => by cases h
  | k :: ks, .fz d :: r, Γ, δ, s, h => asgP_ok (ks := ks) (as := r) (s.up (i := k) (p := .eq (.fz d)) rfl) h
  | k :: ks, .own t :: r, Γ, δ, s, h => asgP_ok (ks := ks) (as := r) (s.up (i := k) (p := .eq t) rfl) h
theorem bl_par {ks : List Nat} {ga : List Sl → Rs (List Ar)} {p : Option ε} {as : ε → List Ar} {Γ1 : ε → Ga} {kont : ε → Option ζ} (h : Ag ga Γ p as Γ1) (k2 : ∀ v, Bl g (asgP ks (as v) (Γ1 v)) (kont v) R) (hp : ∀ v, parOk ks (as v) = true := by intro _; rfl) : Bl (oSeq (oPar ks ga) g) Γ (p.bind kont) R := fun r e δ s => by
  obtain ⟨v, e1, e⟩ := bind_of e
  obtain ⟨δ1, h1, s1⟩ := h v e1 δ s
  obtain ⟨n, δ2, h2, s2⟩ := asgP_ok s1 (hp v)
  rw [nx_of (show oPar ks ga δ = .nx δ2 by
    unfold oPar
    rw [h1]
    simp only [n, if_true, h2])]
  exact k2 v r e _ s2
theorem sMv_val {δ δ' : List Sl} {d : PyData} (h : f δ = .ok (.val d) δ') : sMv f δ = .ok (.val d) δ' := by unfold sMv; rw [h]
theorem sMv_tmp {δ δ' : List Sl} {t : Sl} (h : f δ = .ok (.tmp t) δ') : sMv f δ = .ok (.tmp t) δ' := by unfold sMv; rw [h]
theorem bl_retV {p : Option ε} {d : ε → PyData} {Γ1 : ε → Ga} {κ : ε → ζ} (h : Ev f Γ p (fun v => .val (d v)) Γ1) (k : ∀ v δ', Sat (Γ1 v) δ' → R (κ v) (.rt (.fz (d v)) δ')) : Bl (oRet f) Γ (p.bind fun v => some (κ v)) R := fun r e δ s => by
  obtain ⟨v, e1, e⟩ := bind_of e
  cases some_of e
  obtain ⟨δ1, h1, s1⟩ := h v e1 δ s
  have : oRet f δ = .rt (.fz (d v)) δ1 := by unfold oRet; rw [sMv_val h1]; rfl
  rw [this]
  exact k v δ1 s1
theorem bl_retT {p : Option ε} {t : ε → Sl} {Γ1 : ε → Ga} {κ : ε → ζ} (h : Ev f Γ p (fun v => .tmp (t v)) Γ1) (k : ∀ v δ', Sat (Γ1 v) δ' → R (κ v) (.rt (t v) δ')) : Bl (oRet f) Γ (p.bind fun v => some (κ v)) R := fun r e δ s => by
  obtain ⟨v, e1, e⟩ := bind_of e
  cases some_of e
  obtain ⟨δ1, h1, s1⟩ := h v e1 δ s
  have : oRet f δ = .rt (t v) δ1 := by unfold oRet; rw [sMv_tmp h1]; rfl
  rw [this]
  exact k v δ1 s1
/-- a name whose list is one's own -/
theorem bl_retO {k : Nat} {s0 : Sl} {κ : ζ} (h0 : Γ[k]? = some (.eq s0)) (ho : ownS (some s0) = true) (k2 : ∀ δ', Sat (upP k (.eq .no) Γ) δ' → R κ (.rt s0 δ')) : Bl (oRet (sVar k)) Γ (some κ) R := fun r e δ s => by
  cases some_of e
  have hk := s.at_ h0
  have h1 : sVar k δ = .ok (.ref k) δ := by
    unfold sVar
    rw [hk]
    cases s0 <;> first | rfl | cases ho
  have h2 : sMv (sVar k) δ = .ok (.tmp s0) (upS k .no δ) := by
    unfold sMv
    rw [h1]
    show moveI k δ = _
    unfold moveI
    rw [hk]
    cases s0 <;> first | rfl | cases ho
  have : oRet (sVar k) δ = .rt s0 (upS k .no δ) := by unfold oRet; rw [h2]; rfl
  rw [this]
  exact k2 _ (s.up (p := .eq .no) rfl)
/-- slot k may be lost -/
def loseE (k : Nat) : Pt → Pt
  | .eq (.al x j) => if x = k then .aa else .eq (.al x j)
  | p => p
def loseP (k : Nat) (Γ : Ga) : Ga := (Γ.map (loseE k)).set k .any
theorem lose1 {k : Nat} {p : Pt} {s : Sl} (h : p.Ok s) : (loseE k p).Ok s := by
  cases p with
  | eq t =>
    cases t with
    | al x j =>
      show (if x = k then Pt.aa else .eq (.al x j)).Ok s
      by_cases c : x = k
      · rw [if_pos c]; trivial
      · rw [if_neg c]; exact h
    | _ => exact h
  | _ => exact h
theorem lose2 {k : Nat} {p : Pt} {s : Sl} (h : (dropP k p).Ok s) : (loseE k p).Ok s := by
  cases p with
  | eq t =>
    cases t with
    | al x j =>
      have h : (if x = k then Pt.eq .no else .eq (.al x j)).Ok s := h
      show (if x = k then Pt.aa else .eq (.al x j)).Ok s
      by_cases c : x = k
      · rw [if_pos c]; trivial
      · rw [if_neg c] at h ⊢; exact h
    | _ => exact h
  | _ => exact h
theorem sat_map {q r : Pt → Pt} (h : ∀ p s, (q p).Ok s → (r p).Ok s) : ∀ {Γ : Ga} {δ : List Sl}, Sat (Γ.map q) δ → Sat (Γ.map r) δ
  | [], _, s => by cases s; exact .nil
  | p :: Γ, _, s => by
    cases s with
    | cons a b => exact .cons (h _ _ a) (sat_map h b)
theorem sat_set_any : ∀ {Γ : Ga} {δ : List Sl} {k : Nat} {t : Sl}, Sat Γ δ → δ[k]? = some t → isAl t = false → Sat (Γ.set k .any) δ
  | _, _, _, _, .nil, e, _ => by simp at e
  | _, _, 0, _, .cons a b, e, h => by
    simp at e
    subst e
    exact .cons h b
  | _, _, k + 1, _, .cons a b, e, h => .cons a (sat_set_any b (by simpa using e) h)
theorem lose_same {δ : List Sl} {k : Nat} {t : Sl} (s : Sat Γ δ) (e : δ[k]? = some t) (h : isAl t = false) : Sat (loseP k Γ) δ :=
  sat_set_any (sat_map (q := id) (r := loseE k) (fun _ _ h => lose1 h) (by rwa [List.map_id])) e h
theorem lose_no {δ : List Sl} {k : Nat} (s : Sat Γ δ) : Sat (loseP k Γ) (upS k .no δ) :=
  (sat_map (fun _ _ h => lose2 h) (s.drop k)).set (p := .any) (s := .no) (show isAl .no = false from rfl) k
/-- a name of which only the tree is known -/
theorem bl_retR [Enc α] {k : Nat} {x : α} {κ : ζ} (h0 : Γ[k]? = some (.tr (enc x))) (k2 : ∀ t δ', (Pt.tr (enc x)).Ok t → Sat (loseP k Γ) δ' → R κ (.rt t δ')) : Bl (oRet (sVar k)) Γ (some κ) R := fun r e δ s => by
  cases some_of e
  obtain ⟨t, h1, h2⟩ := s.get h0
  rcases h2 with ⟨h3, ds, rfl⟩ | rfl
  · have h4 : sMv (sVar k) δ = .ok (.tmp (.ol (ds.map .fz))) (upS k .no δ) := by
      unfold sMv
      rw [sVar_own h1]
      show moveI k δ = _
      unfold moveI
      rw [h1]
    have : oRet (sVar k) δ = .rt (.ol (ds.map .fz)) (upS k .no δ) := by unfold oRet; rw [h4]; rfl
    rw [this]
    exact k2 _ _ (.inl ⟨h3, ds, rfl⟩) (lose_no s)
  · have h4 : sVar k δ = .ok (.val (enc x)) δ := by unfold sVar; rw [h1]
    have : oRet (sVar k) δ = .rt (.fz (enc x)) δ := by unfold oRet; rw [sMv_val h4]; rfl
    rw [this]
    exact k2 _ _ (.inr rfl) (lose_same s h1 rfl)
theorem bl_retS {p : Option ζ} (k : Bl (oRet f) Γ p R) : Bl (oSeq (oRet f) g) Γ p R := fun v e δ s => by
  have := k v e δ s
  have h2 : oSeq (oRet f) g δ = oRet f δ := by
    unfold oSeq
    have : ∀ δ', oRet f δ ≠ .nx δ' := fun δ' q => by
      unfold oRet at q
      cases q2 : sMv f δ with
      | ok a δ2 => rw [q2] at q; cases a <;> cases q
      | er x δ2 => rw [q2] at q; cases q
      | bad => rw [q2] at q; cases q
    cases q : oRet f δ with
    | nx δ' => exact absurd q (this δ')
    | _ => rfl
  rwa [h2]
/-- a raise: not walked -/
theorem bl_bad {A : List Sl → Ot} : Bl A Γ (none : Option ζ) R := fun r e => nomatch e
theorem bl_end {κ : ζ} (k : ∀ δ', Sat Γ δ' → R κ (.nx δ')) : Bl oNext Γ (some κ) R := fun r e δ s => by
  cases some_of e
  exact k δ s
theorem bl_if {t : List Sl → Rs Bool} {p : Option ε} {k : ε → Bool} {Γ1 : ε → Ga} {pa pb : ε → Option ζ} (h : Te t Γ p k Γ1) (ha : ∀ v, Bl (oSeq A g) (Γ1 v) (pa v) R) (hb : ∀ v, Bl (oSeq B g) (Γ1 v) (pb v) R) : Bl (oSeq (oIf t A B) g) Γ (p.bind fun v => if k v = true then pa v else pb v) R := fun r e δ s => by
  obtain ⟨v, e1, e⟩ := bind_of e
  obtain ⟨δ1, h1, s1⟩ := h v e1 δ s
  have : oSeq (oIf t A B) g δ = if k v = true then oSeq A g δ1 else oSeq B g δ1 := by
    unfold oSeq oIf
    rw [h1]
    show (match (if k v = true then A δ1 else B δ1) with
      | .nx δ' => g δ'
      | r => r) = _
    by_cases c : k v = true
    · simp only [if_pos c] <;> rfl
    · simp only [if_neg c] <;> rfl
  rw [this]
  by_cases c : k v = true
  · rw [if_pos c] at e ⊢
    exact ha v r e δ1 s1
  · rw [if_neg c] at e ⊢
    exact hb v r e δ1 s1
end
section
variable {α β γ ε ζ ρ σ : Type} {Γ : Ga} {f g : List Sl → Rs AV}
def It (w : List Sl → Rs (List PyData)) (Γ : Ga) (p : Option β) (its : β → List PyData) (Γ' : β → Ga) : Prop := ∀ v, p = some v → ∀ δ, Sat Γ δ → ∃ δ', w δ = .ok (its v) δ' ∧ Sat (Γ' v) δ'
def ItP (w : List Sl → Rs (List PyData)) (Γ : Ga) (p : Option β) (its : β → List PyData) : Prop := ∀ v, p = some v → ∀ δ, Sat Γ δ → w δ = .ok (its v) δ
theorem ItP.it {w : List Sl → Rs (List PyData)} {p : Option β} {its : β → List PyData} (h : ItP w Γ p its) : It w Γ p its fun _ => Γ := fun v e δ s => ⟨δ, h v e δ s, s⟩
def rgI (lo : Int) (n : Nat) : List Int := (List.range n).map fun i => lo + (i : Nat)
def ri1 (n : Int) : Option (List Int) := if -(2 ^ 62) ≤ n ∧ n < 2 ^ 62 then some (rgI 0 n.toNat) else none
def ri2 (i j : Int) : Option (List Int) := if -(2 ^ 62) ≤ i ∧ i < 2 ^ 62 ∧ -(2 ^ 62) ≤ j ∧ j < 2 ^ 62 then some (rgI i (j - i).toNat) else none
theorem rangeD_enc (lo : Int) (n : Nat) : rangeD lo n = (rgI lo n).map enc := by
  unfold rangeD rgI
  rw [List.map_map]
  rfl
theorem zip_enc [Enc α] [Enc γ] : ∀ (xs : List α) (ys : List γ), zipD (xs.map enc) (ys.map enc) = (xs.zip ys).map enc
  | [], _ => by simp [zipD]
  | _ :: _, [] => by simp [zipD]
  | x :: xs, y :: ys => by
    rw [List.map_cons, List.map_cons, zipD, zip_enc xs ys]
    rfl
theorem val_of {f : List Sl → Rs AV} {δ δ' : List Sl} {d : PyData} {k : PyData → List Sl → Rs γ} (h : f δ = .ok (.val d) δ') : (f δ).val k = k d δ' := by
  unfold Rs.val
  rw [h]
  rfl
theorem it_seq [Enc α] {p : Option β} {xs : β → List α} {Γ' : β → Ga} (h : Ev (sTk f) Γ p (fun v => .val (enc (xs v))) Γ') : It (wSeq f) Γ p (fun v => (xs v).map enc) Γ' := fun v e δ s => by
  obtain ⟨δ1, h1, s1⟩ := h v e δ s
  exact ⟨δ1, by unfold wSeq; rw [val_of h1]; rfl, s1⟩
theorem ip_seq [Enc α] {p : Option β} {xs : β → List α} (h : Pu (sTk f) Γ p fun v => .val (enc (xs v))) : ItP (wSeq f) Γ p fun v => (xs v).map enc := fun v e δ s => by
  unfold wSeq
  rw [val_of (h v e δ s)]
  rfl
theorem ip_seqT [Enc α] {p : Option β} {xs : β → Tp α} (h : Pu (sTk f) Γ p fun v => .val (enc (xs v))) : ItP (wSeq f) Γ p fun v => (xs v).l.map enc := fun v e δ s => by
  unfold wSeq
  rw [val_of (h v e δ s)]
  rfl
theorem ip_rng1 {p : Option Int} (h : Pu (sTk f) Γ p fun v => .val (enc v)) : ItP (wRng1 f) Γ (p.bind ri1) fun v => v.map enc := fun v e δ s => by
  obtain ⟨n, e1, e⟩ := bind_of e
  unfold ri1 at e
  split at e
  · rename_i c
    cases some_of e
    unfold wRng1
    rw [val_of (h n e1 δ s)]
    exact (if_pos c).trans (congrArg (Rs.ok · δ) (rangeD_enc _ _))
  · cases e
theorem ip_rng2 {p q : Option Int} (h : Pu (sTk f) Γ p fun v => .val (enc v)) (h2 : Pu (sTk g) Γ q fun v => .val (enc v)) : ItP (wRng2 f g) Γ (p.bind fun m => q.bind fun n => ri2 m n) fun v => v.map enc := fun v e δ s => by
  obtain ⟨m, e1, e⟩ := bind_of e
  obtain ⟨n, e2, e⟩ := bind_of e
  unfold ri2 at e
  split at e
  · rename_i c
    cases some_of e
    unfold wRng2
    rw [val_of (h m e1 δ s), val_of (h2 n e2 δ s)]
    exact (if_pos c).trans (congrArg (Rs.ok · δ) (rangeD_enc _ _))
  · cases e
theorem ip_zip [Enc α] [Enc γ] {p : Option β} {q : Option ε} {xs : β → List α} {ys : ε → List γ} (h : Pu (sTk f) Γ p fun v => .val (enc (xs v))) (h2 : Pu (sTk g) Γ q fun v => .val (enc (ys v))) : ItP (wZip f g) Γ (p.bind fun m => q.bind fun n => some ((xs m).zip (ys n))) fun v => v.map enc := fun v e δ s => by
  obtain ⟨m, e1, e⟩ := bind_of e
  obtain ⟨n, e2, e⟩ := bind_of e
  cases some_of e
  unfold wZip
  rw [val_of (h m e1 δ s), val_of (h2 n e2 δ s)]
  exact congrArg (Rs.ok · δ) (zip_enc _ _)
/-- only the slots vs change -/
def Tg (vs : List Nat) (t : AV → List Sl → Rs Unit) (Γ : Ga) (d : PyData) (Γ' : Ga) : Prop := ∀ δ, Sat Γ δ → ∃ δ', t (.val d) δ = .ok () δ' ∧ Sat Γ' δ' ∧ ((∀ (i x j : Nat), δ[i]? = some (.al x j) → x ∉ vs) → δ'.length = δ.length ∧ (∀ k, k ∉ vs → δ'[k]? = δ[k]?) ∧ ∀ (i x j : Nat), δ'[i]? = some (.al x j) → x ∉ vs)
def Tgs (vs : List Nat) (t : List PyData → List Sl → Rs Unit) (Γ : Ga) (ds : List PyData) (Γ' : Ga) : Prop := ∀ δ, Sat Γ δ → ∃ δ', t ds δ = .ok () δ' ∧ Sat Γ' δ' ∧ ((∀ (i x j : Nat), δ[i]? = some (.al x j) → x ∉ vs) → δ'.length = δ.length ∧ (∀ k, k ∉ vs → δ'[k]? = δ[k]?) ∧ ∀ (i x j : Nat), δ'[i]? = some (.al x j) → x ∉ vs)
theorem upS_keep {k : Nat} {s : Sl} {δ : List Sl} (h : ∀ (i x j : Nat), δ[i]? = some (.al x j) → x ≠ k) : upS k s δ = δ.set k s := by
  have : dropAl k δ = δ := by
    rw [dropAl_eq]
    apply List.ext_getElem?
    intro i
    rw [List.getElem?_map]
    cases q : δ[i]? with
    | none => rfl
    | some t =>
      cases t with
      | al x j =>
        show some (if x = k then Sl.no else .al x j) = _
        rw [if_neg (h i x j q)]
      | _ => rfl
  unfold upS
  rw [this]
theorem tg_n {vs : List Nat} {k : Nat} {d : PyData} (hk : k ∈ vs := by decide) : Tg vs (tgN k) Γ d (upP k (.eq (.fz d)) Γ) := fun δ s => by
  refine ⟨upS k (.fz d) δ, rfl, s.up rfl, fun h => ?_⟩
  rw [upS_keep fun i x j e z => h i x j e (by rw [z]; exact hk)]
  refine ⟨by simp, fun j hj => List.getElem?_set_ne fun z => hj (by rw [← z]; exact hk), fun i x j e => ?_⟩
  rw [List.getElem?_set] at e
  by_cases c : k = i
  · rw [if_pos c] at e
    split at e <;> cases e
  · rw [if_neg c] at e
    exact h i x j e
theorem tgs_nil {vs : List Nat} : Tgs vs tgNil Γ [] Γ := fun δ s => ⟨δ, rfl, s, fun h => ⟨rfl, fun _ _ => rfl, h⟩⟩
theorem tgs_cons {vs : List Nat} {t : AV → List Sl → Rs Unit} {u : List PyData → List Sl → Rs Unit} {d : PyData} {ds : List PyData} {Γ1 Γ2 : Ga} (h : Tg vs t Γ d Γ1) (h2 : Tgs vs u Γ1 ds Γ2) : Tgs vs (tgCons t u) Γ (d :: ds) Γ2 := fun δ s => by
  obtain ⟨δ1, e1, s1, k1⟩ := h δ s
  obtain ⟨δ2, e2, s2, k2⟩ := h2 δ1 s1
  refine ⟨δ2, ?_, s2, fun hk => ?_⟩
  · unfold tgCons
    show (t (.val d) δ).bind _ = _
    rw [e1]
    exact e2
  · obtain ⟨a1, b1, c1⟩ := k1 hk
    obtain ⟨a2, b2, c2⟩ := k2 c1
    exact ⟨a2.trans a1, fun k z => (b2 k z).trans (b1 k z), c2⟩
theorem tg_t {vs : List Nat} {n : Nat} {u : List PyData → List Sl → Rs Unit} {ds : List PyData} {Γ1 : Ga} (h : Tgs vs u Γ ds Γ1) (hn : ds.length = n := by rfl) : Tg vs (tgT n u) Γ (.tuple ds) Γ1 := fun δ s => by
  obtain ⟨δ1, e1, s1, k1⟩ := h δ s
  refine ⟨δ1, ?_, s1, k1⟩
  unfold tgT
  show (if ds.length = n then u ds δ else .bad) = _
  rw [if_pos hn]
  exact e1
def forS : List α → σ → (σ → α → Option σ) → Option σ
  | [], s, _ => some s
  | x :: r, s, b => (b s x).bind fun s' => forS r s' b
def forF : List α → σ → (σ → α → Option (Fl ρ σ)) → Option (Fl ρ σ)
  | [], s, _ => some (.nx s)
  | x :: r, s, b => (b s x).bind fun o => match o with
    | .nx s' => forF r s' b
    | .bk s' => some (.bk s')
    | .rt v => some (.rt v)
variable {A g' B : List Sl → Ot} {R : ζ → Ot → Prop} {t : AV → List Sl → Rs Unit} {w : List Sl → Rs (List PyData)}
theorem forS_ok [Enc α] {vs : List Nat} {ΓL : σ → Ga} {ΓT : σ → α → Ga} {b : σ → α → Option σ} (ht : ∀ s x, Tg vs t (ΓL s) (enc x) (ΓT s x)) (hb : ∀ s x, Bl B (ΓT s x) (b s x) (RS ΓL)) : ∀ (xs : List α) (s r : σ), forS xs s b = some r → ∀ δ, Sat (ΓL s) δ → ∃ δ', forL t B (xs.map enc) δ = .nx δ' ∧ Sat (ΓL r) δ'
  | [], s, r, e, δ, sa => by
    cases some_of e
    exact ⟨δ, rfl, sa⟩
  | x :: xs, s, r, e, δ, sa => by
    obtain ⟨s', e1, e⟩ := bind_of e
    obtain ⟨δ1, h1, s1, _⟩ := ht s x δ sa
    obtain ⟨δ2, h2, s2⟩ := hb s x s' e1 δ1 s1
    obtain ⟨δ3, h3, s3⟩ := forS_ok ht hb xs s' r e δ2 s2
    refine ⟨δ3, ?_, s3⟩
    rw [List.map_cons]
    unfold forL
    rw [h1]
    rcases h2 with h2 | h2 <;> (simp only [h2]; exact h3)
theorem bl_for [Enc α] {vs : List Nat} {p : Option ε} {xs : ε → List α} {Γ1 : ε → Ga} {s0 : ε → σ} {ΓL : ε → σ → Ga} {ΓT : ε → σ → α → Ga} {b : ε → σ → α → Option σ} {kont : ε → σ → Option ζ} (hw : It w Γ p (fun v => (xs v).map enc) Γ1) (h0 : ∀ v, GaLe (Γ1 v) (ΓL v (s0 v)))
    (ht : ∀ v s x, Tg vs t (ΓL v s) (enc x) (ΓT v s x)) (hb : ∀ v s x, Bl B (ΓT v s x) (b v s x) (RS (ΓL v))) (hg : ∀ v s, Bl g' (ΓL v s) (kont v s) R) :
    Bl (oSeq (oFor w t B) g') Γ (p.bind fun v => (forS (xs v) (s0 v) (b v)).bind (kont v)) R := fun r e δ s => by
  obtain ⟨v, e1, e⟩ := bind_of e
  obtain ⟨q, e2, e⟩ := bind_of e
  obtain ⟨δ1, h1, s1⟩ := hw v e1 δ s
  obtain ⟨δ2, h2, s2⟩ := forS_ok (ht v) (hb v) (xs v) (s0 v) q e2 δ1 (s1.wk (h0 v))
  rw [nx_of (show oFor w t B δ = .nx δ2 by unfold oFor; rw [h1]; exact h2)]
  exact hg v q r e δ2 s2
theorem forF_ok [Enc α] {vs : List Nat} {ΓL : σ → Ga} {ΓT : σ → α → Ga} {b : σ → α → Option (Fl ρ σ)} {Q : ρ → Ot → Prop} (ht : ∀ s x, Tg vs t (ΓL s) (enc x) (ΓT s x)) (hb : ∀ s x, Bl B (ΓT s x) (b s x) (RL Q ΓL ΓL)) : ∀ (xs : List α) (s : σ) (r : Fl ρ σ), forF xs s b = some r → ∀ δ, Sat (ΓL s) δ → match r with
    | .nx r => ∃ δ', forL t B (xs.map enc) δ = .nx δ' ∧ Sat (ΓL r) δ'
    | .bk r => ∃ δ', forL t B (xs.map enc) δ = .nx δ' ∧ Sat (ΓL r) δ'
    | .rt v => Q v (forL t B (xs.map enc) δ) ∧ ∃ u δ', forL t B (xs.map enc) δ = .rt u δ'
  | [], s, r, e, δ, sa => by
    cases some_of e
    exact ⟨δ, rfl, sa⟩
  | x :: xs, s, r, e, δ, sa => by
    obtain ⟨o, e1, e⟩ := bind_of e
    obtain ⟨δ1, h1, s1, _⟩ := ht s x δ sa
    have h2 := hb s x o e1 δ1 s1
    have un : forL t B ((x :: xs).map enc) δ = match B δ1 with
      | .nx δ2 => forL t B (xs.map enc) δ2
      | .ct δ2 => forL t B (xs.map enc) δ2
      | .bk δ2 => .nx δ2
      | o => o := by
      rw [List.map_cons]
      rw [forL]
      rw [h1] <;> (dsimp only <;> (cases B δ1 <;> rfl))
    rw [un]
    cases o with
    | nx s' =>
      obtain ⟨δ2, h2, s2⟩ := h2
      have := forF_ok ht hb xs s' r e δ2 s2
      rcases h2 with h2 | h2 <;> (simp only [h2]; exact this)
    | bk s' =>
      cases some_of e
      obtain ⟨δ2, h2, s2⟩ := h2
      simp only [h2]
      exact ⟨δ2, rfl, s2⟩
    | rt v =>
      cases some_of e
      obtain ⟨h3, u, δ2, h4⟩ := h2
      rw [h4] at h3
      simp only [h4]
      refine ⟨h3, u, δ2, ?_⟩
      trivial
/-- a loop that may be left -/
theorem bl_forF [Enc α] {vs : List Nat} {Q : ρ → Ot → Prop} {p : Option ε} {xs : ε → List α} {Γ1 : ε → Ga} {s0 : ε → σ} {ΓL : ε → σ → Ga} {ΓT : ε → σ → α → Ga} {b : ε → σ → α → Option (Fl ρ σ)} {kr : ρ → Option ζ} {kont : ε → σ → Option ζ} (hw : It w Γ p (fun v => (xs v).map enc) Γ1) (h0 : ∀ v, GaLe (Γ1 v) (ΓL v (s0 v)))
    (ht : ∀ v s x, Tg vs t (ΓL v s) (enc x) (ΓT v s x)) (hb : ∀ v s x, Bl B (ΓT v s x) (b v s x) (RL Q (ΓL v) (ΓL v))) (hr : ∀ v z u δ', kr v = some z → Q v (.rt u δ') → R z (.rt u δ')) (hg : ∀ v s, Bl g' (ΓL v s) (kont v s) R) :
    Bl (oSeq (oFor w t B) g') Γ (p.bind fun v => (forF (xs v) (s0 v) (b v)).bind fun o => o.el (kont v) kr) R := fun r e δ s => by
  obtain ⟨v, e1, e⟩ := bind_of e
  obtain ⟨q, e2, e⟩ := bind_of e
  obtain ⟨δ1, h1, s1⟩ := hw v e1 δ s
  have h2 := forF_ok (Q := Q) (ht v) (hb v) (xs v) (s0 v) q e2 δ1 (s1.wk (h0 v))
  have un : oFor w t B δ = forL t B ((xs v).map enc) δ1 := by unfold oFor; rw [h1]; rfl
  cases q with
  | nx s' =>
    obtain ⟨δ2, h2, s2⟩ := h2
    rw [nx_of (un.trans h2)]
    exact hg v s' r e δ2 s2
  | bk s' =>
    obtain ⟨δ2, h2, s2⟩ := h2
    rw [nx_of (un.trans h2)]
    exact hg v s' r e δ2 s2
  | rt v' =>
    obtain ⟨h3, u, δ2, h4⟩ := h2
    have : oSeq (oFor w t B) g' δ = .rt u δ2 := by
      unfold oSeq
      rw [un, h4]
    rw [this]
    exact hr v' r u δ2 e (by rw [h4] at h3; exact h3)
def whS : Nat → σ → (σ → Option Bool) → (σ → Option σ) → Option σ
  | 0, _, _, _ => none
  | n + 1, s, c, b => (c s).bind fun k => if k = true then (b s).bind fun s' => whS n s' c b else some s
theorem whS_ok {tt : List Sl → Rs Bool} {ΓL : σ → Ga} {c : σ → Option Bool} {b : σ → Option σ} (hc : ∀ s, Ts tt (ΓL s) (c s)) (hb : ∀ s, Bl B (ΓL s) (b s) (RS ΓL)) : ∀ (n : Nat) (s r : σ), whS n s c b = some r → ∀ δ, Sat (ΓL s) δ → ∃ δ', oWh tt B n δ = .nx δ' ∧ Sat (ΓL r) δ'
  | 0, _, _, e, _, _ => by cases e
  | n + 1, s, r, e, δ, sa => by
    obtain ⟨k, e1, e⟩ := bind_of e
    have h1 := hc s k e1 δ sa
    unfold oWh
    rw [h1]
    show ∃ δ', (if k = true then _ else _) = _ ∧ _
    by_cases q : k = true
    · rw [if_pos q] at e
      simp only [if_pos q]
      obtain ⟨s', e2, e⟩ := bind_of e
      obtain ⟨δ2, h2, s2⟩ := hb s s' e2 δ sa
      obtain ⟨δ3, h3, s3⟩ := whS_ok hc hb n s' r e δ2 s2
      refine ⟨δ3, ?_, s3⟩
      rcases h2 with h2 | h2 <;> (simp only [h2]; exact h3)
    · rw [if_neg q] at e
      simp only [if_neg q]
      cases some_of e
      exact ⟨δ, rfl, sa⟩
theorem bl_wh {tt : List Sl → Rs Bool} {n : Nat} {s0 : σ} {ΓL : σ → Ga} {c : σ → Option Bool} {b : σ → Option σ} {kont : σ → Option ζ} (h0 : GaLe Γ (ΓL s0)) (hc : ∀ s, Ts tt (ΓL s) (c s)) (hb : ∀ s, Bl B (ΓL s) (b s) (RS ΓL)) (hg : ∀ s, Bl g' (ΓL s) (kont s) R) : Bl (oSeq (oWh tt B n) g') Γ ((whS n s0 c b).bind kont) R := fun r e δ s => by
  obtain ⟨q, e2, e⟩ := bind_of e
  obtain ⟨δ2, h2, s2⟩ := whS_ok hc hb n s0 q e2 δ (s.wk h0)
  rw [nx_of h2]
  exact hg q r e δ2 s2
end
end Nv
namespace Nv
open PySem Hb L2
open Enc (enc)
def calmE (vs : List Nat) : Pt → Bool
  | .aa => false
  | .eq (.al x _) => !vs.contains x
  | _ => true
def calm (vs : List Nat) (Γ : Ga) : Bool := Γ.all (calmE vs)
theorem calm_ok {vs : List Nat} {Γ : Ga} {δ : List Sl} (h : calm vs Γ = true) (s : Sat Γ δ) : ∀ (i x j : Nat), δ[i]? = some (.al x j) → x ∉ vs := by
  induction s with
  | nil => intro i x j e; simp at e
  | @cons p t Γ δ h1 _ ih =>
    have h : (calmE vs p && calm vs Γ) = true := h
    rw [Bool.and_eq_true] at h
    intro i x j e
    cases i with
    | zero =>
      simp at e
      subst e
      cases p with
      | aa => cases h.1
      | any => cases h1
      | pl => cases h1
      | tr d => rcases h1 with ⟨_, ds, z⟩ | z <;> cases z
      | ts d => rcases h1 with ⟨_, ds, z⟩ | ⟨z, _⟩ <;> cases z
      | na t => cases h1.2
      | eq u =>
        cases (show Sl.al x j = u from h1)
        have : (!vs.contains x) = true := h.1
        simpa using this
    | succ i => exact ih h.2 i x j (by simpa using e)
def plP : Pt → Bool
  | .pl => true
  | .eq .no => true
  | .eq (.fz _) => true
  | _ => false
theorem plP_ok {p : Pt} {s : Sl} (h : plP p = true) (hs : p.Ok s) : plainS (some s) = true := by
  cases p with
  | pl => exact hs
  | eq t =>
    cases (show s = t from hs)
    cases s <;> first | rfl | cases h
  | _ => cases h
def okP (vs : List Nat) (Γ : Ga) : Bool := vs.all fun v => match Γ[v]? with
  | some p => plP p
  | none => false
theorem okP_ok {vs : List Nat} {Γ : Ga} {δ : List Sl} (h : okP vs Γ = true) (s : Sat Γ δ) : okW vs δ = true := by
  unfold okW
  unfold okP at h
  rw [List.all_eq_true] at h ⊢
  intro v hv
  have := h v hv
  cases q : Γ[v]? with
  | none => rw [q] at this; cases this
  | some p =>
    rw [q] at this
    obtain ⟨t, e1, e2⟩ := s.get q
    rw [e1]
    exact plP_ok this e2
def wipeP (vs : List Nat) (Γ : Ga) : Ga := vs.foldr (fun v Γ => Γ.set v (.eq .no)) Γ
theorem wipeP_ok {Γ : Ga} {δ : List Sl} (s : Sat Γ δ) : ∀ vs : List Nat, Sat (wipeP vs Γ) (wipeD vs δ)
  | [] => s
  | v :: vs => (wipeP_ok s vs).set (p := .eq .no) rfl v
theorem wipe_len (δ : List Sl) : ∀ vs : List Nat, (wipeD vs δ).length = δ.length
  | [] => rfl
  | v :: vs => by
    show ((wipeD vs δ).set v .no).length = _
    rw [List.length_set, wipe_len δ vs]
theorem wipe_get (δ : List Sl) : ∀ (vs : List Nat) {k : Nat}, k ∉ vs → (wipeD vs δ)[k]? = δ[k]?
  | [], _, _ => rfl
  | v :: vs, k, h => by
    show ((wipeD vs δ).set v .no)[k]? = _
    rw [List.getElem?_set_ne (fun z => h (by rw [z]; exact List.mem_cons_self)), wipe_get δ vs fun z => h (List.mem_cons_of_mem _ z)]
theorem wipe_al {δ : List Sl} {P : Nat → Prop} (h : ∀ (i x j : Nat), δ[i]? = some (.al x j) → P x) : ∀ (vs : List Nat) (i x j : Nat), (wipeD vs δ)[i]? = some (.al x j) → P x
  | [], i, x, j, e => h i x j e
  | v :: vs, i, x, j, e => by
    have e : ((wipeD vs δ).set v .no)[i]? = some (.al x j) := e
    rw [List.getElem?_set] at e
    by_cases c : v = i
    · rw [if_pos c] at e
      split at e <;> cases e
    · rw [if_neg c] at e
      exact wipe_al h vs i x j e
/-- nothing but the block's own slots changed -/
theorem unw_id {vs : List Nat} {δ δ1 : List Sl} (hl : δ1.length = δ.length) (hk : ∀ k, k ∉ vs → δ1[k]? = δ[k]?) (ha : ∀ (i x j : Nat), δ1[i]? = some (.al x j) → x ∉ vs) (hw : okW vs δ = true) : unw vs δ δ1 = δ := by
  have key : ∀ us : List Nat, (∀ u ∈ us, u ∈ vs) → (unw us δ δ1).length = δ.length ∧ (∀ k, (k ∉ vs ∨ k ∈ us) → (unw us δ δ1)[k]? = δ[k]?) ∧ ∀ (i x j : Nat), (unw us δ δ1)[i]? = some (.al x j) → x ∉ vs := by
    intro us
    induction us with
    | nil => exact fun _ => ⟨hl, fun k h => h.elim (hk k) (fun z => nomatch z), ha⟩
    | cons u us ih =>
      intro hu
      obtain ⟨a, b, c⟩ := ih fun w hw => hu w (List.mem_cons_of_mem _ hw)
      have huv := hu u List.mem_cons_self
      have e : unw (u :: us) δ δ1 = (unw us δ δ1).set u (δ[u]?.getD .no) := upS_keep fun i x j e z => c i x j e (by rw [z]; exact huv)
      rw [e]
      have hp : plainS δ[u]? = true := List.all_eq_true.mp hw u huv
      refine ⟨by rw [List.length_set, a], fun k h => ?_, fun i x j q => ?_⟩
      · by_cases z : u = k
        · subst z
          rw [List.getElem?_set]
          rw [if_pos rfl]
          cases q : δ[u]? with
          | none => rw [q] at hp; cases hp
          | some t =>
            have : u < δ.length := (List.getElem?_eq_some_iff.mp q).1
            rw [if_pos (by rw [a]; exact this)]
            rfl
        · rw [List.getElem?_set_ne z]
          exact b k (h.imp id fun m => (List.mem_cons.mp m).elim (fun m => absurd m.symm z) id)
      · rw [List.getElem?_set] at q
        by_cases z : u = i
        · rw [if_pos z] at q
          split at q
          · cases q2 : δ[u]? with
            | none => rw [q2] at hp; cases hp
            | some t =>
              rw [q2] at q hp
              have : t = .al x j := Option.some.inj q
              subst this
              cases hp
          · cases q
        · rw [if_neg z] at q
          exact c i x j q
  obtain ⟨_, b, _⟩ := key vs fun _ h => h
  apply List.ext_getElem?
  intro k
  exact b k (if h : k ∈ vs then .inr h else .inl h)
section
variable {α β γ ε ζ ρ σ : Type} {Γ : Ga} {f : List Sl → Rs AV} {t : AV → List Sl → Rs Unit} {tt : List Sl → Rs Bool} {w : List Sl → Rs (List PyData)} {vs : List Nat}
def mapF : List α → (α → Option Bool) → (α → Option γ) → Option (List γ)
  | [], _, _ => some []
  | x :: r, c, g => (c x).bind fun b => if b = true then (g x).bind fun y => (mapF r c g).bind fun ys => some (y :: ys) else mapF r c g
theorem lcF [Enc α] {W : Bool} {a : γ → AV} {el : γ → El} (hel : ∀ y, elOf W (a y) = some (el y)) {ΓT : α → Ga} {pt : α → Option Bool} {pe : α → Option γ} (hok : okP vs Γ = true) (hc : calm vs Γ = true) (ht : ∀ x, Tg vs t (wipeP vs Γ) (enc x) (ΓT x)) (htt : ∀ x, Ts tt (ΓT x) (pt x)) (hf : ∀ x, Pu f (ΓT x) (pe x) a) :
    ∀ (xs : List α) (es : List El) (ys : List γ), mapF xs pt pe = some ys → es.length + xs.length ≤ cap → ∀ δ, Sat Γ δ → lcL W vs t tt f (xs.map enc) es δ = .ok (es ++ ys.map el) δ
  | [], es, ys, e, _, δ, _ => by
    cases some_of e
    simp [lcL]
  | x :: xs, es, ys, e, hl, δ, s => by
    obtain ⟨b, e1, e⟩ := bind_of e
    have hw := okP_ok hok s
    have hal := calm_ok hc s
    obtain ⟨δ1, h1, s1, k1⟩ := ht x (wipeD vs δ) (wipeP_ok s vs)
    obtain ⟨a1, b1, c1⟩ := k1 (wipe_al hal vs)
    have un : unw vs δ δ1 = δ := unw_id (by rw [a1, wipe_len]) (fun k hk => by rw [b1 k hk, wipe_get δ vs hk]) c1 hw
    have h2 := htt x b e1 δ1 s1
    rw [List.map_cons]
    simp only [List.length_cons] at hl
    unfold lcL
    rw [if_pos hw, h1]
    simp only [h2]
    cases b with
    | false =>
      rw [if_neg Bool.false_ne_true, un]
      exact lcF hel hok hc ht htt hf xs es ys (by simpa using e) (by omega) δ s
    | true =>
      rw [if_pos rfl] at e
      obtain ⟨y, e2, e⟩ := bind_of e
      obtain ⟨zs, e3, e⟩ := bind_of e
      cases some_of e
      have h3 := hf x y e2 δ1 s1
      simp only [if_true, h3, hel]
      rw [if_pos (by omega), un, lcF hel hok hc ht htt hf xs (es ++ [el y]) zs e3 (by simp; omega) δ s]
      simp
theorem el_val [Enc γ] {W : Bool} : ∀ y : γ, elOf W (.val (enc y)) = some (.fz (enc y)) := fun _ => rfl
theorem ow_els [Enc γ] (ys : List γ) : Sl.ol ([] ++ ys.map fun y => El.fz (enc y)) = ow ys := by
  unfold ow
  rw [List.nil_append, List.map_map]
  rfl
theorem pu_lc [Enc α] [Enc γ] {p : Option β} {xs : β → List α} {ΓT : β → α → Ga} {pt : β → α → Option Bool} {pe : β → α → Option γ} (hw : ItP w Γ p fun v => (xs v).map enc) (hok : okP vs Γ = true) (hc : calm vs Γ = true) (ht : ∀ v x, Tg vs t (wipeP vs Γ) (enc x) (ΓT v x)) (htt : ∀ v x, Ts tt (ΓT v x) (pt v x)) (hf : ∀ v x, Pu f (ΓT v x) (pe v x) fun y => .val (enc y)) :
    Pu (sLc false w vs t tt f) Γ (p.bind fun v => if (xs v).length ≤ cap then mapF (xs v) (pt v) (pe v) else none) fun r => .tmp (ow r) := fun r e δ s => by
  obtain ⟨v, e1, e⟩ := bind_of e
  by_cases c : (xs v).length ≤ cap
  · rw [if_pos c] at e
    unfold sLc
    rw [hw v e1 δ s]
    show (lcL false vs t tt f ((xs v).map enc) [] δ).bind _ = _
    rw [lcF el_val hok hc (ht v) (htt v) (hf v) (xs v) [] r e (by simpa using c) δ s]
    exact congrArg (fun z => Rs.ok (AV.tmp z) δ) (ow_els r)
  · rw [if_neg c] at e
    cases e
def mapE : List α → σ → (σ → α → Option (γ × σ)) → Option (List γ × σ)
  | [], s, _ => some ([], s)
  | x :: r, s, g => (g s x).bind fun y => (mapE r y.2 g).bind fun z => some (y.1 :: z.1, z.2)
def unwP (vs : List Nat) (Γ Γ' : Ga) : Ga := vs.foldr (fun v Γ' => upP v ((Γ[v]?).getD .aa) Γ') Γ'
theorem unwP_ok {Γ Γ' : Ga} {δ δ' : List Sl} (s : Sat Γ δ) (s' : Sat Γ' δ') : ∀ vs : List Nat, Sat (unwP vs Γ Γ') (unw vs δ δ')
  | [] => s'
  | v :: vs => by
    refine (unwP_ok s s' vs).up ?_
    cases q : Γ[v]? with
    | none => trivial
    | some p =>
      obtain ⟨t, e1, e2⟩ := s.get q
      rw [e1]
      exact e2
theorem lcE [Enc α] {W : Bool} {a : γ → AV} {el : γ → El} (hel : ∀ y, elOf W (a y) = some (el y)) {ΓL : σ → Ga} {ΓT : σ → α → Ga} {Γ2 : σ → α → γ × σ → Ga} {pe : σ → α → Option (γ × σ)} (hok : ∀ s, okP vs (ΓL s) = true) (ht : ∀ s x, Tg vs t (wipeP vs (ΓL s)) (enc x) (ΓT s x)) (htt : ∀ s x, Ts tt (ΓT s x) (some true)) (hf : ∀ s x, Ev f (ΓT s x) (pe s x) (fun y => a y.1) (Γ2 s x)) (hz : ∀ s x y, GaLe (unwP vs (ΓL s) (Γ2 s x y)) (ΓL y.2)) :
    ∀ (xs : List α) (es : List El) (s : σ) (r : List γ × σ), mapE xs s pe = some r → es.length + xs.length ≤ cap → ∀ δ, Sat (ΓL s) δ → ∃ δ', lcL W vs t tt f (xs.map enc) es δ = .ok (es ++ r.1.map el) δ' ∧ Sat (ΓL r.2) δ'
  | [], es, s, r, e, _, δ, sa => by
    cases some_of e
    exact ⟨δ, by simp [lcL], sa⟩
  | x :: xs, es, s, r, e, hl, δ, sa => by
    obtain ⟨y, e1, e⟩ := bind_of e
    obtain ⟨z, e2, e⟩ := bind_of e
    cases some_of e
    have hw := okP_ok (hok s) sa
    obtain ⟨δ1, h1, s1, _⟩ := ht s x (wipeD vs δ) (wipeP_ok sa vs)
    have h2 := htt s x true rfl δ1 s1
    obtain ⟨δ2, h3, s2⟩ := hf s x y e1 δ1 s1
    simp only [List.length_cons] at hl
    obtain ⟨δ3, h4, s3⟩ := lcE hel hok ht htt hf hz xs (es ++ [el y.1]) y.2 z e2 (by simp; omega) (unw vs δ δ2) ((unwP_ok sa s2 vs).wk (hz s x y))
    refine ⟨δ3, ?_, s3⟩
    rw [List.map_cons]
    unfold lcL
    rw [if_pos hw, h1]
    simp only [h2, if_true, h3, hel]
    rw [if_pos (by omega), h4]
    simp
theorem ev_lc [Enc α] [Enc γ] {p : Option β} {xs : β → List α} {Γ1 : β → Ga} {s0 : β → σ} {ΓL : β → σ → Ga} {ΓT : β → σ → α → Ga} {Γ2 : β → σ → α → γ × σ → Ga} {pe : β → σ → α → Option (γ × σ)} (hw : It w Γ p (fun v => (xs v).map enc) Γ1) (h0 : ∀ v, GaLe (Γ1 v) (ΓL v (s0 v))) (hok : ∀ v s, okP vs (ΓL v s) = true) (ht : ∀ v s x, Tg vs t (wipeP vs (ΓL v s)) (enc x) (ΓT v s x)) (htt : ∀ v s x, Ts tt (ΓT v s x) (some true)) (hf : ∀ v s x, Ev f (ΓT v s x) (pe v s x) (fun y => .val (enc y.1)) (Γ2 v s x)) (hz : ∀ v s x y, GaLe (unwP vs (ΓL v s) (Γ2 v s x y)) (ΓL v y.2)) :
    Ev (sLc false w vs t tt f) Γ (p.bind fun v => if (xs v).length ≤ cap then (mapE (xs v) (s0 v) (pe v)).bind fun r => some (r, v) else none) (fun r => .tmp (ow r.1.1)) (fun r => ΓL r.2 r.1.2) := fun r e δ s => by
  obtain ⟨v, e1, e⟩ := bind_of e
  by_cases c : (xs v).length ≤ cap
  · rw [if_pos c] at e
    obtain ⟨q, e2, e⟩ := bind_of e
    cases some_of e
    obtain ⟨δ1, h1, s1⟩ := hw v e1 δ s
    obtain ⟨δ2, h2, s2⟩ := lcE el_val (hok v) (ht v) (htt v) (hf v) (hz v) (xs v) [] (s0 v) q e2 (by simpa using c) δ1 (s1.wk (h0 v))
    refine ⟨δ2, ?_, s2⟩
    unfold sLc
    rw [h1]
    show (lcL false vs t tt f ((xs v).map enc) [] δ1).bind _ = _
    rw [h2]
    exact congrArg (fun z => Rs.ok (AV.tmp z) δ2) (ow_els q.1)
  · rw [if_neg c] at e
    cases e
end
section
variable {ρ : Type} {B : List Sl → Ot}
theorem sat_eqs : ∀ ss : List Sl, Sat (ss.map .eq) ss
  | [] => .nil
  | s :: r => .cons rfl (sat_eqs r)
/-- what pinned slots hold behind -/
def outsP (n : Nat) (pin : List Nat) (Γ : Ga) : Option (List Sl) := (List.range n).mapM fun i => if i ∈ pin then (match Γ[i]? with
  | some (.eq s) => some (noAl s)
  | _ => none) else some .no
theorem outsP_ok {n : Nat} {pin : List Nat} {Γ : Ga} {δ o : List Sl} (h : outsP n pin Γ = some o) (s : Sat Γ δ) : outs n pin δ = o := by
  unfold outsP at h
  unfold outs
  generalize List.range n = l at h
  induction l generalizing o with
  | nil => cases h; rfl
  | cons i r ih =>
    rw [List.mapM_cons] at h
    obtain ⟨x, e1, h⟩ := bind_of h
    obtain ⟨y, e2, h⟩ := bind_of h
    cases some_of h
    rw [List.map_cons, ih e2]
    congr 1
    by_cases c : i ∈ pin
    · rw [if_pos c] at e1 ⊢
      cases q : Γ[i]? with
      | none => rw [q] at e1; cases e1
      | some p =>
        rw [q] at e1
        cases p with
        | eq t =>
          cases some_of e1
          rw [s.at_ q]
          rfl
        | _ => cases e1
    · rw [if_neg c] at e1 ⊢
      exact (some_of e1).symm
theorem fun_of {n m : Nat} {pin : List Nat} {p : Option ρ} {ins : List Sl} {ret : ρ → Sl} {ΓR : ρ → Ga} {out : ρ → List Sl} (h : Bl B ((ins ++ List.replicate (m - n) Sl.no).map Pt.eq) p (RF (fun r => .eq (ret r)) ΓR)) (ho : ∀ r, outsP n pin (ΓR r) = some (out r) := by intro _; rfl) : Fun (fnRun n m pin B) p ins ret out := fun r e => by
  obtain ⟨s, δ', h1, h2, h3⟩ := h r e _ (sat_eqs _)
  cases (show s = ret r from h2)
  have ho := outsP_ok (ho r) h3
  unfold fnRun
  rcases h1 with h1 | ⟨h1, h4⟩
  · simp only [h1, ho]
  · simp only [h1, ho, h4]
theorem funM_of {n m : Nat} {pin : List Nat} {p : Option ρ} {ins : List Sl} {d : ρ → PyData} {ΓR : ρ → Ga} {out : ρ → List Sl} (h : Bl B ((ins ++ List.replicate (m - n) Sl.no).map Pt.eq) p (RF (fun r => .tr (d r)) ΓR)) (ho : ∀ r, outsP n pin (ΓR r) = some (out r) := by intro _; rfl) : FunM (fnRun n m pin B) p ins d out := fun r e => by
  obtain ⟨s, δ', h1, h2, h3⟩ := h r e _ (sat_eqs _)
  have ho := outsP_ok (ho r) h3
  refine ⟨s, ?_, h2⟩
  unfold fnRun
  rcases h1 with h1 | ⟨h1, h4⟩
  · simp only [h1, ho]
  · simp only [h1, ho, h4]
end
theorem rf_eq {ρ : Type} {ret : ρ → Pt} {ΓR : ρ → Ga} {r : ρ} {s : Sl} {Γ : Ga} (h : (ret r).Ok s) (l : GaLe Γ (ΓR r)) : ∀ δ', Sat Γ δ' → RF ret ΓR r (.rt s δ') := fun δ' sa => ⟨s, δ', .inl rfl, h, sa.wk l⟩
theorem rf_nx {ρ : Type} {ret : ρ → Pt} {ΓR : ρ → Ga} {r : ρ} {Γ : Ga} (h : (ret r).Ok (.fz .none)) (l : GaLe Γ (ΓR r)) : ∀ δ', Sat Γ δ' → RF ret ΓR r (.nx δ') := fun δ' sa => ⟨.fz .none, δ', .inr ⟨rfl, rfl⟩, h, sa.wk l⟩
theorem rs_nx {σ : Type} {ΓS : σ → Ga} {r : σ} {Γ : Ga} (l : GaLe Γ (ΓS r)) : ∀ δ', Sat Γ δ' → RS ΓS r (.nx δ') := fun δ' sa => ⟨δ', .inl rfl, sa.wk l⟩
theorem rl_nx {ρ σ : Type} {Q : ρ → Ot → Prop} {ΓS ΓB : σ → Ga} {r : σ} {Γ : Ga} (l : GaLe Γ (ΓS r)) : ∀ δ', Sat Γ δ' → RL Q ΓS ΓB (.nx r) (.nx δ') := fun δ' sa => ⟨δ', .inl rfl, sa.wk l⟩
theorem rl_rt {ρ σ : Type} {Q : ρ → Ot → Prop} {ΓS ΓB : σ → Ga} {r : ρ} {Γ : Ga} {s : Sl} (h : ∀ δ', Sat Γ δ' → Q r (.rt s δ')) : ∀ δ', Sat Γ δ' → RL Q ΓS ΓB (.rt r) (.rt s δ') := fun δ' sa => ⟨h δ' sa, s, δ', rfl⟩
end Nv
namespace Nv
open PySem Hb L2
open Enc (enc)
section
variable {α β γ ε ζ : Type} [Enc α] [Enc β] {Γ : Ga} {fa fb : List Sl → Rs AV} {g : AV → AV → List Sl → Rs AV} {h : AV → List Sl → Rs AV} {op : α → β → Option γ} {op1 : α → Option γ} {a : γ → AV}
/-- with effects -/
theorem ev2g (o : Op2 g op a) {pa : Option ε} {va : ε → α} {Γ1 : ε → Ga} {pb : ε → Option ζ} {vb : ε → ζ → β} {Γ2 : ε → ζ → Ga} (ha : Er fa Γ pa (fun x => enc (va x)) Γ1) (hb : ∀ x, Es fb (Γ1 x) (pb x) (fun y => enc (vb x y)) (Γ2 x)) :
    Ev (s2 g fa fb) Γ (pa.bind fun x => (pb x).bind fun y => (op (va x) (vb x y)).bind fun r => some (r, x, y)) (fun r => a r.1) (fun r => Γ2 r.2.1 r.2.2) := fun r e δ s => by
  obtain ⟨v, e1, e⟩ := bind_of e
  obtain ⟨w, e2, e⟩ := bind_of e
  obtain ⟨z, q, e⟩ := bind_of e
  cases some_of e
  obtain ⟨δ1, h1, s1⟩ := ha v e1 δ s
  obtain ⟨y, δ2, k1, k2, k3, s2⟩ := hb v w e2 δ1 s1
  refine ⟨δ2, ?_, s2⟩
  unfold Hb.s2
  rw [h1]
  show (sSt fb δ1).bind _ = _
  rw [k1]
  exact o (va v) (vb v w) z δ2 (.val (enc (va v))) y rfl rfl k2 k3 q
theorem ev1g (o : Op1 h op1 a) {pa : Option ε} {va : ε → α} {Γ1 : ε → Ga} (ha : Es fa Γ pa (fun x => enc (va x)) Γ1) : Ev (s1 h fa) Γ (pa.bind fun x => (op1 (va x)).bind fun r => some (r, x)) (fun r => a r.1) (fun r => Γ1 r.2) := fun r e δ s => by
  obtain ⟨v, e1, e⟩ := bind_of e
  obtain ⟨z, q, e⟩ := bind_of e
  cases some_of e
  obtain ⟨x, δ1, h1, h2, h3, s1⟩ := ha v e1 δ s
  refine ⟨δ1, ?_, s1⟩
  unfold Hb.s1
  rw [h1]
  exact o (va v) z δ1 x h2 h3 q
/-- nothing given: a statement whose value is None -/
theorem Ts.te' {t : List Sl → Rs Bool} {p : Option Bool} (h : Ts t Γ p) : Te t Γ p (fun v => v) fun _ => Γ := fun v e δ s => ⟨δ, h v e δ s, s⟩
end
/-- a pure list display without items -/
theorem pu_nil {α : Type} [Enc α] {Γ : Ga} : Pu (sLst lNil) Γ (some ([] : List α)) fun r => .tmp (ow r) := fun v e δ _ => by
  cases some_of e
  rfl
theorem pu_nilT {α : Type} [Enc α] {Γ : Ga} : Pu (sTup lNil) Γ (some (Tp.mk ([] : List α))) fun r => .val (enc r) := fun v e δ _ => by
  cases some_of e
  rfl
theorem pu_dicn {κ α : Type} [Enc κ] [Enc α] {Γ : Ga} : Pu sDic0 Γ (some (Dc.mk ([] : List (κ × α)))) fun r => .tmp (od r) := fun v e δ _ => by
  cases some_of e
  rfl
section
variable {α β γ ε ζ ρ σ : Type} {Γ : Ga} {f fa fb : List Sl → Rs AV} {t : List Sl → Rs Bool}
theorem te_map {p : Option ε} {k : ε → Bool} {Γ1 : ε → Ga} (u : ε → ζ) {k2 : ζ → Bool} {Γ2 : ζ → Ga} (h : Te t Γ p k Γ1) (h1 : ∀ x, k2 (u x) = k x := by intro _; rfl) (h2 : ∀ x, Γ2 (u x) = Γ1 x := by intro _; rfl) : Te t Γ (p.bind fun x => some (u x)) k2 Γ2 := fun r e δ s => by
  obtain ⟨v, e1, e⟩ := bind_of e
  cases some_of e
  obtain ⟨δ', q1, q2⟩ := h v e1 δ s
  exact ⟨δ', by rw [h1]; exact q1, by rw [h2]; exact q2⟩
def asIntA : PyData → Option Int
  | .int i => some i
  | _ => none
theorem _root_.Nv.Pu.asI {p : Option PyData} (hh : Pu f Γ p fun v => .val (enc v)) : Pu f Γ (p.bind fun d => asIntA d) fun v => .val (enc v) := fun r e δ s => by
  obtain ⟨v, e1, e⟩ := bind_of e
  cases v with
  | int i => cases some_of e; exact hh _ e1 δ s
  | _ => cases e
theorem _root_.Nv.Pu.un [Enc α] {p : Option (Option α)} (hh : Pu f Γ p fun v => .val (enc v)) : Pu f Γ (p.bind fun d => d) fun v : α => .val (enc v) := fun r e δ s => by
  obtain ⟨v, e1, e⟩ := bind_of e
  subst e
  exact hh _ e1 δ s
theorem _root_.Nv.Pu.any [Enc α] {p : Option α} (hh : Pu f Γ p fun v => .val (enc v)) : Pu f Γ (p.bind fun d => some (enc d)) fun v : PyData => .val (enc v) := fun r e δ s => by
  obtain ⟨v, e1, e⟩ := bind_of e
  cases some_of e
  exact hh _ e1 δ s
end
theorem Ev.mapW {ε ζ : Type} {f : List Sl → Rs AV} {Γ : Ga} {p : Option ε} {aa : ε → AV} {Γ1 : ε → Ga} {bb : ζ → AV} {Γ2 : ζ → Ga} (k : ε → ζ) (hh : Ev f Γ p aa Γ1) (h2 : ∀ x, GaLe (Γ1 x) (Γ2 (k x))) (h1 : ∀ x, bb (k x) = aa x := by intro _; rfl) : Ev f Γ (p.bind fun x => some (k x)) bb Γ2 := fun r e δ s => by
  obtain ⟨v, e1, e⟩ := bind_of e
  cases some_of e
  obtain ⟨δ', q1, q2⟩ := hh v e1 δ s
  exact ⟨δ', by rw [h1]; exact q1, q2.wk (h2 v)⟩
end Nv
namespace Nv
open PySem Hb L2
open Enc (enc)
section
variable {β ζ : Type} {Γ : Ga}
theorem bl_ga {f : List Sl → Ot} {p : Option ζ} {R : ζ → Ot → Prop} (Δ : Ga) (h : Γ = Δ) (k : Bl f Δ p R) : Bl f Γ p R := by subst h; exact k
theorem pu_ga {f : List Sl → Rs AV} {p : Option β} {a : β → AV} (Δ : Ga) (h : Γ = Δ) (k : Pu f Δ p a) : Pu f Γ p a := by subst h; exact k
theorem ts_ga {f : List Sl → Rs Bool} {p : Option Bool} (Δ : Ga) (h : Γ = Δ) (k : Ts f Δ p) : Ts f Γ p := by subst h; exact k
theorem ev_ga {f : List Sl → Rs AV} {p : Option β} {a : β → AV} {Γ' : β → Ga} (Δ : Ga) (h : Γ = Δ) (q : Ev f Δ p a Γ') : Ev f Γ p a Γ' := by subst h; exact q
theorem es_ga {f : List Sl → Rs AV} {p : Option β} {d : β → PyData} {Γ' : β → Ga} (Δ : Ga) (h : Γ = Δ) (q : Es f Δ p d Γ') : Es f Γ p d Γ' := by subst h; exact q
theorem ag_ga {g : List Sl → Rs (List Ar)} {p : Option β} {as : β → List Ar} {Γ' : β → Ga} (Δ : Ga) (h : Γ = Δ) (q : Ag g Δ p as Γ') : Ag g Γ p as Γ' := by subst h; exact q
theorem dl_ga {g : List Sl → Rs (List PyData)} {p : Option β} {ds : β → List PyData} {Γ' : β → Ga} (Δ : Ga) (h : Γ = Δ) (q : Dl g Δ p ds Γ') : Dl g Γ p ds Γ' := by subst h; exact q
theorem sat_ga {Q : List Sl → Prop} (Δ : Ga) (h : Γ = Δ) (k : ∀ δ', Sat Δ δ' → Q δ') : ∀ δ', Sat Γ δ' → Q δ' := by subst h; exact k
theorem sat_gaM {d : PyData} {Q : Sl → List Sl → Prop} (Δ : Ga) (h : Γ = Δ) (k : ∀ t δ', (Pt.tr d).Ok t → Sat Δ δ' → Q t δ') : ∀ t δ', (Pt.tr d).Ok t → Sat Γ δ' → Q t δ' := by subst h; exact k
theorem gale_ga {Γ0 : Ga} (Δ : Ga) (h : Γ = Δ) (k : GaLe Δ Γ0) : GaLe Γ Γ0 := by subst h; exact k
end
end Nv
namespace Nv
open PySem Hb L2
open Enc (enc)
section
variable {α ε ζ : Type} [Enc α] {Γ : Ga} {f fi : List Sl → Rs AV} {g : List Sl → Ot} {R : ζ → Ot → Prop}
end
end Nv
namespace Hb
open PySem PySem.Spec PyProof.Rows L2
section
variable {X : Cx} {pins : List (Addr × Obj)} {σ : L2.St} {H : Hp} {s : Shared}
mutual
def noDic : PyData → Bool
  | .list xs => noDics xs
  | .tuple xs => noDics xs
  | .dict _ => false
  | _ => true
def noDics : List PyData → Bool
  | [] => true
  | x :: r => noDic x && noDics r
end
mutual
theorem reads_of (I : Inv X pins σ H s) : ∀ {v : V} {d : PyData} {u : Value}, Rp X.K H v d → RelV v u → noDic d = true → ∃ as, Reads s.heap u d as
  | _, _, _, .non, e, _ => by
    obtain rfl : _ = Value.none := e
    exact ⟨_, .none⟩
  | _, _, _, .bl b, e, _ => by
    obtain rfl : _ = Value.bool b := e
    exact ⟨_, .bool b⟩
  | _, _, _, .int i, e, _ => by
    obtain ⟨t, rfl⟩ := e
    exact ⟨_, .int i t⟩
  | _, _, _, .str x, e, _ => by
    obtain ⟨t, rfl⟩ := e
    exact ⟨_, .str x t⟩
  | _, _, _, .lst (ds := ds) h1 h2, e, hs => by
    obtain rfl : _ = Value.ref _ := e
    obtain ⟨its, n, r, e, _⟩ := inv_lstX I h1
    obtain ⟨as, q⟩ := readsAll_of I h2 r (by simpa [noDic] using hs)
    exact ⟨_, .list e rfl rfl (by simpa using q)⟩
  | _, _, _, .tup (ds := ds) h1 h2, e, hs => by
    obtain rfl : _ = Value.ref _ := e
    obtain ⟨its, r, ⟨o, e, hc, n, hd⟩, _⟩ := I.tuple (h1.sq (K := X.K))
    obtain ⟨as, q⟩ := readsAll_of I h2 r (by simpa [noDic] using hs)
    exact ⟨_, .tuple e hc hd (by simpa using q)⟩
  | _, _, _, .dK h1 h2, _, hs => by simp [noDic] at hs
  | _, _, _, .dT h1 h2, _, hs => by simp [noDic] at hs
theorem readsAll_of (I : Inv X pins σ H s) : ∀ {vs : List V} {ds : List PyData} {us : List Value}, RpL X.K H vs ds → Vals vs us → noDics ds = true → ∃ as, ReadsAll s.heap us ds as
  | _, _, _, .nil, r, _ => by
    cases r
    exact ⟨_, .nil⟩
  | _, _, _, .cons (d := d) (ds := ds) h t, r, hs => by
    cases r with
    | cons r1 r2 =>
      have hs2 : noDic d = true ∧ noDics ds = true := by simpa [noDics] using hs
      obtain ⟨a1, q1⟩ := reads_of I h r1 hs2.1
      obtain ⟨a2, q2⟩ := readsAll_of I t r2 hs2.2
      exact ⟨_, .cons q1 q2⟩
end
end
def isT1 : PyData → Bool
  | .tuple (_ :: _) => true
  | _ => false
def isNT : PyData → Bool
  | .none => false
  | .tuple _ => false
  | _ => true
def sortOk (ds : List PyData) : Bool := (ds.all fun d => ds.all fun e => PySem.W.alike d e) && (ds.all isT1 || ds.all isNT) && ds.all (fun d => decide (d.depth ≤ 60)) && noDics ds && decide (ds.length ≤ cap)
theorem sortOk_ok {ds : List PyData} (h : sortOk ds = true) : PySem.W.AllAlike ds ∧ PySem.W.Sortable ds ∧ (∀ d ∈ ds, d.depth ≤ 60) ∧ noDics ds = true ∧ ds.length ≤ cap := by
  unfold sortOk at h
  simp only [Bool.and_eq_true, Bool.or_eq_true, List.all_eq_true, decide_eq_true_eq] at h
  obtain ⟨⟨⟨⟨h1, h2⟩, h3⟩, h4⟩, h5⟩ := h
  refine ⟨fun d hd e he => h1 d hd e he, ?_, h3, h4, h5⟩
  rcases h2 with h2 | h2
  · refine .inl fun d hd => ?_
    have := h2 d hd
    cases d with
    | tuple xs =>
      cases xs with
      | nil => cases this
      | cons x r => exact ⟨x, r, rfl⟩
    | _ => cases this
  · refine .inr fun d hd => ?_
    have := h2 d hd
    exact ⟨fun z => (by rw [z] at this; cases this), fun xs z => (by rw [z] at this; cases this)⟩
def rSortedD (K : PySem.W.Frag) : List V → Hp → VK → Prop := fun vs H Q => ∃ (a : Addr) (bs : List (V × PyData)), vs = [V.ref a] ∧ SqX K H a (bs.map Prod.fst) ∧ (∀ p ∈ bs, Rp K H p.1 p.2) ∧ sortOk (bs.map Prod.snd) = true ∧
  ∀ p, H p = none → Q (.ref p) (upd H p (.lst ((bs.mergeSort (PySem.W.dataLe false Prod.snd)).map Prod.fst)))
theorem vals_each : ∀ {bs : List (V × PyData)} {us : List Value}, Vals (bs.map Prod.fst) us → PySem.W.EachIs (fun (u : Value) (p : V × PyData) => RelV p.1 u) us bs
  | [], _, .nil => .nil
  | p :: bs, _, .cons h t => .cons h (vals_each t)
theorem each_vals : ∀ {bs : List (V × PyData)} {us : List Value}, PySem.W.EachIs (fun (u : Value) (p : V × PyData) => RelV p.1 u) us bs → Vals (bs.map Prod.fst) us
  | _, _, .nil => .nil
  | _, _, .cons h t => .cons h (each_vals t)
theorem each_mem {R : Value → V × PyData → Prop} : ∀ {us : List Value} {bs : List (V × PyData)}, PySem.W.EachIs R us bs → PySem.W.EachIs (fun u p => R u p ∧ p ∈ bs) us bs
  | _, _, .nil => .nil
  | _, _, .cons h t => .cons ⟨h, List.mem_cons_self⟩ ((each_mem t).mono fun _ _ ⟨a, b⟩ => ⟨a, List.mem_cons_of_mem _ b⟩)
theorem noDics_mem : ∀ {ds : List PyData}, noDics ds = true → ∀ d ∈ ds, noDic d = true
  | [], _, _, h => by cases h
  | x :: r, h, d, hd => by
    have h : (noDic x && noDics r) = true := h
    rw [Bool.and_eq_true] at h
    rcases List.mem_cons.mp hd with e | e
    · rw [e]; exact h.1
    · exact noDics_mem h.2 d e
theorem cr_sortedD {X : Cx} (hu : X.A.units + 64 < cLine) : CallR X (.builtin "sorted") (rSortedD X.K) := by
  intro pins s σ H vs us Q I r h
  obtain ⟨a, bs, rfl, hX, hr, ok, q⟩ := h
  obtain ⟨h1, h2, h3, h4, h5⟩ := sortOk_ok ok
  obtain ⟨its, n, rv, e, hz⟩ := inv_lstX I hX
  rw [Vals.ref1 r]
  have ev := vals_each rv
  have er : PySem.W.EachIs (fun v (b : V × PyData) => ∃ as, Reads s.heap v b.2 as) its bs := (each_mem ev).mono fun u p ⟨z, hp⟩ => reads_of I (hr p hp) z (noDics_mem h4 _ (List.mem_map.mpr ⟨p, hp, rfl⟩))
  have hl : s.heap.IsList a its.toArray := ⟨_, e, rfl, n, rfl⟩
  refine PySem.W.sorted_data (enc := Prod.snd) hl ev er h1 h2 (by rw [List.length_map] at h5; exact le_line h5) (fun b hb => ?_) fun out ho eo => ?_
  · have := h3 b.2 (List.mem_map.mpr ⟨b, hb, rfl⟩)
    show X.A.units + 2 + _ < cLine
    omega
  · obtain ⟨ep, he'⟩ := PyProof.Rows.sortedAll_at s.heap its out.toArray
    have vo := each_vals eo
    refine ⟨.ref _, upd H (s.heap.objs.size + 1) (.lst ((bs.mergeSort (PySem.W.dataLe false Prod.snd)).map Prod.fst)), I.laid (t' := s.toks) (fun _ _ => PyProof.Rows.sortedAll_old) (Nat.le_succ _) ⟨?_, out, ep, vo, he'⟩, rfl, q _ (I.hok.fresh (Nat.le_succ _))⟩
    rw [List.length_map, List.length_mergeSort]
    rw [List.length_map] at h5
    exact le_line h5
def gSortD (x : AV) (δ : List Sl) : Rs AV := match rdC δ x with
  | some (.list ds) => if sortOk ds = true then .ok (.tmp (.ol ((ds.mergeSort (PySem.W.dataLe false fun d => d)).map .fz))) δ else .bad
  | _ => .bad
theorem rpl_zip {K : PySem.W.Frag} {H : Hp} : ∀ {vs : List V} {ds : List PyData}, RpL K H vs ds → ∃ bs : List (V × PyData), bs.map Prod.fst = vs ∧ bs.map Prod.snd = ds ∧ ∀ p ∈ bs, Rp K H p.1 p.2
  | _, _, .nil => ⟨[], rfl, rfl, fun _ z => nomatch z⟩
  | _, _, .cons (v := v) (d := d) h t => by
    obtain ⟨bs, e1, e2, e3⟩ := rpl_zip t
    refine ⟨(v, d) :: bs, by simp [e1], by simp [e2], fun p hp => ?_⟩
    rcases List.mem_cons.mp hp with e | e
    · rw [e]; exact h
    · exact e3 p e
theorem rpl_of_zip {K : PySem.W.Frag} {H : Hp} : ∀ {bs : List (V × PyData)}, (∀ p ∈ bs, Rp K H p.1 p.2) → RpL K H (bs.map Prod.fst) (bs.map Prod.snd)
  | [], _ => .nil
  | p :: r, h => .cons (h p List.mem_cons_self) (rpl_of_zip fun q hq => h q (List.mem_cons_of_mem _ hq))
theorem c1_sortD {K : PySem.W.Frag} {mg : Str → Option Value} {W : WX} {pin : List Nat} : C1 K mg W pin (rSortedD K) gSortD := by
  intro b Fz F δ σ H v x Q hp R A P
  unfold gSortD at P
  cases q : rdC δ x with
  | none => simp only [q] at P; exact P.elim
  | some d =>
    have h := rdC_ok R A q
    cases d with
    | list ds =>
      simp only [q] at P
      by_cases c : sortOk ds = true
      · rw [if_pos c] at P
        obtain ⟨a, vs, e1, s1, r1⟩ := h.list R.le
        obtain ⟨bs, e2, e3, e4⟩ := rpl_zip r1
        subst e2 e3
        refine ⟨a, bs, by rw [e1], s1, fun p hp => (e4 p hp).mono R.le, c, fun p np => ?_⟩
        have em : (bs.mergeSort (PySem.W.dataLe false Prod.snd)).map Prod.snd = (bs.map Prod.snd).mergeSort (PySem.W.dataLe false fun d => d) := PySem.W.sort_maps Prod.snd fun _ _ _ _ => rfl
        have rp : RpL K Fz ((bs.mergeSort (PySem.W.dataLe false Prod.snd)).map Prod.fst) ((bs.map Prod.snd).mergeSort (PySem.W.dataLe false fun d => d)) := by
          rw [← em]
          exact rpl_of_zip fun p hp => e4 p (List.mem_mergeSort.mp hp)
        exact post_newL R rp P p np
      · rw [if_neg c] at P
        exact P.elim
    | _ => simp only [q] at P; exact P.elim
abbrev gFdivW := gI (fun _ j => decide (0 < j ∧ j < 2 ^ 1000)) (· / ·)
abbrev gPowW := gI (fun i j => decide (0 ≤ j ∧ j ≤ 64 ∧ i.natAbs < 2 ^ 1024)) (fun i j => i ^ j.toNat)
theorem log2_of {n k : Nat} (h : n < 2 ^ k) (hk : 0 < k) : n.log2 < k := by
  by_cases z : n = 0
  · subst z; simpa using hk
  · exact (Nat.log2_lt z).mpr h
def CPowW (i j : Int) : Prop := 0 ≤ j ∧ (Builtin.Int.intBits i : Int) * j ≤ 2 ^ 27
theorem op_powW {X : Cx} : OpR X (binaryOp .Pow) (rI CPowW fun i j => .int (i ^ j.toNat)) := opI fun _ _ _ _ _ _ _ hc q => PyProof.Rows.pow_int hc.1 hc.2 q
section
variable {X : Cx} {W : WX} {pin : List Nat} {fa fb : List Sl → Rs AV} {a c : Expr} {pos : Pos}
theorem se_fdivW (ha : SE X W pin a fa) (hb : SE X W pin c fb) : SE X W pin (.BinOp a .FloorDiv c pos) (s2 gFdivW fa fb) := se_bin op_fdivW (v2_i fun i j h => by
  obtain ⟨h1, h2⟩ := (of_decide_eq_true h : 0 < j ∧ j < 2 ^ 1000)
  refine ⟨h1, Nat.lt_of_lt_of_le (log2_of (k := 1000) ?_ (by decide)) (by decide)⟩
  omega) ha hb
theorem se_powW (ha : SE X W pin a fa) (hb : SE X W pin c fb) : SE X W pin (.BinOp a .Pow c pos) (s2 gPowW fa fb) := se_bin op_powW (v2_i fun i j h => by
  obtain ⟨h1, h2, h3⟩ := (of_decide_eq_true h : 0 ≤ j ∧ j ≤ 64 ∧ i.natAbs < 2 ^ 1024)
  refine ⟨h1, ?_⟩
  have hb : Builtin.Int.intBits i ≤ 1024 := by
    unfold Builtin.Int.intBits
    split
    · omega
    · have := log2_of h3 (by decide)
      omega
  have h4 : (Builtin.Int.intBits i : Int) * j ≤ 1024 * j := Int.mul_le_mul_of_nonneg_right (by omega) h1
  omega) ha hb
end
end Hb
namespace Hb
open PySem PySem.Spec PyProof.Rows L2
def rExtX (K : PySem.W.Frag) : V → List V → Hp → VK → Prop := fun x vs H Q => ∃ l b xs zs, x = .ref l ∧ vs = [.ref b] ∧ H l = some (.lst xs) ∧ SqX K H b zs ∧ xs.length + zs.length ≤ sizeLine ∧ Q .non (upd H l (.lst (xs ++ zs)))
theorem mt_extX {X : Cx} : MtM X "list.extend" (rExtX X.K) := by
  intro pins s σ H x vs v us Q I rx rv h
  obtain ⟨l, b, xs, zs, rfl, rfl, hH, hB, hz, q⟩ := h
  cases rx
  obtain ⟨u, rfl, ru⟩ := rv.one
  cases ru
  obtain ⟨z, its, n, r, hl, e⟩ := I.lstM hH
  obtain ⟨its2, n2, r2, e2, hl2⟩ := inv_lstX I hB
  have l2 := r2.length
  have hsz : its.toArray.size + its2.toArray.size ≤ sizeLine := by rw [List.size_toArray, List.size_toArray]; omega
  have hlong : ¬ (!its.toArray.isEmpty && Builtin.List.listTooLong (its.toArray.size + its2.toArray.size)) = true := by
    rw [notLongL hsz, Bool.and_false]
    exact Bool.false_ne_true
  refine call_meets F.slot_list_extend ⟨_, e, rfl⟩ F.entry_list_extend (F.args_list_extend_2 _ _)
    (AutoSeq1.list_extend_list_list_0 l its.toArray n b its2.toArray n2 hlong (by rw [List.size_toArray]; omega) (by omega)) ⟨e, e2, ?_⟩
  refine ⟨.non, _, I.lset (its' := its ++ its2) hH e (by simp) (r.append r2) ?_, rfl, q⟩
  rw [List.length_append]
  omega
def extI (i : Nat) (ds : List PyData) (δ : List Sl) : Rs AV := match δ[i]? with
  | some (.ol xs) => if xs.length ≤ cap ∧ ds.length ≤ cap then .ok (.val .none) (upS i (.ol (xs ++ ds.map .fz)) δ) else .bad
  | _ => .bad
def extA (x : AV) (d : PyData) (δ : List Sl) : Rs AV := match x, d with
  | .ref i, .list ds => extI i ds δ
  | _, _ => .bad
def sExt (fo fa : List Sl → Rs AV) : List Sl → Rs AV := fun δ => (sSt fo δ).bind fun x δ1 => if isLst δ1 x = true then (sTk fa δ1).val fun d δ2 => extA x d δ2
  else .bad
theorem ext_ok {K : PySem.W.Frag} {mg : Str → Option Value} {W : WX} {b : Bk} {Fz : Hp} {F : Nat → List Addr} {δ : List Sl} {σ : L2.St} {H : Hp} {Q : VK} {v w : V} {x : AV} {d : PyData} (R : Rl K b Fz F δ σ H) (A : AvS K Fz σ v x) (r : Rp K Fz w d) (P : Post K mg W b Fz σ Q (extA x d δ)) : rExtX K v [w] H Q := by
  cases x with
  | val e => exact P.elim
  | tmp s => exact P.elim
  | ref i =>
    have hv : σ[i]? = some (some v) := A
    cases d with
    | list ds =>
      have P : Post K mg W b Fz σ Q (extI i ds δ) := P
      unfold extI at P
      cases q : δ[i]? with
      | none => simp only [q] at P; exact P.elim
      | some s =>
        cases s with
        | ol xs =>
          simp only [q] at P
          by_cases c : xs.length ≤ cap ∧ ds.length ≤ cap
          · rw [if_pos c] at P
            obtain ⟨l, vs, g, e1, e2, e3, e4, e5⟩ := R.own q hv
            subst e1
            cases r with
            | lst h1 h2 =>
              rename_i b0 zs
              have e6 : ElL K Fz H (g ++ []) (vs ++ zs) (xs ++ ds.map .fz) := e3.app (ElL.ofFz h2)
              rw [List.append_nil] at e6
              have R' := R.mut q hv e6 e5 (fun a ha => by rw [e4]; exact List.mem_cons_of_mem _ ha)
              refine ⟨l, b0, vs, zs, rfl, rfl, e2, same_sqX R.le h1, ?_, P .non _ Fz _ (Same.refl _) R' .non⟩
              have c1 : xs.length ≤ 1000000 := c.1
              have c2 : ds.length ≤ 1000000 := c.2
              rw [e3.len, h2.len, sizeLine_eq]
              omega
          · rw [if_neg c] at P
            exact P.elim
        | _ => simp only [q] at P; exact P.elim
    | _ => exact P.elim
section
variable {X : Cx} {W : WX} {pin : List Nat} {fo fa fb fc : List Sl → Rs AV} {o e a b c : Expr} {apos cpos pos : Pos}
theorem se_ext (ho : SE X W pin o fo) (ha : SE X W pin e fa) (hbase : attributeBase o "extend" X.env (eval o X.env) = eval o X.env := by rfl) (hline : (apos.endLine == cpos.line) = true := by rfl)
    (hs : starEach [e] X.env = (false, eval e X.env) :: starEach [] X.env := by rfl) (hfew : ((backTo cpos (starEach [e] X.env)).all (fun x => !x.1) && (backToKw cpos (keywordEach [] X.env)).all (fun x => x.1.isSome)
      && decide ([e].length + ([] : List Keyword).length + (if ([] : List Keyword).isEmpty then 0 else 1) < 30)) = true := by rfl) :
    SE X W pin (.Call (.Attribute o "extend" apos) [e] [] cpos) (sExt fo fa) :=
  pe_mono (pe_bm PySem.F.plainAttrs_list PySem.F.slot_list_extend PySem.F.type_list_extend mt_extX (se_st ho) (pa_cons (se_tk ha) pa_nil hs) hbase hfew hline hs rfl) fun σ H Q ⟨b, Fz, F, δ, hp, R, P⟩ => by
    refine rd_bind hp R P fun v H1 Fz1 F1 x δ1 s1 R1 A1 P1 => ?_
    by_cases c : isLst δ1 x = true
    · rw [if_pos c] at P1
      refine ⟨isLst_ty R1 A1 c, ?_⟩
      refine rd_val hp R1 P1 fun w H2 Fz2 F2 d δ2 s2 R2 A2 P2 => ?_
      exact ext_ok R2 (A1.le s2) A2 P2
    · rw [if_neg c] at P1
      exact P1.elim
def sCh (g g' : AV → AV → List Sl → Rs AV) (fa fb fc : List Sl → Rs AV) : List Sl → Rs AV := fun δ => (sSt fa δ).bind fun x δ1 => (sSt fb δ1).bind fun y δ2 => (g x y δ2).bind fun k δ3 => match k with
  | .val (.bool true) => (sSt fc δ3).bind fun z δ4 => g' y z δ4
  | .val (.bool false) => .ok (.val (.bool false)) δ3
  | _ => .bad
theorem chain_ok {g g' : AV → AV → List Sl → Rs AV} {r r' : R2} (hv : V2 X.K X.mg W pin r g) (hv' : V2 X.K X.mg W pin r' g') : ∀ σ H Q, rdE X.K X.mg W pin (sCh g g' fa fb fc) σ H Q → tChain r r' (rdE X.K X.mg W pin (sSt fa)) (rdE X.K X.mg W pin (sSt fb)) (rdE X.K X.mg W pin (sSt fc)) σ H Q := fun σ H Q ⟨b0, Fz, F, δ, hp, R, P⟩ => by
  refine rd_bind hp R P fun v H1 Fz1 F1 x δ1 s1 R1 A1 P1 => ?_
  refine rd_bind hp R1 P1 fun w H2 Fz2 F2 y δ2 s2 R2 A2 P2 => ?_
  refine hv b0 Fz2 F2 δ2 σ H2 v w x y _ hp R2 (A1.le s2) A2 ?_
  cases q : g x y δ2 with
  | bad => rw [q] at P2; exact P2
  | er e δ3 => rw [q] at P2; exact P2
  | ok k δ3 =>
    rw [q] at P2
    cases k with
    | ref i => exact P2.elim
    | tmp t => exact P2.elim
    | val d =>
      cases d with
      | bool k =>
        intro z H3 Fz3 F3 s3 R3 A3
        cases (show Rp X.K Fz3 z (.bool k) from A3)
        refine ⟨k, rfl, ?_⟩
        cases k with
        | false => exact P2 (.bl false) H3 Fz3 F3 s3 R3 (.bl false)
        | true =>
          rw [if_pos rfl]
          have P3 : Post X.K X.mg W b0 Fz3 σ Q ((sSt fc δ3).bind fun z δ4 => g' y z δ4) := Post.le s3 P2
          refine rd_bind hp R3 P3 fun u H4 Fz4 F4 zz δ4 s4 R4 A4 P4 => ?_
          exact hv' b0 Fz4 F4 δ4 σ H4 w u y zz Q hp R4 (A2.le (s3.trans s4)) A4 P4
      | _ => exact P2.elim
theorem se_chain {op op' : CmpOp} {g g' : AV → AV → List Sl → Rs AV} {r r' : R2} (ho : OpR X (compareOp op) r) (hv : V2 X.K X.mg W pin r g) (ho' : OpR X (compareOp op') r') (hv' : V2 X.K X.mg W pin r' g') (ha : SE X W pin a fa) (hb : SE X W pin b fb) (hc : SE X W pin c fc)
    (hm : lastMarks [op, op'] [b, c] = false := by with_unfolding_all rfl) : SE X W pin (.Compare a [op, op'] [b, c] pos) (sCh g g' fa fb fc) := pe_mono (pe_chain ho ho' (se_st ha) (se_st hb) (se_st hc) hm) (chain_ok hv hv')
theorem st_chain {op op' : CmpOp} {g g' : AV → AV → List Sl → Rs AV} {r r' : R2} (ho : OpR X (compareOp op) r) (hv : V2 X.K X.mg W pin r g) (ho' : OpR X (compareOp op') r') (hv' : V2 X.K X.mg W pin r' g') (ha : SE X W pin a fa) (hb : SE X W pin b fb) (hc : SE X W pin c fc)
    (hm : lastMarks [op, op'] [b, c] = false := by with_unfolding_all rfl) : ST X W pin (.Compare a [op, op'] [b, c] pos) (sTst (sCh g g' fa fb fc)) := pt_mono (pt_chain ho ho' (se_st ha) (se_st hb) (se_st hc) hm) fun σ H Q h => chain_ok hv hv' σ H _ (tst_ok σ H Q h)
end
end Hb
namespace Nv
open PySem Hb L2
open Enc (enc)
section
variable {α β γ ε ζ : Type} {Γ : Ga} {fa fb fc : List Sl → Rs AV}
theorem pu_ch [Enc α] [Enc β] [Enc γ] {g g' : AV → AV → List Sl → Rs AV} {op : α → β → Option Bool} {op' : β → γ → Option Bool} (o : Op2 g op fun r => .val (enc r)) (o' : Op2 g' op' fun r => .val (enc r)) {pa : Option α} {pb : Option β} {pc : Option γ} (ha : Rd fa Γ pa enc) (hb : Rd fb Γ pb enc) (hc : Rd fc Γ pc enc) :
    Pu (sCh g g' fa fb fc) Γ (pa.bind fun x => pb.bind fun y => (op x y).bind fun k => if k = true then pc.bind fun z => op' y z else some false) fun r => .val (enc r) := fun r e δ s => by
  obtain ⟨x, e1, e⟩ := bind_of e
  obtain ⟨y, e2, e⟩ := bind_of e
  obtain ⟨k, e3, e⟩ := bind_of e
  obtain ⟨a, h1, h2, h3⟩ := ha x e1 δ s
  obtain ⟨b, k1, k2, k3⟩ := hb y e2 δ s
  unfold sCh
  rw [h1]
  show (sSt fb δ).bind _ = _
  rw [k1]
  show (g a b δ).bind _ = _
  rw [o x y k δ a b h2 h3 k2 k3 e3]
  cases k with
  | false => cases some_of e; rfl
  | true =>
    rw [if_pos rfl] at e
    obtain ⟨z, e4, e⟩ := bind_of e
    obtain ⟨c, q1, q2, q3⟩ := hc z e4 δ s
    show (sSt fc δ).bind _ = _
    rw [q1]
    exact o' y z r δ b c k2 k3 q2 q3 e
def exL {α : Type} (xs ys : List α) : Option (List α) := if xs.length ≤ cap ∧ ys.length ≤ cap then some (xs ++ ys) else none
theorem ev_ext [Enc α] {k : Nat} {p : Option ε} {va : ε → List α} {xs : ε → List α} {Γ1 : ε → Ga} {s0 : Sl} {es : List El} (h0 : Γ[k]? = some (.eq s0)) (hs0 : s0 = .ol es) (ha : Ev (sTk fa) Γ p (fun x => .val (enc (va x))) Γ1) (h1 : ∀ x, (Γ1 x)[k]? = some (.eq (ow (xs x)))) :
    Ev (sExt (sVar k) fa) Γ (p.bind fun x => (exL (xs x) (va x)).bind fun ys => some (ys, x)) (fun _ => .val .none) fun r => upP k (.eq (ow r.1)) (Γ1 r.2) := fun r e δ s => by
  obtain ⟨v, e1, e⟩ := bind_of e
  obtain ⟨ys, e2, e⟩ := bind_of e
  cases some_of e
  obtain ⟨δ1, q1, s1⟩ := ha v e1 δ s
  subst hs0
  have hk := s.at_ h0
  have hk1 := s1.at_ (h1 v)
  unfold exL at e2
  by_cases c : (xs v).length ≤ cap ∧ (va v).length ≤ cap
  · rw [if_pos c] at e2
    cases some_of e2
    refine ⟨_, ?_, s1.up (p := .eq (ow (xs v ++ va v))) rfl⟩
    unfold sExt
    rw [sSt_ref (sVar_own hk)]
    show (if isLst δ (.ref k) = true then _ else _) = _
    rw [if_pos (isLst_ref hk)]
    unfold Rs.val
    rw [q1]
    show extI k ((va v).map enc) δ1 = _
    unfold extI
    rw [hk1]
    simp only [ow, List.length_map, if_pos c, List.map_append]
  · rw [if_neg c] at e2
    cases e2
def fdivW (i j : Int) : Option Int := if 0 < j ∧ j < 2 ^ 1000 then some (i / j) else none
def powW (i j : Int) : Option Int := if 0 ≤ j ∧ j ≤ 64 ∧ i.natAbs < 2 ^ 1024 then some (i ^ j.toNat) else none
theorem op_fdivW : Op2 gFdivW fdivW fun r => .val (enc r) := op_gIc (C := fun _ j => 0 < j ∧ j < 2 ^ 1000)
theorem op_powW : Op2 gPowW powW fun r => .val (enc r) := op_gIc (C := fun i j => 0 ≤ j ∧ j ≤ 64 ∧ i.natAbs < 2 ^ 1024)
theorem noDics_ints : ∀ ns : List Int, noDics (ns.map .int) = true
  | [] => by simp [noDics]
  | n :: r => by simp [noDics, noDic, noDics_ints r]
theorem sortOk_ints {ns : List Int} (h : ns.length ≤ cap) : sortOk (ns.map .int) = true := by
  unfold sortOk
  simp only [Bool.and_eq_true, Bool.or_eq_true, List.all_eq_true, decide_eq_true_eq, List.mem_map, List.length_map]
  refine ⟨⟨⟨⟨?_, .inr ?_⟩, ?_⟩, noDics_ints ns⟩, h⟩
  · rintro _ ⟨i, _, rfl⟩ _ ⟨j, _, rfl⟩
    simp [PySem.W.alike]
  · rintro _ ⟨i, _, rfl⟩
    rfl
  · rintro _ ⟨i, _, rfl⟩
    simp [PyData.depth]
def srtC (ns : List Int) : Option (List Int) := if ns.length ≤ cap then some (sortI ns) else none
theorem sort_int (ns : List Int) : (ns.map PyData.int).mergeSort (PySem.W.dataLe false fun d => d) = (sortI ns).map .int := by
  unfold sortI
  refine (PySem.W.sort_maps PyData.int fun a _ b _ => ?_).symm
  have := congrFun (congrFun (PySem.W.dataLe_int (fun i : Int => i)) a) b
  exact this.symm
theorem op_srtC : Op1 gSortD srtC fun r => .tmp (ow r) := fun v r δ x h _ e => by
  have h : rdC δ x = some (.list (v.map .int)) := h
  unfold srtC at e
  by_cases c : v.length ≤ cap
  · rw [if_pos c] at e
    cases some_of e
    simp only [gSortD, h, if_pos (sortOk_ints c), sort_int]
    rfl
  · rw [if_neg c] at e
    cases e
end
end Nv
namespace Hb
open PySem PySem.Spec PyProof.Rows L2
def keyOf : PyData → Option Key
  | .int i => some (.inl i)
  | .str x => some (.inr x)
  | _ => none
theorem keyOf_D (k : Key) : keyOf (kD k) = some k := by cases k <;> rfl
theorem keyOf_eq {d : PyData} {k : Key} (h : keyOf d = some k) : d = kD k := by
  cases d <;> first | (cases h; rfl) | cases h
def lookK (kvs : List (PyData × PyData)) (k : Key) : Option PyData := (kvs.find? fun p => decide (keyOf p.1 = some k)).map (·.2)
section
variable {K : PySem.W.Frag} {H : Hp}
theorem RpK.look : ∀ {ws : List (Key × V)} {kvs : List (PyData × PyData)} {k : Key} {d : PyData}, RpK K H ws kvs → lookK kvs k = some d → ∃ v, valV ws k = some v ∧ Rp K H v d
  | _, _, k, d, .nil, h => by cases h
  | _, _, k, d, .cons (k := k0) (v := v0) (vs := ws) (d := d0) (ds := kvs) r t, h => by
    unfold lookK at h
    rw [List.find?_cons] at h
    rw [keyOf_D] at h
    by_cases c : k0 = k
    · rw [decide_eq_true (by rw [c])] at h
      cases h
      exact ⟨v0, valV_pos (p := (k0, v0)) c, r⟩
    · have hn : ¬ some k0 = some k := fun z => c (Option.some.inj z)
      rw [decide_eq_false hn] at h
      obtain ⟨v, e1, e2⟩ := RpK.look t h
      exact ⟨v, by rw [valV_neg (p := (k0, v0)) c]; exact e1, e2⟩
end
/-- the dict's tree, where it is one -/
def dicA (δ : List Sl) (x : AV) : Option (List (PyData × PyData)) := match rdA δ x with
  | some (.dict kvs) => some kvs
  | _ => none
/-- its items stand still -/
theorem dic_ok {K : PySem.W.Frag} {b : Bk} {Fz : Hp} {F : Nat → List Addr} {δ : List Sl} {σ : L2.St} {H : Hp} (R : Rl K b Fz F δ σ H) {v : V} {x : AV} {kvs : List (PyData × PyData)} (A : AvS K Fz σ v x) (h : dicA δ x = some kvs) :
    ∃ a, v = .ref a ∧ ((∃ ws, H a = some (.dK ws) ∧ RpK K Fz ws kvs) ∨ ∃ ws, DP Fz H a ws ∧ RpT K Fz ws kvs) := by
  unfold dicA at h
  have q : rdA δ x = some (.dict kvs) := by
    cases q : rdA δ x with
    | none => rw [q] at h; cases h
    | some d => rw [q] at h; cases d <;> first | (cases h; rfl) | cases h
  have frz : ∀ {u : V}, Rp K Fz u (.dict kvs) → ∃ a, u = .ref a ∧ ((∃ ws, H a = some (.dK ws) ∧ RpK K Fz ws kvs) ∨ ∃ ws, DP Fz H a ws ∧ RpT K Fz ws kvs) := fun r => by
    cases r with
    | dK h1 h2 => exact ⟨_, rfl, .inl ⟨_, R.le _ _ h1.1, h2⟩⟩
    | dT h1 h2 => exact ⟨_, rfl, .inr ⟨_, h1.monoS (Same.refl _) R.le, h2⟩⟩
  cases x with
  | val d => cases q; exact frz A
  | tmp t => cases q
  | ref i =>
    have hv : σ[i]? = some (some v) := A
    simp only [rdA] at q
    cases q1 : δ[i]? with
    | none => simp only [q1] at q; cases q
    | some s =>
      have hs := R.slot i s q1
      rw [hv] at hs
      cases s with
      | no => simp only [q1] at q; cases q
      | fz d =>
        simp only [q1] at q
        cases q
        obtain ⟨_, v', e1, e2⟩ := hs
        cases e1
        exact frz e2
      | ol xs => simp only [q1] at q; cases q
      | ex e => simp only [q1] at q; cases e <;> cases q
      | od ks =>
        simp only [q1] at q
        cases q
        obtain ⟨a, e1, _, e3⟩ := hs
        cases e1
        exact ⟨a, rfl, e3.imp (fun ⟨ws, h1, h2⟩ => ⟨ws, h1.1, h2⟩) id⟩
      | al y j =>
        simp only [q1] at q
        cases q2 : δ[y]? with
        | none => simp only [q2] at q; cases q
        | some t =>
          cases t with
          | ol xs =>
            simp only [q2] at q
            cases q3 : xs[j]? with
            | none => rw [q3] at q; cases q
            | some e =>
              rw [q3] at q
              obtain ⟨g, e1, _⟩ := R.al q1 q2 q3 hv
              cases e with
              | fz d => cases q; exact frz e1.2
              | ow ys => cases q
          | _ => simp only [q2] at q; cases q
section
variable {X : Cx} {W : WX} {pin : List Nat} {fa fb : List Sl → Rs AV} {a c : Expr} {pos : Pos}
theorem pe_or {e : Expr} {t t' : TE} (h : PE X e t) (h' : PE X e t') : PE X e (fun σ H Q => t σ H Q ∨ t' σ H Q) := ⟨fun pins s σ H Q I q => q.elim (h.run pins s σ H Q I) (h'.run pins s σ H Q I)⟩
theorem rpc_key {K : PySem.W.Frag} {Fz H : Hp} {v : V} {d : PyData} {k : Key} (h : RpC K Fz H v d) (e : keyOf d = some k) : v = kV k := by
  have := keyOf_eq e
  subst this
  rcases h with h | ⟨_, _, _, _, e2, _⟩
  · cases k with
    | inl i => cases h; rfl
    | inr x => cases h; rfl
  · cases k <;> cases e2
theorem rd_bind' {K : PySem.W.Frag} {mg : Str → Option Value} {σ : L2.St} {H : Hp} {b : Bk} {Fz : Hp} {F : Nat → List Addr} {δ : List Sl} {k : AV → List Sl → Rs AV} {Q R : VK} (hp : b.pin = pin) (Rr : Rl K b Fz F δ σ H) (P : Post K mg W b Fz σ Q ((sSt fa δ).bind k))
    (h : ∀ v H' Fz' F' x δ', sSt fa δ = .ok x δ' → Same Fz Fz' → Rl K b Fz' F' δ' σ H' → AvS K Fz' σ v x → Post K mg W b Fz' σ Q (k x δ') → R v H') : rdE K mg W pin (sSt fa) σ H R := by
  refine ⟨b, Fz, F, δ, hp, Rr, ?_⟩
  cases q : sSt fa δ with
  | bad => rw [q] at P; exact P
  | er x δ' => rw [q] at P; exact P
  | ok a δ' =>
    rw [q] at P
    intro v H' Fz' F' s R' A
    cases a with
    | tmp t => exact absurd q (sSt_notmp _ _ _ _)
    | val d => exact h v H' Fz' F' (.val d) δ' q s R' A (Post.le s P)
    | ref i => exact h v H' Fz' F' (.ref i) δ' q s R' A (Post.le s P)
theorem rdE_mono {K : PySem.W.Frag} {mg : Str → Option Value} {f : List Sl → Rs AV} {σ : L2.St} {H : Hp} {Q Q' : VK} (h : rdE K mg W pin f σ H Q) (i : ∀ v H', Q v H' → Q' v H') : rdE K mg W pin f σ H Q' := by
  obtain ⟨b, Fz, F, δ, hp, R, P⟩ := h
  refine ⟨b, Fz, F, δ, hp, R, ?_⟩
  cases q : f δ with
  | bad => rw [q] at P; exact P
  | er x δ' => rw [q] at P; exact P
  | ok a δ' =>
    rw [q] at P
    exact fun v H' Fz' F' s R' A => i v H' (P v H' Fz' F' s R' A)
theorem lookT {K : PySem.W.Frag} {H : Hp} (k : Key) : ∀ {ws : List (List Key × V)} {kvs : List (PyData × PyData)}, RpT K H ws kvs → lookK kvs k = none
  | _, _, .nil => rfl
  | _, _, .cons _ _ t => by
    have ih := lookT k t
    unfold lookK at ih ⊢
    rw [List.find?_cons]
    simpa [keyOf] using ih
/-- one of two readings, by what the first operand's tree is behind both -/
theorem t2_or {t t' : TE} {r : R2} {g gd : AV → AV → List Sl → Rs AV} {D : AV → List Sl → Bool}
    (ht : ∀ σ H Q, tOp r (rdE X.K X.mg W pin (sSt fa)) (rdE X.K X.mg W pin (sSt fb)) σ H Q → t σ H Q)
    (ht' : ∀ σ H Q, rdE X.K X.mg W pin (sSt fa) σ H (fun v H1 => rdE X.K X.mg W pin (sSt fb) σ H1 fun w H2 => ∃ b Fz F δ x y, Rl X.K b Fz F δ σ H2 ∧ AvS X.K Fz σ v x ∧ AvS X.K Fz σ w y ∧ b.pin = pin ∧ D x δ = true ∧ Post X.K X.mg W b Fz σ Q (gd x y δ)) → t' σ H Q)
    (hv : V2 X.K X.mg W pin r g) : ∀ σ H Q, rdE X.K X.mg W pin (s2 (fun x y δ => if D x δ = true then gd x y δ else g x y δ) fa fb) σ H Q → t σ H Q ∨ t' σ H Q := fun σ H Q ⟨b, Fz, F, δ, hp, R, P⟩ => by
  have P : Post X.K X.mg W b Fz σ Q ((sSt fa δ).bind fun x δ1 => (sSt fb δ1).bind fun y δ2 => if D x δ2 = true then gd x y δ2 else g x y δ2) := P
  by_cases dic : ∃ x δ1 y δ2, sSt fa δ = .ok x δ1 ∧ sSt fb δ1 = .ok y δ2 ∧ D x δ2 = true
  · obtain ⟨x0, d1, y0, d2, q1, q2, q3⟩ := dic
    refine .inr (ht' σ H Q (rd_bind' hp R P fun v H1 Fz1 F1 x δ1 e1 s1 R1 A1 P1 => rd_bind' hp R1 P1 fun w H2 Fz2 F2 y δ2 e2 s2 R2 A2 P2 => ?_))
    rw [q1] at e1
    cases e1
    rw [q2] at e2
    cases e2
    rw [if_pos q3] at P2
    exact ⟨b, Fz2, F2, _, _, _, R2, A1.le s2, A2, hp, q3, P2⟩
  · refine .inl (ht σ H Q (rd_bind' hp R P fun v H1 Fz1 F1 x δ1 e1 s1 R1 A1 P1 => rd_bind' hp R1 P1 fun w H2 Fz2 F2 y δ2 e2 s2 R2 A2 P2 => ?_))
    have q3 : ¬ D x δ2 = true := fun z => dic ⟨x, δ1, y, δ2, e1, e2, z⟩
    rw [if_neg q3] at P2
    exact hv b Fz2 F2 δ2 σ H2 v w x y Q hp R2 (A1.le s2) A2 P2
def isDic (x : AV) (δ : List Sl) : Bool := (dicA δ x).isSome
def gDix (x y : AV) (δ : List Sl) : Rs AV := match dicA δ x, (rdC δ y).bind keyOf with
  | some kvs, some k => (match lookK kvs k with
    | some d => .ok (.val d) δ
    | none => .bad)
  | _, _ => .bad
/-- x[i]: of a list, a tuple, a dict -/
def gIx2 (x y : AV) (δ : List Sl) : Rs AV := if isDic x δ = true then gDix x y δ else gIx x y δ
theorem se_ix2 (hu : X.A.units + 64 < cLine) (ha : SE X W pin a fa) (hb : SE X W pin c fb) (hs : PlainIx c := by intro _ _; rfl) (hs2 : NoSl c := by intro _ _; rfl) : SE X W pin (.Subscript a c pos) (s2 gIx2 fa fb) :=
  pe_mono (pe_or (pe_ix ix_U (se_st ha) (se_st hb) hs) (pe_dget (by omega) (se_st ha) (se_st hb) hs2)) (t2_or (r := rIxU X.K) (g := gIx) (gd := gDix) (D := isDic) (fun _ _ _ h => h) (fun σ H Q h => by
    refine rdE_mono h fun v H1 h => rdE_mono h fun w H2 ⟨b, Fz, F, δ, x, y, R, A, B, hp, hD, P⟩ => ?_
    unfold isDic at hD
    cases q : dicA δ x with
    | none => rw [q] at hD; cases hD
    | some kvs =>
      obtain ⟨a', e1, e2⟩ := dic_ok R A q
      unfold gDix at P
      cases q2 : (rdC δ y).bind keyOf with
      | none => simp only [q, q2] at P; exact P.elim
      | some k =>
        cases q3 : lookK kvs k with
        | none => simp only [q, q2, q3] at P; exact P.elim
        | some d =>
          simp only [q, q2, q3] at P
          obtain ⟨kd, f1, f2⟩ := Option.bind_eq_some_iff.mp q2
          have ew := rpc_key (rdC_ok R B f1) f2
          rcases e2 with ⟨ws, g1, g2⟩ | ⟨ws, g1, g2⟩
          · obtain ⟨u, h1, h2⟩ := g2.look q3
            exact ⟨a', u, e1, .inl ⟨ws, k, .inl g1, ew, h1.symm⟩, P u H2 Fz F (Same.refl _) R h2⟩
          · rw [lookT k g2] at q3
            cases q3) v2_ix)
end
end Hb
namespace Nv
open PySem Hb L2
open Enc (enc)
class EncKey (κ : Type) [Enc κ] where
  key : κ → Key
  h : ∀ k : κ, keyOf (enc k) = some (key k)
  inj : ∀ a b : κ, key a = key b → a = b
instance : EncKey Int := ⟨.inl, fun _ => rfl, fun _ _ h => Sum.inl.inj h⟩
instance : EncKey Str := ⟨.inr, fun _ => rfl, fun _ _ h => Sum.inr.inj h⟩
section
variable {α β γ κ : Type} [Enc α] [Enc β] [Enc κ] [DecidableEq κ] [EncKey κ] {Γ : Ga} {fa fb : List Sl → Rs AV}
theorem notDic_list {δ : List Sl} {x : AV} {ds : List PyData} (h : rdA δ x = some (.list ds)) : isDic x δ = false := by simp [isDic, dicA, h]
theorem notDic_tup {δ : List Sl} {x : AV} {ds : List PyData} (h : rdA δ x = some (.tuple ds)) : isDic x δ = false := by simp [isDic, dicA, h]
theorem op_ix2 : Op2 gIx2 (atL (α := α)) fun r => .val (enc r) := fun v w r δ x y h1 h1' h2 h2' e => by
  have : gIx2 x y δ = gIx x y δ := by unfold gIx2; rw [notDic_list (show rdA δ x = some (.list (v.map enc)) from h1')]; rfl
  rw [this]
  exact op_ix v w r δ x y h1 h1' h2 h2' e
theorem op_ixT2 : Op2 gIx2 (atT (α := α)) fun r => .val (enc r) := fun v w r δ x y h1 h1' h2 h2' e => by
  have : gIx2 x y δ = gIx x y δ := by unfold gIx2; rw [notDic_tup (show rdA δ x = some (.tuple (v.l.map enc)) from h1')]; rfl
  rw [this]
  exact op_ixT v w r δ x y h1 h1' h2 h2' e
def putC (d : List (κ × α)) (k : κ) (v : α) : List (κ × α) := if (d.any fun p => decide (p.1 = k)) = true then d.map (fun p => if p.1 = k then (p.1, v) else p) else d ++ [(k, v)]
def Op2M (g : AV → AV → List Sl → Rs AV) (op : α → β → Option γ) (a : γ → AV) : Prop := ∀ v w r δ x y, rdA δ x = some (enc v) → rdC δ y = some (enc w) → op v w = some r → g x y δ = .ok (a r) δ
theorem pu2M {g : AV → AV → List Sl → Rs AV} {op : α → β → Option γ} {a : γ → AV} (o : Op2M g op a) {pa : Option α} {pb : Option β} (ha : Ra fa Γ pa enc) (hb : Rd fb Γ pb enc) : Pu (s2 g fa fb) Γ (pa.bind fun v => pb.bind fun w => op v w) a := fun r e δ s => by
  obtain ⟨v, e1, e⟩ := bind_of e
  obtain ⟨w, e2, e⟩ := bind_of e
  obtain ⟨x, h1, h3⟩ := ha v e1 δ s
  obtain ⟨y, k1, k2, k3⟩ := hb w e2 δ s
  unfold s2
  rw [h1]
  show (sSt fb δ).bind _ = _
  rw [k1]
  exact o v w r δ x y h3 k2 e
end
section
variable {α : Type} [Enc α] {Γ : Ga} {f : List Sl → Rs AV} {p : Option (List α)}
theorem enc_any (xs : List α) : (enc (xs.map enc : List PyData) : PyData) = enc xs := by
  show PyData.list ((xs.map enc).map fun d => d) = PyData.list (xs.map enc)
  rw [List.map_id']
theorem Rd.anyL (hh : Rd f Γ p enc) : Rd f Γ (p.bind fun xs => some (xs.map enc)) (enc : List PyData → PyData) := fun r e δ s => by
  obtain ⟨v, e1, e⟩ := bind_of e
  cases some_of e
  rw [enc_any]
  exact hh _ e1 δ s
end
end Nv
namespace Nv
open PySem Hb L2
open Enc (enc)
end Nv
namespace Hb
open PySem PySem.Spec PyProof.Rows L2
def scalD : PyData → Bool
  | .none => true
  | .bool _ => true
  | .int _ => true
  | .str _ => true
  | _ => false
end Hb
namespace Hb
open PySem PySem.Spec PyProof.Rows L2
end Hb
namespace Hb
open PySem PySem.Spec PyProof.Rows L2
end Hb
namespace Nv
open PySem Hb L2
open Enc (enc)
section
/-- as everything stands still, name by name -/
inductive FrzP : Pt → Pt → Prop
  | no : FrzP (.eq .no) (.eq .no)
  | fz {d : PyData} : FrzP (.eq (.fz d)) (.eq (.fz d))
  | ow {α : Type} [Enc α] {xs : List α} : FrzP (.eq (ow xs)) (.eq (.fz (enc xs)))
  | oww {α : Type} [Enc α] {xs : List (List α)} : FrzP (.eq (oww xs)) (.eq (.fz (enc xs)))
  | od {κ α : Type} [Enc κ] [Enc α] {xs : Dc κ α} : FrzP (.eq (od xs)) (.eq (.fz (enc xs)))
  | tr {d : PyData} : FrzP (.tr d) (.eq (.fz d))
  | ts {d : PyData} : FrzP (.ts d) (.eq (.fz d))
  | na {s : Sl} {d : PyData} (h : s.tree = some d) : FrzP (.na s) (.eq (.fz d))
  | aa {p : Pt} : FrzP p .aa
/-- its values hold nothing -/
class Scal (α : Type) [Enc α] : Prop where
  s : ∀ x : α, scalD (enc x) = true
instance : Scal Int := ⟨fun _ => rfl⟩
instance : Scal Bool := ⟨fun _ => rfl⟩
instance : Scal Str := ⟨fun _ => rfl⟩
instance : Scal Unit := ⟨fun _ => rfl⟩
instance {α : Type} [Enc α] [Scal α] : Scal (Option α) := ⟨fun x => match x with
  | none => rfl
  | some x => Scal.s x⟩
variable {α β γ ε : Type} {Γ : Ga} {f fa : List Sl → Rs AV}
end
end Nv
namespace Hb
open PySem PySem.Spec PyProof.Rows L2
end Hb
namespace Nv
open PySem Hb L2
open Enc (enc)
end Nv
namespace Hb
open PySem PySem.Spec PyProof.Rows L2
end Hb
namespace Nv
open PySem Hb L2
open Enc (enc)
end Nv
namespace Hb
open PySem PySem.Spec PyProof.Rows L2
/-- items that are rows of the list's own -/
def AccR (K : PySem.W.Frag) (Fz H : Hp) (g : List Addr) (v : V) (ds : List PyData) : Prop := ∃ a ws, v = .ref a ∧ H a = some (.lst ws) ∧ RpL K Fz ws ds ∧ a ∈ g
inductive AccL (K : PySem.W.Frag) (Fz H : Hp) (g : List Addr) : List V → List (List PyData) → Prop
  | nil : AccL K Fz H g [] []
  | cons {v : V} {ds : List PyData} {vs : List V} {l : List (List PyData)} : AccR K Fz H g v ds → AccL K Fz H g vs l → AccL K Fz H g (v :: vs) (ds :: l)
end Hb
namespace Nv
open PySem Hb L2
open Enc (enc)
end Nv
namespace Hb
open PySem PySem.Spec PyProof.Rows L2
end Hb
namespace Nv
open PySem Hb L2
open Enc (enc)
end Nv
namespace Hb
open PySem PySem.Spec PyProof.Rows L2
/-- what is known of a class of errors -/
structure ExcC (K : PySem.W.Frag) (mg : Str → Option Value) (C : Str) (c : Addr) : Prop where
  q : PySem.W.excIn K c He.veBase "ValueError.__new__" = true
  k : PySem.W.keepIn K (.ref c) = true
  b : PySem.W.subIn K (.ref c) (.type "BaseException") = some true
  t : PySem.W.typeIn K (.ref c) = some (.type "type")
  g : mg C = some (.ref c)
def oRaise (C : Str) : List Sl → Ot := fun δ => .er ⟨C, none⟩ δ
section
variable {X : Cx} {W : WX} {pin : List Nat}
theorem ss_raise {C m : Str} {c : Addr} {j : Nat} {p p2 pos pos' : Pos} (hc : X.calm = true) (tk : Takes X W) (e : ExcC X.K X.mg C c) (hg : Gl X C) (hdb : (C == ("__debug__" : Str)) = false := by decide) :
    SS X W pin (.Raise (some (.Call (.Name C p) [.Constant (.str m) j p2] [] pos)) none pos') (oRaise C) :=
  ps_mono (ps_raise hc tk (pmk_own PySem.F.excBase_ValueError e.q e.g e.k (raises_own e.b e.t) hg hdb)) fun D σ H ⟨b, Fz, F, δ, hp, R, P⟩ => P (.ref c) none σ H Fz F (Same.refl _) R ⟨⟨c, e.g, rfl⟩, rfl⟩
/-- the except clauses -/
inductive HdO (X : Cx) (W : WX) (pin : List Nat) : List ExceptHandler → List (Str × (List Sl → Ot)) → Prop
  | nil : HdO X W pin [] []
  | cons {C : Str} {c : Addr} {b₀ : Stmt} {suite : List Stmt} {np pos' : Pos} {hds : List ExceptHandler} {l : List (Str × (List Sl → Ot))} {h : List Sl → Ot} (g : X.mg C = some (.ref c)) (hg : Gl X C) (hd : (C == ("__debug__" : Str)) = false)
      (hsu : ∀ (a : Addr) (oe : Obj) (pn : List (Addr × Obj)), SSs (X.suite a ((a, oe) :: pn)) W pin (b₀ :: suite) h) (r : HdO X W pin hds l) :
      HdO X W pin (.ExceptHandler (some (.Name C np)) none (b₀ :: suite) pos' :: hds) ((C, h) :: l)
end
/-- the def's own errors go out -/
theorem gx_takes {P : Program} {w : World} {K : PySem.W.Frag} {mg : Str → Option Value} {base : Heap} {N : List Str} {qual : Str} {scope : Scope} {f : Addr} {cd : Value} {A : Around} {outer : List Env} {s : Shared} {H : Hp} {E : XK} :
    Takes (GX P w K mg base N qual scope f cd A outer s H E) (GW E) := takes_of rfl rfl rfl rfl
theorem excC_of {K : PySem.W.Frag} {h : Heap} {mg : Str → Option Value} (X : K.In h) (G : h.Ns mainGlobals mg) {C : Str} (g : mg C = some (.ref (He.ga K C))) (c : (He.Fa.exc C).ok K = true) : ExcC K mg C (He.ga K C) :=
  let ⟨a, b, d, e⟩ := He.exc_ok c
  ⟨a, b, d, e, g⟩
end Hb
namespace Nv
open PySem Hb L2
open Enc (enc)
section
variable {α β γ ε ζ σ ρ : Type} {Γ Γx : Ga} {f : List Sl → Rs AV} {A g : List Sl → Ot} {R : ζ → Ot → Prop}
end
end Nv
namespace Hb
open PySem L2
end Hb
namespace P
open PySem PySem.Spec PyProof.Rows L2 Hb Nv
open Enc (enc)
def B__law_well : List Sl → Ot :=
    oSeq (oAsg (sTk (sIf (sTst (s2 gLt (sVar 1) (s1 (gRd lenD) (sVar 0)))) (s2 gIx2 (sVar 0) (sVar 1)) (sC (.int 0)))) (tgN 2))
    (oRet (sLst (lCons (s2 gMax2 (sC (.int 0)) (s2 gSub (sVar 2) (s2 gPowW (sC (.int 10)) (sC (.int 18))))) (lCons (s2 gAdd (s2 gAdd (s2 gMod (s1 (gRd intD) (s1 (gRd absD) (sVar 2))) (s2 gAdd (s2 gPowW (sC (.int 10)) (sC (.int 31))) (sC (.int 33)))) (s2 gMulX (sC (.int 6700417)) (sVar 1))) (sC (.int 257))) (lCons (sC (.int 0)) (lNil))))))
def F__law_well : List Sl → FR := fnRun 2 3 [] B__law_well
def n__law_well (a0 : (List Int)) (a1 : Int) : Option ((List Int)) :=
    (Option.bind (Option.bind (Option.bind (some a1) fun x2 => Option.bind (Option.bind (some a0) fun x1 => lenL x1) fun x3 => ltI x2 x3) fun x6 => if x6 = true then (Option.bind (some a0) fun x4 => Option.bind (some a1) fun x5 => atL x4 x5) else (some (0 : Int))) fun x7 => (Option.bind (Option.bind (Option.bind (Option.bind (some (0 : Int)) fun x12 => Option.bind (Option.bind (some x7) fun x10 => Option.bind (Option.bind (some (10 : Int)) fun x8 => Option.bind (some (18 : Int)) fun x9 => powW x8 x9) fun x11 => subI x10 x11) fun x13 => maxI2 x12 x13) fun x14 => Option.bind (Option.bind (Option.bind (Option.bind (Option.bind (Option.bind (Option.bind (some x7) fun x15 => absI x15) fun x16 => intI x16) fun x21 => Option.bind (Option.bind (Option.bind (some (10 : Int)) fun x17 => Option.bind (some (31 : Int)) fun x18 => powW x17 x18) fun x19 => Option.bind (some (33 : Int)) fun x20 => addI x19 x20) fun x22 => modI x21 x22) fun x25 => Option.bind (Option.bind (some (6700417 : Int)) fun x23 => Option.bind (some a1) fun x24 => mulI x23 x24) fun x26 => addI x25 x26) fun x27 => Option.bind (some (257 : Int)) fun x28 => addI x27 x28) fun x29 => Option.bind (Option.bind (some (0 : Int)) fun x30 => Option.bind (some ()) fun x32 => some (x30, x32)) fun x33 => some (x29, x33)) fun x34 => some (x14, x34)) fun x31 => some ([(Prod.fst x31), (Prod.fst (Prod.snd x31)), (Prod.fst (Prod.snd (Prod.snd x31)))] : (List Int))) fun x35 => some x35))
theorem V__law_well (a0 : (List Int)) (a1 : Int) : Fun F__law_well (n__law_well a0 a1) [.fz (enc a0), .fz (enc a1)] (fun r : ((List Int)) => ow (r : (List Int))) fun r => [.no, .no] :=
  fun_of (ΓR := fun r => [.aa, .aa, .aa]) (show Bl B__law_well _ _ _ from (bl_ga [.eq (.fz (enc (a0 : (List Int)))), .eq (.fz (enc (a1 : Int))), .eq .no] (by kernel_rfl) (bl_asgV (((pu_if (ts_tst (pu2 Nv.op_lt ((pu_var 1 rfl)).rd ((pu1A Nv.op_len (((pu_var 0 rfl)).rd).ra)).rd)) (pu2 Nv.op_ix2 ((pu_var 0 rfl)).rd ((pu_var 1 rfl)).rd) pu_c)).tkP).ev fun x7 => (bl_ga [.eq (.fz (enc (a0 : (List Int)))), .eq (.fz (enc (a1 : Int))), .eq (.fz (enc (x7 : Int)))] (by kernel_rfl) (bl_retT ((pu_lst (dp_cons ((pu2 Nv.op_max2 (pu_c).rd ((pu2 Nv.op_sub ((pu_var 2 rfl)).rd ((pu2 Nv.op_powW (pu_c).rd (pu_c).rd)).rd)).rd)).tkP (dp_cons ((pu2 Nv.op_add ((pu2 Nv.op_add ((pu2 Nv.op_mod ((pu1A Nv.op_int (((pu1A Nv.op_abs (((pu_var 2 rfl)).rd).ra)).rd).ra)).rd ((pu2 Nv.op_add ((pu2 Nv.op_powW (pu_c).rd (pu_c).rd)).rd (pu_c).rd)).rd)).rd ((pu2 Nv.op_mul (pu_c).rd ((pu_var 1 rfl)).rd)).rd)).rd (pu_c).rd)).tkP (dp_cons (pu_c).tkP dp_nil))) (fun x31 => ([(Prod.fst x31), (Prod.fst (Prod.snd x31)), (Prod.fst (Prod.snd (Prod.snd x31)))] : (List Int))))).ev fun x35 => (rf_eq rfl (.cons .aa (.cons .aa (.cons .aa .nil)))))))))
end P
namespace P
open PySem PySem.Spec PyProof.Rows L2 Hb Nv
open Enc (enc)
def B_is_integer : List Sl → Ot :=
    oSeq (oIf (sOr (sNot (sTru (s1 (gIsi "int") (sVar 0)))) (sTru (s1 (gIsi "bool") (sVar 0)))) (oRet (sC (.bool false))) (oNext))
    (oRet (sAndV (s2 gLe (sVar 1) (sVar 0)) (sOrV (s2 (gIs false) (sVar 2) (sC .none)) (s2 gLe (sVar 0) (sVar 2)))))
def F_is_integer : List Sl → FR := fnRun 3 3 [] B_is_integer
def n_is_integer (a0 : PyData) (a1 : Int) (a2 : (Option Int)) : Option (Bool) :=
    (Option.bind (Option.bind (Option.bind (Option.bind (some a0) fun x1 => isiN "int" x1) fun x3 => some !x3) fun x6 => if x6 = true then some true else (Option.bind (some a0) fun x4 => isiN "bool" x4)) fun x7 => if x7 = true then (Option.bind (some false) fun x8 => some x8) else (Option.bind (Option.bind (Option.bind (some a1) fun x10 => Option.bind (Option.bind (some a0) fun x9 => asIntA x9) fun x11 => leI x10 x11) fun x18 => if x18 = true then (Option.bind (Option.bind (some a2) fun x12 => some (if false = true then Option.isSome x12 else Option.isNone x12)) fun x17 => if x17 = true then some true else (Option.bind (Option.bind (some a0) fun x13 => asIntA x13) fun x15 => Option.bind (Option.bind (some a2) fun x14 => x14) fun x16 => leI x15 x16)) else some false) fun x19 => some x19))
theorem V_is_integer (a0 : PyData) (a1 : Int) (a2 : (Option Int)) : Fun F_is_integer (n_is_integer a0 a1 a2) [.fz (enc a0), .fz (enc a1), .fz (enc a2)] (fun r : (Bool) => .fz (enc (r : Bool))) fun r => [.no, .no, .no] :=
  fun_of (ΓR := fun r => [.aa, .aa, .aa]) (show Bl B_is_integer _ _ _ from (bl_ga [.eq (.fz (enc (a0 : PyData))), .eq (.fz (enc (a1 : Int))), .eq (.fz (enc (a2 : (Option Int))))] (by kernel_rfl) (bl_if (k := fun x7 => x7) ((ts_or (ts_not (ts_truB (((pu1A (Nv.op_isi (T := "int")) (((pu_var 0 rfl)).rd).ra)).rd).ra)) (ts_truB (((pu1A (Nv.op_isi (T := "bool")) (((pu_var 0 rfl)).rd).ra)).rd).ra))).te' (fun x7 => (bl_retS (bl_retV (pu_c).ev fun x8 => (rf_eq rfl (.cons .aa (.cons .aa (.cons .aa .nil))))))) fun x7 => (bl_next (bl_retV ((pu_andV (pu2 Nv.op_le ((pu_var 1 rfl)).rd ((Pu.asI (pu_var 0 rfl))).rd) (pu_orV (pu_isN (n := false) (((pu_var 2 rfl)).rd).ra) (pu2 Nv.op_le ((Pu.asI (pu_var 0 rfl))).rd ((Pu.un (pu_var 2 rfl))).rd)))).ev fun x19 => (rf_eq rfl (.cons .aa (.cons .aa (.cons .aa .nil)))))))))
end P
namespace P
open PySem PySem.Spec PyProof.Rows L2 Hb Nv
open Enc (enc)
def B_need_count : List Sl → Ot :=
    oIf (sNot (sTru (sCall F_is_integer [] (rCons (sTk (sVar 0)) (rCons (sC (.int 1)) (rCons (sTk (sVar 1)) (rNil))))))) (oRaise "InvalidCount") (oNext)
def F_need_count : List Sl → FR := fnRun 2 2 [] B_need_count
def n_need_count (a0 : PyData) (a1 : Int) : Option (Unit) :=
    (Option.bind (Option.bind (Option.bind (Option.bind (some a0) fun x1 => Option.bind (Option.bind (some (1 : Int)) fun x2 => Option.bind (Option.bind (some a1) fun x3 => Option.bind (some ()) fun x4 => some (x3, x4)) fun x5 => some (x2, x5)) fun x6 => some (x1, x6)) fun x7 => n_is_integer ((Prod.fst x7) : PyData) ((Prod.fst (Prod.snd x7)) : Int) ((some (Prod.fst (Prod.snd (Prod.snd x7)))) : (Option Int))) fun x9 => some !x9) fun x10 => if x10 = true then none else some ())
theorem V_need_count (a0 : PyData) (a1 : Int) : Fun F_need_count (n_need_count a0 a1) [.fz (enc a0), .fz (enc a1)] (fun r : (Unit) => .fz (enc (r : Unit))) fun r => [.no, .no] :=
  fun_of (ΓR := fun r => [.aa, .aa]) (show Bl B_need_count _ _ _ from (bl_ga [.eq (.fz (enc (a0 : PyData))), .eq (.fz (enc (a1 : Int)))] (by kernel_rfl) (bl_last (bl_if (k := fun x10 => x10) ((ts_not (ts_truB (((pu_call (ap_cons ((pu_var 0 rfl)).tkP (ap_cons pu_c (ap_cons ((pu_var 1 rfl)).tkP ap_nil))) (fun x7 => V_is_integer ((Prod.fst x7) : PyData) ((Prod.fst (Prod.snd x7)) : Int) ((some (Prod.fst (Prod.snd (Prod.snd x7)))) : (Option Int))))).rd).ra))).te' (fun x10 => bl_bad) fun x10 => (bl_next (bl_end (rf_nx rfl (.cons .aa (.cons .aa .nil)))))))))
end P
namespace P
open PySem PySem.Spec PyProof.Rows L2 Hb Nv
open Enc (enc)
def B_need_people : List Sl → Ot :=
    oSeq (oDrop (sCall F_need_count [] (rCons (sTk (sVar 0)) (rCons (sTk (sC (.int 6))) (rNil)))))
    (oIf (sNot (sTru (sCall F_is_integer [] (rCons (sTk (sVar 1)) (rCons (sC (.int 1)) (rCons (sTk (sC (.int 5))) (rNil))))))) (oRaise "InvalidPeople") (oNext))
def F_need_people : List Sl → FR := fnRun 2 2 [] B_need_people
def n_need_people (a0 : Int) (a1 : Int) : Option (Unit) :=
    (Option.bind (Option.bind (Option.bind (some a0) fun x1 => Option.bind (Option.bind (some (6 : Int)) fun x2 => Option.bind (some ()) fun x3 => some (x2, x3)) fun x4 => some (x1, x4)) fun x5 => n_need_count ((enc ((Prod.fst x5) : Int)) : PyData) ((Prod.fst (Prod.snd x5)) : Int)) fun x6 => (Option.bind (Option.bind (Option.bind (Option.bind (some a1) fun x7 => Option.bind (Option.bind (some (1 : Int)) fun x8 => Option.bind (Option.bind (some (5 : Int)) fun x9 => Option.bind (some ()) fun x10 => some (x9, x10)) fun x11 => some (x8, x11)) fun x12 => some (x7, x12)) fun x13 => n_is_integer ((enc ((Prod.fst x13) : Int)) : PyData) ((Prod.fst (Prod.snd x13)) : Int) ((some (Prod.fst (Prod.snd (Prod.snd x13)))) : (Option Int))) fun x15 => some !x15) fun x16 => if x16 = true then none else some ()))
theorem V_need_people (a0 : Int) (a1 : Int) : Fun F_need_people (n_need_people a0 a1) [.fz (enc a0), .fz (enc a1)] (fun r : (Unit) => .fz (enc (r : Unit))) fun r => [.no, .no] :=
  fun_of (ΓR := fun r => [.aa, .aa]) (show Bl B_need_people _ _ _ from (bl_ga [.eq (.fz (enc (a0 : Int))), .eq (.fz (enc (a1 : Int)))] (by kernel_rfl) (bl_expr ((pu_call (ap_cons ((pu_var 0 rfl)).tkP (ap_cons (pu_c).tkP ap_nil)) (fun x5 => V_need_count ((enc ((Prod.fst x5) : Int)) : PyData) ((Prod.fst (Prod.snd x5)) : Int)))).ev fun x6 => (bl_ga [.eq (.fz (enc (a0 : Int))), .eq (.fz (enc (a1 : Int)))] (by kernel_rfl) (bl_last (bl_if (k := fun x16 => x16) ((ts_not (ts_truB (((pu_call (ap_cons ((pu_var 1 rfl)).tkP (ap_cons pu_c (ap_cons (pu_c).tkP ap_nil))) (fun x13 => V_is_integer ((enc ((Prod.fst x13) : Int)) : PyData) ((Prod.fst (Prod.snd x13)) : Int) ((some (Prod.fst (Prod.snd (Prod.snd x13)))) : (Option Int))))).rd).ra))).te' (fun x16 => bl_bad) fun x16 => (bl_next (bl_end (rf_nx rfl (.cons .aa (.cons .aa .nil)))))))))))
end P
namespace P
open PySem PySem.Spec PyProof.Rows L2 Hb Nv
open Enc (enc)
def B_are_places : List Sl → Ot :=
    oRet (sAndV (s1 (gIsi "list") (sVar 1)) (sAndV (s2 gEq (s1 (gRd lenD) (sVar 1)) (sVar 2)) (s1 (gRd (overB fun ns => some (.bool (ns.all id)))) (sLc false (wSeq (sVar 1)) [3] (tgN 3) (tOk) (sTk (sCall F_is_integer [] (rCons (sTk (sVar 3)) (rCons (sC (.int 0)) (rCons (sTk (s2 gSub (sVar 0) (sC (.int 1)))) (rNil))))))))))
def F_are_places : List Sl → FR := fnRun 3 4 [] B_are_places
def n_are_places (a0 : Int) (a1 : (List Int)) (a2 : Int) : Option (Bool) :=
    (Option.bind (Option.bind (Option.bind (Option.bind (some a1) fun x1 => some (enc (x1 : (List Int)))) fun x2 => isiN "list" x2) fun x19 => if x19 = true then (Option.bind (Option.bind (Option.bind (some a1) fun x3 => lenL x3) fun x4 => Option.bind (some a2) fun x5 => eqN x4 x5) fun x18 => if x18 = true then (Option.bind (Option.bind (some a1) fun x6 => if List.length (x6) ≤ cap then mapF x6 (fun x7 => (some true)) (fun x7 => (Option.bind (Option.bind (some x7) fun x8 => Option.bind (Option.bind (some (0 : Int)) fun x9 => Option.bind (Option.bind (Option.bind (some a0) fun x10 => Option.bind (some (1 : Int)) fun x11 => subI x10 x11) fun x12 => Option.bind (some ()) fun x13 => some (x12, x13)) fun x14 => some (x9, x14)) fun x15 => some (x8, x15)) fun x16 => n_is_integer ((enc ((Prod.fst x16) : Int)) : PyData) ((Prod.fst (Prod.snd x16)) : Int) ((some (Prod.fst (Prod.snd (Prod.snd x16)))) : (Option Int)))) else none) fun x17 => allB x17) else some false) else some false) fun x20 => some x20)
theorem V_are_places (a0 : Int) (a1 : (List Int)) (a2 : Int) : Fun F_are_places (n_are_places a0 a1 a2) [.fz (enc a0), .fz (enc a1), .fz (enc a2)] (fun r : (Bool) => .fz (enc (r : Bool))) fun r => [.no, .no, .no] :=
  fun_of (ΓR := fun r => [.aa, .aa, .aa, .aa]) (show Bl B_are_places _ _ _ from (bl_ga [.eq (.fz (enc (a0 : Int))), .eq (.fz (enc (a1 : (List Int)))), .eq (.fz (enc (a2 : Int))), .eq .no] (by kernel_rfl) (bl_retV ((pu_andV (pu1A (Nv.op_isi (T := "list")) (((Pu.any (pu_var 1 rfl))).rd).ra) (pu_andV (pu2A Nv.op_eq (((pu1A Nv.op_len (((pu_var 1 rfl)).rd).ra)).rd).ra (((pu_var 2 rfl)).rd).ra) (pu1A Nv.op_all ((((pu_lc (vs := [3]) (ip_seq (xs := fun v => v) ((pu_var 1 rfl)).tkP) rfl rfl (fun x6 x7 => tg_n) (fun x6 x7 => (ts_ga [.eq (.fz (enc (a0 : Int))), .eq (.fz (enc (a1 : (List Int)))), .eq (.fz (enc (a2 : Int))), .eq (.fz (enc (x7 : Int)))] (by kernel_rfl) ts_ok)) fun x6 x7 => (pu_ga [.eq (.fz (enc (a0 : Int))), .eq (.fz (enc (a1 : (List Int)))), .eq (.fz (enc (a2 : Int))), .eq (.fz (enc (x7 : Int)))] (by kernel_rfl) ((pu_call (ap_cons ((pu_var 3 rfl)).tkP (ap_cons pu_c (ap_cons ((pu2 Nv.op_sub ((pu_var 0 rfl)).rd (pu_c).rd)).tkP ap_nil))) (fun x16 => V_is_integer ((enc ((Prod.fst x16) : Int)) : PyData) ((Prod.fst (Prod.snd x16)) : Int) ((some (Prod.fst (Prod.snd (Prod.snd x16)))) : (Option Int))))).tkP))).rdT ow_tree)).ra)))).ev fun x20 => (rf_eq rfl (.cons .aa (.cons .aa (.cons .aa (.cons .aa .nil))))))))
end P
namespace Hb
open PySem PySem.Spec PyProof.Rows L2
end Hb
namespace Nv
open PySem Hb L2
open Enc (enc)
section
variable {α β γ ε ρ ζ : Type} {f g : List Sl → Rs AV} {Γ : Ga}
theorem tk_callM {F : List Sl → FR} {dd : List PyData} {q : Option β} {as : β → List Ar} {n : β → Option ρ} {ins : β → List Sl} {d : ρ → PyData} {out : ρ → List Sl} {g : List Sl → Rs (List Ar)} (hg : AgP g Γ q as) (hF : ∀ v, FunM F (n v) (ins v) d out) (hi : ∀ v, insOf (as v ++ dd.map .fz) = some (ins v) := by intro _; rfl) : Pu (sTk (sCall F dd g)) Γ (q.bind n) fun r => .val (d r) := fun r e δ s => by
  obtain ⟨v, e1, e⟩ := bind_of e
  obtain ⟨t, hF1, hF2⟩ := hF v r e
  have h1 : sCall F dd g δ = .ok (AV.ofSl t) δ := by
    unfold sCall
    rw [hg v e1 δ s]
    exact callF_pure (hi v) hF1
  have h4 := tr_tree hF2
  have h5 : sSt (sCall F dd g) δ = .ok (.val (d r)) δ := by
    cases t with
    | fz d' => cases h4; exact sSt_val h1
    | ol xs => exact sSt_tmp h1 h4
    | od x => exact sSt_tmp h1 h4
    | no => cases h4
    | al x j => cases h4
    | ex e => exact sSt_tmp h1 h4
  unfold sTk
  rw [h5]
end
end Nv
namespace Hb
open PySem PySem.Spec PyProof.Rows L2
end Hb
namespace Nv
open PySem Hb L2
open Enc (enc)
end Nv
namespace Hb
open PySem PySem.Spec PyProof.Rows L2
section
variable {X : Cx}
theorem dictSet_T {pins : List (Addr × Obj)} {σ : L2.St} {H : Hp} {s : Shared} {E : Value → Shared → Prop} {D b : Addr} {kvs : List (List Key × V)} {k : List Key} {v : V} {r : Value} {Q : Unit → Shared → Prop} {Z : Hp}
    (room : X.A.units < cLine) (I : Inv X pins σ H s) (le : Same Z H) (eD : DP Z H D kvs) (hk : k.all isI = true) (eb : TP Z b (k.map kV)) (lt : kvs.length < sizeLine) (rv : RelV v r)
    (fin : ∀ t o, DP Z (upd H D o) D (putK kvs k v) → Inv X pins σ (upd H D o) t → Q () t) : wpAny (model X.prog X.w) X.A (dictSet D (.ref b) r) Q E s := by
  obtain ⟨_, nm, xs, kt, dd⟩ := dp_of I.hok le (.inl eD)
  have lx : xs.length ≤ sizeLine := by have := Paired.length kt; omega
  refine wpAny_dictSet_heap (hsz := lx) room (key_ofP I.hok (eb.mono le)) dd fun h2 d2 same => ?_
  obtain ⟨_, J, dp⟩ := write_P (t := s.toks + (tupleKind (mixKind X.prog X.w)).draws k) I eD.mut nm kt hk eb rv lt d2 same
  exact fin _ _ dp J
/-- the dict grows by one turn's pair -/
def PutT (D : Addr) (Nx : Hp → Prop) (y z : V) (H : Hp) : Prop := ∃ Z kvs k b, Same Z H ∧ y = .ref b ∧ k.all isI = true ∧ TP Z b (k.map kV) ∧ DP Z H D kvs ∧ kvs.length < sizeLine ∧ ∀ o, DP Z (upd H D o) D (putK kvs k z) → Nx (upd H D o)
def tDcT (wi : TI) (g : TG) (tt : TT) (tk tv : TE) (vs : List Nat) : TE := fun σ H Q => wi σ H fun J H1 => ∀ D, H1 D = none → ∃ Wt : Nat → Nat → Hp → Prop, (∃ m, Wt 0 m (upd H1 D (dPO D 0 []))) ∧ ∀ i m H2, Wt i m H2 →
  (J.stop i H2 ∧ Q (.ref D) H2) ∨ (J.go i H2 ∧ ∃ Nx : Hp → Prop, (∀ H3, Nx H3 → ∃ m', m' < m ∧ Wt (i + 1) m' H3) ∧ ∀ x H3, J.yld i H2 x H3 → g x (wipe σ vs) H3 fun σ4 H4 => wipe σ4 vs = wipe σ vs ∧ tt σ4 H4 fun c H5 =>
    if c = true then tk σ4 H5 fun y H6 => tv σ4 H6 fun z H7 => PutT D Nx y z H7 else Nx H5)
variable {kx vx tg iter : Expr} {ifs : List Expr} {scope : Scope} {own : List (Str × Nat)} {pos : Pos} {wi : TI} {g : TG} {tt : TT} {tk tv : TE}
/-- where the block's names lie -/
abbrev cellsOf (X : Cx) (scope : Scope) (n : Nat) : List (Str × Addr) := cellsFrom (n + 1) scope.names (cloFrom X.env.cells scope.names [])
theorem pe_dcT (room : X.A.units < cLine) (calm : X.calm = true) (nd : X.N.Nodup) (hi : PI X tg iter wi) (ok : BlkOk X.N X.env.scope scope own)
    (hg : ∀ (u : Shared) (G : Hp) (C : Addr) (cl : List (Str × Addr)) (fp : List Addr), PG (BX X scope u G C cl fp) tg g) (ht : ∀ (u : Shared) (G : Hp) (C : Addr) (cl : List (Str × Addr)) (fp : List Addr), PTs (BX X scope u G C cl fp) ifs tt)
    (hk : ∀ (u : Shared) (G : Hp) (C : Addr) (cl : List (Str × Addr)) (fp : List Addr), PE (BX X scope u G C cl fp) kx tk) (hv : ∀ (u : Shared) (G : Hp) (C : Addr) (cl : List (Str × Addr)) (fp : List Addr), PE (BX X scope u G C cl fp) vx tv)
    (fold : ∀ z, foldedSetIterable iter X.env z = pure z := by intro _; rfl) : PE X (.DictComp kx vx [⟨tg, iter, ifs, 0⟩] scope pos) (tDcT wi g tt tk tv (own.map (·.2))) := by
  refine ⟨fun pins s0 σ H Q I0 w => ?_⟩
  rw [arm_eval_DictComp]
  have free : ∀ y ∈ scope.names, y.2 = .free → ∃ c, X.env.cells.lookup y.1 = some c := fun y hy e => I0.ok.has _ ((ok.free y hy e).elim .inl .inr)
  refine wpAny_comprehension_free (use := none) rfl fold (closure_ok free) ok.kind (fun y hy e => by rw [ok.uniq y hy, e]) ?_
  refine thn (hi.run pins s0 σ H _ I0 w) fun xv u1 hx => thn hx fun itv u2 h2 => ?_
  obtain ⟨it, fp, tn, J, H1, rfl, I1, T, at0, fps, q⟩ := h2
  refine wpAny_newObj_type (newEnv_comp ?_)
  generalize eD : u2.heap.objs.size = D
  have newD : H1 D = none := I1.hok.fresh (Nat.le_of_eq eD)
  obtain ⟨Wt, ⟨m0, w0⟩, turn⟩ := q D newD
  generalize eu3 : ({ u2 with heap := u2.heap.push { cls := .type "dict", data := .dict #[] } } : Shared) = u3
  have h3 : u3.heap = u2.heap.push { cls := .type "dict", data := .dict #[] } := by rw [← eu3]
  have I3 : Inv X pins σ (upd H1 D (dPO D 0 [])) u3 := by
    subst eu3
    refine I1.laid (t' := u2.toks) (fun _ _ e => Heap.get?_push_of_some _ e) (Nat.le_of_eq eD) ?_
    subst eD
    exact dp_empty u2.heap I1.big
  have small : ∀ b ∈ fp, b < u2.heap.objs.size := fun b hb => Heap.lt_size (T.obj _ _ at0 b hb).choose_spec.1
  have fps3 : ∀ b ∈ fp, FpOk X pins (upd H1 D (dPO D 0 [])) b ∧ b < u3.heap.objs.size := fun b hb => by
    have l := small b hb
    have ne : b ≠ D := by rw [← eD]; exact Nat.ne_of_lt l
    exact ⟨⟨by rw [upd_ne ne]; exact (fps b hb).1, (fps b hb).2⟩, by rw [h3, Heap.size_push]; exact Nat.lt_succ_of_lt l⟩
  have at3 : tn 0 u3.heap := T.keep _ _ _ at0 fun _ _ _ e => by rw [h3]; exact Heap.get?_push_of_some _ e
  have I4 := block_start I3 ok nd fps3
  generalize eH3 : upd H1 D (dPO D 0 []) = H3 at I3 I4 w0 fps3
  generalize eC : u3.heap.objs.size = C at I4 fps3
  subst eC
  have pg : PG (X.blk u3 H3 scope (compEnvC scope (cellsOf X scope u3.heap.objs.size) u3.heap.objs.size X.env) fp) tg g := hg u3 H3 u3.heap.objs.size (cellsOf X scope u3.heap.objs.size) fp
  have pt : PTs (X.blk u3 H3 scope (compEnvC scope (cellsOf X scope u3.heap.objs.size) u3.heap.objs.size X.env) fp) ifs tt := ht u3 H3 u3.heap.objs.size (cellsOf X scope u3.heap.objs.size) fp
  have pk : PE (X.blk u3 H3 scope (compEnvC scope (cellsOf X scope u3.heap.objs.size) u3.heap.objs.size X.env) fp) kx tk := hk u3 H3 u3.heap.objs.size (cellsOf X scope u3.heap.objs.size) fp
  have pv : PE (X.blk u3 H3 scope (compEnvC scope (cellsOf X scope u3.heap.objs.size) u3.heap.objs.size X.env) fp) vx tv := hv u3 H3 u3.heap.objs.size (cellsOf X scope u3.heap.objs.size) fp
  show codeAny _ _ (.compStart (.DictComp kx vx [⟨tg, iter, ifs, 0⟩] scope pos) 0 (.ref it) (.ref D) (compEnvC scope (cellsOf X scope u3.heap.objs.size) u3.heap.objs.size X.env)) (compPost (model X.prog X.w) X.A X.xe none _ (.ref D) u3.heap.objs.size) { u3 with heap := pushCells (u3.heap.push { cls := .type "dict", data := .dict #[] }) scope.names }
  have off : ∀ b ∈ fp, H3 b = none := fun b hb => (fps3 b hb).1.1
  generalize eE : compEnvC scope (cellsOf X scope u3.heap.objs.size) u3.heap.objs.size X.env = ce at I4 pg pt pk pv ⊢
  have loc : ce.locals = u3.heap.objs.size := by subst eE; rfl
  generalize eu4 : ({ u3 with heap := pushCells (u3.heap.push { cls := .type "dict", data := .dict #[] }) scope.names } : Shared) = u4 at I4 ⊢
  have at4 : tn 0 u4.heap := T.keep _ _ _ at3 fun _ _ _ e => by rw [← eu4]; exact pushCells_keeps _ _ _ _ (Heap.get?_push_of_some _ e)
  have foot : ∀ {τ : L2.St} {G : Hp} {u : Shared}, Inv (X.blk u3 H3 scope ce fp) [] τ G u → (∀ b ∈ fp, G b = none) → ∀ b ∈ fp, FpOk (X.blk u3 H3 scope ce fp) [] G b := fun {τ G u} J0 n0 b hb =>
    ⟨n0 b hb, (J0.ok.exf b hb).1, J0.ok.exfs b hb, .inl hb, fun x c e => (J0.ok.exf b hb).2 x c e, fun z hz => absurd (show z ∈ ([] : List (Addr × Obj)) ++ [] from hz) (by simp)⟩
  let At : Nat → Shared → Prop := fun n u => ∃ i G, Inv (X.blk u3 H3 scope ce fp) [] (wipe σ (own.map (·.2))) G u ∧ tn i u.heap ∧ (∀ b ∈ fp, G b = none) ∧ Wt i n G
  refine codeAny_compStart_dict ?_ (T.self X.A 0 _ _ _ at4 ?_)
  all_goals
    refine compLoop_anyD At ?_ m0 ⟨0, H3, I4, at4, off, w0⟩
    rintro n u5 ⟨i, G5, I5, at5, off5, w5⟩
    rcases turn i n G5 w5 with ⟨stop, done⟩ | ⟨go, Nx, next, step⟩
    · refine thnF (T.done (X.blk u3 H3 scope ce fp) rfl rfl rfl calm i [] u5 _ G5 (fun _ _ => False) I5 (foot I5 off5) at5 stop) fun r u6 ⟨er, I6⟩ => ?_
      subst er
      have I7 : Inv X pins σ G5 u6 := I3.call' (ch := fp) I6.os I6.base I6.hok I6.bare fun b hb => let z := (fps3 b hb).1.2; ⟨z.2.2.1, z.1, z.2.2.2.1, z.2.2.2.2⟩
      have gone : G5 u3.heap.objs.size = none := by rw [← loc]; exact I6.free
      obtain ⟨m, ns, _⟩ := I6.loc
      have ns : u6.heap.Ns ce.locals m := ns
      rw [loc] at ns
      refine ⟨m, ns, fun h8 same => ?_⟩
      obtain ⟨a0, a1, a2, a3, a4, a5⟩ := I3.fpOk (Nat.le_refl _) gone
      exact ⟨.ref D, G5, I7.turned (t' := u6.toks) (fun b o hb e => (same.2 b hb).trans e) a0 a1 a3 a4 a5, rfl, done⟩
    · refine thnF (T.item (X.blk u3 H3 scope ce fp) rfl rfl rfl calm i [] u5 _ G5 (fun _ _ => False) I5 (foot I5 off5) at5 go) fun r u6 ⟨u, er, h6⟩ => ?_
      subst er
      refine thnF h6 fun _ u7 ⟨x, G7, I7, r7, y7, at7, off7⟩ => ?_
      have I7' := I7.pinned (foot I7 off7) (T.obj _ _ at7)
      refine thnF (pg.run _ u7 _ G7 x u _ I7' r7 (step x G7 y7)) fun _ u8 ⟨τ, G8, I8, wp8, q8⟩ => ?_
      refine thnF (pt.run _ u8 τ G8 _ I8 q8) fun c u9 ⟨G9, I9, q9⟩ => ?_
      have fin : ∀ {u : Shared} {G : Hp}, Inv (X.blk u3 H3 scope ce fp) ([] ++ pinsAt fp u7.heap) τ G u → Nx G → ∃ m, m < n ∧ At m u := fun {u G} I' nx => by
        obtain ⟨m', lt, w'⟩ := next G nx
        have kept : ∀ b ∈ fp, ∀ o, u7.heap.get? b = some o → u.heap.get? b = some o ∧ G b = none := fun b hb o e =>
          have z := I'.pin (b, o) (List.mem_append_right _ (List.mem_append_right _ (mem_pinsAt hb e)))
          ⟨z.1, z.2.1⟩
        refine ⟨m', lt, i + 1, G, (I'.unpinned (pins := [])).weak (by rw [← wp8, wipe_length]) (fun j v e => ?_), T.keep _ _ _ at7 fun b hb o e => (kept b hb o e).1, fun b hb => ?_, w'⟩
        · rw [← wp8] at e
          exact (wipe_some e).1
        · obtain ⟨o, e, _⟩ := T.obj _ _ at7 b hb
          exact (kept b hb o e).2
      cases c with
      | false =>
        simp only [Bool.false_eq_true, if_false] at q9 ⊢
        exact fin I9 q9
      | true =>
        simp only [if_true] at q9 ⊢
        refine thnF (pk.run _ u9 τ G9 _ I9 q9) fun z u10 ⟨yk, G10, I10, r10, q10⟩ => ?_
        refine thnF (pv.run _ u10 τ G10 _ I10 q10) fun z2 u11 ⟨yv, G11, I11, r11, Z, kvs, k, b, le, ek, hk, hb, hD, lt, nx⟩ => ?_
        subst ek
        cases (show z = Value.ref b from r10)
        exact dictSet_T (X := X.blk u3 H3 scope ce fp) room I11 le hD hk hb lt r11 fun u12 o dp I12 => fin I12 (nx o dp)
end
end Hb
namespace Hb
open PySem PySem.Spec PyProof.Rows L2
theorem ArOk.grow {K : PySem.W.Frag} {b : Bk} {Fz : Hp} {F : Nat → List Addr} {H H' : Hp} {σ : L2.St} {vs : List V} {ars : List Ar} {G : Nat → List Addr} (A : ArOk K b Fz F H σ vs ars G) (up : Same H H') : ArOk K b Fz F H' σ vs ars G where
  len := A.len
  at_ := fun j a e => by
    obtain ⟨v, e1, h⟩ := A.at_ j a e
    refine ⟨v, e1, ?_⟩
    cases a with
    | fz d => exact h
    | io k => exact h
    | own s =>
      obtain ⟨h1, h2⟩ := h
      refine ⟨h1, h2.keeps (Same.refl _) (fun c hc => ?_) fun x i _ c z => nomatch z⟩
      cases q : H c with
      | none => exact absurd q (A.off j c hc).2.2.1
      | some o => exact up c o q
  nd := A.nd
  dj := A.dj
  off := fun j c hc => by
    obtain ⟨h1, h2, h3, h4⟩ := A.off j c hc
    refine ⟨h1, h2, ?_, h4⟩
    cases q : H c with
    | none => exact absurd q h3
    | some o => rw [up c o q]; simp
theorem par_okT {K : PySem.W.Frag} {mg : Str → Option Value} {W : WX} {pin ks : List Nat} {g : List Sl → Rs (List Ar)} {D : Ends} {σ : L2.St} {H : Hp} (hp : ∀ k ∈ ks, k ∉ pin) : rdS K mg W pin (oPar ks g) D σ H → rdAr K mg W pin g σ H fun vs H' => vs.length = ks.length ∧ ∀ p, H' p = none → D.nx (setL σ ks vs) (upd H' p (.tup vs)) :=
  fun ⟨b, Fz, F, δ, hb, R, P⟩ => by
    refine ⟨b, Fz, F, δ, hb, R, ?_⟩
    unfold oPar at P
    cases q : g δ with
    | bad => rw [q] at P; exact P
    | er x δ' => rw [q] at P; exact PostXS.at_ P
    | ok ars δ' =>
      rw [q] at P
      simp only at P
      by_cases c : noIo ars = true
      · rw [if_pos c] at P
        intro vs H' Fz' F' G s R' A
        have key : ∀ {H2 : Hp}, Same H' H2 → Rl K b Fz' F' δ' σ H2 → vs.length = ks.length ∧ D.nx (setL σ ks vs) H2 := fun {H2} up R2 => by
          have A2 := A.grow up
          exact asgA_ok (U := fun c => ∃ k, c ∈ F' k) (by rw [hb]; exact hp) (fun k c hc => ⟨k, hc⟩) R2 (parOk_of A2.len A2.at_ A2.nd A2.dj (fun j c hc => ⟨(A2.off j c hc).1, (A2.off j c hc).2.1, (A2.off j c hc).2.2.1, fun ⟨k, z⟩ => (A2.off j c hc).2.2.2 k z⟩) c) (PostS.le s P)
        exact ⟨(key (Same.refl _) R').1, fun p n => (key (same_new n) (R'.new n _)).2⟩
      · rw [if_neg c] at P
        exact P.elim
section
variable {X : Cx} {W : WX} {pin : List Nat} {a c e : Expr} {g : List Sl → Rs (List Ar)} {pos : Pos}
theorem ss_parC2 {i j : Nat} {x y : Str} {px py pt : Pos} {kt k2 pt2} (hc : X.calm = true) (hN : X.N.Nodup) (hi : X.N[i]? = some x) (hj : X.N[j]? = some y) (hp : ∀ k ∈ [i, j], k ∉ pin) (hx : Loc X.env.scope x) (hy : Loc X.env.scope y) (ha : SAr X W pin [a, c] g)
    (fx : X.fn x = true ∨ X.env.scope.names.lookup x = some .local := by first | exact .inl rfl | exact .inr rfl | assumption) (fy : X.fn y = true ∨ X.env.scope.names.lookup y = some .local := by first | exact .inl rfl | exact .inr rfl | assumption)
    (hs : swapsWithSole [.Tuple [.Name x px, .Name y py] kt pt] (.Tuple [a, c] k2 pt2) pos.line X.env = pure false := by rfl) (hw : swappedStores [.Tuple [.Name x px, .Name y py] kt pt] (.Tuple [a, c] k2 pt2) X.env = pure none := by rfl)
    (h1 : (assignEach [.Tuple [.Name x px, .Name y py] kt pt] X.env).map (·.2) = [assign (.Tuple [.Name x px, .Name y py] kt pt) X.env] := by rfl)
    (c1 : (assignEach [.Name x px, .Name y py] X.env).map (·.2) = assign (.Name x px) X.env :: (assignEach [.Name y py] X.env).map (·.2) := by rfl) (c2 : (assignEach [.Name y py] X.env).map (·.2) = assign (.Name y py) X.env :: (assignEach [] X.env).map (·.2) := by rfl)
    (hn : (assignEach [.Name x px, .Name y py] X.env).length = 2 := by rfl) (hst : (assignEach [.Name x px, .Name y py] X.env).findIdx? (·.1) = none := by rfl) :
    SS X W pin (.Assign [.Tuple [.Name x px, .Name y py] kt pt] (.Tuple [a, c] k2 pt2) pos) (oPar [i, j] g) :=
  ps_mono (ps_asg (pe_tup ha) (pg_tup hc (pgs_cons (pg_name hN hi hx fx) (pgs_cons (pg_name hN hj hy fy) pgs_nil c2) c1) hn hst) hs hw h1) fun D σ H h => by
  obtain ⟨b, Fz, F, δ, hb, R, P⟩ := par_okT hp h
  refine ⟨b, Fz, F, δ, hb, R, ?_⟩
  cases q : g δ with
  | bad => rw [q] at P; exact P
  | er x δ' => rw [q] at P; exact P
  | ok ars δ' =>
    rw [q] at P
    intro vs H' Fz' F' G s R' A
    obtain ⟨hl, q⟩ := P vs H' Fz' F' G s R' A
    match vs, hl with
    | [v, w], _ => exact ⟨by show 2 ≤ 2 ^ 24; omega, fun p n => ⟨p, [v, w], rfl, .inl (.inl upd_same), rfl, v, [w], rfl, w, [], rfl, rfl, q p n⟩⟩
end
end Hb
namespace Nv
open PySem Hb L2
open Enc (enc)
/-- a turn: on, or out with more -/
inductive Fb (σ τ : Type) where
  | nx (s : σ) | bk (t : τ)
end Nv
namespace Hb
open PySem PySem.Spec PyProof.Rows L2
end Hb
namespace Nv
open PySem Hb L2
open Enc (enc)
end Nv
namespace Hb
open PySem PySem.Spec PyProof.Rows L2
/-- an int as a key -/
def keyI : PyData → Option Key
  | .int i => some (.inl i)
  | _ => none
theorem keyI_D {k : Key} (h : isI k = true) : keyI (kD k) = some k := by
  cases k with
  | inl i => rfl
  | inr x => cases h
theorem keyI_eq {d : PyData} {k : Key} (h : keyI d = some k) : isI k = true ∧ d = kD k := by
  cases d <;> cases h
  exact ⟨rfl, rfl⟩
def keysOf : List PyData → Option (List Key)
  | [] => some []
  | d :: r => (keyI d).bind fun k => (keysOf r).map (k :: ·)
def keyT : PyData → Option (List Key)
  | .tuple ds => keysOf ds
  | _ => none
theorem keysOf_D : ∀ {ks : List Key}, ks.all isI = true → keysOf (ks.map kD) = some ks
  | [], _ => rfl
  | k :: r, h => by
    rw [List.all_cons, Bool.and_eq_true] at h
    show (keyI (kD k)).bind _ = _
    rw [keyI_D h.1]
    show (keysOf (r.map kD)).map (k :: ·) = _
    rw [keysOf_D h.2]
    rfl
theorem keysOf_eq : ∀ {ds : List PyData} {ks : List Key}, keysOf ds = some ks → ks.all isI = true ∧ ds = ks.map kD
  | [], ks, h => by cases h; exact ⟨rfl, rfl⟩
  | d :: r, ks, h => by
    have h : ((keyI d).bind fun k => (keysOf r).map (k :: ·)) = some ks := h
    obtain ⟨k, e1, e2⟩ := Option.bind_eq_some_iff.mp h
    obtain ⟨t, e3, rfl⟩ := Option.map_eq_some_iff.mp e2
    obtain ⟨i1, f1⟩ := keyI_eq e1
    obtain ⟨i2, f2⟩ := keysOf_eq e3
    rw [f1, f2]
    exact ⟨by rw [List.all_cons, i1, i2]; rfl, rfl⟩
theorem keyT_D {ks : List Key} (h : ks.all isI = true) : keyT (.tuple (ks.map kD)) = some ks := keysOf_D h
theorem keyT_eq {d : PyData} {ks : List Key} (h : keyT d = some ks) : d = .tuple (ks.map kD) := by
  cases d <;> first | (rw [(keysOf_eq (show keysOf _ = some ks from h)).2]) | cases h
theorem keyT_I {d : PyData} {ks : List Key} (h : keyT d = some ks) : ks.all isI = true := by
  cases d <;> first | exact (keysOf_eq (show keysOf _ = some ks from h)).1 | cases h
def lookKT (kvs : List (PyData × PyData)) (k : List Key) : Option PyData := (kvs.find? fun p => decide (keyT p.1 = some k)).map (·.2)
def putT (kvs : List (PyData × PyData)) (k : List Key) (d : PyData) : List (PyData × PyData) :=
  if (kvs.any fun p => decide (keyT p.1 = some k)) = true then kvs.map (fun p => if keyT p.1 = some k then (p.1, d) else p) else kvs ++ [(.tuple (k.map kD), d)]
section
variable {K : PySem.W.Frag} {H : Hp}
theorem RpT.look : ∀ {ws : List (List Key × V)} {kvs : List (PyData × PyData)} {k : List Key} {d : PyData}, RpT K H ws kvs → lookKT kvs k = some d → ∃ v, valV ws k = some v ∧ Rp K H v d
  | _, _, k, d, .nil, h => by cases h
  | _, _, k, d, .cons (k := k0) (v := v0) (vs := ws) (d := d0) (ds := kvs) hi r t, h => by
    unfold lookKT at h
    rw [List.find?_cons] at h
    rw [keyT_D hi] at h
    by_cases c : k0 = k
    · rw [decide_eq_true (by rw [c])] at h
      cases h
      exact ⟨v0, valV_pos (p := (k0, v0)) c, r⟩
    · have hn : ¬ some k0 = some k := fun z => c (Option.some.inj z)
      rw [decide_eq_false hn] at h
      obtain ⟨v, e1, e2⟩ := RpT.look t h
      exact ⟨v, by rw [valV_neg (p := (k0, v0)) c]; exact e1, e2⟩
theorem RpT.none : ∀ {ws : List (List Key × V)} {kvs : List (PyData × PyData)} {k : List Key}, RpT K H ws kvs → lookKT kvs k = .none → valV ws k = .none
  | _, _, k, .nil, h => rfl
  | _, _, k, .cons (k := k0) (v := v0) (vs := ws) (d := d0) (ds := kvs) hi r t, h => by
    unfold lookKT at h
    rw [List.find?_cons] at h
    rw [keyT_D hi] at h
    by_cases c : k0 = k
    · rw [decide_eq_true (by rw [c])] at h
      cases h
    · have hn : ¬ some k0 = some k := fun z => c (Option.some.inj z)
      rw [decide_eq_false hn] at h
      rw [valV_neg (p := (k0, v0)) c]
      exact RpT.none t h
theorem RpT.isSome {ws : List (List Key × V)} {kvs : List (PyData × PyData)} (k : List Key) (t : RpT K H ws kvs) : (valV ws k).isSome = (lookKT kvs k).isSome := by
  cases q : lookKT kvs k with
  | none => rw [t.none q]; rfl
  | some d =>
    obtain ⟨v, e, _⟩ := t.look q
    rw [e]
    rfl
theorem RpT.any : ∀ {ws : List (List Key × V)} {kvs : List (PyData × PyData)} (k : List Key), RpT K H ws kvs → (ws.any fun kv => decide (kv.1 = k)) = kvs.any fun p => decide (keyT p.1 = some k)
  | _, _, k, .nil => rfl
  | _, _, k, .cons (k := k0) hi r t => by
    rw [List.any_cons, List.any_cons, RpT.any k t, keyT_D hi]
    congr 1
    by_cases c : k0 = k <;> simp [c]
theorem RpT.app : ∀ {ws us : List (List Key × V)} {kvs lvs : List (PyData × PyData)}, RpT K H ws kvs → RpT K H us lvs → RpT K H (ws ++ us) (kvs ++ lvs)
  | _, _, _, _, .nil, s => s
  | _, _, _, _, .cons hi r t, s => .cons hi r (RpT.app t s)
theorem RpT.mapk {v : V} {d : PyData} (h : Rp K H v d) (k : List Key) : ∀ {ws : List (List Key × V)} {kvs : List (PyData × PyData)}, RpT K H ws kvs → RpT K H (ws.map fun kv => if kv.1 = k then (kv.1, v) else kv) (kvs.map fun p => if keyT p.1 = some k then (p.1, d) else p)
  | _, _, .nil => .nil
  | _, _, .cons (k := k0) (v := v0) hi r t => by
    rw [List.map_cons, List.map_cons]
    have ih := RpT.mapk h k t
    by_cases c : k0 = k
    · rw [if_pos (show (k0, v0).1 = k from c), if_pos (show keyT (.tuple (k0.map kD)) = some k by rw [keyT_D hi, c])]
      exact .cons hi h ih
    · rw [if_neg (show ¬ (k0, v0).1 = k from c), if_neg (show ¬ keyT (.tuple (k0.map kD)) = some k by rw [keyT_D hi]; exact fun z => c (Option.some.inj z))]
      exact .cons hi r ih
theorem RpT.put {ws : List (List Key × V)} {kvs : List (PyData × PyData)} {v : V} {d : PyData} (t : RpT K H ws kvs) (h : Rp K H v d) {k : List Key} (hk : k.all isI = true) : RpT K H (putK ws k v) (putT kvs k d) := by
  unfold putK putT
  rw [RpT.any k t]
  by_cases c : (kvs.any fun p => decide (keyT p.1 = some k)) = true
  · rw [if_pos c, if_pos c]
    exact RpT.mapk h k t
  · rw [if_neg c, if_neg c]
    exact t.app (.cons hk h .nil)
/-- the items of a key -/
theorem rpl_keys : ∀ {ks : List Key} {vs : List V}, RpL K H vs (ks.map kD) → vs = ks.map kV
  | [], _, .nil => rfl
  | .inl i :: ks, _, .cons r t => by
    cases r
    rw [rpl_keys t]
    rfl
  | .inr x :: ks, _, .cons r t => by
    cases r
    rw [rpl_keys t]
    rfl
theorem rp_keyT {v : V} {d : PyData} {k : List Key} (h : Rp K H v d) (e : keyT d = some k) : ∃ b, v = .ref b ∧ TP H b (k.map kV) := by
  rw [keyT_eq e] at h
  cases h with
  | tup h1 h2 => exact ⟨_, rfl, by rw [← rpl_keys h2]; exact h1⟩
theorem rpc_keyF {Fz : Hp} {v : V} {d : PyData} {k : List Key} (h : RpC K Fz H v d) (e : keyT d = some k) : ∃ b, v = .ref b ∧ TP Fz b (k.map kV) := by
  have := keyT_eq e
  subst this
  rcases h with h | ⟨_, _, _, _, e2, _⟩
  · exact rp_keyT h e
  · cases e2
theorem rpc_keyT {Fz : Hp} (le : Same Fz H) {v : V} {d : PyData} {k : List Key} (h : RpC K Fz H v d) (e : keyT d = some k) : ∃ b, v = .ref b ∧ TP H b (k.map kV) := by
  obtain ⟨b, e1, e2⟩ := rpc_keyF h e
  exact ⟨b, e1, e2.mono le⟩
/-- a dict without a key that is a tuple of ints and texts: empty, or by keys of another kind; such a dict as one by tuples -/
theorem RpK.noT : ∀ {ws : List (Key × V)} {kvs : List (PyData × PyData)}, RpK K H ws kvs → ws ≠ [] → ∀ k, keyT (kvs.head?.map Prod.fst |>.getD .none) ≠ some k
  | _, _, .nil, h => absurd rfl h
  | _, _, .cons (k := k0) r t, _ => fun k => by cases k0 <;> exact fun z => nomatch z
end
/-- what a dict by tuples (or an empty one) holds at a tuple -/
def DGT (H : Hp) (a : Addr) (y : V) (r : Option V) : Prop := ∃ k b, y = .ref b ∧ TP H b (k.map kV) ∧ ∃ kvs, DE H H a kvs ∧ r = valV kvs k
section
variable {X : Cx} {pins : List (Addr × Obj)} {σ : L2.St} {H : Hp} {s : Shared} {a : Addr} {y v : V} {u r : Value} {o : Option V} {A : Around} {E : Value → Shared → Prop}
theorem d_notInT {Q : Value → Shared → Prop} (hu : A.units + 1 < cLine) (I : Inv X pins σ H s) (g : DGT H a y o) (ry : RelV y u) (h : ∀ s', Inv X pins σ H s' → Q (.bool (!o.isSome)) s') :
    wpAny (model X.prog X.w) A (compareOp .NotIn u (.ref a)) Q E s := by
  obtain ⟨k, b, ey, eb, kvs, e, l⟩ := g
  subst ey
  cases (show u = Value.ref b from ry)
  obtain ⟨_, hd, xs, rel, dd⟩ := dp_of I.hok (Same.refl _) e
  refine wpAny_notIn_heap (tupleKind_room_in1 hu) (key_ofP I.hok eb) hd dd ?_
  rw [show (atKey xs k).isSome = o.isSome by rw [l, (rel.val k).isSome_eq, Option.isSome_map]]
  exact h _ (I.tok _)
/-- d[k] -/
theorem d_getP {Q : Value → Shared → Prop} (hu : A.units + 1 < cLine) (I : Inv X pins σ H s) (g : DGT H a y (some v)) (ry : RelV y u) (h : ∀ w' s', Inv X pins σ H s' → RelV v w' → Q w' s') :
    wpAny (model X.prog X.w) A (getItem (.ref a) u) Q E s := by
  obtain ⟨k, b, ey, eb, kvs, e, l⟩ := g
  subst ey
  cases (show u = Value.ref b from ry)
  obtain ⟨_, hd, xs, rel, dd⟩ := dp_of I.hok (Same.refl _) e
  obtain ⟨z, hz, rz⟩ := RelO.some_of (v := v) (o := (atKey xs k).map (·.2)) (by rw [l]; exact rel.val k)
  obtain ⟨p, hp, ep⟩ := Option.map_eq_some_iff.mp hz
  refine wpAny_getItem_heap (tupleKind_room_in1 hu) (key_ofP I.hok eb) dd hp ?_
  rw [ep]
  exact h z _ (I.tok _) rz
theorem dp_type (I : Inv X pins σ H s) {kvs : List (List Key × V)} (e : DE H H a kvs) : s.TypeIs (.ref a) "dict" := by
  obtain ⟨_, _, _, _, dd⟩ := dp_of I.hok (Same.refl _) e
  exact dd.typeIs
theorem pe_dgetP {o i : Expr} {pos : Pos} {td ty : TE} (hu : X.A.units + 1 < cLine) (ho : PE X o td) (hi : PE X i ty) (hs : NoSl i) :
    PE X (.Subscript o i pos) (fun σ H Q => td σ H fun x H1 => ty σ H1 fun y H2 => ∃ a v, x = .ref a ∧ DGT H2 a y (some v) ∧ Q v H2) := by
  refine ⟨fun pins s σ H Q I h => ?_⟩
  refine subD_of PySem.F.slot_dict_getitem.lookup hs (thn (ho.run pins s σ H _ I h) fun u s1 ⟨x, H1, I1, rx, q1⟩ => thn (hi.run pins s1 σ H1 _ I1 q1) fun iv s2 ⟨y, H2, I2, ry, a, v, ex, g, q2⟩ => ?_)
  subst ex
  obtain rfl : u = Value.ref a := rx
  obtain ⟨_, _, _, _, kvs, e, _⟩ := id g
  exact ⟨dp_type I2 e, d_getP hu I2 g ry fun w' s' I' r' => ⟨v, H2, I', r', q2⟩⟩
def rInT (n : Bool) : R2 := fun y x H Q => ∃ a o, x = .ref a ∧ DGT H a y o ∧ Q (.bl (if n = true then !o.isSome else o.isSome)) H
theorem op_notInT (hu : X.A.units + 1 < cLine) : OpR X (compareOp .NotIn) (rInT true) := fun pins s σ H x y v u Q I rx ry ⟨a, o, ex, g, q⟩ => by
  subst ex
  obtain rfl : u = Value.ref a := ry
  exact d_notInT hu I g rx fun s3 I3 => ⟨.bl (!o.isSome), H, I3, rfl, q⟩
end
/-- no key of another kind -/
def tupD (kvs : List (PyData × PyData)) : Bool := kvs.all fun p => (keyT p.1).isSome
theorem dgt_of {K : PySem.W.Frag} {b : Bk} {Fz : Hp} {F : Nat → List Addr} {δ : List Sl} {σ : L2.St} {H : Hp} (R : Rl K b Fz F δ σ H) {v w : V} {x : AV} {kvs : List (PyData × PyData)} {d : PyData} {k : List Key} (A : AvS K Fz σ v x) (h : dicA δ x = some kvs) (ht : tupD kvs = true) (B : RpC K Fz H w d) (hk : keyT d = some k) :
    ∃ a o, v = .ref a ∧ DGT H a w o ∧ o.isSome = (lookKT kvs k).isSome ∧ ∀ e, lookKT kvs k = some e → ∃ u, o = some u ∧ Rp K Fz u e := by
  obtain ⟨a, e1, e2⟩ := dic_ok R A h
  obtain ⟨c, e3, e4⟩ := rpc_keyT R.le B hk
  rcases e2 with ⟨ws, g1, g2⟩ | ⟨ws, g1, g2⟩
  · cases g2 with
    | nil => exact ⟨a, none, e1, ⟨k, c, e3, e4, [], .inr ⟨g1, rfl⟩, rfl⟩, rfl, fun e z => nomatch z⟩
    | cons r t =>
      rename_i k0 _ _ _ _
      unfold tupD at ht
      rw [List.all_cons, Bool.and_eq_true] at ht
      cases k0 <;> exact absurd ht.1 Bool.false_ne_true
  · exact ⟨a, _, e1, ⟨k, c, e3, e4, ws, .inl (g1.mono R.le rfl), rfl⟩, g2.isSome k, fun e z => by
      obtain ⟨u, f1, f2⟩ := g2.look z
      exact ⟨u, f1, f2⟩⟩
def gInT (n : Bool) (x y : AV) (δ : List Sl) : Rs AV := match (rdC δ x).bind keyT, dicA δ y with
  | some k, some kvs => if tupD kvs = true then .ok (.val (.bool (if n = true then !(lookKT kvs k).isSome else (lookKT kvs k).isSome))) δ else .bad
  | _, _ => .bad
theorem v2_inT {K : PySem.W.Frag} {mg : Str → Option Value} {W : WX} {pin : List Nat} {n : Bool} : V2 K mg W pin (rInT n) (gInT n) := by
  intro b Fz F δ σ H v w x y Q hp R A B P
  unfold gInT at P
  cases q1 : (rdC δ x).bind keyT with
  | none => simp only [q1] at P; exact P.elim
  | some k =>
    cases q2 : dicA δ y with
    | none => simp only [q1, q2] at P; exact P.elim
    | some kvs =>
      simp only [q1, q2] at P
      by_cases c : tupD kvs = true
      · rw [if_pos c] at P
        obtain ⟨d, f1, f2⟩ := Option.bind_eq_some_iff.mp q1
        obtain ⟨a, o, e1, e2, e3, _⟩ := dgt_of R B q2 c (rdC_ok R A f1) f2
        refine ⟨a, o, e1, e2, ?_⟩
        rw [e3]
        exact P _ H Fz F (Same.refl _) R (.bl _)
      · rw [if_neg c] at P
        exact P.elim
def gDixT (x y : AV) (δ : List Sl) : Rs AV := match dicA δ x, (rdC δ y).bind keyT with
  | some kvs, some k => (match lookKT kvs k with
    | some d => .ok (.val d) δ
    | none => .bad)
  | _, _ => .bad
theorem lookT' {K : PySem.W.Frag} {H : Hp} (k : List Key) : ∀ {ws : List (Key × V)} {kvs : List (PyData × PyData)}, RpK K H ws kvs → lookKT kvs k = none
  | _, _, .nil => rfl
  | _, _, .cons (k := k0) _ t => by
    have ih := lookT' k t
    unfold lookKT at ih ⊢
    rw [List.find?_cons]
    cases k0 <;> simpa [keyT, kD] using ih
section
variable {X : Cx} {W : WX} {pin : List Nat} {fa fb : List Sl → Rs AV} {a c : Expr} {pos : Pos}
theorem st_ninT (hu : X.A.units + 1 < cLine) (ha : SE X W pin a fa) (hb : SE X W pin c fb) (hm : behindInMarks .NotIn c = false := by with_unfolding_all rfl) : ST X W pin (.Compare a [.NotIn] [c] pos) (sTst (s2 (gInT true) fa fb)) := st_cmp (op_notInT hu) v2_inT ha hb hm
theorem se_ixT (hu : X.A.units + 1 < cLine) (ha : SE X W pin a fa) (hb : SE X W pin c fb) (hs2 : NoSl c := by intro _ _; rfl) : SE X W pin (.Subscript a c pos) (s2 gDixT fa fb) :=
  pe_mono (pe_dgetP hu (se_st ha) (se_st hb) hs2) fun σ H Q ⟨b, Fz, F, δ, hp, R, P⟩ => by
    have P : Post X.K X.mg W b Fz σ Q ((sSt fa δ).bind fun x δ1 => (sSt fb δ1).bind fun y δ2 => gDixT x y δ2) := P
    refine rd_bind' hp R P fun v H1 Fz1 F1 x δ1 e1 s1 R1 A1 P1 => rd_bind' hp R1 P1 fun w H2 Fz2 F2 y δ2 e2 s2 R2 A2 P2 => ?_
    unfold gDixT at P2
    cases q : dicA δ2 x with
    | none => simp only [q] at P2; exact P2.elim
    | some kvs =>
      obtain ⟨a', f1, f2⟩ := dic_ok R2 (A1.le s2) q
      cases q2 : (rdC δ2 y).bind keyT with
      | none => simp only [q, q2] at P2; exact P2.elim
      | some k =>
        cases q3 : lookKT kvs k with
        | none => simp only [q, q2, q3] at P2; exact P2.elim
        | some d =>
          simp only [q, q2, q3] at P2
          obtain ⟨kd, g1, g2⟩ := Option.bind_eq_some_iff.mp q2
          obtain ⟨c', h1, h2⟩ := rpc_keyT R2.le (rdC_ok R2 A2 g1) g2
          rcases f2 with ⟨ws, i1, i2⟩ | ⟨ws, i1, i2⟩
          · rw [lookT' k i2] at q3
            cases q3
          · obtain ⟨u, j1, j2⟩ := i2.look q3
            exact ⟨a', u, f1, ⟨k, c', h1, h2, ws, .inl (i1.mono R2.le rfl), j1.symm⟩, P2 u H2 Fz2 F2 (Same.refl _) R2 j2⟩
end
def dcL (vs : List Nat) (t : AV → List Sl → Rs Unit) (tt : List Sl → Rs Bool) (fk fv : List Sl → Rs AV) : List PyData → List (PyData × PyData) → List Sl → Rs (List (PyData × PyData))
  | [], es, δ => .ok es δ
  | d :: r, es, δ => if okW vs δ = true then (match t (.val d) (wipeD vs δ) with
    | .ok _ δ1 => (match tt δ1 with
      | .ok k δ2 => if k = true then (match sSt fk δ2 with
        | .ok (.val y) δ3 => (match sSt fv δ3 with
          | .ok (.val z) δ4 => (match keyT y with
            | some ks => if es.length ≤ cap then dcL vs t tt fk fv r (putT es ks z) (unw vs δ δ4) else .bad
            | none => .bad)
          | _ => .bad)
        | _ => .bad) else dcL vs t tt fk fv r es (unw vs δ δ2)
      | _ => .bad)
    | _ => .bad) else .bad
def sDcT (wi : List Sl → Rs (List PyData)) (vs : List Nat) (t : AV → List Sl → Rs Unit) (tt : List Sl → Rs Bool) (fk fv : List Sl → Rs AV) : List Sl → Rs AV := fun δ => (wi δ).bind fun ds δ1 => (dcL vs t tt fk fv ds [] δ1).bind fun es δ2 => .ok (.tmp (.od es)) δ2
theorem dc_ok {K : PySem.W.Frag} {mg : Str → Option Value} {W : WX} {pin ts vs : List Nat} {wi : List Sl → Rs (List PyData)} {t : AV → List Sl → Rs Unit} {tt : List Sl → Rs Bool} {fk fv : List Sl → Rs AV} {tT : TT} (hv : ∀ v ∈ vs, v ∉ pin) (hts : ∀ v ∈ ts, v ∈ vs) (hT : ∀ σ H Q, rdT K mg W0 pin tt σ H Q → tT σ H Q) :
    ∀ σ H Q, rdE K mg W pin (sDcT wi vs t tt fk fv) σ H Q → tDcT (rdI K mg W pin wi) (rdG K mg W0 pin ts t) tT (rdE K mg W0 pin (sSt fk)) (rdE K mg W0 pin (sSt fv)) vs σ H Q := fun σ H Q ⟨b, Fz, F, δ, hpin, R, P⟩ => by
  refine ⟨b, Fz, F, δ, hpin, R, ?_⟩
  unfold sDcT at P
  cases q : wi δ with
  | bad => rw [q] at P; exact P
  | er x δ' => rw [q] at P; exact P
  | ok ds δ1 =>
    rw [q] at P
    have P : Post K mg W b Fz σ Q ((dcL vs t tt fk fv ds [] δ1).bind fun es δ2 => .ok (.tmp (.od es)) δ2) := P
    intro J H1 Fz1 F1 s1 R1 hw D hD
    obtain ⟨d1, d2, d3⟩ := R1.offN hD
    refine ⟨fun i m H => m = ds.length - i ∧ i ≤ ds.length ∧ ∃ Fz F δ acc es, Same Fz1 Fz ∧ Rl K b Fz F δ σ H ∧ DP Fz H D acc ∧ RpT K Fz acc es ∧ (Fz D = none ∧ b.B D = none ∧ ∀ k, D ∉ F k) ∧ Post K mg W b Fz σ Q ((dcL vs t tt fk fv (ds.drop i) es δ).bind fun es δ2 => .ok (.tmp (.od es)) δ2),
      ⟨ds.length, by simp, Nat.zero_le _, Fz1, F1, δ1, [], [], Same.refl _, R1.new hD _, ⟨[], 0, upd_same, .nil⟩, .nil, ⟨d1, d2, d3⟩, by rw [List.drop_zero]; exact P.le s1⟩, ?_⟩
    rintro i m H2 ⟨rfl, hi, Fz2, F2, δ2, acc, es, s2, R2, hacc, hes, hg, P2⟩
    have hg' : ∀ a ∈ [D], Fz2 a = none ∧ b.B a = none ∧ ∀ k, a ∉ F2 k := fun a ha => by
      rw [List.mem_singleton] at ha
      rw [ha]; exact hg
    have gB : ∀ a ∈ [D], b.B a = none := fun a ha => (hg' a ha).2.1
    have gH : ∀ a ∈ [D], H2 a ≠ none := fun a ha => by
      rw [List.mem_singleton] at ha
      rw [ha]; exact hacc.ne
    have gT : ∀ a ∈ [D], Pl (H2 a) := fun a ha => by
      rw [List.mem_singleton] at ha
      rw [ha]; exact hacc.pl
    have Rg := R2.guard (g := [D]) hg' gT
    obtain ⟨go, stop⟩ := hw _ Fz2 F2 δ2 σ H2 s2 Rg
    by_cases hlt : i < ds.length
    · obtain ⟨g1, g2⟩ := go i hlt
      refine .inr ⟨g1, fun H => ∃ Fz F δ acc es, Same Fz1 Fz ∧ Rl K b Fz F δ σ H ∧ DP Fz H D acc ∧ RpT K Fz acc es ∧ (Fz D = none ∧ b.B D = none ∧ ∀ k, D ∉ F k) ∧ Post K mg W b Fz σ Q ((dcL vs t tt fk fv (ds.drop (i + 1)) es δ).bind fun es δ2 => .ok (.tmp (.od es)) δ2),
        fun H3 h3 => ⟨ds.length - (i + 1), by omega, rfl, hlt, h3⟩, fun x H3 y => ?_⟩
      obtain ⟨Fz3, d, e1, s3, R3, r3⟩ := g2 x H3 y
      have ed : ds.drop i = d :: ds.drop (i + 1) := by
        rw [List.drop_eq_getElem_cons hlt]
        rw [List.getElem?_eq_getElem hlt] at e1
        rw [Option.some.inj e1]
      rw [ed] at P2
      unfold dcL at P2
      by_cases cw : okW vs δ2 = true
      · rw [if_pos cw] at P2
        have hvb : ∀ v ∈ vs, v ∉ b.pin := by rw [hpin]; exact hv
        have R4 := R3.wipe cw hvb
        have back : ∀ {δ5 : List Sl} {σ5 : L2.St} {H5 Fz5 : Hp} {F5 : Nat → List Addr}, Same Fz2 Fz5 → Rl K (gd b H2 [D]) Fz5 F5 δ5 σ5 H5 → σ5.length = σ.length → (∀ k, k ∉ vs → σ5[k]? = σ[k]?) → ∃ F6, Rl K b Fz5 F6 (unw vs δ2 δ5) σ H5 ∧ ∀ k a, a ∈ F6 k → a ∈ F5 k := by
          intro δ5 σ5 H5 Fz5 F5 s25 R5 hl5 fr5
          have R6 := R5.unguard gB R2.f0
          obtain ⟨F6, R7, h7⟩ := Rl.unwipe (σ := σ) (δ := δ2) R6 hl5 (vs := vs) hvb fun v hvv s hs => by
            have h0 := R2.slot v s hs
            have hpl : plainS δ2[v]? = true := by
              unfold okW at cw
              exact List.all_eq_true.mp cw v hvv
            rw [hs] at hpl
            cases s with
            | no => exact ⟨rfl, fun x j z => nomatch z⟩
            | fz d' =>
              obtain ⟨_, v', k1, k2⟩ := h0
              exact ⟨⟨rfl, v', k1, k2.mono s25⟩, fun x j z => nomatch z⟩
            | _ => cases hpl
          rw [rst_eq hl5 fr5] at R7
          exact ⟨F6, R7, h7⟩
        have fits : ∀ {δ5 : List Sl} {σ5 : L2.St} {H5 Fz5 : Hp} {F5 : Nat → List Addr}, Rl K (gd b H2 [D]) Fz5 F5 δ5 σ5 H5 → ∀ a ∈ [D], H5 a = H2 a ∧ Fz5 a = none ∧ ∀ k, a ∉ F5 k := fun R5 => R5.guarded gB R2.f0 gH gT
        refine ⟨gd b H2 [D], Fz3, F2, wipeD vs δ2, .val d, hpin, R4, r3, ?_⟩
        cases q2 : t (.val d) (wipeD vs δ2) with
        | bad => simp only [q2] at P2; exact P2
        | er x δ3 => simp only [q2] at P2; exact P2.elim
        | ok u δ3 =>
          simp only [q2] at P2
          intro σ4 H4 Fz4 F4 s4 R5 fr
          have hl4 : σ4.length = σ.length := by rw [fr.1, L2.wipe_length]
          have fr4 : ∀ k, k ∉ vs → σ4[k]? = σ[k]? := fun k hk => (fr.2 k fun z => hk (hts k z)).trans (wipe_get hk)
          refine ⟨wipe_eq hl4 fr4, ?_⟩
          have s24 : Same Fz2 Fz4 := s3.trans s4
          refine hT _ _ _ ⟨gd b H2 [D], Fz4, F4, δ3, hpin, R5, ?_⟩
          cases q3 : tt δ3 with
          | bad => simp only [q3] at P2; exact P2.elim
          | er x δ4 => simp only [q3] at P2; exact P2.elim
          | ok k δ4 =>
            simp only [q3] at P2
            intro H5 Fz5 F5 s5 R6
            by_cases ck : k = true
            · rw [if_pos ck] at P2 ⊢
              refine ⟨gd b H2 [D], Fz5, F5, δ4, hpin, R6, ?_⟩
              cases q4 : sSt fk δ4 with
              | bad => simp only [q4] at P2; exact P2.elim
              | er x δ5 => simp only [q4] at P2; exact P2.elim
              | ok a δ5 =>
                cases a with
                | ref i => simp only [q4] at P2; exact P2.elim
                | tmp s => simp only [q4] at P2; exact P2.elim
                | val y =>
                  simp only [q4] at P2
                  intro yv H6 Fz6 F6 s6 R7 A
                  refine ⟨gd b H2 [D], Fz6, F6, δ5, hpin, R7, ?_⟩
                  cases q5 : sSt fv δ5 with
                  | bad => simp only [q5] at P2; exact P2.elim
                  | er x δ6 => simp only [q5] at P2; exact P2.elim
                  | ok a2 δ6 =>
                    cases a2 with
                    | ref i => simp only [q5] at P2; exact P2.elim
                    | tmp s => simp only [q5] at P2; exact P2.elim
                    | val z =>
                      simp only [q5] at P2
                      intro zv H7 Fz7 F7 s7 R8 A2
                      cases q6 : keyT y with
                      | none => simp only [q6] at P2; exact P2.elim
                      | some ks =>
                        simp only [q6] at P2
                        by_cases cl : es.length ≤ cap
                        · rw [if_pos cl] at P2
                          have s27 : Same Fz2 Fz7 := ((s24.trans s5).trans s6).trans s7
                          obtain ⟨F8, R9, h8⟩ := back s27 R8 hl4 fr4
                          have fD := fits R8 D (by simp)
                          have eD : DP Fz7 H7 D acc := hacc.mono s27 fD.1
                          obtain ⟨kb, k1, k2⟩ := rp_keyT (show Rp K Fz6 yv y from A) q6
                          refine ⟨Fz7, acc, ks, kb, R8.le, k1, keyT_I q6, k2.mono s7, eD, by rw [hes.len]; exact lt_line cl, fun o dp => ?_⟩
                          have R10 := R9.other (D := D) (o := o) fD.2.1 hg.2.1 (fun k hk => fD.2.2 k (h8 k D hk)) eD.pl
                          exact ⟨Fz7, F8, _, _, _, s2.trans s27, R10, dp, (hes.mono s27).put (show Rp K Fz7 zv z from A2) (keyT_I q6), ⟨fD.2.1, hg.2.1, fun k hk => fD.2.2 k (h8 k D hk)⟩, P2.le s27⟩
                        · rw [if_neg cl] at P2
                          exact P2.elim
            · rw [if_neg ck] at P2 ⊢
              have s25 : Same Fz2 Fz5 := s24.trans s5
              obtain ⟨F7, R8, h7⟩ := back s25 R6 hl4 fr4
              have fD := fits R6 D (by simp)
              exact ⟨Fz5, F7, _, acc, es, s2.trans s25, R8, hacc.mono s25 fD.1, hes.mono s25, ⟨fD.2.1, hg.2.1, fun k hk => fD.2.2 k (h7 k D hk)⟩, P2.le s25⟩
      · rw [if_neg cw] at P2
        exact P2.elim
    · have e : i = ds.length := by omega
      subst e
      rw [List.drop_length] at P2
      refine .inl ⟨stop, ?_⟩
      exact P2 (.ref D) H2 Fz2 F2 (Same.refl _) R2 ⟨rfl, [D], ⟨D, rfl, rfl, .inr ⟨acc, hacc, hes⟩⟩, by simp, fun a ha => by
        rw [List.mem_singleton] at ha
        subst ha
        exact ⟨hg.1, hg.2.1, hacc.ne, hg.2.2⟩⟩
section
variable {X : Cx} {W : WX} {pin ts : List Nat} {kx vx tg iter : Expr} {ifs : List Expr} {scope : Scope} {own : List (Str × Nat)} {pos : Pos} {wi : List Sl → Rs (List PyData)} {t : AV → List Sl → Rs Unit} {tt : List Sl → Rs Bool} {fk fv : List Sl → Rs AV}
theorem se_dcT (hu : X.A.units < cLine) (hc : X.calm = true) (hN : X.N.Nodup) (hi : SI X W pin tg iter wi) (ok : blkC X.N X.env.scope scope own = true) (hv : ∀ v ∈ own.map (·.2), v ∉ pin) (hts : ∀ v ∈ ts, v ∈ own.map (·.2))
    (hg : ∀ s H C cl fp, SG (BX X scope s H C cl fp) W0 pin ts tg t) (ht : ∀ s H C cl fp, STs (BX X scope s H C cl fp) pin ifs tt) (hk : ∀ s H C cl fp, SE (BX X scope s H C cl fp) W0 pin kx fk) (hw : ∀ s H C cl fp, SE (BX X scope s H C cl fp) W0 pin vx fv) (hs : ∀ x, foldedSetIterable iter X.env x = pure x := by intro _; rfl) :
    SE X W pin (.DictComp kx vx [⟨tg, iter, ifs, 0⟩] scope pos) (sDcT wi (own.map (·.2)) t tt fk fv) :=
  pe_mono (pe_dcT hu hc hN hi (blkOk_by ok) hg ht (fun s H C cl fp => se_st (hk s H C cl fp)) (fun s H C cl fp => se_st (hw s H C cl fp)) hs) (dc_ok hv hts fun _ _ _ h => h)
end
theorem unl1 {n : Nat} (h : n + 64 < cLine) : n + 1 < cLine := by omega
theorem unl0 {n : Nat} (h : n + 64 < cLine) : n < cLine := by omega
end Hb
namespace Hb
open PySem PySem.Spec PyProof.Rows L2
end Hb
namespace Nv
open PySem Hb L2
open Enc (enc)
/-- tuples of whole numbers -/
class TKy (ξ : Type) [Enc ξ] where
  tp : ξ → Tp Int
  h : ∀ x : ξ, enc x = enc (tp x)
instance : TKy (Tp Int) := ⟨fun x => x, fun _ => rfl⟩
instance : TKy (Int × Int) := ⟨fun x => ⟨[x.1, x.2]⟩, fun _ => rfl⟩
instance : TKy (T3 Int Int Int) := ⟨fun x => ⟨[x.a, x.b, x.c]⟩, fun _ => rfl⟩
instance : TKy (T4 Int Int Int Int) := ⟨fun x => ⟨[x.a, x.b, x.c, x.d]⟩, fun _ => rfl⟩
def keyI (k : Tp Int) : List Key := k.l.map .inl
theorem keysOf_ints : ∀ l : List Int, keysOf (l.map enc) = some (l.map .inl)
  | [] => rfl
  | i :: r => by
    show (keyOf (.int i)).bind _ = _
    show (keysOf (r.map enc)).map _ = _
    rw [keysOf_ints r]
    rfl
theorem keyT_tp (k : Tp Int) : keyT (enc k) = some (keyI k) := keysOf_ints k.l
theorem inl_map : ∀ {a b : List Int}, (a.map Sum.inl : List Key) = b.map Sum.inl → a = b
  | [], [], _ => rfl
  | x :: a, [], h => by cases h
  | [], y :: b, h => by cases h
  | x :: a, y :: b, h => by
    rw [List.map_cons, List.map_cons, List.cons.injEq] at h
    rw [Sum.inl.inj h.1, inl_map h.2]
theorem keyI_inj {a b : Tp Int} (h : keyI a = keyI b) : a = b := by
  cases a; cases b
  exact congrArg Tp.mk (inl_map h)
theorem keyI_enc (k : Tp Int) : PyData.tuple ((keyI k).map kD) = enc k := by
  show PyData.tuple ((k.l.map Sum.inl).map kD) = .tuple (k.l.map enc)
  rw [List.map_map]
  rfl
section
variable {α β γ ε ξ : Type} [Enc α] [Enc β] [Enc ξ] [TKy ξ] {Γ : Ga} {fa fb : List Sl → Rs AV}
def lookDt (d : Dc (Tp Int) α) (k : ξ) : Option α := (d.l.find? fun p => decide (p.1 = TKy.tp k)).map (·.2)
def ninDt (k : ξ) (d : Dc (Tp Int) α) : Option Bool := some !(d.l.any fun p => decide (p.1 = TKy.tp k))
def dtOf (xs : List (Tp Int × α)) : Dc (Tp Int) α := ⟨xs.foldl (fun acc p => putC acc p.1 p.2) []⟩
theorem lookT_enc (k : Tp Int) : ∀ l : List (Tp Int × α), lookKT (l.map fun p => (enc p.1, enc p.2)) (keyI k) = ((l.find? fun p => decide (p.1 = k)).map (·.2)).map enc
  | [] => rfl
  | p :: r => by
    have ih := lookT_enc k r
    unfold lookKT at ih ⊢
    rw [List.map_cons, List.find?_cons, List.find?_cons]
    rw [keyT_tp]
    by_cases c : p.1 = k
    · rw [decide_eq_true (by rw [c]), decide_eq_true c]
      rfl
    · have hn : ¬ some (keyI p.1) = some (keyI k) := fun z => c (keyI_inj (Option.some.inj z))
      rw [decide_eq_false hn, decide_eq_false c]
      exact ih
theorem putT_enc (k : Tp Int) (v : α) (l : List (Tp Int × α)) : putT (l.map fun p => (enc p.1, enc p.2)) (keyI k) (enc v) = (putC l k v).map fun p => (enc p.1, enc p.2) := by
  have ha : ((l.map fun p => (enc p.1, enc p.2)).any fun p => decide (keyT p.1 = some (keyI k))) = l.any fun p => decide (p.1 = k) := by
    rw [List.any_map]
    congr 1
    funext p
    show decide (keyT (enc p.1) = some (keyI k)) = _
    rw [keyT_tp]
    by_cases c : p.1 = k
    · simp [c]
    · have hn : ¬ keyI p.1 = keyI k := fun z => c (keyI_inj z)
      simp [c, hn]
  unfold putT putC
  rw [ha]
  by_cases c : (l.any fun p => decide (p.1 = k)) = true
  · rw [if_pos c, if_pos c, List.map_map, List.map_map]
    congr 1
    funext p
    show (if keyT (enc p.1) = some (keyI k) then (enc p.1, enc v) else (enc p.1, enc p.2)) = (fun p : Tp Int × α => (enc p.1, enc p.2)) (if p.1 = k then (p.1, v) else p)
    rw [keyT_tp]
    by_cases c2 : p.1 = k
    · rw [if_pos (by rw [c2]), if_pos c2]
    · rw [if_neg (fun z => c2 (keyI_inj (Option.some.inj z))), if_neg c2]
  · rw [if_neg c, if_neg c, List.map_append, keyI_enc]
    rfl
theorem tupD_enc (l : List (Tp Int × α)) : tupD (l.map fun p => (enc p.1, enc p.2)) = true := by
  unfold tupD
  rw [List.all_eq_true]
  intro p hp
  obtain ⟨q, _, rfl⟩ := List.mem_map.mp hp
  show (keyT (enc q.1)).isSome = true
  rw [keyT_tp]
  rfl
theorem anyT_enc (k : Tp Int) (l : List (Tp Int × α)) : (lookKT (l.map fun p => (enc p.1, enc p.2)) (keyI k)).isSome = l.any fun p => decide (p.1 = k) := by
  rw [lookT_enc]
  induction l with
  | nil => rfl
  | cons p r ih =>
    rw [List.find?_cons, List.any_cons]
    by_cases c : p.1 = k
    · rw [decide_eq_true c]; rfl
    · rw [decide_eq_false c]; exact ih
theorem dic_enc {δ : List Sl} {x : AV} {v : Dc (Tp Int) α} (h1 : rdA δ x = some (enc v)) : dicA δ x = some (v.l.map fun p => (enc p.1, enc p.2)) := by
  have h1 : rdA δ x = some (.dict (v.l.map fun p => (enc p.1, enc p.2))) := h1
  simp only [dicA, h1]
theorem op_dixT : Op2M gDixT (lookDt (α := α) (ξ := ξ)) fun r => .val (enc r) := fun v w r δ x y h1 h2 e => by
  have hk : (rdC δ y).bind keyT = some (keyI (TKy.tp w)) := by rw [h2, TKy.h]; exact keyT_tp _
  have hl : lookKT (v.l.map fun p => (enc p.1, enc p.2)) (keyI (TKy.tp w)) = some (enc r) := by
    rw [lookT_enc]
    have e : (v.l.find? fun p => decide (p.1 = TKy.tp w)).map (·.2) = some r := e
    rw [e]
    rfl
  simp only [gDixT, dic_enc h1, hk, hl]
def Op2N (g : AV → AV → List Sl → Rs AV) (op : α → β → Option γ) (a : γ → AV) : Prop := ∀ v w r δ x y, rdC δ x = some (enc v) → rdA δ y = some (enc w) → op v w = some r → g x y δ = .ok (a r) δ
theorem pu2N {g : AV → AV → List Sl → Rs AV} {op : α → β → Option γ} {a : γ → AV} (o : Op2N g op a) {pa : Option α} {pb : Option β} (ha : Rd fa Γ pa enc) (hb : Ra fb Γ pb enc) : Pu (s2 g fa fb) Γ (pa.bind fun v => pb.bind fun w => op v w) a := fun r e δ s => by
  obtain ⟨v, e1, e⟩ := bind_of e
  obtain ⟨w, e2, e⟩ := bind_of e
  obtain ⟨x, h1, h2, h3⟩ := ha v e1 δ s
  obtain ⟨y, k1, k3⟩ := hb w e2 δ s
  unfold s2
  rw [h1]
  show (sSt fb δ).bind _ = _
  rw [k1]
  exact o v w r δ x y h2 k3 e
theorem op_ninDt : Op2N (gInT true) (ninDt (α := α) (ξ := ξ)) fun r => .val (enc r) := fun v w r δ x y h1 h2 e => by
  have hk : (rdC δ x).bind keyT = some (keyI (TKy.tp v)) := by rw [h1, TKy.h]; exact keyT_tp _
  cases some_of e
  simp only [gInT, hk, dic_enc h2, tupD_enc, if_true, anyT_enc]
  rfl
end
section
variable {α α1 β γ ε ξ ζ : Type} {Γ : Ga} {f fk fv : List Sl → Rs AV} {t t1 : AV → List Sl → Rs Unit} {tt tt1 : List Sl → Rs Bool} {w w1 : List Sl → Rs (List PyData)} {vs vs1 : List Nat}
theorem dcLF [Enc α] [Enc ξ] [TKy ξ] [Enc ζ] {ΓT : α → Ga} {pt : α → Option Bool} {pk : α → Option ξ} {pv : α → Option ζ} (hok : okP vs Γ = true) (hc : calm vs Γ = true) (ht : ∀ x, Tg vs t (wipeP vs Γ) (enc x) (ΓT x)) (htt : ∀ x, Ts tt (ΓT x) (pt x)) (hk : ∀ x, Pu fk (ΓT x) (pk x) fun y => .val (enc y)) (hv : ∀ x, Pu fv (ΓT x) (pv x) fun y => .val (enc y)) :
    ∀ (xs : List α) (es : List (Tp Int × ζ)) (ys : List (Tp Int × ζ)), mapF xs pt (fun x => (pk x).bind fun k => (pv x).bind fun v => some (TKy.tp k, v)) = some ys → es.length + xs.length ≤ cap → ∀ δ, Sat Γ δ → dcL vs t tt fk fv (xs.map enc) (es.map fun p => (enc p.1, enc p.2)) δ = .ok ((ys.foldl (fun acc p => putC acc p.1 p.2) es).map fun p => (enc p.1, enc p.2)) δ
  | [], es, ys, e, _, δ, _ => by
    cases some_of e
    simp [dcL]
  | x :: xs, es, ys, e, hl, δ, s => by
    obtain ⟨b, e1, e⟩ := bind_of e
    have hw := okP_ok hok s
    have hal := calm_ok hc s
    obtain ⟨δ1, h1, s1, k1⟩ := ht x (wipeD vs δ) (wipeP_ok s vs)
    obtain ⟨a1, b1, c1⟩ := k1 (wipe_al hal vs)
    have un : unw vs δ δ1 = δ := unw_id (by rw [a1, wipe_len]) (fun k hk => by rw [b1 k hk, wipe_get δ vs hk]) c1 hw
    have h2 := htt x b e1 δ1 s1
    rw [List.map_cons]
    rw [List.length_cons] at hl
    unfold dcL
    rw [if_pos hw, h1]
    simp only [h2]
    cases b with
    | false =>
      rw [if_neg Bool.false_ne_true, un]
      exact dcLF hok hc ht htt hk hv xs es ys (by simpa using e) (by omega) δ s
    | true =>
      rw [if_pos rfl] at e
      obtain ⟨y, e2, e⟩ := bind_of e
      obtain ⟨zs, e3, e⟩ := bind_of e
      cases some_of e
      obtain ⟨k, f1, e2⟩ := bind_of e2
      obtain ⟨z, f2, e2⟩ := bind_of e2
      cases some_of e2
      have h3 : sSt fk δ1 = .ok (.val (enc k)) δ1 := by unfold sSt; rw [hk x k f1 δ1 s1]
      have h4 : sSt fv δ1 = .ok (.val (enc z)) δ1 := by unfold sSt; rw [hv x z f2 δ1 s1]
      have h5 : keyT (enc k) = some (keyI (TKy.tp k)) := by rw [TKy.h]; exact keyT_tp _
      simp only [if_true, h3, h4, h5]
      rw [if_pos (by rw [List.length_map]; omega), un, putT_enc]
      have hlen : (putC es (TKy.tp k) z).length ≤ es.length + 1 := by
        unfold putC
        split
        · rw [List.length_map]; omega
        · rw [List.length_append]; simp
      rw [dcLF hok hc ht htt hk hv xs (putC es (TKy.tp k) z) zs e3 (by omega) δ s]
      rfl
theorem pu_dcT [Enc α] [Enc ξ] [TKy ξ] [Enc ζ] {p : Option β} {xs : β → List α} {ΓT : β → α → Ga} {pt : β → α → Option Bool} {pk : β → α → Option ξ} {pv : β → α → Option ζ} (hw : ItP w Γ p fun v => (xs v).map enc) (hok : okP vs Γ = true) (hc : calm vs Γ = true) (ht : ∀ v x, Tg vs t (wipeP vs Γ) (enc x) (ΓT v x)) (htt : ∀ v x, Ts tt (ΓT v x) (pt v x)) (hk : ∀ v x, Pu fk (ΓT v x) (pk v x) fun y => .val (enc y)) (hv : ∀ v x, Pu fv (ΓT v x) (pv v x) fun y => .val (enc y)) :
    Pu (sDcT w vs t tt fk fv) Γ (p.bind fun v => if (xs v).length ≤ cap then (mapF (xs v) (pt v) fun x => (pk v x).bind fun k => (pv v x).bind fun z => some (TKy.tp k, z)).bind fun r => some (dtOf r) else none) fun r => .tmp (od r) := fun r e δ s => by
  obtain ⟨v, e1, e⟩ := bind_of e
  by_cases c : (xs v).length ≤ cap
  · rw [if_pos c] at e
    obtain ⟨r', e2, e⟩ := bind_of e
    cases some_of e
    unfold sDcT
    rw [hw v e1 δ s]
    show (dcL vs t tt fk fv ((xs v).map enc) [] δ).bind _ = _
    have := dcLF hok hc (ht v) (htt v) (hk v) (hv v) (xs v) [] r' e2 (by simpa using c) δ s
    rw [List.map_nil] at this
    rw [this]
    rfl
  · rw [if_neg c] at e
    cases e
end
end Nv
namespace Nv
open PySem Hb L2
open Enc (enc)
end Nv
namespace Hb
open PySem PySem.Spec PyProof.Rows L2
open PySem.W (AlikeAll)
theorem depthAll_le : ∀ {ds : List PyData} {n : Nat}, (∀ d ∈ ds, d.depth ≤ n) → PyData.depthAll ds ≤ n
  | [], n, _ => by simp [PyData.depthAll]
  | d :: r, n, h => by
    have h1 := h d (by simp)
    have h2 := depthAll_le (ds := r) (n := n) fun x hx => h x (by simp [hx])
    simp only [PyData.depthAll]
    omega
end Hb
namespace Nv
open PySem Hb L2
open Enc (enc)
end Nv
namespace Hb
open PySem PySem.Spec PyProof.Rows L2
theorem Rl.mutD {K : PySem.W.Frag} {b : Bk} {Fz : Hp} {F : Nat → List Addr} {δ : List Sl} {σ : L2.St} {H : Hp} (R : Rl K b Fz F δ σ H) {i : Nat} {kvs lvs : List (PyData × PyData)} {l : Addr} {ws : List (List Key × V)} {o : HO}
    (hs : δ[i]? = some (.od kvs)) (hv : σ[i]? = some (some (.ref l))) (hd : DP Fz (upd H l o) l ws) (hr : RpT K Fz ws lvs) :
    Rl K b Fz (fun k => if k = i then [l] else F k) (upS i (.od lvs) δ) σ (upd H l o) := by
  obtain ⟨a, e1, e2, e3⟩ := R.slot i _ hs
  rw [hv] at e1
  cases e1
  have hl : l ∈ F i := by rw [e2]; exact List.mem_cons_self
  have ne : ∀ c, Fz c ≠ none → c ≠ l := fun c hc z => hc (by rw [z]; exact R.offF i l hl)
  have neB : ∀ c, b.B c ≠ none → c ≠ l := fun c hc z => hc (by rw [z]; exact R.offB i l hl)
  have all : ∀ a ∈ [l], a ∈ F i := fun a ha => by rw [List.mem_singleton.mp ha]; exact hl
  refine R.put (Same.refl _) (fun c o e => ?_) (fun c o e => ?_) rfl (fun _ _ => rfl) (.inl rfl) (fun _ => ?_) (fun x j z => nomatch z) (by simp) (fun a ha => R.offF i a (all a ha)) (fun a ha => R.offB i a (all a ha)) (fun a ha k hk hin => hk (R.dj k i a hin (all a ha))) (fun a ha => ?_) (fun k hk a ha => ?_) (fun k hk a ha => R.offF k a ha) (fun _ _ => rfl) (fun a ha => by rw [List.mem_singleton.mp ha]; exact hd.pl) (R.tb.upd (.inr (R.noT i l hl)))
  · rw [upd_ne (ne c (by rw [e]; simp))]
    exact R.le c _ e
  · rw [upd_ne (neB c (by rw [e]; simp))]
    exact R.base c _ e
  · rw [hv]
    exact ⟨l, rfl, rfl, .inr ⟨ws, hd, hr⟩⟩
  · rw [List.mem_singleton.mp ha]; exact hd.ne
  · exact upd_ne fun z => hk (R.dj k i a ha (by rw [z]; exact hl))
def rSetT : TSet := fun o i v H Q => ∃ (Z : Hp) (a b : Addr) (k : List Key) (kvs : List (List Key × V)), Same Z H ∧ o = .ref a ∧ i = .ref b ∧ k.all isI = true ∧ TP Z b (k.map kV) ∧ DE Z H a kvs ∧ kvs.length < sizeLine ∧ ∀ u, DP Z (upd H a u) a (putK kvs k v) → Q (upd H a u)
theorem set_T {X : Cx} (hu : X.A.units + 1 < cLine) : PSet X rSetT := by
  intro pins s σ H o i v ov iv u Q I ro ri rv ⟨Z, a, b, k, kvs, le, eo, ei, hk, eb, e, l, q⟩
  subst eo ei
  cases (show ov = Value.ref a from ro)
  cases (show iv = Value.ref b from ri)
  obtain ⟨z, hd, xs, rel, dd⟩ := dp_of I.hok le e
  have hz : xs.length ≤ sizeLine := by rw [← Paired.length rel]; exact z
  refine wpAny_setItem_heap (hsz := hz) (tupleKind_room_in1 hu) (key_ofP I.hok (eb.mono le)) dd fun h' dd' hs => ?_
  obtain ⟨_, J, dp⟩ := write_P (t := s.toks + (tupleKind (mixKind X.prog X.w)).draws k) I e.mut hd rel hk eb rv l dd' hs
  exact ⟨_, J, q _ dp⟩
def setT (x y : AV) (d : PyData) (δ : List Sl) : Rs Unit := match x, (rdC δ y).bind keyT with
  | .ref k, some ks => (match δ[k]? with
    | some (.od kvs) => if tupD kvs = true ∧ kvs.length ≤ cap then .ok () (upS k (.od (putT kvs ks d)) δ) else .bad
    | _ => .bad)
  | _, _ => .bad
def tgST (fo fi : List Sl → Rs AV) (a : AV) (δ : List Sl) : Rs Unit := match a with
  | .val d => (sSt fo δ).bind fun x δ1 => (sSt fi δ1).bind fun y δ2 => setT x y d δ2
  | _ => .bad
theorem DcR.old {K : PySem.W.Frag} {Fz H : Hp} {a : Addr} {kvs : List (PyData × PyData)} (h : DcR K Fz H a kvs) : (∃ ws, H a = some (.dK ws) ∧ RpK K Fz ws kvs) ∨ ∃ ws, DP Fz H a ws ∧ RpT K Fz ws kvs := h.imp (fun ⟨ws, h1, h2⟩ => ⟨ws, h1.1, h2⟩) id
theorem tupD_of {K : PySem.W.Frag} {Fz H : Hp} {a : Addr} {kvs : List (PyData × PyData)} (t : tupD kvs = true) (h : (∃ ws, H a = some (.dK ws) ∧ RpK K Fz ws kvs) ∨ ∃ ws, DP Fz H a ws ∧ RpT K Fz ws kvs) :
    ∃ ws, DE Fz H a ws ∧ RpT K Fz ws kvs := by
  rcases h with ⟨ws, e1, e2⟩ | ⟨ws, e1, e2⟩
  · by_cases hw : ws = []
    · subst hw
      cases e2
      exact ⟨[], .inr ⟨e1, rfl⟩, .nil⟩
    · exfalso
      have no := e2.noT hw
      cases kvs with
      | nil => cases e2; exact hw rfl
      | cons p r =>
        unfold tupD at t
        rw [List.all_cons, Bool.and_eq_true] at t
        obtain ⟨k, hk⟩ := Option.isSome_iff_exists.mp t.1
        exact no k hk
  · exact ⟨ws, .inl e1, e2⟩
section
variable {X : Cx} {W : WX} {pin : List Nat} {pos : Pos}
theorem sg_subT {o i : Expr} {fo fi : List Sl → Rs AV} (hu : X.A.units + 1 < cLine) (ho : SE X W pin o fo) (hi : SE X W pin i fi)
    (ha : ∀ v, assign (.Subscript o i pos) X.env v = (do
      let ov ← holding [v] (eval o X.env)
      let iv ← holding [v, ov] (eval i X.env)
      standAt pos
      holding [v, ov, iv] (setItem ov iv v)
      release [v, ov, iv] []) := by intro _; rfl) : SG X W pin [] (.Subscript o i pos) (tgST fo fi) := pg_mono (pg_sub (se_st ho) (se_st hi) (set_T hu) ha) fun v σ H Q ⟨b, Fz, F, δ, a, hpin, R, A, P⟩ => by
  cases a with
  | tmp s => exact P.elim
  | ref i => exact P.elim
  | val d =>
    have A : Rp X.K Fz v d := A
    have P : PostG X.K X.mg W b Fz [] σ Q ((sSt fo δ).bind fun x δ1 => (sSt fi δ1).bind fun y δ2 => setT x y d δ2) := P
    have two : ∀ (f : List Sl → Rs AV) (Fz1 : Hp) (F1 : Nat → List Addr) (δ1 : List Sl) (H1 : Hp) (k : AV → List Sl → Rs Unit) (R' : VK), Rl X.K b Fz1 F1 δ1 σ H1 → PostG X.K X.mg W b Fz1 [] σ Q ((sSt f δ1).bind k) →
        (∀ v H' Fz' F' x δ', Same Fz1 Fz' → Rl X.K b Fz' F' δ' σ H' → AvS X.K Fz' σ v x → PostG X.K X.mg W b Fz' [] σ Q (k x δ') → R' v H') → rdE X.K X.mg W pin (sSt f) σ H1 R' := fun f Fz1 F1 δ1 H1 k R' Rr PP h => by
      refine ⟨b, Fz1, F1, δ1, hpin, Rr, ?_⟩
      cases q : sSt f δ1 with
      | bad => rw [q] at PP; exact PP
      | er x δ' => rw [q] at PP; exact PostXS.at_ PP
      | ok a δ' =>
        rw [q] at PP
        intro v H' Fz' F' s R2 A2
        cases a with
        | tmp t => exact absurd q (sSt_notmp _ _ _ _)
        | val d => exact h v H' Fz' F' (.val d) δ' s R2 A2 (PostG.le s PP)
        | ref i => exact h v H' Fz' F' (.ref i) δ' s R2 A2 (PostG.le s PP)
    refine two fo Fz F δ H _ _ R P fun ov H1 Fz1 F1 x δ1 s1 R1 A1 P1 => ?_
    refine two fi Fz1 F1 δ1 H1 _ _ R1 P1 fun iv H2 Fz2 F2 y δ2 s2 R2 A2 P2 => ?_
    have A0 : Rp X.K Fz2 v d := (A.mono s1).mono s2
    have A1 := A1.le s2
    unfold setT at P2
    cases x with
    | val e => cases q : (rdC δ2 y).bind keyT <;> (simp only [q] at P2; exact P2.elim)
    | tmp e => exact A1.elim
    | ref k =>
      cases q : (rdC δ2 y).bind keyT with
      | none => simp only [q] at P2; exact P2.elim
      | some ks =>
        simp only [q] at P2
        obtain ⟨kd, g1, g2⟩ := Option.bind_eq_some_iff.mp q
        obtain ⟨c', h1, h2⟩ := rpc_keyF (rdC_ok R2 A2 g1) g2
        have hv : σ[k]? = some (some ov) := A1
        cases q2 : δ2[k]? with
        | none => simp only [q2] at P2; exact P2.elim
        | some t =>
          cases t with
          | od kvs =>
            simp only [q2] at P2
            by_cases c : tupD kvs = true ∧ kvs.length ≤ cap
            · rw [if_pos c] at P2
              obtain ⟨l, e1, e2, e3⟩ := R2.slot k _ q2
              rw [hv] at e1
              cases e1
              obtain ⟨ws, w1, w2⟩ := tupD_of c.1 e3.old
              exact ⟨Fz2, l, c', ks, ws, R2.le, rfl, h1, keyT_I g2, h2, w1, by rw [w2.len]; exact lt_line c.2, fun u dp => P2 _ _ Fz2 _ (Same.refl _) (R2.mutD q2 hv dp (w2.put A0 (keyT_I g2))) (Stored.refl _ _)⟩
            · rw [if_neg c] at P2
              exact P2.elim
          | _ => simp only [q2] at P2; exact P2.elim
end
end Hb
namespace Hb
open PySem PySem.Spec PyProof.Rows L2
end Hb
namespace Hb
open PySem PySem.Spec PyProof.Rows L2
end Hb
namespace Nv
open PySem Hb L2
open Enc (enc)
section
variable {α β γ ε ξ ζ η : Type} [Enc α] [Enc β] [Enc ξ] [TKy ξ] {Γ : Ga} {f g : List Sl → Rs AV} {fa fb fc fi : List Sl → Rs AV}
def stDt (d : Dc (Tp Int) α) (k : ξ) (v : α) : Option (Dc (Tp Int) α) := if d.l.length ≤ cap then some ⟨putC d.l (TKy.tp k) v⟩ else none
end
section
variable {α β γ ε ξ ζ η : Type} [Enc α] [Enc β] [Enc ξ] [TKy ξ] {Γ : Ga} {f fi : List Sl → Rs AV} {g : List Sl → Ot} {R : ζ → Ot → Prop}
theorem bl_setT {k : Nat} {p : Option ε} {va : ε → α} {Γ1 : ε → Ga} {d : ε → Dc (Tp Int) α} {pi : ε → Option ξ} {kont : ε → Dc (Tp Int) α → Option ζ} (h : Ev f Γ p (fun v => .val (enc (va v))) Γ1) (h0 : ∀ v, (Γ1 v)[k]? = some (.eq (od (d v)))) (hi : ∀ v, Rd fi (Γ1 v) (pi v) enc)
    (k2 : ∀ v ys, Bl g (upP k (.eq (od ys)) (Γ1 v)) (kont v ys) R) : Bl (oSeq (oAsg f (tgST (sVar k) fi)) g) Γ (p.bind fun v => (pi v).bind fun i => (stDt (d v) i (va v)).bind (kont v)) R := fun r e δ s => by
  obtain ⟨v, e1, e⟩ := bind_of e
  obtain ⟨i, e2, e⟩ := bind_of e
  obtain ⟨ys, e3, e⟩ := bind_of e
  obtain ⟨δ1, h1, s1⟩ := h v e1 δ s
  obtain ⟨x, q1, q2, _⟩ := hi v i e2 δ1 s1
  have hk := s1.at_ (h0 v)
  unfold stDt at e3
  by_cases c : (d v).l.length ≤ cap
  · rw [if_pos c] at e3
    cases some_of e3
    have hkey : (rdC δ1 x).bind keyT = some (keyI (TKy.tp i)) := by rw [q2]; show keyT (enc i) = _; rw [TKy.h]; exact keyT_tp _
    rw [nx_of (show oAsg f (tgST (sVar k) fi) δ = .nx (upS k (od (⟨putC (d v).l (TKy.tp i) (va v)⟩ : Dc (Tp Int) α)) δ1) by
      unfold oAsg
      rw [h1]
      show (tgST (sVar k) fi (.val (enc (va v))) δ1).otU = _
      unfold tgST
      show ((sSt (sVar k) δ1).bind _).otU = _
      rw [sSt_ref (by unfold sVar; rw [hk]; rfl)]
      show ((sSt fi δ1).bind _).otU = _
      rw [q1]
      show (setT (.ref k) x (enc (va v)) δ1).otU = _
      have hk2 : δ1[k]? = some (.od ((d v).l.map fun p => (enc p.1, enc p.2))) := hk
      simp only [setT, hkey, hk2, tupD_enc, List.length_map, c, and_self, if_true, putT_enc]
      rfl)]
    exact k2 v _ r e _ (s1.up rfl)
  · rw [if_neg c] at e3
    cases e3
end
end Nv
namespace Hb
open PySem PySem.Spec PyProof.Rows L2
end Hb
namespace Hb
open PySem PySem.Spec PyProof.Rows L2
end Hb
namespace Hb
open PySem PySem.Spec PyProof.Rows L2
end Hb
namespace Nv
open PySem Hb L2
open Enc (enc)
end Nv
namespace Nv
open PySem Hb L2
open Enc (enc)
end Nv
namespace Nv
open PySem Hb L2
open Enc (enc)
end Nv
namespace Nv
open PySem Hb L2
open Enc (enc)
end Nv
namespace Hb
open PySem PySem.Spec PyProof.Rows L2
end Hb
namespace Nv
open PySem Hb L2
open Enc (enc)
section
variable {α β γ ε ζ : Type} {Γ : Ga} {f : List Sl → Rs AV} {g : List Sl → Rs (List PyData)}
theorem dp_starT [Enc α] {p : Option ε} {xs : ε → Tp α} {q : Option ζ} {ds : ζ → List PyData} (h : Pu (sTk f) Γ p fun v => .val (enc (xs v))) (h2 : DlP g Γ q ds) : DlP (lStar f g) Γ (p.bind fun x => q.bind fun y => some (x, y)) fun v => (xs v.1).l.map enc ++ ds v.2 := fun r e δ s => by
  obtain ⟨v, e1, e⟩ := bind_of e
  obtain ⟨w, e2, e⟩ := bind_of e
  cases some_of e
  unfold lStar Rs.val
  rw [h v e1 δ s]
  show (g δ).bind _ = _
  rw [h2 w e2 δ s]
  rfl
theorem pu_tupC [Enc α] {p : Option β} {ds : β → List PyData} (h : DlP g Γ p ds) (xs : β → List α) (hx : ∀ v, ds v = (xs v).map enc := by intro _; simp only [List.map_append, List.map_cons, List.map_nil, List.append_assoc, List.cons_append, List.nil_append, List.append_nil]) : Pu (sTup g) Γ (p.bind fun v => if (xs v).length ≤ cap then some (Tp.mk (xs v)) else none) fun r => .val (enc r) := fun r e δ s => by
  obtain ⟨v, e1, e⟩ := bind_of e
  by_cases c : (xs v).length ≤ cap
  · rw [if_pos c] at e
    cases some_of e
    unfold sTup
    rw [h v e1 δ s]
    show (if (ds v).length ≤ cap then _ else _) = _
    rw [hx v, List.length_map, if_pos c]
    rfl
  · rw [if_neg c] at e
    cases e
end
end Nv
namespace P
open PySem PySem.Spec PyProof.Rows L2 Hb Nv
open Enc (enc)
def B_all_tellings : List Sl → Ot :=
    oSeq (oAsg (sLst (lCons (sTup (lNil)) (lNil))) (tgN 2))
    (oSeq (oFor (wRng1 (sVar 1)) (tgN 3) (oSeq (oAsg (sLst (lNil)) (tgN 4))
    (oSeq (oFor (wSeq (sVar 2)) (tgN 5) (oDrop (sExt (sVar 4) (sLc false (wRng2 (sIf (sTst (s2 gNe (sVar 5) (sTup (lNil)))) (s2 gIx2 (sVar 5) (s1 gNeg (sC (.int 1)))) (sC (.int 0))) (sVar 0)) [6] (tgN 6) (tOk) (sTk (sTup (lStar (sVar 5) (lCons (sVar 6) (lNil)))))))))
    (oAsg (sMv (sVar 4)) (tgN 2)))))
    (oRet (sVar 2)))
def F_all_tellings : List Sl → FR := fnRun 2 7 [] B_all_tellings
def n_all_tellings (a0 : Int) (a1 : Int) : Option ((List (Tp Int))) :=
    (Option.bind (Option.bind (Option.bind (some (Tp.mk [])) fun x1 => Option.bind (some ()) fun x3 => some (x1, x3)) fun x2 => some ([(Prod.fst x2)] : (List (Tp Int)))) fun x4 => (Option.bind (Option.bind (some a1) fun x5 => ri1 x5) fun x6 => Option.bind (forS x6 (x4 : (List (Tp Int))) fun s8 x7 => (Option.bind (some []) fun x9 => (Option.bind (some s8) fun x11 => Option.bind (forS x11 (x9 : (List (Tp Int))) fun s13 x12 => (Option.bind (Option.bind (Option.bind (Option.bind (Option.bind (Option.bind (some x12) fun x14 => Option.bind (some (Tp.mk [])) fun x15 => neN x14 x15) fun x19 => if x19 = true then (Option.bind (some x12) fun x17 => Option.bind (Option.bind (some (1 : Int)) fun x16 => negI x16) fun x18 => atT x17 x18) else (some (0 : Int))) fun x20 => Option.bind (some a0) fun x21 => ri2 x20 x21) fun x22 => if List.length (x22) ≤ cap then mapF x22 (fun x23 => (some true)) (fun x23 => (Option.bind (Option.bind (some x12) fun x26 => Option.bind (Option.bind (some x23) fun x24 => Option.bind (some ()) fun x25 => some (x24, x25)) fun x27 => some (x26, x27)) fun x28 => if List.length ((Tp.l ((Prod.fst x28) : Tp Int)) ++ ([((Prod.fst (Prod.snd x28)) : Int)]) : List Int) ≤ cap then some (Tp.mk ((Tp.l ((Prod.fst x28) : Tp Int)) ++ ([((Prod.fst (Prod.snd x28)) : Int)]) : List Int)) else none)) else none) fun x29 => Option.bind (exL s13 x29) fun x30 => some (x30, x29)) fun x31 => some ((Prod.fst x31) : (List (Tp Int))))) fun s13 => some (s13 : (List (Tp Int)))))) fun s8 => some s8))
theorem V_all_tellings (a0 : Int) (a1 : Int) : Fun F_all_tellings (n_all_tellings a0 a1) [.fz (enc a0), .fz (enc a1)] (fun r : ((List (Tp Int))) => ow (r : (List (Tp Int)))) fun r => [.no, .no] :=
  fun_of (ΓR := fun r => [.aa, .aa, .aa, .aa, .aa, .aa, .aa]) (show Bl B_all_tellings _ _ _ from (bl_ga [.eq (.fz (enc (a0 : Int))), .eq (.fz (enc (a1 : Int))), .eq .no, .eq .no, .eq .no, .eq .no, .eq .no] (by kernel_rfl) (bl_asgT ((pu_lst (dp_cons (pu_nilT).tkP dp_nil) (fun x2 => ([(Prod.fst x2)] : (List (Tp Int)))))).ev fun x4 => (bl_ga [.eq (.fz (enc (a0 : Int))), .eq (.fz (enc (a1 : Int))), .eq (ow (x4 : (List (Tp Int)))), .eq .no, .eq .no, .eq .no, .eq .no] (by kernel_rfl) (bl_for (vs := [3]) (xs := fun x6 => x6) (s0 := fun x6 => (x4 : (List (Tp Int)))) (ΓL := fun x6 (s8 : (List (Tp Int))) => [.eq (.fz (enc (a0 : Int))), .eq (.fz (enc (a1 : Int))), .eq (ow (s8 : (List (Tp Int)))), .pl, .eq .no, .pl, .eq .no]) ((ip_rng1 ((pu_var 1 rfl)).tkP)).it (fun x6 => (.cons .rfl (.cons .rfl (.cons .rfl (.cons .no (.cons .rfl (.cons .no (.cons .rfl .nil)))))))) (fun x6 s8 x7 => tg_n) (fun x6 s8 x7 => (bl_ga [.eq (.fz (enc (a0 : Int))), .eq (.fz (enc (a1 : Int))), .eq (ow (s8 : (List (Tp Int)))), .eq (.fz (enc (x7 : Int))), .eq .no, .pl, .eq .no] (by kernel_rfl) (bl_asgT (pu_nil).ev fun x9 => (bl_ga [.eq (.fz (enc (a0 : Int))), .eq (.fz (enc (a1 : Int))), .eq (ow (s8 : (List (Tp Int)))), .eq (.fz (enc (x7 : Int))), .eq (ow (x9 : (List (Tp Int)))), .pl, .eq .no] (by kernel_rfl) (bl_for (vs := [5]) (xs := fun x11 => x11) (s0 := fun x11 => (x9 : (List (Tp Int)))) (ΓL := fun x11 (s13 : (List (Tp Int))) => [.eq (.fz (enc (a0 : Int))), .eq (.fz (enc (a1 : Int))), .eq (.fz (enc (x11 : (List (Tp Int))))), .eq (.fz (enc (x7 : Int))), .eq (ow (s13 : (List (Tp Int)))), .pl, .eq .no]) (it_seq (xs := fun x10 => x10) (tk_own 2 rfl)) (fun x11 => (gale_ga [.eq (.fz (enc (a0 : Int))), .eq (.fz (enc (a1 : Int))), .eq (.fz (enc (x11 : (List (Tp Int))))), .eq (.fz (enc (x7 : Int))), .eq (ow (x9 : (List (Tp Int)))), .pl, .eq .no] (by kernel_rfl) (.cons .rfl (.cons .rfl (.cons .rfl (.cons .rfl (.cons .rfl (.cons .rfl (.cons .rfl .nil))))))))) (fun x11 s13 x12 => tg_n) (fun x11 s13 x12 => (bl_ga [.eq (.fz (enc (a0 : Int))), .eq (.fz (enc (a1 : Int))), .eq (.fz (enc (x11 : (List (Tp Int))))), .eq (.fz (enc (x7 : Int))), .eq (ow (s13 : (List (Tp Int)))), .eq (.fz (enc (x12 : (Tp Int)))), .eq .no] (by kernel_rfl) (bl_last (bl_expr (ev_ext (k := 4) (va := fun x29 => x29) (xs := fun x29 => s13) rfl rfl ((((pu_lc (vs := [6]) (ip_rng2 ((pu_if (ts_tst (pu2A Nv.op_ne (((pu_var 5 rfl)).rd).ra ((pu_nilT).rd).ra)) (pu2 Nv.op_ixT2 ((pu_var 5 rfl)).rd ((pu1 Nv.op_neg (pu_c).rd)).rd) pu_c)).tkP ((pu_var 0 rfl)).tkP) rfl rfl (fun x22 x23 => tg_n) (fun x22 x23 => (ts_ga [.eq (.fz (enc (a0 : Int))), .eq (.fz (enc (a1 : Int))), .eq (.fz (enc (x11 : (List (Tp Int))))), .eq (.fz (enc (x7 : Int))), .eq (ow (s13 : (List (Tp Int)))), .eq (.fz (enc (x12 : (Tp Int)))), .eq (.fz (enc (x23 : Int)))] (by kernel_rfl) ts_ok)) fun x22 x23 => (pu_ga [.eq (.fz (enc (a0 : Int))), .eq (.fz (enc (a1 : Int))), .eq (.fz (enc (x11 : (List (Tp Int))))), .eq (.fz (enc (x7 : Int))), .eq (ow (s13 : (List (Tp Int)))), .eq (.fz (enc (x12 : (Tp Int)))), .eq (.fz (enc (x23 : Int)))] (by kernel_rfl) ((pu_tupC (dp_starT ((pu_var 5 rfl)).tkP (dp_cons ((pu_var 6 rfl)).tkP dp_nil)) (fun x28 => ((Tp.l ((Prod.fst x28) : Tp Int)) ++ ([((Prod.fst (Prod.snd x28)) : Int)]) : List Int)))).tkP))).tkTP ow_tree)).ev fun _ => rfl) fun x31 => (bl_ga [.eq (.fz (enc (a0 : Int))), .eq (.fz (enc (a1 : Int))), .eq (.fz (enc (x11 : (List (Tp Int))))), .eq (.fz (enc (x7 : Int))), .eq (ow ((Prod.fst x31) : (List (Tp Int)))), .eq (.fz (enc (x12 : (Tp Int)))), .eq .no] (by kernel_rfl) (bl_end (rs_nx (.cons .rfl (.cons .rfl (.cons .rfl (.cons .rfl (.cons .rfl (.cons .fz (.cons .rfl .nil)))))))))))))) fun x11 s13 => (bl_last (bl_mv (k := 2) (j := 4) rfl rfl (bl_ga [.eq (.fz (enc (a0 : Int))), .eq (.fz (enc (a1 : Int))), .eq (ow (s13 : (List (Tp Int)))), .eq (.fz (enc (x7 : Int))), .eq .no, .pl, .eq .no] (by kernel_rfl) (bl_end (rs_nx (.cons .rfl (.cons .rfl (.cons .rfl (.cons .fz (.cons .rfl (.cons .rfl (.cons .rfl .nil))))))))))))))))) fun x6 s8 => (bl_retO (k := 2) rfl rfl (sat_ga [.eq (.fz (enc (a0 : Int))), .eq (.fz (enc (a1 : Int))), .eq .no, .pl, .eq .no, .pl, .eq .no] (by kernel_rfl) (rf_eq rfl (.cons .aa (.cons .aa (.cons .aa (.cons .aa (.cons .aa (.cons .aa (.cons .aa .nil)))))))))))))))
end P
namespace P
open PySem PySem.Spec PyProof.Rows L2 Hb Nv
open Enc (enc)
def B_need_table : List Sl → Ot :=
    oIf (sNot (sTru (sCall F_are_places [] (rCons (sTk (sVar 0)) (rCons (sTk (sVar 2)) (rCons (sTk (s1 (gRd lenD) (sCall F_all_tellings [] (rCons (sTk (sVar 0)) (rCons (sTk (sVar 1)) (rNil)))))) (rNil))))))) (oRaise "InvalidTable") (oNext)
def F_need_table : List Sl → FR := fnRun 3 3 [] B_need_table
def n_need_table (a0 : Int) (a1 : Int) (a2 : (List Int)) : Option (Unit) :=
    (Option.bind (Option.bind (Option.bind (Option.bind (some a0) fun x1 => Option.bind (Option.bind (some a2) fun x2 => Option.bind (Option.bind (Option.bind (Option.bind (Option.bind (some a0) fun x3 => Option.bind (Option.bind (some a1) fun x4 => Option.bind (some ()) fun x5 => some (x4, x5)) fun x6 => some (x3, x6)) fun x7 => n_all_tellings ((Prod.fst x7) : Int) ((Prod.fst (Prod.snd x7)) : Int)) fun x8 => lenL x8) fun x9 => Option.bind (some ()) fun x10 => some (x9, x10)) fun x11 => some (x2, x11)) fun x12 => some (x1, x12)) fun x13 => n_are_places ((Prod.fst x13) : Int) ((Prod.fst (Prod.snd x13)) : (List Int)) ((Prod.fst (Prod.snd (Prod.snd x13))) : Int)) fun x15 => some !x15) fun x16 => if x16 = true then none else some ())
theorem V_need_table (a0 : Int) (a1 : Int) (a2 : (List Int)) : Fun F_need_table (n_need_table a0 a1 a2) [.fz (enc a0), .fz (enc a1), .fz (enc a2)] (fun r : (Unit) => .fz (enc (r : Unit))) fun r => [.no, .no, .no] :=
  fun_of (ΓR := fun r => [.aa, .aa, .aa]) (show Bl B_need_table _ _ _ from (bl_ga [.eq (.fz (enc (a0 : Int))), .eq (.fz (enc (a1 : Int))), .eq (.fz (enc (a2 : (List Int))))] (by kernel_rfl) (bl_last (bl_if (k := fun x16 => x16) ((ts_not (ts_truB (((pu_call (ap_cons ((pu_var 0 rfl)).tkP (ap_cons ((pu_var 2 rfl)).tkP (ap_cons ((pu1A Nv.op_len ((((pu_call (ap_cons ((pu_var 0 rfl)).tkP (ap_cons ((pu_var 1 rfl)).tkP ap_nil)) (fun x7 => V_all_tellings ((Prod.fst x7) : Int) ((Prod.fst (Prod.snd x7)) : Int)))).rdT ow_tree)).ra)).tkP ap_nil))) (fun x13 => V_are_places ((Prod.fst x13) : Int) ((Prod.fst (Prod.snd x13)) : (List Int)) ((Prod.fst (Prod.snd (Prod.snd x13))) : Int)))).rd).ra))).te' (fun x16 => bl_bad) fun x16 => (bl_next (bl_end (rf_nx rfl (.cons .aa (.cons .aa (.cons .aa .nil))))))))))
end P
namespace P
open PySem PySem.Spec PyProof.Rows L2 Hb Nv
open Enc (enc)
def B_rule_of : List Sl → Ot :=
    oRet (sDcT (wZip (sCall F_all_tellings [] (rCons (sTk (sVar 0)) (rCons (sTk (sVar 1)) (rNil)))) (sVar 2)) [3, 4] (tgT 2 (tgCons (tgN 3) (tgCons (tgN 4) (tgNil)))) (tOk) (sTk (sVar 3)) (sTk (sVar 4)))
def F_rule_of : List Sl → FR := fnRun 3 5 [] B_rule_of
def n_rule_of (a0 : Int) (a1 : Int) (a2 : (List Int)) : Option ((Dc (Tp Int) Int)) :=
    (Option.bind (Option.bind (Option.bind (Option.bind (Option.bind (some a0) fun x1 => Option.bind (Option.bind (some a1) fun x2 => Option.bind (some ()) fun x3 => some (x2, x3)) fun x4 => some (x1, x4)) fun x5 => n_all_tellings ((Prod.fst x5) : Int) ((Prod.fst (Prod.snd x5)) : Int)) fun x6 => Option.bind (some a2) fun x7 => some (List.zip x6 x7)) fun x8 => if List.length (x8) ≤ cap then Option.bind (mapF x8 (fun x9 => (some true)) (fun x9 => Option.bind (some (Prod.fst x9)) fun x10 => Option.bind (some (Prod.snd x9)) fun x11 => some (TKy.tp x10, x11))) fun x12 => some (dtOf x12) else none) fun x13 => some x13)
theorem V_rule_of (a0 : Int) (a1 : Int) (a2 : (List Int)) : Fun F_rule_of (n_rule_of a0 a1 a2) [.fz (enc a0), .fz (enc a1), .fz (enc a2)] (fun r : ((Dc (Tp Int) Int)) => od (r : (Dc (Tp Int) Int))) fun r => [.no, .no, .no] :=
  fun_of (ΓR := fun r => [.aa, .aa, .aa, .aa, .aa]) (show Bl B_rule_of _ _ _ from (bl_ga [.eq (.fz (enc (a0 : Int))), .eq (.fz (enc (a1 : Int))), .eq (.fz (enc (a2 : (List Int)))), .eq .no, .eq .no] (by kernel_rfl) (bl_retT ((pu_dcT (vs := [3, 4]) (ip_zip (xs := fun v => v) (ys := fun v => v) (((pu_call (ap_cons ((pu_var 0 rfl)).tkP (ap_cons ((pu_var 1 rfl)).tkP ap_nil)) (fun x5 => V_all_tellings ((Prod.fst x5) : Int) ((Prod.fst (Prod.snd x5)) : Int)))).tkTP ow_tree) ((pu_var 2 rfl)).tkP) rfl rfl (fun x8 x9 => (tg_t (tgs_cons tg_n (tgs_cons tg_n tgs_nil)))) (fun x8 x9 => (ts_ga [.eq (.fz (enc (a0 : Int))), .eq (.fz (enc (a1 : Int))), .eq (.fz (enc (a2 : (List Int)))), .eq (.fz (enc ((Prod.fst x9) : (Tp Int)))), .eq (.fz (enc ((Prod.snd x9) : Int)))] (by kernel_rfl) ts_ok)) (fun x8 x9 => (pu_ga [.eq (.fz (enc (a0 : Int))), .eq (.fz (enc (a1 : Int))), .eq (.fz (enc (a2 : (List Int)))), .eq (.fz (enc ((Prod.fst x9) : (Tp Int)))), .eq (.fz (enc ((Prod.snd x9) : Int)))] (by kernel_rfl) ((pu_var 3 rfl)).tkP)) fun x8 x9 => (pu_ga [.eq (.fz (enc (a0 : Int))), .eq (.fz (enc (a1 : Int))), .eq (.fz (enc (a2 : (List Int)))), .eq (.fz (enc ((Prod.fst x9) : (Tp Int)))), .eq (.fz (enc ((Prod.snd x9) : Int)))] (by kernel_rfl) ((pu_var 4 rfl)).tkP))).ev fun x13 => (rf_eq rfl (.cons .aa (.cons .aa (.cons .aa (.cons .aa (.cons .aa .nil)))))))))
end P
namespace P
open PySem PySem.Spec PyProof.Rows L2 Hb Nv
open Enc (enc)
def B_made_of : List Sl → Ot :=
    oSeq (oDrop (sCall F_need_people [] (rCons (sTk (sVar 0)) (rCons (sTk (sVar 1)) (rNil)))))
    (oSeq (oDrop (sCall F_need_table [] (rCons (sTk (sVar 0)) (rCons (sTk (sVar 1)) (rCons (sTk (sVar 2)) (rNil))))))
    (oSeq (oIf (sNot (sTru (sCall F_are_places [] (rCons (sTk (sVar 0)) (rCons (sTk (sVar 3)) (rCons (sTk (sVar 1)) (rNil))))))) (oRaise "InvalidTelling") (oNext))
    (oRet (s2 gDixT (sCall F_rule_of [] (rCons (sTk (sVar 0)) (rCons (sTk (sVar 1)) (rCons (sTk (sVar 2)) (rNil))))) (s1 (gTuple) (s1 (gSortD) (sVar 3)))))))
def F_made_of : List Sl → FR := fnRun 4 4 [] B_made_of
def n_made_of (a0 : Int) (a1 : Int) (a2 : (List Int)) (a3 : (List Int)) : Option (Int) :=
    (Option.bind (Option.bind (Option.bind (some a0) fun x1 => Option.bind (Option.bind (some a1) fun x2 => Option.bind (some ()) fun x3 => some (x2, x3)) fun x4 => some (x1, x4)) fun x5 => n_need_people ((Prod.fst x5) : Int) ((Prod.fst (Prod.snd x5)) : Int)) fun x6 => (Option.bind (Option.bind (Option.bind (some a0) fun x7 => Option.bind (Option.bind (some a1) fun x8 => Option.bind (Option.bind (some a2) fun x9 => Option.bind (some ()) fun x10 => some (x9, x10)) fun x11 => some (x8, x11)) fun x12 => some (x7, x12)) fun x13 => n_need_table ((Prod.fst x13) : Int) ((Prod.fst (Prod.snd x13)) : Int) ((Prod.fst (Prod.snd (Prod.snd x13))) : (List Int))) fun x14 => (Option.bind (Option.bind (Option.bind (Option.bind (some a0) fun x15 => Option.bind (Option.bind (some a3) fun x16 => Option.bind (Option.bind (some a1) fun x17 => Option.bind (some ()) fun x18 => some (x17, x18)) fun x19 => some (x16, x19)) fun x20 => some (x15, x20)) fun x21 => n_are_places ((Prod.fst x21) : Int) ((Prod.fst (Prod.snd x21)) : (List Int)) ((Prod.fst (Prod.snd (Prod.snd x21))) : Int)) fun x23 => some !x23) fun x24 => if x24 = true then none else (Option.bind (Option.bind (Option.bind (Option.bind (some a0) fun x25 => Option.bind (Option.bind (some a1) fun x26 => Option.bind (Option.bind (some a2) fun x27 => Option.bind (some ()) fun x28 => some (x27, x28)) fun x29 => some (x26, x29)) fun x30 => some (x25, x30)) fun x31 => n_rule_of ((Prod.fst x31) : Int) ((Prod.fst (Prod.snd x31)) : Int) ((Prod.fst (Prod.snd (Prod.snd x31))) : (List Int))) fun x34 => Option.bind (Option.bind (Option.bind (some a3) fun x32 => srtC x32) fun x33 => tupL x33) fun x35 => lookDt x34 x35) fun x36 => some x36))))
theorem V_made_of (a0 : Int) (a1 : Int) (a2 : (List Int)) (a3 : (List Int)) : Fun F_made_of (n_made_of a0 a1 a2 a3) [.fz (enc a0), .fz (enc a1), .fz (enc a2), .fz (enc a3)] (fun r : (Int) => .fz (enc (r : Int))) fun r => [.no, .no, .no, .no] :=
  fun_of (ΓR := fun r => [.aa, .aa, .aa, .aa]) (show Bl B_made_of _ _ _ from (bl_ga [.eq (.fz (enc (a0 : Int))), .eq (.fz (enc (a1 : Int))), .eq (.fz (enc (a2 : (List Int)))), .eq (.fz (enc (a3 : (List Int))))] (by kernel_rfl) (bl_expr ((pu_call (ap_cons ((pu_var 0 rfl)).tkP (ap_cons ((pu_var 1 rfl)).tkP ap_nil)) (fun x5 => V_need_people ((Prod.fst x5) : Int) ((Prod.fst (Prod.snd x5)) : Int)))).ev fun x6 => (bl_ga [.eq (.fz (enc (a0 : Int))), .eq (.fz (enc (a1 : Int))), .eq (.fz (enc (a2 : (List Int)))), .eq (.fz (enc (a3 : (List Int))))] (by kernel_rfl) (bl_expr ((pu_call (ap_cons ((pu_var 0 rfl)).tkP (ap_cons ((pu_var 1 rfl)).tkP (ap_cons ((pu_var 2 rfl)).tkP ap_nil))) (fun x13 => V_need_table ((Prod.fst x13) : Int) ((Prod.fst (Prod.snd x13)) : Int) ((Prod.fst (Prod.snd (Prod.snd x13))) : (List Int))))).ev fun x14 => (bl_ga [.eq (.fz (enc (a0 : Int))), .eq (.fz (enc (a1 : Int))), .eq (.fz (enc (a2 : (List Int)))), .eq (.fz (enc (a3 : (List Int))))] (by kernel_rfl) (bl_if (k := fun x24 => x24) ((ts_not (ts_truB (((pu_call (ap_cons ((pu_var 0 rfl)).tkP (ap_cons ((pu_var 3 rfl)).tkP (ap_cons ((pu_var 1 rfl)).tkP ap_nil))) (fun x21 => V_are_places ((Prod.fst x21) : Int) ((Prod.fst (Prod.snd x21)) : (List Int)) ((Prod.fst (Prod.snd (Prod.snd x21))) : Int)))).rd).ra))).te' (fun x24 => bl_bad) fun x24 => (bl_next (bl_retV ((pu2M op_dixT ((((pu_call (ap_cons ((pu_var 0 rfl)).tkP (ap_cons ((pu_var 1 rfl)).tkP (ap_cons ((pu_var 2 rfl)).tkP ap_nil))) (fun x31 => V_rule_of ((Prod.fst x31) : Int) ((Prod.fst (Prod.snd x31)) : Int) ((Prod.fst (Prod.snd (Prod.snd x31))) : (List Int))))).rdT fun _ => rfl)).ra ((pu1 Nv.op_tup (((pu1 Nv.op_srtC ((pu_var 3 rfl)).rd)).rdT ow_tree))).rd)).ev fun x36 => (rf_eq rfl (.cons .aa (.cons .aa (.cons .aa (.cons .aa .nil))))))))))))))
end P
namespace Hb
open PySem PySem.Spec PyProof.Rows L2
end Hb
namespace Hb
open PySem PySem.Spec PyProof.Rows L2
end Hb
namespace Hb
open PySem PySem.Spec PyProof.Rows L2
def leafOf : PyData → Option Leaf
  | .none => some .none
  | .int i => some (.num i)
  | .str x => some (.text x)
  | _ => none
def leafsOf : List PyData → Option (List Leaf)
  | [] => some []
  | d :: r => (leafOf d).bind fun k => (leafsOf r).map (k :: ·)
def keyL : PyData → Option (List Leaf)
  | .tuple ds => leafsOf ds
  | _ => none
end Hb
namespace Nv
open PySem Hb L2
open Enc (enc)
class LKy (ξ : Type) [Enc ξ] where
  leaf : ξ → List Leaf
  h : ∀ x : ξ, keyL (enc x) = some (leaf x)
  n : ∀ x : ξ, Leaf.none ∈ leaf x
instance : LKy (Int × Unit) := ⟨fun x => [.num x.1, .none], fun _ => rfl, fun _ => by simp⟩
section
variable {α β γ ε ξ ζ : Type} [Enc α] [Enc ξ] [LKy ξ] {Γ : Ga} {f fi fe : List Sl → Rs AV} {g : List Sl → Ot} {R : ζ → Ot → Prop}
end
end Nv
namespace Nv
open PySem Hb L2
open Enc (enc)
/-- a value as one of a type, if it is one -/
class UnA (α : Type) [Enc α] where
  un : PyData → Option α
  h : ∀ {v : PyData} {w : α}, un v = some w → (enc w : PyData) = v
instance : UnA PyData := ⟨some, fun h => by cases h; rfl⟩
instance : UnA Int := ⟨fun v => match v with | .int i => some i | _ => none, fun {v w} h => by
  cases v <;> first | (cases h; rfl) | exact nomatch h⟩
instance : UnA Str := ⟨fun v => match v with | .str i => some i | _ => none, fun {v w} h => by
  cases v <;> first | (cases h; rfl) | exact nomatch h⟩
def unL [Enc α] [UnA α] : List PyData → Option (List α)
  | [] => some []
  | x :: r => (UnA.un x).bind fun y => (unL r).bind fun ys => some (y :: ys)
theorem unL_h [Enc α] [UnA α] : ∀ {xs : List PyData} {ys : List α}, unL xs = some ys → ys.map enc = xs
  | [], _, h => by cases h; rfl
  | x :: r, ys, h => by
    unfold unL at h
    obtain ⟨y, e1, h⟩ := bind_of h
    obtain ⟨zs, e2, h⟩ := bind_of h
    cases h
    rw [List.map_cons, UnA.h e1, unL_h e2]
instance [Enc α] [UnA α] : UnA (Tp α) := ⟨fun v => match v with | .tuple xs => (unL xs).bind fun ys => some ⟨ys⟩ | _ => none, fun {v w} h => by
  cases v with
  | tuple xs =>
    obtain ⟨ys, e, h⟩ := bind_of (p := unL xs) h
    cases h
    show PyData.tuple (ys.map enc) = _
    rw [unL_h e]
  | _ => exact nomatch h⟩
instance [Enc α] [UnA α] : UnA (List α) := ⟨fun v => match v with | .list xs => unL xs | _ => none, fun {v w} h => by
  cases v with
  | list xs =>
    show PyData.list (w.map enc) = _
    rw [unL_h (xs := xs) h]
  | _ => exact nomatch h⟩
instance [Enc α] [UnA α] [Enc β] [UnA β] : UnA (α × β) := ⟨fun v => match v with | .tuple [x, y] => (UnA.un x).bind fun a => (UnA.un y).bind fun b => some (a, b) | _ => none, fun {v w} h => by
  split at h
  · obtain ⟨a, e1, h⟩ := bind_of h
    obtain ⟨b, e2, h⟩ := bind_of h
    cases h
    show PyData.tuple [enc a, enc b] = _
    rw [UnA.h e1, UnA.h e2]
  · exact nomatch h⟩
instance [Enc α] [UnA α] [Enc β] [UnA β] [Enc γ] [UnA γ] : UnA (T3 α β γ) := ⟨fun v => match v with | .tuple [x, y, z] => (UnA.un x).bind fun a => (UnA.un y).bind fun b => (UnA.un z).bind fun c => some ⟨a, b, c⟩ | _ => none, fun {v w} h => by
  split at h
  · obtain ⟨a, e1, h⟩ := bind_of h
    obtain ⟨b, e2, h⟩ := bind_of h
    obtain ⟨c, e3, h⟩ := bind_of h
    cases h
    show PyData.tuple [enc a, enc b, enc c] = _
    rw [UnA.h e1, UnA.h e2, UnA.h e3]
  · exact nomatch h⟩
instance [Enc α] [UnA α] [Enc β] [UnA β] [Enc γ] [UnA γ] [Enc δ] [UnA δ] : UnA (T4 α β γ δ) := ⟨fun v => match v with | .tuple [x, y, z, t] => (UnA.un x).bind fun a => (UnA.un y).bind fun b => (UnA.un z).bind fun c => (UnA.un t).bind fun d => some ⟨a, b, c, d⟩ | _ => none, fun {v w} h => by
  split at h
  · obtain ⟨a, e1, h⟩ := bind_of h
    obtain ⟨b, e2, h⟩ := bind_of h
    obtain ⟨c, e3, h⟩ := bind_of h
    obtain ⟨d, e4, h⟩ := bind_of h
    cases h
    show PyData.tuple [enc a, enc b, enc c, enc d] = _
    rw [UnA.h e1, UnA.h e2, UnA.h e3, UnA.h e4]
  · exact nomatch h⟩
end Nv
namespace Hb
open PySem PySem.Spec PyProof.Rows L2
end Hb
namespace Nv
open PySem Hb L2
open Enc (enc)
end Nv
namespace Hb
open PySem PySem.Spec PyProof.Rows L2
section
variable {X : Cx} {W : WX} {pin : List Nat} {es ns : List Expr} {g : List Sl → Rs (List Ar)} {pos : Pos}
end
end Hb
namespace Hb
open PySem PySem.Spec PyProof.Rows L2
open PySem.W (AlikeAll)
end Hb
namespace Nv
open PySem Hb L2
open Enc (enc)
end Nv
namespace Nv
open PySem Hb L2
open Enc (enc)
end Nv
namespace Hb
open PySem PySem.Spec PyProof.Rows L2
end Hb
namespace Nv
open PySem Hb L2
open Enc (enc)
end Nv
namespace Hb
open PySem PySem.Spec PyProof.Rows L2
end Hb
namespace Nv
open PySem Hb L2
open Enc (enc)
end Nv
namespace Hb
open PySem PySem.Spec PyProof.Rows L2
end Hb
namespace Nv
open PySem Hb L2
open Enc (enc)
end Nv
namespace Hb
open PySem PySem.Spec PyProof.Rows L2
end Hb
namespace Hb
open PySem PySem.Spec PyProof.Rows L2
end Hb
namespace Nv
open PySem Hb L2
open Enc (enc)
end Nv
namespace Hb
open PySem PySem.Spec PyProof.Rows L2
section
variable {X : Cx}
end
end Hb
namespace Nv
open PySem Hb L2
open Enc (enc)
section
variable {α : Type} [Enc α]
end
end Nv
namespace Nv
open PySem Hb L2
open Enc (enc)
end Nv
namespace HT
open PySem PySem.Spec PyProof.Rows PySem.Builtin.Slice L2
section
variable {prog : Program} {w : World} {A : Around} {E : Value → Shared → Prop} {s : Shared}
theorem sliceApplied_rev {sl : Addr} {vl vu vs : Value} {n : Nat} {Q : Int × Int × Nat → Shared → Prop} (hs : s.heap.IsSliceOf sl vl vu vs) (pl : IsPart vl none) (pu : IsPart vu none) (ps : IsPart vs (some (-1)))
    (h : Q ((n : Int) - 1, -1, n) s) : wpAny (model prog w) A (Builtin.Slice.sliceApplied (.ref sl) (pure (n : Int))) Q E s := by
  obtain ⟨os, hos, hcs, hds⟩ := id hs
  unfold Builtin.Slice.sliceApplied Builtin.Slice.sliceFields
  refine wpAny_bind (wpAny_bind (wpAny_field hos hds (x := vl) rfl (wpAny_bind (wpAny_field hos hds (x := vu) rfl (wpAny_bind (wpAny_field hos hds (x := vs) rfl (wpAny_pure ?_)))))))
  refine wpAny_bind (slicePart_ ps ?_)
  show wpAny _ _ (if ((-1 : Int) == 0) = true then _ else _) _ _ s
  rw [if_neg (by decide)]
  refine wpAny_bind (slicePart_ pl (wpAny_bind (slicePart_ pu (wpAny_bind (wpAny_pure ?_)))))
  show wpAny _ _ (pure ((n : Int) - 1, (-1 : Int), Builtin.Slice.slicePlaces ((n : Int) - 1) (-1) (-1))) _ _ s
  have e : Builtin.Slice.slicePlaces ((n : Int) - 1) (-1) (-1) = n := by
    unfold Builtin.Slice.slicePlaces
    rw [if_neg (by decide)]
    by_cases c : (n : Int) - 1 > -1
    · rw [if_pos c]
      show (((n : Int) - 1 - -1 - 1) / 1 + 1).toNat = n
      rw [Int.ediv_one]
      omega
    · rw [if_neg c]
      omega
  rw [e]
  exact wpAny_pure h
theorem filterMap_cg {α β : Type} {f g : α → Option β} : ∀ {l : List α}, (∀ m ∈ l, f m = g m) → l.filterMap f = l.filterMap g
  | [], _ => rfl
  | a :: r, h => by
    rw [List.filterMap_cons, List.filterMap_cons, h a List.mem_cons_self, filterMap_cg fun m hm => h m (List.mem_cons_of_mem _ hm)]
theorem pick_rev (xs : Array Value) : ((List.range xs.size).filterMap fun (m : Nat) => xs[(((xs.size : Nat) : Int) - 1 + (m : Int) * -1).toNat]?).toArray = xs.toList.reverse.toArray := by
  congr 1
  have e : (List.range xs.size).filterMap (fun (m : Nat) => xs[(((xs.size : Nat) : Int) - 1 + (m : Int) * -1).toNat]?) = (List.range xs.size).filterMap (fun m => xs.toList.reverse[m]?) := by
    refine filterMap_cg fun m hm => ?_
    have h := List.mem_range.mp hm
    rw [List.getElem?_reverse (by rw [Array.length_toList]; exact h), Array.getElem?_toList, Array.length_toList]
    congr 1
    omega
  rw [e]
  have l : xs.size = xs.toList.reverse.length := by rw [List.length_reverse, Array.length_toList]
  rw [l]
  generalize xs.toList.reverse = ys
  clear e l
  refine List.ext_getElem? fun i => ?_
  have g : (List.range ys.length).filterMap (fun m => ys[m]?) = ys := by
    have : ∀ (zs : List Value), (List.range zs.length).filterMap (fun m => zs[m]?) = zs := by
      intro zs
      induction zs with
      | nil => rfl
      | cons z r ih =>
        rw [List.length_cons, List.range_succ_eq_map, List.filterMap_cons]
        show z :: _ = _
        rw [List.filterMap_map]
        congr 1
    exact this ys
  rw [g]
theorem getItem_tuple_rev {t sl : Addr} {items : Array Value} {vl vu vs : Value} {Q : Value → Shared → Prop} (ht : IsTup s.heap t items) (hs : s.heap.IsSliceOf sl vl vu vs) (pl : IsPart vl none) (pu : IsPart vu none) (ps : IsPart vs (some (-1)))
    (h : Q (.ref s.heap.objs.size) { s with heap := s.heap.push { cls := .type "tuple", data := .seq items.toList.reverse.toArray } })
    (hsz : items.size ≤ sizeLine) : wpAny (model prog w) A (getItem (.ref t) (.ref sl)) Q E s := by
  have htake : sizeOk (.seq items.toList.reverse.toArray) := by
    show items.toList.reverse.toArray.size ≤ sizeLine
    rw [List.size_toArray, List.length_reverse, Array.length_toList]
    exact hsz
  obtain ⟨os, hos, hcs, hds⟩ := id hs
  have hTs : s.TypeIs (.ref sl) "slice" := ⟨os, hos, hcs⟩
  unfold getItem
  try with_reducible refine wpAny_holding ?_
  first | refine wpAny_bind (wpAny_pure ?_) | skip
  refine wpAny_bind (wpAny_sequenceKey ht.typeIs (by decide) ?_)
  refine wpAny_bind (wpAny_callSpecial?_slot (name := Str.ofString "__getitem__") ht.typeIs PyProof.Rows.slot_tuple_getitem
    (wpAny_call_entry PyProof.Rows.slot_tuple_getitem ht.typeIs entry_tuple_getitem ?_ (args_tuple_getitem _ _)))
  show wpAny _ _ (Builtin.Tuple.tupleItemsOf (.ref t) >>= _) _ _ s
  refine wpAny_bind (tupleItemsOf_ ht ?_)
  refine wpAny_bind (wpAny_typeOf hTs ?_)
  rw [if_pos (by decide)]
  refine wpAny_bind (sliceApplied_rev hs pl pu ps ?_)
  show wpAny _ _ (if (((items.size : Nat) : Int) - 1 == 0 && (-1 : Int) == 1 && items.size == items.size) = true then _ else _) _ _ s
  have hno : ¬ ((((items.size : Nat) : Int) - 1 == 0 && (-1 : Int) == 1 && items.size == items.size) = true) := by
    intro q
    rw [Bool.and_eq_true, Bool.and_eq_true] at q
    exact absurd q.1.2 (by decide)
  rw [if_neg hno, pick_rev]
  first
    | exact wpAny_bind (m := Builtin.Tuple.tupleExact _) (wpAny_newObj_type (wpAny_pure ⟨_, rfl, wpAny_pure h⟩) htake)
    | exact wpAny_bind (m := Builtin.Tuple.tupleExact _) (wpAny_newObj_type (wpAny_bind (wpAny_pure (wpAny_pure ⟨_, rfl, wpAny_pure h⟩))) htake)
    | exact wpAny_bind (wpAny_bind (m := Builtin.Tuple.tupleExact _) (wpAny_newObj_type (wpAny_pure (wpAny_pure ⟨_, rfl, wpAny_pure h⟩)) htake))
    | exact wpAny_bind (wpAny_bind (m := Builtin.Tuple.tupleExact _) (wpAny_newObj_type (wpAny_pure ⟨_, rfl, wpAny_pure h⟩) htake))
end
end HT
namespace Hb
open PySem PySem.Spec PyProof.Rows L2
section
variable {X : Cx}
def tRevT (K : PySem.W.Frag) (te : TE) : TE := fun σ H Q => te σ H fun x H1 => ∃ a xs, x = .ref a ∧ SqT K H1 a xs ∧ ∀ p its, H1 p = none → Q (.ref p) (upd H1 p (nT its xs.reverse))
theorem pe_revT {e : Expr} {te : TE} {k : Nat} {p1 p2 p3 pos : Pos} (he : PE X e te) : PE X (.Subscript e (.Slice none none (some (.UnaryOp .USub (.Constant (.int 1) k p1) p2)) p3) pos) (tRevT X.K te) := by
  refine ⟨fun pins s σ H Q I h => ?_⟩
  refine Subscript_ (thn (he.run pins s σ H _ I h) fun v s1 ⟨x, H1, I1, r1, q1⟩ => ?_)
  obtain ⟨a, xs, ex, hx, q⟩ := q1
  subst ex
  cases r1
  have hst : PO X (some (.UnaryOp .USub (.Constant (.int 1) k p1) p2)) (tPart (tUn (rU fun i => .int (-i)) (tC (.int 1)))) := po_some (pe_un un_neg pe_int)
  refine wpAny_Slice (thn (po_none.run pins s1 σ H1 (fun o H2 => o = none ∧ H2 = H1) I1 ⟨rfl, rfl⟩) fun vl s2 ⟨l, H2, I2, pl, el, e2⟩ => ?_)
  subst el e2
  refine thn (po_none.run pins s2 σ H2 (fun o H3 => o = none ∧ H3 = H2) I2 ⟨rfl, rfl⟩) fun vu s3 ⟨u, H3, I3, pu, eu, e3⟩ => ?_
  subst eu e3
  refine thn (hst.run pins s3 σ H3 (fun o H4 => o = some (-1) ∧ H4 = H3) I3 ⟨1, rfl, -1, rfl, rfl, rfl⟩) fun vs s4 ⟨o, H4, I4, ps, eo, e4⟩ => ?_
  subst eo e4
  have I5 : Inv X pins σ H4 { s4 with heap := s4.heap.push { cls := .type "slice", data := .fields #[vl, vu, vs] } } := I4.kept (t' := s4.toks) fun b ob q => Heap.get?_push_of_some _ q
  obtain ⟨its, r, ht, hz⟩ := I5.tuple hx
  have hlen := r.length
  show wpAny (model X.prog X.w) X.A (subscriptTail e (.Slice none none (some (.UnaryOp .USub (.Constant (.int 1) k p1) p2)) p3) (.ref a) (.ref s4.heap.objs.size)) (EP X pins σ Q) X.xe { s4 with heap := s4.heap.push { cls := .type "slice", data := .fields #[vl, vu, vs] } }
  refine tail_any (ops := [.ref a, .ref s4.heap.objs.size]) ht.typeIs (PyProof.Rows.slot_tuple_getitem.lookup) ?_ (by with_unfolding_all rfl)
  refine HT.getItem_tuple_rev ht (Heap.IsSliceOf.new _ vl vu vs) pl pu ps ?_ (by rw [List.size_toArray]; omega)
  have L := layT I5 r.reverse (by rw [List.length_reverse]; exact hz) s4.toks
  exact ⟨.ref _, _, L.2, rfl, q _ _ L.1⟩
end
def gRevT (x : AV) (δ : List Sl) : Rs AV := match rdC δ x with
  | some (.tuple ds) => .ok (.val (.tuple ds.reverse)) δ
  | _ => .bad
theorem se_revT {X : Cx} {W : WX} {pin : List Nat} {fa : List Sl → Rs AV} {a : Expr} {k : Nat} {p1 p2 p3 pos : Pos} (ha : SE X W pin a fa) :
    SE X W pin (.Subscript a (.Slice none none (some (.UnaryOp .USub (.Constant (.int 1) k p1) p2)) p3) pos) (s1 gRevT fa) := pe_mono (pe_revT (se_st ha)) fun σ H Q ⟨b, Fz, F, δ, hp, R, P⟩ => by
  refine rd_bind hp R P fun v H1 Fz1 F1 x δ1 s1 R1 A1 P1 => ?_
  unfold gRevT at P1
  cases q : rdC δ1 x with
  | none => simp only [q] at P1; exact P1.elim
  | some d =>
    cases d with
    | tuple ds =>
      simp only [q] at P1
      obtain ⟨a, vs, e1, s1, r1⟩ := (rdC_ok R1 A1 q).tup R1.le
      exact ⟨a, vs, e1, s1, post_newT R1 r1.reverse P1⟩
    | _ => simp only [q] at P1; exact P1.elim
end Hb
namespace Nv
open PySem Hb L2
open Enc (enc)
def revT {α : Type} (xs : Tp α) : Option (Tp α) := some ⟨xs.l.reverse⟩
theorem op_revT {α : Type} [Enc α] : Op1 gRevT (revT (α := α)) fun r => .val (enc r) := fun v r δ x h1 _ e => by
  have h1 : rdC δ x = some (.tuple (v.l.map enc)) := h1
  cases some_of e
  simp only [gRevT, h1]
  show Rs.ok (AV.val (.tuple _)) δ = Rs.ok (AV.val (.tuple _)) δ
  rw [List.map_reverse]
end Nv
namespace Hb
open PySem L2 PySem.F
end Hb
namespace Nv
open PySem Hb L2
open Enc (enc)
end Nv
namespace Hb
open PySem PySem.Spec PyProof.Rows L2
end Hb
namespace Hb
open PySem L2 PySem.F
end Hb
namespace Nv
open PySem Hb L2
open Enc (enc)
end Nv
namespace Hb
open PySem PySem.Spec PyProof.Rows L2
end Hb
namespace Nv
open PySem Hb L2
open Enc (enc)
end Nv
namespace Hb
open PySem PySem.Spec PyProof.Rows L2
def intsD : List PyData → Option (List Int)
  | [] => some []
  | .int i :: r => (intsD r).map (i :: ·)
  | _ :: _ => none
theorem intsD_eq : ∀ {ds : List PyData} {ns : List Int}, intsD ds = some ns → ds = ns.map .int
  | [], _, h => by cases h; rfl
  | d :: r, ns, h => by
    cases d with
    | int i =>
      have h : (intsD r).map (i :: ·) = some ns := h
      obtain ⟨m, e, rfl⟩ := Option.map_eq_some_iff.mp h
      rw [intsD_eq e]
      rfl
    | _ => cases h
theorem intsD_map : ∀ ns : List Int, intsD (ns.map .int) = some ns
  | [] => rfl
  | i :: r => by
    show (intsD (r.map .int)).map (i :: ·) = _
    rw [intsD_map r]
    rfl
section
variable {X : Cx} {W : WX} {pin : List Nat} {fo fa : List Sl → Rs AV} {o e : Expr} {apos cpos : Pos}
end
end Hb
namespace Nv
open PySem Hb L2
open Enc (enc)
instance {α β γ ε : Type} [Enc α] [Enc β] [Enc γ] [Enc ε] : NotNone (T4 α β γ ε) := ⟨fun _ => by simp [enc, PyData.eqv], fun _ => by simp [enc, PyData.eqv], fun _ h => nomatch h⟩
end Nv
namespace Hb
open PySem PySem.Spec PyProof.Rows L2
/-- entries laid one by one -/
def allK (ws ps : List (List Key × V)) : List (List Key × V) := ps.foldl (fun acc p => putK acc p.1 p.2) ws
theorem allK_len : ∀ (ps ws : List (List Key × V)), (allK ws ps).length ≤ ws.length + ps.length
  | [], ws => Nat.le_refl _
  | p :: ps, ws => by
    have h1 := allK_len ps (putK ws p.1 p.2)
    have h2 := length_putK ws p.1 p.2
    show (allK (putK ws p.1 p.2) ps).length ≤ _
    rw [List.length_cons]
    omega
theorem KTP.putAll {H : Hp} : ∀ {ps : List (List Key × V)} {qs : TX}, KTP H ps qs → ∀ {ws : List (List Key × V)} {xs : TX}, KTP H ws xs → KTP H (allK ws ps) (storedAllH xs qs)
  | _, _, .nil, _, _, h => h
  | _, _, .cons (a := p) (b := q) hp t, ws, xs, h => by
    have h1 := h.put hp.2.1 hp.2.2.1 hp.2.2.2
    rw [hp.1] at h1
    have := KTP.putAll t h1
    show KTP H (allK (putK ws p.1 p.2) _) (storedAllH (storedH xs q.1 q.2.1 q.2.2) _)
    rw [hp.1]
    exact this
/-- keys and values side by side -/
inductive KZ (Z : Hp) : List V → List V → List (List Key × V) → Prop
  | nil1 {ys : List V} : KZ Z [] ys []
  | nil2 {xs : List V} : KZ Z xs [] []
  | cons {k : List Key} {b : Addr} {y : V} {xs ys : List V} {ws : List (List Key × V)} : k.all isI = true → TP Z b (k.map kV) → KZ Z xs ys ws → KZ Z (.ref b :: xs) (y :: ys) ((k, y) :: ws)
theorem KZ.len {Z : Hp} {xs ys : List V} {ws : List (List Key × V)} (h : KZ Z xs ys ws) : ws.length ≤ xs.length := by
  induction h with
  | nil1 => exact Nat.zero_le _
  | nil2 => exact Nat.zero_le _
  | cons _ _ _ ih => simpa using ih
/-- the pairs as they lie in the heap -/
theorem KZ.pairs {Z : Hp} {xs ys : List V} {ws : List (List Key × V)} (h : KZ Z xs ys ws) : ∀ {us us2 : List Value}, Vals xs us → Vals ys us2 →
    ∃ qs : TX, KTP Z ws qs ∧ qs.length = min us.length us2.length ∧ ∀ (i : Nat) (key v : Value), us[i]? = some key → us2[i]? = some v → ∃ k b, qs[i]? = some (k, b, v) ∧ key = .ref b := by
  induction h with
  | nil1 =>
    intro us us2 r1 r2
    cases r1
    exact ⟨[], .nil, by simp, fun i key v e => by simp at e⟩
  | nil2 =>
    intro us us2 r1 r2
    cases r2
    exact ⟨[], .nil, by simp, fun i key v _ e => by simp at e⟩
  | cons hi tp _ ih =>
    rename_i k b y xs ys ws _
    intro us us2 r1 r2
    cases r1 with
    | cons p1 t1 =>
      cases r2 with
      | cons p2 t2 =>
        obtain ⟨qs, h1, h2, h3⟩ := ih t1 t2
        rename_i u us u2 us2
        cases (show u = Value.ref b from p1)
        refine ⟨(k, b, u2) :: qs, .cons ⟨rfl, hi, tp, p2⟩ h1, by simp [h2], fun i key v e1 e2 => ?_⟩
        cases i with
        | zero =>
          simp at e1 e2
          subst e1 e2
          exact ⟨k, b, rfl, rfl⟩
        | succ i =>
          rw [List.getElem?_cons_succ] at e1 e2 ⊢
          exact h3 i key v e1 e2
def tDz (K : PySem.W.Frag) (ta : TA) : TE := fun σ H Q => ta σ H fun vs G => ∃ a b xs ys Z kws, vs = [.ref a, .ref b] ∧ SqL K G a xs ∧ SqL K G b ys ∧ Same Z G ∧ KZ Z xs ys kws ∧ ∀ D ep xs', G D = none → KTP Z (allK [] kws) xs' → Q (.ref D) (upd G D (dPO D ep xs'))
section
variable {X : Cx} {e e2 : Expr} {ta : TA} {p p2 pos pos2 : Pos}
theorem pe_dictZip (hu : X.A.units + 64 < cLine) (hc : X.calm = true) (hg : Gl X "zip") (hm : X.mg "zip" = none) (hg2 : Gl X "dict") (hm2 : X.mg "dict" = none) (ha : PA X [e, e2] ta)
    (hs : starEach [e, e2] X.env = (false, eval e X.env) :: starEach [e2] X.env := by rfl) (hpl : (backTo pos (starEach [e2] X.env)).any (·.1) = false := by rfl)
    (hs2 : starEach [.Call (.Name "zip" p) [e, e2] [] pos] X.env = (false, eval (.Call (.Name "zip" p) [e, e2] [] pos) X.env) :: starEach [] X.env := by rfl) :
    PE X (.Call (.Name "dict" p2) [.Call (.Name "zip" p) [e, e2] [] pos] [] pos2) (tDz X.K ta) := by
  refine ⟨fun pins s σ H Q I h => Call_ (ld_blt I hg2 hm2 PyProof.Rows.boot_dict (PyProof.Rows.callWith_type1 ?_ hs2 rfl))⟩
  rw [hs2]
  refine Calls.spliced_cons ?_
  refine Call_ (ld_blt I hg hm PyProof.Rows.boot_zip (PyProof.Rows.callWith_type1 (thn (ha.run pos pins s σ H _ I h) fun us s1 ⟨vs, G, I1, r1, a, b, xs, ys, Z, kws, ex, qx, qy, le, kz, q⟩ => ?_) hs hpl))
  subst ex
  obtain ⟨u, u2, eu, ru, ru2⟩ := Vals.two r1
  subst eu
  cases ru
  cases ru2
  obtain ⟨us, rv, pl, z1⟩ := I1.list qx
  obtain ⟨us2, rv2, pl2, z2⟩ := I1.list qy
  refine call_zip_2 pl.isList pl2.isList fun g hz hTI hTO h1 h2 hsz hk => ?_
  refine Calls.spliced_nil ?_
  have D := PySem.W.ktu_apart s1.heap.objs.size a b pl.lt pl2.lt
  obtain ⟨qs, k1, k2, k3⟩ := kz.pairs rv rv2
  have low : ∀ {c : Addr} {o : Obj}, s1.heap.get? c = some o → c ∉ [s1.heap.objs.size + 4, s1.heap.objs.size + 3, s1.heap.objs.size, s1.heap.objs.size + 1] ∧ c ≠ g.objs.size := fun {c o} e => by
    have l := Heap.lt_size e
    refine ⟨fun m => ?_, by rw [hsz]; exact Nat.ne_of_lt (Nat.lt_of_lt_of_le l (by omega))⟩
    have : c = s1.heap.objs.size + 4 ∨ c = s1.heap.objs.size + 3 ∨ c = s1.heap.objs.size ∨ c = s1.heap.objs.size + 1 := by simpa using m
    rcases this with q | q | q | q <;> (rw [q] at l; exact Nat.not_lt.mpr (by first | exact Nat.le_refl _ | exact Nat.le_add_right _ _) l)
  have kg := k1.mono le
  refine call_dict_pairsH (knd := tupleKind (mixKind X.prog X.w)) (ps := qs) (PairArg.zip _ _ _ _ _ a b D us.toArray us2.toArray) (I1.ok.hd hc) (by show X.A.units + 1 + 1 < cLine; omega)
    ⟨hz, hTI, ⟨_, _, hTO⟩, h1, h2, pl.isList.at fun o e => hk _ _ e, pl2.isList.at fun o e => hk _ _ e⟩ ⟨by simpa using k2, fun i key v ⟨e1, e2⟩ => k3 i key v (by simpa using e1) (by simpa using e2)⟩
    (fun h' hk' x hx => ?_) (by have := rv.length; have := rv2.length; simp; omega) fun h' tk hd' hk' => ?_
  · have J : Inv X pins σ G { s1 with heap := h' } := I1.kept (t' := s1.toks) fun c o e => hk' c o (low e).2 (low e).1 (hk c o e)
    exact key_ofP J.hok ((kg.ints x hx).2)
  · have kk : KTP G (allK [] kws) (storedAllH [] qs) := kg.putAll .nil
    have nD : G g.objs.size = none := I1.hok.fresh (by omega)
    have lz : (storedAllH [] qs).length ≤ sizeLine := by
      have h1 := Paired.length kk
      have h2 := allK_len kws []
      have h3 := kz.len
      rw [List.length_nil] at h2
      omega
    obtain ⟨ep, ok⟩ := okD hd' (fun x hx => (kk.ints x hx).1) lz (beq_eq_false_iff_ne.mpr (Nat.ne_of_gt (Nat.lt_of_lt_of_le I1.big (show s1.heap.objs.size ≤ g.objs.size by omega))))
    have J : Inv X pins σ (upd G g.objs.size (dPO g.objs.size ep (storedAllH [] qs))) { s1 with heap := h', toks := tk } :=
      I1.laid (t' := tk) (fun c o e => hk' c o (low e).1 (hk c o e)) (by omega) (ok _)
    exact ⟨.ref g.objs.size, _, J, rfl, q _ _ _ nD (k1.putAll .nil)⟩
end
def dzL : List PyData → List PyData → List (PyData × PyData) → Option (List (PyData × PyData))
  | d :: r, e :: t, acc => (keyT d).bind fun k => dzL r t (putT acc k e)
  | _, _, acc => some acc
def sDz (f g : List Sl → Rs AV) : List Sl → Rs AV := fun δ => (sTk f δ).val fun d δ1 => (sTk g δ1).val fun e δ2 => match d, e with
  | .list ds, .list es => (match dzL ds es [] with
    | some kvs => .ok (.tmp (.od kvs)) δ2
    | none => .bad)
  | _, _ => .bad
theorem dz_ok {K : PySem.W.Frag} {Z : Hp} : ∀ {ds es : List PyData} {acc kvs : List (PyData × PyData)} {xs ys : List V} {ws : List (List Key × V)}, RpL K Z xs ds → RpL K Z ys es → dzL ds es acc = some kvs → RpT K Z ws acc →
    ∃ kws, KZ Z xs ys kws ∧ RpT K Z (allK ws kws) kvs
  | [], es, acc, kvs, _, ys, ws, .nil, r2, e, rt => by
    cases (show some acc = some kvs from by simpa [dzL] using e)
    exact ⟨[], .nil1, rt⟩
  | d :: ds, [], acc, kvs, _, _, ws, .cons r1 t1, .nil, e, rt => by
    cases (show some acc = some kvs from by simpa [dzL] using e)
    exact ⟨[], .nil2, rt⟩
  | d :: ds, e0 :: es, acc, kvs, _, _, ws, .cons (v := v) r1 t1, .cons (v := y) r2 t2, e, rt => by
    obtain ⟨k, e1, e2⟩ := Option.bind_eq_some_iff.mp (show (keyT d).bind (fun k => dzL ds es (putT acc k e0)) = some kvs from e)
    obtain ⟨b, eb, tb⟩ := rp_keyT r1 e1
    subst eb
    obtain ⟨kws, h1, h2⟩ := dz_ok t1 t2 e2 (rt.put r2 (keyT_I e1))
    exact ⟨(k, y) :: kws, .cons (keyT_I e1) tb h1, h2⟩
section
variable {X : Cx} {W : WX} {pin : List Nat} {f g : List Sl → Rs AV} {e c : Expr} {p p2 pos pos2 : Pos}
theorem se_dictZip (hu : X.A.units + 64 < cLine) (hc : X.calm = true) (hg : Gl X "zip") (hm : X.mg "zip" = none) (hg2 : Gl X "dict") (hm2 : X.mg "dict" = none) (h : SE X W pin e f) (h2 : SE X W pin c g)
    (hs : starEach [e, c] X.env = (false, eval e X.env) :: starEach [c] X.env := by rfl) (hs2 : starEach [c] X.env = (false, eval c X.env) :: starEach [] X.env := by rfl) (hpl : (backTo pos (starEach [c] X.env)).any (·.1) = false := by rfl)
    (hs3 : starEach [.Call (.Name "zip" p) [e, c] [] pos] X.env = (false, eval (.Call (.Name "zip" p) [e, c] [] pos) X.env) :: starEach [] X.env := by rfl) :
    SE X W pin (.Call (.Name "dict" p2) [.Call (.Name "zip" p) [e, c] [] pos] [] pos2) (sDz f g) :=
  pe_mono (pe_dictZip hu hc hg hm hg2 hm2 (pa_cons (se_tk h) (pa_cons (se_tk h2) pa_nil hs2) hs) hs hpl hs3) fun σ H Q ⟨b, Fz, F, δ, hp, Rr, P⟩ => by
    have P : Post X.K X.mg W b Fz σ Q ((sTk f δ).val fun d δ1 => (sTk g δ1).val fun e δ2 => match d, e with
      | .list ds, .list es => (match dzL ds es [] with
        | some kvs => .ok (.tmp (.od kvs)) δ2
        | none => .bad)
      | _, _ => .bad) := P
    refine rd_val hp Rr P fun v H1 Fz1 F1 d δ1 s1 R1 A1 P1 => ?_
    refine rd_val hp R1 P1 fun w H2 Fz2 F2 e δ2 s2 R2 A2 P2 => ?_
    cases d with
    | list ds =>
      cases e with
      | list es =>
        cases A1.mono s2 with
        | lst h1 h2 =>
          cases A2 with
          | lst h3 h4 =>
            cases q : dzL ds es [] with
            | none => simp only [q] at P2; exact P2.elim
            | some kvs =>
              simp only [q] at P2
              obtain ⟨kws, kz, rt⟩ := dz_ok h2 h4 q .nil
              refine ⟨_, _, _, _, Fz2, kws, rfl, (same_sqX R2.le h1).sq, (same_sqX R2.le h3).sq, R2.le, kz, fun D ep xs' nD kt => ?_⟩
              obtain ⟨d1, d2, d3⟩ := R2.offN nD
              have dp : DP Fz2 (upd H2 D (dPO D ep xs')) D (allK [] kws) := ⟨xs', ep, upd_same, kt⟩
              exact P2 (.ref D) _ Fz2 F2 (Same.refl _) (R2.new nD _) ⟨rfl, [D], ⟨D, rfl, rfl, .inr ⟨_, dp, rt⟩⟩, by simp, fun a ha => by
                rw [List.mem_singleton] at ha
                subst ha
                exact ⟨d1, d2, dp.ne, d3⟩⟩
      | _ => exact P2.elim
    | _ => exact P2.elim
end
end Hb
namespace Nv
open PySem PySem.Spec PyProof.Rows L2 Hb
open Enc (enc)
variable {ζ : Type} [Enc ζ] {Γ : Ga} {f g : List Sl → Rs AV}
theorem dzL_enc : ∀ (xs : List (Tp Int)) (ys : List ζ) (es : List (Tp Int × ζ)), dzL (xs.map enc) (ys.map enc) (es.map fun p => (enc p.1, enc p.2)) = some (((xs.zip ys).foldl (fun acc p => putC acc p.1 p.2) es).map fun p => (enc p.1, enc p.2))
  | [], ys, es => by cases ys <;> rfl
  | x :: xs, [], es => rfl
  | x :: xs, y :: ys, es => by
    have h5 : keyT (enc x) = some (Nv.keyI x) := keyT_tp _
    show (keyT (enc x)).bind (fun k => dzL (xs.map enc) (ys.map enc) (putT _ k (enc y))) = _
    rw [h5]
    show dzL (xs.map enc) (ys.map enc) (putT _ (Nv.keyI x) (enc y)) = _
    rw [putT_enc]
    exact dzL_enc xs ys (putC es x y)
theorem pu_dz {p : Option (List (Tp Int))} {q : Option (List ζ)} (hf : Pu (sTk f) Γ p fun v => .val (enc v)) (hg : Pu (sTk g) Γ q fun v => .val (enc v)) :
    Pu (sDz f g) Γ (p.bind fun x => q.bind fun y => some (dtOf (List.zip x y))) fun r => .tmp (od r) := fun r e δ s => by
  obtain ⟨x, e1, e⟩ := bind_of e
  obtain ⟨y, e2, e⟩ := bind_of e
  cases some_of e
  unfold sDz
  rw [hf x e1 δ s]
  show (sTk g δ).val _ = _
  rw [hg y e2 δ s]
  show (match dzL (x.map enc) (y.map enc) [] with
    | some kvs => Rs.ok (AV.tmp (.od kvs)) δ
    | none => .bad) = _
  have := dzL_enc x y []
  rw [List.map_nil] at this
  rw [this]
  rfl
end Nv
namespace Hb
open PySem PySem.Spec PyProof.Rows L2
def ItiP (d : Addr) (ep : Nat) (xs : TX) (ws : List (List Key × V)) : It where
  go := fun i H => H d = some (dPO d ep xs) ∧ i < ws.length
  yld := fun i H v H' => ∃ T k b y its, ws[i]? = some (k, y) ∧ xs[i]?.map (·.2.1) = some b ∧ v = .ref T ∧ H T = none ∧ H' = upd H T (nT its [.ref b, y])
  stop := fun i H => H d = some (dPO d ep xs) ∧ i = ws.length
theorem KTP.get {Z : Hp} : ∀ {ws : List (List Key × V)} {xs : TX}, KTP Z ws xs → ∀ {i : Nat} {w : List Key × V}, ws[i]? = some w → ∃ q, xs[i]? = some q ∧ w.1 = q.1 ∧ w.1.all isI = true ∧ TP Z q.2.1 (w.1.map kV) ∧ RelV w.2 q.2.2
  | _, _, .nil, i, w, e => by simp at e
  | _, _, .cons (a := p) (b := q) h t, 0, w, e => by
    simp at e
    subst e
    exact ⟨q, rfl, h⟩
  | _, _, .cons (a := p) (b := q) h t, i + 1, w, e => by
    rw [List.getElem?_cons_succ] at e
    obtain ⟨q', e1, e2⟩ := KTP.get t e
    exact ⟨q', by rw [List.getElem?_cons_succ]; exact e1, e2⟩
theorem dP_raw {X : Cx} {pins : List (Addr × Obj)} {σ : L2.St} {H : Hp} {s : Shared} {d : Addr} {ep : Nat} {xs : TX} (I : Inv X pins σ H s) (hd : H d = some (dPO d ep xs)) :
    ∃ es : Array DictEntry, s.heap.DictRaw d es ep ∧ es.size = xs.length ∧ (d == sysModules) = false ∧ ∀ i q, xs[i]? = some q → ∃ hi : i < es.size, es[i].key = .ref q.2.1 ∧ es[i].val = q.2.2 := by
  obtain ⟨⟨o, es, h1, h2, h3, h4, h5, h6, h7⟩, _⟩ := I.hok d _ hd
  have e4 := h4 X.prog X.w
  have sz : es.size = xs.length := by
    rw [← Array.length_toList, e4, List.length_map]
  refine ⟨es, ⟨o, h1, h2, h3⟩, sz, h7, fun i q e => ?_⟩
  have hi : i < es.size := by rw [sz]; exact (List.getElem?_eq_some_iff.mp e).1
  have g : es.toList[i]? = some (entryOfKey (tupleKind (mixKind X.prog X.w)) q) := by rw [e4, List.getElem?_map, e]; rfl
  have g2 : es[i] = entryOfKey (tupleKind (mixKind X.prog X.w)) q := by
    rw [Array.getElem?_toList, Array.getElem?_eq_getElem hi] at g
    exact Option.some.inj g
  exact ⟨hi, by rw [g2]; rfl, by rw [g2]; rfl⟩
section
variable {P : Program} {w : World} {K : PySem.W.Frag} {d : Addr} {ep : Nat} {xs : TX} {ws : List (List Key × V)} {Z : Hp}
theorem turn_itemsP {elts : List Expr} {kk : Nat} {tpos : Pos} (it : Addr) (kt : KTP Z ws xs) :
    Turn P w K (.Tuple elts kk tpos) (ItiP d ep xs ws) [it] it (fun i h => ∃ ok ov, IsItemIter h it d i xs.length ep ok ov) where
  mem := by simp
  obj := fun i h st b hb => by
    have e : b = it := by simpa using hb
    subst e
    obtain ⟨ok, ov, e⟩ := st
    exact ⟨_, e, fun v z => nomatch z⟩
  keep := fun i h h' st k => let ⟨ok, ov, e⟩ := st; ⟨ok, ov, k it (by simp) _ e⟩
  item := by
    intro X hP hw hK hc i pins s σ H E I hf st hg
    subst hP hw hK
    obtain ⟨hd, hi⟩ := hg
    obtain ⟨es, hr, sz, hs, ent⟩ := dP_raw I hd
    obtain ⟨q, eq, _, _, _, rv⟩ := kt.get (List.getElem?_eq_getElem hi)
    obtain ⟨hie, ek, ev⟩ := ent i q eq
    obtain ⟨ok, ov, he⟩ := st
    rw [← sz] at he
    have hlt : it < s.heap.objs.size := Heap.lt_size he
    refine wpAny_pyNext_items_item_raw he hr hie fun h' ho hT hz hk => ?_
    rw [ek, ev] at ho hT
    refine ⟨_, rfl, wpAny_letOwnedTupleGo_items (s := { s with heap := h' }) ho fun h'' he' sb => ?_⟩
    have hT2 : h''.get? s.heap.objs.size = some (tupO #[.ref q.2.1, q.2.2]) := (sb.2 _ (Nat.ne_of_gt hlt)).trans hT
    have J := turn2 (k := s.toks) (ch := [it]) (x1 := .ref q.2.1) I hf (fun b ob hb e => (sb.2 b (by simpa using hb)).trans (hk b ob (by simpa using hb) e)) hT2 rfl rv
    refine ⟨.ref s.heap.objs.size, _, J, rfl, ⟨_, ws[i].1, q.2.1, ws[i].2, _, List.getElem?_eq_getElem hi, by rw [eq]; rfl, rfl, I.hok.fresh (Nat.le_refl _), rfl⟩, ⟨_, _, by rw [← sz]; exact he'⟩, fun b hb => ?_⟩
    have e : b = it := by simpa using hb
    rw [e, upd_ne (Nat.ne_of_lt hlt)]
    exact (hf it (by simp)).1
  done := by
    intro X hP hw hK hc i pins s σ H E I hf st hg
    subst hP hw hK
    obtain ⟨hd, hi⟩ := hg
    obtain ⟨f0, f1, f2, f3, f4, f5⟩ := hf it (by simp)
    obtain ⟨es, hr, sz, hs, ent⟩ := dP_raw I hd
    have hl : ws.length = xs.length := Paired.length kt
    obtain ⟨ok, ov, he⟩ := st
    rw [← sz] at he
    exact wpAny_pyNext_items_end_raw (I.ok.hd hc) he hr (by omega) fun h' eb => ⟨rfl, I.turned (t' := s.toks) (fun b ob hb e => eb b ob hb e) f0 f1 f3 f4 f5⟩
  self := fun A i s Q E st h => let ⟨_, _, e⟩ := st; PySem.W.kcp_self e h
end
def iItemsP (td : TE) : TI := fun σ H R => td σ H fun x H1 => ∃ d ep xs ws Z, x = .ref d ∧ H1 d = some (dPO d ep xs) ∧ KTP Z ws xs ∧ R (ItiP d ep xs ws) H1
theorem pi_itemsP {X : Cx} {e : Expr} {td : TE} {apos cpos : Pos} {elts : List Expr} {kk : Nat} {tpos : Pos} (he : PE X e td) (hbase : attributeBase e "items" X.env (eval e X.env) = eval e X.env := by rfl) (hline : (apos.endLine == cpos.line) = true := by rfl) :
    PI X (.Tuple elts kk tpos) (.Call (.Attribute e "items" apos) [] [] cpos) (iItemsP td) := by
  refine ⟨fun pins s σ H R I h => ?_⟩
  refine wpAny_Call_method (T := "dict") (id := "dict.items") hbase rfl hline F.plainAttrs_dict F.slot_dict_items F.type_dict_items (thn (he.run pins s σ H _ I h) fun u s1 ⟨x, H1, I1, rx, d, ep, xs, ws, Z, ex, hd, kt, q⟩ => ?_)
  subst ex
  obtain rfl : u = Value.ref d := rx
  obtain ⟨es, hr, sz, hs, ent⟩ := dP_raw I1 hd
  obtain ⟨o, ho, hx, hdat⟩ := id hr
  refine ⟨hr.typeIs, fun c e => ?_, ?_⟩
  · cases e
    exact ⟨o, ho, hx.2.1⟩
  have I2 : Inv X pins σ H1 { s1 with heap := s1.heap.push { cls := .type "dict_items", data := .fields #[.ref d] } } := I1.kept (t' := s1.toks) fun b ob q => Heap.get?_push_of_some _ q
  have fin : wpAny (model X.prog X.w) X.A (pyIter (.ref s1.heap.objs.size)) (PIE X pins σ (.Tuple elts kk tpos) R) X.xe { s1 with heap := s1.heap.push { cls := .type "dict_items", data := .fields #[.ref d] } } := by
    refine wpAny_pyIter_items_raw (d := d) ⟨_, Heap.get?_push_size _ rfl, rfl, rfl⟩ (hr.at fun o e => Heap.get?_push_of_some _ e) (pi_one (tk := s1.toks) I2 _ (turn_itemsP _ kt) ⟨.none, .none, ?_⟩ q)
    rw [← sz]
    exact Heap.get?_push_size _ rfl
  show wpAny _ _ (callWith cpos (.builtin "dict.items") [.ref d] [] []) _ X.xe s1
  exact method_meetsIn F.slot_dict_items F.entry_dict_items rfl (PySem.evalArgs_none ⟨rfl, hr.typeIs, F.args_dict_items_1 _, _, meets_dict_items_raw d hs, ⟨es, ep, hr⟩, fin⟩)
theorem rpl_ints {K : PySem.W.Frag} {H : Hp} : ∀ {ks : List Key}, ks.all isI = true → RpL K H (ks.map kV) (ks.map kD)
  | [], _ => .nil
  | .inl i :: ks, h => .cons (.int i) (rpl_ints (by rw [List.all_cons, Bool.and_eq_true] at h; exact h.2))
  | .inr x :: ks, h => by
    rw [List.all_cons, Bool.and_eq_true] at h
    cases h.1
theorem RpT.get {K : PySem.W.Frag} {H : Hp} : ∀ {ws : List (List Key × V)} {ds : List (PyData × PyData)}, RpT K H ws ds → ∀ {i : Nat} {p : PyData × PyData}, ds[i]? = some p → ∃ k y, ws[i]? = some (k, y) ∧ p.1 = .tuple (k.map kD) ∧ k.all isI = true ∧ Rp K H y p.2
  | _, _, .nil, i, p, e => by simp at e
  | _, _, .cons (k := k) (v := v) hi r t, 0, p, e => by
    simp at e
    subst e
    exact ⟨k, v, rfl, rfl, hi, r⟩
  | _, _, .cons hi r t, i + 1, p, e => by
    rw [List.getElem?_cons_succ] at e
    obtain ⟨k, y, e1, e2⟩ := RpT.get t e
    exact ⟨k, y, by rw [List.getElem?_cons_succ]; exact e1, e2⟩
def itemsD (kvs : List (PyData × PyData)) : List PyData := kvs.map fun p => .tuple [p.1, p.2]
theorem wk_items {K : PySem.W.Frag} {Fz0 : Hp} {d : Addr} {ep : Nat} {xs : TX} {ws : List (List Key × V)} {ds : List (PyData × PyData)} (hd : Fz0 d = some (dPO d ep xs)) (kt : KTP Fz0 ws xs) (rt : RpT K Fz0 ws ds) : Wk K Fz0 (ItiP d ep xs ws) (itemsD ds) := fun b Fz F δ σ H s R => by
  have hq : H d = some (dPO d ep xs) := (s.trans R.le) _ _ hd
  have len : ws.length = ds.length := rt.len
  have li : (itemsD ds).length = ds.length := List.length_map _
  rw [li]
  refine ⟨fun i hi => ⟨⟨hq, by omega⟩, fun x H' y => ?_⟩, hq, by omega⟩
  obtain ⟨T, k, b0, v, its, e1, e2, rfl, hn, rfl⟩ := y
  obtain ⟨k', v', f1, f2, f3, f4⟩ := rt.get (List.getElem?_eq_getElem hi)
  rw [e1] at f1
  cases f1
  obtain ⟨q, g1, g2, g3, g4, g5⟩ := kt.get e1
  rw [g1] at e2
  cases e2
  obtain ⟨s2, R2⟩ := R.newF hn (nT its [.ref q.2.1, v])
  refine ⟨_, _, ?_, s2, R2, .tup TP.new (.cons (?_ : Rp K _ (.ref q.2.1) ds[i].1) (.cons (f4.mono (s.trans s2)) .nil))⟩
  · unfold itemsD
    rw [List.getElem?_map, List.getElem?_eq_getElem hi]
    rfl
  · rw [f2]
    exact .tup (g4.mono (s.trans s2)) (rpl_ints f3)
def wItems (f : List Sl → Rs AV) : List Sl → Rs (List PyData) := fun δ => (sTk f δ).val fun d δ' => match d with
  | .dict ((k, v) :: r) => (match keyT k with
    | some _ => .ok (itemsD ((k, v) :: r)) δ'
    | none => .bad)
  | _ => .bad
section
variable {X : Cx} {W : WX} {pin : List Nat} {f : List Sl → Rs AV} {e : Expr} {apos cpos tpos : Pos} {elts : List Expr} {kk : Nat}
theorem si_items (h : SE X W pin e f) (hbase : attributeBase e "items" X.env (eval e X.env) = eval e X.env := by rfl) (hline : (apos.endLine == cpos.line) = true := by rfl) :
    SI X W pin (.Tuple elts kk tpos) (.Call (.Attribute e "items" apos) [] [] cpos) (wItems f) :=
  pi_mono (pi_itemsP (se_tk h) hbase hline) fun σ H R ⟨b, Fz, F, δ, hp, Rr, P⟩ => by
    refine rd_valI hp Rr P fun v H' Fz' F' d δ' s R' A P' => ?_
    cases d with
    | dict ds =>
      cases ds with
      | nil => exact P'.elim
      | cons p r =>
        obtain ⟨k0, v0⟩ := p
        cases q : keyT k0 with
        | none => simp only [q] at P'; exact P'.elim
        | some ks =>
          simp only [q] at P'
          cases A with
          | dK h1 h2 =>
            exfalso
            cases h2 with
            | cons r t =>
              have no : ∀ k : Key, keyT (kD k) ≠ some ks := fun k z => by
                cases k <;> exact nomatch (show (none : Option (List Key)) = some ks from z)
              exact no _ q
          | dT h1 h2 =>
            obtain ⟨xs, ep, g1, g2⟩ := h1
            exact ⟨_, ep, xs, _, Fz', rfl, R'.le _ _ g1, g2, P' _ H' Fz' F' (Same.refl _) R' (wk_items g1 g2 h2)⟩
    | _ => exact P'.elim
end
end Hb
namespace Nv
open PySem PySem.Spec PyProof.Rows L2 Hb
open Enc (enc)
variable {ζ : Type} [Enc ζ] {Γ : Ga} {f : List Sl → Rs AV}
/-- the entries of a dict that is not empty -/
def itemsDt (d : Dc (Tp Int) ζ) : Option (List (Tp Int × ζ)) := if d.l.isEmpty = true then none else some d.l
theorem ip_items {p : Option (Dc (Tp Int) ζ)} (h : Pu (sTk f) Γ p fun v => .val (enc v)) : ItP (wItems f) Γ (p.bind itemsDt) fun v => v.map enc := fun v e δ s => by
  obtain ⟨d, e1, e⟩ := bind_of e
  obtain ⟨l⟩ := d
  unfold itemsDt at e
  cases l with
  | nil => cases e
  | cons a r =>
    cases some_of (show some (a :: r) = some v from e)
    unfold wItems
    rw [h _ e1 δ s]
    have k1 : keyT (enc a.1) = some (Nv.keyI a.1) := keyT_tp _
    show (match keyT (enc a.1) with
      | some _ => Rs.ok (itemsD ((enc a.1, enc a.2) :: r.map fun p : Tp Int × ζ => (enc p.1, enc p.2))) δ
      | none => .bad) = _
    rw [k1]
    show Rs.ok (itemsD ((enc a.1, enc a.2) :: r.map fun p : Tp Int × ζ => (enc p.1, enc p.2))) δ = .ok ((a :: r).map enc) δ
    congr 1
    unfold itemsD
    rw [List.map_cons, List.map_cons, List.map_map]
    rfl
end Nv
namespace P
open PySem PySem.Spec PyProof.Rows L2 Hb Nv
open Enc (enc)
def B_stays_between : List Sl → Ot :=
    oSeq (oDrop (sCall F_need_people [] (rCons (sTk (sVar 0)) (rCons (sTk (sVar 1)) (rNil)))))
    (oSeq (oDrop (sCall F_need_table [] (rCons (sTk (sVar 0)) (rCons (sTk (sVar 1)) (rCons (sTk (sVar 2)) (rNil))))))
    (oRet (s1 (gRd (overB fun ns => some (.bool (ns.all id)))) (sLc false (wItems (sCall F_rule_of [] (rCons (sTk (sVar 0)) (rCons (sTk (sVar 1)) (rCons (sTk (sVar 2)) (rNil)))))) [3, 4] (tgT 2 (tgCons (tgN 3) (tgCons (tgN 4) (tgNil)))) (tOk) (sTk (sCh gLe gLe (s2 gIx2 (sVar 3) (sC (.int 0))) (sVar 4) (s2 gIx2 (sVar 3) (s1 gNeg (sC (.int 1))))))))))
def F_stays_between : List Sl → FR := fnRun 3 5 [] B_stays_between
def n_stays_between (a0 : Int) (a1 : Int) (a2 : (List Int)) : Option (Bool) :=
    (Option.bind (Option.bind (Option.bind (some a0) fun x1 => Option.bind (Option.bind (some a1) fun x2 => Option.bind (some ()) fun x3 => some (x2, x3)) fun x4 => some (x1, x4)) fun x5 => n_need_people ((Prod.fst x5) : Int) ((Prod.fst (Prod.snd x5)) : Int)) fun x6 => (Option.bind (Option.bind (Option.bind (some a0) fun x7 => Option.bind (Option.bind (some a1) fun x8 => Option.bind (Option.bind (some a2) fun x9 => Option.bind (some ()) fun x10 => some (x9, x10)) fun x11 => some (x8, x11)) fun x12 => some (x7, x12)) fun x13 => n_need_table ((Prod.fst x13) : Int) ((Prod.fst (Prod.snd x13)) : Int) ((Prod.fst (Prod.snd (Prod.snd x13))) : (List Int))) fun x14 => (Option.bind (Option.bind (Option.bind (Option.bind (Option.bind (Option.bind (some a0) fun x15 => Option.bind (Option.bind (some a1) fun x16 => Option.bind (Option.bind (some a2) fun x17 => Option.bind (some ()) fun x18 => some (x17, x18)) fun x19 => some (x16, x19)) fun x20 => some (x15, x20)) fun x21 => n_rule_of ((Prod.fst x21) : Int) ((Prod.fst (Prod.snd x21)) : Int) ((Prod.fst (Prod.snd (Prod.snd x21))) : (List Int))) fun x22 => itemsDt x22) fun x23 => if List.length (x23) ≤ cap then mapF x23 (fun x24 => (some true)) (fun x24 => (Option.bind (Option.bind (some (Prod.fst x24)) fun x25 => Option.bind (some (0 : Int)) fun x26 => atT x25 x26) fun x30 => Option.bind (some (Prod.snd x24)) fun x31 => Option.bind (leI x30 x31) fun x33 => if x33 = true then Option.bind (Option.bind (some (Prod.fst x24)) fun x28 => Option.bind (Option.bind (some (1 : Int)) fun x27 => negI x27) fun x29 => atT x28 x29) fun x32 => leI x31 x32 else some false)) else none) fun x34 => allB x34) fun x35 => some x35)))
theorem V_stays_between (a0 : Int) (a1 : Int) (a2 : (List Int)) : Fun F_stays_between (n_stays_between a0 a1 a2) [.fz (enc a0), .fz (enc a1), .fz (enc a2)] (fun r : (Bool) => .fz (enc (r : Bool))) fun r => [.no, .no, .no] :=
  fun_of (ΓR := fun r => [.aa, .aa, .aa, .aa, .aa]) (show Bl B_stays_between _ _ _ from (bl_ga [.eq (.fz (enc (a0 : Int))), .eq (.fz (enc (a1 : Int))), .eq (.fz (enc (a2 : (List Int)))), .eq .no, .eq .no] (by kernel_rfl) (bl_expr ((pu_call (ap_cons ((pu_var 0 rfl)).tkP (ap_cons ((pu_var 1 rfl)).tkP ap_nil)) (fun x5 => V_need_people ((Prod.fst x5) : Int) ((Prod.fst (Prod.snd x5)) : Int)))).ev fun x6 => (bl_ga [.eq (.fz (enc (a0 : Int))), .eq (.fz (enc (a1 : Int))), .eq (.fz (enc (a2 : (List Int)))), .eq .no, .eq .no] (by kernel_rfl) (bl_expr ((pu_call (ap_cons ((pu_var 0 rfl)).tkP (ap_cons ((pu_var 1 rfl)).tkP (ap_cons ((pu_var 2 rfl)).tkP ap_nil))) (fun x13 => V_need_table ((Prod.fst x13) : Int) ((Prod.fst (Prod.snd x13)) : Int) ((Prod.fst (Prod.snd (Prod.snd x13))) : (List Int))))).ev fun x14 => (bl_ga [.eq (.fz (enc (a0 : Int))), .eq (.fz (enc (a1 : Int))), .eq (.fz (enc (a2 : (List Int)))), .eq .no, .eq .no] (by kernel_rfl) (bl_retV ((pu1A Nv.op_all ((((pu_lc (vs := [3, 4]) (ip_items (((pu_call (ap_cons ((pu_var 0 rfl)).tkP (ap_cons ((pu_var 1 rfl)).tkP (ap_cons ((pu_var 2 rfl)).tkP ap_nil))) (fun x21 => V_rule_of ((Prod.fst x21) : Int) ((Prod.fst (Prod.snd x21)) : Int) ((Prod.fst (Prod.snd (Prod.snd x21))) : (List Int))))).tkTP fun _ => rfl)) rfl rfl (fun x23 x24 => (tg_t (tgs_cons tg_n (tgs_cons tg_n tgs_nil)))) (fun x23 x24 => (ts_ga [.eq (.fz (enc (a0 : Int))), .eq (.fz (enc (a1 : Int))), .eq (.fz (enc (a2 : (List Int)))), .eq (.fz (enc ((Prod.fst x24) : (Tp Int)))), .eq (.fz (enc ((Prod.snd x24) : Int)))] (by kernel_rfl) ts_ok)) fun x23 x24 => (pu_ga [.eq (.fz (enc (a0 : Int))), .eq (.fz (enc (a1 : Int))), .eq (.fz (enc (a2 : (List Int)))), .eq (.fz (enc ((Prod.fst x24) : (Tp Int)))), .eq (.fz (enc ((Prod.snd x24) : Int)))] (by kernel_rfl) ((pu_ch Nv.op_le Nv.op_le ((pu2 Nv.op_ixT2 ((pu_var 3 rfl)).rd (pu_c).rd)).rd ((pu_var 4 rfl)).rd ((pu2 Nv.op_ixT2 ((pu_var 3 rfl)).rd ((pu1 Nv.op_neg (pu_c).rd)).rd)).rd)).tkP))).rdT ow_tree)).ra)).ev fun x35 => (rf_eq rfl (.cons .aa (.cons .aa (.cons .aa (.cons .aa (.cons .aa .nil)))))))))))))
end P
namespace P
open PySem PySem.Spec PyProof.Rows L2 Hb Nv
open Enc (enc)
def B_is_even : List Sl → Ot :=
    oSeq (oDrop (sCall F_need_people [] (rCons (sTk (sVar 0)) (rCons (sTk (sVar 1)) (rNil)))))
    (oSeq (oDrop (sCall F_need_table [] (rCons (sTk (sVar 0)) (rCons (sTk (sVar 1)) (rCons (sTk (sVar 2)) (rNil))))))
    (oSeq (oAsg (sTk (sCall F_rule_of [] (rCons (sTk (sVar 0)) (rCons (sTk (sVar 1)) (rCons (sTk (sVar 2)) (rNil)))))) (tgN 3))
    (oSeq (oFor (wItems (sVar 3)) (tgT 2 (tgCons (tgN 4) (tgCons (tgN 5) (tgNil)))) (oIf (sTst (s2 gNe (s2 gDixT (sVar 3) (s1 (gTuple) (sLc false (wSeq (s1 gRevT (sVar 4))) [6] (tgN 6) (tOk) (sTk (s2 gSub (s2 gSub (sVar 0) (sC (.int 1))) (sVar 6)))))) (s2 gSub (s2 gSub (sVar 0) (sC (.int 1))) (sVar 5)))) (oRet (sC (.bool false))) (oNext)))
    (oRet (sC (.bool true))))))
def F_is_even : List Sl → FR := fnRun 3 7 [] B_is_even
def n_is_even (a0 : Int) (a1 : Int) (a2 : (List Int)) : Option (Bool) :=
    (Option.bind (Option.bind (Option.bind (some a0) fun x1 => Option.bind (Option.bind (some a1) fun x2 => Option.bind (some ()) fun x3 => some (x2, x3)) fun x4 => some (x1, x4)) fun x5 => n_need_people ((Prod.fst x5) : Int) ((Prod.fst (Prod.snd x5)) : Int)) fun x6 => (Option.bind (Option.bind (Option.bind (some a0) fun x7 => Option.bind (Option.bind (some a1) fun x8 => Option.bind (Option.bind (some a2) fun x9 => Option.bind (some ()) fun x10 => some (x9, x10)) fun x11 => some (x8, x11)) fun x12 => some (x7, x12)) fun x13 => n_need_table ((Prod.fst x13) : Int) ((Prod.fst (Prod.snd x13)) : Int) ((Prod.fst (Prod.snd (Prod.snd x13))) : (List Int))) fun x14 => (Option.bind (Option.bind (Option.bind (some a0) fun x15 => Option.bind (Option.bind (some a1) fun x16 => Option.bind (Option.bind (some a2) fun x17 => Option.bind (some ()) fun x18 => some (x17, x18)) fun x19 => some (x16, x19)) fun x20 => some (x15, x20)) fun x21 => n_rule_of ((Prod.fst x21) : Int) ((Prod.fst (Prod.snd x21)) : Int) ((Prod.fst (Prod.snd (Prod.snd x21))) : (List Int))) fun x22 => (Option.bind (Option.bind (some x22) fun x23 => itemsDt x23) fun x24 => Option.bind (forF (ρ := (Bool)) x24 (() : Unit) fun s26 x25 => (Option.bind (Option.bind (Option.bind (some x22) fun x35 => Option.bind (Option.bind (Option.bind (Option.bind (some (Prod.fst x25)) fun x27 => revT x27) fun x28 => if List.length ((Tp.l x28)) ≤ cap then mapF (Tp.l x28) (fun x29 => (some true)) (fun x29 => (Option.bind (Option.bind (some a0) fun x30 => Option.bind (some (1 : Int)) fun x31 => subI x30 x31) fun x32 => Option.bind (some x29) fun x33 => subI x32 x33)) else none) fun x34 => tupL x34) fun x36 => lookDt x35 x36) fun x41 => Option.bind (Option.bind (Option.bind (some a0) fun x37 => Option.bind (some (1 : Int)) fun x38 => subI x37 x38) fun x39 => Option.bind (some (Prod.snd x25)) fun x40 => subI x39 x40) fun x42 => neN x41 x42) fun x43 => if x43 = true then (Option.bind (some false) fun x44 => some (.rt x44)) else some (.nx (() : Unit)))) fun o47 => Fl.el o47 (fun s26 => (Option.bind (some true) fun x45 => some x45)) fun r46 => some r46))))
theorem V_is_even (a0 : Int) (a1 : Int) (a2 : (List Int)) : Fun F_is_even (n_is_even a0 a1 a2) [.fz (enc a0), .fz (enc a1), .fz (enc a2)] (fun r : (Bool) => .fz (enc (r : Bool))) fun r => [.no, .no, .no] :=
  fun_of (ΓR := fun r => [.aa, .aa, .aa, .aa, .aa, .aa, .aa]) (show Bl B_is_even _ _ _ from (bl_ga [.eq (.fz (enc (a0 : Int))), .eq (.fz (enc (a1 : Int))), .eq (.fz (enc (a2 : (List Int)))), .eq .no, .eq .no, .eq .no, .eq .no] (by kernel_rfl) (bl_expr ((pu_call (ap_cons ((pu_var 0 rfl)).tkP (ap_cons ((pu_var 1 rfl)).tkP ap_nil)) (fun x5 => V_need_people ((Prod.fst x5) : Int) ((Prod.fst (Prod.snd x5)) : Int)))).ev fun x6 => (bl_ga [.eq (.fz (enc (a0 : Int))), .eq (.fz (enc (a1 : Int))), .eq (.fz (enc (a2 : (List Int)))), .eq .no, .eq .no, .eq .no, .eq .no] (by kernel_rfl) (bl_expr ((pu_call (ap_cons ((pu_var 0 rfl)).tkP (ap_cons ((pu_var 1 rfl)).tkP (ap_cons ((pu_var 2 rfl)).tkP ap_nil))) (fun x13 => V_need_table ((Prod.fst x13) : Int) ((Prod.fst (Prod.snd x13)) : Int) ((Prod.fst (Prod.snd (Prod.snd x13))) : (List Int))))).ev fun x14 => (bl_ga [.eq (.fz (enc (a0 : Int))), .eq (.fz (enc (a1 : Int))), .eq (.fz (enc (a2 : (List Int)))), .eq .no, .eq .no, .eq .no, .eq .no] (by kernel_rfl) (bl_asgV ((((pu_call (ap_cons ((pu_var 0 rfl)).tkP (ap_cons ((pu_var 1 rfl)).tkP (ap_cons ((pu_var 2 rfl)).tkP ap_nil))) (fun x21 => V_rule_of ((Prod.fst x21) : Int) ((Prod.fst (Prod.snd x21)) : Int) ((Prod.fst (Prod.snd (Prod.snd x21))) : (List Int))))).tkTP fun _ => rfl)).ev fun x22 => (bl_ga [.eq (.fz (enc (a0 : Int))), .eq (.fz (enc (a1 : Int))), .eq (.fz (enc (a2 : (List Int)))), .eq (.fz (enc (x22 : (Dc (Tp Int) Int)))), .eq .no, .eq .no, .eq .no] (by kernel_rfl) (bl_forF (Q := (RF (ρ := (Bool)) (fun r => .eq (.fz (enc (r : Bool)))) fun r => [.aa, .aa, .aa, .aa, .aa, .aa, .aa])) (vs := [4, 5]) (xs := fun x24 => x24) (s0 := fun x24 => (() : Unit)) (ΓL := fun x24 (s26 : Unit) => [.eq (.fz (enc (a0 : Int))), .eq (.fz (enc (a1 : Int))), .eq (.fz (enc (a2 : (List Int)))), .eq (.fz (enc (x22 : (Dc (Tp Int) Int)))), .pl, .pl, .eq .no]) (kr := fun r46 => some r46) ((ip_items ((pu_var 3 rfl)).tkP)).it (fun x24 => (.cons .rfl (.cons .rfl (.cons .rfl (.cons .rfl (.cons .no (.cons .no (.cons .rfl .nil)))))))) (fun x24 s26 x25 => (tg_t (tgs_cons tg_n (tgs_cons tg_n tgs_nil)))) (fun x24 s26 x25 => (bl_ga [.eq (.fz (enc (a0 : Int))), .eq (.fz (enc (a1 : Int))), .eq (.fz (enc (a2 : (List Int)))), .eq (.fz (enc (x22 : (Dc (Tp Int) Int)))), .eq (.fz (enc ((Prod.fst x25) : (Tp Int)))), .eq (.fz (enc ((Prod.snd x25) : Int))), .eq .no] (by kernel_rfl) (bl_last (bl_if (k := fun x43 => x43) ((ts_tst (pu2A Nv.op_ne (((pu2M op_dixT (((pu_var 3 rfl)).rd).ra ((pu1 Nv.op_tup (((pu_lc (vs := [6]) (ip_seqT (xs := fun v => v) ((pu1 Nv.op_revT ((pu_var 4 rfl)).rd)).tkP) rfl rfl (fun x28 x29 => tg_n) (fun x28 x29 => (ts_ga [.eq (.fz (enc (a0 : Int))), .eq (.fz (enc (a1 : Int))), .eq (.fz (enc (a2 : (List Int)))), .eq (.fz (enc (x22 : (Dc (Tp Int) Int)))), .eq (.fz (enc ((Prod.fst x25) : (Tp Int)))), .eq (.fz (enc ((Prod.snd x25) : Int))), .eq (.fz (enc (x29 : Int)))] (by kernel_rfl) ts_ok)) fun x28 x29 => (pu_ga [.eq (.fz (enc (a0 : Int))), .eq (.fz (enc (a1 : Int))), .eq (.fz (enc (a2 : (List Int)))), .eq (.fz (enc (x22 : (Dc (Tp Int) Int)))), .eq (.fz (enc ((Prod.fst x25) : (Tp Int)))), .eq (.fz (enc ((Prod.snd x25) : Int))), .eq (.fz (enc (x29 : Int)))] (by kernel_rfl) ((pu2 Nv.op_sub ((pu2 Nv.op_sub ((pu_var 0 rfl)).rd (pu_c).rd)).rd ((pu_var 6 rfl)).rd)).tkP))).rdT ow_tree))).rd)).rd).ra (((pu2 Nv.op_sub ((pu2 Nv.op_sub ((pu_var 0 rfl)).rd (pu_c).rd)).rd ((pu_var 5 rfl)).rd)).rd).ra))).te' (fun x43 => (bl_retS (bl_retV (pu_c).ev fun x44 => (rl_rt (rf_eq rfl (.cons .aa (.cons .aa (.cons .aa (.cons .aa (.cons .aa (.cons .aa (.cons .aa .nil)))))))))))) fun x43 => (bl_next (bl_end (rl_nx (.cons .rfl (.cons .rfl (.cons .rfl (.cons .rfl (.cons .fz (.cons .fz (.cons .rfl .nil)))))))))))))) (fun v z u d hz h => by cases (Option.some.inj hz); exact h) fun x24 s26 => (bl_retV (pu_c).ev fun x45 => (rf_eq rfl (.cons .aa (.cons .aa (.cons .aa (.cons .aa (.cons .aa (.cons .aa (.cons .aa .nil))))))))))))))))))
end P
namespace P
open PySem PySem.Spec PyProof.Rows L2 Hb Nv
open Enc (enc)
def B__law_tellings : List Sl → Ot :=
    oSeq (oAsg (sLst (lCons (sTup (lNil)) (lNil))) (tgN 2))
    (oSeq (oFor (wRng1 (sVar 1)) (tgN 3) (oSeq (oAsg (sLst (lNil)) (tgN 4))
    (oSeq (oFor (wSeq (sVar 2)) (tgN 5) (oSeq (oAsg (sTk (sIf (sTst (s2 gNe (sVar 5) (sTup (lNil)))) (s2 gIx2 (sVar 5) (s1 gNeg (sC (.int 1)))) (sC (.int 0)))) (tgN 6))
    (oDrop (sExt (sVar 4) (sLc false (wRng2 (sVar 6) (sVar 0)) [7] (tgN 7) (tOk) (sTk (s2 gAdd (sVar 5) (sTup (lCons (sVar 7) (lNil))))))))))
    (oAsg (sTk (sVar 4)) (tgN 2)))))
    (oRet (sVar 2)))
def F__law_tellings : List Sl → FR := fnRun 2 8 [] B__law_tellings
def n__law_tellings (a0 : Int) (a1 : Int) : Option ((List (Tp Int))) :=
    (Option.bind (Option.bind (Option.bind (some (Tp.mk [])) fun x1 => Option.bind (some ()) fun x3 => some (x1, x3)) fun x2 => some ([(Prod.fst x2)] : (List (Tp Int)))) fun x4 => (Option.bind (Option.bind (some a1) fun x5 => ri1 x5) fun x6 => Option.bind (forS x6 (x4 : (List (Tp Int))) fun s8 x7 => (Option.bind (some []) fun x9 => (Option.bind (some s8) fun x11 => Option.bind (forS x11 (x9 : (List (Tp Int))) fun s13 x12 => (Option.bind (Option.bind (Option.bind (some x12) fun x14 => Option.bind (some (Tp.mk [])) fun x15 => neN x14 x15) fun x19 => if x19 = true then (Option.bind (some x12) fun x17 => Option.bind (Option.bind (some (1 : Int)) fun x16 => negI x16) fun x18 => atT x17 x18) else (some (0 : Int))) fun x20 => (Option.bind (Option.bind (Option.bind (Option.bind (some x20) fun x21 => Option.bind (some a0) fun x22 => ri2 x21 x22) fun x23 => if List.length (x23) ≤ cap then mapF x23 (fun x24 => (some true)) (fun x24 => (Option.bind (some x12) fun x28 => Option.bind (Option.bind (Option.bind (some x24) fun x25 => Option.bind (some ()) fun x27 => some (x25, x27)) fun x26 => some ((Tp.mk [(Prod.fst x26)]) : (Tp Int))) fun x29 => catT x28 x29)) else none) fun x30 => Option.bind (exL s13 x30) fun x31 => some (x31, x30)) fun x32 => some ((Prod.fst x32) : (List (Tp Int)))))) fun s13 => (Option.bind (some s13) fun x33 => some (x33 : (List (Tp Int))))))) fun s8 => some s8))
theorem V__law_tellings (a0 : Int) (a1 : Int) : FunM F__law_tellings (n__law_tellings a0 a1) [.fz (enc a0), .fz (enc a1)] (fun r : ((List (Tp Int))) => enc (r : (List (Tp Int)))) fun r => [.no, .no] :=
  funM_of (ΓR := fun r => [.aa, .aa, .aa, .aa, .aa, .aa, .aa, .aa]) (show Bl B__law_tellings _ _ _ from (bl_ga [.eq (.fz (enc (a0 : Int))), .eq (.fz (enc (a1 : Int))), .eq .no, .eq .no, .eq .no, .eq .no, .eq .no, .eq .no] (by kernel_rfl) (bl_asgT ((pu_lst (dp_cons (pu_nilT).tkP dp_nil) (fun x2 => ([(Prod.fst x2)] : (List (Tp Int)))))).ev fun x4 => (bl_ga [.eq (.fz (enc (a0 : Int))), .eq (.fz (enc (a1 : Int))), .eq (ow (x4 : (List (Tp Int)))), .eq .no, .eq .no, .eq .no, .eq .no, .eq .no] (by kernel_rfl) (bl_for (vs := [3]) (xs := fun x6 => x6) (s0 := fun x6 => (x4 : (List (Tp Int)))) (ΓL := fun x6 (s8 : (List (Tp Int))) => [.eq (.fz (enc (a0 : Int))), .eq (.fz (enc (a1 : Int))), .tr (enc (s8 : (List (Tp Int)))), .pl, .pl, .pl, .pl, .eq .no]) ((ip_rng1 ((pu_var 1 rfl)).tkP)).it (fun x6 => (.cons .rfl (.cons .rfl (.cons (.tro rfl) (.cons .no (.cons .no (.cons .no (.cons .no (.cons .rfl .nil))))))))) (fun x6 s8 x7 => tg_n) (fun x6 s8 x7 => (bl_ga [.eq (.fz (enc (a0 : Int))), .eq (.fz (enc (a1 : Int))), .tr (enc (s8 : (List (Tp Int)))), .eq (.fz (enc (x7 : Int))), .pl, .pl, .pl, .eq .no] (by kernel_rfl) (bl_asgT (pu_nil).ev fun x9 => (bl_ga [.eq (.fz (enc (a0 : Int))), .eq (.fz (enc (a1 : Int))), .tr (enc (s8 : (List (Tp Int)))), .eq (.fz (enc (x7 : Int))), .eq (ow (x9 : (List (Tp Int)))), .pl, .pl, .eq .no] (by kernel_rfl) (bl_for (vs := [5]) (xs := fun x11 => x11) (s0 := fun x11 => (x9 : (List (Tp Int)))) (ΓL := fun x11 (s13 : (List (Tp Int))) => [.eq (.fz (enc (a0 : Int))), .eq (.fz (enc (a1 : Int))), .eq (.fz (enc (x11 : (List (Tp Int))))), .eq (.fz (enc (x7 : Int))), .eq (ow (s13 : (List (Tp Int)))), .pl, .pl, .eq .no]) (it_seq (xs := fun x10 => x10) (tk_tr 2 rfl rfl)) (fun x11 => (gale_ga [.eq (.fz (enc (a0 : Int))), .eq (.fz (enc (a1 : Int))), .eq (.fz (enc (x11 : (List (Tp Int))))), .eq (.fz (enc (x7 : Int))), .eq (ow (x9 : (List (Tp Int)))), .pl, .pl, .eq .no] (by kernel_rfl) (.cons .rfl (.cons .rfl (.cons .rfl (.cons .rfl (.cons .rfl (.cons .rfl (.cons .rfl (.cons .rfl .nil)))))))))) (fun x11 s13 x12 => tg_n) (fun x11 s13 x12 => (bl_ga [.eq (.fz (enc (a0 : Int))), .eq (.fz (enc (a1 : Int))), .eq (.fz (enc (x11 : (List (Tp Int))))), .eq (.fz (enc (x7 : Int))), .eq (ow (s13 : (List (Tp Int)))), .eq (.fz (enc (x12 : (Tp Int)))), .pl, .eq .no] (by kernel_rfl) (bl_asgV (((pu_if (ts_tst (pu2A Nv.op_ne (((pu_var 5 rfl)).rd).ra ((pu_nilT).rd).ra)) (pu2 Nv.op_ixT2 ((pu_var 5 rfl)).rd ((pu1 Nv.op_neg (pu_c).rd)).rd) pu_c)).tkP).ev fun x20 => (bl_ga [.eq (.fz (enc (a0 : Int))), .eq (.fz (enc (a1 : Int))), .eq (.fz (enc (x11 : (List (Tp Int))))), .eq (.fz (enc (x7 : Int))), .eq (ow (s13 : (List (Tp Int)))), .eq (.fz (enc (x12 : (Tp Int)))), .eq (.fz (enc (x20 : Int))), .eq .no] (by kernel_rfl) (bl_last (bl_expr (ev_ext (k := 4) (va := fun x30 => x30) (xs := fun x30 => s13) rfl rfl ((((pu_lc (vs := [7]) (ip_rng2 ((pu_var 6 rfl)).tkP ((pu_var 0 rfl)).tkP) rfl rfl (fun x23 x24 => tg_n) (fun x23 x24 => (ts_ga [.eq (.fz (enc (a0 : Int))), .eq (.fz (enc (a1 : Int))), .eq (.fz (enc (x11 : (List (Tp Int))))), .eq (.fz (enc (x7 : Int))), .eq (ow (s13 : (List (Tp Int)))), .eq (.fz (enc (x12 : (Tp Int)))), .eq (.fz (enc (x20 : Int))), .eq (.fz (enc (x24 : Int)))] (by kernel_rfl) ts_ok)) fun x23 x24 => (pu_ga [.eq (.fz (enc (a0 : Int))), .eq (.fz (enc (a1 : Int))), .eq (.fz (enc (x11 : (List (Tp Int))))), .eq (.fz (enc (x7 : Int))), .eq (ow (s13 : (List (Tp Int)))), .eq (.fz (enc (x12 : (Tp Int)))), .eq (.fz (enc (x20 : Int))), .eq (.fz (enc (x24 : Int)))] (by kernel_rfl) ((pu2 Nv.op_catT ((pu_var 5 rfl)).rd ((pu_tup (dp_cons ((pu_var 7 rfl)).tkP dp_nil) (fun x26 => ((Tp.mk [(Prod.fst x26)]) : (Tp Int))))).rd)).tkP))).tkTP ow_tree)).ev fun _ => rfl) fun x32 => (bl_ga [.eq (.fz (enc (a0 : Int))), .eq (.fz (enc (a1 : Int))), .eq (.fz (enc (x11 : (List (Tp Int))))), .eq (.fz (enc (x7 : Int))), .eq (ow ((Prod.fst x32) : (List (Tp Int)))), .eq (.fz (enc (x12 : (Tp Int)))), .eq (.fz (enc (x20 : Int))), .eq .no] (by kernel_rfl) (bl_end (rs_nx (.cons .rfl (.cons .rfl (.cons .rfl (.cons .rfl (.cons .rfl (.cons .fz (.cons .fz (.cons .rfl .nil))))))))))))))))) fun x11 s13 => (bl_last (bl_asgV (tk_own 4 rfl) fun x33 => (bl_ga [.eq (.fz (enc (a0 : Int))), .eq (.fz (enc (a1 : Int))), .eq (.fz (enc (x33 : (List (Tp Int))))), .eq (.fz (enc (x7 : Int))), .eq (.fz (enc (x33 : (List (Tp Int))))), .pl, .pl, .eq .no] (by kernel_rfl) (bl_end (rs_nx (.cons .rfl (.cons .rfl (.cons .trf (.cons .fz (.cons .fz (.cons .rfl (.cons .rfl (.cons .rfl .nil)))))))))))))))))) fun x6 s8 => (bl_retR (k := 2) rfl (sat_gaM [.eq (.fz (enc (a0 : Int))), .eq (.fz (enc (a1 : Int))), .any, .pl, .pl, .pl, .pl, .eq .no] (by kernel_rfl) (fun _t _d _h _s => ⟨_t, _d, .inl rfl, _h, _s.wk (.cons .aa (.cons .aa (.cons .aa (.cons .aa (.cons .aa (.cons .aa (.cons .aa (.cons .aa .nil))))))))⟩))))))))
end P
namespace P
open PySem PySem.Spec PyProof.Rows L2 Hb Nv
open Enc (enc)
def B__law_pick : List Sl → Ot :=
    oSeq (oIf (sTst (s2 gGt (s2 gIx2 (sVar 0) (sC (.int 0))) (sC (.int 0)))) (oSeq (oAsg (s2 gMod (s1 (gRd intD) (s2 gIx2 (sVar 0) (sC (.int 0)))) (sVar 1)) (tgN 3))
    (oSeq (oAsg (s2 gFdivW (s2 gIx2 (sVar 0) (sC (.int 0))) (sVar 1)) (tgS (sVar 0) (sC (.int 0))))
    (oRet (sVar 3)))) (oNext))
    (oSeq (oAsg (s2 gAdd (s2 gIx2 (sVar 0) (sC (.int 2))) (sC (.int 1))) (tgS (sVar 0) (sC (.int 2))))
    (oSeq (oAsg (sTk (s2 gMod (s1 (gRd intD) (s2 gPowW (s2 gAdd (s2 gIx2 (sVar 0) (sC (.int 1))) (s2 gMulX (sC (.int 524287)) (s2 gIx2 (sVar 0) (sC (.int 2))))) (sC (.int 5)))) (s2 gAdd (s2 gPowW (sC (.int 10)) (sC (.int 33))) (sC (.int 61))))) (tgN 2))
    (oSeq (oAsg (sTk (s2 gMod (s1 (gRd intD) (s2 gPowW (s2 gAdd (sVar 2) (s2 gMulX (sC (.int 2097143)) (s2 gIx2 (sVar 0) (sC (.int 2))))) (sC (.int 3)))) (s2 gAdd (s2 gPowW (sC (.int 10)) (sC (.int 27))) (sC (.int 103))))) (tgN 2))
    (oRet (s2 gMod (s1 (gRd intD) (s2 gFdivW (sVar 2) (sC (.int 4093)))) (sVar 1))))))
def F__law_pick : List Sl → FR := fnRun 2 4 [0] B__law_pick
def n__law_pick (a0 : (List Int)) (a1 : Int) : Option (Int × (List Int)) :=
    (Option.bind (Option.bind (Option.bind (some a0) fun x1 => Option.bind (some (0 : Int)) fun x2 => atL x1 x2) fun x3 => Option.bind (some (0 : Int)) fun x4 => gtI x3 x4) fun x5 => if x5 = true then (Option.bind (Option.bind (Option.bind (Option.bind (some a0) fun x6 => Option.bind (some (0 : Int)) fun x7 => atL x6 x7) fun x8 => intI x8) fun x9 => Option.bind (some a1) fun x10 => modI x9 x10) fun x11 => (Option.bind (Option.bind (Option.bind (some a0) fun x12 => Option.bind (some (0 : Int)) fun x13 => atL x12 x13) fun x14 => Option.bind (some a1) fun x15 => fdivW x14 x15) fun x16 => Option.bind (some (0 : Int)) fun x17 => Option.bind (stI a0 x17 x16) fun x18 => (Option.bind (some x11) fun x19 => some (x19, x18)))) else (Option.bind (Option.bind (Option.bind (some a0) fun x20 => Option.bind (some (2 : Int)) fun x21 => atL x20 x21) fun x22 => Option.bind (some (1 : Int)) fun x23 => addI x22 x23) fun x24 => Option.bind (some (2 : Int)) fun x25 => Option.bind (stI a0 x25 x24) fun x26 => (Option.bind (Option.bind (Option.bind (Option.bind (Option.bind (Option.bind (some x26) fun x27 => Option.bind (some (1 : Int)) fun x28 => atL x27 x28) fun x33 => Option.bind (Option.bind (some (524287 : Int)) fun x31 => Option.bind (Option.bind (some x26) fun x29 => Option.bind (some (2 : Int)) fun x30 => atL x29 x30) fun x32 => mulI x31 x32) fun x34 => addI x33 x34) fun x35 => Option.bind (some (5 : Int)) fun x36 => powW x35 x36) fun x37 => intI x37) fun x42 => Option.bind (Option.bind (Option.bind (some (10 : Int)) fun x38 => Option.bind (some (33 : Int)) fun x39 => powW x38 x39) fun x40 => Option.bind (some (61 : Int)) fun x41 => addI x40 x41) fun x43 => modI x42 x43) fun x44 => (Option.bind (Option.bind (Option.bind (Option.bind (Option.bind (some x44) fun x49 => Option.bind (Option.bind (some (2097143 : Int)) fun x47 => Option.bind (Option.bind (some x26) fun x45 => Option.bind (some (2 : Int)) fun x46 => atL x45 x46) fun x48 => mulI x47 x48) fun x50 => addI x49 x50) fun x51 => Option.bind (some (3 : Int)) fun x52 => powW x51 x52) fun x53 => intI x53) fun x58 => Option.bind (Option.bind (Option.bind (some (10 : Int)) fun x54 => Option.bind (some (27 : Int)) fun x55 => powW x54 x55) fun x56 => Option.bind (some (103 : Int)) fun x57 => addI x56 x57) fun x59 => modI x58 x59) fun x60 => (Option.bind (Option.bind (Option.bind (Option.bind (some x60) fun x61 => Option.bind (some (4093 : Int)) fun x62 => fdivW x61 x62) fun x63 => intI x63) fun x64 => Option.bind (some a1) fun x65 => modI x64 x65) fun x66 => some (x66, x26))))))
theorem V__law_pick (a0 : (List Int)) (a1 : Int) : Fun F__law_pick (n__law_pick a0 a1) [ow a0, .fz (enc a1)] (fun r : (Int × (List Int)) => .fz (enc ((Prod.fst r) : Int))) fun r => [ow (Prod.snd r), .no] :=
  fun_of (ΓR := fun r => [.eq (ow ((Prod.snd r) : (List Int))), .aa, .aa, .aa]) (show Bl B__law_pick _ _ _ from (bl_ga [.eq (ow (a0 : (List Int))), .eq (.fz (enc (a1 : Int))), .eq .no, .eq .no] (by kernel_rfl) (bl_if (k := fun x5 => x5) ((ts_tst (pu2 Nv.op_gt ((pu2 Nv.op_ix2 (rd_own 0 rfl) (pu_c).rd)).rd (pu_c).rd))).te' (fun x5 => (bl_assoc (bl_asgV ((pu2 Nv.op_mod ((pu1A Nv.op_int (((pu2 Nv.op_ix2 (rd_own 0 rfl) (pu_c).rd)).rd).ra)).rd ((pu_var 1 rfl)).rd)).ev fun x11 => (bl_ga [.eq (ow (a0 : (List Int))), .eq (.fz (enc (a1 : Int))), .eq .no, .eq (.fz (enc (x11 : Int)))] (by kernel_rfl) (bl_assoc (bl_set (k := 0) (va := fun x16 => x16) (xs := fun x16 => a0) ((pu2 Nv.op_fdivW ((pu2 Nv.op_ix2 (rd_own 0 rfl) (pu_c).rd)).rd ((pu_var 1 rfl)).rd)).ev (fun _ => rfl) (fun x16 => (pu_c).rd) fun x16 x18 => (bl_ga [.eq (ow (x18 : (List Int))), .eq (.fz (enc (a1 : Int))), .eq .no, .eq (.fz (enc (x11 : Int)))] (by kernel_rfl) (bl_retS (bl_retV ((pu_var 3 rfl)).ev fun x19 => (rf_eq rfl (.cons .rfl (.cons .aa (.cons .aa (.cons .aa .nil)))))))))))))) fun x5 => (bl_next (bl_set (k := 0) (va := fun x24 => x24) (xs := fun x24 => a0) ((pu2 Nv.op_add ((pu2 Nv.op_ix2 (rd_own 0 rfl) (pu_c).rd)).rd (pu_c).rd)).ev (fun _ => rfl) (fun x24 => (pu_c).rd) fun x24 x26 => (bl_ga [.eq (ow (x26 : (List Int))), .eq (.fz (enc (a1 : Int))), .eq .no, .eq .no] (by kernel_rfl) (bl_asgV (((pu2 Nv.op_mod ((pu1A Nv.op_int (((pu2 Nv.op_powW ((pu2 Nv.op_add ((pu2 Nv.op_ix2 (rd_own 0 rfl) (pu_c).rd)).rd ((pu2 Nv.op_mul (pu_c).rd ((pu2 Nv.op_ix2 (rd_own 0 rfl) (pu_c).rd)).rd)).rd)).rd (pu_c).rd)).rd).ra)).rd ((pu2 Nv.op_add ((pu2 Nv.op_powW (pu_c).rd (pu_c).rd)).rd (pu_c).rd)).rd)).tkP).ev fun x44 => (bl_ga [.eq (ow (x26 : (List Int))), .eq (.fz (enc (a1 : Int))), .eq (.fz (enc (x44 : Int))), .eq .no] (by kernel_rfl) (bl_asgV (((pu2 Nv.op_mod ((pu1A Nv.op_int (((pu2 Nv.op_powW ((pu2 Nv.op_add ((pu_var 2 rfl)).rd ((pu2 Nv.op_mul (pu_c).rd ((pu2 Nv.op_ix2 (rd_own 0 rfl) (pu_c).rd)).rd)).rd)).rd (pu_c).rd)).rd).ra)).rd ((pu2 Nv.op_add ((pu2 Nv.op_powW (pu_c).rd (pu_c).rd)).rd (pu_c).rd)).rd)).tkP).ev fun x60 => (bl_ga [.eq (ow (x26 : (List Int))), .eq (.fz (enc (a1 : Int))), .eq (.fz (enc (x60 : Int))), .eq .no] (by kernel_rfl) (bl_retV ((pu2 Nv.op_mod ((pu1A Nv.op_int (((pu2 Nv.op_fdivW ((pu_var 2 rfl)).rd (pu_c).rd)).rd).ra)).rd ((pu_var 1 rfl)).rd)).ev fun x66 => (rf_eq rfl (.cons .rfl (.cons .aa (.cons .aa (.cons .aa .nil))))))))))))))))
end P
namespace P
open PySem PySem.Spec PyProof.Rows L2 Hb Nv
open Enc (enc)
def B__law_some_fixed : List Sl → Ot :=
    oSeq (oAsg (sTk (sCall F__law_pick [] (rIo 0 (rCons (sC (.int 3)) (rNil))))) (tgN 3))
    (oSeq (oIf (sTst (s2 gEq (sVar 3) (sC (.int 0)))) (oRet (s1 (gSortD) (sLc false (wRng1 (s2 gAdd (sVar 2) (sC (.int 1)))) [4] (tgN 4) (tOk) (sTk (s2 gIx2 (sLst (lCons (sC (.int 0)) (lCons (s2 gSub (sVar 1) (sC (.int 1))) (lNil)))) (sCall F__law_pick [] (rIo 0 (rCons (sC (.int 2)) (rNil))))))))) (oNext))
    (oSeq (oIf (sAnd (sTst (s2 gEq (sVar 3) (sC (.int 1)))) (sTst (s2 gEq (sCall F__law_pick [] (rIo 0 (rCons (sC (.int 3)) (rNil)))) (sC (.int 0))))) (oRet (s2 gMulX (sLst (lCons (sCall F__law_pick [] (rIo 0 (rCons (sTk (sVar 1)) (rNil)))) (lNil))) (s2 gAdd (sVar 2) (sC (.int 1))))) (oNext))
    (oRet (s1 (gSortD) (sLc false (wRng1 (s2 gAdd (sVar 2) (sC (.int 1)))) [4] (tgN 4) (tOk) (sTk (sCall F__law_pick [] (rIo 0 (rCons (sTk (sVar 1)) (rNil))))))))))
def F__law_some_fixed : List Sl → FR := fnRun 3 5 [0] B__law_some_fixed
def n__law_some_fixed (a0 : (List Int)) (a1 : Int) (a2 : Int) : Option ((List Int) × (List Int)) :=
    (Option.bind (Option.bind (Option.bind (some (3 : Int)) fun x1 => Option.bind (some ()) fun x2 => some (x1, x2)) fun x3 => Option.bind (n__law_pick (a0 : (List Int)) ((Prod.fst x3) : Int)) fun x4 => some (x4, x3)) fun x5 => (Option.bind (Option.bind (some (Prod.fst (Prod.fst x5))) fun x6 => Option.bind (some (0 : Int)) fun x7 => eqN x6 x7) fun x8 => if x8 = true then (Option.bind (Option.bind (Option.bind (Option.bind (Option.bind (some a2) fun x9 => Option.bind (some (1 : Int)) fun x10 => addI x9 x10) fun x11 => ri1 x11) fun x12 => if List.length (x12) ≤ cap then Option.bind (mapE x12 ((Prod.snd (Prod.fst x5)) : (List Int)) (fun s28 x13 => (Option.bind (Option.bind (Option.bind (Option.bind (some (0 : Int)) fun x29 => Option.bind (Option.bind (Option.bind (some a1) fun x30 => Option.bind (some (1 : Int)) fun x31 => subI x30 x31) fun x32 => Option.bind (some ()) fun x34 => some (x32, x34)) fun x35 => some (x29, x35)) fun x33 => some ([(Prod.fst x33), (Prod.fst (Prod.snd x33))] : (List Int))) fun x42 => Option.bind (Option.bind (Option.bind (some (2 : Int)) fun x36 => Option.bind (some ()) fun x37 => some (x36, x37)) fun x38 => Option.bind (n__law_pick (s28 : (List Int)) ((Prod.fst x38) : Int)) fun x39 => some (x39, x38)) fun x40 => Option.bind (atL x42 (Prod.fst (Prod.fst x40))) fun x41 => some (x41, x42, x40)) fun x43 => some ((Prod.fst x43), (Prod.snd (Prod.fst (Prod.snd (Prod.snd x43)))))))) fun r => some (r, x12) else none) fun x45 => Option.bind (srtC (Prod.fst (Prod.fst x45))) fun x46 => some (x46, x45)) fun x47 => some ((Prod.fst x47), (Prod.snd (Prod.fst (Prod.snd x47))))) else (Option.bind (Option.bind (Option.bind (some (Prod.fst (Prod.fst x5))) fun x48 => Option.bind (some (1 : Int)) fun x49 => eqN x48 x49) fun x58 => if x58 = true then (Option.bind (Option.bind (Option.bind (Option.bind (some (3 : Int)) fun x59 => Option.bind (some ()) fun x60 => some (x59, x60)) fun x61 => Option.bind (n__law_pick ((Prod.snd (Prod.fst x5)) : (List Int)) ((Prod.fst x61) : Int)) fun x62 => some (x62, x61)) fun x63 => Option.bind (some (0 : Int)) fun x64 => Option.bind (eqN (Prod.fst (Prod.fst x63)) x64) fun x65 => some (x65, x63, x64)) fun x67 => some ((Prod.fst x67), (Prod.snd (Prod.fst (Prod.fst (Prod.snd x67)))))) else some (false, (Prod.snd (Prod.fst x5)))) fun x69 => if (Prod.fst x69) = true then (Option.bind (Option.bind (Option.bind (Option.bind (Option.bind (Option.bind (some a1) fun x70 => Option.bind (some ()) fun x71 => some (x70, x71)) fun x72 => Option.bind (n__law_pick ((Prod.snd x69) : (List Int)) ((Prod.fst x72) : Int)) fun x73 => some (x73, x72)) fun x74 => Option.bind (some ()) fun x76 => some (x74, x76)) fun x75 => some (([(Prod.fst (Prod.fst (Prod.fst x75)))] : (List Int)), x75)) fun x77 => Option.bind (Option.bind (some a2) fun x80 => Option.bind (some (1 : Int)) fun x81 => addI x80 x81) fun x78 => Option.bind (repL (Prod.fst x77) x78) fun x79 => some (x79, x77, x78)) fun x82 => some ((Prod.fst x82), (Prod.snd (Prod.fst (Prod.fst (Prod.snd (Prod.fst (Prod.snd x82)))))))) else (Option.bind (Option.bind (Option.bind (Option.bind (Option.bind (some a2) fun x83 => Option.bind (some (1 : Int)) fun x84 => addI x83 x84) fun x85 => ri1 x85) fun x86 => if List.length (x86) ≤ cap then Option.bind (mapE x86 ((Prod.snd x69) : (List Int)) (fun s92 x87 => (Option.bind (Option.bind (Option.bind (some a1) fun x93 => Option.bind (some ()) fun x94 => some (x93, x94)) fun x95 => Option.bind (n__law_pick (s92 : (List Int)) ((Prod.fst x95) : Int)) fun x96 => some (x96, x95)) fun x97 => some ((Prod.fst (Prod.fst x97)), (Prod.snd (Prod.fst x97)))))) fun r => some (r, x86) else none) fun x99 => Option.bind (srtC (Prod.fst (Prod.fst x99))) fun x100 => some (x100, x99)) fun x101 => some ((Prod.fst x101), (Prod.snd (Prod.fst (Prod.snd x101))))))))
theorem V__law_some_fixed (a0 : (List Int)) (a1 : Int) (a2 : Int) : Fun F__law_some_fixed (n__law_some_fixed a0 a1 a2) [ow a0, .fz (enc a1), .fz (enc a2)] (fun r : ((List Int) × (List Int)) => ow ((Prod.fst r) : (List Int))) fun r => [ow (Prod.snd r), .no, .no] :=
  fun_of (ΓR := fun r => [.eq (ow ((Prod.snd r) : (List Int))), .aa, .aa, .aa, .aa]) (show Bl B__law_some_fixed _ _ _ from (bl_ga [.eq (ow (a0 : (List Int))), .eq (.fz (enc (a1 : Int))), .eq (.fz (enc (a2 : Int))), .eq .no, .eq .no] (by kernel_rfl) (bl_asgV ((ev_callG (ag_io (k := 0) rfl rfl (ag_cons (pu_c).ev fun x1 => ag_nil)) (fun x3 => V__law_pick (a0 : (List Int)) ((Prod.fst x3) : Int)))).tk fun x5 => (bl_ga [.eq (ow ((Prod.snd (Prod.fst x5)) : (List Int))), .eq (.fz (enc (a1 : Int))), .eq (.fz (enc (a2 : Int))), .eq (.fz (enc ((Prod.fst (Prod.fst x5)) : Int))), .eq .no] (by kernel_rfl) (bl_if (k := fun x8 => x8) ((ts_tst (pu2A Nv.op_eq (((pu_var 3 rfl)).rd).ra ((pu_c).rd).ra))).te' (fun x8 => (bl_retS (bl_retT (ev1g Nv.op_srtC (va := fun x45 => (Prod.fst (Prod.fst x45))) ((((ev_lc (vs := [4]) (xs := fun x12 => x12) (s0 := fun x12 => ((Prod.snd (Prod.fst x5)) : (List Int))) (ΓL := fun x12 s28 => [.eq (ow (s28 : (List Int))), .eq (.fz (enc (a1 : Int))), .eq (.fz (enc (a2 : Int))), .eq (.fz (enc ((Prod.fst (Prod.fst x5)) : Int))), .eq .no]) (Γ2 := fun x12 s28 x13 x44 => [.eq (ow ((Prod.snd x44) : (List Int))), .eq (.fz (enc (a1 : Int))), .eq (.fz (enc (a2 : Int))), .eq (.fz (enc ((Prod.fst (Prod.fst x5)) : Int))), .eq (.fz (enc (x13 : Int)))]) ((ip_rng1 ((pu2 Nv.op_add ((pu_var 2 rfl)).rd (pu_c).rd)).tkP)).it (fun x12 => (.cons .rfl (.cons .rfl (.cons .rfl (.cons .rfl (.cons .rfl .nil)))))) (fun _ _ => rfl) (fun x12 s28 x13 => tg_n) (fun _ _ _ => ts_ok) (fun x12 s28 x13 => (ev_ga [.eq (ow (s28 : (List Int))), .eq (.fz (enc (a1 : Int))), .eq (.fz (enc (a2 : Int))), .eq (.fz (enc ((Prod.fst (Prod.fst x5)) : Int))), .eq (.fz (enc (x13 : Int)))] (by kernel_rfl) (Ev.mapW (fun x43 => ((Prod.fst x43), (Prod.snd (Prod.fst (Prod.snd (Prod.snd x43)))))) ((ev2g Nv.op_ix2 (va := fun x42 => x42) (vb := fun x42 x40 => (Prod.fst (Prod.fst x40))) (((pu_lst (dp_cons (pu_c).tkP (dp_cons ((pu2 Nv.op_sub ((pu_var 1 rfl)).rd (pu_c).rd)).tkP dp_nil)) (fun x33 => ([(Prod.fst x33), (Prod.fst (Prod.snd x33))] : (List Int))))).ev.erT fun _ => ow_tree _) fun x42 => (((ev_callG (ag_io (k := 0) rfl rfl (ag_cons (pu_c).ev fun x36 => ag_nil)) (fun x38 => V__law_pick (s28 : (List Int)) ((Prod.fst x38) : Int)))).er).es)).tk fun x43 => (gale_ga [.eq (ow ((Prod.snd (Prod.fst (Prod.snd (Prod.snd x43)))) : (List Int))), .eq (.fz (enc (a1 : Int))), .eq (.fz (enc (a2 : Int))), .eq (.fz (enc ((Prod.fst (Prod.fst x5)) : Int))), .eq (.fz (enc (x13 : Int)))] (by kernel_rfl) (.cons .rfl (.cons .rfl (.cons .rfl (.cons .rfl (.cons .rfl .nil))))))))) fun _ _ _ _ => (gale_ga _ rfl (.cons .rfl (.cons .rfl (.cons .rfl (.cons .rfl (.cons .rfl .nil)))))))).erT fun _ => ow_tree _)).es) fun x47 => (sat_ga [.eq (ow ((Prod.snd (Prod.fst (Prod.snd x47))) : (List Int))), .eq (.fz (enc (a1 : Int))), .eq (.fz (enc (a2 : Int))), .eq (.fz (enc ((Prod.fst (Prod.fst x5)) : Int))), .eq .no] (by kernel_rfl) (rf_eq rfl (.cons .rfl (.cons .aa (.cons .aa (.cons .aa (.cons .aa .nil)))))))))) fun x8 => (bl_next (bl_if (k := fun x69 => (Prod.fst x69)) (te_and (k := fun x58 => x58) (k2 := Prod.fst) (Γ2 := fun x68 => [.eq (ow ((Prod.snd x68) : (List Int))), .eq (.fz (enc (a1 : Int))), .eq (.fz (enc (a2 : Int))), .eq (.fz (enc ((Prod.fst (Prod.fst x5)) : Int))), .eq .no]) (z := fun x58 => (false, (Prod.snd (Prod.fst x5)))) ((ts_tst (pu2A Nv.op_eq (((pu_var 3 rfl)).rd).ra ((pu_c).rd).ra))).te' (fun x58 => (te_map (fun x67 => ((Prod.fst x67), (Prod.snd (Prod.fst (Prod.fst (Prod.snd x67)))))) (te_tst (k := fun x66 => (Prod.fst x66)) (ev2g (Op2A.to Nv.op_eq) (va := fun x63 => (Prod.fst (Prod.fst x63))) (vb := fun x63 x64 => x64) ((ev_callG (ag_io (k := 0) rfl rfl (ag_cons (pu_c).ev fun x59 => ag_nil)) (fun x61 => V__law_pick ((Prod.snd (Prod.fst x5)) : (List Int)) ((Prod.fst x61) : Int)))).er fun x63 => (es_ga [.eq (ow ((Prod.snd (Prod.fst x63)) : (List Int))), .eq (.fz (enc (a1 : Int))), .eq (.fz (enc (a2 : Int))), .eq (.fz (enc ((Prod.fst (Prod.fst x5)) : Int))), .eq .no] (by kernel_rfl) ((pu_c).rd).es))) (h2 := fun _ => by kernel_rfl))) fun _ => ⟨rfl, by kernel_rfl⟩) (fun x69 => (bl_ga [.eq (ow ((Prod.snd x69) : (List Int))), .eq (.fz (enc (a1 : Int))), .eq (.fz (enc (a2 : Int))), .eq (.fz (enc ((Prod.fst (Prod.fst x5)) : Int))), .eq .no] (by kernel_rfl) (bl_retS (bl_retT (ev2g Nv.op_rep (va := fun x77 => (Prod.fst x77)) (vb := fun x77 x78 => x78) (((ev_lst (dl_cons ((ev_callG (ag_io (k := 0) rfl rfl (ag_cons (((pu_var 1 rfl)).tkP).ev fun x70 => ag_nil)) (fun x72 => V__law_pick ((Prod.snd x69) : (List Int)) ((Prod.fst x72) : Int)))).tk fun x74 => (dl_ga [.eq (ow ((Prod.snd (Prod.fst x74)) : (List Int))), .eq (.fz (enc (a1 : Int))), .eq (.fz (enc (a2 : Int))), .eq (.fz (enc ((Prod.fst (Prod.fst x5)) : Int))), .eq .no] (by kernel_rfl) dl_nil)) (fun x75 => ([(Prod.fst (Prod.fst (Prod.fst x75)))] : (List Int))))).erT fun _ => ow_tree _) fun x77 => (es_ga [.eq (ow ((Prod.snd (Prod.fst (Prod.fst (Prod.snd x77)))) : (List Int))), .eq (.fz (enc (a1 : Int))), .eq (.fz (enc (a2 : Int))), .eq (.fz (enc ((Prod.fst (Prod.fst x5)) : Int))), .eq .no] (by kernel_rfl) (((pu2 Nv.op_add ((pu_var 2 rfl)).rd (pu_c).rd)).rd).es)) fun x82 => (sat_ga [.eq (ow ((Prod.snd (Prod.fst (Prod.fst (Prod.snd (Prod.fst (Prod.snd x82)))))) : (List Int))), .eq (.fz (enc (a1 : Int))), .eq (.fz (enc (a2 : Int))), .eq (.fz (enc ((Prod.fst (Prod.fst x5)) : Int))), .eq .no] (by kernel_rfl) (rf_eq rfl (.cons .rfl (.cons .aa (.cons .aa (.cons .aa (.cons .aa .nil))))))))))) fun x69 => (bl_ga [.eq (ow ((Prod.snd x69) : (List Int))), .eq (.fz (enc (a1 : Int))), .eq (.fz (enc (a2 : Int))), .eq (.fz (enc ((Prod.fst (Prod.fst x5)) : Int))), .eq .no] (by kernel_rfl) (bl_next (bl_retT (ev1g Nv.op_srtC (va := fun x99 => (Prod.fst (Prod.fst x99))) ((((ev_lc (vs := [4]) (xs := fun x86 => x86) (s0 := fun x86 => ((Prod.snd x69) : (List Int))) (ΓL := fun x86 s92 => [.eq (ow (s92 : (List Int))), .eq (.fz (enc (a1 : Int))), .eq (.fz (enc (a2 : Int))), .eq (.fz (enc ((Prod.fst (Prod.fst x5)) : Int))), .eq .no]) (Γ2 := fun x86 s92 x87 x98 => [.eq (ow ((Prod.snd x98) : (List Int))), .eq (.fz (enc (a1 : Int))), .eq (.fz (enc (a2 : Int))), .eq (.fz (enc ((Prod.fst (Prod.fst x5)) : Int))), .eq (.fz (enc (x87 : Int)))]) ((ip_rng1 ((pu2 Nv.op_add ((pu_var 2 rfl)).rd (pu_c).rd)).tkP)).it (fun x86 => (.cons .rfl (.cons .rfl (.cons .rfl (.cons .rfl (.cons .rfl .nil)))))) (fun _ _ => rfl) (fun x86 s92 x87 => tg_n) (fun _ _ _ => ts_ok) (fun x86 s92 x87 => (ev_ga [.eq (ow (s92 : (List Int))), .eq (.fz (enc (a1 : Int))), .eq (.fz (enc (a2 : Int))), .eq (.fz (enc ((Prod.fst (Prod.fst x5)) : Int))), .eq (.fz (enc (x87 : Int)))] (by kernel_rfl) (Ev.mapW (fun x97 => ((Prod.fst (Prod.fst x97)), (Prod.snd (Prod.fst x97)))) ((ev_callG (ag_io (k := 0) rfl rfl (ag_cons (((pu_var 1 rfl)).tkP).ev fun x93 => ag_nil)) (fun x95 => V__law_pick (s92 : (List Int)) ((Prod.fst x95) : Int)))).tk fun x97 => (gale_ga [.eq (ow ((Prod.snd (Prod.fst x97)) : (List Int))), .eq (.fz (enc (a1 : Int))), .eq (.fz (enc (a2 : Int))), .eq (.fz (enc ((Prod.fst (Prod.fst x5)) : Int))), .eq (.fz (enc (x87 : Int)))] (by kernel_rfl) (.cons .rfl (.cons .rfl (.cons .rfl (.cons .rfl (.cons .rfl .nil))))))))) fun _ _ _ _ => (gale_ga _ rfl (.cons .rfl (.cons .rfl (.cons .rfl (.cons .rfl (.cons .rfl .nil)))))))).erT fun _ => ow_tree _)).es) fun x101 => (sat_ga [.eq (ow ((Prod.snd (Prod.fst (Prod.snd x101))) : (List Int))), .eq (.fz (enc (a1 : Int))), .eq (.fz (enc (a2 : Int))), .eq (.fz (enc ((Prod.fst (Prod.fst x5)) : Int))), .eq .no] (by kernel_rfl) (rf_eq rfl (.cons .rfl (.cons .aa (.cons .aa (.cons .aa (.cons .aa .nil)))))))))))))))))
end P
namespace P
open PySem PySem.Spec PyProof.Rows L2 Hb Nv
open Enc (enc)
def B__law_table : List Sl → Ot :=
    oRet (sLc false (wSeq (sCall F__law_tellings [] (rCons (sTk (sVar 0)) (rCons (sTk (sVar 1)) (rNil))))) [3] (tgN 3) (tOk) (sTk (s2 gIx2 (s1 (gSortD) (s2 gAdd (s1 (gList) (sVar 3)) (sVar 2))) (sVar 1))))
def F__law_table : List Sl → FR := fnRun 3 4 [] B__law_table
def n__law_table (a0 : Int) (a1 : Int) (a2 : (List Int)) : Option ((List Int)) :=
    (Option.bind (Option.bind (Option.bind (Option.bind (some a0) fun x1 => Option.bind (Option.bind (some a1) fun x2 => Option.bind (some ()) fun x3 => some (x2, x3)) fun x4 => some (x1, x4)) fun x5 => n__law_tellings ((Prod.fst x5) : Int) ((Prod.fst (Prod.snd x5)) : Int)) fun x6 => if List.length (x6) ≤ cap then mapF x6 (fun x7 => (some true)) (fun x7 => (Option.bind (Option.bind (Option.bind (Option.bind (some x7) fun x8 => listT x8) fun x9 => Option.bind (some a2) fun x10 => catL x9 x10) fun x11 => srtC x11) fun x12 => Option.bind (some a1) fun x13 => atL x12 x13)) else none) fun x14 => some x14)
theorem V__law_table (a0 : Int) (a1 : Int) (a2 : (List Int)) : Fun F__law_table (n__law_table a0 a1 a2) [.fz (enc a0), .fz (enc a1), .fz (enc a2)] (fun r : ((List Int)) => ow (r : (List Int))) fun r => [.no, .no, .no] :=
  fun_of (ΓR := fun r => [.aa, .aa, .aa, .aa]) (show Bl B__law_table _ _ _ from (bl_ga [.eq (.fz (enc (a0 : Int))), .eq (.fz (enc (a1 : Int))), .eq (.fz (enc (a2 : (List Int)))), .eq .no] (by kernel_rfl) (bl_retT ((pu_lc (vs := [3]) (ip_seq (xs := fun v => v) (tk_callM (ap_cons ((pu_var 0 rfl)).tkP (ap_cons ((pu_var 1 rfl)).tkP ap_nil)) (fun x5 => V__law_tellings ((Prod.fst x5) : Int) ((Prod.fst (Prod.snd x5)) : Int)))) rfl rfl (fun x6 x7 => tg_n) (fun x6 x7 => (ts_ga [.eq (.fz (enc (a0 : Int))), .eq (.fz (enc (a1 : Int))), .eq (.fz (enc (a2 : (List Int)))), .eq (.fz (enc (x7 : (Tp Int))))] (by kernel_rfl) ts_ok)) fun x6 x7 => (pu_ga [.eq (.fz (enc (a0 : Int))), .eq (.fz (enc (a1 : Int))), .eq (.fz (enc (a2 : (List Int)))), .eq (.fz (enc (x7 : (Tp Int))))] (by kernel_rfl) ((pu2 Nv.op_ix2 (((pu1 Nv.op_srtC (((pu2 Nv.op_cat (((pu1 Nv.op_listT ((pu_var 3 rfl)).rd)).rdT ow_tree) ((pu_var 2 rfl)).rd)).rdT ow_tree))).rdT ow_tree) ((pu_var 1 rfl)).rd)).tkP))).ev fun x14 => (rf_eq rfl (.cons .aa (.cons .aa (.cons .aa (.cons .aa .nil))))))))
end P
namespace P
open PySem PySem.Spec PyProof.Rows L2 Hb Nv
open Enc (enc)
def B__law_mirrored_v2 : List Sl → Ot :=
    oRet (s1 (gTuple) (s1 (gSortD) (sLc false (wSeq (sVar 1)) [2] (tgN 2) (tOk) (sTk (s2 gSub (s2 gSub (sVar 0) (sC (.int 1))) (sVar 2))))))
def F__law_mirrored_v2 : List Sl → FR := fnRun 2 3 [] B__law_mirrored_v2
def n__law_mirrored_v2 (a0 : Int) (a1 : (Tp Int)) : Option ((Tp Int)) :=
    (Option.bind (Option.bind (Option.bind (Option.bind (some a1) fun x1 => if List.length ((Tp.l x1)) ≤ cap then mapF (Tp.l x1) (fun x2 => (some true)) (fun x2 => (Option.bind (Option.bind (some a0) fun x3 => Option.bind (some (1 : Int)) fun x4 => subI x3 x4) fun x5 => Option.bind (some x2) fun x6 => subI x5 x6)) else none) fun x7 => srtC x7) fun x8 => tupL x8) fun x9 => some x9)
theorem V__law_mirrored_v2 (a0 : Int) (a1 : (Tp Int)) : Fun F__law_mirrored_v2 (n__law_mirrored_v2 a0 a1) [.fz (enc a0), .fz (enc a1)] (fun r : ((Tp Int)) => .fz (enc (r : (Tp Int)))) fun r => [.no, .no] :=
  fun_of (ΓR := fun r => [.aa, .aa, .aa]) (show Bl B__law_mirrored_v2 _ _ _ from (bl_ga [.eq (.fz (enc (a0 : Int))), .eq (.fz (enc (a1 : (Tp Int)))), .eq .no] (by kernel_rfl) (bl_retV ((pu1 Nv.op_tup (((pu1 Nv.op_srtC (((pu_lc (vs := [2]) (ip_seqT (xs := fun v => v) ((pu_var 1 rfl)).tkP) rfl rfl (fun x1 x2 => tg_n) (fun x1 x2 => (ts_ga [.eq (.fz (enc (a0 : Int))), .eq (.fz (enc (a1 : (Tp Int)))), .eq (.fz (enc (x2 : Int)))] (by kernel_rfl) ts_ok)) fun x1 x2 => (pu_ga [.eq (.fz (enc (a0 : Int))), .eq (.fz (enc (a1 : (Tp Int)))), .eq (.fz (enc (x2 : Int)))] (by kernel_rfl) ((pu2 Nv.op_sub ((pu2 Nv.op_sub ((pu_var 0 rfl)).rd (pu_c).rd)).rd ((pu_var 2 rfl)).rd)).tkP))).rdT ow_tree))).rdT ow_tree))).ev fun x9 => (rf_eq rfl (.cons .aa (.cons .aa (.cons .aa .nil)))))))
end P
namespace P
open PySem PySem.Spec PyProof.Rows L2 Hb Nv
open Enc (enc)
def B__law_even_table : List Sl → Ot :=
    oSeq (oPar [4, 5] (rCons (sTk (sCall F__law_tellings [] (rCons (sTk (sVar 1)) (rCons (sTk (sVar 2)) (rNil))))) (rCons (sDic0) (rNil))))
    (oSeq (oFor (wSeq (sVar 4)) (tgN 3) (oSeq (oAsg (sTk (sCall F__law_mirrored_v2 [] (rCons (sTk (sVar 1)) (rCons (sTk (sVar 3)) (rNil))))) (tgN 6))
    (oIf (sTst (s2 (gInT true) (sVar 6) (sVar 5))) (oAsg (sIf (sTst (s2 gNe (sVar 6) (sVar 3))) (sCall F__law_pick [] (rIo 0 (rCons (sTk (sVar 1)) (rNil)))) (s2 gFdivW (sVar 1) (sC (.int 2)))) (tgST (sVar 5) (sVar 3))) (oAsg (s2 gSub (s2 gSub (sVar 1) (sC (.int 1))) (s2 gDixT (sVar 5) (sVar 6))) (tgST (sVar 5) (sVar 3))))))
    (oRet (sLc false (wSeq (sVar 4)) [3] (tgN 3) (tOk) (sTk (s2 gDixT (sVar 5) (sVar 3))))))
def F__law_even_table : List Sl → FR := fnRun 3 7 [0] B__law_even_table
def n__law_even_table (a0 : (List Int)) (a1 : Int) (a2 : Int) : Option ((List Int) × (List Int)) :=
    (Option.bind (Option.bind (Option.bind (Option.bind (some a1) fun x1 => Option.bind (Option.bind (some a2) fun x2 => Option.bind (some ()) fun x3 => some (x2, x3)) fun x4 => some (x1, x4)) fun x5 => n__law_tellings ((Prod.fst x5) : Int) ((Prod.fst (Prod.snd x5)) : Int)) fun x6 => Option.bind (Option.bind (some (Dc.mk [] : (Dc (Tp Int) Int))) fun x7 => Option.bind (some ()) fun x8 => some (x7, x8)) fun x9 => some (x6, x9)) fun x10 => (Option.bind (some (Prod.fst x10)) fun x11 => Option.bind (forS x11 ((a0, (Prod.fst (Prod.snd x10))) : ((List Int) × (Dc (Tp Int) Int))) fun s13 x12 => (Option.bind (Option.bind (Option.bind (some a1) fun x14 => Option.bind (Option.bind (some x12) fun x15 => Option.bind (some ()) fun x16 => some (x15, x16)) fun x17 => some (x14, x17)) fun x18 => n__law_mirrored_v2 ((Prod.fst x18) : Int) ((Prod.fst (Prod.snd x18)) : (Tp Int))) fun x19 => (Option.bind (Option.bind (some x19) fun x20 => Option.bind (some (Prod.snd s13)) fun x21 => ninDt x20 x21) fun x22 => if x22 = true then (Option.bind (Option.bind (Option.bind (some x19) fun x23 => Option.bind (some x12) fun x24 => neN x23 x24) fun x31 => if x31 = true then (Option.bind (Option.bind (Option.bind (some a1) fun x32 => Option.bind (some ()) fun x33 => some (x32, x33)) fun x34 => Option.bind (n__law_pick ((Prod.fst s13) : (List Int)) ((Prod.fst x34) : Int)) fun x35 => some (x35, x34)) fun x38 => some ((Prod.fst (Prod.fst x38)), (Prod.snd (Prod.fst x38)))) else (Option.bind (Option.bind (some a1) fun x36 => Option.bind (some (2 : Int)) fun x37 => fdivW x36 x37) fun x39 => some (x39, (Prod.fst s13)))) fun x41 => Option.bind (some x12) fun x42 => Option.bind (stDt (Prod.snd s13) x42 (Prod.fst x41)) fun x43 => some (((Prod.snd x41), x43) : ((List Int) × (Dc (Tp Int) Int)))) else (Option.bind (Option.bind (Option.bind (some a1) fun x44 => Option.bind (some (1 : Int)) fun x45 => subI x44 x45) fun x48 => Option.bind (Option.bind (some (Prod.snd s13)) fun x46 => Option.bind (some x19) fun x47 => lookDt x46 x47) fun x49 => subI x48 x49) fun x50 => Option.bind (some x12) fun x51 => Option.bind (stDt (Prod.snd s13) x51 x50) fun x52 => some (((Prod.fst s13), x52) : ((List Int) × (Dc (Tp Int) Int))))))) fun s13 => (Option.bind (Option.bind (some (Prod.fst x10)) fun x53 => if List.length (x53) ≤ cap then mapF x53 (fun x54 => (some true)) (fun x54 => (Option.bind (some (Prod.snd s13)) fun x55 => Option.bind (some x54) fun x56 => lookDt x55 x56)) else none) fun x57 => some (x57, (Prod.fst s13)))))
theorem V__law_even_table (a0 : (List Int)) (a1 : Int) (a2 : Int) : Fun F__law_even_table (n__law_even_table a0 a1 a2) [ow a0, .fz (enc a1), .fz (enc a2)] (fun r : ((List Int) × (List Int)) => ow ((Prod.fst r) : (List Int))) fun r => [ow (Prod.snd r), .no, .no] :=
  fun_of (ΓR := fun r => [.eq (ow ((Prod.snd r) : (List Int))), .aa, .aa, .aa, .aa, .aa, .aa]) (show Bl B__law_even_table _ _ _ from (bl_ga [.eq (ow (a0 : (List Int))), .eq (.fz (enc (a1 : Int))), .eq (.fz (enc (a2 : Int))), .eq .no, .eq .no, .eq .no, .eq .no] (by kernel_rfl) (bl_par (ag_cons ((tk_callM (ap_cons ((pu_var 1 rfl)).tkP (ap_cons ((pu_var 2 rfl)).tkP ap_nil)) (fun x5 => V__law_tellings ((Prod.fst x5) : Int) ((Prod.fst (Prod.snd x5)) : Int)))).ev fun x6 => (ag_cons (pu_dicn).ev fun x7 => ag_nil)) fun x10 => (bl_ga [.eq (ow (a0 : (List Int))), .eq (.fz (enc (a1 : Int))), .eq (.fz (enc (a2 : Int))), .eq .no, .eq (.fz (enc ((Prod.fst x10) : (List (Tp Int))))), .eq (od ((Prod.fst (Prod.snd x10)) : (Dc (Tp Int) Int))), .eq .no] (by kernel_rfl) (bl_for (vs := [3]) (xs := fun x11 => x11) (s0 := fun x11 => ((a0, (Prod.fst (Prod.snd x10))) : ((List Int) × (Dc (Tp Int) Int)))) (ΓL := fun x11 (s13 : ((List Int) × (Dc (Tp Int) Int))) => [.eq (ow ((Prod.fst s13) : (List Int))), .eq (.fz (enc (a1 : Int))), .eq (.fz (enc (a2 : Int))), .pl, .eq (.fz (enc ((Prod.fst x10) : (List (Tp Int))))), .eq (od ((Prod.snd s13) : (Dc (Tp Int) Int))), .pl]) ((ip_seq (xs := fun v => v) ((pu_var 4 rfl)).tkP)).it (fun x11 => (.cons .rfl (.cons .rfl (.cons .rfl (.cons .no (.cons .rfl (.cons .rfl (.cons .no .nil)))))))) (fun x11 s13 x12 => tg_n) (fun x11 s13 x12 => (bl_ga [.eq (ow ((Prod.fst s13) : (List Int))), .eq (.fz (enc (a1 : Int))), .eq (.fz (enc (a2 : Int))), .eq (.fz (enc (x12 : (Tp Int)))), .eq (.fz (enc ((Prod.fst x10) : (List (Tp Int))))), .eq (od ((Prod.snd s13) : (Dc (Tp Int) Int))), .pl] (by kernel_rfl) (bl_asgV (((pu_call (ap_cons ((pu_var 1 rfl)).tkP (ap_cons ((pu_var 3 rfl)).tkP ap_nil)) (fun x18 => V__law_mirrored_v2 ((Prod.fst x18) : Int) ((Prod.fst (Prod.snd x18)) : (Tp Int))))).tkP).ev fun x19 => (bl_ga [.eq (ow ((Prod.fst s13) : (List Int))), .eq (.fz (enc (a1 : Int))), .eq (.fz (enc (a2 : Int))), .eq (.fz (enc (x12 : (Tp Int)))), .eq (.fz (enc ((Prod.fst x10) : (List (Tp Int))))), .eq (od ((Prod.snd s13) : (Dc (Tp Int) Int))), .eq (.fz (enc (x19 : (Tp Int))))] (by kernel_rfl) (bl_last (bl_if (k := fun x22 => x22) ((ts_tst (pu2N op_ninDt ((pu_var 6 rfl)).rd (ra_od 5 rfl)))).te' (fun x22 => (bl_setT (k := 5) (va := fun x41 => (Prod.fst x41)) (d := fun x41 => (Prod.snd s13)) (ev_if (k := fun x31 => x31) (a := fun x40 => AV.val (enc (Prod.fst x40))) (Γ2 := fun x40 => [.eq (ow ((Prod.snd x40) : (List Int))), .eq (.fz (enc (a1 : Int))), .eq (.fz (enc (a2 : Int))), .eq (.fz (enc (x12 : (Tp Int)))), .eq (.fz (enc ((Prod.fst x10) : (List (Tp Int))))), .eq (od ((Prod.snd s13) : (Dc (Tp Int) Int))), .eq (.fz (enc (x19 : (Tp Int))))]) ((ts_tst (pu2A Nv.op_ne (((pu_var 6 rfl)).rd).ra (((pu_var 3 rfl)).rd).ra))).te' (fun x31 => (Ev.mapW (fun x38 => ((Prod.fst (Prod.fst x38)), (Prod.snd (Prod.fst x38)))) (ev_callG (ag_io (k := 0) rfl rfl (ag_cons (((pu_var 1 rfl)).tkP).ev fun x32 => ag_nil)) (fun x34 => V__law_pick ((Prod.fst s13) : (List Int)) ((Prod.fst x34) : Int))) fun x38 => (gale_ga [.eq (ow ((Prod.snd (Prod.fst x38)) : (List Int))), .eq (.fz (enc (a1 : Int))), .eq (.fz (enc (a2 : Int))), .eq (.fz (enc (x12 : (Tp Int)))), .eq (.fz (enc ((Prod.fst x10) : (List (Tp Int))))), .eq (od ((Prod.snd s13) : (Dc (Tp Int) Int))), .eq (.fz (enc (x19 : (Tp Int))))] (by kernel_rfl) (.cons .rfl (.cons .rfl (.cons .rfl (.cons .rfl (.cons .rfl (.cons .rfl (.cons .rfl .nil)))))))))) fun x31 => (Ev.mapW (fun x39 => (x39, (Prod.fst s13))) ((pu2 Nv.op_fdivW ((pu_var 1 rfl)).rd (pu_c).rd)).ev fun x39 => (.cons .rfl (.cons .rfl (.cons .rfl (.cons .rfl (.cons .rfl (.cons .rfl (.cons .rfl .nil))))))))) (fun _ => rfl) (fun x41 => ((pu_var 3 rfl)).rd) fun x41 x43 => (bl_ga [.eq (ow ((Prod.snd x41) : (List Int))), .eq (.fz (enc (a1 : Int))), .eq (.fz (enc (a2 : Int))), .eq (.fz (enc (x12 : (Tp Int)))), .eq (.fz (enc ((Prod.fst x10) : (List (Tp Int))))), .eq (od (x43 : (Dc (Tp Int) Int))), .eq (.fz (enc (x19 : (Tp Int))))] (by kernel_rfl) (bl_end (rs_nx (.cons .rfl (.cons .rfl (.cons .rfl (.cons .fz (.cons .rfl (.cons .rfl (.cons .fz .nil)))))))))))) fun x22 => (bl_setT (k := 5) (va := fun x50 => x50) (d := fun x50 => (Prod.snd s13)) ((pu2 Nv.op_sub ((pu2 Nv.op_sub ((pu_var 1 rfl)).rd (pu_c).rd)).rd ((pu2M op_dixT (ra_od 5 rfl) ((pu_var 6 rfl)).rd)).rd)).ev (fun _ => rfl) (fun x50 => ((pu_var 3 rfl)).rd) fun x50 x52 => (bl_ga [.eq (ow ((Prod.fst s13) : (List Int))), .eq (.fz (enc (a1 : Int))), .eq (.fz (enc (a2 : Int))), .eq (.fz (enc (x12 : (Tp Int)))), .eq (.fz (enc ((Prod.fst x10) : (List (Tp Int))))), .eq (od (x52 : (Dc (Tp Int) Int))), .eq (.fz (enc (x19 : (Tp Int))))] (by kernel_rfl) (bl_end (rs_nx (.cons .rfl (.cons .rfl (.cons .rfl (.cons .fz (.cons .rfl (.cons .rfl (.cons .fz .nil))))))))))))))))) fun x11 s13 => (bl_retT ((pu_lc (vs := [3]) (ip_seq (xs := fun v => v) ((pu_var 4 rfl)).tkP) rfl rfl (fun x53 x54 => tg_n) (fun x53 x54 => (ts_ga [.eq (ow ((Prod.fst s13) : (List Int))), .eq (.fz (enc (a1 : Int))), .eq (.fz (enc (a2 : Int))), .eq (.fz (enc (x54 : (Tp Int)))), .eq (.fz (enc ((Prod.fst x10) : (List (Tp Int))))), .eq (od ((Prod.snd s13) : (Dc (Tp Int) Int))), .pl] (by kernel_rfl) ts_ok)) fun x53 x54 => (pu_ga [.eq (ow ((Prod.fst s13) : (List Int))), .eq (.fz (enc (a1 : Int))), .eq (.fz (enc (a2 : Int))), .eq (.fz (enc (x54 : (Tp Int)))), .eq (.fz (enc ((Prod.fst x10) : (List (Tp Int))))), .eq (od ((Prod.snd s13) : (Dc (Tp Int) Int))), .pl] (by kernel_rfl) ((pu2M op_dixT (ra_od 5 rfl) ((pu_var 3 rfl)).rd)).tkP))).ev fun x57 => (rf_eq rfl (.cons .rfl (.cons .aa (.cons .aa (.cons .aa (.cons .aa (.cons .aa (.cons .aa .nil))))))))))))))
end P
namespace P
open PySem PySem.Spec PyProof.Rows L2 Hb Nv
open Enc (enc)
def B__law_mixed_v2 : List Sl → Ot :=
    oSeq (oPar [2, 3] (rCons (s1 (gList) (sVar 1)) (rCons (sLst (lNil)) (rNil))))
    (oSeq (oWh (sTst (s2 (gEqE true) (sVar 2) (sLst (lNil)))) (oDrop (sApp (sVar 3) (sPop1 (sVar 2) (sCall F__law_pick [] (rIo 0 (rCons (sTk (s1 (gRd lenD) (sVar 2))) (rNil))))))) 1000)
    (oRet (sVar 3)))
def F__law_mixed_v2 : List Sl → FR := fnRun 2 4 [0] B__law_mixed_v2
def n__law_mixed_v2 (a0 : (List Int)) (a1 : (List Int)) : Option ((List Int) × (List Int)) :=
    (Option.bind (Option.bind (Option.bind (some a1) fun x1 => listL x1) fun x2 => Option.bind (Option.bind (some []) fun x3 => Option.bind (some ()) fun x4 => some (x3, x4)) fun x5 => some (x2, x5)) fun x6 => (Option.bind (whS 1000 ((a0, (Prod.fst x6), (Prod.fst (Prod.snd x6))) : ((List Int) × (List Int) × (List Int))) (fun s7 => (Option.bind (some (Prod.fst (Prod.snd s7))) fun x8 => some (true != List.isEmpty x8))) fun s7 => (Option.bind (Option.bind (Option.bind (Option.bind (Option.bind (Option.bind (some (Prod.fst (Prod.snd s7))) fun x9 => lenL x9) fun x10 => Option.bind (some ()) fun x11 => some (x10, x11)) fun x12 => Option.bind (n__law_pick ((Prod.fst s7) : (List Int)) ((Prod.fst x12) : Int)) fun x13 => some (x13, x12)) fun x14 => Option.bind (popL (Prod.fst (Prod.snd s7)) (Prod.fst (Prod.fst x14))) fun x15 => some (x15, x14)) fun x16 => Option.bind (apL (Prod.snd (Prod.snd s7)) (Prod.fst (Prod.fst x16))) fun x17 => some (x17, x16)) fun x18 => some (((Prod.snd (Prod.fst (Prod.snd (Prod.snd x18)))), (Prod.snd (Prod.fst (Prod.snd x18))), (Prod.fst x18)) : ((List Int) × (List Int) × (List Int))))) fun s7 => some ((Prod.snd (Prod.snd s7)), (Prod.fst s7))))
theorem V__law_mixed_v2 (a0 : (List Int)) (a1 : (List Int)) : Fun F__law_mixed_v2 (n__law_mixed_v2 a0 a1) [ow a0, .fz (enc a1)] (fun r : ((List Int) × (List Int)) => ow ((Prod.fst r) : (List Int))) fun r => [ow (Prod.snd r), .no] :=
  fun_of (ΓR := fun r => [.eq (ow ((Prod.snd r) : (List Int))), .aa, .aa, .aa]) (show Bl B__law_mixed_v2 _ _ _ from (bl_ga [.eq (ow (a0 : (List Int))), .eq (.fz (enc (a1 : (List Int)))), .eq .no, .eq .no] (by kernel_rfl) (bl_par (ag_cons ((pu1 Nv.op_list ((pu_var 1 rfl)).rd)).ev fun x2 => (ag_cons (pu_nil).ev fun x3 => ag_nil)) fun x6 => (bl_ga [.eq (ow (a0 : (List Int))), .eq (.fz (enc (a1 : (List Int)))), .eq (ow ((Prod.fst x6) : (List Int))), .eq (ow ((Prod.fst (Prod.snd x6)) : (List Int)))] (by kernel_rfl) (bl_wh (s0 := ((a0, (Prod.fst x6), (Prod.fst (Prod.snd x6))) : ((List Int) × (List Int) × (List Int)))) (ΓL := fun (s7 : ((List Int) × (List Int) × (List Int))) => [.eq (ow ((Prod.fst s7) : (List Int))), .eq (.fz (enc (a1 : (List Int)))), .eq (ow ((Prod.fst (Prod.snd s7)) : (List Int))), .eq (ow ((Prod.snd (Prod.snd s7)) : (List Int)))]) (.cons .rfl (.cons .rfl (.cons .rfl (.cons .rfl .nil)))) (fun s7 => (ts_tst (pu_eqE ((rd_own 2 rfl)).ra))) (fun s7 => (bl_last (bl_expr (ev_app (k := 3) (va := fun x16 => (Prod.fst (Prod.fst x16))) (xs := fun x16 => (Prod.snd (Prod.snd s7))) rfl rfl ((ev_pop1 (k := 2) (va := fun x14 => (Prod.fst (Prod.fst x14))) (xs := fun x14 => (Prod.fst (Prod.snd s7))) rfl rfl ((ev_callG (ag_io (k := 0) rfl rfl (ag_cons (((pu1A Nv.op_len ((rd_own 2 rfl)).ra)).tkP).ev fun x10 => ag_nil)) (fun x12 => V__law_pick ((Prod.fst s7) : (List Int)) ((Prod.fst x12) : Int)))).tk fun _ => rfl)).tk fun _ => rfl) fun x18 => (bl_ga [.eq (ow ((Prod.snd (Prod.fst (Prod.snd (Prod.snd x18)))) : (List Int))), .eq (.fz (enc (a1 : (List Int)))), .eq (ow ((Prod.snd (Prod.fst (Prod.snd x18))) : (List Int))), .eq (ow ((Prod.fst x18) : (List Int)))] (by kernel_rfl) (bl_end (rs_nx (.cons .rfl (.cons .rfl (.cons .rfl (.cons .rfl .nil)))))))))) fun s7 => (bl_retO (k := 3) rfl rfl (sat_ga [.eq (ow ((Prod.fst s7) : (List Int))), .eq (.fz (enc (a1 : (List Int)))), .eq (ow ((Prod.fst (Prod.snd s7)) : (List Int))), .eq .no] (by kernel_rfl) (rf_eq rfl (.cons .rfl (.cons .aa (.cons .aa (.cons .aa .nil))))))))))))
end P
namespace Hb
open PySem PySem.Spec PyProof.Rows L2
end Hb
namespace Hb
open PySem PySem.Spec PyProof.Rows L2
end Hb
namespace Hb
open PySem PySem.Spec PyProof.Rows L2
end Hb
namespace Hb
open PySem PySem.Spec PyProof.Rows L2
section
variable {K : PySem.W.Frag} {Fz H : Hp}
end
section
variable {K : PySem.W.Frag} {b : Bk} {Fz : Hp} {F : Nat → List Addr} {δ : List Sl} {σ : L2.St} {H : Hp}
end
end Hb
namespace Hb
open PySem PySem.Spec PyProof.Rows L2
/-- a method of a class of the module's, without defaults -/
structure MtD (P : Program) (w : World) (K : PySem.W.Frag) (mg : Str → Option Value) (base : Heap) (k : Nat) (cn m : Str) (n : Nat) (F : List Sl → FR) : Prop where
  ex : ∃ (f : Addr) (fd : FuncData) (ps : List Str), Meth K (He.ga K cn) m f ∧ FnG P w K mg base k f fd ps (spF K mg n F) ∧ Binds K fd ps []
  cls : Cls K (He.ga K cn)
/-- a class of the module's whose instances are made -/
structure MkD (P : Program) (w : World) (K : PySem.W.Frag) (mg : Str → Option Value) (base : Heap) (k : Nat) (cn : Str) (n : Nat) (F : List Sl → FR) : Prop where
  ex : ∃ (f : Addr) (fd : FuncData) (ps : List Str), mg cn = some (.ref (He.ga K cn)) ∧ Mk K (He.ga K cn) f ∧ FnG P w K mg base k f fd ps (spF K mg n F) ∧ Binds K fd ps []
end Hb
namespace Hb
open PySem PySem.Spec PyProof.Rows L2
end Hb
namespace Hb
open PySem PySem.Spec PyProof.Rows L2
/-- a property of a class of the module's -/
structure PrD (P : Program) (w : World) (K : PySem.W.Frag) (mg : Str → Option Value) (base : Heap) (k : Nat) (cn m : Str) (F : List Sl → FR) : Prop where
  ex : ∃ (p f : Addr) (fd : FuncData) (ps : List Str), PropOf K (He.ga K cn) m p f ∧ FnG P w K mg base k f fd ps (spF K mg 1 F) ∧ Binds K fd ps []
  cls : Cls K (He.ga K cn)
end Hb
namespace Hb
open PySem PySem.Spec PyProof.Rows L2
end Hb
namespace Hb
open PySem PySem.Spec PyProof.Rows L2
end Hb
namespace Hb
open PySem PySem.Spec PyProof.Rows L2
end Hb
namespace Hb
open PySem PySem.Spec PyProof.Rows L2
section
variable {X : Cx}
end
end Hb
namespace Hb
open PySem PySem.Spec PyProof.Rows L2
end Hb
namespace Hb
open PySem PySem.Spec PyProof.Rows L2
end Hb
namespace Hb
open PySem PySem.Spec PyProof.Rows L2
open Classical in
section
variable {K : PySem.W.Frag} {b : Bk} {Fz : Hp} {F : Nat → List Addr} {δ : List Sl} {σ : L2.St} {H : Hp} {pin : List Nat}
end
end Hb
namespace Hb
open PySem PySem.Spec PyProof.Rows L2
section
variable {K : PySem.W.Frag} {mg : Str → Option Value} {W : WX} {b : Bk} {Fz : Hp} {F : Nat → List Addr} {δ : List Sl} {σ : L2.St} {H : Hp} {pin : List Nat} {x y z j : Nat} {c : Str} {its : List (List (Str × Pa) × List PyData)} {a : Addr} {us : List V} {u : List Sl → Ot} {D : Ends}
end
end Hb
namespace Hb
open PySem PySem.Spec PyProof.Rows L2
section
variable {K : PySem.W.Frag} {mg : Str → Option Value} {W : WX} {b : Bk} {Fz : Hp} {D : Ends}
end
end Hb
namespace Hb
open PySem PySem.Spec PyProof.Rows L2
end Hb
namespace Hb
open PySem PySem.Spec PyProof.Rows L2
section
variable {K : PySem.W.Frag} {b : Bk} {Fz : Hp} {F : Nat → List Addr} {δ : List Sl} {σ : L2.St} {H : Hp} {pin : List Nat}
end
end Hb
namespace Hb
open PySem PySem.Spec PyProof.Rows L2
end Hb
namespace Hb
open PySem PySem.Spec PyProof.Rows L2
end Hb
namespace Hb
open PySem PySem.Spec PyProof.Rows L2
end Hb
namespace Hb
open PySem PySem.Spec PyProof.Rows L2
end Hb
namespace Nv
open PySem PySem.Spec PyProof.Rows L2 Hb
open Enc (enc)
end Nv
namespace Nv
open PySem Hb L2
open Enc (enc)
section
variable {α β γ κ ε ζ η ρ : Type} {Γ : Ga} {f fa fb fc : List Sl → Rs AV} {g : List Sl → Ot} {R : ζ → Ot → Prop}
end
end Nv
namespace Nv
open PySem Hb L2
open Enc (enc)
end Nv
namespace Nv
open PySem Hb L2
open Enc (enc)
/-- values that stand for instances: their class, their attributes -/
class ObE (α : Type) where
  cn : Str
  fs : α → List (Str × Pa)
def odP {κ α : Type} [Enc κ] [Enc α] (x : Dc κ α) : Pa := .od (x.l.map fun p => (enc p.1, enc p.2))
def fzP {α : Type} [Enc α] (x : α) : Pa := .fz (enc x)
section
variable {α β γ ε ζ η ρ : Type} [ObE α] [Enc β] {Γ : Ga} {f fo : List Sl → Rs AV} {g : List Sl → Ot} {gg : List Sl → Rs (List Ar)} {R : ζ → Ot → Prop}
end
end Nv
namespace Nv
open PySem Hb L2
open Enc (enc)
/-- the completions of known pairs on a line -/
structure Kn where
  line : List Int
  ranks : List Int
  above : List (List Int)
  ways : Dc (Tp Int) Int
instance : ObE Kn := ⟨"Known", fun x => [("known_line", fzP x.line), ("known_ranks", fzP x.ranks), ("known_above", fzP x.above), ("known_ways", odP x.ways)]⟩
end Nv
namespace Nv
open PySem Hb L2
open Enc (enc)
end Nv
namespace Nv
open PySem Hb L2
open Enc (enc)
end Nv
namespace Nv
open PySem Hb L2
open Enc (enc)
end Nv
namespace Nv
open PySem Hb L2
open Enc (enc)
/-- what an instance of Poll holds -/
structure Pl where
  count : Int
  votes : Dc (Tp Int) Int
  past : List (T3 Str (Tp Int) Int × Dc (Tp Int) Int)
  line : Option (List Int)
  row : Option (List Int)
  ring : Option (T3 Int Int Int × T3 Int Int Int)
  win : Option Int
instance : ObE Pl := ⟨"Poll", fun x => [("own_count", fzP x.count), ("own_votes", fzP x.votes), ("own_past", fzP x.past), ("own_line", fzP x.line), ("own_row", fzP x.row), ("own_ring", fzP x.ring), ("own_winner", fzP x.win)]⟩
end Nv
namespace Nv
open PySem Hb L2
open Enc (enc)
end Nv
namespace Nv
open PySem PySem.Spec PyProof.Rows L2 Hb
open Enc (enc)
end Nv
namespace Nv
open PySem PySem.Spec PyProof.Rows L2 Hb
open Enc (enc)
end Nv
namespace Hb
open PySem PySem.Spec PyProof.Rows L2
open PySem.W (AlikeAll)
theorem alikeAll_ints (ns : List Int) : AlikeAll (ns.map PyData.int) := ⟨fun x hx y hy => by
  obtain ⟨_, _, rfl⟩ := List.mem_map.mp hx
  obtain ⟨_, _, rfl⟩ := List.mem_map.mp hy
  simp [PySem.W.alike], fun x hx => by
  obtain ⟨_, _, rfl⟩ := List.mem_map.mp hx
  simp⟩
theorem noDics_intsT : ∀ ns : List Int, noDics (ns.map .int) = true
  | [] => by simp [noDics]
  | n :: r => by simp [noDics, noDic, noDics_intsT r]
def rMaxTp (K : PySem.W.Frag) : List V → Hp → VK → Prop := fun vs H Q => ∃ (a : Addr) (n : Int) (ns : List Int), vs = [V.ref a] ∧ SqT K H a ((n :: ns).map V.int) ∧ Q (.int (ns.foldl max n)) H
theorem cr_maxTp {X : Cx} (hc : X.calm = true) (hu : X.A.units + 64 < cLine) : CallR X (.builtin "max") (rMaxTp X.K) := by
  intro pins s σ H vs us Q I r h
  obtain ⟨a, n, ns, rfl, hX, q⟩ := h
  obtain ⟨its, rv, it, hz⟩ := I.tuple hX
  rw [Vals.ref1 r]
  obtain ⟨as, ra⟩ := readsAll_of I (RpL.ofInts (n :: ns)) rv (noDics_intsT _)
  have hD : PyData.depthAll ((n :: ns).map PyData.int) ≤ 60 := depthAll_le fun d hd => by
    obtain ⟨_, _, rfl⟩ := List.mem_map.mp hd
    simp [PyData.depth]
  refine PySem.W.max_tuple_data (I.ok.hd hc) it (x := .int n) (xs := ns.map .int) (by simpa using ra) (alikeAll_ints (n :: ns)) (by rw [List.map_cons] at hD; omega) fun i v h' tk bs _ rd kp => ?_
  rw [PySem.W.maxD_ints] at rd
  cases rd
  exact ⟨.int _, H, I.kept kp, ⟨_, rfl⟩, q⟩
def overT (k : List Int → Option PyData) : PyData → Option PyData
  | .tuple ds => (intsD ds).bind k
  | _ => none
theorem c1_maxT {K : PySem.W.Frag} {mg : Str → Option Value} {W : WX} {pin : List Nat} : C1 K mg W pin (rMaxTp K) (gRd (overT maxI)) := c1_rd fun v d e H Q rp ke f q => by
  cases rp with
  | tup h1 h2 =>
    rename_i ds
    simp only [overT] at ke
    cases q1 : intsD ds with
    | none => rw [q1] at ke; cases ke
    | some ns =>
      rw [q1] at ke
      have e1 := intsD_eq q1
      subst e1
      have e2 := h2.ints
      subst e2
      cases ns with
      | nil => cases ke
      | cons n ns =>
        cases ke
        exact ⟨_, n, ns, rfl, h1.sq, q⟩
  | _ => cases ke
end Hb
namespace Nv
open PySem Hb L2
open Enc (enc)
def maxTp (t : Tp Int) : Option Int := maxL t.l
theorem op_maxT : Op1A (gRd (overT maxI)) maxTp fun r => .val (enc r) := op_rd fun v r e => by
  refine ⟨?_, rfl⟩
  show (intsD (v.l.map .int)).bind _ = _
  rw [intsD_map]
  obtain ⟨l⟩ := v
  cases l with
  | nil => cases e
  | cons n ns => cases some_of e; rfl
end Nv
namespace Hb
open PySem PySem.Spec PyProof.Rows L2
section
variable {prog : Program} {w : World} {A : Around} {E : Value → Shared → Prop} {s : Shared} {a b : Addr}
end
end Hb
namespace Hb
open PySem PySem.Spec PyProof.Rows L2
end Hb
namespace Hb
open PySem PySem.Spec PyProof.Rows L2
end Hb
namespace Nv
open PySem Hb L2
open Enc (enc)
end Nv
namespace Nv
open PySem Hb L2
open Enc (enc)
end Nv
namespace Hb
open PySem PySem.Spec PyProof.Rows L2
def rMinTp (K : PySem.W.Frag) : List V → Hp → VK → Prop := fun vs H Q => ∃ (a : Addr) (n : Int) (ns : List Int), vs = [V.ref a] ∧ SqT K H a ((n :: ns).map V.int) ∧ Q (.int (ns.foldl min n)) H
theorem cr_minTp {X : Cx} (hc : X.calm = true) (hu : X.A.units + 64 < cLine) : CallR X (.builtin "min") (rMinTp X.K) := by
  intro pins s σ H vs us Q I r h
  obtain ⟨a, n, ns, rfl, hX, q⟩ := h
  obtain ⟨its, rv, it, hz⟩ := I.tuple hX
  rw [Vals.ref1 r]
  obtain ⟨as, ra⟩ := readsAll_of I (RpL.ofInts (n :: ns)) rv (noDics_intsT _)
  have hD : PyData.depthAll ((n :: ns).map PyData.int) ≤ 60 := depthAll_le fun d hd => by
    obtain ⟨_, _, rfl⟩ := List.mem_map.mp hd
    simp [PyData.depth]
  refine PySem.W.min_tuple_data (I.ok.hd hc) it (x := .int n) (xs := ns.map .int) (by simpa using ra) (alikeAll_ints (n :: ns)) (by rw [List.map_cons] at hD; omega) fun i v h' tk bs _ rd kp => ?_
  rw [PySem.W.minD_ints] at rd
  cases rd
  exact ⟨.int _, H, I.kept kp, ⟨_, rfl⟩, q⟩
theorem c1_minT {K : PySem.W.Frag} {mg : Str → Option Value} {W : WX} {pin : List Nat} : C1 K mg W pin (rMinTp K) (gRd (overT minI)) := c1_rd fun v d e H Q rp ke f q => by
  cases rp with
  | tup h1 h2 =>
    rename_i ds
    simp only [overT] at ke
    cases q1 : intsD ds with
    | none => rw [q1] at ke; cases ke
    | some ns =>
      rw [q1] at ke
      have e1 := intsD_eq q1
      subst e1
      have e2 := h2.ints
      subst e2
      cases ns with
      | nil => cases ke
      | cons n ns =>
        cases ke
        exact ⟨_, n, ns, rfl, h1.sq, q⟩
  | _ => cases ke
end Hb
namespace Nv
open PySem Hb L2
open Enc (enc)
def minTp (t : Tp Int) : Option Int := minL t.l
theorem op_minT : Op1A (gRd (overT minI)) minTp fun r => .val (enc r) := op_rd fun v r e => by
  refine ⟨?_, rfl⟩
  show (intsD (v.l.map .int)).bind _ = _
  rw [intsD_map]
  obtain ⟨l⟩ := v
  cases l with
  | nil => cases e
  | cons n ns => cases some_of e; rfl
end Nv
namespace P
open PySem PySem.Spec PyProof.Rows L2 Hb Nv
open Enc (enc)
def B__law_told_v10 : List Sl → Ot :=
    oSeq (oAsg (sTk (sCall F__law_tellings [] (rCons (sTk (sVar 0)) (rCons (sTk (sVar 1)) (rNil))))) (tgN 3))
    (oSeq (oAsg (sTk (sDz (sVar 3) (sVar 2))) (tgN 4))
    (oSeq (oAsg (sTk (s2 (gEqE false) (sLc false (wSeq (sVar 3)) [9] (tgN 9) (sNot (sTst (sCh gLe gLe (s1 (gRd (overT minI)) (sVar 9)) (s2 gDixT (sVar 4) (sVar 9)) (s1 (gRd (overT maxI)) (sVar 9))))) (sTk (sVar 9))) (sLst (lNil)))) (tgN 5))
    (oSeq (oAsg (sTk (s2 (gEqE false) (sLc false (wSeq (sVar 3)) [9] (tgN 9) (sTst (s2 gNe (s2 gDixT (sVar 4) (sCall F__law_mirrored_v2 [] (rCons (sTk (sVar 0)) (rCons (sTk (sVar 9)) (rNil))))) (s2 gSub (s2 gSub (sVar 0) (sC (.int 1))) (s2 gDixT (sVar 4) (sVar 9))))) (sTk (sVar 9))) (sLst (lNil)))) (tgN 6))
    (oSeq (oAsg (sTk (s1 (gList) (sVar 2))) (tgN 7))
    (oSeq (oAsg (sTk (sLst (lCons (sCall F_stays_between [] (rCons (sTk (sVar 0)) (rCons (sTk (sVar 1)) (rCons (sTk (sVar 7)) (rNil))))) (lCons (sCall F_is_even [] (rCons (sTk (sVar 0)) (rCons (sTk (sVar 1)) (rCons (sTk (sVar 7)) (rNil))))) (lNil))))) (tgN 8))
    (oRet (sAndV (s2 (gEqS false) (s1 (gRd reprD) (sVar 8)) (s1 (gRd reprD) (sLst (lCons (sVar 5) (lCons (sVar 6) (lNil)))))) (s2 gEq (sVar 7) (sVar 2)))))))))
def F__law_told_v10 : List Sl → FR := fnRun 3 10 [] B__law_told_v10
def n__law_told_v10 (a0 : Int) (a1 : Int) (a2 : (List Int)) : Option (Bool) :=
    (Option.bind (Option.bind (Option.bind (some a0) fun x1 => Option.bind (Option.bind (some a1) fun x2 => Option.bind (some ()) fun x3 => some (x2, x3)) fun x4 => some (x1, x4)) fun x5 => n__law_tellings ((Prod.fst x5) : Int) ((Prod.fst (Prod.snd x5)) : Int)) fun x6 => (Option.bind (Option.bind (some x6) fun x7 => Option.bind (some a2) fun x8 => some (dtOf (List.zip x7 x8))) fun x9 => (Option.bind (Option.bind (Option.bind (some x6) fun x10 => if List.length (x10) ≤ cap then mapF x10 (fun x11 => (Option.bind (Option.bind (Option.bind (some x11) fun x12 => minTp x12) fun x16 => Option.bind (Option.bind (some x9) fun x13 => Option.bind (some x11) fun x14 => lookDt x13 x14) fun x17 => Option.bind (leI x16 x17) fun x19 => if x19 = true then Option.bind (Option.bind (some x11) fun x15 => maxTp x15) fun x18 => leI x17 x18 else some false) fun x20 => some !x20)) (fun x11 => (some x11)) else none) fun x21 => some (false != List.isEmpty x21)) fun x22 => (Option.bind (Option.bind (Option.bind (some x6) fun x23 => if List.length (x23) ≤ cap then mapF x23 (fun x24 => (Option.bind (Option.bind (some x9) fun x30 => Option.bind (Option.bind (Option.bind (some a0) fun x25 => Option.bind (Option.bind (some x24) fun x26 => Option.bind (some ()) fun x27 => some (x26, x27)) fun x28 => some (x25, x28)) fun x29 => n__law_mirrored_v2 ((Prod.fst x29) : Int) ((Prod.fst (Prod.snd x29)) : (Tp Int))) fun x31 => lookDt x30 x31) fun x38 => Option.bind (Option.bind (Option.bind (some a0) fun x32 => Option.bind (some (1 : Int)) fun x33 => subI x32 x33) fun x36 => Option.bind (Option.bind (some x9) fun x34 => Option.bind (some x24) fun x35 => lookDt x34 x35) fun x37 => subI x36 x37) fun x39 => neN x38 x39)) (fun x24 => (some x24)) else none) fun x40 => some (false != List.isEmpty x40)) fun x41 => (Option.bind (Option.bind (some a2) fun x42 => listL x42) fun x43 => (Option.bind (Option.bind (Option.bind (Option.bind (Option.bind (some a0) fun x44 => Option.bind (Option.bind (some a1) fun x45 => Option.bind (Option.bind (some x43) fun x46 => Option.bind (some ()) fun x47 => some (x46, x47)) fun x48 => some (x45, x48)) fun x49 => some (x44, x49)) fun x50 => n_stays_between ((Prod.fst x50) : Int) ((Prod.fst (Prod.snd x50)) : Int) ((Prod.fst (Prod.snd (Prod.snd x50))) : (List Int))) fun x51 => Option.bind (Option.bind (Option.bind (Option.bind (some a0) fun x52 => Option.bind (Option.bind (some a1) fun x53 => Option.bind (Option.bind (some x43) fun x54 => Option.bind (some ()) fun x55 => some (x54, x55)) fun x56 => some (x53, x56)) fun x57 => some (x52, x57)) fun x58 => n_is_even ((Prod.fst x58) : Int) ((Prod.fst (Prod.snd x58)) : Int) ((Prod.fst (Prod.snd (Prod.snd x58))) : (List Int))) fun x59 => Option.bind (some ()) fun x61 => some (x59, x61)) fun x62 => some (x51, x62)) fun x60 => some ([(Prod.fst x60), (Prod.fst (Prod.snd x60))] : (List Bool))) fun x63 => (Option.bind (Option.bind (Option.bind (Option.bind (Option.bind (some x63) fun x64 => some (enc (x64 : (List Bool)))) fun x65 => reprN x65) fun x73 => Option.bind (Option.bind (Option.bind (Option.bind (Option.bind (some x22) fun x66 => Option.bind (Option.bind (some x41) fun x67 => Option.bind (some ()) fun x69 => some (x67, x69)) fun x70 => some (x66, x70)) fun x68 => some ([(Prod.fst x68), (Prod.fst (Prod.snd x68))] : (List Bool))) fun x71 => some (enc (x71 : (List Bool)))) fun x72 => reprN x72) fun x74 => eqS x73 x74) fun x77 => if x77 = true then (Option.bind (some x43) fun x75 => Option.bind (some a2) fun x76 => eqN x75 x76) else some false) fun x78 => some x78)))))))
theorem V__law_told_v10 (a0 : Int) (a1 : Int) (a2 : (List Int)) : Fun F__law_told_v10 (n__law_told_v10 a0 a1 a2) [.fz (enc a0), .fz (enc a1), .fz (enc a2)] (fun r : (Bool) => .fz (enc (r : Bool))) fun r => [.no, .no, .no] :=
  fun_of (ΓR := fun r => [.aa, .aa, .aa, .aa, .aa, .aa, .aa, .aa, .aa, .aa]) (show Bl B__law_told_v10 _ _ _ from (bl_ga [.eq (.fz (enc (a0 : Int))), .eq (.fz (enc (a1 : Int))), .eq (.fz (enc (a2 : (List Int)))), .eq .no, .eq .no, .eq .no, .eq .no, .eq .no, .eq .no, .eq .no] (by kernel_rfl) (bl_asgV ((tk_callM (ap_cons ((pu_var 0 rfl)).tkP (ap_cons ((pu_var 1 rfl)).tkP ap_nil)) (fun x5 => V__law_tellings ((Prod.fst x5) : Int) ((Prod.fst (Prod.snd x5)) : Int)))).ev fun x6 => (bl_ga [.eq (.fz (enc (a0 : Int))), .eq (.fz (enc (a1 : Int))), .eq (.fz (enc (a2 : (List Int)))), .eq (.fz (enc (x6 : (List (Tp Int))))), .eq .no, .eq .no, .eq .no, .eq .no, .eq .no, .eq .no] (by kernel_rfl) (bl_asgV ((((pu_dz ((pu_var 3 rfl)).tkP ((pu_var 2 rfl)).tkP)).tkTP fun _ => rfl)).ev fun x9 => (bl_ga [.eq (.fz (enc (a0 : Int))), .eq (.fz (enc (a1 : Int))), .eq (.fz (enc (a2 : (List Int)))), .eq (.fz (enc (x6 : (List (Tp Int))))), .eq (.fz (enc (x9 : (Dc (Tp Int) Int)))), .eq .no, .eq .no, .eq .no, .eq .no, .eq .no] (by kernel_rfl) (bl_asgV (((pu_eqE ((((pu_lc (vs := [9]) (ip_seq (xs := fun v => v) ((pu_var 3 rfl)).tkP) rfl rfl (fun x10 x11 => tg_n) (fun x10 x11 => (ts_ga [.eq (.fz (enc (a0 : Int))), .eq (.fz (enc (a1 : Int))), .eq (.fz (enc (a2 : (List Int)))), .eq (.fz (enc (x6 : (List (Tp Int))))), .eq (.fz (enc (x9 : (Dc (Tp Int) Int)))), .eq .no, .eq .no, .eq .no, .eq .no, .eq (.fz (enc (x11 : (Tp Int))))] (by kernel_rfl) (ts_not (ts_tst (pu_ch Nv.op_le Nv.op_le ((pu1A Nv.op_minT (((pu_var 9 rfl)).rd).ra)).rd ((pu2M op_dixT (((pu_var 4 rfl)).rd).ra ((pu_var 9 rfl)).rd)).rd ((pu1A Nv.op_maxT (((pu_var 9 rfl)).rd).ra)).rd))))) fun x10 x11 => (pu_ga [.eq (.fz (enc (a0 : Int))), .eq (.fz (enc (a1 : Int))), .eq (.fz (enc (a2 : (List Int)))), .eq (.fz (enc (x6 : (List (Tp Int))))), .eq (.fz (enc (x9 : (Dc (Tp Int) Int)))), .eq .no, .eq .no, .eq .no, .eq .no, .eq (.fz (enc (x11 : (Tp Int))))] (by kernel_rfl) ((pu_var 9 rfl)).tkP))).rdT ow_tree)).ra)).tkP).ev fun x22 => (bl_ga [.eq (.fz (enc (a0 : Int))), .eq (.fz (enc (a1 : Int))), .eq (.fz (enc (a2 : (List Int)))), .eq (.fz (enc (x6 : (List (Tp Int))))), .eq (.fz (enc (x9 : (Dc (Tp Int) Int)))), .eq (.fz (enc (x22 : Bool))), .eq .no, .eq .no, .eq .no, .eq .no] (by kernel_rfl) (bl_asgV (((pu_eqE ((((pu_lc (vs := [9]) (ip_seq (xs := fun v => v) ((pu_var 3 rfl)).tkP) rfl rfl (fun x23 x24 => tg_n) (fun x23 x24 => (ts_ga [.eq (.fz (enc (a0 : Int))), .eq (.fz (enc (a1 : Int))), .eq (.fz (enc (a2 : (List Int)))), .eq (.fz (enc (x6 : (List (Tp Int))))), .eq (.fz (enc (x9 : (Dc (Tp Int) Int)))), .eq (.fz (enc (x22 : Bool))), .eq .no, .eq .no, .eq .no, .eq (.fz (enc (x24 : (Tp Int))))] (by kernel_rfl) (ts_tst (pu2A Nv.op_ne (((pu2M op_dixT (((pu_var 4 rfl)).rd).ra ((pu_call (ap_cons ((pu_var 0 rfl)).tkP (ap_cons ((pu_var 9 rfl)).tkP ap_nil)) (fun x29 => V__law_mirrored_v2 ((Prod.fst x29) : Int) ((Prod.fst (Prod.snd x29)) : (Tp Int))))).rd)).rd).ra (((pu2 Nv.op_sub ((pu2 Nv.op_sub ((pu_var 0 rfl)).rd (pu_c).rd)).rd ((pu2M op_dixT (((pu_var 4 rfl)).rd).ra ((pu_var 9 rfl)).rd)).rd)).rd).ra)))) fun x23 x24 => (pu_ga [.eq (.fz (enc (a0 : Int))), .eq (.fz (enc (a1 : Int))), .eq (.fz (enc (a2 : (List Int)))), .eq (.fz (enc (x6 : (List (Tp Int))))), .eq (.fz (enc (x9 : (Dc (Tp Int) Int)))), .eq (.fz (enc (x22 : Bool))), .eq .no, .eq .no, .eq .no, .eq (.fz (enc (x24 : (Tp Int))))] (by kernel_rfl) ((pu_var 9 rfl)).tkP))).rdT ow_tree)).ra)).tkP).ev fun x41 => (bl_ga [.eq (.fz (enc (a0 : Int))), .eq (.fz (enc (a1 : Int))), .eq (.fz (enc (a2 : (List Int)))), .eq (.fz (enc (x6 : (List (Tp Int))))), .eq (.fz (enc (x9 : (Dc (Tp Int) Int)))), .eq (.fz (enc (x22 : Bool))), .eq (.fz (enc (x41 : Bool))), .eq .no, .eq .no, .eq .no] (by kernel_rfl) (bl_asgV ((((pu1 Nv.op_list ((pu_var 2 rfl)).rd)).tkTP ow_tree)).ev fun x43 => (bl_ga [.eq (.fz (enc (a0 : Int))), .eq (.fz (enc (a1 : Int))), .eq (.fz (enc (a2 : (List Int)))), .eq (.fz (enc (x6 : (List (Tp Int))))), .eq (.fz (enc (x9 : (Dc (Tp Int) Int)))), .eq (.fz (enc (x22 : Bool))), .eq (.fz (enc (x41 : Bool))), .eq (.fz (enc (x43 : (List Int)))), .eq .no, .eq .no] (by kernel_rfl) (bl_asgV ((((pu_lst (dp_cons ((pu_call (ap_cons ((pu_var 0 rfl)).tkP (ap_cons ((pu_var 1 rfl)).tkP (ap_cons ((pu_var 7 rfl)).tkP ap_nil))) (fun x50 => V_stays_between ((Prod.fst x50) : Int) ((Prod.fst (Prod.snd x50)) : Int) ((Prod.fst (Prod.snd (Prod.snd x50))) : (List Int))))).tkP (dp_cons ((pu_call (ap_cons ((pu_var 0 rfl)).tkP (ap_cons ((pu_var 1 rfl)).tkP (ap_cons ((pu_var 7 rfl)).tkP ap_nil))) (fun x58 => V_is_even ((Prod.fst x58) : Int) ((Prod.fst (Prod.snd x58)) : Int) ((Prod.fst (Prod.snd (Prod.snd x58))) : (List Int))))).tkP dp_nil)) (fun x60 => ([(Prod.fst x60), (Prod.fst (Prod.snd x60))] : (List Bool))))).tkTP ow_tree)).ev fun x63 => (bl_ga [.eq (.fz (enc (a0 : Int))), .eq (.fz (enc (a1 : Int))), .eq (.fz (enc (a2 : (List Int)))), .eq (.fz (enc (x6 : (List (Tp Int))))), .eq (.fz (enc (x9 : (Dc (Tp Int) Int)))), .eq (.fz (enc (x22 : Bool))), .eq (.fz (enc (x41 : Bool))), .eq (.fz (enc (x43 : (List Int)))), .eq (.fz (enc (x63 : (List Bool)))), .eq .no] (by kernel_rfl) (bl_retV ((pu_andV (pu2 Nv.op_eqS ((pu1A Nv.op_repr (((Pu.any (pu_var 8 rfl))).rd).ra)).rd ((pu1A Nv.op_repr ((Rd.any (((pu_lst (dp_cons ((pu_var 5 rfl)).tkP (dp_cons ((pu_var 6 rfl)).tkP dp_nil)) (fun x68 => ([(Prod.fst x68), (Prod.fst (Prod.snd x68))] : (List Bool))))).rdT ow_tree))).ra)).rd) (pu2A Nv.op_eq (((pu_var 7 rfl)).rd).ra (((pu_var 2 rfl)).rd).ra))).ev fun x78 => (rf_eq rfl (.cons .aa (.cons .aa (.cons .aa (.cons .aa (.cons .aa (.cons .aa (.cons .aa (.cons .aa (.cons .aa (.cons .aa .nil))))))))))))))))))))))))))
end P
namespace P
open PySem PySem.Spec PyProof.Rows L2 Hb Nv
open Enc (enc)
def B__law_right_v34 : List Sl → Ot :=
    oSeq (oAsg (sTk (sCall F__law_tellings [] (rCons (sTk (sVar 1)) (rCons (sTk (sVar 2)) (rNil))))) (tgN 3))
    (oSeq (oAsg (sTk (sCall F__law_some_fixed [] (rIo 0 (rCons (sTk (sVar 1)) (rCons (sTk (sVar 2)) (rNil)))))) (tgN 4))
    (oSeq (oAsg (sTk (s2 gAdd (s2 gMulX (sLst (lCons (sC (.int 0)) (lNil))) (s2 gAdd (s2 gFdivW (sVar 2) (sC (.int 2))) (sC (.int 1)))) (s2 gMulX (sLst (lCons (s2 gSub (sVar 1) (sC (.int 1))) (lNil))) (s2 gFdivW (s2 gAdd (sVar 2) (sC (.int 1))) (sC (.int 2)))))) (tgN 5))
    (oSeq (oAsg (sTk (sLst (lCons (sCall F__law_table [] (rCons (sTk (sVar 1)) (rCons (sTk (sVar 2)) (rCons (sTk (sVar 4)) (rNil))))) (lCons (sCall F__law_table [] (rCons (sTk (sVar 1)) (rCons (sTk (sVar 2)) (rCons (sTk (sVar 5)) (rNil))))) (lNil))))) (tgN 6))
    (oSeq (oAsg (sTk (s2 gAdd (sVar 6) (sLst (lCons (sLc false (wSeq (sVar 3)) [8] (tgN 8) (tOk) (sTk (s2 gIx2 (sVar 8) (sCall F__law_pick [] (rIo 0 (rCons (sTk (sVar 2)) (rNil))))))) (lCons (sCall F__law_even_table [] (rIo 0 (rCons (sTk (sVar 1)) (rCons (sTk (sVar 2)) (rNil))))) (lNil)))))) (tgN 6))
    (oSeq (oFor (wSeq (sVar 6)) (tgN 7) (oSeq (oPar [10, 11] (rCons (sTk (sCall F__law_pick [] (rIo 0 (rCons (sTk (s1 (gRd lenD) (sVar 7))) (rNil))))) (rCons (s1 (gList) (sVar 7)) (rNil))))
    (oSeq (oAsg (sTk (sCall F__law_pick [] (rIo 0 (rCons (sTk (sVar 1)) (rNil))))) (tgS (sVar 11) (sVar 10)))
    (oSeq (oFor (wSeq (sLst (lCons (sVar 7) (lCons (sVar 11) (lNil))))) (tgN 8) (oIf (sNot (sTru (sCall F__law_told_v10 [] (rCons (sTk (sVar 1)) (rCons (sTk (sVar 2)) (rCons (sTk (sVar 8)) (rNil))))))) (oRet (sC (.bool false))) (oNext)))
    (oFor (wRng1 (sC (.int 5))) (tgN 9) (oSeq (oAsg (sTk (sCall F__law_pick [] (rIo 0 (rCons (sTk (s1 (gRd lenD) (sVar 3))) (rNil))))) (tgN 12))
    (oSeq (oAsg (sTk (sCall F__law_mixed_v2 [] (rIo 0 (rCons (sTk (s1 (gList) (s2 gIx2 (sVar 3) (sVar 12)))) (rNil))))) (tgN 13))
    (oSeq (oAsg (sTk (s1 (gList) (sVar 13))) (tgN 14))
    (oIf (sOr (sTst (s2 (gEqS true) (s1 (gRd reprD) (sCall F_made_of [] (rCons (sTk (sVar 1)) (rCons (sTk (sVar 2)) (rCons (sTk (sVar 11)) (rCons (sTk (sVar 13)) (rNil))))))) (s1 (gRd reprD) (s2 gIx2 (sVar 11) (sVar 12))))) (sTst (s2 gNe (sVar 13) (sVar 14)))) (oRet (sC (.bool false))) (oNext))))))))))
    (oRet (sC (.bool true))))))))
def F__law_right_v34 : List Sl → FR := fnRun 3 15 [0] B__law_right_v34
def n__law_right_v34 (a0 : (List Int)) (a1 : Int) (a2 : Int) : Option (Bool × (List Int)) :=
    (Option.bind (Option.bind (Option.bind (some a1) fun x1 => Option.bind (Option.bind (some a2) fun x2 => Option.bind (some ()) fun x3 => some (x2, x3)) fun x4 => some (x1, x4)) fun x5 => n__law_tellings ((Prod.fst x5) : Int) ((Prod.fst (Prod.snd x5)) : Int)) fun x6 => (Option.bind (Option.bind (Option.bind (some a1) fun x7 => Option.bind (Option.bind (some a2) fun x8 => Option.bind (some ()) fun x9 => some (x8, x9)) fun x10 => some (x7, x10)) fun x11 => Option.bind (n__law_some_fixed (a0 : (List Int)) ((Prod.fst x11) : Int) ((Prod.fst (Prod.snd x11)) : Int)) fun x12 => some (x12, x11)) fun x13 => (Option.bind (Option.bind (Option.bind (Option.bind (Option.bind (some (0 : Int)) fun x14 => Option.bind (some ()) fun x16 => some (x14, x16)) fun x15 => some ([(Prod.fst x15)] : (List Int))) fun x21 => Option.bind (Option.bind (Option.bind (some a2) fun x17 => Option.bind (some (2 : Int)) fun x18 => fdivW x17 x18) fun x19 => Option.bind (some (1 : Int)) fun x20 => addI x19 x20) fun x22 => repL x21 x22) fun x34 => Option.bind (Option.bind (Option.bind (Option.bind (Option.bind (some a1) fun x23 => Option.bind (some (1 : Int)) fun x24 => subI x23 x24) fun x25 => Option.bind (some ()) fun x27 => some (x25, x27)) fun x26 => some ([(Prod.fst x26)] : (List Int))) fun x32 => Option.bind (Option.bind (Option.bind (some a2) fun x28 => Option.bind (some (1 : Int)) fun x29 => addI x28 x29) fun x30 => Option.bind (some (2 : Int)) fun x31 => fdivW x30 x31) fun x33 => repL x32 x33) fun x35 => catL x34 x35) fun x36 => (Option.bind (Option.bind (Option.bind (Option.bind (Option.bind (some a1) fun x37 => Option.bind (Option.bind (some a2) fun x38 => Option.bind (Option.bind (some (Prod.fst (Prod.fst x13))) fun x39 => Option.bind (some ()) fun x40 => some (x39, x40)) fun x41 => some (x38, x41)) fun x42 => some (x37, x42)) fun x43 => n__law_table ((Prod.fst x43) : Int) ((Prod.fst (Prod.snd x43)) : Int) ((Prod.fst (Prod.snd (Prod.snd x43))) : (List Int))) fun x44 => Option.bind (Option.bind (Option.bind (Option.bind (some a1) fun x45 => Option.bind (Option.bind (some a2) fun x46 => Option.bind (Option.bind (some x36) fun x47 => Option.bind (some ()) fun x48 => some (x47, x48)) fun x49 => some (x46, x49)) fun x50 => some (x45, x50)) fun x51 => n__law_table ((Prod.fst x51) : Int) ((Prod.fst (Prod.snd x51)) : Int) ((Prod.fst (Prod.snd (Prod.snd x51))) : (List Int))) fun x52 => Option.bind (some ()) fun x54 => some (x52, x54)) fun x55 => some (x44, x55)) fun x53 => some ([(Prod.fst x53), (Prod.fst (Prod.snd x53))] : (List (List Int)))) fun x56 => (Option.bind (Option.bind (some x56) fun x89 => Option.bind (Option.bind (Option.bind (Option.bind (some x6) fun x57 => if List.length (x57) ≤ cap then Option.bind (mapE x57 ((Prod.snd (Prod.fst x13)) : (List Int)) (fun s66 x58 => (Option.bind (Option.bind (some x58) fun x73 => Option.bind (Option.bind (Option.bind (some a2) fun x67 => Option.bind (some ()) fun x68 => some (x67, x68)) fun x69 => Option.bind (n__law_pick (s66 : (List Int)) ((Prod.fst x69) : Int)) fun x70 => some (x70, x69)) fun x71 => Option.bind (atT x73 (Prod.fst (Prod.fst x71))) fun x72 => some (x72, x73, x71)) fun x74 => some ((Prod.fst x74), (Prod.snd (Prod.fst (Prod.snd (Prod.snd x74)))))))) fun r => some (r, x57) else none) fun x76 => Option.bind (Option.bind (Option.bind (Option.bind (some a1) fun x77 => Option.bind (Option.bind (some a2) fun x78 => Option.bind (some ()) fun x79 => some (x78, x79)) fun x80 => some (x77, x80)) fun x81 => Option.bind (n__law_even_table ((Prod.snd (Prod.fst x76)) : (List Int)) ((Prod.fst x81) : Int) ((Prod.fst (Prod.snd x81)) : Int)) fun x82 => some (x82, x81)) fun x83 => Option.bind (some ()) fun x85 => some (x83, x85)) fun x86 => some (x76, x86)) fun x84 => some (([(Prod.fst (Prod.fst (Prod.fst x84))), (Prod.fst (Prod.fst (Prod.fst (Prod.snd x84))))] : (List (List Int))), x84)) fun x87 => Option.bind (catL x89 (Prod.fst x87)) fun x88 => some (x88, x89, x87)) fun x90 => (Option.bind (some (Prod.fst x90)) fun x91 => Option.bind (forF (ρ := (Bool × (List Int))) x91 ((Prod.snd (Prod.fst (Prod.fst (Prod.snd (Prod.snd (Prod.snd (Prod.snd x90))))))) : (List Int)) fun s93 x92 => (Option.bind (Option.bind (Option.bind (Option.bind (Option.bind (some x92) fun x94 => lenL x94) fun x95 => Option.bind (some ()) fun x96 => some (x95, x96)) fun x97 => Option.bind (n__law_pick (s93 : (List Int)) ((Prod.fst x97) : Int)) fun x98 => some (x98, x97)) fun x99 => Option.bind (Option.bind (Option.bind (some x92) fun x100 => listL x100) fun x101 => Option.bind (some ()) fun x102 => some (x101, x102)) fun x103 => some (x99, x103)) fun x104 => (Option.bind (Option.bind (Option.bind (some a1) fun x105 => Option.bind (some ()) fun x106 => some (x105, x106)) fun x107 => Option.bind (n__law_pick ((Prod.snd (Prod.fst (Prod.fst x104))) : (List Int)) ((Prod.fst x107) : Int)) fun x108 => some (x108, x107)) fun x109 => Option.bind (some (Prod.fst (Prod.fst (Prod.fst x104)))) fun x110 => Option.bind (stI (Prod.fst (Prod.snd x104)) x110 (Prod.fst (Prod.fst x109))) fun x111 => (Option.bind (Option.bind (Option.bind (some x92) fun x112 => Option.bind (Option.bind (some x111) fun x113 => Option.bind (some ()) fun x115 => some (x113, x115)) fun x116 => some (x112, x116)) fun x114 => some (([(Prod.fst x114), (Prod.fst (Prod.snd x114))] : (List (List Int))), x114)) fun x118 => Option.bind (forF (ρ := (Bool × (List Int))) (Prod.fst x118) (() : Unit) fun s120 x119 => (Option.bind (Option.bind (Option.bind (Option.bind (some a1) fun x121 => Option.bind (Option.bind (some a2) fun x122 => Option.bind (Option.bind (some x119) fun x123 => Option.bind (some ()) fun x124 => some (x123, x124)) fun x125 => some (x122, x125)) fun x126 => some (x121, x126)) fun x127 => n__law_told_v10 ((Prod.fst x127) : Int) ((Prod.fst (Prod.snd x127)) : Int) ((Prod.fst (Prod.snd (Prod.snd x127))) : (List Int))) fun x129 => some !x129) fun x130 => if x130 = true then (Option.bind (some false) fun x131 => some (.rt (x131, (Prod.snd (Prod.fst x109))))) else some (.nx (() : Unit)))) fun o177 => Fl.el o177 (fun s120 => (Option.bind (Option.bind (some (5 : Int)) fun x132 => ri1 x132) fun x133 => Option.bind (forF (ρ := (Bool × (List Int))) x133 ((Prod.snd (Prod.fst x109)) : (List Int)) fun s135 x134 => (Option.bind (Option.bind (Option.bind (Option.bind (some x6) fun x136 => lenL x136) fun x137 => Option.bind (some ()) fun x138 => some (x137, x138)) fun x139 => Option.bind (n__law_pick (s135 : (List Int)) ((Prod.fst x139) : Int)) fun x140 => some (x140, x139)) fun x141 => (Option.bind (Option.bind (Option.bind (Option.bind (Option.bind (some x6) fun x142 => Option.bind (some (Prod.fst (Prod.fst x141))) fun x143 => atL x142 x143) fun x144 => listT x144) fun x145 => Option.bind (some ()) fun x146 => some (x145, x146)) fun x147 => Option.bind (n__law_mixed_v2 ((Prod.snd (Prod.fst x141)) : (List Int)) ((Prod.fst x147) : (List Int))) fun x148 => some (x148, x147)) fun x149 => (Option.bind (Option.bind (some (Prod.fst (Prod.fst x149))) fun x150 => listL x150) fun x151 => (Option.bind (Option.bind (Option.bind (Option.bind (Option.bind (Option.bind (Option.bind (some a1) fun x152 => Option.bind (Option.bind (some a2) fun x153 => Option.bind (Option.bind (some (Prod.fst (Prod.snd (Prod.snd x118)))) fun x154 => Option.bind (Option.bind (some (Prod.fst (Prod.fst x149))) fun x155 => Option.bind (some ()) fun x156 => some (x155, x156)) fun x157 => some (x154, x157)) fun x158 => some (x153, x158)) fun x159 => some (x152, x159)) fun x160 => n_made_of ((Prod.fst x160) : Int) ((Prod.fst (Prod.snd x160)) : Int) ((Prod.fst (Prod.snd (Prod.snd x160))) : (List Int)) ((Prod.fst (Prod.snd (Prod.snd (Prod.snd x160)))) : (List Int))) fun x161 => some (enc (x161 : Int))) fun x162 => reprN x162) fun x167 => Option.bind (Option.bind (Option.bind (Option.bind (some (Prod.fst (Prod.snd (Prod.snd x118)))) fun x163 => Option.bind (some (Prod.fst (Prod.fst x141))) fun x164 => atL x163 x164) fun x165 => some (enc (x165 : Int))) fun x166 => reprN x166) fun x168 => neS x167 x168) fun x171 => if x171 = true then some true else (Option.bind (some (Prod.fst (Prod.fst x149))) fun x169 => Option.bind (some x151) fun x170 => neN x169 x170)) fun x172 => if x172 = true then (Option.bind (some false) fun x173 => some (.rt (x173, (Prod.snd (Prod.fst x149))))) else some (.nx ((Prod.snd (Prod.fst x149)) : (List Int)))))))) fun o175 => Fl.el o175 (fun s135 => some (.nx (s135 : (List Int)))) fun r174 => some (Fl.rt r174))) fun r176 => some (Fl.rt r176))))) fun o180 => Fl.el o180 (fun s93 => (Option.bind (some true) fun x178 => some (x178, s93))) fun r179 => some r179))))))
theorem V__law_right_v34 (a0 : (List Int)) (a1 : Int) (a2 : Int) : Fun F__law_right_v34 (n__law_right_v34 a0 a1 a2) [ow a0, .fz (enc a1), .fz (enc a2)] (fun r : (Bool × (List Int)) => .fz (enc ((Prod.fst r) : Bool))) fun r => [ow (Prod.snd r), .no, .no] :=
  fun_of (ΓR := fun r => [.eq (ow ((Prod.snd r) : (List Int))), .aa, .aa, .aa, .aa, .aa, .aa, .aa, .aa, .aa, .aa, .aa, .aa, .aa, .aa]) (show Bl B__law_right_v34 _ _ _ from (bl_ga [.eq (ow (a0 : (List Int))), .eq (.fz (enc (a1 : Int))), .eq (.fz (enc (a2 : Int))), .eq .no, .eq .no, .eq .no, .eq .no, .eq .no, .eq .no, .eq .no, .eq .no, .eq .no, .eq .no, .eq .no, .eq .no] (by kernel_rfl) (bl_asgV ((tk_callM (ap_cons ((pu_var 1 rfl)).tkP (ap_cons ((pu_var 2 rfl)).tkP ap_nil)) (fun x5 => V__law_tellings ((Prod.fst x5) : Int) ((Prod.fst (Prod.snd x5)) : Int)))).ev fun x6 => (bl_ga [.eq (ow (a0 : (List Int))), .eq (.fz (enc (a1 : Int))), .eq (.fz (enc (a2 : Int))), .eq (.fz (enc (x6 : (List (Tp Int))))), .eq .no, .eq .no, .eq .no, .eq .no, .eq .no, .eq .no, .eq .no, .eq .no, .eq .no, .eq .no, .eq .no] (by kernel_rfl) (bl_asgV (((ev_callG (ag_io (k := 0) rfl rfl (ag_cons (((pu_var 1 rfl)).tkP).ev fun x7 => (ag_cons (((pu_var 2 rfl)).tkP).ev fun x8 => ag_nil))) (fun x11 => V__law_some_fixed (a0 : (List Int)) ((Prod.fst x11) : Int) ((Prod.fst (Prod.snd x11)) : Int)))).tkT fun _ => ow_tree _) fun x13 => (bl_ga [.eq (ow ((Prod.snd (Prod.fst x13)) : (List Int))), .eq (.fz (enc (a1 : Int))), .eq (.fz (enc (a2 : Int))), .eq (.fz (enc (x6 : (List (Tp Int))))), .eq (.fz (enc ((Prod.fst (Prod.fst x13)) : (List Int)))), .eq .no, .eq .no, .eq .no, .eq .no, .eq .no, .eq .no, .eq .no, .eq .no, .eq .no, .eq .no] (by kernel_rfl) (bl_asgV ((((pu2 Nv.op_cat (((pu2 Nv.op_rep (((pu_lst (dp_cons (pu_c).tkP dp_nil) (fun x15 => ([(Prod.fst x15)] : (List Int))))).rdT ow_tree) ((pu2 Nv.op_add ((pu2 Nv.op_fdivW ((pu_var 2 rfl)).rd (pu_c).rd)).rd (pu_c).rd)).rd)).rdT ow_tree) (((pu2 Nv.op_rep (((pu_lst (dp_cons ((pu2 Nv.op_sub ((pu_var 1 rfl)).rd (pu_c).rd)).tkP dp_nil) (fun x26 => ([(Prod.fst x26)] : (List Int))))).rdT ow_tree) ((pu2 Nv.op_fdivW ((pu2 Nv.op_add ((pu_var 2 rfl)).rd (pu_c).rd)).rd (pu_c).rd)).rd)).rdT ow_tree))).tkTP ow_tree)).ev fun x36 => (bl_ga [.eq (ow ((Prod.snd (Prod.fst x13)) : (List Int))), .eq (.fz (enc (a1 : Int))), .eq (.fz (enc (a2 : Int))), .eq (.fz (enc (x6 : (List (Tp Int))))), .eq (.fz (enc ((Prod.fst (Prod.fst x13)) : (List Int)))), .eq (.fz (enc (x36 : (List Int)))), .eq .no, .eq .no, .eq .no, .eq .no, .eq .no, .eq .no, .eq .no, .eq .no, .eq .no] (by kernel_rfl) (bl_asgV ((((pu_lst (dp_cons (((pu_call (ap_cons ((pu_var 1 rfl)).tkP (ap_cons ((pu_var 2 rfl)).tkP (ap_cons ((pu_var 4 rfl)).tkP ap_nil))) (fun x43 => V__law_table ((Prod.fst x43) : Int) ((Prod.fst (Prod.snd x43)) : Int) ((Prod.fst (Prod.snd (Prod.snd x43))) : (List Int))))).tkTP ow_tree) (dp_cons (((pu_call (ap_cons ((pu_var 1 rfl)).tkP (ap_cons ((pu_var 2 rfl)).tkP (ap_cons ((pu_var 5 rfl)).tkP ap_nil))) (fun x51 => V__law_table ((Prod.fst x51) : Int) ((Prod.fst (Prod.snd x51)) : Int) ((Prod.fst (Prod.snd (Prod.snd x51))) : (List Int))))).tkTP ow_tree) dp_nil)) (fun x53 => ([(Prod.fst x53), (Prod.fst (Prod.snd x53))] : (List (List Int)))))).tkTP ow_tree)).ev fun x56 => (bl_ga [.eq (ow ((Prod.snd (Prod.fst x13)) : (List Int))), .eq (.fz (enc (a1 : Int))), .eq (.fz (enc (a2 : Int))), .eq (.fz (enc (x6 : (List (Tp Int))))), .eq (.fz (enc ((Prod.fst (Prod.fst x13)) : (List Int)))), .eq (.fz (enc (x36 : (List Int)))), .eq (.fz (enc (x56 : (List (List Int))))), .eq .no, .eq .no, .eq .no, .eq .no, .eq .no, .eq .no, .eq .no, .eq .no] (by kernel_rfl) (bl_asgV (((ev2g Nv.op_cat (va := fun x89 => x89) (vb := fun x89 x87 => (Prod.fst x87)) ((pu_var 6 rfl)).ev.er fun x89 => ((((ev_lst (dl_cons (((ev_lc (vs := [8]) (xs := fun x57 => x57) (s0 := fun x57 => ((Prod.snd (Prod.fst x13)) : (List Int))) (ΓL := fun x57 s66 => [.eq (ow (s66 : (List Int))), .eq (.fz (enc (a1 : Int))), .eq (.fz (enc (a2 : Int))), .eq (.fz (enc (x6 : (List (Tp Int))))), .eq (.fz (enc ((Prod.fst (Prod.fst x13)) : (List Int)))), .eq (.fz (enc (x36 : (List Int)))), .eq (.fz (enc (x56 : (List (List Int))))), .eq .no, .eq .no, .eq .no, .eq .no, .eq .no, .eq .no, .eq .no, .eq .no]) (Γ2 := fun x57 s66 x58 x75 => [.eq (ow ((Prod.snd x75) : (List Int))), .eq (.fz (enc (a1 : Int))), .eq (.fz (enc (a2 : Int))), .eq (.fz (enc (x6 : (List (Tp Int))))), .eq (.fz (enc ((Prod.fst (Prod.fst x13)) : (List Int)))), .eq (.fz (enc (x36 : (List Int)))), .eq (.fz (enc (x56 : (List (List Int))))), .eq .no, .eq (.fz (enc (x58 : (Tp Int)))), .eq .no, .eq .no, .eq .no, .eq .no, .eq .no, .eq .no]) ((ip_seq (xs := fun v => v) ((pu_var 3 rfl)).tkP)).it (fun x57 => (.cons .rfl (.cons .rfl (.cons .rfl (.cons .rfl (.cons .rfl (.cons .rfl (.cons .rfl (.cons .rfl (.cons .rfl (.cons .rfl (.cons .rfl (.cons .rfl (.cons .rfl (.cons .rfl (.cons .rfl .nil)))))))))))))))) (fun _ _ => rfl) (fun x57 s66 x58 => tg_n) (fun _ _ _ => ts_ok) (fun x57 s66 x58 => (ev_ga [.eq (ow (s66 : (List Int))), .eq (.fz (enc (a1 : Int))), .eq (.fz (enc (a2 : Int))), .eq (.fz (enc (x6 : (List (Tp Int))))), .eq (.fz (enc ((Prod.fst (Prod.fst x13)) : (List Int)))), .eq (.fz (enc (x36 : (List Int)))), .eq (.fz (enc (x56 : (List (List Int))))), .eq .no, .eq (.fz (enc (x58 : (Tp Int)))), .eq .no, .eq .no, .eq .no, .eq .no, .eq .no, .eq .no] (by kernel_rfl) (Ev.mapW (fun x74 => ((Prod.fst x74), (Prod.snd (Prod.fst (Prod.snd (Prod.snd x74)))))) ((ev2g Nv.op_ixT2 (va := fun x73 => x73) (vb := fun x73 x71 => (Prod.fst (Prod.fst x71))) ((pu_var 8 rfl)).ev.er fun x73 => (((ev_callG (ag_io (k := 0) rfl rfl (ag_cons (((pu_var 2 rfl)).tkP).ev fun x67 => ag_nil)) (fun x69 => V__law_pick (s66 : (List Int)) ((Prod.fst x69) : Int)))).er).es)).tk fun x74 => (gale_ga [.eq (ow ((Prod.snd (Prod.fst (Prod.snd (Prod.snd x74)))) : (List Int))), .eq (.fz (enc (a1 : Int))), .eq (.fz (enc (a2 : Int))), .eq (.fz (enc (x6 : (List (Tp Int))))), .eq (.fz (enc ((Prod.fst (Prod.fst x13)) : (List Int)))), .eq (.fz (enc (x36 : (List Int)))), .eq (.fz (enc (x56 : (List (List Int))))), .eq .no, .eq (.fz (enc (x58 : (Tp Int)))), .eq .no, .eq .no, .eq .no, .eq .no, .eq .no, .eq .no] (by kernel_rfl) (.cons .rfl (.cons .rfl (.cons .rfl (.cons .rfl (.cons .rfl (.cons .rfl (.cons .rfl (.cons .rfl (.cons .rfl (.cons .rfl (.cons .rfl (.cons .rfl (.cons .rfl (.cons .rfl (.cons .rfl .nil))))))))))))))))))) fun _ _ _ _ => (gale_ga _ rfl (.cons .rfl (.cons .rfl (.cons .rfl (.cons .rfl (.cons .rfl (.cons .rfl (.cons .rfl (.cons .rfl (.cons .rfl (.cons .rfl (.cons .rfl (.cons .rfl (.cons .rfl (.cons .rfl (.cons .rfl .nil)))))))))))))))))).tkT fun _ => ow_tree _) fun x76 => (dl_ga [.eq (ow ((Prod.snd (Prod.fst x76)) : (List Int))), .eq (.fz (enc (a1 : Int))), .eq (.fz (enc (a2 : Int))), .eq (.fz (enc (x6 : (List (Tp Int))))), .eq (.fz (enc ((Prod.fst (Prod.fst x13)) : (List Int)))), .eq (.fz (enc (x36 : (List Int)))), .eq (.fz (enc (x56 : (List (List Int))))), .eq .no, .eq .no, .eq .no, .eq .no, .eq .no, .eq .no, .eq .no, .eq .no] (by kernel_rfl) (dl_cons (((ev_callG (ag_io (k := 0) rfl rfl (ag_cons (((pu_var 1 rfl)).tkP).ev fun x77 => (ag_cons (((pu_var 2 rfl)).tkP).ev fun x78 => ag_nil))) (fun x81 => V__law_even_table ((Prod.snd (Prod.fst x76)) : (List Int)) ((Prod.fst x81) : Int) ((Prod.fst (Prod.snd x81)) : Int)))).tkT fun _ => ow_tree _) fun x83 => (dl_ga [.eq (ow ((Prod.snd (Prod.fst x83)) : (List Int))), .eq (.fz (enc (a1 : Int))), .eq (.fz (enc (a2 : Int))), .eq (.fz (enc (x6 : (List (Tp Int))))), .eq (.fz (enc ((Prod.fst (Prod.fst x13)) : (List Int)))), .eq (.fz (enc (x36 : (List Int)))), .eq (.fz (enc (x56 : (List (List Int))))), .eq .no, .eq .no, .eq .no, .eq .no, .eq .no, .eq .no, .eq .no, .eq .no] (by kernel_rfl) dl_nil)))) (fun x84 => ([(Prod.fst (Prod.fst (Prod.fst x84))), (Prod.fst (Prod.fst (Prod.fst (Prod.snd x84))))] : (List (List Int)))))).erT fun _ => ow_tree _)).es)).tkT fun _ => ow_tree _) fun x90 => (bl_ga [.eq (ow ((Prod.snd (Prod.fst (Prod.fst (Prod.snd (Prod.snd (Prod.snd (Prod.snd x90))))))) : (List Int))), .eq (.fz (enc (a1 : Int))), .eq (.fz (enc (a2 : Int))), .eq (.fz (enc (x6 : (List (Tp Int))))), .eq (.fz (enc ((Prod.fst (Prod.fst x13)) : (List Int)))), .eq (.fz (enc (x36 : (List Int)))), .eq (.fz (enc ((Prod.fst x90) : (List (List Int))))), .eq .no, .eq .no, .eq .no, .eq .no, .eq .no, .eq .no, .eq .no, .eq .no] (by kernel_rfl) (bl_forF (Q := (RF (ρ := (Bool × (List Int))) (fun r => .eq (.fz (enc ((Prod.fst r) : Bool)))) fun r => [.eq (ow ((Prod.snd r) : (List Int))), .aa, .aa, .aa, .aa, .aa, .aa, .aa, .aa, .aa, .aa, .aa, .aa, .aa, .aa])) (vs := [7]) (xs := fun x91 => x91) (s0 := fun x91 => ((Prod.snd (Prod.fst (Prod.fst (Prod.snd (Prod.snd (Prod.snd (Prod.snd x90))))))) : (List Int))) (ΓL := fun x91 (s93 : (List Int)) => [.eq (ow (s93 : (List Int))), .eq (.fz (enc (a1 : Int))), .eq (.fz (enc (a2 : Int))), .eq (.fz (enc (x6 : (List (Tp Int))))), .eq (.fz (enc ((Prod.fst (Prod.fst x13)) : (List Int)))), .eq (.fz (enc (x36 : (List Int)))), .eq (.fz (enc ((Prod.fst x90) : (List (List Int))))), .pl, .pl, .pl, .pl, .pl, .pl, .pl, .pl]) (kr := fun r179 => some r179) ((ip_seq (xs := fun v => v) ((pu_var 6 rfl)).tkP)).it (fun x91 => (.cons .rfl (.cons .rfl (.cons .rfl (.cons .rfl (.cons .rfl (.cons .rfl (.cons .rfl (.cons .no (.cons .no (.cons .no (.cons .no (.cons .no (.cons .no (.cons .no (.cons .no .nil)))))))))))))))) (fun x91 s93 x92 => tg_n) (fun x91 s93 x92 => (bl_ga [.eq (ow (s93 : (List Int))), .eq (.fz (enc (a1 : Int))), .eq (.fz (enc (a2 : Int))), .eq (.fz (enc (x6 : (List (Tp Int))))), .eq (.fz (enc ((Prod.fst (Prod.fst x13)) : (List Int)))), .eq (.fz (enc (x36 : (List Int)))), .eq (.fz (enc ((Prod.fst x90) : (List (List Int))))), .eq (.fz (enc (x92 : (List Int)))), .pl, .pl, .pl, .pl, .pl, .pl, .pl] (by kernel_rfl) (bl_par (ag_cons ((ev_callG (ag_io (k := 0) rfl rfl (ag_cons (((pu1A Nv.op_len (((pu_var 7 rfl)).rd).ra)).tkP).ev fun x95 => ag_nil)) (fun x97 => V__law_pick (s93 : (List Int)) ((Prod.fst x97) : Int)))).tk fun x99 => (ag_ga [.eq (ow ((Prod.snd (Prod.fst x99)) : (List Int))), .eq (.fz (enc (a1 : Int))), .eq (.fz (enc (a2 : Int))), .eq (.fz (enc (x6 : (List (Tp Int))))), .eq (.fz (enc ((Prod.fst (Prod.fst x13)) : (List Int)))), .eq (.fz (enc (x36 : (List Int)))), .eq (.fz (enc ((Prod.fst x90) : (List (List Int))))), .eq (.fz (enc (x92 : (List Int)))), .pl, .pl, .pl, .pl, .pl, .pl, .pl] (by kernel_rfl) (ag_cons ((pu1 Nv.op_list ((pu_var 7 rfl)).rd)).ev fun x101 => ag_nil))) fun x104 => (bl_ga [.eq (ow ((Prod.snd (Prod.fst (Prod.fst x104))) : (List Int))), .eq (.fz (enc (a1 : Int))), .eq (.fz (enc (a2 : Int))), .eq (.fz (enc (x6 : (List (Tp Int))))), .eq (.fz (enc ((Prod.fst (Prod.fst x13)) : (List Int)))), .eq (.fz (enc (x36 : (List Int)))), .eq (.fz (enc ((Prod.fst x90) : (List (List Int))))), .eq (.fz (enc (x92 : (List Int)))), .pl, .pl, .eq (.fz (enc ((Prod.fst (Prod.fst (Prod.fst x104))) : Int))), .eq (ow ((Prod.fst (Prod.snd x104)) : (List Int))), .pl, .pl, .pl] (by kernel_rfl) (bl_set (k := 11) (va := fun x109 => (Prod.fst (Prod.fst x109))) (xs := fun x109 => (Prod.fst (Prod.snd x104))) ((ev_callG (ag_io (k := 0) rfl rfl (ag_cons (((pu_var 1 rfl)).tkP).ev fun x105 => ag_nil)) (fun x107 => V__law_pick ((Prod.snd (Prod.fst (Prod.fst x104))) : (List Int)) ((Prod.fst x107) : Int)))).tk (fun _ => rfl) (fun x109 => ((pu_var 10 rfl)).rd) fun x109 x111 => (bl_ga [.eq (ow ((Prod.snd (Prod.fst x109)) : (List Int))), .eq (.fz (enc (a1 : Int))), .eq (.fz (enc (a2 : Int))), .eq (.fz (enc (x6 : (List (Tp Int))))), .eq (.fz (enc ((Prod.fst (Prod.fst x13)) : (List Int)))), .eq (.fz (enc (x36 : (List Int)))), .eq (.fz (enc ((Prod.fst x90) : (List (List Int))))), .eq (.fz (enc (x92 : (List Int)))), .pl, .pl, .eq (.fz (enc ((Prod.fst (Prod.fst (Prod.fst x104))) : Int))), .eq (ow (x111 : (List Int))), .pl, .pl, .pl] (by kernel_rfl) (bl_forF (Q := (RF (ρ := (Bool × (List Int))) (fun r => .eq (.fz (enc ((Prod.fst r) : Bool)))) fun r => [.eq (ow ((Prod.snd r) : (List Int))), .aa, .aa, .aa, .aa, .aa, .aa, .aa, .aa, .aa, .aa, .aa, .aa, .aa, .aa])) (vs := [8]) (xs := fun x118 => (Prod.fst x118)) (s0 := fun x118 => (() : Unit)) (ΓL := fun x118 (s120 : Unit) => [.eq (ow ((Prod.snd (Prod.fst x109)) : (List Int))), .eq (.fz (enc (a1 : Int))), .eq (.fz (enc (a2 : Int))), .eq (.fz (enc (x6 : (List (Tp Int))))), .eq (.fz (enc ((Prod.fst (Prod.fst x13)) : (List Int)))), .eq (.fz (enc (x36 : (List Int)))), .eq (.fz (enc ((Prod.fst x90) : (List (List Int))))), .eq (.fz (enc (x92 : (List Int)))), .pl, .pl, .eq (.fz (enc ((Prod.fst (Prod.fst (Prod.fst x104))) : Int))), .eq (.fz (enc ((Prod.fst (Prod.snd (Prod.snd x118))) : (List Int)))), .pl, .pl, .pl]) (kr := fun r176 => some (Fl.rt r176)) (it_seq (xs := fun x117 => (Prod.fst x117)) (((ev_lst (dl_cons (((pu_var 7 rfl)).tkP).ev fun x112 => (dl_cons (tk_own 11 rfl) fun x113 => (dl_ga [.eq (ow ((Prod.snd (Prod.fst x109)) : (List Int))), .eq (.fz (enc (a1 : Int))), .eq (.fz (enc (a2 : Int))), .eq (.fz (enc (x6 : (List (Tp Int))))), .eq (.fz (enc ((Prod.fst (Prod.fst x13)) : (List Int)))), .eq (.fz (enc (x36 : (List Int)))), .eq (.fz (enc ((Prod.fst x90) : (List (List Int))))), .eq (.fz (enc (x92 : (List Int)))), .pl, .pl, .eq (.fz (enc ((Prod.fst (Prod.fst (Prod.fst x104))) : Int))), .eq (.fz (enc (x113 : (List Int)))), .pl, .pl, .pl] (by kernel_rfl) dl_nil))) (fun x114 => ([(Prod.fst x114), (Prod.fst (Prod.snd x114))] : (List (List Int)))))).tkT fun _ => ow_tree _)) (fun x118 => (gale_ga [.eq (ow ((Prod.snd (Prod.fst x109)) : (List Int))), .eq (.fz (enc (a1 : Int))), .eq (.fz (enc (a2 : Int))), .eq (.fz (enc (x6 : (List (Tp Int))))), .eq (.fz (enc ((Prod.fst (Prod.fst x13)) : (List Int)))), .eq (.fz (enc (x36 : (List Int)))), .eq (.fz (enc ((Prod.fst x90) : (List (List Int))))), .eq (.fz (enc (x92 : (List Int)))), .pl, .pl, .eq (.fz (enc ((Prod.fst (Prod.fst (Prod.fst x104))) : Int))), .eq (.fz (enc ((Prod.fst (Prod.snd (Prod.snd x118))) : (List Int)))), .pl, .pl, .pl] (by kernel_rfl) (.cons .rfl (.cons .rfl (.cons .rfl (.cons .rfl (.cons .rfl (.cons .rfl (.cons .rfl (.cons .rfl (.cons .rfl (.cons .rfl (.cons .rfl (.cons .rfl (.cons .rfl (.cons .rfl (.cons .rfl .nil))))))))))))))))) (fun x118 s120 x119 => tg_n) (fun x118 s120 x119 => (bl_ga [.eq (ow ((Prod.snd (Prod.fst x109)) : (List Int))), .eq (.fz (enc (a1 : Int))), .eq (.fz (enc (a2 : Int))), .eq (.fz (enc (x6 : (List (Tp Int))))), .eq (.fz (enc ((Prod.fst (Prod.fst x13)) : (List Int)))), .eq (.fz (enc (x36 : (List Int)))), .eq (.fz (enc ((Prod.fst x90) : (List (List Int))))), .eq (.fz (enc (x92 : (List Int)))), .eq (.fz (enc (x119 : (List Int)))), .pl, .eq (.fz (enc ((Prod.fst (Prod.fst (Prod.fst x104))) : Int))), .eq (.fz (enc ((Prod.fst (Prod.snd (Prod.snd x118))) : (List Int)))), .pl, .pl, .pl] (by kernel_rfl) (bl_last (bl_if (k := fun x130 => x130) ((ts_not (ts_truB (((pu_call (ap_cons ((pu_var 1 rfl)).tkP (ap_cons ((pu_var 2 rfl)).tkP (ap_cons ((pu_var 8 rfl)).tkP ap_nil))) (fun x127 => V__law_told_v10 ((Prod.fst x127) : Int) ((Prod.fst (Prod.snd x127)) : Int) ((Prod.fst (Prod.snd (Prod.snd x127))) : (List Int))))).rd).ra))).te' (fun x130 => (bl_retS (bl_retV (pu_c).ev fun x131 => (rl_rt (rf_eq rfl (.cons .rfl (.cons .aa (.cons .aa (.cons .aa (.cons .aa (.cons .aa (.cons .aa (.cons .aa (.cons .aa (.cons .aa (.cons .aa (.cons .aa (.cons .aa (.cons .aa (.cons .aa .nil)))))))))))))))))))) fun x130 => (bl_next (bl_end (rl_nx (.cons .rfl (.cons .rfl (.cons .rfl (.cons .rfl (.cons .rfl (.cons .rfl (.cons .rfl (.cons .rfl (.cons .fz (.cons .rfl (.cons .rfl (.cons .rfl (.cons .rfl (.cons .rfl (.cons .rfl .nil)))))))))))))))))))))) (fun v z u d hz h => by cases (Option.some.inj hz); exact ⟨h, u, d, rfl⟩) fun x118 s120 => (bl_last (bl_forF (Q := (RF (ρ := (Bool × (List Int))) (fun r => .eq (.fz (enc ((Prod.fst r) : Bool)))) fun r => [.eq (ow ((Prod.snd r) : (List Int))), .aa, .aa, .aa, .aa, .aa, .aa, .aa, .aa, .aa, .aa, .aa, .aa, .aa, .aa])) (vs := [9]) (xs := fun x133 => x133) (s0 := fun x133 => ((Prod.snd (Prod.fst x109)) : (List Int))) (ΓL := fun x133 (s135 : (List Int)) => [.eq (ow (s135 : (List Int))), .eq (.fz (enc (a1 : Int))), .eq (.fz (enc (a2 : Int))), .eq (.fz (enc (x6 : (List (Tp Int))))), .eq (.fz (enc ((Prod.fst (Prod.fst x13)) : (List Int)))), .eq (.fz (enc (x36 : (List Int)))), .eq (.fz (enc ((Prod.fst x90) : (List (List Int))))), .eq (.fz (enc (x92 : (List Int)))), .pl, .pl, .eq (.fz (enc ((Prod.fst (Prod.fst (Prod.fst x104))) : Int))), .eq (.fz (enc ((Prod.fst (Prod.snd (Prod.snd x118))) : (List Int)))), .pl, .pl, .pl]) (kr := fun r174 => some (Fl.rt r174)) ((ip_rng1 (pu_c).tkP)).it (fun x133 => (.cons .rfl (.cons .rfl (.cons .rfl (.cons .rfl (.cons .rfl (.cons .rfl (.cons .rfl (.cons .rfl (.cons .rfl (.cons .rfl (.cons .rfl (.cons .rfl (.cons .rfl (.cons .rfl (.cons .rfl .nil)))))))))))))))) (fun x133 s135 x134 => tg_n) (fun x133 s135 x134 => (bl_ga [.eq (ow (s135 : (List Int))), .eq (.fz (enc (a1 : Int))), .eq (.fz (enc (a2 : Int))), .eq (.fz (enc (x6 : (List (Tp Int))))), .eq (.fz (enc ((Prod.fst (Prod.fst x13)) : (List Int)))), .eq (.fz (enc (x36 : (List Int)))), .eq (.fz (enc ((Prod.fst x90) : (List (List Int))))), .eq (.fz (enc (x92 : (List Int)))), .pl, .eq (.fz (enc (x134 : Int))), .eq (.fz (enc ((Prod.fst (Prod.fst (Prod.fst x104))) : Int))), .eq (.fz (enc ((Prod.fst (Prod.snd (Prod.snd x118))) : (List Int)))), .pl, .pl, .pl] (by kernel_rfl) (bl_asgV ((ev_callG (ag_io (k := 0) rfl rfl (ag_cons (((pu1A Nv.op_len (((pu_var 3 rfl)).rd).ra)).tkP).ev fun x137 => ag_nil)) (fun x139 => V__law_pick (s135 : (List Int)) ((Prod.fst x139) : Int)))).tk fun x141 => (bl_ga [.eq (ow ((Prod.snd (Prod.fst x141)) : (List Int))), .eq (.fz (enc (a1 : Int))), .eq (.fz (enc (a2 : Int))), .eq (.fz (enc (x6 : (List (Tp Int))))), .eq (.fz (enc ((Prod.fst (Prod.fst x13)) : (List Int)))), .eq (.fz (enc (x36 : (List Int)))), .eq (.fz (enc ((Prod.fst x90) : (List (List Int))))), .eq (.fz (enc (x92 : (List Int)))), .pl, .eq (.fz (enc (x134 : Int))), .eq (.fz (enc ((Prod.fst (Prod.fst (Prod.fst x104))) : Int))), .eq (.fz (enc ((Prod.fst (Prod.snd (Prod.snd x118))) : (List Int)))), .eq (.fz (enc ((Prod.fst (Prod.fst x141)) : Int))), .pl, .pl] (by kernel_rfl) (bl_asgV (((ev_callG (ag_io (k := 0) rfl rfl (ag_cons ((((pu1 Nv.op_listT ((pu2 Nv.op_ix2 ((pu_var 3 rfl)).rd ((pu_var 12 rfl)).rd)).rd)).tkTP ow_tree)).ev fun x145 => ag_nil)) (fun x147 => V__law_mixed_v2 ((Prod.snd (Prod.fst x141)) : (List Int)) ((Prod.fst x147) : (List Int))))).tkT fun _ => ow_tree _) fun x149 => (bl_ga [.eq (ow ((Prod.snd (Prod.fst x149)) : (List Int))), .eq (.fz (enc (a1 : Int))), .eq (.fz (enc (a2 : Int))), .eq (.fz (enc (x6 : (List (Tp Int))))), .eq (.fz (enc ((Prod.fst (Prod.fst x13)) : (List Int)))), .eq (.fz (enc (x36 : (List Int)))), .eq (.fz (enc ((Prod.fst x90) : (List (List Int))))), .eq (.fz (enc (x92 : (List Int)))), .pl, .eq (.fz (enc (x134 : Int))), .eq (.fz (enc ((Prod.fst (Prod.fst (Prod.fst x104))) : Int))), .eq (.fz (enc ((Prod.fst (Prod.snd (Prod.snd x118))) : (List Int)))), .eq (.fz (enc ((Prod.fst (Prod.fst x141)) : Int))), .eq (.fz (enc ((Prod.fst (Prod.fst x149)) : (List Int)))), .pl] (by kernel_rfl) (bl_asgV ((((pu1 Nv.op_list ((pu_var 13 rfl)).rd)).tkTP ow_tree)).ev fun x151 => (bl_ga [.eq (ow ((Prod.snd (Prod.fst x149)) : (List Int))), .eq (.fz (enc (a1 : Int))), .eq (.fz (enc (a2 : Int))), .eq (.fz (enc (x6 : (List (Tp Int))))), .eq (.fz (enc ((Prod.fst (Prod.fst x13)) : (List Int)))), .eq (.fz (enc (x36 : (List Int)))), .eq (.fz (enc ((Prod.fst x90) : (List (List Int))))), .eq (.fz (enc (x92 : (List Int)))), .pl, .eq (.fz (enc (x134 : Int))), .eq (.fz (enc ((Prod.fst (Prod.fst (Prod.fst x104))) : Int))), .eq (.fz (enc ((Prod.fst (Prod.snd (Prod.snd x118))) : (List Int)))), .eq (.fz (enc ((Prod.fst (Prod.fst x141)) : Int))), .eq (.fz (enc ((Prod.fst (Prod.fst x149)) : (List Int)))), .eq (.fz (enc (x151 : (List Int))))] (by kernel_rfl) (bl_last (bl_if (k := fun x172 => x172) ((ts_or (ts_tst (pu2 Nv.op_neS ((pu1A Nv.op_repr (((Pu.any (pu_call (ap_cons ((pu_var 1 rfl)).tkP (ap_cons ((pu_var 2 rfl)).tkP (ap_cons ((pu_var 11 rfl)).tkP (ap_cons ((pu_var 13 rfl)).tkP ap_nil)))) (fun x160 => V_made_of ((Prod.fst x160) : Int) ((Prod.fst (Prod.snd x160)) : Int) ((Prod.fst (Prod.snd (Prod.snd x160))) : (List Int)) ((Prod.fst (Prod.snd (Prod.snd (Prod.snd x160)))) : (List Int)))))).rd).ra)).rd ((pu1A Nv.op_repr (((Pu.any (pu2 Nv.op_ix2 ((pu_var 11 rfl)).rd ((pu_var 12 rfl)).rd))).rd).ra)).rd)) (ts_tst (pu2A Nv.op_ne (((pu_var 13 rfl)).rd).ra (((pu_var 14 rfl)).rd).ra)))).te' (fun x172 => (bl_retS (bl_retV (pu_c).ev fun x173 => (rl_rt (rf_eq rfl (.cons .rfl (.cons .aa (.cons .aa (.cons .aa (.cons .aa (.cons .aa (.cons .aa (.cons .aa (.cons .aa (.cons .aa (.cons .aa (.cons .aa (.cons .aa (.cons .aa (.cons .aa .nil)))))))))))))))))))) fun x172 => (bl_next (bl_end (rl_nx (.cons .rfl (.cons .rfl (.cons .rfl (.cons .rfl (.cons .rfl (.cons .rfl (.cons .rfl (.cons .rfl (.cons .rfl (.cons .fz (.cons .rfl (.cons .rfl (.cons .fz (.cons .fz (.cons .fz .nil)))))))))))))))))))))))))))) (fun v z u d hz h => by cases (Option.some.inj hz); exact ⟨h, u, d, rfl⟩) fun x133 s135 => (bl_end (rl_nx (.cons .rfl (.cons .rfl (.cons .rfl (.cons .rfl (.cons .rfl (.cons .rfl (.cons .rfl (.cons .fz (.cons .rfl (.cons .rfl (.cons .fz (.cons .fz (.cons .rfl (.cons .rfl (.cons .rfl .nil)))))))))))))))))))))))))) (fun v z u d hz h => by cases (Option.some.inj hz); exact h) fun x91 s93 => (bl_retV (pu_c).ev fun x178 => (rf_eq rfl (.cons .rfl (.cons .aa (.cons .aa (.cons .aa (.cons .aa (.cons .aa (.cons .aa (.cons .aa (.cons .aa (.cons .aa (.cons .aa (.cons .aa (.cons .aa (.cons .aa (.cons .aa .nil))))))))))))))))))))))))))))))
end P
namespace P
open PySem PySem.Spec PyProof.Rows L2 Hb Nv
open Enc (enc)
def B_law_v37 : List Sl → Ot :=
    oSeq (oFor (wRng1 (s2 gMax2 (sC (.int 1)) (s2 gMin2 (sC (.int 4)) (s1 (gRd lenD) (sVar 0))))) (tgN 1) (oSeq (oAsg (sCall F__law_well [] (rCons (sTk (sVar 0)) (rCons (sTk (sVar 1)) (rNil)))) (tgN 3))
    (oSeq (oFor (wSeq (sLst (lCons (sTup (lCons (s2 gAdd (sC (.int 1)) (sCall F__law_pick [] (rIo 3 (rCons (sC (.int 6)) (rNil))))) (lCons (s2 gAdd (sC (.int 1)) (sCall F__law_pick [] (rIo 3 (rCons (sC (.int 5)) (rNil))))) (lNil)))) (lCons (sTup (lCons (sC (.int 3)) (lCons (sC (.int 2)) (lNil)))) (lCons (sTup (lCons (sC (.int 4)) (lCons (sC (.int 3)) (lNil)))) (lCons (sTup (lCons (sC (.int 2)) (lCons (sC (.int 5)) (lNil)))) (lCons (sTup (lCons (sC (.int 5)) (lCons (sC (.int 1)) (lNil)))) (lNil)))))))) (tgT 2 (tgCons (tgN 4) (tgCons (tgN 5) (tgNil)))) (oIf (sNot (sTru (sCall F__law_right_v34 [] (rIo 3 (rCons (sTk (sVar 4)) (rCons (sTk (sVar 5)) (rNil))))))) (oRet (sC (.bool false))) (oNext)))
    (oIf (sAnd (sTst (s2 gEq (sVar 1) (sC (.int 0)))) (sNot (sTru (sCall F__law_right_v34 [] (rIo 3 (rCons (sC (.int 6)) (rCons (sC (.int 5)) (rNil)))))))) (oRet (sC (.bool false))) (oNext)))))
    (oSeq (oAsg (sTk (sLst (lCons (sCall F_made_of [] (rCons (sC (.int 3)) (rCons (sC (.int 2)) (rCons (sTk (sLst (lCons (sC (.int 0)) (lCons (sC (.int 0)) (lCons (sC (.int 1)) (lCons (sC (.int 1)) (lCons (sC (.int 2)) (lCons (sC (.int 2)) (lNil))))))))) (rCons (sTk (sLst (lCons (sC (.int 2)) (lCons (sC (.int 0)) (lNil))))) (rNil)))))) (lCons (sCall F_stays_between [] (rCons (sC (.int 3)) (rCons (sC (.int 2)) (rCons (sTk (sLst (lCons (sC (.int 0)) (lCons (sC (.int 0)) (lCons (sC (.int 1)) (lCons (sC (.int 1)) (lCons (sC (.int 2)) (lCons (sC (.int 2)) (lNil))))))))) (rNil))))) (lNil))))) (tgN 2))
    (oSeq (oAsg (sTk (s2 gAdd (sVar 2) (sLst (lCons (sCall F_is_even [] (rCons (sC (.int 3)) (rCons (sC (.int 2)) (rCons (sTk (sLst (lCons (sC (.int 0)) (lCons (sC (.int 1)) (lCons (sC (.int 1)) (lCons (sC (.int 1)) (lCons (sC (.int 1)) (lCons (sC (.int 2)) (lNil))))))))) (rNil))))) (lCons (sCall F_is_even [] (rCons (sC (.int 3)) (rCons (sC (.int 2)) (rCons (sTk (sLst (lCons (sC (.int 0)) (lCons (sC (.int 1)) (lCons (sC (.int 1)) (lCons (sC (.int 1)) (lCons (sC (.int 2)) (lCons (sC (.int 2)) (lNil))))))))) (rNil))))) (lCons (sCall F_is_even [] (rCons (sC (.int 1)) (rCons (sC (.int 5)) (rCons (sTk (sLst (lCons (sC (.int 0)) (lNil)))) (rNil))))) (lNil))))))) (tgN 2))
    (oRet (sAndV (s2 gEq (sVar 2) (sLst (lCons (sC (.int 1)) (lCons (sC (.bool true)) (lCons (sC (.bool true)) (lCons (sC (.bool false)) (lCons (sC (.bool true)) (lNil)))))))) (s2 (gIs false) (sCall F_is_even [] (rCons (sC (.int 3)) (rCons (sC (.int 2)) (rCons (sTk (sLst (lCons (sC (.int 0)) (lCons (sC (.int 0)) (lCons (sC (.int 1)) (lCons (sC (.int 1)) (lCons (sC (.int 2)) (lCons (sC (.int 2)) (lNil))))))))) (rNil))))) (sC (.bool true)))))))
def F_law_v37 : List Sl → FR := fnRun 1 6 [] B_law_v37
def n_law_v37 (a0 : (List Int)) : Option (Bool) :=
    (Option.bind (Option.bind (Option.bind (some (1 : Int)) fun x4 => Option.bind (Option.bind (some (4 : Int)) fun x2 => Option.bind (Option.bind (some a0) fun x1 => lenL x1) fun x3 => minI2 x2 x3) fun x5 => maxI2 x4 x5) fun x6 => ri1 x6) fun x7 => Option.bind (forF (ρ := (Bool)) x7 (() : Unit) fun s9 x8 => (Option.bind (Option.bind (Option.bind (some a0) fun x10 => Option.bind (Option.bind (some x8) fun x11 => Option.bind (some ()) fun x12 => some (x11, x12)) fun x13 => some (x10, x13)) fun x14 => n__law_well ((Prod.fst x14) : (List Int)) ((Prod.fst (Prod.snd x14)) : Int)) fun x15 => (Option.bind (Option.bind (Option.bind (Option.bind (Option.bind (Option.bind (some (1 : Int)) fun x22 => Option.bind (Option.bind (Option.bind (some (6 : Int)) fun x16 => Option.bind (some ()) fun x17 => some (x16, x17)) fun x18 => Option.bind (n__law_pick (x15 : (List Int)) ((Prod.fst x18) : Int)) fun x19 => some (x19, x18)) fun x20 => Option.bind (addI x22 (Prod.fst (Prod.fst x20))) fun x21 => some (x21, x22, x20)) fun x23 => Option.bind (Option.bind (Option.bind (some (1 : Int)) fun x30 => Option.bind (Option.bind (Option.bind (some (5 : Int)) fun x24 => Option.bind (some ()) fun x25 => some (x24, x25)) fun x26 => Option.bind (n__law_pick ((Prod.snd (Prod.fst (Prod.snd (Prod.snd x23)))) : (List Int)) ((Prod.fst x26) : Int)) fun x27 => some (x27, x26)) fun x28 => Option.bind (addI x30 (Prod.fst (Prod.fst x28))) fun x29 => some (x29, x30, x28)) fun x31 => Option.bind (some ()) fun x33 => some (x31, x33)) fun x34 => some (x23, x34)) fun x32 => some ((((Prod.fst (Prod.fst x32)), (Prod.fst (Prod.fst (Prod.snd x32)))) : (Int × Int)), x32)) fun x35 => Option.bind (Option.bind (Option.bind (Option.bind (some (3 : Int)) fun x36 => Option.bind (Option.bind (some (2 : Int)) fun x37 => Option.bind (some ()) fun x39 => some (x37, x39)) fun x40 => some (x36, x40)) fun x38 => some (((Prod.fst x38), (Prod.fst (Prod.snd x38))) : (Int × Int))) fun x41 => Option.bind (Option.bind (Option.bind (Option.bind (some (4 : Int)) fun x42 => Option.bind (Option.bind (some (3 : Int)) fun x43 => Option.bind (some ()) fun x45 => some (x43, x45)) fun x46 => some (x42, x46)) fun x44 => some (((Prod.fst x44), (Prod.fst (Prod.snd x44))) : (Int × Int))) fun x47 => Option.bind (Option.bind (Option.bind (Option.bind (some (2 : Int)) fun x48 => Option.bind (Option.bind (some (5 : Int)) fun x49 => Option.bind (some ()) fun x51 => some (x49, x51)) fun x52 => some (x48, x52)) fun x50 => some (((Prod.fst x50), (Prod.fst (Prod.snd x50))) : (Int × Int))) fun x53 => Option.bind (Option.bind (Option.bind (Option.bind (some (5 : Int)) fun x54 => Option.bind (Option.bind (some (1 : Int)) fun x55 => Option.bind (some ()) fun x57 => some (x55, x57)) fun x58 => some (x54, x58)) fun x56 => some (((Prod.fst x56), (Prod.fst (Prod.snd x56))) : (Int × Int))) fun x59 => Option.bind (some ()) fun x61 => some (x59, x61)) fun x62 => some (x53, x62)) fun x63 => some (x47, x63)) fun x64 => some (x41, x64)) fun x65 => some (x35, x65)) fun x60 => some (([(Prod.fst (Prod.fst x60)), (Prod.fst (Prod.snd x60)), (Prod.fst (Prod.snd (Prod.snd x60))), (Prod.fst (Prod.snd (Prod.snd (Prod.snd x60)))), (Prod.fst (Prod.snd (Prod.snd (Prod.snd (Prod.snd x60)))))] : (List (Int × Int))), x60)) fun x67 => Option.bind (forF (ρ := (Bool)) (Prod.fst x67) ((Prod.snd (Prod.fst (Prod.snd (Prod.snd (Prod.fst (Prod.snd (Prod.snd (Prod.fst (Prod.snd x67))))))))) : (List Int)) fun s69 x68 => (Option.bind (Option.bind (Option.bind (some (Prod.fst x68)) fun x70 => Option.bind (Option.bind (some (Prod.snd x68)) fun x71 => Option.bind (some ()) fun x72 => some (x71, x72)) fun x73 => some (x70, x73)) fun x74 => Option.bind (n__law_right_v34 (s69 : (List Int)) ((Prod.fst x74) : Int) ((Prod.fst (Prod.snd x74)) : Int)) fun x75 => some (x75, x74)) fun x78 => if (!(Prod.fst (Prod.fst x78))) = true then (Option.bind (some false) fun x79 => some (.rt x79)) else some (.nx ((Prod.snd (Prod.fst x78)) : (List Int))))) fun o104 => Fl.el o104 (fun s69 => (Option.bind (Option.bind (Option.bind (some x8) fun x80 => Option.bind (some (0 : Int)) fun x81 => eqN x80 x81) fun x90 => if x90 = true then (Option.bind (Option.bind (Option.bind (some (6 : Int)) fun x91 => Option.bind (Option.bind (some (5 : Int)) fun x92 => Option.bind (some ()) fun x93 => some (x92, x93)) fun x94 => some (x91, x94)) fun x95 => Option.bind (n__law_right_v34 (s69 : (List Int)) ((Prod.fst x95) : Int) ((Prod.fst (Prod.snd x95)) : Int)) fun x96 => some (x96, x95)) fun x99 => some ((!(Prod.fst (Prod.fst x99))), (Prod.snd (Prod.fst x99)))) else some (false, s69)) fun x101 => if (Prod.fst x101) = true then (Option.bind (some false) fun x102 => some (.rt x102)) else some (.nx (() : Unit)))) fun r103 => some (Fl.rt r103)))) fun o259 => Fl.el o259 (fun s9 => (Option.bind (Option.bind (Option.bind (Option.bind (Option.bind (some (3 : Int)) fun x105 => Option.bind (Option.bind (some (2 : Int)) fun x106 => Option.bind (Option.bind (Option.bind (Option.bind (some (0 : Int)) fun x107 => Option.bind (Option.bind (some (0 : Int)) fun x108 => Option.bind (Option.bind (some (1 : Int)) fun x109 => Option.bind (Option.bind (some (1 : Int)) fun x110 => Option.bind (Option.bind (some (2 : Int)) fun x111 => Option.bind (Option.bind (some (2 : Int)) fun x112 => Option.bind (some ()) fun x114 => some (x112, x114)) fun x115 => some (x111, x115)) fun x116 => some (x110, x116)) fun x117 => some (x109, x117)) fun x118 => some (x108, x118)) fun x119 => some (x107, x119)) fun x113 => some ([(Prod.fst x113), (Prod.fst (Prod.snd x113)), (Prod.fst (Prod.snd (Prod.snd x113))), (Prod.fst (Prod.snd (Prod.snd (Prod.snd x113)))), (Prod.fst (Prod.snd (Prod.snd (Prod.snd (Prod.snd x113))))), (Prod.fst (Prod.snd (Prod.snd (Prod.snd (Prod.snd (Prod.snd x113))))))] : (List Int))) fun x120 => Option.bind (Option.bind (Option.bind (Option.bind (some (2 : Int)) fun x121 => Option.bind (Option.bind (some (0 : Int)) fun x122 => Option.bind (some ()) fun x124 => some (x122, x124)) fun x125 => some (x121, x125)) fun x123 => some ([(Prod.fst x123), (Prod.fst (Prod.snd x123))] : (List Int))) fun x126 => Option.bind (some ()) fun x127 => some (x126, x127)) fun x128 => some (x120, x128)) fun x129 => some (x106, x129)) fun x130 => some (x105, x130)) fun x131 => n_made_of ((Prod.fst x131) : Int) ((Prod.fst (Prod.snd x131)) : Int) ((Prod.fst (Prod.snd (Prod.snd x131))) : (List Int)) ((Prod.fst (Prod.snd (Prod.snd (Prod.snd x131)))) : (List Int))) fun x132 => Option.bind (Option.bind (Option.bind (Option.bind (some (3 : Int)) fun x133 => Option.bind (Option.bind (some (2 : Int)) fun x134 => Option.bind (Option.bind (Option.bind (Option.bind (some (0 : Int)) fun x135 => Option.bind (Option.bind (some (0 : Int)) fun x136 => Option.bind (Option.bind (some (1 : Int)) fun x137 => Option.bind (Option.bind (some (1 : Int)) fun x138 => Option.bind (Option.bind (some (2 : Int)) fun x139 => Option.bind (Option.bind (some (2 : Int)) fun x140 => Option.bind (some ()) fun x142 => some (x140, x142)) fun x143 => some (x139, x143)) fun x144 => some (x138, x144)) fun x145 => some (x137, x145)) fun x146 => some (x136, x146)) fun x147 => some (x135, x147)) fun x141 => some ([(Prod.fst x141), (Prod.fst (Prod.snd x141)), (Prod.fst (Prod.snd (Prod.snd x141))), (Prod.fst (Prod.snd (Prod.snd (Prod.snd x141)))), (Prod.fst (Prod.snd (Prod.snd (Prod.snd (Prod.snd x141))))), (Prod.fst (Prod.snd (Prod.snd (Prod.snd (Prod.snd (Prod.snd x141))))))] : (List Int))) fun x148 => Option.bind (some ()) fun x149 => some (x148, x149)) fun x150 => some (x134, x150)) fun x151 => some (x133, x151)) fun x152 => n_stays_between ((Prod.fst x152) : Int) ((Prod.fst (Prod.snd x152)) : Int) ((Prod.fst (Prod.snd (Prod.snd x152))) : (List Int))) fun x153 => Option.bind (some ()) fun x155 => some (x153, x155)) fun x156 => some (x132, x156)) fun x154 => some ([(enc ((Prod.fst x154) : Int)), (enc ((Prod.fst (Prod.snd x154)) : Bool))] : (List PyData))) fun x157 => (Option.bind (Option.bind (some x157) fun x216 => Option.bind (Option.bind (Option.bind (Option.bind (Option.bind (Option.bind (some (3 : Int)) fun x158 => Option.bind (Option.bind (some (2 : Int)) fun x159 => Option.bind (Option.bind (Option.bind (Option.bind (some (0 : Int)) fun x160 => Option.bind (Option.bind (some (1 : Int)) fun x161 => Option.bind (Option.bind (some (1 : Int)) fun x162 => Option.bind (Option.bind (some (1 : Int)) fun x163 => Option.bind (Option.bind (some (1 : Int)) fun x164 => Option.bind (Option.bind (some (2 : Int)) fun x165 => Option.bind (some ()) fun x167 => some (x165, x167)) fun x168 => some (x164, x168)) fun x169 => some (x163, x169)) fun x170 => some (x162, x170)) fun x171 => some (x161, x171)) fun x172 => some (x160, x172)) fun x166 => some ([(Prod.fst x166), (Prod.fst (Prod.snd x166)), (Prod.fst (Prod.snd (Prod.snd x166))), (Prod.fst (Prod.snd (Prod.snd (Prod.snd x166)))), (Prod.fst (Prod.snd (Prod.snd (Prod.snd (Prod.snd x166))))), (Prod.fst (Prod.snd (Prod.snd (Prod.snd (Prod.snd (Prod.snd x166))))))] : (List Int))) fun x173 => Option.bind (some ()) fun x174 => some (x173, x174)) fun x175 => some (x159, x175)) fun x176 => some (x158, x176)) fun x177 => n_is_even ((Prod.fst x177) : Int) ((Prod.fst (Prod.snd x177)) : Int) ((Prod.fst (Prod.snd (Prod.snd x177))) : (List Int))) fun x178 => Option.bind (Option.bind (Option.bind (Option.bind (some (3 : Int)) fun x179 => Option.bind (Option.bind (some (2 : Int)) fun x180 => Option.bind (Option.bind (Option.bind (Option.bind (some (0 : Int)) fun x181 => Option.bind (Option.bind (some (1 : Int)) fun x182 => Option.bind (Option.bind (some (1 : Int)) fun x183 => Option.bind (Option.bind (some (1 : Int)) fun x184 => Option.bind (Option.bind (some (2 : Int)) fun x185 => Option.bind (Option.bind (some (2 : Int)) fun x186 => Option.bind (some ()) fun x188 => some (x186, x188)) fun x189 => some (x185, x189)) fun x190 => some (x184, x190)) fun x191 => some (x183, x191)) fun x192 => some (x182, x192)) fun x193 => some (x181, x193)) fun x187 => some ([(Prod.fst x187), (Prod.fst (Prod.snd x187)), (Prod.fst (Prod.snd (Prod.snd x187))), (Prod.fst (Prod.snd (Prod.snd (Prod.snd x187)))), (Prod.fst (Prod.snd (Prod.snd (Prod.snd (Prod.snd x187))))), (Prod.fst (Prod.snd (Prod.snd (Prod.snd (Prod.snd (Prod.snd x187))))))] : (List Int))) fun x194 => Option.bind (some ()) fun x195 => some (x194, x195)) fun x196 => some (x180, x196)) fun x197 => some (x179, x197)) fun x198 => n_is_even ((Prod.fst x198) : Int) ((Prod.fst (Prod.snd x198)) : Int) ((Prod.fst (Prod.snd (Prod.snd x198))) : (List Int))) fun x199 => Option.bind (Option.bind (Option.bind (Option.bind (some (1 : Int)) fun x200 => Option.bind (Option.bind (some (5 : Int)) fun x201 => Option.bind (Option.bind (Option.bind (Option.bind (some (0 : Int)) fun x202 => Option.bind (some ()) fun x204 => some (x202, x204)) fun x203 => some ([(Prod.fst x203)] : (List Int))) fun x205 => Option.bind (some ()) fun x206 => some (x205, x206)) fun x207 => some (x201, x207)) fun x208 => some (x200, x208)) fun x209 => n_is_even ((Prod.fst x209) : Int) ((Prod.fst (Prod.snd x209)) : Int) ((Prod.fst (Prod.snd (Prod.snd x209))) : (List Int))) fun x210 => Option.bind (some ()) fun x212 => some (x210, x212)) fun x213 => some (x199, x213)) fun x214 => some (x178, x214)) fun x211 => some ([(Prod.fst x211), (Prod.fst (Prod.snd x211)), (Prod.fst (Prod.snd (Prod.snd x211)))] : (List Bool))) fun x215 => some (List.map enc (x215 : (List Bool)))) fun x217 => catL x216 x217) fun x218 => (Option.bind (Option.bind (Option.bind (Option.bind (some x218) fun x230 => some (enc (x230 : (List PyData)))) fun x232 => Option.bind (Option.bind (Option.bind (Option.bind (some (1 : Int)) fun x219 => Option.bind (Option.bind (some true) fun x220 => Option.bind (Option.bind (some true) fun x221 => Option.bind (Option.bind (some false) fun x222 => Option.bind (Option.bind (some true) fun x223 => Option.bind (some ()) fun x225 => some (x223, x225)) fun x226 => some (x222, x226)) fun x227 => some (x221, x227)) fun x228 => some (x220, x228)) fun x229 => some (x219, x229)) fun x224 => some ([(enc ((Prod.fst x224) : Int)), (enc ((Prod.fst (Prod.snd x224)) : Bool)), (enc ((Prod.fst (Prod.snd (Prod.snd x224))) : Bool)), (enc ((Prod.fst (Prod.snd (Prod.snd (Prod.snd x224)))) : Bool)), (enc ((Prod.fst (Prod.snd (Prod.snd (Prod.snd (Prod.snd x224))))) : Bool))] : (List PyData))) fun x231 => some (enc (x231 : (List PyData)))) fun x233 => eqA x232 x233) fun x256 => if x256 = true then (Option.bind (Option.bind (Option.bind (some (3 : Int)) fun x234 => Option.bind (Option.bind (some (2 : Int)) fun x235 => Option.bind (Option.bind (Option.bind (Option.bind (some (0 : Int)) fun x236 => Option.bind (Option.bind (some (0 : Int)) fun x237 => Option.bind (Option.bind (some (1 : Int)) fun x238 => Option.bind (Option.bind (some (1 : Int)) fun x239 => Option.bind (Option.bind (some (2 : Int)) fun x240 => Option.bind (Option.bind (some (2 : Int)) fun x241 => Option.bind (some ()) fun x243 => some (x241, x243)) fun x244 => some (x240, x244)) fun x245 => some (x239, x245)) fun x246 => some (x238, x246)) fun x247 => some (x237, x247)) fun x248 => some (x236, x248)) fun x242 => some ([(Prod.fst x242), (Prod.fst (Prod.snd x242)), (Prod.fst (Prod.snd (Prod.snd x242))), (Prod.fst (Prod.snd (Prod.snd (Prod.snd x242)))), (Prod.fst (Prod.snd (Prod.snd (Prod.snd (Prod.snd x242))))), (Prod.fst (Prod.snd (Prod.snd (Prod.snd (Prod.snd (Prod.snd x242))))))] : (List Int))) fun x249 => Option.bind (some ()) fun x250 => some (x249, x250)) fun x251 => some (x235, x251)) fun x252 => some (x234, x252)) fun x253 => n_is_even ((Prod.fst x253) : Int) ((Prod.fst (Prod.snd x253)) : Int) ((Prod.fst (Prod.snd (Prod.snd x253))) : (List Int))) fun x254 => Option.bind (some true) fun x255 => isB x254 x255) else some false) fun x257 => some x257)))) fun r258 => some r258)
theorem V_law_v37 (a0 : (List Int)) : Fun F_law_v37 (n_law_v37 a0) [.fz (enc a0)] (fun r : (Bool) => .fz (enc (r : Bool))) fun r => [.no] :=
  fun_of (ΓR := fun r => [.aa, .aa, .aa, .aa, .aa, .aa]) (show Bl B_law_v37 _ _ _ from (bl_ga [.eq (.fz (enc (a0 : (List Int)))), .eq .no, .eq .no, .eq .no, .eq .no, .eq .no] (by kernel_rfl) (bl_forF (Q := (RF (ρ := (Bool)) (fun r => .eq (.fz (enc (r : Bool)))) fun r => [.aa, .aa, .aa, .aa, .aa, .aa])) (vs := [1]) (xs := fun x7 => x7) (s0 := fun x7 => (() : Unit)) (ΓL := fun x7 (s9 : Unit) => [.eq (.fz (enc (a0 : (List Int)))), .pl, .eq .no, .any, .pl, .pl]) (kr := fun r258 => some r258) ((ip_rng1 ((pu2 Nv.op_max2 (pu_c).rd ((pu2 Nv.op_min2 (pu_c).rd ((pu1A Nv.op_len (((pu_var 0 rfl)).rd).ra)).rd)).rd)).tkP)).it (fun x7 => (.cons .rfl (.cons .no (.cons .rfl (.cons (.any rfl) (.cons .no (.cons .no .nil))))))) (fun x7 s9 x8 => tg_n) (fun x7 s9 x8 => (bl_ga [.eq (.fz (enc (a0 : (List Int)))), .eq (.fz (enc (x8 : Int))), .eq .no, .any, .pl, .pl] (by kernel_rfl) (bl_asgT ((pu_call (ap_cons ((pu_var 0 rfl)).tkP (ap_cons ((pu_var 1 rfl)).tkP ap_nil)) (fun x14 => V__law_well ((Prod.fst x14) : (List Int)) ((Prod.fst (Prod.snd x14)) : Int)))).ev fun x15 => (bl_ga [.eq (.fz (enc (a0 : (List Int)))), .eq (.fz (enc (x8 : Int))), .eq .no, .eq (ow (x15 : (List Int))), .pl, .pl] (by kernel_rfl) (bl_forF (Q := (RF (ρ := (Bool)) (fun r => .eq (.fz (enc (r : Bool)))) fun r => [.aa, .aa, .aa, .aa, .aa, .aa])) (vs := [4, 5]) (xs := fun x67 => (Prod.fst x67)) (s0 := fun x67 => ((Prod.snd (Prod.fst (Prod.snd (Prod.snd (Prod.fst (Prod.snd (Prod.snd (Prod.fst (Prod.snd x67))))))))) : (List Int))) (ΓL := fun x67 (s69 : (List Int)) => [.eq (.fz (enc (a0 : (List Int)))), .eq (.fz (enc (x8 : Int))), .eq .no, .eq (ow (s69 : (List Int))), .pl, .pl]) (kr := fun r103 => some (Fl.rt r103)) (it_seq (xs := fun x66 => (Prod.fst x66)) (((ev_lst (dl_cons ((ev_tup (dl_cons ((ev2g Nv.op_add (va := fun x22 => x22) (vb := fun x22 x20 => (Prod.fst (Prod.fst x20))) (pu_c).ev.er fun x22 => (((ev_callG (ag_io (k := 3) rfl rfl (ag_cons (pu_c).ev fun x16 => ag_nil)) (fun x18 => V__law_pick (x15 : (List Int)) ((Prod.fst x18) : Int)))).er).es)).tk fun x23 => (dl_ga [.eq (.fz (enc (a0 : (List Int)))), .eq (.fz (enc (x8 : Int))), .eq .no, .eq (ow ((Prod.snd (Prod.fst (Prod.snd (Prod.snd x23)))) : (List Int))), .pl, .pl] (by kernel_rfl) (dl_cons ((ev2g Nv.op_add (va := fun x30 => x30) (vb := fun x30 x28 => (Prod.fst (Prod.fst x28))) (pu_c).ev.er fun x30 => (((ev_callG (ag_io (k := 3) rfl rfl (ag_cons (pu_c).ev fun x24 => ag_nil)) (fun x26 => V__law_pick ((Prod.snd (Prod.fst (Prod.snd (Prod.snd x23)))) : (List Int)) ((Prod.fst x26) : Int)))).er).es)).tk fun x31 => (dl_ga [.eq (.fz (enc (a0 : (List Int)))), .eq (.fz (enc (x8 : Int))), .eq .no, .eq (ow ((Prod.snd (Prod.fst (Prod.snd (Prod.snd x31)))) : (List Int))), .pl, .pl] (by kernel_rfl) dl_nil)))) (fun x32 => (((Prod.fst (Prod.fst x32)), (Prod.fst (Prod.fst (Prod.snd x32)))) : (Int × Int))))).tk fun x35 => (dl_ga [.eq (.fz (enc (a0 : (List Int)))), .eq (.fz (enc (x8 : Int))), .eq .no, .eq (ow ((Prod.snd (Prod.fst (Prod.snd (Prod.snd (Prod.fst (Prod.snd (Prod.snd x35))))))) : (List Int))), .pl, .pl] (by kernel_rfl) (dl_cons (((pu_tup (dp_cons (pu_c).tkP (dp_cons (pu_c).tkP dp_nil)) (fun x38 => (((Prod.fst x38), (Prod.fst (Prod.snd x38))) : (Int × Int))))).tkP).ev fun x41 => (dl_cons (((pu_tup (dp_cons (pu_c).tkP (dp_cons (pu_c).tkP dp_nil)) (fun x44 => (((Prod.fst x44), (Prod.fst (Prod.snd x44))) : (Int × Int))))).tkP).ev fun x47 => (dl_cons (((pu_tup (dp_cons (pu_c).tkP (dp_cons (pu_c).tkP dp_nil)) (fun x50 => (((Prod.fst x50), (Prod.fst (Prod.snd x50))) : (Int × Int))))).tkP).ev fun x53 => (dl_cons (((pu_tup (dp_cons (pu_c).tkP (dp_cons (pu_c).tkP dp_nil)) (fun x56 => (((Prod.fst x56), (Prod.fst (Prod.snd x56))) : (Int × Int))))).tkP).ev fun x59 => dl_nil)))))) (fun x60 => ([(Prod.fst (Prod.fst x60)), (Prod.fst (Prod.snd x60)), (Prod.fst (Prod.snd (Prod.snd x60))), (Prod.fst (Prod.snd (Prod.snd (Prod.snd x60)))), (Prod.fst (Prod.snd (Prod.snd (Prod.snd (Prod.snd x60)))))] : (List (Int × Int)))))).tkT fun _ => ow_tree _)) (fun x67 => (gale_ga [.eq (.fz (enc (a0 : (List Int)))), .eq (.fz (enc (x8 : Int))), .eq .no, .eq (ow ((Prod.snd (Prod.fst (Prod.snd (Prod.snd (Prod.fst (Prod.snd (Prod.snd (Prod.fst (Prod.snd x67))))))))) : (List Int))), .pl, .pl] (by kernel_rfl) (.cons .rfl (.cons .rfl (.cons .rfl (.cons .rfl (.cons .rfl (.cons .rfl .nil)))))))) (fun x67 s69 x68 => (tg_t (tgs_cons tg_n (tgs_cons tg_n tgs_nil)))) (fun x67 s69 x68 => (bl_ga [.eq (.fz (enc (a0 : (List Int)))), .eq (.fz (enc (x8 : Int))), .eq .no, .eq (ow (s69 : (List Int))), .eq (.fz (enc ((Prod.fst x68) : Int))), .eq (.fz (enc ((Prod.snd x68) : Int)))] (by kernel_rfl) (bl_last (bl_if (k := fun x78 => (!(Prod.fst (Prod.fst x78)))) (te_not (k := fun x77 => (Prod.fst (Prod.fst x77))) (te_truB (k := fun x76 => (Prod.fst (Prod.fst x76))) (((ev_callG (ag_io (k := 3) rfl rfl (ag_cons (((pu_var 4 rfl)).tkP).ev fun x70 => (ag_cons (((pu_var 5 rfl)).tkP).ev fun x71 => ag_nil))) (fun x74 => V__law_right_v34 (s69 : (List Int)) ((Prod.fst x74) : Int) ((Prod.fst (Prod.snd x74)) : Int)))).er).es)) (fun x78 => (bl_ga [.eq (.fz (enc (a0 : (List Int)))), .eq (.fz (enc (x8 : Int))), .eq .no, .eq (ow ((Prod.snd (Prod.fst x78)) : (List Int))), .eq (.fz (enc ((Prod.fst x68) : Int))), .eq (.fz (enc ((Prod.snd x68) : Int)))] (by kernel_rfl) (bl_retS (bl_retV (pu_c).ev fun x79 => (rl_rt (rf_eq rfl (.cons .aa (.cons .aa (.cons .aa (.cons .aa (.cons .aa (.cons .aa .nil)))))))))))) fun x78 => (bl_ga [.eq (.fz (enc (a0 : (List Int)))), .eq (.fz (enc (x8 : Int))), .eq .no, .eq (ow ((Prod.snd (Prod.fst x78)) : (List Int))), .eq (.fz (enc ((Prod.fst x68) : Int))), .eq (.fz (enc ((Prod.snd x68) : Int)))] (by kernel_rfl) (bl_next (bl_end (rl_nx (.cons .rfl (.cons .rfl (.cons .rfl (.cons .rfl (.cons .fz (.cons .fz .nil)))))))))))))) (fun v z u d hz h => by cases (Option.some.inj hz); exact ⟨h, u, d, rfl⟩) fun x67 s69 => (bl_last (bl_if (k := fun x101 => (Prod.fst x101)) (te_and (k := fun x90 => x90) (k2 := Prod.fst) (Γ2 := fun x100 => [.eq (.fz (enc (a0 : (List Int)))), .eq (.fz (enc (x8 : Int))), .eq .no, .eq (ow ((Prod.snd x100) : (List Int))), .pl, .pl]) (z := fun x90 => (false, s69)) ((ts_tst (pu2A Nv.op_eq (((pu_var 1 rfl)).rd).ra ((pu_c).rd).ra))).te' (fun x90 => (te_map (fun x99 => ((!(Prod.fst (Prod.fst x99))), (Prod.snd (Prod.fst x99)))) (te_not (k := fun x98 => (Prod.fst (Prod.fst x98))) (te_truB (k := fun x97 => (Prod.fst (Prod.fst x97))) (((ev_callG (ag_io (k := 3) rfl rfl (ag_cons (pu_c).ev fun x91 => (ag_cons (pu_c).ev fun x92 => ag_nil))) (fun x95 => V__law_right_v34 (s69 : (List Int)) ((Prod.fst x95) : Int) ((Prod.fst (Prod.snd x95)) : Int)))).er).es)) (h2 := fun _ => by kernel_rfl))) fun _ => ⟨rfl, by kernel_rfl⟩) (fun x101 => (bl_ga [.eq (.fz (enc (a0 : (List Int)))), .eq (.fz (enc (x8 : Int))), .eq .no, .eq (ow ((Prod.snd x101) : (List Int))), .pl, .pl] (by kernel_rfl) (bl_retS (bl_retV (pu_c).ev fun x102 => (rl_rt (rf_eq rfl (.cons .aa (.cons .aa (.cons .aa (.cons .aa (.cons .aa (.cons .aa .nil)))))))))))) fun x101 => (bl_ga [.eq (.fz (enc (a0 : (List Int)))), .eq (.fz (enc (x8 : Int))), .eq .no, .eq (ow ((Prod.snd x101) : (List Int))), .pl, .pl] (by kernel_rfl) (bl_next (bl_end (rl_nx (.cons .rfl (.cons .fz (.cons .rfl (.cons (.any rfl) (.cons .rfl (.cons .rfl .nil))))))))))))))))) (fun v z u d hz h => by cases (Option.some.inj hz); exact h) fun x7 s9 => (bl_asgV ((((pu_lst (dp_cons ((pu_call (ap_cons pu_c (ap_cons pu_c (ap_cons (((pu_lst (dp_cons (pu_c).tkP (dp_cons (pu_c).tkP (dp_cons (pu_c).tkP (dp_cons (pu_c).tkP (dp_cons (pu_c).tkP (dp_cons (pu_c).tkP dp_nil)))))) (fun x113 => ([(Prod.fst x113), (Prod.fst (Prod.snd x113)), (Prod.fst (Prod.snd (Prod.snd x113))), (Prod.fst (Prod.snd (Prod.snd (Prod.snd x113)))), (Prod.fst (Prod.snd (Prod.snd (Prod.snd (Prod.snd x113))))), (Prod.fst (Prod.snd (Prod.snd (Prod.snd (Prod.snd (Prod.snd x113))))))] : (List Int))))).tkTP ow_tree) (ap_cons (((pu_lst (dp_cons (pu_c).tkP (dp_cons (pu_c).tkP dp_nil)) (fun x123 => ([(Prod.fst x123), (Prod.fst (Prod.snd x123))] : (List Int))))).tkTP ow_tree) ap_nil)))) (fun x131 => V_made_of ((Prod.fst x131) : Int) ((Prod.fst (Prod.snd x131)) : Int) ((Prod.fst (Prod.snd (Prod.snd x131))) : (List Int)) ((Prod.fst (Prod.snd (Prod.snd (Prod.snd x131)))) : (List Int))))).tkP (dp_cons ((pu_call (ap_cons pu_c (ap_cons pu_c (ap_cons (((pu_lst (dp_cons (pu_c).tkP (dp_cons (pu_c).tkP (dp_cons (pu_c).tkP (dp_cons (pu_c).tkP (dp_cons (pu_c).tkP (dp_cons (pu_c).tkP dp_nil)))))) (fun x141 => ([(Prod.fst x141), (Prod.fst (Prod.snd x141)), (Prod.fst (Prod.snd (Prod.snd x141))), (Prod.fst (Prod.snd (Prod.snd (Prod.snd x141)))), (Prod.fst (Prod.snd (Prod.snd (Prod.snd (Prod.snd x141))))), (Prod.fst (Prod.snd (Prod.snd (Prod.snd (Prod.snd (Prod.snd x141))))))] : (List Int))))).tkTP ow_tree) ap_nil))) (fun x152 => V_stays_between ((Prod.fst x152) : Int) ((Prod.fst (Prod.snd x152)) : Int) ((Prod.fst (Prod.snd (Prod.snd x152))) : (List Int))))).tkP dp_nil)) (fun x154 => ([(enc ((Prod.fst x154) : Int)), (enc ((Prod.fst (Prod.snd x154)) : Bool))] : (List PyData))))).tkTP ow_tree)).ev fun x157 => (bl_ga [.eq (.fz (enc (a0 : (List Int)))), .pl, .eq (.fz (enc (x157 : (List PyData)))), .any, .pl, .pl] (by kernel_rfl) (bl_asgV ((((pu2 Nv.op_cat ((pu_var 2 rfl)).rd (Rd.anyL (((pu_lst (dp_cons ((pu_call (ap_cons pu_c (ap_cons pu_c (ap_cons (((pu_lst (dp_cons (pu_c).tkP (dp_cons (pu_c).tkP (dp_cons (pu_c).tkP (dp_cons (pu_c).tkP (dp_cons (pu_c).tkP (dp_cons (pu_c).tkP dp_nil)))))) (fun x166 => ([(Prod.fst x166), (Prod.fst (Prod.snd x166)), (Prod.fst (Prod.snd (Prod.snd x166))), (Prod.fst (Prod.snd (Prod.snd (Prod.snd x166)))), (Prod.fst (Prod.snd (Prod.snd (Prod.snd (Prod.snd x166))))), (Prod.fst (Prod.snd (Prod.snd (Prod.snd (Prod.snd (Prod.snd x166))))))] : (List Int))))).tkTP ow_tree) ap_nil))) (fun x177 => V_is_even ((Prod.fst x177) : Int) ((Prod.fst (Prod.snd x177)) : Int) ((Prod.fst (Prod.snd (Prod.snd x177))) : (List Int))))).tkP (dp_cons ((pu_call (ap_cons pu_c (ap_cons pu_c (ap_cons (((pu_lst (dp_cons (pu_c).tkP (dp_cons (pu_c).tkP (dp_cons (pu_c).tkP (dp_cons (pu_c).tkP (dp_cons (pu_c).tkP (dp_cons (pu_c).tkP dp_nil)))))) (fun x187 => ([(Prod.fst x187), (Prod.fst (Prod.snd x187)), (Prod.fst (Prod.snd (Prod.snd x187))), (Prod.fst (Prod.snd (Prod.snd (Prod.snd x187)))), (Prod.fst (Prod.snd (Prod.snd (Prod.snd (Prod.snd x187))))), (Prod.fst (Prod.snd (Prod.snd (Prod.snd (Prod.snd (Prod.snd x187))))))] : (List Int))))).tkTP ow_tree) ap_nil))) (fun x198 => V_is_even ((Prod.fst x198) : Int) ((Prod.fst (Prod.snd x198)) : Int) ((Prod.fst (Prod.snd (Prod.snd x198))) : (List Int))))).tkP (dp_cons ((pu_call (ap_cons pu_c (ap_cons pu_c (ap_cons (((pu_lst (dp_cons (pu_c).tkP dp_nil) (fun x203 => ([(Prod.fst x203)] : (List Int))))).tkTP ow_tree) ap_nil))) (fun x209 => V_is_even ((Prod.fst x209) : Int) ((Prod.fst (Prod.snd x209)) : Int) ((Prod.fst (Prod.snd (Prod.snd x209))) : (List Int))))).tkP dp_nil))) (fun x211 => ([(Prod.fst x211), (Prod.fst (Prod.snd x211)), (Prod.fst (Prod.snd (Prod.snd x211)))] : (List Bool))))).rdT ow_tree)))).tkTP ow_tree)).ev fun x218 => (bl_ga [.eq (.fz (enc (a0 : (List Int)))), .pl, .eq (.fz (enc (x218 : (List PyData)))), .any, .pl, .pl] (by kernel_rfl) (bl_retV ((pu_andV (pu2A Nv.op_eqA (((Pu.any (pu_var 2 rfl))).rd).ra ((Rd.any (((pu_lst (dp_cons (pu_c).tkP (dp_cons (pu_c).tkP (dp_cons (pu_c).tkP (dp_cons (pu_c).tkP (dp_cons (pu_c).tkP dp_nil))))) (fun x224 => ([(enc ((Prod.fst x224) : Int)), (enc ((Prod.fst (Prod.snd x224)) : Bool)), (enc ((Prod.fst (Prod.snd (Prod.snd x224))) : Bool)), (enc ((Prod.fst (Prod.snd (Prod.snd (Prod.snd x224)))) : Bool)), (enc ((Prod.fst (Prod.snd (Prod.snd (Prod.snd (Prod.snd x224))))) : Bool))] : (List PyData))))).rdT ow_tree))).ra) (pu2A Nv.op_isB (((pu_call (ap_cons pu_c (ap_cons pu_c (ap_cons (((pu_lst (dp_cons (pu_c).tkP (dp_cons (pu_c).tkP (dp_cons (pu_c).tkP (dp_cons (pu_c).tkP (dp_cons (pu_c).tkP (dp_cons (pu_c).tkP dp_nil)))))) (fun x242 => ([(Prod.fst x242), (Prod.fst (Prod.snd x242)), (Prod.fst (Prod.snd (Prod.snd x242))), (Prod.fst (Prod.snd (Prod.snd (Prod.snd x242)))), (Prod.fst (Prod.snd (Prod.snd (Prod.snd (Prod.snd x242))))), (Prod.fst (Prod.snd (Prod.snd (Prod.snd (Prod.snd (Prod.snd x242))))))] : (List Int))))).tkTP ow_tree) ap_nil))) (fun x253 => V_is_even ((Prod.fst x253) : Int) ((Prod.fst (Prod.snd x253)) : Int) ((Prod.fst (Prod.snd (Prod.snd x253))) : (List Int))))).rd).ra ((pu_c).rd).ra))).ev fun x257 => (rf_eq rfl (.cons .aa (.cons .aa (.cons .aa (.cons .aa (.cons .aa (.cons .aa .nil)))))))))))))))
end P
namespace K37
open PySem PySem.Spec PyProof.Rows L2 Hb P
def topS (i : Nat) : Stmt := PySem.Challenge.pw_hillballots_k37_places_made.main.body.getD i (.Pass ⟨0, 0, 0, 0⟩)
def d__law_well : He.DefD := ⟨("_law_well", none), "_law_well", "_law_well", defArgs (topS 22), defBody (topS 22), defScope (topS 22), [], []⟩
def d_is_integer : He.DefD := ⟨("is_integer", none), "is_integer", "is_integer", defArgs (topS 8), defBody (topS 8), defScope (topS 8), [.non], []⟩
def d_need_count : He.DefD := ⟨("need_count", none), "need_count", "need_count", defArgs (topS 9), defBody (topS 9), defScope (topS 9), [.int 12], []⟩
def d_need_people : He.DefD := ⟨("need_people", none), "need_people", "need_people", defArgs (topS 13), defBody (topS 13), defScope (topS 13), [], []⟩
def d_are_places : He.DefD := ⟨("are_places", none), "are_places", "are_places", defArgs (topS 15), defBody (topS 15), defScope (topS 15), [], []⟩
def d_all_tellings : He.DefD := ⟨("all_tellings", none), "all_tellings", "all_tellings", defArgs (topS 14), defBody (topS 14), defScope (topS 14), [], []⟩
def d_need_table : He.DefD := ⟨("need_table", none), "need_table", "need_table", defArgs (topS 16), defBody (topS 16), defScope (topS 16), [], []⟩
def d_rule_of : He.DefD := ⟨("rule_of", none), "rule_of", "rule_of", defArgs (topS 17), defBody (topS 17), defScope (topS 17), [], []⟩
def d_made_of : He.DefD := ⟨("made_of", none), "made_of", "made_of", defArgs (topS 18), defBody (topS 18), defScope (topS 18), [], []⟩
def d_stays_between : He.DefD := ⟨("stays_between", none), "stays_between", "stays_between", defArgs (topS 19), defBody (topS 19), defScope (topS 19), [], []⟩
def d_is_even : He.DefD := ⟨("is_even", none), "is_even", "is_even", defArgs (topS 20), defBody (topS 20), defScope (topS 20), [], []⟩
def d__law_tellings : He.DefD := ⟨("_law_tellings", none), "_law_tellings", "_law_tellings", defArgs (topS 25), defBody (topS 25), defScope (topS 25), [], []⟩
def d__law_pick : He.DefD := ⟨("_law_pick", none), "_law_pick", "_law_pick", defArgs (topS 23), defBody (topS 23), defScope (topS 23), [], []⟩
def d__law_some_fixed : He.DefD := ⟨("_law_some_fixed", none), "_law_some_fixed", "_law_some_fixed", defArgs (topS 31), defBody (topS 31), defScope (topS 31), [], []⟩
def d__law_table : He.DefD := ⟨("_law_table", none), "_law_table", "_law_table", defArgs (topS 26), defBody (topS 26), defScope (topS 26), [], []⟩
def d__law_mirrored : He.DefD := ⟨("_law_mirrored", none), "_law_mirrored", "_law_mirrored", defArgs (topS 32), defBody (topS 32), defScope (topS 32), [], []⟩
def d__law_even_table : He.DefD := ⟨("_law_even_table", none), "_law_even_table", "_law_even_table", defArgs (topS 34), defBody (topS 34), defScope (topS 34), [], []⟩
def d__law_mixed : He.DefD := ⟨("_law_mixed", none), "_law_mixed", "_law_mixed", defArgs (topS 24), defBody (topS 24), defScope (topS 24), [], []⟩
def d__law_told : He.DefD := ⟨("_law_told", none), "_law_told", "_law_told", defArgs (topS 33), defBody (topS 33), defScope (topS 33), [], []⟩
def d__law_right : He.DefD := ⟨("_law_right", none), "_law_right", "_law_right", defArgs (topS 35), defBody (topS 35), defScope (topS 35), [], []⟩
def d_law : He.DefD := ⟨("law", none), "law", "law", defArgs (topS 36), defBody (topS 36), defScope (topS 36), [], []⟩
def fn : List He.DefD := [d__law_well, d_is_integer, d_need_count, d_need_people, d_are_places, d_all_tellings, d_need_table, d_rule_of, d_made_of, d_stays_between, d_is_even, d__law_tellings, d__law_pick, d__law_some_fixed, d__law_table, d__law_mirrored, d__law_even_table, d__law_mixed, d__law_told, d__law_right, d_law]
def fa : List He.Fa := [.glo "_law_well", .glo "is_integer", .glo "need_count", .glo "need_people", .glo "are_places", .glo "all_tellings", .glo "need_table", .glo "rule_of", .glo "made_of", .glo "stays_between", .glo "is_even", .glo "_law_tellings", .glo "_law_pick", .glo "_law_some_fixed", .glo "_law_table", .glo "_law_mirrored", .glo "_law_even_table", .glo "_law_mixed", .glo "_law_told", .glo "_law_right", .glo "law", .int "MOST_PEOPLE" 5, .int "MOST_RULED" 6, .free "abs", .free "all", .free "bool", .free "dict", .free "int", .free "isinstance", .free "len", .free "list", .free "max", .free "min", .free "range", .free "repr", .free "sorted", .free "tuple", .free "zip", .glo "InvalidCount", .glo "InvalidPeople", .glo "InvalidTable", .glo "InvalidTelling", .exc "InvalidCount", .exc "InvalidPeople", .exc "InvalidTable", .exc "InvalidTelling"]
structure Ctx (K : PySem.W.Frag) (mg : Str → Option Value) : Prop where
  c : He.SaysD fa fn K
  ex : ∃ h : Heap, K.In h ∧ h.Ns mainGlobals mg
variable {Pg : Program} {w : World} {K : PySem.W.Frag} {mg : Str → Option Value} {base : Heap}
theorem m_MOST_PEOPLE (Y : Ctx K mg) : ∃ t, mg "MOST_PEOPLE" = some (.int 5 t) := let ⟨_, X, G⟩ := Y.ex; He.int_ok X G (Y.c.fact 21)
theorem m_MOST_RULED (Y : Ctx K mg) : ∃ t, mg "MOST_RULED" = some (.int 6 t) := let ⟨_, X, G⟩ := Y.ex; He.int_ok X G (Y.c.fact 22)
theorem m_abs (Y : Ctx K mg) : mg "abs" = none := let ⟨_, X, G⟩ := Y.ex; He.free_ok X G (Y.c.fact 23)
theorem m_all (Y : Ctx K mg) : mg "all" = none := let ⟨_, X, G⟩ := Y.ex; He.free_ok X G (Y.c.fact 24)
theorem m_bool (Y : Ctx K mg) : mg "bool" = none := let ⟨_, X, G⟩ := Y.ex; He.free_ok X G (Y.c.fact 25)
theorem m_dict (Y : Ctx K mg) : mg "dict" = none := let ⟨_, X, G⟩ := Y.ex; He.free_ok X G (Y.c.fact 26)
theorem m_int (Y : Ctx K mg) : mg "int" = none := let ⟨_, X, G⟩ := Y.ex; He.free_ok X G (Y.c.fact 27)
theorem m_isinstance (Y : Ctx K mg) : mg "isinstance" = none := let ⟨_, X, G⟩ := Y.ex; He.free_ok X G (Y.c.fact 28)
theorem m_len (Y : Ctx K mg) : mg "len" = none := let ⟨_, X, G⟩ := Y.ex; He.free_ok X G (Y.c.fact 29)
theorem m_list (Y : Ctx K mg) : mg "list" = none := let ⟨_, X, G⟩ := Y.ex; He.free_ok X G (Y.c.fact 30)
theorem m_max (Y : Ctx K mg) : mg "max" = none := let ⟨_, X, G⟩ := Y.ex; He.free_ok X G (Y.c.fact 31)
theorem m_min (Y : Ctx K mg) : mg "min" = none := let ⟨_, X, G⟩ := Y.ex; He.free_ok X G (Y.c.fact 32)
theorem m_range (Y : Ctx K mg) : mg "range" = none := let ⟨_, X, G⟩ := Y.ex; He.free_ok X G (Y.c.fact 33)
theorem m_repr (Y : Ctx K mg) : mg "repr" = none := let ⟨_, X, G⟩ := Y.ex; He.free_ok X G (Y.c.fact 34)
theorem m_sorted (Y : Ctx K mg) : mg "sorted" = none := let ⟨_, X, G⟩ := Y.ex; He.free_ok X G (Y.c.fact 35)
theorem m_tuple (Y : Ctx K mg) : mg "tuple" = none := let ⟨_, X, G⟩ := Y.ex; He.free_ok X G (Y.c.fact 36)
theorem m_zip (Y : Ctx K mg) : mg "zip" = none := let ⟨_, X, G⟩ := Y.ex; He.free_ok X G (Y.c.fact 37)
theorem g_InvalidCount (Y : Ctx K mg) : mg "InvalidCount" = some (.ref (He.ga K "InvalidCount")) := let ⟨_, X, G⟩ := Y.ex; He.glo_ok X G (Y.c.fact 38)
theorem g_InvalidPeople (Y : Ctx K mg) : mg "InvalidPeople" = some (.ref (He.ga K "InvalidPeople")) := let ⟨_, X, G⟩ := Y.ex; He.glo_ok X G (Y.c.fact 39)
theorem g_InvalidTable (Y : Ctx K mg) : mg "InvalidTable" = some (.ref (He.ga K "InvalidTable")) := let ⟨_, X, G⟩ := Y.ex; He.glo_ok X G (Y.c.fact 40)
theorem g_InvalidTelling (Y : Ctx K mg) : mg "InvalidTelling" = some (.ref (He.ga K "InvalidTelling")) := let ⟨_, X, G⟩ := Y.ex; He.glo_ok X G (Y.c.fact 41)
theorem e_InvalidCount (Y : Ctx K mg) : ExcC K mg "InvalidCount" (He.ga K "InvalidCount") := let ⟨_, X, G⟩ := Y.ex; excC_of X G (g_InvalidCount Y) (Y.c.fact 42)
theorem e_InvalidPeople (Y : Ctx K mg) : ExcC K mg "InvalidPeople" (He.ga K "InvalidPeople") := let ⟨_, X, G⟩ := Y.ex; excC_of X G (g_InvalidPeople Y) (Y.c.fact 43)
theorem e_InvalidTable (Y : Ctx K mg) : ExcC K mg "InvalidTable" (He.ga K "InvalidTable") := let ⟨_, X, G⟩ := Y.ex; excC_of X G (g_InvalidTable Y) (Y.c.fact 44)
theorem e_InvalidTelling (Y : Ctx K mg) : ExcC K mg "InvalidTelling" (He.ga K "InvalidTelling") := let ⟨_, X, G⟩ := Y.ex; excC_of X G (g_InvalidTelling Y) (Y.c.fact 45)
def N__law_well : List Str := ["_law_script", "_law_k", "_law_cell"]
theorem W__law_well (Y : Ctx K mg) {f : Addr} (cdv : Value) (A : Around) (outer : List Env) (s : Shared) (H : Hp) (E : XK) (hr : Room 0 (A.deeper (envOfC "_law_well" (defScope (topS 22)) s.heap.objs.size f cdv))) (hgd : A.guards = some []) :
    SSs (GX Pg w K mg base N__law_well "_law_well" (defScope (topS 22)) f cdv A outer s H E) (GW E) [] (defBody (topS 22)) B__law_well := by
  have h64 : (A.deeper (envOfC "_law_well" (defScope (topS 22)) s.heap.objs.size f cdv)).units + 64 < cLine := hr.units
  have h65 : (A.deeper (envOfC "_law_well" (defScope (topS 22)) s.heap.objs.size f cdv)).units + 65 < cLine := by have := hr.un; omega
  have h1 := unl1 h64
  have h0 := unl0 h64
  have nd : N__law_well.Nodup := by decide
  exact (ss_cons (ss_set 2 nd rfl (by first | exact Or.inl rfl | exact Or.inr rfl) (by decide) (se_tk (se_if (st_lt (se_var 1) (se_b1 call_lenU c1_len rfl (m_len Y) (by decide +kernel) (se_var 0))) (se_ix2 h64 (se_var 0) (se_var 1)) se_int)))
    (ss_one (ss_ret (se_lst (sa_cons (se_b2 (call_max2 rfl) c2_i rfl (m_max Y) (by decide +kernel) se_int (se_sub (se_var 2) (se_powW se_int se_int))) (sa_cons (se_add (se_add (se_mod (se_t1 call_int1 c1_int rfl (m_int Y) (by decide +kernel) (se_b1 call_abs c1_abs rfl (m_abs Y) (by decide +kernel) (se_var 2))) (se_add (se_powW se_int se_int) se_int)) (se_mul se_int (se_var 1))) se_int) (sa_cons se_int sa_nil)))))))
theorem S__law_well : FnScope N__law_well ["_law_script", "_law_k"] (defScope (topS 22)) := ⟨rfl, rfl, rfl, by decide, rfl, by decide +kernel, by decide +kernel⟩
theorem D__law_well_2 (Y : Ctx K mg) : Dfn Pg w K mg base 1 "_law_well" 2 F__law_well 2 [] := by
  obtain ⟨_, X, G⟩ := Y.ex
  obtain ⟨fd, FD⟩ := Y.c.def_ 0 (d := d__law_well)
  have hb : Binds K fd ["_law_script", "_law_k"] [] := FD.bindsN fun _ _ _ _ _ _ us h => by
    match us, h with
    | [a0, a1], _ => rfl
  exact ⟨⟨_, fd, ["_law_script", "_law_k"], [], He.glo_ok X G (Y.c.fact 0), FD.kp, fnG_D FD S__law_well rfl fun cdv  A outer s H E hr hgd => W__law_well Y  cdv  A outer s H E hr hgd, hb, .nil, rfl, rfl⟩⟩
def N_is_integer : List Str := ["value", "low", "high"]
theorem W_is_integer (Y : Ctx K mg) {f : Addr} (cdv : Value) (A : Around) (outer : List Env) (s : Shared) (H : Hp) (E : XK) (hr : Room 0 (A.deeper (envOfC "is_integer" (defScope (topS 8)) s.heap.objs.size f cdv))) (hgd : A.guards = some []) :
    SSs (GX Pg w K mg base N_is_integer "is_integer" (defScope (topS 8)) f cdv A outer s H E) (GW E) [] (defBody (topS 8)) B_is_integer := by
  have h64 : (A.deeper (envOfC "is_integer" (defScope (topS 8)) s.heap.objs.size f cdv)).units + 64 < cLine := hr.units
  have h65 : (A.deeper (envOfC "is_integer" (defScope (topS 8)) s.heap.objs.size f cdv)).units + 65 < cLine := by have := hr.un; omega
  have h1 := unl1 h64
  have h0 := unl0 h64
  have nd : N_is_integer.Nodup := by decide
  exact (ss_cons (ss_if (st_w (sw_or (st_not (st_tru (se_isi (T := "int") (by decide +kernel) rfl (m_isinstance Y) rfl (m_int Y) (by decide +kernel) (se_var 0)))) (sw_or1 (st_tru (se_isi (T := "bool") (by decide +kernel) rfl (m_isinstance Y) rfl (m_bool Y) (by decide +kernel) (se_var 0)))))) (ss_one (ss_ret se_bl)) ss_nil)
    (ss_one (ss_ret (se_and (se_le (se_var 1) (se_var 0)) (se_oneA (se_or (se_is (se_var 2) se_non) (se_oneO (se_le (se_var 0) (se_var 2)))))))))
theorem S_is_integer : FnScope N_is_integer ["value", "low", "high"] (defScope (topS 8)) := ⟨rfl, rfl, rfl, by decide, rfl, by decide +kernel, by decide +kernel⟩
theorem D_is_integer_3 (Y : Ctx K mg) : Dfn Pg w K mg base 1 "is_integer" 3 F_is_integer 3 [] := by
  obtain ⟨_, X, G⟩ := Y.ex
  obtain ⟨fd, FD⟩ := Y.c.def_ 1 (d := d_is_integer)
  have hb := FD.binds1 (ps := ["value", "low", "high"]) 3 1 (fun z => nomatch z) rfl fun T kV doc pm an cdv ct us its h1 h2 => by
    match us, h1, its, h2 with
    | [a0, a1, a2], _, [b0], _ => exact ⟨_, rfl, rfl⟩
  obtain ⟨ds, r, hb⟩ := hb
  exact ⟨⟨_, fd, ["value", "low", "high"], ds, He.glo_ok X G (Y.c.fact 1), FD.kp, fnG_D FD S_is_integer rfl fun cdv A outer s H E hr hgd => W_is_integer Y cdv A outer s H E hr hgd, hb, r, rfl, rfl⟩⟩
def N_need_count : List Str := ["count", "most"]
theorem W_need_count (Y : Ctx K mg) {f : Addr} (cdv : Value) (A : Around) (outer : List Env) (s : Shared) (H : Hp) (E : XK) (hr : Room 1 (A.deeper (envOfC "need_count" (defScope (topS 9)) s.heap.objs.size f cdv))) (hgd : A.guards = some []) :
    SSs (GX Pg w K mg base N_need_count "need_count" (defScope (topS 9)) f cdv A outer s H E) (GW E) [] (defBody (topS 9)) B_need_count := by
  have h64 : (A.deeper (envOfC "need_count" (defScope (topS 9)) s.heap.objs.size f cdv)).units + 64 < cLine := hr.units
  have h65 : (A.deeper (envOfC "need_count" (defScope (topS 9)) s.heap.objs.size f cdv)).units + 65 < cLine := by have := hr.un; omega
  have h1 := unl1 h64
  have h0 := unl0 h64
  have nd : N_need_count.Nodup := by decide
  exact (ss_one (ss_if (st_not (st_tru (se_callD ((D_is_integer_3 Y).mono (by decide)) hr hgd gx_pass rfl (sr_cons (se_tk (se_var 0)) (sr_cons se_int (sr_cons (se_tk (se_var 1)) sr_nil))) (len_rCons (len_rCons (len_rCons len_rNil)))))) (ss_one (ss_raise rfl gx_takes (e_InvalidCount Y) rfl)) ss_nil))
theorem S_need_count : FnScope N_need_count ["count", "most"] (defScope (topS 9)) := ⟨rfl, rfl, rfl, by decide, rfl, by decide +kernel, by decide +kernel⟩
theorem D_need_count_2 (Y : Ctx K mg) : Dfn Pg w K mg base 2 "need_count" 2 F_need_count 2 [] := by
  obtain ⟨_, X, G⟩ := Y.ex
  obtain ⟨fd, FD⟩ := Y.c.def_ 2 (d := d_need_count)
  have hb := FD.binds1 (ps := ["count", "most"]) 2 1 (fun z => nomatch z) rfl fun T kV doc pm an cdv ct us its h1 h2 => by
    match us, h1, its, h2 with
    | [a0, a1], _, [b0], _ => exact ⟨_, rfl, rfl⟩
  obtain ⟨ds, r, hb⟩ := hb
  exact ⟨⟨_, fd, ["count", "most"], ds, He.glo_ok X G (Y.c.fact 2), FD.kp, fnG_D FD S_need_count rfl fun cdv A outer s H E hr hgd => W_need_count Y cdv A outer s H E hr hgd, hb, r, rfl, rfl⟩⟩
def N_need_people : List Str := ["count", "people"]
theorem W_need_people (Y : Ctx K mg) {f : Addr} (cdv : Value) (A : Around) (outer : List Env) (s : Shared) (H : Hp) (E : XK) (hr : Room 2 (A.deeper (envOfC "need_people" (defScope (topS 13)) s.heap.objs.size f cdv))) (hgd : A.guards = some []) :
    SSs (GX Pg w K mg base N_need_people "need_people" (defScope (topS 13)) f cdv A outer s H E) (GW E) [] (defBody (topS 13)) B_need_people := by
  have h64 : (A.deeper (envOfC "need_people" (defScope (topS 13)) s.heap.objs.size f cdv)).units + 64 < cLine := hr.units
  have h65 : (A.deeper (envOfC "need_people" (defScope (topS 13)) s.heap.objs.size f cdv)).units + 65 < cLine := by have := hr.un; omega
  have h1 := unl1 h64
  have h0 := unl0 h64
  have nd : N_need_people.Nodup := by decide
  exact (ss_cons (ss_expr (se_callD ((D_need_count_2 Y).mono (by decide)) hr hgd gx_pass rfl (sr_cons (se_tk (se_var 0)) (sr_cons (se_tk (se_globI rfl (m_MOST_RULED Y))) sr_nil)) (len_rCons (len_rCons len_rNil))))
    (ss_one (ss_if (st_not (st_tru (se_callD ((D_is_integer_3 Y).mono (by decide)) hr hgd gx_pass rfl (sr_cons (se_tk (se_var 1)) (sr_cons se_int (sr_cons (se_tk (se_globI rfl (m_MOST_PEOPLE Y))) sr_nil))) (len_rCons (len_rCons (len_rCons len_rNil)))))) (ss_one (ss_raise rfl gx_takes (e_InvalidPeople Y) rfl)) ss_nil)))
theorem S_need_people : FnScope N_need_people ["count", "people"] (defScope (topS 13)) := ⟨rfl, rfl, rfl, by decide, rfl, by decide +kernel, by decide +kernel⟩
theorem D_need_people_2 (Y : Ctx K mg) : Dfn Pg w K mg base 3 "need_people" 2 F_need_people 2 [] := by
  obtain ⟨_, X, G⟩ := Y.ex
  obtain ⟨fd, FD⟩ := Y.c.def_ 3 (d := d_need_people)
  have hb : Binds K fd ["count", "people"] [] := FD.bindsN fun _ _ _ _ _ _ us h => by
    match us, h with
    | [a0, a1], _ => rfl
  exact ⟨⟨_, fd, ["count", "people"], [], He.glo_ok X G (Y.c.fact 3), FD.kp, fnG_D FD S_need_people rfl fun cdv  A outer s H E hr hgd => W_need_people Y  cdv  A outer s H E hr hgd, hb, .nil, rfl, rfl⟩⟩
def N_are_places : List Str := ["count", "value", "size", "item"]
theorem W_are_places (Y : Ctx K mg) {f : Addr} (cdv : Value) (A : Around) (outer : List Env) (s : Shared) (H : Hp) (E : XK) (hr : Room 1 (A.deeper (envOfC "are_places" (defScope (topS 15)) s.heap.objs.size f cdv))) (hgd : A.guards = some []) :
    SSs (GX Pg w K mg base N_are_places "are_places" (defScope (topS 15)) f cdv A outer s H E) (GW E) [] (defBody (topS 15)) B_are_places := by
  have h64 : (A.deeper (envOfC "are_places" (defScope (topS 15)) s.heap.objs.size f cdv)).units + 64 < cLine := hr.units
  have h65 : (A.deeper (envOfC "are_places" (defScope (topS 15)) s.heap.objs.size f cdv)).units + 65 < cLine := by have := hr.un; omega
  have h1 := unl1 h64
  have h0 := unl0 h64
  have nd : N_are_places.Nodup := by decide
  exact (ss_one (ss_ret (se_and (se_isi (T := "list") (by decide +kernel) rfl (m_isinstance Y) rfl (m_list Y) (by decide +kernel) (se_var 1)) (se_and (se_eq h64 (se_b1 call_lenU c1_len rfl (m_len Y) (by decide +kernel) (se_var 1)) (se_var 2)) (se_oneA (se_b1 (cr_all rfl) c1_all rfl (m_all Y) (by decide +kernel) (se_lc false rfl nd (si_seq (se_var 1)) (own := [("item", 3)]) (by kernel_rfl) (by decide) (by decide) (fun _ _ _ _ _ => (sg_name 3 nd rfl (by first | exact Or.inl rfl | exact Or.inr rfl) (by decide))) (fun _ _ _ _ _ => sts_nil) (fun _ _ _ _ _ => (se_tk (se_callD ((D_is_integer_3 Y).mono (by decide)) hr hgd w0_pass rfl (sr_cons (se_tk (se_var 3)) (sr_cons se_int (sr_cons (se_tk (se_sub (se_var 0) se_int)) sr_nil))) (len_rCons (len_rCons (len_rCons len_rNil)))))))))))))
theorem S_are_places : FnScope N_are_places ["count", "value", "size"] (defScope (topS 15)) := ⟨rfl, rfl, rfl, by decide, rfl, by decide +kernel, by decide +kernel⟩
theorem D_are_places_3 (Y : Ctx K mg) : Dfn Pg w K mg base 2 "are_places" 3 F_are_places 3 [] := by
  obtain ⟨_, X, G⟩ := Y.ex
  obtain ⟨fd, FD⟩ := Y.c.def_ 4 (d := d_are_places)
  have hb : Binds K fd ["count", "value", "size"] [] := FD.bindsN fun _ _ _ _ _ _ us h => by
    match us, h with
    | [a0, a1, a2], _ => rfl
  exact ⟨⟨_, fd, ["count", "value", "size"], [], He.glo_ok X G (Y.c.fact 4), FD.kp, fnG_D FD S_are_places rfl fun cdv  A outer s H E hr hgd => W_are_places Y  cdv  A outer s H E hr hgd, hb, .nil, rfl, rfl⟩⟩
def N_all_tellings : List Str := ["count", "people", "found", "turn", "longer", "telling", "place"]
theorem W_all_tellings (Y : Ctx K mg) {f : Addr} (cdv : Value) (A : Around) (outer : List Env) (s : Shared) (H : Hp) (E : XK) (hr : Room 0 (A.deeper (envOfC "all_tellings" (defScope (topS 14)) s.heap.objs.size f cdv))) (hgd : A.guards = some []) :
    SSs (GX Pg w K mg base N_all_tellings "all_tellings" (defScope (topS 14)) f cdv A outer s H E) (GW E) [] (defBody (topS 14)) B_all_tellings := by
  have h64 : (A.deeper (envOfC "all_tellings" (defScope (topS 14)) s.heap.objs.size f cdv)).units + 64 < cLine := hr.units
  have h65 : (A.deeper (envOfC "all_tellings" (defScope (topS 14)) s.heap.objs.size f cdv)).units + 65 < cLine := by have := hr.un; omega
  have h1 := unl1 h64
  have h0 := unl0 h64
  have nd : N_all_tellings.Nodup := by decide
  exact (ss_cons (ss_set 2 nd rfl (by first | exact Or.inl rfl | exact Or.inr rfl) (by decide) (se_lst (sa_cons (se_tup sa_nil) sa_nil)))
    (ss_cons (ss_for (passes_of rfl) rfl (si_rng1 rfl (m_range Y) (se_var 1)) (sg_name 3 nd rfl (by first | exact Or.inl rfl | exact Or.inr rfl) (by decide)) (ss_cons (ss_set 4 nd rfl (by first | exact Or.inl rfl | exact Or.inr rfl) (by decide) (se_lst sa_nil))
    (ss_cons (ss_for (passes_of rfl) rfl (si_seq (se_var 2)) (sg_name 5 nd rfl (by first | exact Or.inl rfl | exact Or.inr rfl) (by decide)) (ss_one (ss_expr (se_ext (se_var 4) (se_lc false rfl nd (si_rng2 rfl (m_range Y) (se_if (st_ne h64 (se_var 5) (se_tup sa_nil)) (se_ix2 h64 (se_var 5) (se_neg se_int)) se_int) (se_var 0)) (own := [("place", 6)]) (by kernel_rfl) (by decide) (by decide) (fun _ _ _ _ _ => (sg_name 6 nd rfl (by first | exact Or.inl rfl | exact Or.inr rfl) (by decide))) (fun _ _ _ _ _ => sts_nil) (fun _ _ _ _ _ => (se_tk (se_tup (sa_star (se_var 5) (sa_cons (se_var 6) sa_nil))))))))))
    (ss_one (ss_set 2 nd rfl (by first | exact Or.inl rfl | exact Or.inr rfl) (by decide) (se_mv (se_var 4)))))))
    (ss_one (ss_ret (se_var 2)))))
theorem S_all_tellings : FnScope N_all_tellings ["count", "people"] (defScope (topS 14)) := ⟨rfl, rfl, rfl, by decide, rfl, by decide +kernel, by decide +kernel⟩
theorem D_all_tellings_2 (Y : Ctx K mg) : Dfn Pg w K mg base 1 "all_tellings" 2 F_all_tellings 2 [] := by
  obtain ⟨_, X, G⟩ := Y.ex
  obtain ⟨fd, FD⟩ := Y.c.def_ 5 (d := d_all_tellings)
  have hb : Binds K fd ["count", "people"] [] := FD.bindsN fun _ _ _ _ _ _ us h => by
    match us, h with
    | [a0, a1], _ => rfl
  exact ⟨⟨_, fd, ["count", "people"], [], He.glo_ok X G (Y.c.fact 5), FD.kp, fnG_D FD S_all_tellings rfl fun cdv  A outer s H E hr hgd => W_all_tellings Y  cdv  A outer s H E hr hgd, hb, .nil, rfl, rfl⟩⟩
def N_need_table : List Str := ["count", "people", "table"]
theorem W_need_table (Y : Ctx K mg) {f : Addr} (cdv : Value) (A : Around) (outer : List Env) (s : Shared) (H : Hp) (E : XK) (hr : Room 2 (A.deeper (envOfC "need_table" (defScope (topS 16)) s.heap.objs.size f cdv))) (hgd : A.guards = some []) :
    SSs (GX Pg w K mg base N_need_table "need_table" (defScope (topS 16)) f cdv A outer s H E) (GW E) [] (defBody (topS 16)) B_need_table := by
  have h64 : (A.deeper (envOfC "need_table" (defScope (topS 16)) s.heap.objs.size f cdv)).units + 64 < cLine := hr.units
  have h65 : (A.deeper (envOfC "need_table" (defScope (topS 16)) s.heap.objs.size f cdv)).units + 65 < cLine := by have := hr.un; omega
  have h1 := unl1 h64
  have h0 := unl0 h64
  have nd : N_need_table.Nodup := by decide
  exact (ss_one (ss_if (st_not (st_tru (se_callD ((D_are_places_3 Y).mono (by decide)) hr hgd gx_pass rfl (sr_cons (se_tk (se_var 0)) (sr_cons (se_tk (se_var 2)) (sr_cons (se_tk (se_b1 call_lenU c1_len rfl (m_len Y) (by decide +kernel) (se_callD ((D_all_tellings_2 Y).mono (by decide)) hr hgd gx_pass rfl (sr_cons (se_tk (se_var 0)) (sr_cons (se_tk (se_var 1)) sr_nil)) (len_rCons (len_rCons len_rNil))))) sr_nil))) (len_rCons (len_rCons (len_rCons len_rNil)))))) (ss_one (ss_raise rfl gx_takes (e_InvalidTable Y) rfl)) ss_nil))
theorem S_need_table : FnScope N_need_table ["count", "people", "table"] (defScope (topS 16)) := ⟨rfl, rfl, rfl, by decide, rfl, by decide +kernel, by decide +kernel⟩
theorem D_need_table_3 (Y : Ctx K mg) : Dfn Pg w K mg base 3 "need_table" 3 F_need_table 3 [] := by
  obtain ⟨_, X, G⟩ := Y.ex
  obtain ⟨fd, FD⟩ := Y.c.def_ 6 (d := d_need_table)
  have hb : Binds K fd ["count", "people", "table"] [] := FD.bindsN fun _ _ _ _ _ _ us h => by
    match us, h with
    | [a0, a1, a2], _ => rfl
  exact ⟨⟨_, fd, ["count", "people", "table"], [], He.glo_ok X G (Y.c.fact 6), FD.kp, fnG_D FD S_need_table rfl fun cdv  A outer s H E hr hgd => W_need_table Y  cdv  A outer s H E hr hgd, hb, .nil, rfl, rfl⟩⟩
def N_rule_of : List Str := ["count", "people", "table", "telling", "place"]
theorem W_rule_of (Y : Ctx K mg) {f : Addr} (cdv : Value) (A : Around) (outer : List Env) (s : Shared) (H : Hp) (E : XK) (hr : Room 1 (A.deeper (envOfC "rule_of" (defScope (topS 17)) s.heap.objs.size f cdv))) (hgd : A.guards = some []) :
    SSs (GX Pg w K mg base N_rule_of "rule_of" (defScope (topS 17)) f cdv A outer s H E) (GW E) [] (defBody (topS 17)) B_rule_of := by
  have h64 : (A.deeper (envOfC "rule_of" (defScope (topS 17)) s.heap.objs.size f cdv)).units + 64 < cLine := hr.units
  have h65 : (A.deeper (envOfC "rule_of" (defScope (topS 17)) s.heap.objs.size f cdv)).units + 65 < cLine := by have := hr.un; omega
  have h1 := unl1 h64
  have h0 := unl0 h64
  have nd : N_rule_of.Nodup := by decide
  exact (ss_one (ss_ret (se_dcT h0 rfl nd (si_zip rfl (m_zip Y) (se_callD ((D_all_tellings_2 Y).mono (by decide)) hr hgd gx_pass rfl (sr_cons (se_tk (se_var 0)) (sr_cons (se_tk (se_var 1)) sr_nil)) (len_rCons (len_rCons len_rNil))) (se_var 2)) (own := [("telling", 3), ("place", 4)]) (by kernel_rfl) (by decide) (by decide) (fun _ _ _ _ _ => (sg_tup rfl (sgs_cons (sg_name 3 nd rfl (by first | exact Or.inl rfl | exact Or.inr rfl) (by decide)) (sgs_cons (sg_name 4 nd rfl (by first | exact Or.inl rfl | exact Or.inr rfl) (by decide)) sgs_nil)))) (fun _ _ _ _ _ => sts_nil) (fun _ _ _ _ _ => (se_tk (se_var 3))) (fun _ _ _ _ _ => (se_tk (se_var 4))))))
theorem S_rule_of : FnScope N_rule_of ["count", "people", "table"] (defScope (topS 17)) := ⟨rfl, rfl, rfl, by decide, rfl, by decide +kernel, by decide +kernel⟩
theorem D_rule_of_3 (Y : Ctx K mg) : Dfn Pg w K mg base 2 "rule_of" 3 F_rule_of 3 [] := by
  obtain ⟨_, X, G⟩ := Y.ex
  obtain ⟨fd, FD⟩ := Y.c.def_ 7 (d := d_rule_of)
  have hb : Binds K fd ["count", "people", "table"] [] := FD.bindsN fun _ _ _ _ _ _ us h => by
    match us, h with
    | [a0, a1, a2], _ => rfl
  exact ⟨⟨_, fd, ["count", "people", "table"], [], He.glo_ok X G (Y.c.fact 7), FD.kp, fnG_D FD S_rule_of rfl fun cdv  A outer s H E hr hgd => W_rule_of Y  cdv  A outer s H E hr hgd, hb, .nil, rfl, rfl⟩⟩
def N_made_of : List Str := ["count", "people", "table", "telling"]
theorem W_made_of (Y : Ctx K mg) {f : Addr} (cdv : Value) (A : Around) (outer : List Env) (s : Shared) (H : Hp) (E : XK) (hr : Room 3 (A.deeper (envOfC "made_of" (defScope (topS 18)) s.heap.objs.size f cdv))) (hgd : A.guards = some []) :
    SSs (GX Pg w K mg base N_made_of "made_of" (defScope (topS 18)) f cdv A outer s H E) (GW E) [] (defBody (topS 18)) B_made_of := by
  have h64 : (A.deeper (envOfC "made_of" (defScope (topS 18)) s.heap.objs.size f cdv)).units + 64 < cLine := hr.units
  have h65 : (A.deeper (envOfC "made_of" (defScope (topS 18)) s.heap.objs.size f cdv)).units + 65 < cLine := by have := hr.un; omega
  have h1 := unl1 h64
  have h0 := unl0 h64
  have nd : N_made_of.Nodup := by decide
  exact (ss_cons (ss_expr (se_callD ((D_need_people_2 Y).mono (by decide)) hr hgd gx_pass rfl (sr_cons (se_tk (se_var 0)) (sr_cons (se_tk (se_var 1)) sr_nil)) (len_rCons (len_rCons len_rNil))))
    (ss_cons (ss_expr (se_callD ((D_need_table_3 Y).mono (by decide)) hr hgd gx_pass rfl (sr_cons (se_tk (se_var 0)) (sr_cons (se_tk (se_var 1)) (sr_cons (se_tk (se_var 2)) sr_nil))) (len_rCons (len_rCons (len_rCons len_rNil)))))
    (ss_cons (ss_if (st_not (st_tru (se_callD ((D_are_places_3 Y).mono (by decide)) hr hgd gx_pass rfl (sr_cons (se_tk (se_var 0)) (sr_cons (se_tk (se_var 3)) (sr_cons (se_tk (se_var 1)) sr_nil))) (len_rCons (len_rCons (len_rCons len_rNil)))))) (ss_one (ss_raise rfl gx_takes (e_InvalidTelling Y) rfl)) ss_nil)
    (ss_one (ss_ret (se_ixT h1 (se_callD ((D_rule_of_3 Y).mono (by decide)) hr hgd gx_pass rfl (sr_cons (se_tk (se_var 0)) (sr_cons (se_tk (se_var 1)) (sr_cons (se_tk (se_var 2)) sr_nil))) (len_rCons (len_rCons (len_rCons len_rNil)))) (se_t1 call_tupleP c1_tuple rfl (m_tuple Y) (by decide +kernel) (se_b1 (cr_sortedD h64) c1_sortD rfl (m_sorted Y) (by decide +kernel) (se_var 3)))))))))
theorem S_made_of : FnScope N_made_of ["count", "people", "table", "telling"] (defScope (topS 18)) := ⟨rfl, rfl, rfl, by decide, rfl, by decide +kernel, by decide +kernel⟩
theorem D_made_of_4 (Y : Ctx K mg) : Dfn Pg w K mg base 4 "made_of" 4 F_made_of 4 [] := by
  obtain ⟨_, X, G⟩ := Y.ex
  obtain ⟨fd, FD⟩ := Y.c.def_ 8 (d := d_made_of)
  have hb : Binds K fd ["count", "people", "table", "telling"] [] := FD.bindsN fun _ _ _ _ _ _ us h => by
    match us, h with
    | [a0, a1, a2, a3], _ => rfl
  exact ⟨⟨_, fd, ["count", "people", "table", "telling"], [], He.glo_ok X G (Y.c.fact 8), FD.kp, fnG_D FD S_made_of rfl fun cdv  A outer s H E hr hgd => W_made_of Y  cdv  A outer s H E hr hgd, hb, .nil, rfl, rfl⟩⟩
def N_stays_between : List Str := ["count", "people", "table", "telling", "place"]
theorem W_stays_between (Y : Ctx K mg) {f : Addr} (cdv : Value) (A : Around) (outer : List Env) (s : Shared) (H : Hp) (E : XK) (hr : Room 3 (A.deeper (envOfC "stays_between" (defScope (topS 19)) s.heap.objs.size f cdv))) (hgd : A.guards = some []) :
    SSs (GX Pg w K mg base N_stays_between "stays_between" (defScope (topS 19)) f cdv A outer s H E) (GW E) [] (defBody (topS 19)) B_stays_between := by
  have h64 : (A.deeper (envOfC "stays_between" (defScope (topS 19)) s.heap.objs.size f cdv)).units + 64 < cLine := hr.units
  have h65 : (A.deeper (envOfC "stays_between" (defScope (topS 19)) s.heap.objs.size f cdv)).units + 65 < cLine := by have := hr.un; omega
  have h1 := unl1 h64
  have h0 := unl0 h64
  have nd : N_stays_between.Nodup := by decide
  exact (ss_cons (ss_expr (se_callD ((D_need_people_2 Y).mono (by decide)) hr hgd gx_pass rfl (sr_cons (se_tk (se_var 0)) (sr_cons (se_tk (se_var 1)) sr_nil)) (len_rCons (len_rCons len_rNil))))
    (ss_cons (ss_expr (se_callD ((D_need_table_3 Y).mono (by decide)) hr hgd gx_pass rfl (sr_cons (se_tk (se_var 0)) (sr_cons (se_tk (se_var 1)) (sr_cons (se_tk (se_var 2)) sr_nil))) (len_rCons (len_rCons (len_rCons len_rNil)))))
    (ss_one (ss_ret (se_b1 (cr_all rfl) c1_all rfl (m_all Y) (by decide +kernel) (se_lc false rfl nd (si_items (se_callD ((D_rule_of_3 Y).mono (by decide)) hr hgd gx_pass rfl (sr_cons (se_tk (se_var 0)) (sr_cons (se_tk (se_var 1)) (sr_cons (se_tk (se_var 2)) sr_nil))) (len_rCons (len_rCons (len_rCons len_rNil))))) (own := [("telling", 3), ("place", 4)]) (by kernel_rfl) (by decide) (by decide) (fun _ _ _ _ _ => (sg_tup rfl (sgs_cons (sg_name 3 nd rfl (by first | exact Or.inl rfl | exact Or.inr rfl) (by decide)) (sgs_cons (sg_name 4 nd rfl (by first | exact Or.inl rfl | exact Or.inr rfl) (by decide)) sgs_nil)))) (fun _ _ _ _ _ => sts_nil) (fun _ _ _ _ _ => (se_tk (se_chain L2.op_le v2_b L2.op_le v2_b (se_ix2 h64 (se_var 3) se_int) (se_var 4) (se_ix2 h64 (se_var 3) (se_neg se_int)))))))))))
theorem S_stays_between : FnScope N_stays_between ["count", "people", "table"] (defScope (topS 19)) := ⟨rfl, rfl, rfl, by decide, rfl, by decide +kernel, by decide +kernel⟩
theorem D_stays_between_3 (Y : Ctx K mg) : Dfn Pg w K mg base 4 "stays_between" 3 F_stays_between 3 [] := by
  obtain ⟨_, X, G⟩ := Y.ex
  obtain ⟨fd, FD⟩ := Y.c.def_ 9 (d := d_stays_between)
  have hb : Binds K fd ["count", "people", "table"] [] := FD.bindsN fun _ _ _ _ _ _ us h => by
    match us, h with
    | [a0, a1, a2], _ => rfl
  exact ⟨⟨_, fd, ["count", "people", "table"], [], He.glo_ok X G (Y.c.fact 9), FD.kp, fnG_D FD S_stays_between rfl fun cdv  A outer s H E hr hgd => W_stays_between Y  cdv  A outer s H E hr hgd, hb, .nil, rfl, rfl⟩⟩
def N_is_even : List Str := ["count", "people", "table", "rule", "telling", "place", "one"]
theorem W_is_even (Y : Ctx K mg) {f : Addr} (cdv : Value) (A : Around) (outer : List Env) (s : Shared) (H : Hp) (E : XK) (hr : Room 3 (A.deeper (envOfC "is_even" (defScope (topS 20)) s.heap.objs.size f cdv))) (hgd : A.guards = some []) :
    SSs (GX Pg w K mg base N_is_even "is_even" (defScope (topS 20)) f cdv A outer s H E) (GW E) [] (defBody (topS 20)) B_is_even := by
  have h64 : (A.deeper (envOfC "is_even" (defScope (topS 20)) s.heap.objs.size f cdv)).units + 64 < cLine := hr.units
  have h65 : (A.deeper (envOfC "is_even" (defScope (topS 20)) s.heap.objs.size f cdv)).units + 65 < cLine := by have := hr.un; omega
  have h1 := unl1 h64
  have h0 := unl0 h64
  have nd : N_is_even.Nodup := by decide
  exact (ss_cons (ss_expr (se_callD ((D_need_people_2 Y).mono (by decide)) hr hgd gx_pass rfl (sr_cons (se_tk (se_var 0)) (sr_cons (se_tk (se_var 1)) sr_nil)) (len_rCons (len_rCons len_rNil))))
    (ss_cons (ss_expr (se_callD ((D_need_table_3 Y).mono (by decide)) hr hgd gx_pass rfl (sr_cons (se_tk (se_var 0)) (sr_cons (se_tk (se_var 1)) (sr_cons (se_tk (se_var 2)) sr_nil))) (len_rCons (len_rCons (len_rCons len_rNil)))))
    (ss_cons (ss_set 3 nd rfl (by first | exact Or.inl rfl | exact Or.inr rfl) (by decide) (se_tk (se_callD ((D_rule_of_3 Y).mono (by decide)) hr hgd gx_pass rfl (sr_cons (se_tk (se_var 0)) (sr_cons (se_tk (se_var 1)) (sr_cons (se_tk (se_var 2)) sr_nil))) (len_rCons (len_rCons (len_rCons len_rNil))))))
    (ss_cons (ss_for (passes_of rfl) rfl (si_items (se_var 3)) (sg_tup rfl (sgs_cons (sg_name 4 nd rfl (by first | exact Or.inl rfl | exact Or.inr rfl) (by decide)) (sgs_cons (sg_name 5 nd rfl (by first | exact Or.inl rfl | exact Or.inr rfl) (by decide)) sgs_nil))) (ss_one (ss_if (st_ne h64 (se_ixT h1 (se_var 3) (se_t1 call_tupleP c1_tuple rfl (m_tuple Y) (by decide +kernel) (se_lc false rfl nd (si_seq (se_revT (se_var 4))) (own := [("one", 6)]) (by kernel_rfl) (by decide) (by decide) (fun _ _ _ _ _ => (sg_name 6 nd rfl (by first | exact Or.inl rfl | exact Or.inr rfl) (by decide))) (fun _ _ _ _ _ => sts_nil) (fun _ _ _ _ _ => (se_tk (se_sub (se_sub (se_var 0) se_int) (se_var 6))))))) (se_sub (se_sub (se_var 0) se_int) (se_var 5))) (ss_one (ss_ret se_bl)) ss_nil)))
    (ss_one (ss_ret se_bl))))))
theorem S_is_even : FnScope N_is_even ["count", "people", "table"] (defScope (topS 20)) := ⟨rfl, rfl, rfl, by decide, rfl, by decide +kernel, by decide +kernel⟩
theorem D_is_even_3 (Y : Ctx K mg) : Dfn Pg w K mg base 4 "is_even" 3 F_is_even 3 [] := by
  obtain ⟨_, X, G⟩ := Y.ex
  obtain ⟨fd, FD⟩ := Y.c.def_ 10 (d := d_is_even)
  have hb : Binds K fd ["count", "people", "table"] [] := FD.bindsN fun _ _ _ _ _ _ us h => by
    match us, h with
    | [a0, a1, a2], _ => rfl
  exact ⟨⟨_, fd, ["count", "people", "table"], [], He.glo_ok X G (Y.c.fact 10), FD.kp, fnG_D FD S_is_even rfl fun cdv  A outer s H E hr hgd => W_is_even Y  cdv  A outer s H E hr hgd, hb, .nil, rfl, rfl⟩⟩
def N__law_tellings : List Str := ["_law_size", "_law_people", "_law_found", "_law_turn", "_law_later", "_law_telling_here", "_law_least", "_law_place"]
theorem W__law_tellings (Y : Ctx K mg) {f : Addr} (cdv : Value) (A : Around) (outer : List Env) (s : Shared) (H : Hp) (E : XK) (hr : Room 0 (A.deeper (envOfC "_law_tellings" (defScope (topS 25)) s.heap.objs.size f cdv))) (hgd : A.guards = some []) :
    SSs (GX Pg w K mg base N__law_tellings "_law_tellings" (defScope (topS 25)) f cdv A outer s H E) (GW E) [] (defBody (topS 25)) B__law_tellings := by
  have h64 : (A.deeper (envOfC "_law_tellings" (defScope (topS 25)) s.heap.objs.size f cdv)).units + 64 < cLine := hr.units
  have h65 : (A.deeper (envOfC "_law_tellings" (defScope (topS 25)) s.heap.objs.size f cdv)).units + 65 < cLine := by have := hr.un; omega
  have h1 := unl1 h64
  have h0 := unl0 h64
  have nd : N__law_tellings.Nodup := by decide
  exact (ss_cons (ss_set 2 nd rfl (by first | exact Or.inl rfl | exact Or.inr rfl) (by decide) (se_lst (sa_cons (se_tup sa_nil) sa_nil)))
    (ss_cons (ss_for (passes_of rfl) rfl (si_rng1 rfl (m_range Y) (se_var 1)) (sg_name 3 nd rfl (by first | exact Or.inl rfl | exact Or.inr rfl) (by decide)) (ss_cons (ss_set 4 nd rfl (by first | exact Or.inl rfl | exact Or.inr rfl) (by decide) (se_lst sa_nil))
    (ss_cons (ss_for (passes_of rfl) rfl (si_seq (se_var 2)) (sg_name 5 nd rfl (by first | exact Or.inl rfl | exact Or.inr rfl) (by decide)) (ss_cons (ss_set 6 nd rfl (by first | exact Or.inl rfl | exact Or.inr rfl) (by decide) (se_tk (se_if (st_ne h64 (se_var 5) (se_tup sa_nil)) (se_ix2 h64 (se_var 5) (se_neg se_int)) se_int)))
    (ss_one (ss_expr (se_ext (se_var 4) (se_lc false rfl nd (si_rng2 rfl (m_range Y) (se_var 6) (se_var 0)) (own := [("_law_place", 7)]) (by kernel_rfl) (by decide) (by decide) (fun _ _ _ _ _ => (sg_name 7 nd rfl (by first | exact Or.inl rfl | exact Or.inr rfl) (by decide))) (fun _ _ _ _ _ => sts_nil) (fun _ _ _ _ _ => (se_tk (se_add (se_var 5) (se_tup (sa_cons (se_var 7) sa_nil)))))))))))
    (ss_one (ss_set 2 nd rfl (by first | exact Or.inl rfl | exact Or.inr rfl) (by decide) (se_tk (se_var 4)))))))
    (ss_one (ss_ret (se_var 2)))))
theorem S__law_tellings : FnScope N__law_tellings ["_law_size", "_law_people"] (defScope (topS 25)) := ⟨rfl, rfl, rfl, by decide, rfl, by decide +kernel, by decide +kernel⟩
theorem D__law_tellings_2 (Y : Ctx K mg) : Dfn Pg w K mg base 1 "_law_tellings" 2 F__law_tellings 2 [] := by
  obtain ⟨_, X, G⟩ := Y.ex
  obtain ⟨fd, FD⟩ := Y.c.def_ 11 (d := d__law_tellings)
  have hb : Binds K fd ["_law_size", "_law_people"] [] := FD.bindsN fun _ _ _ _ _ _ us h => by
    match us, h with
    | [a0, a1], _ => rfl
  exact ⟨⟨_, fd, ["_law_size", "_law_people"], [], He.glo_ok X G (Y.c.fact 11), FD.kp, fnG_D FD S__law_tellings rfl fun cdv  A outer s H E hr hgd => W__law_tellings Y  cdv  A outer s H E hr hgd, hb, .nil, rfl, rfl⟩⟩
def N__law_pick : List Str := ["_law_well_here", "_law_bound", "_law_stirred", "_law_found"]
theorem W__law_pick (Y : Ctx K mg) {f : Addr} (cdv : Value) (A : Around) (outer : List Env) (s : Shared) (H : Hp) (E : XK) (hr : Room 0 (A.deeper (envOfC "_law_pick" (defScope (topS 23)) s.heap.objs.size f cdv))) (hgd : A.guards = some []) :
    SSs (GX Pg w K mg base N__law_pick "_law_pick" (defScope (topS 23)) f cdv A outer s H E) (GW E) [0] (defBody (topS 23)) B__law_pick := by
  have h64 : (A.deeper (envOfC "_law_pick" (defScope (topS 23)) s.heap.objs.size f cdv)).units + 64 < cLine := hr.units
  have h65 : (A.deeper (envOfC "_law_pick" (defScope (topS 23)) s.heap.objs.size f cdv)).units + 65 < cLine := by have := hr.un; omega
  have h1 := unl1 h64
  have h0 := unl0 h64
  have nd : N__law_pick.Nodup := by decide
  exact (ss_cons (ss_if (st_gt (se_ix2 h64 (se_var 0) se_int) se_int) (ss_cons (ss_set 3 nd rfl (by first | exact Or.inl rfl | exact Or.inr rfl) (by decide) (se_mod (se_t1 call_int1 c1_int rfl (m_int Y) (by decide +kernel) (se_ix2 h64 (se_var 0) se_int)) (se_var 1)))
    (ss_cons (ss_asg (se_fdivW (se_ix2 h64 (se_var 0) se_int) (se_var 1)) (sg_sub (se_var 0) se_int))
    (ss_one (ss_ret (se_var 3))))) ss_nil)
    (ss_cons (ss_asg (se_add (se_ix2 h64 (se_var 0) se_int) se_int) (sg_sub (se_var 0) se_int))
    (ss_cons (ss_set 2 nd rfl (by first | exact Or.inl rfl | exact Or.inr rfl) (by decide) (se_tk (se_mod (se_t1 call_int1 c1_int rfl (m_int Y) (by decide +kernel) (se_powW (se_add (se_ix2 h64 (se_var 0) se_int) (se_mul se_int (se_ix2 h64 (se_var 0) se_int))) se_int)) (se_add (se_powW se_int se_int) se_int))))
    (ss_cons (ss_set 2 nd rfl (by first | exact Or.inl rfl | exact Or.inr rfl) (by decide) (se_tk (se_mod (se_t1 call_int1 c1_int rfl (m_int Y) (by decide +kernel) (se_powW (se_add (se_var 2) (se_mul se_int (se_ix2 h64 (se_var 0) se_int))) se_int)) (se_add (se_powW se_int se_int) se_int))))
    (ss_one (ss_ret (se_mod (se_t1 call_int1 c1_int rfl (m_int Y) (by decide +kernel) (se_fdivW (se_var 2) se_int)) (se_var 1))))))))
theorem S__law_pick : FnScope N__law_pick ["_law_well_here", "_law_bound"] (defScope (topS 23)) := ⟨rfl, rfl, rfl, by decide, rfl, by decide +kernel, by decide +kernel⟩
theorem D__law_pick_2 (Y : Ctx K mg) : Dfn Pg w K mg base 1 "_law_pick" 2 F__law_pick 2 [] := by
  obtain ⟨_, X, G⟩ := Y.ex
  obtain ⟨fd, FD⟩ := Y.c.def_ 12 (d := d__law_pick)
  have hb : Binds K fd ["_law_well_here", "_law_bound"] [] := FD.bindsN fun _ _ _ _ _ _ us h => by
    match us, h with
    | [a0, a1], _ => rfl
  exact ⟨⟨_, fd, ["_law_well_here", "_law_bound"], [], He.glo_ok X G (Y.c.fact 12), FD.kp, fnG_D FD S__law_pick rfl fun cdv  A outer s H E hr hgd => W__law_pick Y  cdv  A outer s H E hr hgd, hb, .nil, rfl, rfl⟩⟩
def N__law_some_fixed : List Str := ["_law_well_here", "_law_size", "_law_people", "_law_way", "_law_turn"]
theorem W__law_some_fixed (Y : Ctx K mg) {f : Addr} (cdv : Value) (A : Around) (outer : List Env) (s : Shared) (H : Hp) (E : XK) (hr : Room 1 (A.deeper (envOfC "_law_some_fixed" (defScope (topS 31)) s.heap.objs.size f cdv))) (hgd : A.guards = some []) :
    SSs (GX Pg w K mg base N__law_some_fixed "_law_some_fixed" (defScope (topS 31)) f cdv A outer s H E) (GW E) [0] (defBody (topS 31)) B__law_some_fixed := by
  have h64 : (A.deeper (envOfC "_law_some_fixed" (defScope (topS 31)) s.heap.objs.size f cdv)).units + 64 < cLine := hr.units
  have h65 : (A.deeper (envOfC "_law_some_fixed" (defScope (topS 31)) s.heap.objs.size f cdv)).units + 65 < cLine := by have := hr.un; omega
  have h1 := unl1 h64
  have h0 := unl0 h64
  have nd : N__law_some_fixed.Nodup := by decide
  exact (ss_cons (ss_set 3 nd rfl (by first | exact Or.inl rfl | exact Or.inr rfl) (by decide) (se_tk (se_callD ((D__law_pick_2 Y).mono (by decide)) hr hgd gx_pass rfl (sr_io 0 rfl (by first | exact Or.inl rfl | exact Or.inr (Or.inl rfl) | exact Or.inr (Or.inr rfl)) (sr_cons se_int sr_nil)) (len_rIo (len_rCons len_rNil)))))
    (ss_cons (ss_if (st_eq h64 (se_var 3) se_int) (ss_one (ss_ret (se_b1 (cr_sortedD h64) c1_sortD rfl (m_sorted Y) (by decide +kernel) (se_lc false rfl nd (si_rng1 rfl (m_range Y) (se_add (se_var 2) se_int)) (own := [("_law_turn", 4)]) (by kernel_rfl) (by decide) (by decide) (fun _ _ _ _ _ => (sg_name 4 nd rfl (by first | exact Or.inl rfl | exact Or.inr rfl) (by decide))) (fun _ _ _ _ _ => sts_nil) (fun _ _ _ _ _ => (se_tk (se_ix2 h64 (se_lst (sa_cons se_int (sa_cons (se_sub (se_var 1) se_int) sa_nil))) (se_callD ((D__law_pick_2 Y).mono (by decide)) hr hgd w0_pass rfl (sr_io 0 rfl (by first | exact Or.inl rfl | exact Or.inr (Or.inl rfl) | exact Or.inr (Or.inr rfl)) (sr_cons se_int sr_nil)) (len_rIo (len_rCons len_rNil)))))))))) ss_nil)
    (ss_cons (ss_if (st_w (sw_and (st_eq h64 (se_var 3) se_int) (sw_and1 (st_eq h64 (se_callD ((D__law_pick_2 Y).mono (by decide)) hr hgd gx_pass rfl (sr_io 0 rfl (by first | exact Or.inl rfl | exact Or.inr (Or.inl rfl) | exact Or.inr (Or.inr rfl)) (sr_cons se_int sr_nil)) (len_rIo (len_rCons len_rNil))) se_int)))) (ss_one (ss_ret (se_mul (se_lst (sa_cons (se_callD ((D__law_pick_2 Y).mono (by decide)) hr hgd gx_pass rfl (sr_io 0 rfl (by first | exact Or.inl rfl | exact Or.inr (Or.inl rfl) | exact Or.inr (Or.inr rfl)) (sr_cons (se_tk (se_var 1)) sr_nil)) (len_rIo (len_rCons len_rNil))) sa_nil)) (se_add (se_var 2) se_int)))) ss_nil)
    (ss_one (ss_ret (se_b1 (cr_sortedD h64) c1_sortD rfl (m_sorted Y) (by decide +kernel) (se_lc false rfl nd (si_rng1 rfl (m_range Y) (se_add (se_var 2) se_int)) (own := [("_law_turn", 4)]) (by kernel_rfl) (by decide) (by decide) (fun _ _ _ _ _ => (sg_name 4 nd rfl (by first | exact Or.inl rfl | exact Or.inr rfl) (by decide))) (fun _ _ _ _ _ => sts_nil) (fun _ _ _ _ _ => (se_tk (se_callD ((D__law_pick_2 Y).mono (by decide)) hr hgd w0_pass rfl (sr_io 0 rfl (by first | exact Or.inl rfl | exact Or.inr (Or.inl rfl) | exact Or.inr (Or.inr rfl)) (sr_cons (se_tk (se_var 1)) sr_nil)) (len_rIo (len_rCons len_rNil))))))))))))
theorem S__law_some_fixed : FnScope N__law_some_fixed ["_law_well_here", "_law_size", "_law_people"] (defScope (topS 31)) := ⟨rfl, rfl, rfl, by decide, rfl, by decide +kernel, by decide +kernel⟩
theorem D__law_some_fixed_3 (Y : Ctx K mg) : Dfn Pg w K mg base 2 "_law_some_fixed" 3 F__law_some_fixed 3 [] := by
  obtain ⟨_, X, G⟩ := Y.ex
  obtain ⟨fd, FD⟩ := Y.c.def_ 13 (d := d__law_some_fixed)
  have hb : Binds K fd ["_law_well_here", "_law_size", "_law_people"] [] := FD.bindsN fun _ _ _ _ _ _ us h => by
    match us, h with
    | [a0, a1, a2], _ => rfl
  exact ⟨⟨_, fd, ["_law_well_here", "_law_size", "_law_people"], [], He.glo_ok X G (Y.c.fact 13), FD.kp, fnG_D FD S__law_some_fixed rfl fun cdv  A outer s H E hr hgd => W__law_some_fixed Y  cdv  A outer s H E hr hgd, hb, .nil, rfl, rfl⟩⟩
def N__law_table : List Str := ["_law_size", "_law_people", "_law_some", "_law_one"]
theorem W__law_table (Y : Ctx K mg) {f : Addr} (cdv : Value) (A : Around) (outer : List Env) (s : Shared) (H : Hp) (E : XK) (hr : Room 1 (A.deeper (envOfC "_law_table" (defScope (topS 26)) s.heap.objs.size f cdv))) (hgd : A.guards = some []) :
    SSs (GX Pg w K mg base N__law_table "_law_table" (defScope (topS 26)) f cdv A outer s H E) (GW E) [] (defBody (topS 26)) B__law_table := by
  have h64 : (A.deeper (envOfC "_law_table" (defScope (topS 26)) s.heap.objs.size f cdv)).units + 64 < cLine := hr.units
  have h65 : (A.deeper (envOfC "_law_table" (defScope (topS 26)) s.heap.objs.size f cdv)).units + 65 < cLine := by have := hr.un; omega
  have h1 := unl1 h64
  have h0 := unl0 h64
  have nd : N__law_table.Nodup := by decide
  exact (ss_one (ss_ret (se_lc false rfl nd (si_seq (se_callD ((D__law_tellings_2 Y).mono (by decide)) hr hgd gx_pass rfl (sr_cons (se_tk (se_var 0)) (sr_cons (se_tk (se_var 1)) sr_nil)) (len_rCons (len_rCons len_rNil)))) (own := [("_law_one", 3)]) (by kernel_rfl) (by decide) (by decide) (fun _ _ _ _ _ => (sg_name 3 nd rfl (by first | exact Or.inl rfl | exact Or.inr rfl) (by decide))) (fun _ _ _ _ _ => sts_nil) (fun _ _ _ _ _ => (se_tk (se_ix2 h64 (se_b1 (cr_sortedD h64) c1_sortD rfl (m_sorted Y) (by decide +kernel) (se_add (se_t1 call_list_of c1_list rfl (m_list Y) (by decide +kernel) (se_var 3)) (se_var 2))) (se_var 1)))))))
theorem S__law_table : FnScope N__law_table ["_law_size", "_law_people", "_law_some"] (defScope (topS 26)) := ⟨rfl, rfl, rfl, by decide, rfl, by decide +kernel, by decide +kernel⟩
theorem D__law_table_3 (Y : Ctx K mg) : Dfn Pg w K mg base 2 "_law_table" 3 F__law_table 3 [] := by
  obtain ⟨_, X, G⟩ := Y.ex
  obtain ⟨fd, FD⟩ := Y.c.def_ 14 (d := d__law_table)
  have hb : Binds K fd ["_law_size", "_law_people", "_law_some"] [] := FD.bindsN fun _ _ _ _ _ _ us h => by
    match us, h with
    | [a0, a1, a2], _ => rfl
  exact ⟨⟨_, fd, ["_law_size", "_law_people", "_law_some"], [], He.glo_ok X G (Y.c.fact 14), FD.kp, fnG_D FD S__law_table rfl fun cdv  A outer s H E hr hgd => W__law_table Y  cdv  A outer s H E hr hgd, hb, .nil, rfl, rfl⟩⟩
def N__law_mirrored : List Str := ["_law_size", "_law_telling_here", "_law_place"]
theorem W__law_mirrored (Y : Ctx K mg) {f : Addr} (cdv : Value) (A : Around) (outer : List Env) (s : Shared) (H : Hp) (E : XK) (hr : Room 0 (A.deeper (envOfC "_law_mirrored" (defScope (topS 32)) s.heap.objs.size f cdv))) (hgd : A.guards = some []) :
    SSs (GX Pg w K mg base N__law_mirrored "_law_mirrored" (defScope (topS 32)) f cdv A outer s H E) (GW E) [] (defBody (topS 32)) B__law_mirrored_v2 := by
  have h64 : (A.deeper (envOfC "_law_mirrored" (defScope (topS 32)) s.heap.objs.size f cdv)).units + 64 < cLine := hr.units
  have h65 : (A.deeper (envOfC "_law_mirrored" (defScope (topS 32)) s.heap.objs.size f cdv)).units + 65 < cLine := by have := hr.un; omega
  have h1 := unl1 h64
  have h0 := unl0 h64
  have nd : N__law_mirrored.Nodup := by decide
  exact (ss_one (ss_ret (se_t1 call_tupleP c1_tuple rfl (m_tuple Y) (by decide +kernel) (se_b1 (cr_sortedD h64) c1_sortD rfl (m_sorted Y) (by decide +kernel) (se_lc false rfl nd (si_seq (se_var 1)) (own := [("_law_place", 2)]) (by kernel_rfl) (by decide) (by decide) (fun _ _ _ _ _ => (sg_name 2 nd rfl (by first | exact Or.inl rfl | exact Or.inr rfl) (by decide))) (fun _ _ _ _ _ => sts_nil) (fun _ _ _ _ _ => (se_tk (se_sub (se_sub (se_var 0) se_int) (se_var 2)))))))))
theorem S__law_mirrored : FnScope N__law_mirrored ["_law_size", "_law_telling_here"] (defScope (topS 32)) := ⟨rfl, rfl, rfl, by decide, rfl, by decide +kernel, by decide +kernel⟩
theorem D__law_mirrored_2 (Y : Ctx K mg) : Dfn Pg w K mg base 1 "_law_mirrored" 2 F__law_mirrored_v2 2 [] := by
  obtain ⟨_, X, G⟩ := Y.ex
  obtain ⟨fd, FD⟩ := Y.c.def_ 15 (d := d__law_mirrored)
  have hb : Binds K fd ["_law_size", "_law_telling_here"] [] := FD.bindsN fun _ _ _ _ _ _ us h => by
    match us, h with
    | [a0, a1], _ => rfl
  exact ⟨⟨_, fd, ["_law_size", "_law_telling_here"], [], He.glo_ok X G (Y.c.fact 15), FD.kp, fnG_D FD S__law_mirrored rfl fun cdv  A outer s H E hr hgd => W__law_mirrored Y  cdv  A outer s H E hr hgd, hb, .nil, rfl, rfl⟩⟩
def N__law_even_table : List Str := ["_law_well_here", "_law_size", "_law_people", "_law_one", "_law_every", "_law_known", "_law_other"]
theorem W__law_even_table (Y : Ctx K mg) {f : Addr} (cdv : Value) (A : Around) (outer : List Env) (s : Shared) (H : Hp) (E : XK) (hr : Room 1 (A.deeper (envOfC "_law_even_table" (defScope (topS 34)) s.heap.objs.size f cdv))) (hgd : A.guards = some []) :
    SSs (GX Pg w K mg base N__law_even_table "_law_even_table" (defScope (topS 34)) f cdv A outer s H E) (GW E) [0] (defBody (topS 34)) B__law_even_table := by
  have h64 : (A.deeper (envOfC "_law_even_table" (defScope (topS 34)) s.heap.objs.size f cdv)).units + 64 < cLine := hr.units
  have h65 : (A.deeper (envOfC "_law_even_table" (defScope (topS 34)) s.heap.objs.size f cdv)).units + 65 < cLine := by have := hr.un; omega
  have h1 := unl1 h64
  have h0 := unl0 h64
  have nd : N__law_even_table.Nodup := by decide
  exact (ss_cons (ss_parC2 rfl nd rfl rfl (by decide) (by first | exact Or.inl rfl | exact Or.inr rfl) (by first | exact Or.inl rfl | exact Or.inr rfl) (sr_cons (se_tk (se_callD ((D__law_tellings_2 Y).mono (by decide)) hr hgd gx_pass rfl (sr_cons (se_tk (se_var 1)) (sr_cons (se_tk (se_var 2)) sr_nil)) (len_rCons (len_rCons len_rNil)))) (sr_cons se_dic0 sr_nil)))
    (ss_cons (ss_for (passes_of rfl) rfl (si_seq (se_var 4)) (sg_name 3 nd rfl (by first | exact Or.inl rfl | exact Or.inr rfl) (by decide)) (ss_cons (ss_set 6 nd rfl (by first | exact Or.inl rfl | exact Or.inr rfl) (by decide) (se_tk (se_callD ((D__law_mirrored_2 Y).mono (by decide)) hr hgd gx_pass rfl (sr_cons (se_tk (se_var 1)) (sr_cons (se_tk (se_var 3)) sr_nil)) (len_rCons (len_rCons len_rNil)))))
    (ss_one (ss_if (st_ninT h1 (se_var 6) (se_var 5)) (ss_one (ss_asg (se_if (st_ne h64 (se_var 6) (se_var 3)) (se_callD ((D__law_pick_2 Y).mono (by decide)) hr hgd gx_pass rfl (sr_io 0 rfl (by first | exact Or.inl rfl | exact Or.inr (Or.inl rfl) | exact Or.inr (Or.inr rfl)) (sr_cons (se_tk (se_var 1)) sr_nil)) (len_rIo (len_rCons len_rNil))) (se_fdivW (se_var 1) se_int)) (sg_subT h1 (se_var 5) (se_var 3)))) (ss_one (ss_asg (se_sub (se_sub (se_var 1) se_int) (se_ixT h1 (se_var 5) (se_var 6))) (sg_subT h1 (se_var 5) (se_var 3))))))))
    (ss_one (ss_ret (se_lc false rfl nd (si_seq (se_var 4)) (own := [("_law_one", 3)]) (by kernel_rfl) (by decide) (by decide) (fun _ _ _ _ _ => (sg_name 3 nd rfl (by first | exact Or.inl rfl | exact Or.inr rfl) (by decide))) (fun _ _ _ _ _ => sts_nil) (fun _ _ _ _ _ => (se_tk (se_ixT h1 (se_var 5) (se_var 3)))))))))
theorem S__law_even_table : FnScope N__law_even_table ["_law_well_here", "_law_size", "_law_people"] (defScope (topS 34)) := ⟨rfl, rfl, rfl, by decide, rfl, by decide +kernel, by decide +kernel⟩
theorem D__law_even_table_3 (Y : Ctx K mg) : Dfn Pg w K mg base 2 "_law_even_table" 3 F__law_even_table 3 [] := by
  obtain ⟨_, X, G⟩ := Y.ex
  obtain ⟨fd, FD⟩ := Y.c.def_ 16 (d := d__law_even_table)
  have hb : Binds K fd ["_law_well_here", "_law_size", "_law_people"] [] := FD.bindsN fun _ _ _ _ _ _ us h => by
    match us, h with
    | [a0, a1, a2], _ => rfl
  exact ⟨⟨_, fd, ["_law_well_here", "_law_size", "_law_people"], [], He.glo_ok X G (Y.c.fact 16), FD.kp, fnG_D FD S__law_even_table rfl fun cdv  A outer s H E hr hgd => W__law_even_table Y  cdv  A outer s H E hr hgd, hb, .nil, rfl, rfl⟩⟩
def N__law_mixed : List Str := ["_law_well_here", "_law_things", "_law_left", "_law_found"]
theorem W__law_mixed (Y : Ctx K mg) {f : Addr} (cdv : Value) (A : Around) (outer : List Env) (s : Shared) (H : Hp) (E : XK) (hr : Room 1 (A.deeper (envOfC "_law_mixed" (defScope (topS 24)) s.heap.objs.size f cdv))) (hgd : A.guards = some []) :
    SSs (GX Pg w K mg base N__law_mixed "_law_mixed" (defScope (topS 24)) f cdv A outer s H E) (GW E) [0] (defBody (topS 24)) B__law_mixed_v2 := by
  have h64 : (A.deeper (envOfC "_law_mixed" (defScope (topS 24)) s.heap.objs.size f cdv)).units + 64 < cLine := hr.units
  have h65 : (A.deeper (envOfC "_law_mixed" (defScope (topS 24)) s.heap.objs.size f cdv)).units + 65 < cLine := by have := hr.un; omega
  have h1 := unl1 h64
  have h0 := unl0 h64
  have nd : N__law_mixed.Nodup := by decide
  exact (ss_cons (ss_par2 rfl nd rfl rfl (by decide) (by decide) rfl rfl (sr_cons (se_t1 call_list_of c1_list rfl (m_list Y) (by decide +kernel) (se_var 1)) (sr_cons (se_lst sa_nil) sr_nil)))
    (ss_cons (ss_while 1000 (passes_of rfl) (st_neE h64 (se_var 2) (se_lst sa_nil)) (ss_one (ss_expr (se_app (se_var 3) (se_pop1 (se_var 2) (se_callD ((D__law_pick_2 Y).mono (by decide)) hr hgd gx_pass rfl (sr_io 0 rfl (by first | exact Or.inl rfl | exact Or.inr (Or.inl rfl) | exact Or.inr (Or.inr rfl)) (sr_cons (se_tk (se_b1 call_lenU c1_len rfl (m_len Y) (by decide +kernel) (se_var 2))) sr_nil)) (len_rIo (len_rCons len_rNil))))))))
    (ss_one (ss_ret (se_var 3)))))
theorem S__law_mixed : FnScope N__law_mixed ["_law_well_here", "_law_things"] (defScope (topS 24)) := ⟨rfl, rfl, rfl, by decide, rfl, by decide +kernel, by decide +kernel⟩
theorem D__law_mixed_2 (Y : Ctx K mg) : Dfn Pg w K mg base 2 "_law_mixed" 2 F__law_mixed_v2 2 [] := by
  obtain ⟨_, X, G⟩ := Y.ex
  obtain ⟨fd, FD⟩ := Y.c.def_ 17 (d := d__law_mixed)
  have hb : Binds K fd ["_law_well_here", "_law_things"] [] := FD.bindsN fun _ _ _ _ _ _ us h => by
    match us, h with
    | [a0, a1], _ => rfl
  exact ⟨⟨_, fd, ["_law_well_here", "_law_things"], [], He.glo_ok X G (Y.c.fact 17), FD.kp, fnG_D FD S__law_mixed rfl fun cdv  A outer s H E hr hgd => W__law_mixed Y  cdv  A outer s H E hr hgd, hb, .nil, rfl, rfl⟩⟩
def N__law_told : List Str := ["_law_size", "_law_people", "_law_rule_here", "_law_every", "_law_known", "_law_is_between", "_law_is_mirror", "_law_passed", "_law_told_here", "_law_one"]
theorem W__law_told (Y : Ctx K mg) {f : Addr} (cdv : Value) (A : Around) (outer : List Env) (s : Shared) (H : Hp) (E : XK) (hr : Room 4 (A.deeper (envOfC "_law_told" (defScope (topS 33)) s.heap.objs.size f cdv))) (hgd : A.guards = some []) :
    SSs (GX Pg w K mg base N__law_told "_law_told" (defScope (topS 33)) f cdv A outer s H E) (GW E) [] (defBody (topS 33)) B__law_told_v10 := by
  have h64 : (A.deeper (envOfC "_law_told" (defScope (topS 33)) s.heap.objs.size f cdv)).units + 64 < cLine := hr.units
  have h65 : (A.deeper (envOfC "_law_told" (defScope (topS 33)) s.heap.objs.size f cdv)).units + 65 < cLine := by have := hr.un; omega
  have h1 := unl1 h64
  have h0 := unl0 h64
  have nd : N__law_told.Nodup := by decide
  exact (ss_cons (ss_set 3 nd rfl (by first | exact Or.inl rfl | exact Or.inr rfl) (by decide) (se_tk (se_callD ((D__law_tellings_2 Y).mono (by decide)) hr hgd gx_pass rfl (sr_cons (se_tk (se_var 0)) (sr_cons (se_tk (se_var 1)) sr_nil)) (len_rCons (len_rCons len_rNil)))))
    (ss_cons (ss_set 4 nd rfl (by first | exact Or.inl rfl | exact Or.inr rfl) (by decide) (se_tk (se_dictZip h64 rfl rfl (m_zip Y) rfl (m_dict Y) (se_var 3) (se_var 2))))
    (ss_cons (ss_set 5 nd rfl (by first | exact Or.inl rfl | exact Or.inr rfl) (by decide) (se_tk (se_eqE h64 (se_lc false rfl nd (si_seq (se_var 3)) (own := [("_law_one", 9)]) (by kernel_rfl) (by decide) (by decide) (fun _ _ _ _ _ => (sg_name 9 nd rfl (by first | exact Or.inl rfl | exact Or.inr rfl) (by decide))) (fun _ _ _ _ _ => (sts_one (st_not (st_chain L2.op_le v2_b L2.op_le v2_b (se_b1 (cr_minTp rfl h64) c1_minT rfl (m_min Y) (by decide +kernel) (se_var 9)) (se_ixT h1 (se_var 4) (se_var 9)) (se_b1 (cr_maxTp rfl h64) c1_maxT rfl (m_max Y) (by decide +kernel) (se_var 9)))))) (fun _ _ _ _ _ => (se_tk (se_var 9)))) (se_lst sa_nil))))
    (ss_cons (ss_set 6 nd rfl (by first | exact Or.inl rfl | exact Or.inr rfl) (by decide) (se_tk (se_eqE h64 (se_lc false rfl nd (si_seq (se_var 3)) (own := [("_law_one", 9)]) (by kernel_rfl) (by decide) (by decide) (fun _ _ _ _ _ => (sg_name 9 nd rfl (by first | exact Or.inl rfl | exact Or.inr rfl) (by decide))) (fun _ _ _ _ _ => (sts_one (st_ne h64 (se_ixT h1 (se_var 4) (se_callD ((D__law_mirrored_2 Y).mono (by decide)) hr hgd w0_pass rfl (sr_cons (se_tk (se_var 0)) (sr_cons (se_tk (se_var 9)) sr_nil)) (len_rCons (len_rCons len_rNil)))) (se_sub (se_sub (se_var 0) se_int) (se_ixT h1 (se_var 4) (se_var 9)))))) (fun _ _ _ _ _ => (se_tk (se_var 9)))) (se_lst sa_nil))))
    (ss_cons (ss_set 7 nd rfl (by first | exact Or.inl rfl | exact Or.inr rfl) (by decide) (se_tk (se_t1 call_list_of c1_list rfl (m_list Y) (by decide +kernel) (se_var 2))))
    (ss_cons (ss_set 8 nd rfl (by first | exact Or.inl rfl | exact Or.inr rfl) (by decide) (se_tk (se_lst (sa_cons (se_callD ((D_stays_between_3 Y).mono (by decide)) hr hgd gx_pass rfl (sr_cons (se_tk (se_var 0)) (sr_cons (se_tk (se_var 1)) (sr_cons (se_tk (se_var 7)) sr_nil))) (len_rCons (len_rCons (len_rCons len_rNil)))) (sa_cons (se_callD ((D_is_even_3 Y).mono (by decide)) hr hgd gx_pass rfl (sr_cons (se_tk (se_var 0)) (sr_cons (se_tk (se_var 1)) (sr_cons (se_tk (se_var 7)) sr_nil))) (len_rCons (len_rCons (len_rCons len_rNil)))) sa_nil)))))
    (ss_one (ss_ret (se_and (se_eqS (se_b1 (call_reprT h64 hgd) c1_repr rfl (m_repr Y) (by decide +kernel) (se_var 8)) (se_b1 (call_reprT h64 hgd) c1_repr rfl (m_repr Y) (by decide +kernel) (se_lst (sa_cons (se_var 5) (sa_cons (se_var 6) sa_nil))))) (se_oneA (se_eq h64 (se_var 7) (se_var 2))))))))))))
theorem S__law_told : FnScope N__law_told ["_law_size", "_law_people", "_law_rule_here"] (defScope (topS 33)) := ⟨rfl, rfl, rfl, by decide, rfl, by decide +kernel, by decide +kernel⟩
theorem D__law_told_3 (Y : Ctx K mg) : Dfn Pg w K mg base 5 "_law_told" 3 F__law_told_v10 3 [] := by
  obtain ⟨_, X, G⟩ := Y.ex
  obtain ⟨fd, FD⟩ := Y.c.def_ 18 (d := d__law_told)
  have hb : Binds K fd ["_law_size", "_law_people", "_law_rule_here"] [] := FD.bindsN fun _ _ _ _ _ _ us h => by
    match us, h with
    | [a0, a1, a2], _ => rfl
  exact ⟨⟨_, fd, ["_law_size", "_law_people", "_law_rule_here"], [], He.glo_ok X G (Y.c.fact 18), FD.kp, fnG_D FD S__law_told rfl fun cdv  A outer s H E hr hgd => W__law_told Y  cdv  A outer s H E hr hgd, hb, .nil, rfl, rfl⟩⟩
def N__law_right : List Str := ["_law_well_here", "_law_size", "_law_people", "_law_every", "_law_some", "_law_low", "_law_tables", "_law_rule_here", "_law_one", "_law_turn", "_law_at", "_law_bent", "_law_spot", "_law_passed", "_law_kept"]
theorem W__law_right (Y : Ctx K mg) {f : Addr} (cdv : Value) (A : Around) (outer : List Env) (s : Shared) (H : Hp) (E : XK) (hr : Room 5 (A.deeper (envOfC "_law_right" (defScope (topS 35)) s.heap.objs.size f cdv))) (hgd : A.guards = some []) :
    SSs (GX Pg w K mg base N__law_right "_law_right" (defScope (topS 35)) f cdv A outer s H E) (GW E) [0] (defBody (topS 35)) B__law_right_v34 := by
  have h64 : (A.deeper (envOfC "_law_right" (defScope (topS 35)) s.heap.objs.size f cdv)).units + 64 < cLine := hr.units
  have h65 : (A.deeper (envOfC "_law_right" (defScope (topS 35)) s.heap.objs.size f cdv)).units + 65 < cLine := by have := hr.un; omega
  have h1 := unl1 h64
  have h0 := unl0 h64
  have nd : N__law_right.Nodup := by decide
  exact (ss_cons (ss_set 3 nd rfl (by first | exact Or.inl rfl | exact Or.inr rfl) (by decide) (se_tk (se_callD ((D__law_tellings_2 Y).mono (by decide)) hr hgd gx_pass rfl (sr_cons (se_tk (se_var 1)) (sr_cons (se_tk (se_var 2)) sr_nil)) (len_rCons (len_rCons len_rNil)))))
    (ss_cons (ss_set 4 nd rfl (by first | exact Or.inl rfl | exact Or.inr rfl) (by decide) (se_tk (se_callD ((D__law_some_fixed_3 Y).mono (by decide)) hr hgd gx_pass rfl (sr_io 0 rfl (by first | exact Or.inl rfl | exact Or.inr (Or.inl rfl) | exact Or.inr (Or.inr rfl)) (sr_cons (se_tk (se_var 1)) (sr_cons (se_tk (se_var 2)) sr_nil))) (len_rIo (len_rCons (len_rCons len_rNil))))))
    (ss_cons (ss_set 5 nd rfl (by first | exact Or.inl rfl | exact Or.inr rfl) (by decide) (se_tk (se_add (se_mul (se_lst (sa_cons se_int sa_nil)) (se_add (se_fdivW (se_var 2) se_int) se_int)) (se_mul (se_lst (sa_cons (se_sub (se_var 1) se_int) sa_nil)) (se_fdivW (se_add (se_var 2) se_int) se_int)))))
    (ss_cons (ss_set 6 nd rfl (by first | exact Or.inl rfl | exact Or.inr rfl) (by decide) (se_tk (se_lst (sa_cons (se_callD ((D__law_table_3 Y).mono (by decide)) hr hgd gx_pass rfl (sr_cons (se_tk (se_var 1)) (sr_cons (se_tk (se_var 2)) (sr_cons (se_tk (se_var 4)) sr_nil))) (len_rCons (len_rCons (len_rCons len_rNil)))) (sa_cons (se_callD ((D__law_table_3 Y).mono (by decide)) hr hgd gx_pass rfl (sr_cons (se_tk (se_var 1)) (sr_cons (se_tk (se_var 2)) (sr_cons (se_tk (se_var 5)) sr_nil))) (len_rCons (len_rCons (len_rCons len_rNil)))) sa_nil)))))
    (ss_cons (ss_set 6 nd rfl (by first | exact Or.inl rfl | exact Or.inr rfl) (by decide) (se_tk (se_add (se_var 6) (se_lst (sa_cons (se_lc false rfl nd (si_seq (se_var 3)) (own := [("_law_one", 8)]) (by kernel_rfl) (by decide) (by decide) (fun _ _ _ _ _ => (sg_name 8 nd rfl (by first | exact Or.inl rfl | exact Or.inr rfl) (by decide))) (fun _ _ _ _ _ => sts_nil) (fun _ _ _ _ _ => (se_tk (se_ix2 h64 (se_var 8) (se_callD ((D__law_pick_2 Y).mono (by decide)) hr hgd w0_pass rfl (sr_io 0 rfl (by first | exact Or.inl rfl | exact Or.inr (Or.inl rfl) | exact Or.inr (Or.inr rfl)) (sr_cons (se_tk (se_var 2)) sr_nil)) (len_rIo (len_rCons len_rNil))))))) (sa_cons (se_callD ((D__law_even_table_3 Y).mono (by decide)) hr hgd gx_pass rfl (sr_io 0 rfl (by first | exact Or.inl rfl | exact Or.inr (Or.inl rfl) | exact Or.inr (Or.inr rfl)) (sr_cons (se_tk (se_var 1)) (sr_cons (se_tk (se_var 2)) sr_nil))) (len_rIo (len_rCons (len_rCons len_rNil)))) sa_nil))))))
    (ss_cons (ss_for (passes_of rfl) rfl (si_seq (se_var 6)) (sg_name 7 nd rfl (by first | exact Or.inl rfl | exact Or.inr rfl) (by decide)) (ss_cons (ss_par2 rfl nd rfl rfl (by decide) (by decide) rfl rfl (sr_cons (se_tk (se_callD ((D__law_pick_2 Y).mono (by decide)) hr hgd gx_pass rfl (sr_io 0 rfl (by first | exact Or.inl rfl | exact Or.inr (Or.inl rfl) | exact Or.inr (Or.inr rfl)) (sr_cons (se_tk (se_b1 call_lenU c1_len rfl (m_len Y) (by decide +kernel) (se_var 7))) sr_nil)) (len_rIo (len_rCons len_rNil)))) (sr_cons (se_t1 call_list_of c1_list rfl (m_list Y) (by decide +kernel) (se_var 7)) sr_nil)))
    (ss_cons (ss_asg (se_tk (se_callD ((D__law_pick_2 Y).mono (by decide)) hr hgd gx_pass rfl (sr_io 0 rfl (by first | exact Or.inl rfl | exact Or.inr (Or.inl rfl) | exact Or.inr (Or.inr rfl)) (sr_cons (se_tk (se_var 1)) sr_nil)) (len_rIo (len_rCons len_rNil)))) (sg_sub (se_var 11) (se_var 10)))
    (ss_cons (ss_for (passes_of rfl) rfl (si_seq (se_lst (sa_cons (se_var 7) (sa_cons (se_var 11) sa_nil)))) (sg_name 8 nd rfl (by first | exact Or.inl rfl | exact Or.inr rfl) (by decide)) (ss_one (ss_if (st_not (st_tru (se_callD ((D__law_told_3 Y).mono (by decide)) hr hgd gx_pass rfl (sr_cons (se_tk (se_var 1)) (sr_cons (se_tk (se_var 2)) (sr_cons (se_tk (se_var 8)) sr_nil))) (len_rCons (len_rCons (len_rCons len_rNil)))))) (ss_one (ss_ret se_bl)) ss_nil)))
    (ss_one (ss_for (passes_of rfl) rfl (si_rng1 rfl (m_range Y) se_int) (sg_name 9 nd rfl (by first | exact Or.inl rfl | exact Or.inr rfl) (by decide)) (ss_cons (ss_set 12 nd rfl (by first | exact Or.inl rfl | exact Or.inr rfl) (by decide) (se_tk (se_callD ((D__law_pick_2 Y).mono (by decide)) hr hgd gx_pass rfl (sr_io 0 rfl (by first | exact Or.inl rfl | exact Or.inr (Or.inl rfl) | exact Or.inr (Or.inr rfl)) (sr_cons (se_tk (se_b1 call_lenU c1_len rfl (m_len Y) (by decide +kernel) (se_var 3))) sr_nil)) (len_rIo (len_rCons len_rNil)))))
    (ss_cons (ss_set 13 nd rfl (by first | exact Or.inl rfl | exact Or.inr rfl) (by decide) (se_tk (se_callD ((D__law_mixed_2 Y).mono (by decide)) hr hgd gx_pass rfl (sr_io 0 rfl (by first | exact Or.inl rfl | exact Or.inr (Or.inl rfl) | exact Or.inr (Or.inr rfl)) (sr_cons (se_tk (se_t1 call_list_of c1_list rfl (m_list Y) (by decide +kernel) (se_ix2 h64 (se_var 3) (se_var 12)))) sr_nil)) (len_rIo (len_rCons len_rNil)))))
    (ss_cons (ss_set 14 nd rfl (by first | exact Or.inl rfl | exact Or.inr rfl) (by decide) (se_tk (se_t1 call_list_of c1_list rfl (m_list Y) (by decide +kernel) (se_var 13))))
    (ss_one (ss_if (st_w (sw_or (st_neS (se_b1 (call_reprT h64 hgd) c1_repr rfl (m_repr Y) (by decide +kernel) (se_callD ((D_made_of_4 Y).mono (by decide)) hr hgd gx_pass rfl (sr_cons (se_tk (se_var 1)) (sr_cons (se_tk (se_var 2)) (sr_cons (se_tk (se_var 11)) (sr_cons (se_tk (se_var 13)) sr_nil)))) (len_rCons (len_rCons (len_rCons (len_rCons len_rNil)))))) (se_b1 (call_reprT h64 hgd) c1_repr rfl (m_repr Y) (by decide +kernel) (se_ix2 h64 (se_var 11) (se_var 12)))) (sw_or1 (st_ne h64 (se_var 13) (se_var 14))))) (ss_one (ss_ret se_bl)) ss_nil)))))))))))
    (ss_one (ss_ret se_bl))))))))
theorem S__law_right : FnScope N__law_right ["_law_well_here", "_law_size", "_law_people"] (defScope (topS 35)) := ⟨rfl, rfl, rfl, by decide, rfl, by decide +kernel, by decide +kernel⟩
theorem D__law_right_3 (Y : Ctx K mg) : Dfn Pg w K mg base 6 "_law_right" 3 F__law_right_v34 3 [] := by
  obtain ⟨_, X, G⟩ := Y.ex
  obtain ⟨fd, FD⟩ := Y.c.def_ 19 (d := d__law_right)
  have hb : Binds K fd ["_law_well_here", "_law_size", "_law_people"] [] := FD.bindsN fun _ _ _ _ _ _ us h => by
    match us, h with
    | [a0, a1, a2], _ => rfl
  exact ⟨⟨_, fd, ["_law_well_here", "_law_size", "_law_people"], [], He.glo_ok X G (Y.c.fact 19), FD.kp, fnG_D FD S__law_right rfl fun cdv  A outer s H E hr hgd => W__law_right Y  cdv  A outer s H E hr hgd, hb, .nil, rfl, rfl⟩⟩
def N_law : List Str := ["_law_script", "_law_k", "_law_told_here", "_law_well_here", "_law_size", "_law_people"]
theorem W_law (Y : Ctx K mg) {f : Addr} (cdv : Value) (A : Around) (outer : List Env) (s : Shared) (H : Hp) (E : XK) (hr : Room 6 (A.deeper (envOfC "law" (defScope (topS 36)) s.heap.objs.size f cdv))) (hgd : A.guards = some []) :
    SSs (GX Pg w K mg base N_law "law" (defScope (topS 36)) f cdv A outer s H E) (GW E) [] (defBody (topS 36)) B_law_v37 := by
  have h64 : (A.deeper (envOfC "law" (defScope (topS 36)) s.heap.objs.size f cdv)).units + 64 < cLine := hr.units
  have h65 : (A.deeper (envOfC "law" (defScope (topS 36)) s.heap.objs.size f cdv)).units + 65 < cLine := by have := hr.un; omega
  have h1 := unl1 h64
  have h0 := unl0 h64
  have nd : N_law.Nodup := by decide
  exact (ss_cons (ss_for (passes_of rfl) rfl (si_rng1 rfl (m_range Y) (se_b2 (call_max2 rfl) c2_i rfl (m_max Y) (by decide +kernel) se_int (se_b2 (call_min2 rfl) c2_i rfl (m_min Y) (by decide +kernel) se_int (se_b1 call_lenU c1_len rfl (m_len Y) (by decide +kernel) (se_var 0))))) (sg_name 1 nd rfl (by first | exact Or.inl rfl | exact Or.inr rfl) (by decide)) (ss_cons (ss_set 3 nd rfl (by first | exact Or.inl rfl | exact Or.inr rfl) (by decide) (se_callD ((D__law_well_2 Y).mono (by decide)) hr hgd gx_pass rfl (sr_cons (se_tk (se_var 0)) (sr_cons (se_tk (se_var 1)) sr_nil)) (len_rCons (len_rCons len_rNil))))
    (ss_cons (ss_for (passes_of rfl) rfl (si_seq (se_lst (sa_cons (se_tup (sa_cons (se_add se_int (se_callD ((D__law_pick_2 Y).mono (by decide)) hr hgd gx_pass rfl (sr_io 3 rfl (by first | exact Or.inl rfl | exact Or.inr (Or.inl rfl) | exact Or.inr (Or.inr rfl)) (sr_cons se_int sr_nil)) (len_rIo (len_rCons len_rNil)))) (sa_cons (se_add se_int (se_callD ((D__law_pick_2 Y).mono (by decide)) hr hgd gx_pass rfl (sr_io 3 rfl (by first | exact Or.inl rfl | exact Or.inr (Or.inl rfl) | exact Or.inr (Or.inr rfl)) (sr_cons se_int sr_nil)) (len_rIo (len_rCons len_rNil)))) sa_nil))) (sa_cons (se_tup (sa_cons se_int (sa_cons se_int sa_nil))) (sa_cons (se_tup (sa_cons se_int (sa_cons se_int sa_nil))) (sa_cons (se_tup (sa_cons se_int (sa_cons se_int sa_nil))) (sa_cons (se_tup (sa_cons se_int (sa_cons se_int sa_nil))) sa_nil))))))) (sg_tup rfl (sgs_cons (sg_name 4 nd rfl (by first | exact Or.inl rfl | exact Or.inr rfl) (by decide)) (sgs_cons (sg_name 5 nd rfl (by first | exact Or.inl rfl | exact Or.inr rfl) (by decide)) sgs_nil))) (ss_one (ss_if (st_not (st_tru (se_callD ((D__law_right_3 Y).mono (by decide)) hr hgd gx_pass rfl (sr_io 3 rfl (by first | exact Or.inl rfl | exact Or.inr (Or.inl rfl) | exact Or.inr (Or.inr rfl)) (sr_cons (se_tk (se_var 4)) (sr_cons (se_tk (se_var 5)) sr_nil))) (len_rIo (len_rCons (len_rCons len_rNil)))))) (ss_one (ss_ret se_bl)) ss_nil)))
    (ss_one (ss_if (st_w (sw_and (st_eq h64 (se_var 1) se_int) (sw_and1 (st_not (st_tru (se_callD ((D__law_right_3 Y).mono (by decide)) hr hgd gx_pass rfl (sr_io 3 rfl (by first | exact Or.inl rfl | exact Or.inr (Or.inl rfl) | exact Or.inr (Or.inr rfl)) (sr_cons se_int (sr_cons se_int sr_nil))) (len_rIo (len_rCons (len_rCons len_rNil))))))))) (ss_one (ss_ret se_bl)) ss_nil)))))
    (ss_cons (ss_set 2 nd rfl (by first | exact Or.inl rfl | exact Or.inr rfl) (by decide) (se_tk (se_lst (sa_cons (se_callD ((D_made_of_4 Y).mono (by decide)) hr hgd gx_pass rfl (sr_cons se_int (sr_cons se_int (sr_cons (se_tk (se_lst (sa_cons se_int (sa_cons se_int (sa_cons se_int (sa_cons se_int (sa_cons se_int (sa_cons se_int sa_nil)))))))) (sr_cons (se_tk (se_lst (sa_cons se_int (sa_cons se_int sa_nil)))) sr_nil)))) (len_rCons (len_rCons (len_rCons (len_rCons len_rNil))))) (sa_cons (se_callD ((D_stays_between_3 Y).mono (by decide)) hr hgd gx_pass rfl (sr_cons se_int (sr_cons se_int (sr_cons (se_tk (se_lst (sa_cons se_int (sa_cons se_int (sa_cons se_int (sa_cons se_int (sa_cons se_int (sa_cons se_int sa_nil)))))))) sr_nil))) (len_rCons (len_rCons (len_rCons len_rNil)))) sa_nil)))))
    (ss_cons (ss_set 2 nd rfl (by first | exact Or.inl rfl | exact Or.inr rfl) (by decide) (se_tk (se_add (se_var 2) (se_lst (sa_cons (se_callD ((D_is_even_3 Y).mono (by decide)) hr hgd gx_pass rfl (sr_cons se_int (sr_cons se_int (sr_cons (se_tk (se_lst (sa_cons se_int (sa_cons se_int (sa_cons se_int (sa_cons se_int (sa_cons se_int (sa_cons se_int sa_nil)))))))) sr_nil))) (len_rCons (len_rCons (len_rCons len_rNil)))) (sa_cons (se_callD ((D_is_even_3 Y).mono (by decide)) hr hgd gx_pass rfl (sr_cons se_int (sr_cons se_int (sr_cons (se_tk (se_lst (sa_cons se_int (sa_cons se_int (sa_cons se_int (sa_cons se_int (sa_cons se_int (sa_cons se_int sa_nil)))))))) sr_nil))) (len_rCons (len_rCons (len_rCons len_rNil)))) (sa_cons (se_callD ((D_is_even_3 Y).mono (by decide)) hr hgd gx_pass rfl (sr_cons se_int (sr_cons se_int (sr_cons (se_tk (se_lst (sa_cons se_int sa_nil))) sr_nil))) (len_rCons (len_rCons (len_rCons len_rNil)))) sa_nil)))))))
    (ss_one (ss_ret (se_and (se_eq h64 (se_var 2) (se_lst (sa_cons se_int (sa_cons se_bl (sa_cons se_bl (sa_cons se_bl (sa_cons se_bl sa_nil))))))) (se_oneA (se_is (se_callD ((D_is_even_3 Y).mono (by decide)) hr hgd gx_pass rfl (sr_cons se_int (sr_cons se_int (sr_cons (se_tk (se_lst (sa_cons se_int (sa_cons se_int (sa_cons se_int (sa_cons se_int (sa_cons se_int (sa_cons se_int sa_nil)))))))) sr_nil))) (len_rCons (len_rCons (len_rCons len_rNil)))) se_bl))))))))
theorem S_law : FnScope N_law ["_law_script"] (defScope (topS 36)) := ⟨rfl, rfl, rfl, by decide, rfl, by decide +kernel, by decide +kernel⟩
end K37
namespace Lw
open PySem Hb Nv L2
variable {α β γ σ ρ ζ : Type}
theorem bnd {p : Option α} {x : α} {f : α → Option β} {y : β} (h : p = some x) (h2 : f x = some y) : p.bind f = some y := by rw [h]; exact h2
theorem forS_inv (b : σ → α → Option σ) (P : Nat → σ → Prop) : ∀ (xs : List α) (k : Nat) (s : σ), P k s → (∀ (i : Nat) (x : α) (s : σ), xs[i]? = some x → P (k + i) s → ∃ s', b s x = some s' ∧ P (k + i + 1) s') → ∃ s', forS xs s b = some s' ∧ P (k + xs.length) s'
  | [], k, s, h, _ => ⟨s, rfl, h⟩
  | x :: r, k, s, h, hb => by
    obtain ⟨s1, e1, h1⟩ := hb 0 x s rfl h
    obtain ⟨s2, e2, h2⟩ := forS_inv b P r (k + 1) s1 h1 (fun i y s hy hp => by
      have e : k + 1 + i = k + (i + 1) := by omega
      rw [e] at hp ⊢
      exact hb (i + 1) y s (by simpa using hy) hp)
    refine ⟨s2, ?_, ?_⟩
    · show (b s x).bind _ = _
      rw [e1]; exact e2
    · rw [List.length_cons, show k + (r.length + 1) = k + 1 + r.length by omega]; exact h2
theorem forF_nx (b : σ → α → Option (Fl ρ σ)) (s : σ) : ∀ (xs : List α), (∀ x ∈ xs, b s x = some (.nx s)) → forF xs s b = some (.nx s)
  | [], _ => rfl
  | x :: r, h => by
    show (b s x).bind _ = _
    rw [h x (by simp)]
    exact forF_nx b s r fun y hy => h y (by simp [hy])
theorem forF_all (b : Unit → α → Option (Fl ρ Unit)) (v : ρ) (p : α → Bool) : ∀ (xs : List α), (∀ x ∈ xs, b () x = some (if p x = true then .nx () else .rt v)) → forF xs () b = some (if xs.all p = true then .nx () else .rt v)
  | [], _ => rfl
  | x :: r, h => by
    show (b () x).bind _ = _
    rw [h x (by simp), List.all_cons]
    cases hp : p x with
    | true => exact forF_all b v p r fun y hy => h y (by simp [hy])
    | false => rfl
/-- a loop that only looks: it ends at the first item that is not well -/
theorem mapF_ok (c : α → Option Bool) (g : α → Option γ) (p : α → Bool) (f : α → γ) : ∀ (xs : List α), (∀ x ∈ xs, c x = some (p x)) → (∀ x ∈ xs, p x = true → g x = some (f x)) → mapF xs c g = some ((xs.filter p).map f)
  | [], _, _ => rfl
  | x :: r, hc, hg => by
    have ih := mapF_ok c g p f r (fun y hy => hc y (by simp [hy])) (fun y hy => hg y (by simp [hy]))
    show (c x).bind _ = _
    rw [hc x (by simp), List.filter_cons]
    cases hp : p x with
    | true =>
      show (g x).bind _ = _
      rw [hg x (by simp) hp]
      show (mapF r c g).bind _ = _
      rw [ih]; rfl
    | false =>
      show mapF r c g = _
      rw [ih]; rfl
theorem mapT_ok (g : α → Option γ) (f : α → γ) (xs : List α) (hg : ∀ x ∈ xs, g x = some (f x)) : mapF xs (fun _ => some true) g = some (xs.map f) := by
  rw [mapF_ok (fun _ => some true) g (fun _ => true) f xs (fun _ _ => rfl) (fun x hx _ => hg x hx)]
  rw [List.filter_eq_self.mpr (fun _ _ => rfl)]
/-- the items that a test keeps -/
theorem mapC_ok (c : α → Option Bool) (p : α → Bool) (xs : List α) (hc : ∀ x ∈ xs, c x = some (p x)) : mapF xs c (fun x => some x) = some (xs.filter p) := by
  have := mapF_ok c (fun x => some x) p id xs hc (fun _ _ _ => rfl)
  rwa [List.map_id] at this
theorem whS_inv (c : σ → Option Bool) (b : σ → Option σ) (I : σ → Prop) (t : σ → Bool) (m : σ → Nat) (hc : ∀ s, I s → c s = some (t s)) (hb : ∀ s, I s → t s = true → ∃ s', b s = some s' ∧ I s' ∧ m s' < m s) : ∀ (n : Nat) (s : σ), I s → m s < n → ∃ s', whS n s c b = some s' ∧ I s' ∧ t s' = false
  | 0, s, _, h => absurd h (Nat.not_lt_zero _)
  | n + 1, s, hi, hm => by
    cases ht : t s with
    | false =>
      refine ⟨s, ?_, hi, ht⟩
      show (c s).bind _ = _
      rw [hc s hi, ht]; rfl
    | true =>
      obtain ⟨s1, e1, i1, m1⟩ := hb s hi ht
      obtain ⟨s2, e2, i2, t2⟩ := whS_inv c b I t m hc hb n s1 i1 (by omega)
      refine ⟨s2, ?_, i2, t2⟩
      show (c s).bind _ = _
      rw [hc s hi, ht]
      show (b s).bind _ = _
      rw [e1]; exact e2
def Wp (p : Option α) (Q : α → Prop) : Prop := ∃ z, p = some z ∧ Q z
theorem Wp.intro {p : Option α} {Q : α → Prop} {z : α} (h : p = some z) (q : Q z) : Wp p Q := ⟨z, h, q⟩
theorem Wp.some {Q : α → Prop} {z : α} (q : Q z) : Wp (some z) Q := ⟨z, rfl, q⟩
theorem Wp.bind {p : Option α} {f : α → Option β} {Q : β → Prop} {R : α → Prop} (h : Wp p R) (h2 : ∀ z, R z → Wp (f z) Q) : Wp (p.bind f) Q := by
  obtain ⟨z, e, r⟩ := h
  rw [e]; exact h2 z r
theorem Wp.wh {c : σ → Option Bool} {b : σ → Option σ} {n : Nat} {s : σ} {K : σ → Option ζ} {Q : ζ → Prop} (I : σ → Prop) (t : σ → Bool) (m : σ → Nat) (hc : ∀ s, I s → c s = Option.some (t s)) (hb : ∀ s, I s → t s = true → Wp (b s) fun s' => I s' ∧ m s' < m s) (hi : I s) (hm : m s < n) (hK : ∀ s, I s → t s = false → Wp (K s) Q) : Wp ((whS n s c b).bind K) Q := by
  obtain ⟨s', e, i, f⟩ := whS_inv c b I t m hc hb n s hi hm
  rw [e]; exact hK s' i f
theorem Wp.for {b : σ → α → Option σ} {xs : List α} {s : σ} {K : σ → Option ζ} {Q : ζ → Prop} (P : Nat → σ → Prop) (h : P 0 s) (hb : ∀ (i : Nat) (x : α) (s : σ), xs[i]? = Option.some x → P i s → Wp (b s x) (P (i + 1))) (hK : ∀ s, P xs.length s → Wp (K s) Q) : Wp ((forS xs s b).bind K) Q := by
  obtain ⟨s', e, i⟩ := forS_inv b P xs 0 s h (fun i x s hx hp => by rw [Nat.zero_add] at hp ⊢; exact hb i x s hx hp)
  rw [Nat.zero_add] at i
  rw [e]; exact hK s' i
theorem bs {α β : Type} (x : α) (f : α → Option β) : Option.bind (some x) f = f x := by rw [Option.bind_some]
theorem lenL_e {α : Type} (xs : List α) : lenL xs = some (xs.length : Int) := by unfold lenL; rfl
theorem addI_e (i j : Int) : addI i j = some (i + j) := by unfold addI; rfl
theorem subI_e (i j : Int) : subI i j = some (i - j) := by unfold subI; rfl
theorem ltI_e (i j : Int) : ltI i j = some (decide (i < j)) := by unfold ltI; rfl
theorem leI_e (i j : Int) : leI i j = some (decide (i ≤ j)) := by unfold leI; rfl
theorem gtI_e (i j : Int) : gtI i j = some (decide (j < i)) := by unfold gtI; rfl
theorem eqN_e {α : Type} [DecidableEq α] (x y : α) : eqN x y = some (decide (x = y)) := by unfold eqN; rfl
theorem neN_e {α : Type} [DecidableEq α] (x y : α) : neN x y = some (!decide (x = y)) := by unfold neN; rfl
theorem listL_e {α : Type} (xs : List α) : listL xs = some xs := by unfold listL; rfl
theorem tupL_e {α : Type} (xs : List α) : tupL xs = some ⟨xs⟩ := by unfold tupL; rfl
theorem intI_e (i : Int) : intI i = some i := by unfold intI; rfl
theorem absI_e (i : Int) : absI i = some (if i < 0 then -i else i) := by unfold absI; rfl
theorem allB_e (ns : List Bool) : allB ns = some (ns.all id) := by unfold allB; rfl
theorem maxI2_e (i j : Int) : maxI2 i j = some (if j > i then j else i) := by unfold maxI2; rfl
theorem minI2_e (i j : Int) : minI2 i j = some (if j < i then j else i) := by unfold minI2; rfl
/-- the numbers 0 .. n-1 -/
def iot (n : Nat) : List Int := (List.range n).map fun i : Nat => (i : Int)
theorem iot_len (n : Nat) : (iot n).length = n := by unfold iot; simp
theorem mem_iot {n : Nat} {x : Int} : x ∈ iot n ↔ 0 ≤ x ∧ x < n := by
  unfold iot
  rw [List.mem_map]
  constructor
  · rintro ⟨k, hk, rfl⟩
    rw [List.mem_range] at hk
    omega
  · rintro ⟨h0, h1⟩
    exact ⟨x.toNat, List.mem_range.mpr (by omega), by omega⟩
theorem iot_get {n k : Nat} (h : k < n) : (iot n)[k]? = some (k : Int) := by
  unfold iot
  rw [List.getElem?_map, List.getElem?_range h]; rfl
theorem iot_getI {n k : Nat} {x : Int} (h : (iot n)[k]? = some x) : x = k ∧ k < n := by
  unfold iot at h
  rw [List.getElem?_map] at h
  by_cases c : k < n
  · rw [List.getElem?_range c] at h
    exact ⟨(Option.some.inj h).symm, c⟩
  · rw [List.getElem?_eq_none (by simp; omega)] at h
    cases h
theorem rgI0 (n : Nat) : rgI 0 n = iot n := by
  unfold rgI iot
  refine List.map_congr_left fun i _ => ?_
  omega
theorem ri1_ok (n : Int) (h : n ≤ 1000000) (h0 : 0 ≤ n) : ri1 n = some (iot n.toNat) := by
  unfold ri1
  rw [if_pos (by omega), rgI0]
theorem ri1_nat (n : Nat) (h : n ≤ 1000000) : ri1 (n : Int) = some (iot n) := by
  rw [ri1_ok _ (by omega) (by omega)]; rfl
theorem ixN_nat {n k : Nat} (h : k < n) : ixN n (k : Int) = some k := by
  unfold ixN
  rw [if_pos (by omega), if_pos (by omega)]; rfl
theorem atL_nat {xs : List α} {k : Nat} {x : α} (h : xs[k]? = some x) : atL xs (k : Int) = some x := by
  have hk : k < xs.length := (List.getElem?_eq_some_iff.mp h).1
  show atI xs _ = _
  unfold atI
  rw [ixN_nat hk]
  exact h
theorem atL_lt {xs : List α} {k : Nat} (h : k < xs.length) : atL xs (k : Int) = some xs[k] := atL_nat (List.getElem?_eq_getElem h)
theorem atL_int {xs : List α} {i : Int} (h0 : 0 ≤ i) (h1 : i < xs.length) : ∃ x, atL xs i = some x ∧ xs[i.toNat]? = some x ∧ x ∈ xs := by
  have hk : i.toNat < xs.length := by omega
  refine ⟨xs[i.toNat], ?_, List.getElem?_eq_getElem hk, List.getElem_mem hk⟩
  have := atL_lt hk
  rwa [show ((i.toNat : Nat) : Int) = i by omega] at this
theorem atL_last {xs : List α} {x : α} (h : xs.getLast? = some x) : atL xs (-1) = some x := by
  have hne : xs ≠ [] := fun e => by rw [e] at h; cases h
  have hl : 0 < xs.length := List.length_pos_iff.mpr hne
  show atI xs _ = _
  unfold atI ixN
  rw [if_neg (by omega), if_pos (by omega)]
  show xs[_]? = _
  rw [show ∀ j, j = xs.length - 1 → xs[j]? = some x from fun j e => by rw [e, ← List.getLast?_eq_getElem?]; exact h]
  omega
theorem stI_nat {xs : List α} {k : Nat} (v : α) (h : k < xs.length) : Nv.stI xs (k : Int) v = some (xs.set k v) := by
  unfold Nv.stI; rw [ixN_nat h]; rfl
theorem stI_int {xs : List α} {i : Int} (v : α) (h0 : 0 ≤ i) (h1 : i < xs.length) : Nv.stI xs i v = some (xs.set i.toNat v) := by
  have := stI_nat (xs := xs) (k := i.toNat) v (by omega)
  rwa [show ((i.toNat : Nat) : Int) = i by omega] at this
theorem cap_ge {n : Nat} (h : n ≤ 100000) : n ≤ cap := by
  have : (100000 : Nat) ≤ cap := by decide
  omega
theorem apL_ok {xs : List α} (x : α) (h : xs.length ≤ 100000) : apL xs x = some (xs ++ [x]) := by
  unfold apL; rw [if_pos (cap_ge h)]
theorem catL_ok {xs ys : List α} (h : xs.length ≤ 100000) (h2 : ys.length ≤ 100000) : catL xs ys = some (xs ++ ys) := by
  unfold catL; rw [if_pos ⟨cap_ge h, cap_ge h2⟩]
theorem popL_ok {xs : List α} {i : Int} (h0 : 0 ≤ i) (h1 : i < xs.length) (h : xs.length ≤ 100000) : ∃ x, popL xs i = some (x, xs.eraseIdx i.toNat) ∧ xs[i.toNat]? = some x := by
  have hk : i.toNat < xs.length := by omega
  refine ⟨xs[i.toNat], ?_, List.getElem?_eq_getElem hk⟩
  unfold popL
  have e := ixN_nat hk
  rw [show ((i.toNat : Nat) : Int) = i by omega] at e
  rw [e]
  show (xs[_]?).bind _ = _
  rw [List.getElem?_eq_getElem hk]
  show (if _ then _ else _) = _
  rw [if_pos (cap_ge h)]
theorem mapT_cap {α γ : Type} {g : α → Option γ} {xs : List α} (f : α → γ) (hl : xs.length ≤ 100000) (hg : ∀ x ∈ xs, g x = some (f x)) : (if List.length xs ≤ cap then mapF xs (fun _ => some true) g else none) = some (xs.map f) := by
  rw [if_pos (cap_ge hl)]; exact mapT_ok g f xs hg
theorem mapC_cap {α : Type} {c : α → Option Bool} {xs : List α} (p : α → Bool) (hl : xs.length ≤ 100000) (hc : ∀ x ∈ xs, c x = some (p x)) : (if List.length xs ≤ cap then mapF xs c (fun x => some x) else none) = some (xs.filter p) := by
  rw [if_pos (cap_ge hl)]; exact mapC_ok c p xs hc
theorem neNil (xs : List α) : (true != List.isEmpty xs) = !xs.isEmpty := by cases xs <;> rfl
end Lw
namespace P
open PySem PySem.Spec PyProof.Rows L2 Hb Nv
open Enc (enc)
end P
namespace P
open PySem PySem.Spec PyProof.Rows L2 Hb Nv
open Enc (enc)
end P
namespace P
open PySem PySem.Spec PyProof.Rows L2 Hb Nv
open Enc (enc)
end P
namespace P
open PySem PySem.Spec PyProof.Rows L2 Hb Nv
open Enc (enc)
end P
namespace Lw
open PySem Hb Nv L2 P
theorem at0 (a b c : Int) : atL [a, b, c] 0 = some a := rfl
theorem at1 (a b c : Int) : atL [a, b, c] 1 = some b := rfl
theorem at2 (a b c : Int) : atL [a, b, c] 2 = some c := rfl
theorem st0 (a b c v : Int) : Nv.stI [a, b, c] 0 v = some [v, b, c] := rfl
theorem st2 (a b c v : Int) : Nv.stI [a, b, c] 2 v = some [a, b, v] := rfl
theorem pow18 : powW 10 18 = some 1000000000000000000 := by
  unfold powW; rw [if_pos (by decide)]; rfl
theorem modI_ok (i : Int) {j : Int} (h : 0 < j) : modI i j = some (i % j) := by unfold modI; rw [if_pos h]
theorem fdivW_ok (i : Int) {j : Int} (h : 0 < j) (h2 : j < 2 ^ 1000) : fdivW i j = some (i / j) := by unfold fdivW; rw [if_pos ⟨h, h2⟩]
theorem mulI_l (i j : Int) (h : i.natAbs < 2 ^ 64) : mulI i j = some (i * j) := by unfold mulI; rw [if_pos (.inl h)]
def Row (n : Nat) (r : List Int) : Prop := r.Perm (iot n)
theorem perm_erase {α : Type} : ∀ (l : List α) (j : Nat) (x : α), l[j]? = some x → (x :: l.eraseIdx j).Perm l
  | [], j, x, h => by simp at h
  | y :: r, 0, x, h => by
    simp at h; subst h; exact .refl _
  | y :: r, j + 1, x, h => by
    have ih := perm_erase r j x (by simpa using h)
    exact (List.Perm.swap y x _).trans (ih.cons y)
theorem perm_app1 {α : Type} (f : List α) (x : α) (l l' : List α) (h : (x :: l').Perm l) : (f ++ [x] ++ l').Perm (f ++ l) := by
  rw [List.append_assoc]
  exact List.Perm.append_left f h
end Lw
namespace P
open PySem PySem.Spec PyProof.Rows L2 Hb Nv
open Enc (enc)
end P
namespace P
open PySem PySem.Spec PyProof.Rows L2 Hb Nv
open Enc (enc)
end P
namespace P
open PySem PySem.Spec PyProof.Rows L2 Hb Nv
open Enc (enc)
end P
namespace P
open PySem PySem.Spec PyProof.Rows L2 Hb Nv
open Enc (enc)
end P
namespace Lw
open PySem Hb Nv L2 P
/-- where x stands -/
def pos (r : List Int) (x : Int) : Int := (r.idxOf x : Nat)
/-- what stands at k -/
def pat (r : List Int) (k : Int) : Int := (r[k.toNat]?).getD 0
def fl : Int → Int → List Int → Bool
  | _, _, [] => true
  | lo, hi, x :: r => if x = lo - 1 then fl (lo - 1) hi r else if x = hi + 1 then fl lo (hi + 1) r else false
def flq : List Int → Bool
  | [] => false
  | x :: r => fl x x r
def fallsB (p r : List Int) : Bool := flq (r.map (pos p))
end Lw
namespace Lw
open PySem Hb Nv L2 P
/-- the last first: what stands before is between -/
inductive Dn : Int → Int → List Int → Prop
  | one (x : Int) : Dn x x [x]
  | lo {lo hi : Int} {q : List Int} : Dn (lo + 1) hi q → Dn lo hi (lo :: q)
  | hi {lo hi : Int} {q : List Int} : Dn lo (hi - 1) q → Dn lo hi (hi :: q)
def FallQ (q : List Int) : Prop := ∃ l h, Dn l h q.reverse
end Lw
namespace P
open PySem PySem.Spec PyProof.Rows L2 Hb Nv
open Enc (enc)
end P
namespace P
open PySem PySem.Spec PyProof.Rows L2 Hb Nv
open Enc (enc)
end P
namespace Lw
open PySem Hb Nv L2 P
def Fal (p r : List Int) : Prop := FallQ (r.map (pos p))
end Lw
namespace P
open PySem PySem.Spec PyProof.Rows L2 Hb Nv
open Enc (enc)
end P
namespace P
open PySem PySem.Spec PyProof.Rows L2 Hb Nv
open Enc (enc)
end P
namespace Lw
open PySem Hb Nv L2 P
/-- the row with the two at k and k+1 exchanged -/
def ex2 (r : List Int) (k : Nat) : List Int := r.take k ++ [pat r ((k : Int) + 1), pat r (k : Int)] ++ r.drop (k + 2)
/-- two rows that differ by an exchange -/
def Nxt (a b : List Int) : Prop := ∃ k, k + 1 < a.length ∧ b = ex2 a k
def Lnk (f : List (List Int)) : Prop := ∀ i a b, f[i]? = some a → f[i + 1]? = some b → Nxt a b
end Lw
namespace P
open PySem PySem.Spec PyProof.Rows L2 Hb Nv
open Enc (enc)
end P
namespace P
open PySem PySem.Spec PyProof.Rows L2 Hb Nv
open Enc (enc)
end P
namespace P
open PySem PySem.Spec PyProof.Rows L2 Hb Nv
open Enc (enc)
end P
namespace P
open PySem PySem.Spec PyProof.Rows L2 Hb Nv
open Enc (enc)
end P
namespace P
open PySem PySem.Spec PyProof.Rows L2 Hb Nv
open Enc (enc)
end P
namespace P
open PySem PySem.Spec PyProof.Rows L2 Hb Nv
open Enc (enc)
end P
namespace Lw
open PySem Hb Nv L2 P
open Enc (enc)
theorem isi_i (i : Int) : isiN "int" (.int i) = some true := rfl
theorem isi_ib (i : Int) : isiN "bool" (.int i) = some false := rfl
theorem isi_b (i : Bool) : isiN "int" (.bool i) = some true := rfl
theorem isi_bb (i : Bool) : isiN "bool" (.bool i) = some true := rfl
theorem isi_ni {d : PyData} (h : ∀ i, d ≠ .int i) (h2 : ∀ i, d ≠ .bool i) : isiN "int" d = some false := by
  cases d with
  | int i => exact absurd rfl (h i)
  | bool i => exact absurd rfl (h2 i)
  | _ => rfl
theorem asI_i (i : Int) : asIntA (.int i) = some i := rfl
theorem bnot_t : (!true) = false := rfl
theorem bnot_f : (!false) = true := rfl
end Lw
namespace P
open PySem PySem.Spec PyProof.Rows L2 Hb Nv
open Enc (enc)
end P
namespace P
open PySem PySem.Spec PyProof.Rows L2 Hb Nv
open Enc (enc)
end P
namespace Lw
open PySem Hb Nv L2 P
open Enc (enc)
end Lw
namespace P
open PySem PySem.Spec PyProof.Rows L2 Hb Nv
open Enc (enc)
end P
namespace P
open PySem PySem.Spec PyProof.Rows L2 Hb Nv
open Enc (enc)
end P
namespace Lw
open PySem Hb Nv L2 P
open Enc (enc)
end Lw
namespace Lw
open PySem Hb Nv L2 P
open Enc (enc)
structure Vd (D W : Nat) (d : PyData) : Prop where
  hs : shw d = true
  hl : d.leavesShort 13 = true
  hd : d.depth ≤ D
  hw : d.weight ≤ W
structure Va (D W : Nat) (xs : List PyData) : Prop where
  s : shwAll xs = true
  l : PyData.leavesShortAll 13 xs = true
  d : PyData.depthAll xs ≤ D
  w : PyData.weightAll xs ≤ W
end Lw
namespace P
open PySem PySem.Spec PyProof.Rows L2 Hb Nv
open Enc (enc)
end P
namespace Lw
open PySem Hb Nv L2 P
open Enc (enc)
end Lw
namespace P
open PySem PySem.Spec PyProof.Rows L2 Hb Nv
open Enc (enc)
end P
namespace P
open PySem PySem.Spec PyProof.Rows L2 Hb Nv
open Enc (enc)
end P
namespace P
open PySem PySem.Spec PyProof.Rows L2 Hb Nv
open Enc (enc)
end P
namespace P
open PySem PySem.Spec PyProof.Rows L2 Hb Nv
open Enc (enc)
end P
namespace P
open PySem PySem.Spec PyProof.Rows L2 Hb Nv
open Enc (enc)
end P
namespace P
open PySem PySem.Spec PyProof.Rows L2 Hb Nv
open Enc (enc)
end P
namespace P
open PySem PySem.Spec PyProof.Rows L2 Hb Nv
open Enc (enc)
end P
namespace Lw
open PySem Hb Nv L2 P
open Enc (enc)
variable {α β γ σ ρ ζ : Type}
def inRng (lo : Int) (hi : Option Int) : PyData → Bool
  | .int i => decide (lo ≤ i) && (match hi with
    | none => true
    | some h => decide (i ≤ h))
  | _ => false
theorem integer_gen (d : PyData) (lo : Int) (hi : Option Int) : n_is_integer d lo hi = some (inRng lo hi d) := by
  by_cases h1 : ∃ i, d = .int i
  · obtain ⟨i, rfl⟩ := h1
    unfold n_is_integer inRng
    simp only [bs, isi_i, isi_ib, asI_i, leI_e, bnot_t, Bool.false_eq_true, if_false]
    by_cases c : lo ≤ i
    · rw [if_pos (decide_eq_true c)]
      simp only [decide_eq_true c, Bool.true_and]
      cases hi with
      | none => rfl
      | some h => rfl
    · rw [if_neg (by rw [decide_eq_true_eq]; exact c)]
      simp only [decide_eq_false c, Bool.false_and, bs]
  · by_cases h2 : ∃ i, d = .bool i
    · obtain ⟨b, rfl⟩ := h2
      unfold n_is_integer
      simp only [bs, isi_b, isi_bb, bnot_t, Bool.false_eq_true, if_false, if_true]
      rfl
    · have n1 : ∀ i, d ≠ .int i := fun i e => h1 ⟨i, e⟩
      have n2 : ∀ i, d ≠ .bool i := fun i e => h2 ⟨i, e⟩
      unfold n_is_integer
      simp only [bs, isi_ni n1 n2, bnot_f, if_true]
      cases d with
      | int i => exact absurd rfl (n1 i)
      | _ => rfl
theorem inRng_i {lo i : Int} {h : Int} (a : lo ≤ i) (b : i ≤ h) : inRng lo (some h) (.int i) = true := by
  unfold inRng
  simp only [decide_eq_true a, decide_eq_true b, Bool.and_self]
/-- the pairs (lesser first) of which D holds -/
def prsF (D : Int → Int → Bool) (a b : Int) : List (Int × Int) := if decide (a < b) && D a b then [(a, b)] else []
def prs (D : Int → Int → Bool) (n : Nat) : List (Int × Int) := (iot n).flatMap fun a => (iot n).flatMap fun b => prsF D a b
theorem forF_unit {b : Unit → α → Option (Fl ρ Unit)} {xs : List α} (h : ∀ x ∈ xs, b () x = some (.nx ())) : forF xs () b = some (.nx ()) := forF_nx b () xs h
end Lw
namespace P
open PySem PySem.Spec PyProof.Rows L2 Hb Nv
open Enc (enc)
end P
namespace P
open PySem PySem.Spec PyProof.Rows L2 Hb Nv
open Enc (enc)
end P
namespace P
open PySem PySem.Spec PyProof.Rows L2 Hb Nv
open Enc (enc)
end P
namespace P
open PySem PySem.Spec PyProof.Rows L2 Hb Nv
open Enc (enc)
end P
namespace P
open PySem PySem.Spec PyProof.Rows L2 Hb Nv
open Enc (enc)
end P
namespace Lw
open PySem Hb Nv L2 P
open Enc (enc)
variable {α β γ σ ρ ζ : Type}
end Lw
namespace P
open PySem PySem.Spec PyProof.Rows L2 Hb Nv
open Enc (enc)
end P
namespace P
open PySem PySem.Spec PyProof.Rows L2 Hb Nv
open Enc (enc)
end P
namespace P
open PySem PySem.Spec PyProof.Rows L2 Hb Nv
open Enc (enc)
end P
namespace Lw
open PySem Hb Nv L2 P
def Well (K : Int) (t : List Int) : Prop := ∃ a b c : Int, t = [a, b, c] ∧ 0 ≤ b ∧ b < 10 ^ 33 ∧ 0 ≤ c ∧ c ≤ K
theorem Well.mono {K K' : Int} {t : List Int} (h : Well K t) (l : K ≤ K') : Well K' t := by
  obtain ⟨a, b, c, e, h1, h2, h3, h4⟩ := h
  exact ⟨a, b, c, e, h1, h2, h3, by omega⟩
theorem powW_ok {i : Int} {k : Nat} (hk : k ≤ 64) (h : i.natAbs < 2 ^ 1024) : powW i (k : Int) = some (i ^ k) := by
  unfold powW
  rw [if_pos ⟨by omega, by omega, h⟩]
  congr 2
theorem p1031 : powW 10 31 = some (10 ^ 31) := powW_ok (k := 31) (by omega) (by decide)
theorem p1033 : powW 10 33 = some (10 ^ 33) := powW_ok (k := 33) (by omega) (by decide)
theorem p1027 : powW 10 27 = some (10 ^ 27) := powW_ok (k := 27) (by omega) (by decide)
theorem big1024 : (10 : Int) ^ 34 < 2 ^ 1024 := by decide
theorem nat_lt {x : Int} (h0 : 0 ≤ x) (h1 : x < 10 ^ 34) : x.natAbs < 2 ^ 1024 := by
  have := big1024
  have e : ((2 ^ 1024 : Nat) : Int) = (2 : Int) ^ 1024 := by norm_cast
  omega
theorem well_ok {ms : List Int} {k : Int} (h0 : 0 ≤ k) (h1 : k ≤ 100) : Wp (n__law_well ms k) (Well 0) := by
  have e0 : mulI 6700417 k = some (6700417 * k) := mulI_l _ _ (by decide)
  have e1 : ∀ x : Int, modI x (10 ^ 31 + 33) = some (x % (10 ^ 31 + 33)) := fun x => modI_ok x (by decide)
  have hb : ∀ x : Int, 0 ≤ x % (10 ^ 31 + 33) + 6700417 * k + 257 ∧ x % (10 ^ 31 + 33) + 6700417 * k + 257 < 10 ^ 33 := fun x => by
    have h2 := Int.emod_nonneg x (show ((10 : Int) ^ 31 + 33) ≠ 0 by decide)
    have h3 := Int.emod_lt_of_pos x (show (0 : Int) < 10 ^ 31 + 33 by decide)
    omega
  unfold n__law_well
  refine Wp.bind (R := fun _ => True) ?_ fun c _ => ?_
  · simp only [bs, lenL_e, ltI_e]
    by_cases c : k < ms.length
    · rw [if_pos (decide_eq_true c)]
      obtain ⟨x, ex, _⟩ := atL_int (xs := ms) h0 c
      exact .intro ex trivial
    · rw [if_neg (by simpa using c)]
      exact .some trivial
  · simp only [bs, pow18, subI_e, maxI2_e, absI_e, intI_e, p1031, addI_e, e0, e1]
    have e33 : (10 : Int) ^ 31 + 33 = 10 ^ 31 + 33 := rfl
    obtain ⟨g1, g2⟩ := hb (if c < 0 then -c else c)
    exact .some ⟨_, _, _, rfl, g1, g2, by omega, by omega⟩
theorem pick_ok {K : Int} {t : List Int} (ht : Well K t) (hK : K ≤ 10 ^ 15) {n : Int} (h0 : 0 < n) (h1 : n ≤ 10 ^ 31) : Wp (n__law_pick t n) fun z => Well (K + 1) z.2 ∧ 0 ≤ z.1 ∧ z.1 < n := by
  obtain ⟨a, b, c, rfl, b0, b1, c0, c1⟩ := ht
  have hn : n < 2 ^ 1000 := Int.lt_of_le_of_lt h1 (by decide)
  by_cases q : a > 0
  · refine ⟨(a % n, [a / n, b, c]), ?_, ⟨_, _, _, rfl, b0, b1, c0, by omega⟩, Int.emod_nonneg _ (by omega), Int.emod_lt_of_pos _ h0⟩
    unfold n__law_pick
    simp only [bs, at0, gtI_e, intI_e, modI_ok _ h0, fdivW_ok _ h0 hn, st0]
    rw [if_pos (decide_eq_true q)]
  · have m1 : mulI 524287 (c + 1) = some (524287 * (c + 1)) := mulI_l _ _ (by decide)
    have m2 : mulI 2097143 (c + 1) = some (2097143 * (c + 1)) := mulI_l _ _ (by decide)
    have q1 : powW (b + 524287 * (c + 1)) 5 = some ((b + 524287 * (c + 1)) ^ 5) := powW_ok (k := 5) (by omega) (nat_lt (by omega) (by omega))
    have e2 : ∀ x : Int, modI x (10 ^ 33 + 61) = some (x % (10 ^ 33 + 61)) := fun x => modI_ok x (by decide)
    have e3 : ∀ x : Int, modI x (10 ^ 27 + 103) = some (x % (10 ^ 27 + 103)) := fun x => modI_ok x (by decide)
    have e4 : ∀ x : Int, fdivW x 4093 = some (x / 4093) := fun x => fdivW_ok x (by decide) (by decide)
    have s0 := Int.emod_nonneg ((b + 524287 * (c + 1)) ^ 5) (show ((10 : Int) ^ 33 + 61) ≠ 0 by decide)
    have s1 := Int.emod_lt_of_pos ((b + 524287 * (c + 1)) ^ 5) (show (0 : Int) < 10 ^ 33 + 61 by decide)
    have q2 : powW ((b + 524287 * (c + 1)) ^ 5 % (10 ^ 33 + 61) + 2097143 * (c + 1)) 3 = some (((b + 524287 * (c + 1)) ^ 5 % (10 ^ 33 + 61) + 2097143 * (c + 1)) ^ 3) := by
      generalize (b + 524287 * (c + 1)) ^ 5 % (10 ^ 33 + 61) = s at s0 s1 ⊢
      exact powW_ok (k := 3) (by omega) (nat_lt (by omega) (by omega))
    refine ⟨((((b + 524287 * (c + 1)) ^ 5 % (10 ^ 33 + 61) + 2097143 * (c + 1)) ^ 3 % (10 ^ 27 + 103) / 4093) % n, [a, b, c + 1]), ?_, ⟨_, _, _, rfl, b0, b1, by omega, by omega⟩, Int.emod_nonneg _ (by omega), Int.emod_lt_of_pos _ h0⟩
    unfold n__law_pick
    simp only [bs, at0, at1, at2, gtI_e, addI_e, st2]
    rw [if_neg (by simpa using q)]
    simp only [at1, at2, bs, m1, m2, addI_e, q1, intI_e, p1033, p1027, e2, q2, e3, e4, modI_ok _ h0]
end Lw
namespace P
open PySem PySem.Spec PyProof.Rows L2 Hb Nv
open Enc (enc)
end P
namespace Lw
open PySem Hb Nv L2 P
open Enc (enc)
end Lw
namespace P
open PySem PySem.Spec PyProof.Rows L2 Hb Nv
open Enc (enc)
end P
namespace P
open PySem PySem.Spec PyProof.Rows L2 Hb Nv
open Enc (enc)
end P
namespace P
open PySem PySem.Spec PyProof.Rows L2 Hb Nv
open Enc (enc)
end P
namespace P
open PySem PySem.Spec PyProof.Rows L2 Hb Nv
open Enc (enc)
end P
namespace P
open PySem PySem.Spec PyProof.Rows L2 Hb Nv
open Enc (enc)
end P
namespace P
open PySem PySem.Spec PyProof.Rows L2 Hb Nv
open Enc (enc)
end P
namespace P
open PySem PySem.Spec PyProof.Rows L2 Hb Nv
open Enc (enc)
end P
namespace P
open PySem PySem.Spec PyProof.Rows L2 Hb Nv
open Enc (enc)
end P
namespace P
open PySem PySem.Spec PyProof.Rows L2 Hb Nv
open Enc (enc)
end P
namespace P
open PySem PySem.Spec PyProof.Rows L2 Hb Nv
open Enc (enc)
end P
namespace P
open PySem PySem.Spec PyProof.Rows L2 Hb Nv
open Enc (enc)
end P
namespace P
open PySem PySem.Spec PyProof.Rows L2 Hb Nv
open Enc (enc)
end P
namespace P
open PySem PySem.Spec PyProof.Rows L2 Hb Nv
open Enc (enc)
end P
namespace Lw
open PySem Hb Nv L2 P
open Enc (enc)
end Lw
namespace Lw
open PySem Hb Nv L2 P
open Enc (enc)
variable {n : Nat} {p : List Int}
end Lw
namespace P
open PySem PySem.Spec PyProof.Rows L2 Hb Nv
open Enc (enc)
end P
namespace P
open PySem PySem.Spec PyProof.Rows L2 Hb Nv
open Enc (enc)
end P
namespace P
open PySem PySem.Spec PyProof.Rows L2 Hb Nv
open Enc (enc)
end P
namespace Lw
open PySem Hb Nv L2 P
end Lw
namespace P
open PySem PySem.Spec PyProof.Rows L2 Hb Nv
open Enc (enc)
end P
namespace P
open PySem PySem.Spec PyProof.Rows L2 Hb Nv
open Enc (enc)
end P
namespace P
open PySem PySem.Spec PyProof.Rows L2 Hb Nv
open Enc (enc)
end P
namespace P
open PySem PySem.Spec PyProof.Rows L2 Hb Nv
open Enc (enc)
end P
namespace Lw
open PySem Hb Nv L2 P
open Enc (enc)
structure Vb (D W : Nat) (d : PyData) : Prop where
  hs : shw d = true
  hl : d.leavesShort 40 = true
  hd : d.depth ≤ D
  hw : d.bulk ≤ W
theorem vb_int {i : Int} (h0 : 0 ≤ i) (h1 : i < 10 ^ 40) : Vb 0 0 (.int i) := by
  refine ⟨?_, ?_, by simp [PyData.depth], by simp [PyData.bulk]⟩
  · show decide _ = true
    refine decide_eq_true ?_
    by_cases c : i.natAbs = 0
    · rw [c]; decide
    · rw [Nat.log2_lt c]
      have : (10 : Nat) ^ 40 < 2 ^ 1920 := by decide
      omega
  · show decide _ = true
    exact decide_eq_true (PyProof.Rows.toString_length_le h0 (by omega) h1)
theorem vb_repr {D W : Nat} {d : PyData} (h : Vb D W d) (hD : D ≤ 60) (hW : W ≤ 2 ^ 18) : reprN d = some d.shown := by
  have h2 := h.hw
  have h3 := h.hd
  have h4 := PyData.shown_le_bulk 40 (by omega) d h.hl
  have h5 : d.shown.length ≤ sizeLine := by
    have : sizeLine = 2 ^ 24 := rfl
    omega
  unfold reprN
  rw [if_pos ⟨⟨h.hs, by omega⟩, h5⟩]
def Wts (w : List Int) : Prop := ∀ x ∈ w, 0 ≤ x ∧ x ≤ 10 ^ 30
section
variable {n : Nat} {p : List Int} {f : List (List Int)} {w : List Int}
/-- all that is asked of the arguments -/
structure Crd (n : Nat) (p : List Int) (f : List (List Int)) (w : List Int) : Prop where
  hp : Row n p
  hf : ∀ z ∈ f, Row n z
  h1 : 1 ≤ n
  hn : n ≤ 12
  hl : f.length ≤ 40
  hw : Wts w
  e : f.length = w.length
end
end Lw
namespace Lw
open PySem Hb Nv L2 P
open Enc (enc)
variable {n : Nat} {p : List Int} {f : List (List Int)} {w : List Int}
end Lw
namespace P
open PySem PySem.Spec PyProof.Rows L2 Hb Nv
open Enc (enc)
end P
namespace Lw
open PySem Hb Nv L2 P
end Lw
namespace P
open PySem PySem.Spec PyProof.Rows L2 Hb Nv
open Enc (enc)
end P
namespace Lw
open PySem Hb Nv L2 P
open Enc (enc)
variable {α β γ σ ρ ζ : Type}
end Lw
namespace P
open PySem PySem.Spec PyProof.Rows L2 Hb Nv
open Enc (enc)
end P
namespace P
open PySem PySem.Spec PyProof.Rows L2 Hb Nv
open Enc (enc)
end P
namespace P
open PySem PySem.Spec PyProof.Rows L2 Hb Nv
open Enc (enc)
end P
namespace P
open PySem PySem.Spec PyProof.Rows L2 Hb Nv
open Enc (enc)
end P
namespace P
open PySem PySem.Spec PyProof.Rows L2 Hb Nv
open Enc (enc)
end P
namespace P
open PySem PySem.Spec PyProof.Rows L2 Hb Nv
open Enc (enc)
end P
namespace P
open PySem PySem.Spec PyProof.Rows L2 Hb Nv
open Enc (enc)
end P
namespace P
open PySem PySem.Spec PyProof.Rows L2 Hb Nv
open Enc (enc)
end P
namespace P
open PySem PySem.Spec PyProof.Rows L2 Hb Nv
open Enc (enc)
end P
namespace P
open PySem PySem.Spec PyProof.Rows L2 Hb Nv
open Enc (enc)
end P
namespace Lw
open PySem Hb Nv L2 P
open Enc (enc)
variable {α β γ σ ρ ζ : Type}
theorem forF_first (g : α → Option ρ) (b : Unit → α → Option (Fl ρ Unit)) : ∀ (xs : List α), (∀ x ∈ xs, b () x = some (match g x with | none => .nx () | some r => .rt r)) → forF xs () b = some (match xs.findSome? g with | none => .nx () | some r => .rt r)
  | [], _ => rfl
  | x :: r, h => by
    have ih := forF_first g b r fun y hy => h y (by simp [hy])
    show (b () x).bind _ = _
    rw [h x (by simp), List.findSome?_cons]
    cases q : g x with
    | none => simp only [bs]; exact ih
    | some v => rfl
end Lw
namespace Lw
open PySem Hb Nv L2 P
open Enc (enc)
section
variable {M : Int → Int → Int}
end
end Lw
namespace Lw
open PySem Hb Nv L2 P
open Enc (enc)
variable {n : Nat} {p : List Int}
end Lw
namespace Lw
section
variable {π : Type}
variable {P : List π}
/-- what v differs in, w differs in, too -/
def Sub (P : List π) (e u v : π → Bool) : Prop := ∀ p ∈ P, e p ≠ u p → e p ≠ v p
end
end Lw
namespace P
open PySem PySem.Spec PyProof.Rows L2 Hb Nv
open Enc (enc)
end P
namespace P
open PySem PySem.Spec PyProof.Rows L2 Hb Nv
open Enc (enc)
end P
namespace P
open PySem PySem.Spec PyProof.Rows L2 Hb Nv
open Enc (enc)
end P
namespace P
open PySem PySem.Spec PyProof.Rows L2 Hb Nv
open Enc (enc)
end P
namespace P
open PySem PySem.Spec PyProof.Rows L2 Hb Nv
open Enc (enc)
end P
namespace Lw
open PySem Hb Nv L2 P
open Enc (enc)
variable {n : Nat} {f : List (List Int)}
def pairs (n : Nat) : List (Int × Int) := prs (fun _ _ => true) n
def sd (r : List Int) (p : Int × Int) : Bool := decide (pos r p.1 < pos r p.2)
/-- the ballot of an index -/
def ath (f : List (List Int)) (i : Int) : List Int := f.getD i.toNat []
end Lw
namespace Lw
open PySem Hb Nv L2 P
open Enc (enc)
variable {n : Nat} {f : List (List Int)}
end Lw
namespace P
open PySem PySem.Spec PyProof.Rows L2 Hb Nv
open Enc (enc)
end P
namespace Lw
open PySem Hb Nv L2 P
open Enc (enc)
variable {n : Nat} {f : List (List Int)}
variable {w : List Int}
end Lw
namespace P
open PySem PySem.Spec PyProof.Rows L2 Hb Nv
open Enc (enc)
end P
namespace Lw
open PySem Hb Nv L2 P
open Enc (enc)
variable {n : Nat} {f : List (List Int)} {w : List Int}
end Lw
namespace Lw
open PySem Hb Nv L2 P
open Enc (enc)
variable {n : Nat} {f : List (List Int)} {w : List Int}
end Lw
namespace P
open PySem PySem.Spec PyProof.Rows L2 Hb Nv
open Enc (enc)
end P
namespace P
open PySem PySem.Spec PyProof.Rows L2 Hb Nv
open Enc (enc)
end P
namespace Lw
open PySem Hb Nv L2 P
open Enc (enc)
variable {n : Nat}
/-- what has been found, and what is at hand -/
structure Tu (n : Nat) (b : List Int) (f : List (List Int)) (l : List Int) : Prop where
  row : Row n l
  rows : ∀ r ∈ f, Row n r
  up : ∀ i j : Nat, i ≤ j → j < f.length → Sub (pairs n) (sd b) (sd (ath f (i : Int))) (sd (ath f (j : Int)))
  last : ∀ i : Nat, i < f.length → Sub (pairs n) (sd b) (sd (ath f (i : Int))) (sd l)
end Lw
namespace P
open PySem PySem.Spec PyProof.Rows L2 Hb Nv
open Enc (enc)
end P
namespace P
open PySem PySem.Spec PyProof.Rows L2 Hb Nv
open Enc (enc)
end P
namespace P
open PySem PySem.Spec PyProof.Rows L2 Hb Nv
open Enc (enc)
end P
namespace P
open PySem PySem.Spec PyProof.Rows L2 Hb Nv
open Enc (enc)
end P
namespace P
open PySem PySem.Spec PyProof.Rows L2 Hb Nv
open Enc (enc)
end P
namespace P
open PySem PySem.Spec PyProof.Rows L2 Hb Nv
open Enc (enc)
end P
namespace Lw
namespace K21
open PySem Hb Nv L2 P
open Enc (enc)
end K21
end Lw
namespace P
open PySem PySem.Spec PyProof.Rows L2 Hb Nv
open Enc (enc)
end P
namespace Lw
namespace K21
open PySem Hb Nv L2 P
open Enc (enc)
end K21
end Lw
namespace P
open PySem PySem.Spec PyProof.Rows L2 Hb Nv
open Enc (enc)
end P
namespace P
open PySem PySem.Spec PyProof.Rows L2 Hb Nv
open Enc (enc)
end P
namespace P
open PySem PySem.Spec PyProof.Rows L2 Hb Nv
open Enc (enc)
end P
namespace P
open PySem PySem.Spec PyProof.Rows L2 Hb Nv
open Enc (enc)
end P
namespace P
open PySem PySem.Spec PyProof.Rows L2 Hb Nv
open Enc (enc)
end P
namespace P
open PySem PySem.Spec PyProof.Rows L2 Hb Nv
open Enc (enc)
end P
namespace P
open PySem PySem.Spec PyProof.Rows L2 Hb Nv
open Enc (enc)
end P
namespace Lw
namespace K21
open PySem Hb Nv L2 P
open Enc (enc)
end K21
end Lw
namespace Lw
namespace K21
open PySem Hb Nv L2 P
open Enc (enc)
section
variable {α β : Type} [DecidableEq α] [DecidableEq β]
/-- in how many ways equal ones may be exchanged -/
def Fct : List α → Nat
  | [] => 1
  | x :: r => (r.count x + 1) * Fct r
end
end K21
end Lw
namespace Lw
namespace K21
open PySem Hb Nv L2 P
open Enc (enc)
variable {n : Nat} {f : List (List Int)}
end K21
end Lw
namespace P
open PySem PySem.Spec PyProof.Rows L2 Hb Nv
open Enc (enc)
end P
namespace Lw
namespace K21
open PySem Hb Nv L2 P
open Enc (enc)
def fac : Nat → Nat
  | 0 => 1
  | k + 1 => (k + 1) * fac k
section
variable {κ : Type} [DecidableEq κ]
def lk (l : List (κ × Int)) (k : κ) : Option Int := (l.find? fun p => decide (p.1 = k)).map (·.2)
/-- the product of the factorials of what is held -/
def PF : List (κ × Int) → Nat
  | [] => 1
  | p :: r => fac p.2.toNat * PF r
/-- what the groups hold of what has been passed -/
structure Gr (pre : List κ) (g : List (κ × Int)) : Prop where
  nd : (g.map Prod.fst).Nodup
  mem : ∀ k, k ∈ g.map Prod.fst ↔ k ∈ pre
  cnt : ∀ k, k ∈ pre → lk g k = some (pre.count k : Int)
  pf : PF g = Fct pre
  pos : ∀ p ∈ g, 0 < p.2
  len : g.length ≤ pre.length
end
variable {n : Nat} {f : List (List Int)}
end K21
end Lw
namespace P
open PySem PySem.Spec PyProof.Rows L2 Hb Nv
open Enc (enc)
end P
namespace P
open PySem PySem.Spec PyProof.Rows L2 Hb Nv
open Enc (enc)
end P
namespace P
open PySem PySem.Spec PyProof.Rows L2 Hb Nv
open Enc (enc)
end P
namespace P
open PySem PySem.Spec PyProof.Rows L2 Hb Nv
open Enc (enc)
end P
namespace P
open PySem PySem.Spec PyProof.Rows L2 Hb Nv
open Enc (enc)
end P
namespace P
open PySem PySem.Spec PyProof.Rows L2 Hb Nv
open Enc (enc)
end P
namespace Lw
namespace K21
open PySem Hb Nv L2 P PyProof.Rows
open Enc (enc)
variable {n : Nat} {f : List (List Int)}
end K21
end Lw
namespace Lw
namespace K21
open PySem Hb Nv L2 P PyProof.Rows
open Enc (enc)
variable {n : Nat} {f : List (List Int)}
end K21
end Lw
namespace P
open PySem PySem.Spec PyProof.Rows L2 Hb Nv
open Enc (enc)
end P
namespace P
open PySem PySem.Spec PyProof.Rows L2 Hb Nv
open Enc (enc)
end P
namespace P
open PySem PySem.Spec PyProof.Rows L2 Hb Nv
open Enc (enc)
end P
namespace Lw
namespace K21
open PySem Hb Nv L2 P PyProof.Rows
open Enc (enc)
end K21
end Lw
namespace P
open PySem PySem.Spec PyProof.Rows L2 Hb Nv
open Enc (enc)
end P
namespace P
open PySem PySem.Spec PyProof.Rows L2 Hb Nv
open Enc (enc)
end P
namespace P
open PySem PySem.Spec PyProof.Rows L2 Hb Nv
open Enc (enc)
end P
namespace P
open PySem PySem.Spec PyProof.Rows L2 Hb Nv
open Enc (enc)
end P
namespace Lw
open PySem Hb Nv L2 P
open Enc (enc)
theorem mapE_well {α γ : Type} (g : List Int → α → Option (γ × List Int)) (Q : γ → Prop) (k : Nat) : ∀ (xs : List α) (K : Int) (t : List Int), Well K t → K + k * xs.length ≤ 10 ^ 14 → (∀ K t, Well K t → K + k ≤ 10 ^ 14 → ∀ x ∈ xs, ∃ y s', g t x = some (y, s') ∧ Q y ∧ Well (K + k) s') → ∃ ys s', mapE xs t g = some (ys, s') ∧ ys.length = xs.length ∧ (∀ y ∈ ys, Q y) ∧ Well (K + k * xs.length) s'
  | [], K, s, h, _, _ => ⟨[], s, rfl, rfl, by simp, h.mono (by simp)⟩
  | x :: r, K, s, h, hK, hg => by
    have e : (k : Int) * ((x :: r).length : Nat) = k + k * (r.length : Nat) := by
      rw [List.length_cons, Int.natCast_add, Int.mul_add]; simp; omega
    have e0 : 0 ≤ (k : Int) * (r.length : Nat) := Int.mul_nonneg (by omega) (by omega)
    rw [e] at hK ⊢
    obtain ⟨y, s1, e1, q1, h1⟩ := hg K s h (by omega) x (by simp)
    obtain ⟨ys, s2, e2, l2, q2, h2⟩ := mapE_well g Q k r (K + k) s1 h1 (by omega) fun K s hs hk z hz => hg K s hs hk z (by simp [hz])
    refine ⟨y :: ys, s2, ?_, by simp [l2], ?_, h2.mono (by omega)⟩
    · show (g s x).bind _ = _
      rw [e1]
      show (mapE r s1 g).bind _ = _
      rw [e2]; rfl
    · intro z hz
      rcases List.mem_cons.mp hz with rfl | hz
      · exact q1
      · exact q2 z hz
variable {n : Nat} {p : List Int} {f : List (List Int)} {w : List Int}
end Lw
namespace Lw
namespace K68
open PySem Hb Nv L2 P
open Enc (enc)
variable {n : Nat} {f : List (List Int)} {w : List Int}
end K68
end Lw
namespace Lw
namespace Ln
open PySem Hb Nv L2 P
open Enc (enc)

end Ln
end Lw
namespace P
open PySem PySem.Spec PyProof.Rows L2 Hb Nv
open Enc (enc)
end P
namespace P
open PySem PySem.Spec PyProof.Rows L2 Hb Nv
open Enc (enc)
end P
namespace P
open PySem PySem.Spec PyProof.Rows L2 Hb Nv
open Enc (enc)
end P
namespace P
open PySem PySem.Spec PyProof.Rows L2 Hb Nv
open Enc (enc)
end P
namespace P
open PySem PySem.Spec PyProof.Rows L2 Hb Nv
open Enc (enc)
end P
namespace P
open PySem PySem.Spec PyProof.Rows L2 Hb Nv
open Enc (enc)
end P
namespace P
open PySem PySem.Spec PyProof.Rows L2 Hb Nv
open Enc (enc)
end P
namespace P
open PySem PySem.Spec PyProof.Rows L2 Hb Nv
open Enc (enc)
end P
namespace P
open PySem PySem.Spec PyProof.Rows L2 Hb Nv
open Enc (enc)
end P
namespace P
open PySem PySem.Spec PyProof.Rows L2 Hb Nv
open Enc (enc)
end P
namespace P
open PySem PySem.Spec PyProof.Rows L2 Hb Nv
open Enc (enc)
end P
namespace P
open PySem PySem.Spec PyProof.Rows L2 Hb Nv
open Enc (enc)
end P
namespace P
open PySem PySem.Spec PyProof.Rows L2 Hb Nv
open Enc (enc)
end P
namespace P
open PySem PySem.Spec PyProof.Rows L2 Hb Nv
open Enc (enc)
end P
namespace P
open PySem PySem.Spec PyProof.Rows L2 Hb Nv
open Enc (enc)
end P
namespace P
open PySem PySem.Spec PyProof.Rows L2 Hb Nv
open Enc (enc)
end P
namespace P
open PySem PySem.Spec PyProof.Rows L2 Hb Nv
open Enc (enc)
end P
namespace P
open PySem PySem.Spec PyProof.Rows L2 Hb Nv
open Enc (enc)
end P
namespace Lw
namespace Ln
open PySem Hb Nv L2 P PyProof.Rows
open Enc (enc)

variable {n : Nat} {f : List (List Int)}
end Ln
end Lw
namespace Lw
namespace Ln
open PySem Hb Nv L2 P PyProof.Rows
open Enc (enc)

variable {n : Nat} {f : List (List Int)}
/-- the places that may come next: those left, and none left is barred -/
def nx (n : Nat) (T : Int → Int → Nat) (L : Nat) (c : Option Int) : List Int := (iot n).filter fun x => L.testBit x.toNat && c.all fun l => decide (T l x &&& L = 0)
def cnt (n L : Nat) : Nat := ((iot n).filter fun x => L.testBit x.toNat).length
/-- all that may stand behind: how many, what is left, what came last -/
def sf (n : Nat) (T : Int → Int → Nat) : Nat → Nat → Option Int → List (List Int)
  | 0, _, _ => [[]]
  | k + 1, L, c => (nx n T L c).flatMap fun x => (sf n T k (L ^^^ 2 ^ x.toNat) (some x)).map (x :: ·)
end Ln
end Lw
namespace Lw
namespace Ln
open PySem Hb Nv L2 P PyProof.Rows
open Enc (enc)

variable {n : Nat} {T : Int → Int → Nat}
/-- what the dict of the dead may hold -/
structure Dd (n : Nat) (T : Int → Int → Nat) (d : Dc (Tp Int) Bool) : Prop where
  nd : (d.l.map Prod.fst).Nodup
  ok : ∀ e ∈ d.l.map Prod.fst, ∃ (L : Nat) (x : Int), e = TKy.tp ((L : Int), x) ∧ L < 2 ^ n ∧ (0 ≤ x ∧ x < n) ∧ sf n T (cnt n L) L (some x) = []
end Ln
end Lw
namespace Lw
namespace Ln
open PySem Hb Nv L2 P PyProof.Rows
open Enc (enc)
variable {n : Nat} {f : List (List Int)} {T : Int → Int → Nat}
end Ln
end Lw
namespace P
open PySem PySem.Spec PyProof.Rows L2 Hb Nv
open Enc (enc)
end P
namespace P
open PySem PySem.Spec PyProof.Rows L2 Hb Nv
open Enc (enc)
end P
namespace P
open PySem PySem.Spec PyProof.Rows L2 Hb Nv
open Enc (enc)
end P
namespace P
open PySem PySem.Spec PyProof.Rows L2 Hb Nv
open Enc (enc)
end P
namespace P
open PySem PySem.Spec PyProof.Rows L2 Hb Nv
open Enc (enc)
end P
namespace P
open PySem PySem.Spec PyProof.Rows L2 Hb Nv
open Enc (enc)
end P
namespace P
open PySem PySem.Spec PyProof.Rows L2 Hb Nv
open Enc (enc)
end P
namespace P
open PySem PySem.Spec PyProof.Rows L2 Hb Nv
open Enc (enc)
end P
namespace Lw
namespace Rg
open PySem Hb Nv L2 P PyProof.Rows
open Enc (enc)

variable {n : Nat} {f : List (List Int)}
end Rg
end Lw
namespace Lw
namespace Ln
open PySem Hb Nv L2 P PyProof.Rows
open Enc (enc)

variable {n : Nat} {f : List (List Int)}
end Ln
end Lw
namespace Lw
namespace Ln
open PySem Hb Nv L2 P
open Enc (enc)

variable {n : Nat} {f : List (List Int)} {w : List Int} {p : List Int}
section
variable (c : Crd n p f w) (h : f.all (fallsB p) = true) (odd : w.sum % 2 ≠ 0)
include c h odd
end
end Ln
end Lw
namespace P
open PySem PySem.Spec PyProof.Rows L2 Hb Nv
open Enc (enc)
end P
namespace P
open PySem PySem.Spec PyProof.Rows L2 Hb Nv
open Enc (enc)
end P
namespace Lw
namespace K67
open PySem Hb Nv L2 P
open Enc (enc)
open Ln
variable {α β γ σ ρ ζ : Type} {n : Nat} {f : List (List Int)}
theorem srtC_is {a b : List Int} (hl : a.length ≤ 100000) (hp : b.Perm a) (hs : b.Pairwise (· ≤ ·)) : srtC a = some b := by
  unfold srtC
  rw [if_pos (cap_ge hl), ← sortI_eq hp hs]
end K67
end Lw
namespace Lw
namespace Ru
open PySem Hb Nv L2 P
open Enc (enc)
variable {n p : Nat}
def lastD (t : List Int) : Int := t.getLast?.getD 0
def tl (n : Nat) : Nat → List (List Int)
  | 0 => [[]]
  | p + 1 => (tl n p).flatMap fun t => ((iot n).drop (lastD t).toNat).map fun x => t ++ [x]
/-- what is told, in sequence -/
def Tg (n p : Nat) (t : List Int) : Prop := t.length = p ∧ t.Pairwise (· ≤ ·) ∧ ∀ x ∈ t, 0 ≤ x ∧ x < n
/-- what is told -/
def Td (n p : Nat) (t : List Int) : Prop := t.length = p ∧ ∀ x ∈ t, 0 ≤ x ∧ x < n
theorem mem_drop_iot {k : Nat} {x : Int} : x ∈ (iot n).drop k ↔ (k : Int) ≤ x ∧ x < n := by
  rw [List.mem_iff_getElem?]
  constructor
  · rintro ⟨i, hi⟩
    rw [List.getElem?_drop] at hi
    obtain ⟨h1, h2⟩ := iot_getI hi
    omega
  · rintro ⟨h1, h2⟩
    refine ⟨x.toNat - k, ?_⟩
    rw [List.getElem?_drop, show k + (x.toNat - k) = x.toNat by omega, iot_get (by omega)]
    congr 1
    omega
theorem lastD_app (s : List Int) (x : Int) : lastD (s ++ [x]) = x := by
  unfold lastD
  simp
theorem last_le {s : List Int} (h : s.Pairwise (· ≤ ·)) : ∀ y ∈ s, y ≤ lastD s := by
  rcases List.eq_nil_or_concat s with rfl | ⟨r, x, rfl⟩
  · exact fun y hy => nomatch hy
  · intro y hy
    rw [List.concat_eq_append] at hy h ⊢
    rw [lastD_app]
    rcases List.mem_append.mp hy with hy | hy
    · exact (List.pairwise_append.mp h).2.2 y hy x (by simp)
    · rw [List.mem_singleton.mp hy]
      exact Int.le_refl _
theorem last_nn {s : List Int} (h : ∀ x ∈ s, 0 ≤ x ∧ x < n) : 0 ≤ lastD s := by
  rcases List.eq_nil_or_concat s with rfl | ⟨r, x, rfl⟩
  · exact Int.le_refl _
  · rw [List.concat_eq_append] at h ⊢
    rw [lastD_app]
    exact (h x (by simp)).1
theorem mem_tl : ∀ {p : Nat} {t : List Int}, t ∈ tl n p ↔ Tg n p t
  | 0, t => by
    unfold tl Tg
    constructor
    · intro h
      rw [List.mem_singleton.mp h]
      exact ⟨rfl, .nil, fun _ h => nomatch h⟩
    · intro h
      rw [List.length_eq_zero_iff.mp h.1]
      simp
  | p + 1, t => by
    unfold tl
    rw [List.mem_flatMap]
    constructor
    · rintro ⟨s, hs, ht⟩
      obtain ⟨x, hx, rfl⟩ := List.mem_map.mp ht
      obtain ⟨h1, h2, h3⟩ := mem_tl.mp hs
      have hx := mem_drop_iot.mp hx
      have nn := last_nn h3
      refine ⟨by simp [h1], List.pairwise_append.mpr ⟨h2, by simp, fun a ha b hb => ?_⟩, fun y hy => ?_⟩
      · rw [List.mem_singleton.mp hb]
        have := last_le h2 a ha
        omega
      · rcases List.mem_append.mp hy with hy | hy
        · exact h3 y hy
        · rw [List.mem_singleton.mp hy]
          omega
    · rintro ⟨h1, h2, h3⟩
      rcases List.eq_nil_or_concat t with rfl | ⟨s, x, rfl⟩
      · simp at h1
      · rw [List.concat_eq_append] at h1 h2 h3 ⊢
        obtain ⟨q1, _, q3⟩ := List.pairwise_append.mp h2
        have h4 : ∀ y ∈ s, 0 ≤ y ∧ y < n := fun y hy => h3 y (List.mem_append_left _ hy)
        have hs : s ∈ tl n p := mem_tl.mpr ⟨by simpa using h1, q1, h4⟩
        have hx := h3 x (by simp)
        refine ⟨s, hs, List.mem_map.mpr ⟨x, mem_drop_iot.mpr ⟨?_, hx.2⟩, rfl⟩⟩
        have nn := last_nn h4
        have : lastD s ≤ x := by
          rcases List.eq_nil_or_concat s with rfl | ⟨r, y, rfl⟩
          · exact hx.1
          · rw [List.concat_eq_append] at q3 ⊢
            rw [lastD_app]
            exact q3 y (by simp) x (by simp)
        omega
theorem tl_nodup : ∀ n < 7, ∀ p < 6, (tl n p).Nodup := by decide +kernel
theorem tl_len : ∀ n < 7, ∀ p < 6, (tl n p).length ≤ 252 := by decide +kernel
def med (l : List Int) (p : Nat) : Int := ((sortI l)[p]?).getD 0
theorem cnt_perm {l m : List Int} (h : l.Perm m) (q : Int → Bool) : l.countP q = m.countP q := h.countP_eq q
theorem med_get {l : List Int} (h : l.length = 2 * p + 1) : (sortI l)[p]? = some (med l p) := by
  have : (sortI l).length = l.length := (sortI_perm l).length_eq
  unfold med
  rw [List.getElem?_eq_getElem (by omega)]
  rfl
/-- how many stand on both sides of it -/
theorem med_side {l : List Int} (h : l.length = 2 * p + 1) : l.countP (fun x => decide (x < med l p)) ≤ p ∧ l.countP (fun x => decide (med l p < x)) ≤ p := by
  have len : (sortI l).length = l.length := (sortI_perm l).length_eq
  have so := sortI_up l
  have g := med_get h
  generalize med l p = w at *
  rw [← cnt_perm (sortI_perm l), ← cnt_perm (sortI_perm l)]
  generalize sortI l = s at *
  have e : s = s.take p ++ w :: s.drop (p + 1) := by
    have hp : p < s.length := by omega
    have e1 : s.drop p = w :: s.drop (p + 1) := by
      rw [List.drop_eq_getElem_cons hp]
      rw [List.getElem?_eq_getElem hp] at g
      rw [Option.some.inj g]
    rw [← e1, List.take_append_drop]
  have so2 := so
  rw [e] at so2
  obtain ⟨_, q2, q3⟩ := List.pairwise_append.mp so2
  have q4 := (List.pairwise_cons.mp q2).1
  have l1 : (s.take p).length = p := by rw [List.length_take]; omega
  have l2 : (s.drop (p + 1)).length = p := by rw [List.length_drop]; omega
  rw [e, List.countP_append, List.countP_append, List.countP_cons, List.countP_cons]
  have z1 : (s.drop (p + 1)).countP (fun x => decide (x < w)) = 0 := List.countP_eq_zero.mpr fun x hx => by have := q4 x hx; simp; omega
  have z2 : (s.take p).countP (fun x => decide (w < x)) = 0 := List.countP_eq_zero.mpr fun x hx => by have := q3 x hx w (by simp); simp; omega
  have b1 : (s.take p).countP (fun x => decide (x < w)) ≤ (s.take p).length := List.countP_le_length
  have b2 : (s.drop (p + 1)).countP (fun x => decide (w < x)) ≤ (s.drop (p + 1)).length := List.countP_le_length
  rw [z1, z2]
  simp
  omega
theorem cnt_mono {l : List Int} {q r : Int → Bool} (h : ∀ x ∈ l, q x = true → r x = true) : l.countP q ≤ l.countP r := List.countP_mono_left h
theorem med_perm {l m : List Int} (h : l.Perm m) : med l p = med m p := by
  unfold med
  rw [sortI_eq ((sortI_perm l).trans h) (sortI_up l)]
/-- it moves with what is put in -/
theorem med_up {a x : Int} {r : List Int} (h : r.length = 2 * p) (c : a < med (a :: r) p) : med (a :: r) p ≤ med (x :: r) p := by
  have l1 : (a :: r).length = 2 * p + 1 := by rw [List.length_cons, h]
  have l2 : (x :: r).length = 2 * p + 1 := by rw [List.length_cons, h]
  obtain ⟨s1, _⟩ := med_side l1
  obtain ⟨_, t2⟩ := med_side l2
  generalize med (a :: r) p = w at *
  generalize med (x :: r) p = v at *
  rw [List.countP_cons, if_pos (by simpa using c)] at s1
  rw [List.countP_cons] at t2
  by_cases q : w ≤ v
  · exact q
  · exfalso
    have m := cnt_mono (l := r) (q := fun y => !decide (v < y)) (r := fun y => decide (y < w)) fun y _ hy => by simp at hy ⊢; omega
    have tot := List.length_eq_countP_add_countP (fun y => decide (v < y)) (l := r)
    have e : (r.countP fun y => decide (¬decide (v < y) = true)) = r.countP fun y => !decide (v < y) := List.countP_congr fun y _ => by simp
    rw [e] at tot
    omega
theorem med_down {a x : Int} {r : List Int} (h : r.length = 2 * p) (c : med (a :: r) p < a) : med (x :: r) p ≤ med (a :: r) p := by
  have l1 : (a :: r).length = 2 * p + 1 := by rw [List.length_cons, h]
  have l2 : (x :: r).length = 2 * p + 1 := by rw [List.length_cons, h]
  obtain ⟨_, s1⟩ := med_side l1
  obtain ⟨t2, _⟩ := med_side l2
  generalize med (a :: r) p = w at *
  generalize med (x :: r) p = v at *
  rw [List.countP_cons, if_pos (by simpa using c)] at s1
  rw [List.countP_cons] at t2
  by_cases q : v ≤ w
  · exact q
  · exfalso
    have m := cnt_mono (l := r) (q := fun y => !decide (y < v)) (r := fun y => decide (w < y)) fun y _ hy => by simp at hy ⊢; omega
    have tot := List.length_eq_countP_add_countP (fun y => decide (y < v)) (l := r)
    have e : (r.countP fun y => decide (¬decide (y < v) = true)) = r.countP fun y => !decide (y < v) := List.countP_congr fun y _ => by simp
    rw [e] at tot
    omega
end Ru
end Lw
namespace Lw
namespace Ru
open PySem Hb Nv L2 P
open Enc (enc)
variable {n p : Nat} {g : List Int → Int}
/-- a rule by which nobody gains -/
structure Rule (n p : Nat) (g : List Int → Int) : Prop where
  perm : ∀ {l m : List Int}, l.Perm m → g l = g m
  rng : ∀ {l : List Int}, Td n p l → 0 ≤ g l ∧ g l < n
  up : ∀ {a x : Int} {r : List Int}, Td n p (a :: r) → (0 ≤ x ∧ x < n) → a < g (a :: r) → g (a :: r) ≤ g (x :: r)
  dn : ∀ {a x : Int} {r : List Int}, Td n p (a :: r) → (0 ≤ x ∧ x < n) → g (a :: r) < a → g (x :: r) ≤ g (a :: r)
theorem ends_td (hn : 1 ≤ n) {k : Nat} (hk : k ≤ p) : Td n p (List.replicate (p - k) 0 ++ List.replicate k ((n : Int) - 1)) := by
  refine ⟨by rw [List.length_append, List.length_replicate, List.length_replicate]; omega, fun x hx => ?_⟩
  rcases List.mem_append.mp hx with hx | hx
  · rw [(List.mem_replicate.mp hx).2]; omega
  · rw [(List.mem_replicate.mp hx).2]; omega
/-- fixed places make such a rule -/
theorem med_rule {F : List Int} (hF : F.length = p + 1) (hr : ∀ x ∈ F, 0 ≤ x ∧ x < n) : Rule n p fun l => med (l ++ F) p where
  perm := fun h => med_perm (h.append_right F)
  rng := fun {l} t => by
    have len : (l ++ F).length = 2 * p + 1 := by rw [List.length_append, t.1, hF]; omega
    have g := med_get len
    have m : med (l ++ F) p ∈ l ++ F := (sortI_perm _).mem_iff.mp (List.mem_of_getElem? g)
    rcases List.mem_append.mp m with m | m
    · exact t.2 _ m
    · exact hr _ m
  up := fun {a x r} t _ c => by
    have len : (r ++ F).length = 2 * p := by
      have := t.1
      rw [List.length_cons] at this
      rw [List.length_append, hF]
      omega
    exact med_up len c
  dn := fun {a x r} t _ c => by
    have len : (r ++ F).length = 2 * p := by
      have := t.1
      rw [List.length_cons] at this
      rw [List.length_append, hF]
      omega
    exact med_down len c
end Ru
end Lw
namespace P
open PySem PySem.Spec PyProof.Rows L2 Hb Nv
open Enc (enc)
end P
namespace P
open PySem PySem.Spec PyProof.Rows L2 Hb Nv
open Enc (enc)
end P
namespace P
open PySem PySem.Spec PyProof.Rows L2 Hb Nv
open Enc (enc)
end P
namespace P
open PySem PySem.Spec PyProof.Rows L2 Hb Nv
open Enc (enc)
end P
namespace P
open PySem PySem.Spec PyProof.Rows L2 Hb Nv
open Enc (enc)
end P
namespace P
open PySem PySem.Spec PyProof.Rows L2 Hb Nv
open Enc (enc)
end P
namespace P
open PySem PySem.Spec PyProof.Rows L2 Hb Nv
open Enc (enc)
end P
namespace P
open PySem PySem.Spec PyProof.Rows L2 Hb Nv
open Enc (enc)
end P
namespace P
open PySem PySem.Spec PyProof.Rows L2 Hb Nv
open Enc (enc)
end P
namespace Lw
namespace Ru
open PySem Hb Nv L2 P
open Enc (enc)

variable {n p : Nat} {T F : List Int}
theorem tellings_all : ∀ n : Nat, n < 7 → ∀ p : Nat, p < 6 → n_all_tellings (n : Int) (p : Int) = some ((tl n p).map Tp.mk) := by decide +kernel
theorem tellings_ok (hn : n ≤ 6) (hp : p ≤ 5) : n_all_tellings (n : Int) (p : Int) = some ((tl n p).map Tp.mk) := tellings_all n (by omega) p (by omega)
theorem people_all : ∀ n : Nat, n < 6 → ∀ p : Nat, p < 5 → n_need_people ((n + 1 : Nat) : Int) ((p + 1 : Nat) : Int) = some () := by decide +kernel
theorem people_ok (h1 : 1 ≤ n) (hn : n ≤ 6) (p1 : 1 ≤ p) (hp : p ≤ 5) : n_need_people (n : Int) (p : Int) = some () := by
  have := people_all (n - 1) (by omega) (p - 1) (by omega)
  rwa [show n - 1 + 1 = n by omega, show p - 1 + 1 = p by omega] at this
theorem places_ok {l : List Int} {k : Nat} (hk : k ≤ 1000) (hl : l.length = k) (hr : ∀ x ∈ l, 0 ≤ x ∧ x < n) : n_are_places (n : Int) l (k : Int) = some true := by
  subst hl
  unfold n_are_places
  have e1 : isiN "list" (enc l) = some true := rfl
  have e2 : (if l.length ≤ cap then mapF l (fun _ => some true) (fun x7 => n_is_integer (enc x7) 0 (some ((n : Int) - 1))) else none) = some (l.map fun _ => true) := mapT_cap (fun _ => true) (by omega) fun x hx => by
    have := hr x hx
    rw [integer_gen]
    exact congrArg some (inRng_i (by omega) (by omega))
  simp only [bs, e1, if_true, lenL_e, eqN_e, decide_true, subI_e, allB_e]
  rw [show (Option.bind (if l.length ≤ cap then mapF l (fun _ => some true) (fun x7 => n_is_integer (enc x7) 0 (some ((n : Int) - 1))) else none) fun x17 => some (x17.all id)) = some true from by
    rw [e2]
    simp]
  rfl
theorem table_need (hn : n ≤ 6) (hp : p ≤ 5) (hT : T.length = (tl n p).length) (hr : ∀ x ∈ T, 0 ≤ x ∧ x < n) : n_need_table (n : Int) (p : Int) T = some () := by
  have e : n_are_places (n : Int) T ((tl n p).length : Int) = some true := places_ok (Nat.le_trans (tl_len n (by omega) p (by omega)) (by omega)) hT hr
  unfold n_need_table
  simp only [bs, tellings_ok hn hp, lenL_e, List.length_map, e]
  rfl
theorem tgd {t : List Int} (h : Tg n p t) : Td n p t := ⟨h.1, h.2.2⟩
/-- the table with fixed places -/
def tbl (n p : Nat) (F : List Int) : List Int := (tl n p).map fun t => med (t ++ F) p
theorem tbl_rng (hF : F.length = p + 1) (hr : ∀ x ∈ F, 0 ≤ x ∧ x < n) : ∀ x ∈ tbl n p F, 0 ≤ x ∧ x < n := fun x hx => by
  obtain ⟨t, ht, rfl⟩ := List.mem_map.mp hx
  exact (med_rule hF hr).rng (tgd (mem_tl.mp ht))
theorem tbl_len : (tbl n p F).length = (tl n p).length := List.length_map _
def prs2 (n p : Nat) (T : List Int) : List (Tp Int × Int) := ((tl n p).map Tp.mk).zip T
/-- what a rule makes of what is told in sequence -/
def val (n p : Nat) (T : List Int) (t : List Int) : Int := (((prs2 n p T).find? fun z => decide (z.1 = ⟨t⟩)).map (·.2)).getD 0
theorem put_new {α : Type} {d : List (Tp Int × α)} {k : Tp Int} {v : α} (h : k ∉ d.map (·.1)) : putC d k v = d ++ [(k, v)] := by
  unfold putC
  rw [if_neg]
  intro c
  obtain ⟨x, hx, e⟩ := List.any_eq_true.mp c
  exact h (List.mem_map.mpr ⟨x, hx, of_decide_eq_true e⟩)
theorem fold_put {α : Type} : ∀ (xs acc : List (Tp Int × α)), ((acc ++ xs).map (·.1)).Nodup → xs.foldl (fun acc p => putC acc p.1 p.2) acc = acc ++ xs
  | [], acc, _ => by simp
  | x :: xs, acc, h => by
    rw [List.foldl_cons, put_new (by
      rw [List.map_append, List.map_cons] at h
      intro c
      exact (List.nodup_append.mp h).2.2 _ c _ (by simp) rfl)]
    rw [fold_put xs (acc ++ [(x.1, x.2)]) (by rw [List.append_assoc]; exact h), List.append_assoc]
    rfl
theorem mk_inj {s t : List Int} (h : (Tp.mk s : Tp Int) = ⟨t⟩) : s = t := by
  injection h
theorem zip_sub {α β : Type} : ∀ (xs : List α) (ys : List β), ((xs.zip ys).map (·.1)).Sublist xs
  | [], _ => by simp
  | x :: xs, [] => by simp
  | x :: xs, y :: ys => by
    rw [List.zip_cons_cons, List.map_cons]
    exact (zip_sub xs ys).cons₂ x
theorem keys_nodup (hn : n ≤ 6) (hp : p ≤ 5) : ((prs2 n p T).map (·.1)).Nodup := by
  have nd : ((tl n p).map Tp.mk).Nodup := by
    rw [List.nodup_iff_pairwise_ne, List.pairwise_map]
    exact (tl_nodup n (by omega) p (by omega)).imp fun h e => h (mk_inj e)
  unfold prs2
  exact nd.sublist (zip_sub _ _)
theorem rule_of_ok (hn : n ≤ 6) (hp : p ≤ 5) : n_rule_of (n : Int) (p : Int) T = some ⟨prs2 n p T⟩ := by
  unfold n_rule_of
  have hl := tl_len n (by omega) p (by omega)
  have l2 : (prs2 n p T).length ≤ 252 := by
    unfold prs2
    rw [List.length_zip, List.length_map]
    omega
  simp only [bs, tellings_ok hn hp]
  show (Option.bind (if (prs2 n p T).length ≤ cap then Option.bind (mapF (prs2 n p T) (fun _ => some true) (fun x9 => some ((TKy.tp x9.1 : Tp Int), x9.2))) (fun x12 => some (dtOf x12)) else none) fun x13 => some x13) = _
  rw [if_pos (cap_ge (by omega)), mapT_ok (fun x9 : Tp Int × Int => some ((TKy.tp x9.1 : Tp Int), x9.2)) (fun x => x) _ fun x _ => rfl, List.map_id']
  simp only [bs]
  unfold dtOf
  rw [fold_put _ [] (by rw [List.nil_append]; exact keys_nodup hn hp), List.nil_append]
theorem find_key {α : Type} : ∀ {d : List (Tp Int × α)} {i : Nat} {k : Tp Int} {v : α}, (d.map (·.1)).Nodup → d[i]? = some (k, v) → d.find? (fun z => decide (z.1 = k)) = some (k, v)
  | [], i, _, _, _, h => by simp at h
  | x :: d, 0, k, v, _, h => by
    simp at h
    subst h
    rw [List.find?_cons, decide_eq_true rfl]
  | x :: d, i + 1, k, v, nd, h => by
    rw [List.map_cons] at nd
    obtain ⟨h1, h2⟩ := List.nodup_cons.mp nd
    rw [List.getElem?_cons_succ] at h
    rw [List.find?_cons, decide_eq_false fun e => h1 (List.mem_map.mpr ⟨(k, v), List.mem_of_getElem? h, e.symm⟩)]
    exact find_key h2 h
theorem look_ok (hn : n ≤ 6) (hp : p ≤ 5) (hT : T.length = (tl n p).length) {t : List Int} (ht : Tg n p t) : lookDt (⟨prs2 n p T⟩ : Dc (Tp Int) Int) (⟨t⟩ : Tp Int) = some (val n p T t) ∧ val n p T t ∈ T := by
  obtain ⟨i, hi, ei⟩ := List.mem_iff_getElem.mp (mem_tl.mpr ht)
  have g : (prs2 n p T)[i]? = some (⟨t⟩, T[i]) := by
    unfold prs2
    rw [List.getElem?_zip_eq_some]
    refine ⟨?_, List.getElem?_eq_getElem (by omega)⟩
    rw [List.getElem?_map, List.getElem?_eq_getElem hi, ei]
    rfl
  have f := find_key (keys_nodup hn hp) g
  unfold lookDt val
  show ((prs2 n p T).find? fun z => decide (z.1 = ⟨t⟩)).map (·.2) = _ ∧ _
  rw [f]
  exact ⟨rfl, List.getElem_mem _⟩
theorem sort_tg {l : List Int} (h : Td n p l) : Tg n p (sortI l) := ⟨(sortI_perm l).length_eq.trans h.1, sortI_up l, fun x hx => h.2 x ((sortI_perm l).mem_iff.mp hx)⟩
theorem made_ok (h1 : 1 ≤ n) (hn : n ≤ 6) (p1 : 1 ≤ p) (hp : p ≤ 5) (hT : T.length = (tl n p).length) (hr : ∀ x ∈ T, 0 ≤ x ∧ x < n) {l : List Int} (hl : Td n p l) : n_made_of (n : Int) (p : Int) T l = some (val n p T (sortI l)) := by
  have e : srtC l = some (sortI l) := by
    unfold srtC
    rw [if_pos (cap_ge (by rw [hl.1]; omega))]
  unfold n_made_of
  simp only [bs, people_ok h1 hn p1 hp, table_need hn hp hT hr, places_ok (k := p) (by omega) hl.1 hl.2, Bool.not_true, Bool.false_eq_true, if_false, rule_of_ok hn hp, e, tupL_e, (look_ok hn hp hT (sort_tg hl)).1]
theorem rep_one {x : Int} {k : Nat} (hk : k ≤ 1000) : repL [x] (k : Int) = some (List.replicate k x) := by
  unfold repL
  rw [if_pos ⟨by show 1 ≤ 1000; omega, by omega, by omega⟩]
  congr 1
  induction k with
  | zero => rfl
  | succ k ih =>
    have ih := ih (by omega)
    rw [Int.toNat_natCast] at ih ⊢
    rw [List.replicate_succ, List.flatten_cons, ih, List.replicate_succ]
    rfl
end Ru
end Lw
namespace Lw
namespace Ru
open PySem Hb Nv L2 P
open Enc (enc)

variable {n p : Nat} {T F : List Int}
/-- what is told with one place in the place of another one -/
def oth (t : List Int) (a x : Int) : List Int := sortI (x :: t.erase a)
/-- a ballot with a peak on the line 0, 1, 2 .. that ranks one place above another one -/
structure Bal (n : Nat) (a b w : Int) (r : List Int) : Prop where
  row : Row n r
  hd : r.head? = some a
  fal : fallsB (iot n) r = true
  ab : pos r b < pos r w
/-- a gain -/
structure Gain (n p : Nat) (T : List Int) (v : T4 (Tp Int) Int Int (List Int)) : Prop where
  tg : Tg n p v.a.l
  pk : v.b ∈ v.a.l
  to : 0 ≤ v.c ∧ v.c < n
  ne : v.c ≠ v.b
  bal : Bal n v.b (val n p T (oth v.a.l v.b v.c)) (val n p T v.a.l) v.d
end Ru
end Lw
namespace P
open PySem PySem.Spec PyProof.Rows L2 Hb Nv
open Enc (enc)
end P
namespace P
open PySem PySem.Spec PyProof.Rows L2 Hb Nv
open Enc (enc)
end P
namespace P
open PySem PySem.Spec PyProof.Rows L2 Hb Nv
open Enc (enc)
end P
namespace P
open PySem PySem.Spec PyProof.Rows L2 Hb Nv
open Enc (enc)
end P
namespace P
open PySem PySem.Spec PyProof.Rows L2 Hb Nv
open Enc (enc)
end P
namespace P
open PySem PySem.Spec PyProof.Rows L2 Hb Nv
open Enc (enc)
end P
namespace P
open PySem PySem.Spec PyProof.Rows L2 Hb Nv
open Enc (enc)
end P
namespace Lw
open PySem Hb Nv L2 P
open Enc (enc)
variable {α β γ σ ρ ζ : Type}
end Lw
namespace Lw
namespace K71
open PySem Hb Nv L2 P
open Enc (enc)
open Ru
variable {n p : Nat} {T F : List Int}
/-- loops that look for one -/
theorem forF_any {α ρ : Type} {b : Unit → α → Option (Fl ρ Unit)} {v : ρ} (q : α → Bool) : ∀ {xs : List α}, (∀ x ∈ xs, b () x = some (if q x = true then .rt v else .nx ())) → forF xs () b = some (if xs.any q = true then .rt v else .nx ())
  | [], _ => rfl
  | x :: xs, h => by
    show (b () x).bind _ = _
    rw [h x (by simp), List.any_cons]
    cases q x with
    | true => rfl
    | false => exact forF_any q fun y hy => h y (by simp [hy])
end K71
end Lw
namespace Lw
namespace K71
open PySem Hb Nv L2 P
open Enc (enc)
open Ru

variable {n p : Nat} {T F : List Int}
end K71
end Lw
namespace P
open PySem PySem.Spec PyProof.Rows L2 Hb Nv
open Enc (enc)
end P
namespace P
open PySem PySem.Spec PyProof.Rows L2 Hb Nv
open Enc (enc)
end P
namespace Lw
namespace K71
open PySem Hb Nv L2 P
open Enc (enc)
open Ru
variable {n p : Nat} {T F : List Int}
/-- fixed places -/
def Fx (n p : Nat) (F : List Int) : Prop := F.length = p + 1 ∧ (∀ x ∈ F, 0 ≤ x ∧ x < n) ∧ F.Pairwise (· ≤ ·)
theorem srt_ok {l : List Int} (h : l.length ≤ 1000) : srtC l = some (sortI l) := K67.srtC_is (by omega) (sortI_perm l) (sortI_up l)
theorem srt_fx {l : List Int} (h : l.length = p + 1) (r : ∀ x ∈ l, 0 ≤ x ∧ x < n) : Fx n p (sortI l) := ⟨(sortI_perm l).length_eq.trans h, fun x hx => r x ((sortI_perm l).mem_iff.mp hx), sortI_up l⟩
theorem some_fixed_ok {K : Int} {t : List Int} (ht : Well K t) (hK : K ≤ 10 ^ 13) (h1 : 1 ≤ n) (hn : n ≤ 6) (hp : p ≤ 5) : Wp (n__law_some_fixed t (n : Int) (p : Int)) fun z => Fx n p z.1 ∧ Well (K + 8) z.2 := by
  obtain ⟨⟨q, T1⟩, e1, hT1, q0, q1⟩ := pick_ok ht (by omega) (n := 3) (by omega) (by omega)
  have hT1 : Well (K + 1) T1 := hT1
  have rp : ri1 ((p : Int) + 1) = some (iot (p + 1)) := ri1_nat (p + 1) (by omega)
  unfold n__law_some_fixed
  simp only [bs, e1, eqN_e, addI_e, subI_e, rp]
  by_cases c : q = 0
  · obtain ⟨ys, T2, e2, l2, r2, hT2⟩ := mapE_well (fun s28 (x13 : Int) => (((n__law_pick s28 2).bind fun x39 => some (x39, (2 : Int), ())).bind fun x40 => (atL [(0 : Int), (n : Int) - 1] x40.1.1).bind fun x41 => some (x41, [(0 : Int), (n : Int) - 1], x40)).bind fun x43 => some (x43.1, x43.2.2.1.2)) (fun y => 0 ≤ y ∧ y < n) 1 (iot (p + 1)) (K + 1) T1 hT1 (by rw [iot_len]; omega) fun K t hw hk x _ => by
      obtain ⟨⟨y, t'⟩, e, w, y0, y1⟩ := pick_ok hw (by omega) (n := 2) (by omega) (by omega)
      have y0 : 0 ≤ y := y0
      have y1 : y < 2 := y1
      rcases (show y = 0 ∨ y = 1 by omega) with rfl | rfl
      · exact ⟨0, t', by simp only [bs, e]; rfl, ⟨by omega, by omega⟩, w⟩
      · exact ⟨(n : Int) - 1, t', by simp only [bs, e]; rfl, ⟨by omega, by omega⟩, w⟩
    rw [iot_len] at l2 hT2
    rw [if_pos (decide_eq_true c), if_pos (cap_ge (by rw [iot_len]; omega))]
    simp only [e2, bs, srt_ok (l := ys) (by omega)]
    exact .some ⟨srt_fx l2 r2, hT2.mono (by omega)⟩
  · simp only [c, decide_false, Bool.false_eq_true, if_false]
    obtain ⟨⟨u, T2⟩, e2, hT2, u0, u1⟩ := pick_ok hT1 (by omega) (n := 3) (by omega) (by omega)
    have hT2 : Well (K + 1 + 1) T2 := hT2
    have last : ∀ {U : List Int}, Well (K + 1 + 1) U → ∃ ys V, mapE (iot (p + 1)) U (fun s92 (x87 : Int) => ((n__law_pick s92 (n : Int)).bind fun x96 => some (x96, (n : Int), ())).bind fun x97 => some (x97.1.1, x97.1.2)) = some (ys, V) ∧ ys.length = p + 1 ∧ (∀ y ∈ ys, 0 ≤ y ∧ y < n) ∧ Well (K + 8) V := fun {U} hU => by
      obtain ⟨ys, T2, e2, l2, r2, hT2⟩ := mapE_well (fun s92 (x87 : Int) => ((n__law_pick s92 (n : Int)).bind fun x96 => some (x96, (n : Int), ())).bind fun x97 => some (x97.1.1, x97.1.2)) (fun y => 0 ≤ y ∧ y < n) 1 (iot (p + 1)) (K + 1 + 1) U hU (by rw [iot_len]; omega) fun K t hw hk x _ => by
        obtain ⟨⟨y, t'⟩, e, w, y0, y1⟩ := pick_ok hw (by omega) (n := (n : Int)) (by omega) (by omega)
        exact ⟨y, t', by rw [e]; rfl, ⟨y0, y1⟩, w⟩
      rw [iot_len] at l2 hT2
      exact ⟨ys, T2, e2, l2, r2, hT2.mono (by omega)⟩
    by_cases d : q = 1
    · simp only [bs, d, decide_true, if_true, e2]
      by_cases g : u = 0
      · obtain ⟨⟨y, T3⟩, e3, hT3, y0, y1⟩ := pick_ok hT2 (by omega) (n := (n : Int)) (by omega) (by omega)
        have y0 : 0 ≤ y := y0
        have y1 : y < n := y1
        have e3 : n__law_pick T2 (n : Int) = some (y, T3) := e3
        have hT3 : Well (K + 1 + 1 + 1) T3 := hT3
        have e4 := rep_one (x := y) (k := p + 1) (by omega)
        rw [show ((p + 1 : Nat) : Int) = (p : Int) + 1 by omega] at e4
        simp only [bs, g, decide_true, if_true, e3, e4]
        refine .some ⟨⟨List.length_replicate, fun x hx => ?_, List.pairwise_replicate.mpr (Or.inr (Int.le_refl _))⟩, hT3.mono (by omega)⟩
        rw [(List.mem_replicate.mp hx).2]
        exact ⟨y0, y1⟩
      · obtain ⟨ys, T3, e3, l3, r3, hT3⟩ := last hT2
        simp only [bs, g, decide_false, Bool.false_eq_true, if_false]
        rw [if_pos (cap_ge (by rw [iot_len]; omega))]
        simp only [bs, e3, srt_ok (l := ys) (by omega)]
        exact .some ⟨srt_fx l3 r3, hT3⟩
    · obtain ⟨ys, T3, e3, l3, r3, hT3⟩ := last (hT1.mono (by omega))
      simp only [bs, d, decide_false, Bool.false_eq_true, if_false]
      rw [if_pos (cap_ge (by rw [iot_len]; omega))]
      simp only [bs, e3, srt_ok (l := ys) (by omega)]
      exact .some ⟨srt_fx l3 r3, hT3⟩
end K71
end Lw
namespace Lw
namespace K71
open PySem Hb Nv L2 P
open Enc (enc)
open Ru
variable {n p : Nat} {T F : List Int} {f : List (List Int)} {w : List Int}
theorem tl_pos (h1 : 1 ≤ n) : 0 < (tl n p).length := List.length_pos_of_mem (mem_tl.mpr (sort_tg (ends_td (n := n) (p := p) h1 (k := p) (Nat.le_refl _))))
theorem forF_ex {α σ ρ : Type} {b : σ → α → Option (Fl ρ σ)} (P : Nat → σ → Prop) (N : Nat) : ∀ {xs : List α} {s : σ} (i : Nat), i + xs.length ≤ N → P i s → (∀ i s x, i < N → P i s → x ∈ xs → ∃ s', P (i + 1) s' ∧ b s x = some (.nx s')) → ∃ s', forF xs s b = some (.nx s') ∧ P (i + xs.length) s'
  | [], s, i, _, h, _ => ⟨s, rfl, h⟩
  | x :: r, s, i, hN, h, hb => by
    rw [List.length_cons] at hN
    obtain ⟨s', h1, e⟩ := hb i s x (by omega) h (by simp)
    obtain ⟨s2, e2, h2⟩ := forF_ex P N (xs := r) (i + 1) (by omega) h1 fun i s y hi hp hy => hb i s y hi hp (by simp [hy])
    refine ⟨s2, ?_, ?_⟩
    · show (b s x).bind _ = _
      rw [e]
      exact e2
    · rw [List.length_cons, show i + (r.length + 1) = i + 1 + r.length by omega]
      exact h2
end K71
end Lw
namespace P
open PySem PySem.Spec PyProof.Rows L2 Hb Nv
open Enc (enc)
end P
namespace P
open PySem PySem.Spec PyProof.Rows L2 Hb Nv
open Enc (enc)
end P
namespace Lw
namespace K40
open PySem Hb Nv L2 P
open Enc (enc)
open Ru
open K71 (Fx)
variable {n p : Nat} {T F : List Int}
def mi (n : Nat) (x : Int) : Int := (n : Int) - 1 - x
theorem mi_mi (x : Int) : mi n (mi n x) = x := by unfold mi; omega
theorem mi_in {x : Int} (h : 0 ≤ x ∧ x < n) : 0 ≤ mi n x ∧ mi n x < n := by unfold mi; omega
def mir (n : Nat) (t : List Int) : List Int := t.reverse.map (mi n)
theorem mir_perm (t : List Int) : (mir n t).Perm (t.map (mi n)) := (t.reverse_perm).map _
theorem mir_up {t : List Int} (h : t.Pairwise (· ≤ ·)) : (mir n t).Pairwise (· ≤ ·) := by
  unfold mir
  rw [List.pairwise_map, List.pairwise_reverse]
  refine h.imp fun {a b} q => ?_
  unfold mi
  omega
theorem mir_len (t : List Int) : (mir n t).length = t.length := by
  unfold mir
  rw [List.length_map, List.length_reverse]
theorem mir_rng {t : List Int} (h : ∀ x ∈ t, 0 ≤ x ∧ x < n) : ∀ x ∈ mir n t, 0 ≤ x ∧ x < n := fun x hx => by
  obtain ⟨y, hy, rfl⟩ := List.mem_map.mp ((mir_perm t).mem_iff.mp hx)
  exact mi_in (h y hy)
theorem mir_tg {t : List Int} (h : Tg n p t) : Tg n p (mir n t) := ⟨(mir_len t).trans h.1, mir_up h.2.1, mir_rng h.2.2⟩
/-- the mirrored table -/
def MT (n p : Nat) (T : List Int) : List Int := (tl n p).map fun t => mi n (val n p T (mir n t))
theorem val_map (hn : n ≤ 6) (hp : p ≤ 5) (g : List Int → Int) {t : List Int} (ht : Tg n p t) : val n p ((tl n p).map g) t = g t := by
  obtain ⟨i, hi, ei⟩ := List.mem_iff_getElem.mp (mem_tl.mpr ht)
  have h : (prs2 n p ((tl n p).map g))[i]? = some (⟨t⟩, g t) := by
    unfold prs2
    rw [List.getElem?_zip_eq_some, List.getElem?_map, List.getElem?_map, List.getElem?_eq_getElem hi, ei]
    exact ⟨rfl, rfl⟩
  unfold val
  rw [Ru.find_key (keys_nodup hn hp) h]
  rfl
theorem map_val (hn : n ≤ 6) (hp : p ≤ 5) (hT : T.length = (tl n p).length) : (tl n p).map (val n p T) = T := by
  apply List.ext_getElem
  · rw [List.length_map, hT]
  · intro i h1 h2
    have hi : i < (tl n p).length := by rw [← hT]; exact h2
    have g : (prs2 n p T)[i]? = some (⟨(tl n p)[i]⟩, T[i]) := by
      unfold prs2
      rw [List.getElem?_zip_eq_some]
      refine ⟨?_, List.getElem?_eq_getElem h2⟩
      rw [List.getElem?_map, List.getElem?_eq_getElem hi]
      rfl
    rw [List.getElem_map]
    unfold val
    rw [Ru.find_key (keys_nodup hn hp) g]
    rfl
theorem val_MT (hn : n ≤ 6) (hp : p ≤ 5) {t : List Int} (ht : Tg n p t) : val n p (MT n p T) t = mi n (val n p T (mir n t)) := val_map hn hp _ ht
theorem dt_prs (hn : n ≤ 6) (hp : p ≤ 5) : dtOf (List.zip ((tl n p).map Tp.mk) T) = (⟨prs2 n p T⟩ : Dc (Tp Int) Int) := by
  unfold dtOf
  show (⟨List.foldl _ [] (prs2 n p T)⟩ : Dc (Tp Int) Int) = _
  rw [fold_put _ [] (by rw [List.nil_append]; exact keys_nodup hn hp), List.nil_append]
theorem mapmi_ok {l : List Int} (h : l.length ≤ 1000) : (if l.length ≤ cap then mapF l (fun _ => some true) (fun x => (some ((n : Int) - 1 - x) : Option Int)) else none) = some (l.map (mi n)) := mapT_cap (mi n) (by omega) fun _ _ => rfl
end K40
end Lw
namespace P
open PySem PySem.Spec PyProof.Rows L2 Hb Nv
open Enc (enc)
end P
namespace P
open PySem PySem.Spec PyProof.Rows L2 Hb Nv
open Enc (enc)
end P
namespace Lw
namespace K40
open PySem Hb Nv L2 P
open Enc (enc)
open Ru
variable {n p : Nat} {T F : List Int}
/-- whether mirror images are made of mirror images -/
theorem is_even_ok (h1 : 1 ≤ n) (hn : n ≤ 6) (p1 : 1 ≤ p) (hp : p ≤ 5) (hT : T.length = (tl n p).length) (hr : ∀ x ∈ T, 0 ≤ x ∧ x < n) : n_is_even (n : Int) (p : Int) T = some (decide (MT n p T = T)) := by
  have hl := tl_len n (by omega) p (by omega)
  have lp : (prs2 n p T).length = (tl n p).length := by
    unfold prs2
    rw [List.length_zip, List.length_map, hT, Nat.min_self]
  have ei : itemsDt (⟨prs2 n p T⟩ : Dc (Tp Int) Int) = some (prs2 n p T) := by
    unfold itemsDt
    have := K71.tl_pos (n := n) (p := p) h1
    cases q : prs2 n p T with
    | nil => rw [q] at lp; simp at lp; omega
    | cons a r => rfl
  have el : ∀ z ∈ prs2 n p T, ∃ t, Tg n p t ∧ z = (⟨t⟩, val n p T t) := fun z hz => by
    obtain ⟨i, hi⟩ := List.mem_iff_getElem?.mp hz
    have g := hi
    unfold prs2 at g
    obtain ⟨g1, g2⟩ := List.getElem?_zip_eq_some.mp g
    rw [List.getElem?_map] at g1
    obtain ⟨t, k1, k2⟩ := Option.map_eq_some_iff.mp g1
    have ht := mem_tl.mp (List.mem_of_getElem? k1)
    refine ⟨t, ht, ?_⟩
    have hz : z = (⟨t⟩, z.2) := by rw [k2]
    rw [hz] at hi
    have f := Ru.find_key (keys_nodup hn hp) hi
    rw [hz]
    unfold val
    rw [f]
    rfl
  unfold n_is_even
  simp only [bs, people_ok h1 hn p1 hp, table_need hn hp hT hr, rule_of_ok hn hp, ei, subI_e]
  have lp := K71.forF_any (ρ := Bool) (v := false) (b := fun _ (x25 : Tp Int × Int) => (((((revT x25.1).bind fun x28 => if x28.l.length ≤ cap then mapF x28.l (fun _ => some true) (fun x29 => some ((n : Int) - 1 - x29)) else none).bind fun x34 => tupL x34).bind fun x36 => lookDt (⟨prs2 n p T⟩ : Dc (Tp Int) Int) x36).bind fun x41 => neN x41 ((n : Int) - 1 - x25.2)).bind fun x43 => if x43 = true then some (.rt false) else some (.nx ())) (fun z => !decide (val n p T (mir n z.1.l) = mi n z.2)) (xs := prs2 n p T) fun z hz => by
    obtain ⟨t, ht, rfl⟩ := el z hz
    have e : revT (⟨t⟩ : Tp Int) = some ⟨t.reverse⟩ := rfl
    have e2 := mapmi_ok (n := n) (l := t.reverse) (by rw [List.length_reverse, ht.1]; omega)
    have e3 : lookDt (⟨prs2 n p T⟩ : Dc (Tp Int) Int) (⟨t.reverse.map (mi n)⟩ : Tp Int) = some (val n p T (mir n t)) := (look_ok hn hp hT (mir_tg ht)).1
    simp only [bs, e, e2, tupL_e, e3, neN_e]
    show (if (!decide (val n p T (mir n t) = mi n (val n p T t))) = true then some (Fl.rt false) else some (Fl.nx ())) = some (if (!decide (val n p T (mir n t) = mi n (val n p T t))) = true then Fl.rt false else Fl.nx ())
    split <;> rfl
  refine bnd (x := if ((prs2 n p T).any fun z => !decide (val n p T (mir n z.1.l) = mi n z.2)) = true then Fl.rt false else Fl.nx ()) ?_ ?_
  · exact lp
  · by_cases c : MT n p T = T
    · have a : ((prs2 n p T).any fun z => !decide (val n p T (mir n z.1.l) = mi n z.2)) = false := by
        rw [List.any_eq_false]
        intro z hz
        obtain ⟨t, ht, rfl⟩ := el z hz
        have := val_MT (T := T) hn hp ht
        rw [c] at this
        have : val n p T (mir n t) = mi n (val n p T t) := by rw [this, mi_mi]
        simp [this]
      rw [a, decide_eq_true c]
      rfl
    · have a : ((prs2 n p T).any fun z => !decide (val n p T (mir n z.1.l) = mi n z.2)) = true := by
        cases q : (prs2 n p T).any fun z => !decide (val n p T (mir n z.1.l) = mi n z.2) with
        | true => rfl
        | false =>
          exfalso
          refine c (Eq.trans (List.map_congr_left fun t ht => ?_) (map_val hn hp hT))
          have ht := mem_tl.mp ht
          have hm : ((⟨t⟩ : Tp Int), val n p T t) ∈ prs2 n p T := by
            obtain ⟨i, hi, e⟩ := List.mem_iff_getElem.mp (mem_tl.mpr ht)
            have g : (prs2 n p T)[i]? = some (⟨t⟩, T[i]'(by omega)) := by
              unfold prs2
              rw [List.getElem?_zip_eq_some]
              refine ⟨?_, List.getElem?_eq_getElem (by omega)⟩
              rw [List.getElem?_map, List.getElem?_eq_getElem hi, e]
              rfl
            have m := List.mem_of_getElem? g
            obtain ⟨t', _, e'⟩ := el _ m
            have : t' = t := mk_inj (Prod.mk.inj e').1.symm
            subst this
            rw [e'] at m
            exact m
          have := List.any_eq_false.mp q _ hm
          have this : val n p T (mir n t) = mi n (val n p T t) := by simpa using this
          show mi n (val n p T (mir n t)) = val n p T t
          rw [this, mi_mi]
      rw [a, decide_eq_false c]
      rfl
end K40
end Lw
namespace P
open PySem PySem.Spec PyProof.Rows L2 Hb Nv
open Enc (enc)
end P
namespace P
open PySem PySem.Spec PyProof.Rows L2 Hb Nv
open Enc (enc)
end P
namespace P
open PySem PySem.Spec PyProof.Rows L2 Hb Nv
open Enc (enc)
end P
namespace P
open PySem PySem.Spec PyProof.Rows L2 Hb Nv
open Enc (enc)
end P
namespace P
open PySem PySem.Spec PyProof.Rows L2 Hb Nv
open Enc (enc)
end P
namespace P
open PySem PySem.Spec PyProof.Rows L2 Hb Nv
open Enc (enc)
end P
namespace P
open PySem PySem.Spec PyProof.Rows L2 Hb Nv
open Enc (enc)
end P
namespace P
open PySem PySem.Spec PyProof.Rows L2 Hb Nv
open Enc (enc)
end P
namespace P
open PySem PySem.Spec PyProof.Rows L2 Hb Nv
open Enc (enc)
end P
namespace P
open PySem PySem.Spec PyProof.Rows L2 Hb Nv
open Enc (enc)
end P
namespace P
open PySem PySem.Spec PyProof.Rows L2 Hb Nv
open Enc (enc)
end P
namespace P
open PySem PySem.Spec PyProof.Rows L2 Hb Nv
open Enc (enc)
end P
namespace P
open PySem PySem.Spec PyProof.Rows L2 Hb Nv
open Enc (enc)
end P
namespace P
open PySem PySem.Spec PyProof.Rows L2 Hb Nv
open Enc (enc)
end P
namespace P
open PySem PySem.Spec PyProof.Rows L2 Hb Nv
open Enc (enc)
end P
namespace P
open PySem PySem.Spec PyProof.Rows L2 Hb Nv
open Enc (enc)
end P
namespace P
open PySem PySem.Spec PyProof.Rows L2 Hb Nv
open Enc (enc)
end P
namespace P
open PySem PySem.Spec PyProof.Rows L2 Hb Nv
open Enc (enc)
end P
namespace P
open PySem PySem.Spec PyProof.Rows L2 Hb Nv
open Enc (enc)
end P
namespace P
open PySem PySem.Spec PyProof.Rows L2 Hb Nv
open Enc (enc)
end P
namespace P
open PySem PySem.Spec PyProof.Rows L2 Hb Nv
open Enc (enc)
end P
namespace Lw
namespace Ln
open PySem Hb Nv L2 P PyProof.Rows
open Enc (enc)

variable {n : Nat} {T : Int → Int → Nat} {f : List (List Int)}
/-- a dict by what is left and what came last -/
structure Dk {β : Type} (n : Nat) (V : Nat → Int → β) (d : Dc (Tp Int) β) : Prop where
  nd : (d.l.map Prod.fst).Nodup
  ok : ∀ e ∈ d.l, ∃ (L : Nat) (x : Int), e.1 = TKy.tp ((L : Int), x) ∧ L < 2 ^ n ∧ (0 ≤ x ∧ x < n) ∧ e.2 = V L x
section
variable {β : Type} {V : Nat → Int → β}
end
end Ln
end Lw
namespace Lw
namespace Ln
open PySem Hb Nv L2 P PyProof.Rows
open Enc (enc)

variable {n : Nat} {T : Int → Int → Nat} {f : List (List Int)}
end Ln
end Lw
namespace P
open PySem PySem.Spec PyProof.Rows L2 Hb Nv
open Enc (enc)
end P
namespace P
open PySem PySem.Spec PyProof.Rows L2 Hb Nv
open Enc (enc)
end P
namespace Lw
namespace Ln
open PySem Hb Nv L2 P PyProof.Rows
open Enc (enc)

end Ln
end Lw
namespace P
open PySem PySem.Spec PyProof.Rows L2 Hb Nv
open Enc (enc)
end P
namespace P
open PySem PySem.Spec PyProof.Rows L2 Hb Nv
open Enc (enc)
end P
namespace P
open PySem PySem.Spec PyProof.Rows L2 Hb Nv
open Enc (enc)
end P
namespace P
open PySem PySem.Spec PyProof.Rows L2 Hb Nv
open Enc (enc)
end P
namespace P
open PySem PySem.Spec PyProof.Rows L2 Hb Nv
open Enc (enc)
end P
namespace Lw
namespace Ad
open PySem Hb Nv L2 P PyProof.Rows
open Enc (enc)


variable {n : Nat} {f : List (List Int)}
end Ad
end Lw
namespace P
open PySem PySem.Spec PyProof.Rows L2 Hb Nv
open Enc (enc)
end P
namespace Lw
namespace Ln
open PySem Hb Nv L2 P PyProof.Rows
open Enc (enc)

end Ln
end Lw
namespace P
open PySem PySem.Spec PyProof.Rows L2 Hb Nv
open Enc (enc)
end P
namespace P
open PySem PySem.Spec PyProof.Rows L2 Hb Nv
open Enc (enc)
end P
namespace P
open PySem PySem.Spec PyProof.Rows L2 Hb Nv
open Enc (enc)
end P
namespace P
open PySem PySem.Spec PyProof.Rows L2 Hb Nv
open Enc (enc)
end P
namespace P
open PySem PySem.Spec PyProof.Rows L2 Hb Nv
open Enc (enc)
end P
namespace P
open PySem PySem.Spec PyProof.Rows L2 Hb Nv
open Enc (enc)
end P
namespace P
open PySem PySem.Spec PyProof.Rows L2 Hb Nv
open Enc (enc)
end P
namespace P
open PySem PySem.Spec PyProof.Rows L2 Hb Nv
open Enc (enc)
end P
namespace P
open PySem PySem.Spec PyProof.Rows L2 Hb Nv
open Enc (enc)
end P
namespace P
open PySem PySem.Spec PyProof.Rows L2 Hb Nv
open Enc (enc)
end P
namespace P
open PySem PySem.Spec PyProof.Rows L2 Hb Nv
open Enc (enc)
end P
namespace P
open PySem PySem.Spec PyProof.Rows L2 Hb Nv
open Enc (enc)
end P
namespace P
open PySem PySem.Spec PyProof.Rows L2 Hb Nv
open Enc (enc)
end P
namespace P
open PySem PySem.Spec PyProof.Rows L2 Hb Nv
open Enc (enc)
end P
namespace Lw
namespace Ln
open PySem Hb Nv L2 P PyProof.Rows
open Enc (enc)

variable {n : Nat} {T : Int → Int → Nat} {f : List (List Int)}
end Ln
end Lw
namespace P
open PySem PySem.Spec PyProof.Rows L2 Hb Nv
open Enc (enc)
end P
namespace P
open PySem PySem.Spec PyProof.Rows L2 Hb Nv
open Enc (enc)
end P
namespace P
open PySem PySem.Spec PyProof.Rows L2 Hb Nv
open Enc (enc)
end P
namespace P
open PySem PySem.Spec PyProof.Rows L2 Hb Nv
open Enc (enc)
end P
namespace Lw
namespace Ln
open PySem Hb Nv L2 P PyProof.Rows
open Enc (enc)

variable {n : Nat} {T : Int → Int → Nat} {f : List (List Int)}
end Ln
end Lw
namespace Lw
namespace Bh
variable {n : Nat} {f : List (List Int)}
/-- x is last of S -/
def Lst (b S : List Int) (x : Int) : Prop := x ∈ S ∧ ∀ y ∈ S, y ≠ x → pos b y < pos b x
def No3 (n : Nat) (f : List (List Int)) : Prop := ∀ a b c : Int, (0 ≤ a ∧ a < n) → (0 ≤ b ∧ b < n) → (0 ≤ c ∧ c < n) → ∀ u ∈ f, ∀ v ∈ f, ∀ w ∈ f, ¬((pos u b < pos u a ∧ pos u c < pos u a) ∧ (pos v a < pos v b ∧ pos v c < pos v b) ∧ (pos w a < pos w c ∧ pos w b < pos w c))
def No4 (n : Nat) (f : List (List Int)) : Prop := ∀ a m c t : Int, (0 ≤ a ∧ a < n) → (0 ≤ m ∧ m < n) → (0 ≤ c ∧ c < n) → (0 ≤ t ∧ t < n) → ∀ u ∈ f, ∀ v ∈ f, ¬((pos u a < pos u m ∧ pos u t < pos u m ∧ pos u m < pos u c) ∧ (pos v c < pos v m ∧ pos v t < pos v m ∧ pos v m < pos v a))
section
variable (hf : ∀ z ∈ f, Row n z) (n3 : No3 n f) (n4 : No4 n f)
/-- what is given of a stretch T between x and y -/
structure Gv (n : Nat) (f : List (List Int)) (T : List Int) (x y : Int) : Prop where
  nd : T.Nodup
  xT : x ∉ T
  yT : y ∉ T
  xy : x ≠ y
  xr : 0 ≤ x ∧ x < n
  yr : 0 ≤ y ∧ y < n
  mem : ∀ t ∈ T, 0 ≤ t ∧ t < n
  h : ∀ b ∈ f, Lst b (x :: y :: T) x ∨ Lst b (x :: y :: T) y
  hA : ∃ a ∈ f, Lst a (x :: y :: T) x
  hB : ∃ b ∈ f, Lst b (x :: y :: T) y
include hf n3 n4
end
end Bh
end Lw
namespace P
open PySem PySem.Spec PyProof.Rows L2 Hb Nv
open Enc (enc)
end P
namespace P
open PySem PySem.Spec PyProof.Rows L2 Hb Nv
open Enc (enc)
end P
namespace P
open PySem PySem.Spec PyProof.Rows L2 Hb Nv
open Enc (enc)
end P
namespace P
open PySem PySem.Spec PyProof.Rows L2 Hb Nv
open Enc (enc)
end P
namespace P
open PySem PySem.Spec PyProof.Rows L2 Hb Nv
open Enc (enc)
end P
namespace Lw
namespace Br
open PySem Hb Nv L2 P PyProof.Rows
open Enc (enc)

variable {n : Nat} {f : List (List Int)}
/-- a is last of the three -/
def L3 (r : List Int) (a b c : Int) : Prop := pos r b < pos r a ∧ pos r c < pos r a
def LY (r : List Int) (a b c y : Int) : Prop := (y = a ∧ L3 r a b c) ∨ (y = b ∧ L3 r b a c) ∨ (y = c ∧ L3 r c a b)
/-- a ballot's number and its last place -/
def LI (f : List (List Int)) (a b c : Int) (i : Nat) (y : Int) : Prop := ∃ r, f[i]? = some r ∧ LY r a b c y
/-- the dict of last places -/
structure Dq (f : List (List Int)) (a b c : Int) (k : Nat) (d : Dc Int Int) : Prop where
  nd : (d.l.map Prod.fst).Nodup
  ok : ∀ e ∈ d.l, ∃ i : Nat, i < k ∧ e.2 = (i : Int) ∧ LI f a b c i e.1
  al : ∀ i < k, ∃ y, LI f a b c i y ∧ y ∈ d.l.map Prod.fst
end Br
end Lw
namespace Lw
namespace Br
open PySem Hb Nv L2 P PyProof.Rows
open Enc (enc)


end Br
end Lw
namespace P
open PySem PySem.Spec PyProof.Rows L2 Hb Nv
open Enc (enc)
end P
namespace P
open PySem PySem.Spec PyProof.Rows L2 Hb Nv
open Enc (enc)
end P
namespace P
open PySem PySem.Spec PyProof.Rows L2 Hb Nv
open Enc (enc)
end P
namespace P
open PySem PySem.Spec PyProof.Rows L2 Hb Nv
open Enc (enc)
end P
namespace P
open PySem PySem.Spec PyProof.Rows L2 Hb Nv
open Enc (enc)
end P
namespace P
open PySem PySem.Spec PyProof.Rows L2 Hb Nv
open Enc (enc)
end P
namespace P
open PySem PySem.Spec PyProof.Rows L2 Hb Nv
open Enc (enc)
end P
namespace P
open PySem PySem.Spec PyProof.Rows L2 Hb Nv
open Enc (enc)
end P
namespace P
open PySem PySem.Spec PyProof.Rows L2 Hb Nv
open Enc (enc)
end P
namespace P
open PySem PySem.Spec PyProof.Rows L2 Hb Nv
open Enc (enc)
end P
namespace P
open PySem PySem.Spec PyProof.Rows L2 Hb Nv
open Enc (enc)
end P
namespace P
open PySem PySem.Spec PyProof.Rows L2 Hb Nv
open Enc (enc)
end P
namespace P
open PySem PySem.Spec PyProof.Rows L2 Hb Nv
open Enc (enc)
end P
namespace P
open PySem PySem.Spec PyProof.Rows L2 Hb Nv
open Enc (enc)
end P
namespace P
open PySem PySem.Spec PyProof.Rows L2 Hb Nv
open Enc (enc)
end P
namespace P
open PySem PySem.Spec PyProof.Rows L2 Hb Nv
open Enc (enc)
end P
namespace P
open PySem PySem.Spec PyProof.Rows L2 Hb Nv
open Enc (enc)
end P
namespace Lw
namespace K12
open PySem Hb Nv L2 P
open Enc (enc)
end K12
end Lw
namespace Lw
namespace K12
open PySem Hb Nv L2 P
open Enc (enc)
end K12
end Lw
namespace Lw
namespace K12
open PySem Hb Nv L2 P
open Enc (enc)
/-- what is asked of a call -/
structure Ask (rows : List (List Int)) (left bef beh : List Int) : Prop where
  nd : (bef ++ left ++ beh).Nodup
  len : (bef ++ left ++ beh).length ≤ 12
  ne : bef ++ left ++ beh ≠ []
  rne : rows ≠ []
  rlen : rows.length ≤ 100
  row : ∀ r ∈ rows, r.Perm (bef ++ left ++ beh)
end K12
end Lw
namespace Lw
namespace K12
open PySem Hb Nv L2 P
open Enc (enc)
end K12
end Lw
namespace P
open PySem PySem.Spec PyProof.Rows L2 Hb Nv
open Enc (enc)
end P
namespace P
open PySem PySem.Spec PyProof.Rows L2 Hb Nv
open Enc (enc)
end P
namespace Lw
namespace Br
open PySem Hb Nv L2 P PyProof.Rows
open Enc (enc)
end Br
end Lw
namespace P
open PySem PySem.Spec PyProof.Rows L2 Hb Nv
open Enc (enc)
end P
namespace P
open PySem PySem.Spec PyProof.Rows L2 Hb Nv
open Enc (enc)
end P
namespace Lw
namespace K10
open PySem Hb Nv L2 P PyProof.Rows
open Enc (enc)

open Br (L3)
variable {n : Nat} {f : List (List Int)}
/-- what a stretch of a gathering loop does -/
structure Col {β : Type} (I : β → Prop) (M : Nat) (s0 : List β) (Q : Prop) (s : List β) : Prop where
  al : (∀ b ∈ s0, I b) → ∀ b ∈ s, I b
  len : s.length ≤ s0.length + M
  emp : s = [] → s0 = [] ∧ Q
end K10
end Lw
namespace P
open PySem PySem.Spec PyProof.Rows L2 Hb Nv
open Enc (enc)
end P
namespace P
open PySem PySem.Spec PyProof.Rows L2 Hb Nv
open Enc (enc)
end P
namespace P
open PySem PySem.Spec PyProof.Rows L2 Hb Nv
open Enc (enc)
end P
namespace Lw
namespace K10
open PySem Hb Nv L2 P PyProof.Rows
open Enc (enc)
end K10
end Lw
namespace Lw
namespace K35
open PySem Hb Nv L2 P
open Enc (enc)
open Ru
open K40 (dt_prs)
open K71 (srt_ok)
variable {n p : Nat} {T F : List Int}
theorem ltell_all : ∀ n : Nat, n < 7 → ∀ p : Nat, p < 6 → n__law_tellings (n : Int) (p : Int) = some ((tl n p).map Tp.mk) := by decide +kernel
theorem ltell_ok (hn : n ≤ 6) (hp : p ≤ 5) : n__law_tellings (n : Int) (p : Int) = some ((tl n p).map Tp.mk) := ltell_all n (by omega) p (by omega)
theorem ltable_ok (hn : n ≤ 6) (hp : p ≤ 5) (hF : F.length = p + 1) : n__law_table (n : Int) (p : Int) F = some (tbl n p F) := by
  unfold n__law_table
  simp only [bs, ltell_ok hn hp]
  have hl := tl_len n (by omega) p (by omega)
  rw [mapT_cap (xs := (tl n p).map Tp.mk) (fun t : Tp Int => med (t.l ++ F) p) (by rw [List.length_map]; omega) fun t ht => ?_]
  · simp only [bs, List.map_map]
    rfl
  · obtain ⟨s, hs, rfl⟩ := List.mem_map.mp ht
    have hs := mem_tl.mp hs
    have len : (s ++ F).length = 2 * p + 1 := by rw [List.length_append, hs.1, hF]; omega
    have e1 : listT (⟨s⟩ : Tp Int) = some s := rfl
    simp only [bs, e1, catL_ok (xs := s) (ys := F) (by rw [hs.1]; omega) (by omega), srt_ok (l := s ++ F) (by omega)]
    exact atL_nat (med_get len)
end K35
end Lw
namespace Lw
namespace K37
open PySem Hb Nv L2 P
open Enc (enc)
open Ru
open K40 (mi mir MT mi_mi mi_in mir_tg mir_up mir_perm mir_len val_map map_val val_MT dt_prs is_even_ok mapmi_ok)
open K71 (srt_ok tl_pos)
open K35 (ltell_ok ltable_ok)
variable {n p : Nat} {T F : List Int}
theorem foldl_min : ∀ (r : List Int) (a : Int), (∀ x ∈ r, a ≤ x) → r.foldl min a = a
  | [], a, _ => rfl
  | y :: r, a, h => by
    rw [List.foldl_cons, Int.min_eq_left (h y (by simp))]
    exact foldl_min r a fun x hx => h x (by simp [hx])
theorem foldl_max : ∀ (r : List Int) (a : Int), (a :: r).Pairwise (· ≤ ·) → r.foldl max a = lastD (a :: r)
  | [], a, _ => rfl
  | y :: r, a, h => by
    have h := List.pairwise_cons.mp h
    rw [List.foldl_cons, Int.max_eq_right (h.1 y (by simp)), foldl_max r y h.2]
    rfl
theorem ends_ok {t : List Int} (h : Tg n p t) (p1 : 1 ≤ p) : minTp (⟨t⟩ : Tp Int) = some (t.headD 0) ∧ maxTp (⟨t⟩ : Tp Int) = some (lastD t) ∧ atT (⟨t⟩ : Tp Int) 0 = some (t.headD 0) ∧ atT (⟨t⟩ : Tp Int) (-1) = some (lastD t) := by
  obtain ⟨h1, h2, _⟩ := h
  cases t with
  | nil => simp at h1; omega
  | cons a r =>
    refine ⟨?_, ?_, ?_, ?_⟩
    · exact congrArg some (foldl_min r a (List.pairwise_cons.mp h2).1)
    · exact congrArg some (foldl_max r a h2)
    · exact atL_nat (xs := a :: r) (k := 0) rfl
    · refine atL_last (xs := a :: r) ?_
      unfold lastD
      rw [List.getLast?_eq_some_getLast (by simp)]
      rfl
theorem prs_map (hn : n ≤ 6) (hp : p ≤ 5) (hT : T.length = (tl n p).length) : prs2 n p T = (tl n p).map fun t => ((⟨t⟩ : Tp Int), val n p T t) := by
  have h := map_val hn hp hT
  have e : prs2 n p T = ((tl n p).map Tp.mk).zip ((tl n p).map (val n p T)) := by
    rw [h]
    rfl
  rw [e, List.zip_map']
/-- what is made lies between the least and the greatest that is told -/
def btw (n p : Nat) (T : List Int) (t : List Int) : Bool := decide (t.headD 0 ≤ val n p T t) && decide (val n p T t ≤ lastD t)
theorem and_if {a b : Bool} : (if a = true then some b else some false) = some (a && b) := by cases a <;> rfl
theorem stays_ok (h1 : 1 ≤ n) (hn : n ≤ 6) (p1 : 1 ≤ p) (hp : p ≤ 5) (hT : T.length = (tl n p).length) (hr : ∀ x ∈ T, 0 ≤ x ∧ x < n) : n_stays_between (n : Int) (p : Int) T = some ((tl n p).all (btw n p T)) := by
  have hl := tl_len n (by omega) p (by omega)
  have pe := prs_map hn hp hT
  have ei : itemsDt (⟨prs2 n p T⟩ : Dc (Tp Int) Int) = some (prs2 n p T) := by
    unfold itemsDt
    have := tl_pos (n := n) (p := p) h1
    cases q : prs2 n p T with
    | nil => rw [q] at pe; have := congrArg List.length pe; simp at this; omega
    | cons a r => rfl
  unfold n_stays_between
  simp only [bs, people_ok h1 hn p1 hp, table_need hn hp hT hr, rule_of_ok hn hp, ei]
  rw [mapT_cap (xs := prs2 n p T) (fun z => decide (z.1.l.headD 0 ≤ z.2) && decide (z.2 ≤ lastD z.1.l)) (by rw [pe, List.length_map]; omega) fun z hz => ?_]
  · simp only [bs, allB_e]
    rw [pe, List.map_map, List.all_map]
    rfl
  · rw [pe] at hz
    obtain ⟨t, ht, rfl⟩ := List.mem_map.mp hz
    obtain ⟨_, _, a1, a2⟩ := ends_ok (mem_tl.mp ht) p1
    have e1 : Nv.negI 1 = some (-1) := rfl
    simp only [bs, a1, e1, a2, leI_e, and_if]
theorem mirrored_ok {t : List Int} (hp : p ≤ 5) (h : Tg n p t) : n__law_mirrored_v2 (n : Int) ⟨t⟩ = some ⟨mir n t⟩ := by
  have e := mapmi_ok (n := n) (l := t) (by rw [h.1]; omega)
  have e2 : sortI (t.map (mi n)) = mir n t := (sortI_eq (mir_perm t) (mir_up h.2.1)).symm
  unfold n__law_mirrored_v2
  simp only [bs, subI_e, e, srt_ok (l := t.map (mi n)) (by rw [List.length_map, h.1]; omega), e2, tupL_e]
theorem flt_all {α : Type} (q : α → Bool) : ∀ xs : List α, (false != (xs.filter fun x => !q x).isEmpty) = xs.all q
  | [] => rfl
  | x :: r => by
    have ih := flt_all q r
    rw [List.filter_cons, List.all_cons]
    cases c : q x with
    | true => simpa using ih
    | false => simp
/-- mirror images are made of mirror images -/
def evn (n p : Nat) (T : List Int) (t : List Int) : Bool := decide (val n p T (mir n t) = mi n (val n p T t))
theorem evn_all (hn : n ≤ 6) (hp : p ≤ 5) (hT : T.length = (tl n p).length) : decide (MT n p T = T) = (tl n p).all (evn n p T) := by
  rw [Bool.eq_iff_iff, decide_eq_true_iff, List.all_eq_true]
  constructor
  · intro c t ht
    have := val_MT (T := T) hn hp (mem_tl.mp ht)
    rw [c] at this
    unfold evn
    rw [this, mi_mi]
    exact decide_eq_true rfl
  · intro h
    refine Eq.trans (List.map_congr_left fun t ht => ?_) (map_val hn hp hT)
    have := h t ht
    unfold evn at this
    rw [of_decide_eq_true this, mi_mi]
theorem repr2 (a b : Bool) : ∃ s, reprN (enc [a, b]) = some s := by
  have : (reprN (enc [a, b])).isSome = true := by
    cases a <;> cases b <;> decide +kernel
  exact Option.isSome_iff_exists.mp this
theorem told_ok (h1 : 1 ≤ n) (hn : n ≤ 6) (p1 : 1 ≤ p) (hp : p ≤ 5) (hT : T.length = (tl n p).length) (hr : ∀ x ∈ T, 0 ≤ x ∧ x < n) : n__law_told_v10 (n : Int) (p : Int) T = some true := by
  have hl := tl_len n (by omega) p (by omega)
  have ell : listL T = some T := rfl
  unfold n__law_told_v10
  simp only [bs, ltell_ok hn hp, dt_prs hn hp, ell, stays_ok h1 hn p1 hp hT hr, is_even_ok h1 hn p1 hp hT hr, subI_e]
  rw [mapC_cap (xs := (tl n p).map Tp.mk) (fun t : Tp Int => !btw n p T t.l) (by rw [List.length_map]; omega) fun t ht => ?_]
  · rw [mapC_cap (xs := (tl n p).map Tp.mk) (fun t : Tp Int => !evn n p T t.l) (by rw [List.length_map]; omega) fun t ht => ?_]
    · simp only [bs]
      rw [flt_all (fun t : Tp Int => btw n p T t.l), flt_all (fun t : Tp Int => evn n p T t.l), List.all_map, List.all_map, evn_all hn hp hT]
      obtain ⟨s, hs⟩ := repr2 ((tl n p).all (btw n p T)) ((tl n p).all (evn n p T))
      have hs2 : reprN (enc [(tl n p).all ((fun t : Tp Int => btw n p T t.l) ∘ Tp.mk), (tl n p).all ((fun t : Tp Int => evn n p T t.l) ∘ Tp.mk)]) = some s := hs
      have es : eqS s s = some true := by
        unfold eqS
        simp
      simp only [bs, hs, hs2, es, if_true, eqN_e, decide_true]
    · obtain ⟨u, hu, rfl⟩ := List.mem_map.mp ht
      have ht := mem_tl.mp hu
      simp only [bs, mirrored_ok hp ht, (look_ok hn hp hT (mir_tg ht)).1, (look_ok hn hp hT ht).1, neN_e]
      rfl
  · obtain ⟨u, hu, rfl⟩ := List.mem_map.mp ht
    have ht := mem_tl.mp hu
    obtain ⟨a1, a2, _, _⟩ := ends_ok ht p1
    simp only [bs, a1, a2, (look_ok hn hp hT ht).1, leI_e, and_if]
    rfl
end K37
end Lw
namespace Lw
namespace K37
open PySem Hb Nv L2 P
open Enc (enc)
open Ru
open K40 (mi mir MT mi_mi mi_in mir_tg mir_up mir_perm mir_len val_map map_val val_MT dt_prs is_even_ok mapmi_ok)
open K71 (srt_ok tl_pos)
open K35 (ltell_ok ltable_ok)
variable {n p : Nat} {T F : List Int}
abbrev Dp := List (Tp Int × Int)
def has (d : Dp) (k : Tp Int) : Bool := d.any fun z => decide (z.1 = k)
theorem put_has {d : Dp} {k k2 : Tp Int} {v : Int} : has (putC d k v) k2 = (has d k2 || decide (k = k2)) := by
  unfold putC
  by_cases c : (d.any fun z => decide (z.1 = k)) = true
  · rw [if_pos c]
    have e : has (d.map fun z => if z.1 = k then (z.1, v) else z) k2 = has d k2 := by
      unfold has
      rw [List.any_map]
      congr 1
      funext z
      show decide ((if z.1 = k then (z.1, v) else z).1 = k2) = _
      split <;> rfl
    rw [e]
    by_cases f : k = k2
    · subst f
      have : has d k = true := c
      rw [this]
      rfl
    · rw [decide_eq_false f, Bool.or_false]
  · rw [if_neg c]
    unfold has
    rw [List.any_append]
    simp
theorem put_len {d : Dp} {k : Tp Int} {v : Int} : (putC d k v).length ≤ d.length + 1 := by
  unfold putC
  split
  · rw [List.length_map]; omega
  · rw [List.length_append]; exact Nat.le_refl _
theorem put_rng {d : Dp} {k : Tp Int} {v : Int} {Q : Int → Prop} (h : ∀ z ∈ d, Q z.2) (hv : Q v) : ∀ z ∈ putC d k v, Q z.2 := fun z hz => by
  unfold putC at hz
  split at hz
  · obtain ⟨y, hy, rfl⟩ := List.mem_map.mp hz
    show Q (if y.1 = k then (y.1, v) else y).2
    split
    · exact hv
    · exact h y hy
  · rcases List.mem_append.mp hz with hz | hz
    · exact h z hz
    · rw [List.mem_singleton.mp hz]
      exact hv
theorem has_look {d : Dp} {k : Tp Int} {Q : Int → Prop} (h : ∀ z ∈ d, Q z.2) (c : has d k = true) : ∃ v, lookDt (⟨d⟩ : Dc (Tp Int) Int) k = some v ∧ Q v := by
  obtain ⟨x, hx, e⟩ := List.any_eq_true.mp c
  have : (d.find? fun z => decide (z.1 = k)).isSome = true := List.find?_isSome.mpr ⟨x, hx, e⟩
  obtain ⟨y, hy⟩ := Option.isSome_iff_exists.mp this
  refine ⟨y.2, ?_, h y (List.mem_of_find?_eq_some hy)⟩
  unfold lookDt
  show ((d.find? fun z => decide (z.1 = k))).map (·.2) = _
  rw [hy]
  rfl
theorem even_table_ok {K : Int} {t : List Int} (ht : Well K t) (hK : K ≤ 10 ^ 13) (h1 : 1 ≤ n) (hn : n ≤ 6) (hp : p ≤ 5) : Wp (n__law_even_table t (n : Int) (p : Int)) fun z => z.1.length = (tl n p).length ∧ (∀ x ∈ z.1, 0 ≤ x ∧ x < n) ∧ Well (K + 252) z.2 := by
  have hl := tl_len n (by omega) p (by omega)
  have fd : fdivW (n : Int) 2 = some ((n : Int) / 2) := by
    unfold fdivW
    exact if_pos ⟨by omega, by decide⟩
  unfold n__law_even_table
  simp only [bs, ltell_ok hn hp]
  refine Wp.for (fun i s => Well (K + i) s.1 ∧ s.2.l.length ≤ i ∧ (∀ z ∈ s.2.l, 0 ≤ z.2 ∧ z.2 < (n : Int)) ∧ ∀ j u, j < i → (tl n p)[j]? = some u → has s.2.l ⟨u⟩ = true) ⟨ht.mono (by omega), Nat.le_refl _, (fun z h => absurd h List.not_mem_nil), (fun j u h => absurd h (Nat.not_lt_zero j))⟩ ?_ ?_
  · rintro i x ⟨S, ⟨d⟩⟩ hx ⟨hS, ld, hd, hh⟩
    have hS : Well (K + i) S := hS
    have ld : d.length ≤ i := ld
    have hd : ∀ z ∈ d, 0 ≤ z.2 ∧ z.2 < (n : Int) := hd
    have hh : ∀ j u, j < i → (tl n p)[j]? = some u → has d ⟨u⟩ = true := hh
    rw [List.getElem?_map] at hx
    obtain ⟨u, hu, rfl⟩ := Option.map_eq_some_iff.mp hx
    have il : i < (tl n p).length := (List.getElem?_eq_some_iff.mp hu).1
    have tu := mem_tl.mp (List.mem_of_getElem? hu)
    have dc : d.length ≤ cap := cap_ge (by omega)
    have st : ∀ v : Int, stDt (⟨d⟩ : Dc (Tp Int) Int) (⟨u⟩ : Tp Int) v = some ⟨putC d ⟨u⟩ v⟩ := fun v => if_pos dc
    have fin : ∀ {S' : List Int} {v : Int}, Well (K + i + 1) S' → 0 ≤ v → v < (n : Int) → Wp (some ((S', (⟨putC d ⟨u⟩ v⟩ : Dc (Tp Int) Int)) : List Int × Dc (Tp Int) Int)) fun s => Well (K + ((i + 1 : Nat) : Int)) s.1 ∧ s.2.l.length ≤ i + 1 ∧ (∀ z ∈ s.2.l, 0 ≤ z.2 ∧ z.2 < (n : Int)) ∧ ∀ j w, j < i + 1 → (tl n p)[j]? = some w → has s.2.l ⟨w⟩ = true := fun {S' v} hS' v0 v1 => by
      refine .some ⟨hS'.mono (by omega), Nat.le_trans put_len (by omega), put_rng (Q := fun v => 0 ≤ v ∧ v < (n : Int)) hd ⟨v0, v1⟩, fun j w hj hw => ?_⟩
      show has (putC d ⟨u⟩ v) ⟨w⟩ = true
      rw [put_has]
      by_cases c : j = i
      · subst c
        rw [hu] at hw
        cases hw
        simp
      · rw [hh j w (by omega) hw]
        rfl
    have en : ninDt (⟨mir n u⟩ : Tp Int) (⟨d⟩ : Dc (Tp Int) Int) = some !(has d ⟨mir n u⟩) := rfl
    simp only [bs, mirrored_ok hp tu, en, neN_e, subI_e, fd]
    cases q : has d ⟨mir n u⟩ with
    | true =>
      obtain ⟨v, ev, v0, v1⟩ := has_look (Q := fun v => 0 ≤ v ∧ v < (n : Int)) hd q
      simp only [bs, ev, Bool.not_true, Bool.false_eq_true, if_false, st]
      exact fin (hS.mono (by omega)) (by omega) (by omega)
    | false =>
      rw [if_pos (by rfl)]
      by_cases c : (⟨mir n u⟩ : Tp Int) = ⟨u⟩
      · simp only [c, decide_true, Bool.not_true, Bool.false_eq_true, if_false, bs, st]
        exact fin (hS.mono (by omega)) (by omega) (by omega)
      · obtain ⟨⟨v, S'⟩, e, hS', v0, v1⟩ := pick_ok hS (by omega) (n := (n : Int)) (by omega) (by omega)
        have v0 : 0 ≤ v := v0
        have v1 : v < n := v1
        have e : n__law_pick S (n : Int) = some (v, S') := e
        simp only [c, decide_false, Bool.not_false, if_true, bs, e, st]
        exact fin hS' v0 v1
  · rintro ⟨S, ⟨d⟩⟩ ⟨hS, ld, hd, hh⟩
    have hS : Well (K + ((tl n p).map Tp.mk : List (Tp Int)).length) S := hS
    rw [List.length_map] at hS
    have hd : ∀ z ∈ d, 0 ≤ z.2 ∧ z.2 < (n : Int) := hd
    have all : ∀ x ∈ (tl n p).map Tp.mk, ∃ v, lookDt (⟨d⟩ : Dc (Tp Int) Int) x = some v ∧ 0 ≤ v ∧ v < (n : Int) := fun x hx => by
      obtain ⟨u, hu, rfl⟩ := List.mem_map.mp hx
      obtain ⟨j, hj, e⟩ := List.mem_iff_getElem.mp hu
      exact has_look (Q := fun v => 0 ≤ v ∧ v < (n : Int)) hd (hh j u (by rw [List.length_map]; exact hj) (by rw [List.getElem?_eq_getElem hj, e]))
    simp only [bs]
    rw [mapT_cap (xs := (tl n p).map Tp.mk) (fun x : Tp Int => (lookDt (⟨d⟩ : Dc (Tp Int) Int) x).getD 0) (by rw [List.length_map]; omega) fun x hx => ?_]
    · refine .some ⟨?_, fun x hx => ?_, hS.mono (by omega)⟩
      · rw [List.length_map, List.length_map]
      · obtain ⟨y, hy, rfl⟩ := List.mem_map.mp hx
        obtain ⟨v, e, h⟩ := all y hy
        rw [e]
        exact h
    · obtain ⟨v, e, h⟩ := all x hx
      rw [e]
      rfl
end K37
end Lw
namespace P
open PySem PySem.Spec PyProof.Rows L2 Hb Nv
open Enc (enc)
end P
namespace P
open PySem PySem.Spec PyProof.Rows L2 Hb Nv
open Enc (enc)
end P
namespace P
open PySem PySem.Spec PyProof.Rows L2 Hb Nv
open Enc (enc)
end P
namespace P
open PySem PySem.Spec PyProof.Rows L2 Hb Nv
open Enc (enc)
end P
namespace Lw
namespace K40
open PySem Hb Nv L2 P
open Enc (enc)
open Ru
open K71 (Fx some_fixed_ok forF_ex tl_pos)
variable {n p : Nat} {T F : List Int}
end K40
end Lw
namespace P
open PySem PySem.Spec PyProof.Rows L2 Hb Nv
open Enc (enc)
end P
namespace P
open PySem PySem.Spec PyProof.Rows L2 Hb Nv
open Enc (enc)
end P
namespace Lw
namespace K68
open PySem Hb Nv L2 P
open Enc (enc)
variable {α β γ σ ρ ζ : Type} {n : Nat} {f : List (List Int)}
theorem mixedI_ok {K : Int} {t : List Int} (ht : Well K t) {g : List Int} (hg : g.length ≤ 900) (hK : K + g.length ≤ 10 ^ 15) : Wp (n__law_mixed_v2 t g) fun z => Well (K + g.length) z.2 ∧ z.1.Perm g := by
  unfold n__law_mixed_v2
  simp only [bs, listL_e, neNil]
  refine Wp.wh (fun s => Well (K + s.2.2.length) s.1 ∧ (s.2.2 ++ s.2.1).Perm g) (fun s => !s.2.1.isEmpty) (fun s => s.2.1.length) (fun s _ => rfl) ?_ ⟨ht.mono (by simp), .refl _⟩ (by show g.length < 1000; omega) ?_
  · rintro ⟨T, left, found⟩ ⟨hT, hp⟩ hq
    have hp : (found ++ left).Perm g := hp
    have hT : Well (K + found.length) T := hT
    have hl := hp.length_eq
    rw [List.length_append] at hl
    have hne : left ≠ [] := by
      rintro rfl; cases hq
    have hl0 : 0 < left.length := List.length_pos_iff.mpr hne
    obtain ⟨⟨k, T1⟩, e1, hT1, k0, k1⟩ := pick_ok hT (by omega) (n := (left.length : Int)) (by omega) (by omega)
    obtain ⟨x, e2, e3⟩ := popL_ok k0 k1 (by omega)
    have e4 := apL_ok (xs := found) x (by omega)
    refine ⟨(T1, left.eraseIdx k.toNat, found ++ [x]), ?_, ⟨hT1.mono ?_, ?_⟩, ?_⟩
    · simp only [bs, lenL_e, e1, e2, e4]
    · show _ ≤ K + ((found ++ [x]).length : Int)
      rw [List.length_append]
      show _ ≤ K + ((found.length + 1 : Nat) : Int)
      omega
    · exact (perm_app1 found x left _ (perm_erase left _ x e3)).trans hp
    · show (left.eraseIdx k.toNat).length < left.length
      rw [List.length_eraseIdx]
      have k1 : k < left.length := k1
      have k0 : 0 ≤ k := k0
      have : k.toNat < left.length := by omega
      rw [if_pos this]
      omega
  · rintro s ⟨hT, hp⟩ hs
    have : s.2.1 = [] := by
      cases q : s.2.1 with
      | nil => rfl
      | cons a r => rw [q] at hs; cases hs
    rw [this, List.append_nil] at hp
    have hl := hp.length_eq
    exact .some ⟨hT.mono (by rw [hl]; exact Int.le_refl _), hp⟩
end K68
end Lw
namespace Lw
namespace K37
open PySem Hb Nv L2 P
open Enc (enc)
open Ru
open K40 (mi mir MT mi_mi mi_in mir_tg mir_up mir_perm mir_len val_map map_val val_MT dt_prs is_even_ok mapmi_ok)
open K71 (srt_ok tl_pos some_fixed_ok forF_ex)
open K35 (ltell_ok ltable_ok)
variable {n p : Nat} {T F : List Int}
/-- a table -/
def Tb (n p : Nat) (T : List Int) : Prop := T.length = (tl n p).length ∧ ∀ x ∈ T, 0 ≤ x ∧ x < (n : Int)
theorem val_at (hn : n ≤ 6) (hp : p ≤ 5) (hT : T.length = (tl n p).length) {i : Nat} {t : List Int} (h : (tl n p)[i]? = some t) : T[i]? = some (val n p T t) := by
  have e := map_val hn hp hT
  rw [← e, List.getElem?_map, h, e]
  rfl
theorem right_ok {K : Int} {t : List Int} (ht : Well K t) (hK : K ≤ 10 ^ 12) (h1 : 1 ≤ n) (hn : n ≤ 6) (p1 : 1 ≤ p) (hp : p ≤ 5) : Wp (n__law_right_v34 t (n : Int) (p : Int)) fun z => z.1 = true ∧ Well (K + 700) z.2 := by
  have tp := tl_pos (n := n) (p := p) h1
  have tc := tl_len n (by omega) p (by omega)
  obtain ⟨⟨F, T1⟩, e1, hF, hT1⟩ := some_fixed_ok ht (by omega) h1 hn hp
  have hF : K71.Fx n p F := hF
  have hT1 : Well (K + 8) T1 := hT1
  have e2 := ltable_ok hn hp hF.1
  have b1 : Tb n p (tbl n p F) := ⟨tbl_len, tbl_rng (n := n) hF.1 hF.2.1⟩
  have f1 : fdivW (p : Int) 2 = some ((p / 2 : Nat) : Int) := by
    unfold fdivW
    rw [if_pos ⟨by omega, by decide⟩]
    exact congrArg some (by omega)
  have f2 : fdivW ((p : Int) + 1) 2 = some (((p + 1) / 2 : Nat) : Int) := by
    unfold fdivW
    rw [if_pos ⟨by omega, by decide⟩]
    exact congrArg some (by omega)
  have r1 := rep_one (x := (0 : Int)) (k := p / 2 + 1) (by omega)
  have r2 := rep_one (x := (n : Int) - 1) (k := (p + 1) / 2) (by omega)
  rw [show ((p / 2 + 1 : Nat) : Int) = ((p / 2 : Nat) : Int) + 1 by omega] at r1
  have r3 := catL_ok (xs := List.replicate (p / 2 + 1) (0 : Int)) (ys := List.replicate ((p + 1) / 2) ((n : Int) - 1)) (by rw [List.length_replicate]; omega) (by rw [List.length_replicate]; omega)
  have lG : (List.replicate (p / 2 + 1) (0 : Int) ++ List.replicate ((p + 1) / 2) ((n : Int) - 1)).length = p + 1 := by
    rw [List.length_append, List.length_replicate, List.length_replicate]
    omega
  have rG : ∀ x ∈ List.replicate (p / 2 + 1) (0 : Int) ++ List.replicate ((p + 1) / 2) ((n : Int) - 1), 0 ≤ x ∧ x < (n : Int) := fun x hx => by
    rcases List.mem_append.mp hx with hx | hx <;> rw [(List.mem_replicate.mp hx).2] <;> omega
  generalize List.replicate (p / 2 + 1) (0 : Int) ++ List.replicate ((p + 1) / 2) ((n : Int) - 1) = G at r3 lG rG
  have e3 := ltable_ok hn hp lG
  have b2 : Tb n p (tbl n p G) := ⟨tbl_len, tbl_rng (n := n) lG rG⟩
  unfold n__law_right_v34
  simp only [bs, ltell_ok hn hp, e1, f1, f2, addI_e, subI_e, r1, r2, r3, e2, e3]
  obtain ⟨ys, T2, e4, l2, q2, hT2⟩ := mapE_well (fun s66 (x58 : Tp Int) => (((n__law_pick s66 (p : Int)).bind fun x70 => some (x70, (p : Int), ())).bind fun x71 => (atT x58 x71.1.1).bind fun x72 => some (x72, x58, x71)).bind fun x74 => some (x74.1, x74.2.2.1.2)) (fun y => 0 ≤ y ∧ y < (n : Int)) 1 ((tl n p).map Tp.mk) (K + 8) T1 hT1 (by rw [List.length_map]; omega) fun K t hw hk x hx => by
    obtain ⟨u, hu, rfl⟩ := List.mem_map.mp hx
    have tu := mem_tl.mp hu
    obtain ⟨⟨y, t'⟩, e, w, y0, y1⟩ := pick_ok hw (by omega) (n := (p : Int)) (by omega) (by omega)
    have y0 : 0 ≤ y := y0
    have y1 : y < p := y1
    have e : n__law_pick t (p : Int) = some (y, t') := e
    obtain ⟨z, ez, _, hz⟩ := atL_int (xs := u) (i := y) y0 (by rw [tu.1]; exact y1)
    have ez : atT (⟨u⟩ : Tp Int) y = some z := ez
    exact ⟨z, t', by simp only [bs, e, ez], tu.2.2 z hz, w⟩
  rw [List.length_map] at l2 hT2
  have b3 : Tb n p ys := ⟨l2, q2⟩
  obtain ⟨⟨zs, T3⟩, e5, l3, q3, hT3⟩ := even_table_ok (n := n) (p := p) hT2 (by omega) h1 hn hp
  have b4 : Tb n p zs := ⟨l3, q3⟩
  have e5 : n__law_even_table T2 (n : Int) (p : Int) = some (zs, T3) := e5
  have hT3 : Well (K + 8 + ((1 : Nat) : Int) * ((tl n p).length : Int) + 252) T3 := hT3
  have hT3 : Well (K + 512 + 40 * ((0 : Nat) : Int)) T3 := hT3.mono (by omega)
  have c1 : catL [tbl n p F, tbl n p G] [ys, zs] = some [tbl n p F, tbl n p G, ys, zs] := catL_ok (by simp) (by simp)
  rw [if_pos (cap_ge (by rw [List.length_map]; omega)), e4]
  simp only [bs, e5, c1]
  have bt : ∀ T ∈ [tbl n p F, tbl n p G, ys, zs], Tb n p T := fun T h => by
    simp only [List.mem_cons, List.not_mem_nil, or_false] at h
    rcases h with rfl | rfl | rfl | rfl <;> assumption
  have lp : ∀ {b : List Int → List Int → Option (Fl (Bool × List Int) (List Int))} {c : List Int → Option (Bool × List Int)} {d : (Bool × List Int) → Option (Bool × List Int)},
      (∀ (i : Nat) (s : List Int) (x : List Int), i < 4 → Well (K + 512 + 40 * (i : Nat)) s → x ∈ [tbl n p F, tbl n p G, ys, zs] → ∃ s', Well (K + 512 + 40 * ((i + 1 : Nat) : Int)) s' ∧ b s x = some (.nx s')) →
      (∀ s, c s = some (true, s)) → Wp ((forF [tbl n p F, tbl n p G, ys, zs] T3 b).bind fun o => o.el c d) fun z => z.1 = true ∧ Well (K + 700) z.2 := fun {b c d} hb hc => by
    obtain ⟨s', e, h⟩ := forF_ex (xs := [tbl n p F, tbl n p G, ys, zs]) (s := T3) (fun i s => Well (K + 512 + 40 * (i : Nat)) s) 4 0 (by simp) hT3 hb
    rw [e]
    have h : Well (K + 512 + 40 * ((4 : Nat) : Int)) s' := h
    show Wp (c s') _
    rw [hc]
    exact .some ⟨rfl, h.mono (by omega)⟩
  refine lp (fun i S T hi hS hT => ?_) fun s => rfl
  have hT := bt T hT
  obtain ⟨⟨a, S1⟩, g1, hS1, a0, a1⟩ := pick_ok hS (by omega) (n := (T.length : Int)) (by rw [hT.1]; omega) (by rw [hT.1]; omega)
  have a0 : 0 ≤ a := a0
  have a1 : a < T.length := a1
  have g1 : n__law_pick S (T.length : Int) = some (a, S1) := g1
  obtain ⟨⟨v, S2⟩, g2, hS2, v0, v1⟩ := pick_ok hS1 (by omega) (n := (n : Int)) (by omega) (by omega)
  have v0 : 0 ≤ v := v0
  have v1 : v < n := v1
  have g2 : n__law_pick S1 (n : Int) = some (v, S2) := g2
  have hS2 : Well (K + 512 + 40 * (i : Nat) + 1 + 1) S2 := hS2
  have g3 : Nv.stI T a v = some (T.set a.toNat v) := stI_int v a0 a1
  have hB : Tb n p (T.set a.toNat v) := ⟨(List.length_set ..).trans hT.1, fun x hx => by
    rcases List.mem_or_eq_of_mem_set hx with hx | rfl
    · exact hT.2 x hx
    · exact ⟨v0, v1⟩⟩
  generalize T.set a.toNat v = B at g3 hB
  have ell : ∀ l : List Int, listL l = some l := fun _ => rfl
  have i5 : ri1 5 = some (iot 5) := ri1_nat 5 (by omega)
  simp only [bs, lenL_e, g1, ell, g2, g3]
  have lpA : ∀ {W : List Int → Prop} {xs : List (List Int)} {b0 : Unit → List Int → Option (Fl (Bool × List Int) Unit)} {k : Unit → Option (Fl (Bool × List Int) (List Int))} {d : (Bool × List Int) → Option (Fl (Bool × List Int) (List Int))}, (∀ x ∈ xs, b0 () x = some (.nx ())) → (∃ s', W s' ∧ k () = some (.nx s')) → ∃ s', W s' ∧ ((forF xs () b0).bind fun o => o.el k d) = some (.nx s') := fun {W xs b0 k d} h h2 => by
    rw [forF_unit h]
    exact h2
  refine lpA (fun x hx => ?_) ?_
  · have hx : Tb n p x := by
      simp only [List.mem_cons, List.not_mem_nil, or_false] at hx
      rcases hx with rfl | rfl <;> assumption
    simp only [bs, told_ok h1 hn p1 hp hx.1 hx.2, Bool.not_true, Bool.false_eq_true, if_false]
  · simp only [bs, i5]
    have lpB : ∀ {b : List Int → Int → Option (Fl (Bool × List Int) (List Int))} {c : List Int → Option (Fl (Bool × List Int) (List Int))} {d : (Bool × List Int) → Option (Fl (Bool × List Int) (List Int))},
        (∀ (j : Nat) (s : List Int) (x : Int), j < 5 → Well (K + 512 + 40 * (i : Nat) + 1 + 1 + 6 * (j : Nat)) s → x ∈ iot 5 → ∃ s', Well (K + 512 + 40 * (i : Nat) + 1 + 1 + 6 * ((j + 1 : Nat) : Int)) s' ∧ b s x = some (.nx s')) →
        (∀ s, c s = some (.nx s)) → ∃ s', Well (K + 512 + 40 * ((i + 1 : Nat) : Int)) s' ∧ ((forF (iot 5) S2 b).bind fun o => o.el c d) = some (.nx s') := fun {b c d} hb hc => by
      obtain ⟨s', e, h⟩ := forF_ex (xs := iot 5) (s := S2) (fun j s => Well (K + 512 + 40 * (i : Nat) + 1 + 1 + 6 * (j : Nat)) s) 5 0 (by rw [iot_len]; omega) (hS2.mono (by omega)) hb
      rw [iot_len] at h
      refine ⟨s', h.mono (by omega), ?_⟩
      rw [e]
      exact hc s'
    refine lpB (fun j S x hj hS _ => ?_) fun s => rfl
    obtain ⟨⟨c, S3⟩, g4, hS3, c0, c1⟩ := pick_ok hS (by omega) (n := ((tl n p).length : Int)) (by omega) (by omega)
    have c0 : 0 ≤ c := c0
    have c1 : c < (tl n p).length := c1
    have g4 : n__law_pick S ((tl n p).length : Int) = some (c, S3) := g4
    obtain ⟨c, rfl⟩ : ∃ k : Nat, c = (k : Int) := ⟨c.toNat, by omega⟩
    have cl : c < (tl n p).length := by omega
    have gt : (tl n p)[c]? = some (tl n p)[c] := List.getElem?_eq_getElem cl
    generalize (tl n p)[c] = u at gt
    have tu := mem_tl.mp (List.mem_of_getElem? gt)
    have g5 : atL ((tl n p).map Tp.mk) (c : Int) = some (⟨u⟩ : Tp Int) := atL_nat (by rw [List.getElem?_map, gt]; rfl)
    have g6 : listT (⟨u⟩ : Tp Int) = some u := rfl
    obtain ⟨⟨q, S4⟩, g7, hS4, pq⟩ := K68.mixedI_ok hS3 (g := u) (by rw [tu.1]; omega) (by rw [tu.1]; show K + 512 + 40 * (i : Nat) + 1 + 1 + 6 * (j : Nat) + 1 + (p : Int) ≤ _; omega)
    have pq : q.Perm u := pq
    have g7 : n__law_mixed_v2 S3 u = some (q, S4) := g7
    have hS4 : Well (K + 512 + 40 * (i : Nat) + 1 + 1 + 6 * (j : Nat) + 1 + (u.length : Int)) S4 := hS4
    rw [tu.1] at hS4
    have tq : Td n p q := ⟨pq.length_eq.trans tu.1, fun x hx => tu.2.2 x (pq.mem_iff.mp hx)⟩
    have so : sortI q = u := (sortI_eq pq.symm tu.2.1).symm
    have g8 := made_ok h1 hn p1 hp hB.1 hB.2 tq
    rw [so] at g8
    have g9 : atL B (c : Int) = some (val n p B u) := atL_nat (val_at hn hp hB.1 gt)
    have rv := hB.2 _ (look_ok hn hp hB.1 tu).2
    obtain ⟨s, es⟩ : ∃ s, reprN (enc (val n p B u)) = some s := ⟨_, vb_repr (vb_int (by omega) (by omega)) (by omega) (by omega)⟩
    have nn : neS s s = some false := by
      unfold neS
      simp
    have g10 : neN q q = some false := by rw [neN_e]; simp
    simp only [bs, lenL_e, List.length_map, g4, g5, g6, g7, g8, g9, es, nn, g10, ell, Bool.false_eq_true, if_false]
    exact ⟨S4, hS4.mono (by omega), rfl⟩
end K37
end Lw
namespace Lw
namespace K37
open PySem Hb Nv L2 P
open Enc (enc)
open Ru
open K71 (forF_ex)
theorem len_last : (tl 3 2).length = 6 := by decide +kernel
theorem made_last : n_made_of 3 2 [0, 0, 1, 1, 2, 2] [2, 0] = some 1 := by
  have h := made_ok (n := 3) (p := 2) (T := [0, 0, 1, 1, 2, 2]) (l := [2, 0]) (by omega) (by omega) (by omega) (by omega) len_last.symm (fun x hx => by
    simp only [List.mem_cons, List.not_mem_nil, or_false] at hx
    rcases hx with rfl | rfl | rfl | rfl | rfl | rfl <;> omega) ⟨rfl, fun x hx => by
    simp only [List.mem_cons, List.not_mem_nil, or_false] at hx
    rcases hx with rfl | rfl <;> omega⟩
  have so : sortI [2, 0] = [0, 2] := (sortI_eq (List.Perm.swap 2 0 []) (by decide)).symm
  rw [so] at h
  have v : val 3 2 [0, 0, 1, 1, 2, 2] [0, 2] = 1 := by decide +kernel
  rw [v] at h
  exact h
theorem stays_last : n_stays_between 3 2 [0, 0, 1, 1, 2, 2] = some true := by decide +kernel
theorem even1 : n_is_even 3 2 [0, 1, 1, 1, 1, 2] = some true := by decide +kernel
theorem even2 : n_is_even 3 2 [0, 1, 1, 1, 2, 2] = some false := by decide +kernel
theorem even3 : n_is_even 1 5 [0] = some true := by decide +kernel
theorem even4 : n_is_even 3 2 [0, 0, 1, 1, 2, 2] = some true := by decide +kernel
theorem k37_law_ok {ms : List Int} (hl : ms.length ≤ 63) : n_law_v37 ms = some true := by
  obtain ⟨k, hk, ek⟩ : ∃ k : Nat, k ≤ 4 ∧ (if (if (ms.length : Int) < 4 then (ms.length : Int) else 4) > 1 then (if (ms.length : Int) < 4 then (ms.length : Int) else 4) else 1) = (k : Int) := by
    refine ⟨(if (if (ms.length : Int) < 4 then (ms.length : Int) else 4) > 1 then (if (ms.length : Int) < 4 then (ms.length : Int) else 4) else 1 : Int).toNat, ?_, ?_⟩ <;> split <;> split <;> omega
  unfold n_law_v37
  simp only [bs, lenL_e, minI2_e, maxI2_e, ek, ri1_nat k (by omega : k ≤ 1000000)]
  refine bnd (x := Fl.nx ()) (forF_unit (xs := iot k) fun x hx => ?_) ?_
  · have hx := mem_iot.mp hx
    obtain ⟨T0, e0, h0⟩ := well_ok (ms := ms) hx.1 (by omega)
    obtain ⟨⟨a, T1⟩, e1, hT1, a0, a1⟩ := pick_ok h0 (by omega) (n := (6 : Int)) (by omega) (by omega)
    have a0 : 0 ≤ a := a0
    have a1 : a < 6 := a1
    obtain ⟨⟨c, T2⟩, e2, hT2, c0, c1⟩ := pick_ok hT1 (by omega) (n := (5 : Int)) (by omega) (by omega)
    have c0 : 0 ≤ c := c0
    have c1 : c < 5 := c1
    have hT2 : Well (2 + 700 * ((0 : Nat) : Int)) T2 := Well.mono hT2 (by omega)
    have e2 : n__law_pick T1 5 = some (c, T2) := e2
    simp only [bs, e0, e1, e2, addI_e]
    have lp : ∀ {xs : List (Int × Int)} {b : List Int → Int × Int → Option (Fl Bool (List Int))} {c : List Int → Option (Fl Bool Unit)} {d : Bool → Option (Fl Bool Unit)}, xs.length = 5 → (∀ (i : Nat) (s : List Int) (x : Int × Int), i < 5 → Well (2 + 700 * (i : Nat)) s → x ∈ xs → ∃ s', Well (2 + 700 * ((i + 1 : Nat) : Int)) s' ∧ b s x = some (.nx s')) →
        (∀ s, Well 3502 s → c s = some (.nx ())) → ((forF xs T2 b).bind fun o52 => o52.el c d) = some (.nx ()) := fun {xs b c d} hxs hb hc => by
      obtain ⟨s', e, h⟩ := forF_ex (xs := xs) (fun i s => Well (2 + 700 * (i : Nat)) s) 5 0 (by omega) hT2 hb
      rw [e]
      rw [hxs] at h
      exact hc s' (h.mono (by omega))
    refine lp rfl (fun i s x hi hs hx => ?_) fun s hs => ?_
    · have hx : ∃ n p : Nat, x = ((n : Int), (p : Int)) ∧ 1 ≤ n ∧ n ≤ 6 ∧ 1 ≤ p ∧ p ≤ 5 := by
        simp only [List.mem_cons, List.not_mem_nil, or_false] at hx
        rcases hx with rfl | rfl | rfl | rfl | rfl
        · exact ⟨(1 + a).toNat, (1 + c).toNat, by rw [Int.toNat_of_nonneg (by omega), Int.toNat_of_nonneg (by omega)], by omega, by omega, by omega, by omega⟩
        · exact ⟨3, 2, rfl, by omega, by omega, by omega, by omega⟩
        · exact ⟨4, 3, rfl, by omega, by omega, by omega, by omega⟩
        · exact ⟨2, 5, rfl, by omega, by omega, by omega, by omega⟩
        · exact ⟨5, 1, rfl, by omega, by omega, by omega, by omega⟩
      obtain ⟨n, p, rfl, n1, n6, p1, p5⟩ := hx
      obtain ⟨⟨b, T3⟩, e3, eb, hT3⟩ := right_ok hs (by omega) n1 n6 p1 p5
      have eb : b = true := eb
      subst eb
      refine ⟨T3, Well.mono hT3 (by omega), ?_⟩
      simp only [bs, e3, Bool.not_true, Bool.false_eq_true, if_false]
    · simp only [bs, eqN_e]
      by_cases x0 : x = 0
      · obtain ⟨⟨b, T3⟩, e3, eb, hT3⟩ := right_ok (n := 6) (p := 5) hs (by omega) (by omega) (by omega) (by omega) (by omega)
        have eb : b = true := eb
        subst eb
        have e3 : n__law_right_v34 s 6 5 = some (true, T3) := e3
        simp only [x0, decide_true, if_true, bs, e3, Bool.not_true, Bool.false_eq_true, if_false]
      · simp only [x0, decide_false, Bool.false_eq_true, if_false, bs]
  · simp only [Fl.el, bs, made_last, stays_last, even1, even2, even3, even4]
    decide +kernel
end K37
end Lw
namespace K37
open PySem PySem.Spec PyProof.Rows L2 Hb
def names : List PySem.Str := (["is_integer", "need_count", "need_people", "all_tellings", "are_places", "need_table", "rule_of", "made_of", "stays_between", "is_even", "_law_well", "_law_pick", "_law_mixed", "_law_tellings", "_law_table", "_law_fixed", "_law_slopes", "_law_otherwise", "_law_is_gain", "_law_some_fixed", "_law_mirrored", "_law_told", "_law_even_table", "_law_right", "BallotError", "InvalidCount", "InvalidPeople", "InvalidTable", "InvalidTelling", "MOST_PLACES"] : List PySem.Str) ++ (["MOST_RULED", "MOST_PEOPLE"] : List PySem.Str)
abbrev R : PySem.W.OpenRow := PySem.W.OpenLaw.row PySem.Challenge.rw_hillballots_k37_places_made
abbrev hk : PySem.W.Hook := He.hookD 2 fa fn
def ob (s : PySem.W.SharedT) : He.AlD := He.obsDG 2 fa fn (HandSHeadRun.getT s)
theorem ob_eq (s : PySem.W.SharedT) : ob s = hk.obs s.abs := He.obsDG_eq (HandSHeadRun.getT_eq s)
theorem run (w : World) : HandSHeadRun.RunEq R (PySem.W.view R.prog [36]) hk ob 5000 names w := by
  intro os
  kernel_rfl
theorem head_law_ok {ms : List Int} (hl : ms.length ≤ 63) : ∃ δ, P.F_law_v37 [.fz (.list (ms.map .int))] = .ok (.fz (.bool true)) δ :=
  ⟨_, P.V_law_v37 ms true (Lw.K37.k37_law_ok hl)⟩
end K37
open PySem PySem.W PySem.Calls PyProof.Rows
theorem PySem.Challenge.cw_hillballots_k37_places_made_holds : PySem.Challenge.rw_hillballots_k37_places_made.Holds := by
  w_on; o_law
  refine HandSHeadRun.head_any (r := OpenLaw.row PySem.Challenge.rw_hillballots_k37_places_made) (q := view (OpenLaw.row PySem.Challenge.rw_hillballots_k37_places_made).prog [36]) (H := K37.hk) (ob := K37.ob) (M := 5000) (loose := K37.names) (d := HandSHeadRun.topDef (OpenLaw.row PySem.Challenge.rw_hillballots_k37_places_made).prog 36) (kwd := []) K37.ob_eq
    (by kernel_rfl) (fun s => by kernel_rfl) K37.run (by kernel_rfl) (by kernel_rfl) (by kernel_rfl) (by rfl) (by first | assumption | decide +kernel) (by decide +kernel) ⟨rfl, rfl, rfl, rfl, rfl, by decide +kernel⟩ ?hw ?hc
  case hw => w_witness2
  case hc =>
    refine Hb.walkG (l := PySem.Challenge.rw_hillballots_k37_places_made) (n := 63) (k := 7) (x := "_law_script") rfl (by decide) (by kernel_rfl) ⟨rfl, by decide, by decide⟩ ?F
    intro w mg fa h Y G hmg0
    obtain ⟨K, KX, c⟩ := Y
    have hmg : mg ("law" : PySem.Str) = some (.ref fa) := by
      have e : (HandSHeadRun.topDef (OpenLaw.row PySem.Challenge.rw_hillballots_k37_places_made).prog 36).name = ("law" : PySem.Str) := by kernel_rfl
      rw [← e]
      exact hmg0
    have Y : K37.Ctx K mg := ⟨c, h, KX, G⟩
    obtain ⟨fd, FD⟩ := c.def_ 20 (d := K37.d_law)
    have hf : fa = He.fAd K ("law", none) := by
      have e2 := He.glo_ok KX G (c.fact 20 (f := .glo "law"))
      rw [hmg] at e2
      exact PySem.Value.ref.inj (Option.some.inj e2)
    refine ⟨K, fd, Hb.spF K mg 1 P.F_law_v37, KX, fun s u => ?_, fun H a ns hl hX => ?_, fun bs _ _ => ?_⟩
    · exact FD.bindsA (ps := ["_law_script"]) (fun _ _ _ _ _ _ us h => by
        match us, h with
        | [a0], _ => rfl) s [u] rfl
    · obtain ⟨δ, e⟩ := K37.head_law_ok hl
      exact Hb.sp_law hX e
    · rw [hf]
      exact Hb.fnG_D FD K37.S_law rfl fun cdv A outer s H E hr hgd => K37.W_law Y cdv A outer s H E hr hgd
