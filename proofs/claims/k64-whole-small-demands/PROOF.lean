import PyProof.Rows.All
import Wide.All
import OpenK.AllK
import Wide.FinOn
import KE.KStateDown
import HandS.Base
import HandS.Call
import HandS.Ends
import HandS.More
import HandS.Words
import HandS.WordsExc
import HandS.Defaults
import HandS.Head0
import HandS.Head1
import HandS.Head2
import HandS.HeadEnd
import HandS.HeadHook1
import HandS.HeadHook2
import KE.KNest
import HandS.ForMost
import HandS.Zip
import HandS.Walk
import HandS.Style
import HandS.TupAny
import HandS.TupMul
import HandS.Conv
import HandS.Wide
import HandS.IsInst
import HandS.SortKw
import HandS.NoneIn
import HandS.Lambda
import KE.DatumOrd
import KE.DatumIndex
import KE.DatumMoreOrd
import KE.SortKeyHeap
import KE.DataAny
import KE.DataIsa
import HandS.EndTab
import HandS.Star
import HandS.Flow
import KE.KTupSum
import PyProof.Rows.RowBridgeK
import PyProof.Rows.SeqMore
import KE.GoesNew
import KE.KDictZip
import KE.GoesZip
import KE.GoesMore
import KE.KLam
import HandS.SetFor
import HandS.Strs
import PySem.Challenge.RW_crosslimits_k64_whole_all_orders_of_smal
set_option Elab.async false
set_option linter.all false
set_option maxRecDepth 100000
section
set_option autoImplicit false
/-! D-layer 0: slots that hold data, mutable lists (cells), steps of the heap, the canned readings. -/
namespace DL
open PySem PySem.Spec PyProof.Rows L2
open PySem.W (Datum Tup)

def Ex (H H' : Hp) : Prop := ∀ a o, H a = some o → H' a = some o
theorem Ex.refl (H : Hp) : Ex H H := fun _ _ h => h
theorem Ex.trans {H H1 H2 : Hp} (a : Ex H H1) (b : Ex H1 H2) : Ex H H2 := fun x o h => b x o (a x o h)
theorem Ex.new {H : Hp} {p : Addr} {o : HO} (h : H p = none) : Ex H (upd H p o) := fun a u e => by
  rw [upd_ne (ne_of_none e h)]
  exact e
theorem Ex.rd {H H' : Hp} {a : Addr} {u : HO} (e : Ex H H') (h : Rd H a u) : Rd H' a u := by
  rcases h with h | ⟨o, h⟩
  · exact Or.inl (e a _ h)
  · exact Or.inr ⟨o, e a _ h⟩
theorem Ex.sl {K : PySem.W.Frag} {H H' : Hp} {a : Addr} {xs : List V} (e : Ex H H') (h : SqL K H a xs) : SqL K H' a xs := by
  rcases h with h | h
  · exact Or.inl (e.rd h)
  · exact Or.inr h
theorem Ex.st {K : PySem.W.Frag} {H H' : Hp} {a : Addr} {xs : List V} (e : Ex H H') (h : SqT K H a xs) : SqT K H' a xs := by
  rcases h with h | h
  · exact Or.inl (e.rd h)
  · exact Or.inr h
theorem Ex.free {H H' : Hp} {p : Addr} (e : Ex H H') (h : H' p = none) : H p = none := by
  cases h1 : H p with
  | none => rfl
  | some o =>
    rw [e p o h1] at h
    cases h
mutual
theorem Ex.dp {K : PySem.W.Frag} {H H' : Hp} (e : Ex H H') : ∀ {v : V} {d : PyData}, Dp K H v d → Dp K H' v d
  | _, _, .non => .non
  | _, _, .bl b => .bl b
  | _, _, .int i => .int i
  | _, _, .str x => .str x
  | _, _, .lst h a => .lst (e.sl h) (Ex.dpAll e a)
  | _, _, .tup h a => .tup (e.st h) (Ex.dpAll e a)
theorem Ex.dpAll {K : PySem.W.Frag} {H H' : Hp} (e : Ex H H') : ∀ {vs : List V} {ds : List PyData}, DpAll K H vs ds → DpAll K H' vs ds
  | _, _, .nil => .nil
  | _, _, .cons h t => .cons (Ex.dp e h) (Ex.dpAll e t)
end
end DL
namespace L2
open PySem PySem.Spec PyProof.Rows
section
variable {K : PySem.W.Frag} {H : Hp}
theorem DpAll.length : ∀ {vs : List V} {ds : List PyData}, DpAll K H vs ds → vs.length = ds.length
  | _, _, .nil => rfl
  | _, _, .cons _ t => congrArg (· + 1) (DpAll.length t)
theorem DpAll.get : ∀ {vs : List V} {ds : List PyData} {i : Nat} {v : V}, DpAll K H vs ds → vs[i]? = some v → ∃ d, ds[i]? = some d ∧ Dp K H v d
  | _, _, _, _, .nil, h => by simp at h
  | _, _, 0, _, .cons h t, e => by
    cases Option.some.inj e
    exact ⟨_, rfl, h⟩
  | _, _, i + 1, v, .cons h t, e => by
    obtain ⟨d, h1, h2⟩ := DpAll.get (i := i) (v := v) t (by simpa using e)
    exact ⟨d, by simpa using h1, h2⟩
theorem DpAll.get' : ∀ {vs : List V} {ds : List PyData} {i : Nat} {d : PyData}, DpAll K H vs ds → ds[i]? = some d → ∃ v, vs[i]? = some v ∧ Dp K H v d
  | _, _, _, _, .nil, h => by simp at h
  | _, _, 0, _, .cons h t, e => by
    cases Option.some.inj e
    exact ⟨_, rfl, h⟩
  | _, _, i + 1, v, .cons h t, e => by
    obtain ⟨d, h1, h2⟩ := DpAll.get' (i := i) (d := v) t (by simpa using e)
    exact ⟨d, by simpa using h1, h2⟩
theorem DpAll.append : ∀ {vs ws : List V} {ds es : List PyData}, DpAll K H vs ds → DpAll K H ws es → DpAll K H (vs ++ ws) (ds ++ es)
  | _, _, _, _, .nil, h => h
  | _, _, _, _, .cons h t, h' => .cons h (DpAll.append t h')
theorem DpAll.snoc {vs : List V} {v : V} {ds : List PyData} {d : PyData} (h : DpAll K H vs ds) (h1 : Dp K H v d) : DpAll K H (vs ++ [v]) (ds ++ [d]) := h.append (.cons h1 .nil)
theorem DpAll.set : ∀ {vs : List V} {ds : List PyData} {v : V} {d : PyData} (i : Nat), DpAll K H vs ds → Dp K H v d → DpAll K H (vs.set i v) (ds.set i d)
  | _, _, _, _, _, .nil, _ => .nil
  | _, _, _, _, 0, .cons _ t, h => .cons h t
  | _, _, _, _, i + 1, .cons h t, h' => .cons h (DpAll.set i t h')
theorem DpAll.take : ∀ {vs : List V} {ds : List PyData} (n : Nat), DpAll K H vs ds → DpAll K H (vs.take n) (ds.take n)
  | _, _, 0, _ => .nil
  | _, _, _ + 1, .nil => .nil
  | _, _, n + 1, .cons h t => .cons h (DpAll.take n t)
theorem DpAll.drop : ∀ {vs : List V} {ds : List PyData} (n : Nat), DpAll K H vs ds → DpAll K H (vs.drop n) (ds.drop n)
  | _, _, 0, h => h
  | _, _, _ + 1, .nil => .nil
  | _, _, n + 1, .cons _ t => DpAll.drop n t
theorem DpAll.eraseIdx : ∀ {vs : List V} {ds : List PyData} (i : Nat), DpAll K H vs ds → DpAll K H (vs.eraseIdx i) (ds.eraseIdx i)
  | _, _, _, .nil => .nil
  | _, _, 0, .cons _ t => t
  | _, _, i + 1, .cons h t => .cons h (DpAll.eraseIdx i t)
theorem dropLast_take {α : Type} (l : List α) : l.dropLast = l.take (l.length - 1) := List.dropLast_eq_take ..
theorem DpAll.dropLast {vs : List V} {ds : List PyData} (h : DpAll K H vs ds) : DpAll K H vs.dropLast ds.dropLast := by
  rw [dropLast_take, dropLast_take, h.length]
  exact h.take _
theorem DpAll.rep {vs : List V} {ds : List PyData} (h : DpAll K H vs ds) : ∀ k : Nat, DpAll K H (List.replicate k vs).flatten (List.replicate k ds).flatten
  | 0 => .nil
  | k + 1 => by
    rw [List.replicate_succ, List.replicate_succ, List.flatten_cons, List.flatten_cons]
    exact h.append (DpAll.rep h k)
end

end L2
namespace DL
open PySem PySem.Spec PyProof.Rows L2
open PySem.W (Datum Tup)
/-! ### slots -/
inductive Sl where
  /-- nothing is known -/
  | un
  /-- data that never changes -/
  | dat (d : PyData)
  /-- the mutable list number k -/
  | cel (k : Nat)
  /-- a list just made, known to nobody else -/
  | fre (xs : List PyData)
  /-- dicts that do not change: keys texts and ints; keys tuples of these -/
  | dik (kvs : List (Key × Int))
  | dit (P : Program) (w : World) (kvs : List (List Key × Int))
/-- data with a Lean type -/
abbrev dd {α : Type} [DecidableEq α] [Datum α] (x : α) : Sl := .dat (Datum.toD x)
/-- a new list of such -/
abbrev fr {α : Type} [DecidableEq α] [Datum α] (xs : List α) : Sl := .fre (xs.map Datum.toD)
/-- the mutable lists' contents; none: given away (frozen) -/
abbrev Mu := List (Option (List PyData))
/-- it may stand in a slot -/
def Sl.sta : Sl → Bool
  | .un => false
  | .fre _ => false
  | _ => true
/-- what it reads as -/
def Sl.rd (μ : Mu) : Sl → Option PyData
  | .dat d => some d
  | .cel k => (μ[k]?.join).map PyData.list
  | .fre xs => some (.list xs)
  | _ => none

def dikV (kvs : List (Key × Int)) : List (Key × V) := kvs.map fun p => (p.1, V.int p.2)
/-- the dict's own object, its keys tuples that stand elsewhere -/
def rawD (P : Program) (w : World) (a : Addr) (xs : List (List Key × Addr × Value)) (h : Heap) : Prop := ∃ o es ep, h.get? a = some o ∧ o.ExactDict ∧ o.data = .dict es ep ∧ es.toList = xs.map (entryOfKey (tupleKind (mixKind P w)))
def DitAt (K : PySem.W.Frag) (P : Program) (w : World) (F : Hp) (a : Addr) (kvs : List (List Key × Int)) : Prop := ∃ xs : List (List Key × Addr × Value), F a = some (.ext (rawD P w a xs)) ∧
  Paired (fun (p : List Key × Int) (q : List Key × Addr × Value) => p.1 = q.1 ∧ SqT K F q.2.1 (p.1.map kV) ∧ RelV (V.int p.2) q.2.2) kvs xs ∧ (kvs.map (·.1)).Nodup
theorem DitAt.ex {K : PySem.W.Frag} {P : Program} {w : World} {F F' : Hp} {a : Addr} {kvs : List (List Key × Int)} (h : DitAt K P w F a kvs) (e : Ex F F') : DitAt K P w F' a kvs := by
  obtain ⟨xs, h1, h2, h3⟩ := h
  exact ⟨xs, e a _ h1, Paired.mapP h2 fun _ _ q => ⟨q.1, e.st q.2.1, q.2.2⟩, h3⟩
/-- v is what r says -/
def Vr (K : PySem.W.Frag) (F H : Hp) (as : List Addr) (v : V) : Sl → Prop
  | .un => True
  | .dat d => Dp K F v d
  | .cel k => ∃ a, v = .ref a ∧ as[k]? = some a
  | .fre xs => ∃ a vs, v = .ref a ∧ H a = some (.lst vs) ∧ F a = none ∧ a ∉ as ∧ DpAll K F vs xs
  | .dik kvs => ∃ a, v = .ref a ∧ F a = some (.dK (dikV kvs))
  | .dit P w kvs => ∃ a, v = .ref a ∧ DitAt K P w F a kvs
/-- a new list's address is new -/
def New (H : Hp) (v : V) : Sl → Prop
  | .fre _ => ∀ a, v = .ref a → H a = none
  | _ => True
/-- the code object of sets_of (it makes a lambda), its table of code objects -/
def codeOf (K : PySem.W.Frag) : Addr := match K.lookup (He.fAd K ("sets_of", none)) with
  | some ⟨_, _, .func fd, _⟩ => (match fd.code with
    | .ref c => c
    | _ => 0)
  | _ => 0
def tabOf (K : PySem.W.Frag) : Addr := match K.lookup (codeOf K) with
  | some ⟨_, _, .fields vs, _⟩ => (match (vs[11]? : Option Value) with
    | some (.ref P) => P
    | _ => 0)
  | _ => 0
def lamQ : Str := "sets_of.<locals>.<lambda>"
def TTs (K : PySem.W.Frag) : List (Addr × Str) := [(tabOf K, lamQ)]
/-- the mutable lists as they stand; F: what never changes -/
structure Clz (K : PySem.W.Frag) (F H : Hp) (as : List Addr) (μ : Mu) : Prop where
  sub : Ex F H
  nd : as.Nodup
  len : as.length = μ.length
  cel : ∀ (k : Nat) (xs : List PyData), μ[k]? = some (some xs) → ∃ a vs, as[k]? = some a ∧ F a = none ∧ H a = some (.lst vs) ∧ DpAll K F vs xs
  there : ∀ a ∈ as, H a ≠ none
  tab : LamX.Tabs (TTs K) H
  nt : ∀ a ps, F a ≠ some (.tbl ps)
/-- the slots -/
def Sls (K : PySem.W.Frag) (F H : Hp) (as : List Addr) (σ : L2.St) (Γ : List Sl) : Prop := ∀ (i : Nat) (r : Sl), Γ[i]? = some r → r.sta = true → ∃ v, σ[i]? = some (some v) ∧ Vr K F H as v r
/-- what happened between: all but the mutable lists stays, what is new in F is new -/
structure Step (as : List Addr) (F H F' H' : Hp) : Prop where
  ex : Ex F F'
  kp : ∀ b o, b ∉ as → (∀ ps, o ≠ .tbl ps) → H b = some o → H' b = some o
  fr : ∀ b, H b ≠ none → F b = none → b ∉ as → F' b = none
  dm : ∀ b, H b ≠ none → H' b ≠ none
/-- nothing was changed -/
structure StepP (F H F' H' : Hp) : Prop where
  ex : Ex F F'
  hx : Ex H H'
  sub : Ex F' H'
  fr : ∀ b, H b ≠ none → F b = none → F' b = none
  nt : ∀ a ps, F' a = some (.tbl ps) → F a = some (.tbl ps)
section
variable {K : PySem.W.Frag} {F H F' H' F2 H2 : Hp} {as : List Addr} {μ : Mu} {σ : L2.St} {Γ : List Sl} {v : V} {r : Sl}
theorem Step.refl : Step as F H F H := ⟨Ex.refl F, fun _ _ _ _ h => h, fun _ _ h _ => h, fun _ h => h⟩
theorem Step.trans (a : Step as F H F' H') (b : Step as F' H' F2 H2) : Step as F H F2 H2 :=
  ⟨a.ex.trans b.ex, fun c o n nt h => b.kp c o n nt (a.kp c o n nt h), fun c h1 h2 n => b.fr c (a.dm c h1) (a.fr c h1 h2 n) n, fun c h => b.dm c (a.dm c h)⟩
theorem StepP.refl (e : Ex F H) : StepP F H F H := ⟨Ex.refl F, Ex.refl H, e, fun _ _ h => h, fun _ _ h => h⟩
theorem StepP.trans (a : StepP F H F' H') (b : StepP F' H' F2 H2) : StepP F H F2 H2 :=
  ⟨a.ex.trans b.ex, a.hx.trans b.hx, b.sub, fun c h1 h2 => b.fr c (by
    cases e : H c with
    | none => exact absurd e h1
    | some o => rw [a.hx c o e]; simp) (a.fr c h1 h2), fun c ps h => a.nt c ps (b.nt c ps h)⟩
theorem StepP.step (a : StepP F H F' H') : Step as F H F' H' := ⟨a.ex, fun b o _ _ h => a.hx b o h, fun b h1 h2 _ => a.fr b h1 h2, fun b h => by
    cases e : H b with
    | none => exact absurd e h
    | some o => rw [a.hx b o e]; simp⟩
theorem StepP.hxOnly (e : Ex F H) (x : Ex H H') : StepP F H F H' := ⟨Ex.refl F, x, e.trans x, fun _ _ h => h, fun _ _ h => h⟩
/-- a new object that is laid into what never changes -/
theorem StepP.new {p : Addr} {o : HO} (e : Ex F H) (h : H p = none) (no : ∀ ps, o ≠ .tbl ps := by intro ps z; cases z) : StepP F H (upd F p o) (upd H p o) :=
  ⟨Ex.new (e.free h), Ex.new h, fun a u q => by
    by_cases ha : a = p
    · rw [ha, upd_same] at q ⊢
      exact q
    · rw [upd_ne ha] at q ⊢
      exact e a u q, fun b h1 h2 => by
    rw [upd_ne]
    · exact h2
    · rintro rfl
      exact h1 h, fun a ps q => by
    by_cases ha : a = p
    · rw [ha, upd_same] at q
      exact absurd (Option.some.inj q) (no ps)
    · rw [upd_ne ha] at q
      exact q⟩
theorem Clz.pure (c : Clz K F H as μ) (s : StepP F H F' H') : Clz K F' H' as μ := by
  refine ⟨s.sub, c.nd, c.len, fun k xs h => ?_, fun a ha => (s.step (as := as)).dm a (c.there a ha), c.tab.ext s.hx, fun a ps h => c.nt a ps (s.nt a ps h)⟩
  obtain ⟨a, vs, h1, h2, h3, h4⟩ := c.cel k xs h
  exact ⟨a, vs, h1, s.fr a (by rw [h3]; simp) h2, s.hx a _ h3, s.ex.dpAll h4⟩
theorem Vr.mono (s : Step as F H F' H') (h : Vr K F H as v r) : Vr K F' H' as v r := by
  cases r with
  | un => trivial
  | dat d => exact s.ex.dp h
  | cel k => exact h
  | fre xs =>
    obtain ⟨a, vs, h1, h2, h3, h4, h5⟩ := h
    exact ⟨a, vs, h1, s.kp a _ h4 (fun ps z => by cases z) h2, s.fr a (by rw [h2]; simp) h3 h4, h4, s.ex.dpAll h5⟩
  | dik kvs => obtain ⟨a, h1, h2⟩ := h; exact ⟨a, h1, s.ex a _ h2⟩
  | dit P w kvs => obtain ⟨a, h1, h2⟩ := h; exact ⟨a, h1, h2.ex s.ex⟩
theorem Sls.mono (s : Step as F H F' H') (h : Sls K F H as σ Γ) : Sls K F' H' as σ Γ := fun i r e q => by
  obtain ⟨v, h1, h2⟩ := h i r e q
  exact ⟨v, h1, h2.mono s⟩
/-- it reads as data in H -/
theorem Vr.dp {d : PyData} (c : Clz K F H as μ) (h : Vr K F H as v r) (e : r.rd μ = some d) : Dp K H v d := by
  cases r with
  | un => cases e
  | dat d' => cases e; exact c.sub.dp h
  | cel k =>
    obtain ⟨a, rfl, h2⟩ := h
    have e1 : (μ[k]?.join).map PyData.list = some d := e
    cases q : μ[k]? with
    | none => rw [q] at e1; cases e1
    | some o =>
      cases o with
      | none => rw [q] at e1; cases e1
      | some xs =>
        rw [q] at e1
        have e2 : PyData.list xs = d := Option.some.inj e1
        subst e2
        obtain ⟨a', vs, g1, g2, g3, g4⟩ := c.cel k xs q
        rw [h2] at g1
        cases g1
        exact .lst (.inl (.inl g3)) (c.sub.dpAll g4)
  | fre xs =>
    obtain ⟨a, vs, rfl, h2, h3, h4, h5⟩ := h
    cases e
    exact .lst (.inl (.inl h2)) (c.sub.dpAll h5)
  | dik kvs => cases e
  | dit P w kvs => cases e
/-- .. a list, its items data that never change -/
theorem Vr.seqL {ds : List PyData} (c : Clz K F H as μ) (h : Vr K F H as v r) (e : r.rd μ = some (.list ds)) : ∃ a vs, v = .ref a ∧ SqL K H a vs ∧ DpAll K F vs ds := by
  cases r with
  | un => cases e
  | dat d' =>
    cases e
    cases h with
    | lst h1 h2 => exact ⟨_, _, rfl, c.sub.sl h1, h2⟩
  | cel k =>
    obtain ⟨a, rfl, h2⟩ := h
    have e1 : (μ[k]?.join).map PyData.list = some (.list ds) := e
    cases q : μ[k]? with
    | none => rw [q] at e1; cases e1
    | some o =>
      cases o with
      | none => rw [q] at e1; cases e1
      | some xs =>
        rw [q] at e1
        have e2 : PyData.list xs = .list ds := Option.some.inj e1
        cases e2
        obtain ⟨a', vs, g1, g2, g3, g4⟩ := c.cel k ds q
        rw [h2] at g1
        cases g1
        exact ⟨a, vs, rfl, .inl (.inl g3), g4⟩
  | fre xs =>
    obtain ⟨a, vs, rfl, h2, h3, h4, h5⟩ := h
    cases e
    exact ⟨a, vs, rfl, .inl (.inl h2), h5⟩
  | dik kvs => cases e
  | dit P w kvs => cases e
theorem Vr.seqT {ds : List PyData} (c : Clz K F H as μ) (h : Vr K F H as v r) (e : r.rd μ = some (.tuple ds)) : ∃ a vs, v = .ref a ∧ SqT K F a vs ∧ DpAll K F vs ds := by
  cases r with
  | un => cases e
  | dat d' =>
    cases e
    cases h with
    | tup h1 h2 => exact ⟨_, _, rfl, h1, h2⟩
  | cel k =>
    have e1 : (μ[k]?.join).map PyData.list = some (.tuple ds) := e
    cases q : μ[k]? with
    | none => rw [q] at e1; cases e1
    | some o =>
      cases o with
      | none => rw [q] at e1; cases e1
      | some xs => rw [q] at e1; cases e1
  | fre xs => cases e
  | dik kvs => cases e
  | dit P w kvs => cases e
end

/-! ### the canned readings -/
/-- an expression gives r -/
def tD (K : PySem.W.Frag) (Γ : List Sl) (μ : Mu) (r : Sl) (μ' : Mu) : TE := fun σ H Q => ∃ F as, Clz K F H as μ ∧ Sls K F H as σ Γ ∧
  ∀ v F' H', Step as F H F' H' → Clz K F' H' as μ' → Vr K F' H' as v r → New H v r → Q v H'
/-- a test gives b -/
def tDT (K : PySem.W.Frag) (Γ : List Sl) (μ : Mu) (b : Bool) (μ' : Mu) : TT := fun σ H Q => ∃ F as, Clz K F H as μ ∧ Sls K F H as σ Γ ∧ ∀ F' H', Step as F H F' H' → Clz K F' H' as μ' → Q b H'
/-- arguments give rs -/
def VrA (K : PySem.W.Frag) (F H : Hp) (as : List Addr) (vs : List V) (rs : List Sl) : Prop := Paired (Vr K F H as) vs rs
def tDA (K : PySem.W.Frag) (Γ : List Sl) (μ : Mu) (rs : List Sl) (μ' : Mu) : TA := fun σ H Q => ∃ F as, Clz K F H as μ ∧ Sls K F H as σ Γ ∧
  ∀ vs F' H', Step as F H F' H' → Clz K F' H' as μ' → VrA K F' H' as vs rs → Q vs H'

abbrev Ev (X : Cx) (Γ : List Sl) (μ : Mu) (e : Expr) (r : Sl) (μ' : Mu) : Prop := PE X e (tD X.K Γ μ r μ')
abbrev EvT (X : Cx) (Γ : List Sl) (μ : Mu) (e : Expr) (b : Bool) (μ' : Mu) : Prop := PT X e (tDT X.K Γ μ b μ')
abbrev EvW (X : Cx) (Γ : List Sl) (μ : Mu) (e : Expr) (b : Bool) (μ' : Mu) : Prop := PW X e (tDT X.K Γ μ b μ')
abbrev EvA (X : Cx) (Γ : List Sl) (μ : Mu) (es : List Expr) (rs : List Sl) (μ' : Mu) : Prop := PA X es (tDA X.K Γ μ rs μ')

/-! ### a weaker reading -/
section
variable {X : Cx} {e : Expr} {es : List Expr}
theorem pe_le {t t' : TE} (h : PE X e t) (le : ∀ σ H Q, t' σ H Q → t σ H Q) : PE X e t' := ⟨fun pins s σ H Q I q => h.run pins s σ H Q I (le _ _ _ q)⟩
theorem pt_le {t t' : TT} (h : PT X e t) (le : ∀ σ H Q, t' σ H Q → t σ H Q) : PT X e t' := ⟨fun pins s σ H Q I q => h.run pins s σ H Q I (le _ _ _ q)⟩
theorem pw_le {t t' : TT} (h : PW X e t) (le : ∀ σ H Q, t' σ H Q → t σ H Q) : PW X e t' := ⟨fun wh pins s σ H Q I q => h.run wh pins s σ H Q I (le _ _ _ q)⟩
theorem pa_le {t t' : TA} (h : PA X es t) (le : ∀ σ H Q, t' σ H Q → t σ H Q) : PA X es t' := ⟨fun pos pins s σ H Q I q => h.run pos pins s σ H Q I (le _ _ _ q)⟩
end
section
variable {X : Cx} {Γ : List Sl} {μ μ1 μ2 μ3 : Mu} {e a b : Expr} {es : List Expr} {r ra rb rc : Sl} {rs : List Sl} {pos : Pos}
/-- r given in other words -/
theorem Ev.cast {r' : Sl} (h : Ev X Γ μ e r μ1) (q : r = r') : Ev X Γ μ e r' μ1 := q ▸ h
theorem EvT.cast {k k' : Bool} (h : EvT X Γ μ e k μ1) (q : k = k') : EvT X Γ μ e k' μ1 := q ▸ h
/-- a new list is given up: from now on it never changes -/
theorem Ev.frz {xs : List PyData} (h : Ev X Γ μ e (.fre xs) μ1) : Ev X Γ μ e (.dat (.list xs)) μ1 := pe_le h fun σ H Q q => by
  obtain ⟨F, as, c, s, k⟩ := q
  refine ⟨F, as, c, s, fun v F' H' st c' hv hn => ?_⟩
  obtain ⟨a, vs, rfl, h2, h3, h4, h5⟩ := hv
  have hnew : H a = none := hn a rfl
  have ex : Ex F' (upd F' a (.lst vs)) := Ex.new h3
  refine k (.ref a) (upd F' a (.lst vs)) H' ⟨st.ex.trans ex, st.kp, fun b h1 h2' n => ?_, st.dm⟩ ⟨fun b o q => ?_, c'.nd, c'.len, fun k xs q => ?_, c'.there, c'.tab, fun b ps q => ?_⟩ (.lst (.inl (.inl upd_same)) (ex.dpAll h5)) trivial
  · have : b ≠ a := by
      rintro rfl
      exact h1 hnew
    rw [upd_ne this]
    exact st.fr b h1 h2' n
  · by_cases hb : b = a
    · rw [hb, upd_same] at q
      cases q
      rw [hb]
      exact h2
    · rw [upd_ne hb] at q
      exact c'.sub b o q
  · obtain ⟨a', vs', g1, g2, g3, g4⟩ := c'.cel k xs q
    refine ⟨a', vs', g1, ?_, g3, ex.dpAll g4⟩
    have : a' ≠ a := by
      rintro rfl
      exact h4 (List.mem_of_getElem? g1)
    rw [upd_ne this]
    exact g2
  · by_cases hb : b = a
    · rw [hb, upd_same] at q
      cases q
    · rw [upd_ne hb] at q
      exact c'.nt b ps q
theorem Ev.frz' {α : Type} [DecidableEq α] [Datum α] {xs : List α} (h : Ev X Γ μ e (fr xs) μ1) : Ev X Γ μ e (dd xs) μ1 := h.frz
/-- a name -/
theorem ev_name (i : Nat) {x : Str} (h : Γ[i]? = some r := by rfl) (hs : r.sta = true := by rfl) (hN : X.N[i]? = some x := by rfl) (hv : Vis X.env.scope x := by first | exact Or.inl rfl | exact Or.inr (Or.inl rfl) | exact Or.inr (Or.inr rfl)) (hd : (x == ("__debug__" : Str)) = false := by decide)
    (hcd : (x == ("__classdict__" : Str)) = false := by decide) : Ev X Γ μ (.Name x pos) r μ := pe_le (pv i hN hv hd hcd) fun σ H Q q => by
  obtain ⟨F, as, c, s, k⟩ := q
  obtain ⟨v, h1, h2⟩ := s i r h hs
  refine ⟨v, h1, k v F H Step.refl c h2 ?_⟩
  cases r with
  | fre xs => cases hs
  | _ => trivial
theorem tC_le {v : V} {r : Sl} (h : ∀ F H as, Vr X.K F H as v r ∧ New H v r) : ∀ σ H Q, tD X.K Γ μ r μ σ H Q → tC v σ H Q := fun σ H Q q => by
  obtain ⟨F, as, c, s, k⟩ := q
  exact k v F H Step.refl c (h F H as).1 (h F H as).2
theorem ev_int {i : Int} {j : Nat} : Ev X Γ μ (.Constant (.int i) j pos) (dd i) μ := pe_le pe_int (tC_le fun _ _ _ => ⟨Dp.int i, trivial⟩)
theorem ev_bl {i : Bool} {j : Nat} : Ev X Γ μ (.Constant (.bool i) j pos) (dd i) μ := pe_le pe_bl (tC_le fun _ _ _ => ⟨Dp.bl i, trivial⟩)
theorem ev_str {i : Str} {j : Nat} : Ev X Γ μ (.Constant (.str i) j pos) (dd i) μ := pe_le pe_str (tC_le fun _ _ _ => ⟨Dp.str i, trivial⟩)
theorem ev_non {j : Nat} : Ev X Γ μ (.Constant .none j pos) (dd ()) μ := pe_le pe_non (tC_le fun _ _ _ => ⟨Dp.non, trivial⟩)
/-- two expressions in a row -/
theorem tD2 {r2 : R2} (k : ∀ F H as x y (Q : VK), Clz X.K F H as μ2 → Vr X.K F H as x ra → Vr X.K F H as y rb → (∀ z F' H', StepP F H F' H' → Vr X.K F' H' as z rc → New H z rc → Q z H') → r2 x y H Q) :
    ∀ σ H Q, tD X.K Γ μ rc μ2 σ H Q → tOp r2 (tD X.K Γ μ ra μ1) (tD X.K Γ μ1 rb μ2) σ H Q := fun σ H Q q => by
  obtain ⟨F, as, c, s, kk⟩ := q
  refine ⟨F, as, c, s, fun x F1 H1 st1 c1 hx nx => ⟨F1, as, c1, s.mono st1, fun y F2 H2 st2 c2 hy ny => ?_⟩⟩
  refine k F2 H2 as x y Q c2 (hx.mono st2) hy fun z F3 H3 p hz nz => kk z F3 H3 ((st1.trans st2).trans p.step) (c2.pure p) hz ?_
  cases rc with
  | fre xs =>
    intro a e
    have h2 : H2 a = none := nz a e
    cases q : H a with
    | none => rfl
    | some o => exact absurd h2 ((st1.trans st2).dm a (by rw [q]; simp))
  | _ => trivial
theorem ev_bin {op : Operator} {r2 : R2} (ho : OpR X (binaryOp op) r2) (ha : Ev X Γ μ a ra μ1) (hb : Ev X Γ μ1 b rb μ2)
    (k : ∀ F H as x y (Q : VK), Clz X.K F H as μ2 → Vr X.K F H as x ra → Vr X.K F H as y rb → (∀ z F' H', StepP F H F' H' → Vr X.K F' H' as z rc → New H z rc → Q z H') → r2 x y H Q) : Ev X Γ μ (.BinOp a op b pos) rc μ2 :=
  pe_le (pe_op ho ha hb) (tD2 k)
theorem ev_cmp {op : CmpOp} {r2 : R2} (ho : OpR X (compareOp op) r2) (ha : Ev X Γ μ a ra μ1) (hb : Ev X Γ μ1 b rb μ2)
    (k : ∀ F H as x y (Q : VK), Clz X.K F H as μ2 → Vr X.K F H as x ra → Vr X.K F H as y rb → (∀ z F' H', StepP F H F' H' → Vr X.K F' H' as z rc → New H z rc → Q z H') → r2 x y H Q) (hm : behindInMarks op b = false) : Ev X Γ μ (.Compare a [op] [b] pos) rc μ2 :=
  pe_le (pe_cmpR ho ha hb hm) (tD2 k)
theorem et_cmp {op : CmpOp} {r2 : R2} {k' : Bool} (ho : OpR X (compareOp op) r2) (ha : Ev X Γ μ a ra μ1) (hb : Ev X Γ μ1 b rb μ2)
    (k : ∀ F H as x y (Q : VK), Clz X.K F H as μ2 → Vr X.K F H as x ra → Vr X.K F H as y rb → (∀ z F' H', StepP F H F' H' → Vr X.K F' H' as z (dd k') → New H z (dd k') → Q z H') → r2 x y H Q) (hm : behindInMarks op b = false) : EvT X Γ μ (.Compare a [op] [b] pos) k' μ2 :=
  pt_le (pt_cmpR ho ha hb hm) fun σ H Q q => by
    obtain ⟨F, as, c, s, kk⟩ := q
    refine tD2 (rc := dd k') k σ H _ ⟨F, as, c, s, fun v F' H' st c' hv _ => ?_⟩
    cases hv
    exact ⟨k', rfl, kk F' H' st c'⟩
theorem ev_unop {op : UnaryOp} {r1 : V → Hp → VK → Prop} {d : PyData} (ho : UnR X (unaryOp op) r1) (ha : Ev X Γ μ a ra μ1)
    (k : ∀ F H as x (Q : VK), Clz X.K F H as μ1 → Vr X.K F H as x ra → (∀ z F' H', StepP F H F' H' → Vr X.K F' H' as z (.dat d) → Q z H') → r1 x H Q) : Ev X Γ μ (.UnaryOp op a pos) (.dat d) μ1 :=
  pe_le (pe_un ho ha) fun σ H Q q => by
    obtain ⟨F, as, c, s, kk⟩ := q
    refine ⟨F, as, c, s, fun x F1 H1 st1 c1 hx nx => k F1 H1 as x Q c1 hx fun z F2 H2 p hz => kk z F2 H2 (st1.trans p.step) (c1.pure p) hz trivial⟩
end
end DL
end
section
namespace CL
open PySem PySem.Spec PyProof.Rows L2
def topS (i : Nat) : Stmt := PySem.Challenge.pw_crosslimits_k64_whole_all_orders_of_smal.main.body.getD i (.Pass ⟨0, 0, 0, 0⟩)
abbrev s_is_number : Stmt := topS 1
abbrev s_tupled : Stmt := topS 2
abbrev s_are_numbers : Stmt := topS 8
abbrev s_is_demands : Stmt := topS 9
abbrev s_check_kind : Stmt := topS 10
abbrev s_check_group : Stmt := topS 11
abbrev s_groups_with : Stmt := topS 12
abbrev s_place_of : Stmt := topS 13
abbrev s_limit_of : Stmt := topS 14
abbrev s_own_kinds : Stmt := topS 16
abbrev s_open_sets : Stmt := topS 17
abbrev s_with_name : Stmt := topS 18
abbrev s_all_bare : Stmt := topS 19
abbrev s_greatest_bare : Stmt := topS 20
abbrev s_bare_number : Stmt := topS 21
abbrev s_factors : Stmt := topS 22
abbrev s_factor : Stmt := topS 23
abbrev s_worst_kinds : Stmt := topS 24
abbrev s_worst_case : Stmt := topS 26
abbrev s_least_served : Stmt := topS 27
abbrev s_greatest_most : Stmt := topS 28
abbrev s_loads : Stmt := topS 30
abbrev s_left_in : Stmt := topS 31
abbrev s_keeps : Stmt := topS 32
abbrev s_full_groups : Stmt := topS 33
abbrev s_size_of : Stmt := topS 34
abbrev s_all_lots : Stmt := topS 35
abbrev s_open_groups : Stmt := topS 37
abbrev s_served : Stmt := topS 38
abbrev s_end_of : Stmt := topS 39
abbrev s_is_shut : Stmt := topS 41
abbrev s_is_end : Stmt := topS 42
abbrev s_all_ends : Stmt := topS 43
abbrev s_end_sizes : Stmt := topS 44
abbrev s_most : Stmt := topS 46
abbrev s_table_of : Stmt := topS 47
abbrev s_bound_by : Stmt := topS 48
abbrev s_sets_of : Stmt := topS 49
abbrev s_bound_groups : Stmt := topS 50
abbrev s_least_bound : Stmt := topS 51
abbrev s_do_cross : Stmt := topS 53
abbrev s_crossing : Stmt := topS 54
abbrev s_is_nested : Stmt := topS 55
abbrev s_all_sure : Stmt := topS 57
abbrev s_demand_of : Stmt := topS 58
abbrev s_is_barred_by : Stmt := topS 59
abbrev s_barring_lots : Stmt := topS 60
abbrev s_sure_in : Stmt := topS 61
abbrev s_most_in : Stmt := topS 62
abbrev s_spans_of : Stmt := topS 63
abbrev s__law_box : Stmt := topS 65
abbrev s__law_take : Stmt := topS 66
abbrev s__law_cells : Stmt := topS 67
abbrev s__law_of : Stmt := topS 68
abbrev s__law_pick : Stmt := topS 69
abbrev s__law_same : Stmt := topS 70
abbrev s__law_rules : Stmt := topS 71
abbrev s__law_load : Stmt := topS 72
abbrev s__law_shut : Stmt := topS 73
abbrev s__law_more : Stmt := topS 74
abbrev s__law_keeps : Stmt := topS 75
abbrev s__law_served : Stmt := topS 76
abbrev s__law_lots : Stmt := topS 77
abbrev s__law_ends : Stmt := topS 78
abbrev s__law_sets : Stmt := topS 79
abbrev s__law_open : Stmt := topS 80
abbrev s__law_bare : Stmt := topS 81
abbrev s__law_crossing : Stmt := topS 82
abbrev s__law_worst_right : Stmt := topS 83
abbrev s__law_all_right : Stmt := topS 84
abbrev s__law_factor_right : Stmt := topS 85
abbrev s__law_by_hand_right : Stmt := topS 86
abbrev s__law_case_right : Stmt := topS 87
abbrev s__law_right : Stmt := topS 88
abbrev s_law : Stmt := topS 89
end CL
end
section
set_option autoImplicit false
/-! D-layer 1: expressions. -/
namespace DL
open PySem PySem.Spec PyProof.Rows L2
open PySem.W (Datum Tup DatumOrd Holds HoldAll)

/-- what a context has: k levels of calls, the built-ins not taken -/
structure CzP (k : Nat) (calm : Bool) (A : Around) (N : List Str) (mg : Str → Option Value) : Prop where
  calm : calm = true
  rm : Room k A
  nd : N.Nodup
  b_len : mg "len" = none
  b_sum : mg "sum" = none
  b_max : mg "max" = none
  b_min : mg "min" = none
  b_all : mg "all" = none
  b_any : mg "any" = none
  b_int : mg "int" = none
  b_str : mg "str" = none
  b_bool : mg "bool" = none
  b_abs : mg "abs" = none
  b_tuple : mg "tuple" = none
  b_list : mg "list" = none
  b_set : mg "set" = none
  b_dict : mg "dict" = none
  b_zip : mg "zip" = none
  b_enumerate : mg "enumerate" = none
  b_range : mg "range" = none
  b_sorted : mg "sorted" = none
  b_isinstance : mg "isinstance" = none
abbrev Cz (k : Nat) (X : Cx) : Prop := CzP k X.calm X.A X.N X.mg
section
variable {X : Cx} {k : Nat}
theorem CzP.un {calm : Bool} {A : Around} {N : List Str} {mg : Str → Option Value} (c : CzP k calm A N mg) : A.units + 64 < cLine := c.rm.units
end

/-! ### facts by values -/
section
variable {X : Cx} {k : Nat} {Γ : List Sl} {μ μ1 μ2 μ3 : Mu} {e a b : Expr} {es : List Expr} {r ra rb rc : Sl} {rs : List Sl} {pos : Pos}
/-- op on values that are ra, rb gives rc -/
structure OpF (X : Cx) (f : Value → Value → Sem Value) (μ : Mu) (ra rb rc : Sl) : Prop where
  ex : ∃ r2 : R2, OpR X f r2 ∧ ∀ F H as x y (Q : VK), Clz X.K F H as μ → Vr X.K F H as x ra → Vr X.K F H as y rb → (∀ z F' H', StepP F H F' H' → Vr X.K F' H' as z rc → New H z rc → Q z H') → r2 x y H Q
theorem ev_op {op : Operator} (f : OpF X (binaryOp op) μ2 ra rb rc) (ha : Ev X Γ μ a ra μ1) (hb : Ev X Γ μ1 b rb μ2) : Ev X Γ μ (.BinOp a op b pos) rc μ2 := by
  obtain ⟨r2, ho, k⟩ := f.ex
  exact ev_bin ho ha hb k
theorem ev_cp {op : CmpOp} (f : OpF X (compareOp op) μ2 ra rb rc) (ha : Ev X Γ μ a ra μ1) (hb : Ev X Γ μ1 b rb μ2) (hm : behindInMarks op b = false := by first | rfl | exact nomark _) : Ev X Γ μ (.Compare a [op] [b] pos) rc μ2 := by
  obtain ⟨r2, ho, k⟩ := f.ex
  exact ev_cmp ho ha hb k hm
theorem et_cp {op : CmpOp} {q : Bool} (f : OpF X (compareOp op) μ2 ra rb (dd q)) (ha : Ev X Γ μ a ra μ1) (hb : Ev X Γ μ1 b rb μ2) (hm : behindInMarks op b = false := by first | rfl | exact nomark _) : EvT X Γ μ (.Compare a [op] [b] pos) q μ2 := by
  obtain ⟨r2, ho, k⟩ := f.ex
  exact et_cmp ho ha hb k hm
/-- what gives a scalar -/
theorem Vr.same {F H : Hp} {as : List Addr} {z : V} {d : PyData} (h : Dp X.K F z d) : Vr X.K F H as z (.dat d) := h
theorem op_two {f : Value → Value → Sem Value} {i j : Int} {v : V} {d : PyData} {r2 : R2} (ho : OpR X f r2) (hd : ∀ H, Dp X.K H v d) (h : ∀ H (Q : VK), Q v H → r2 (.int i) (.int j) H Q) : OpF X f μ (dd i) (dd j) (.dat d) :=
  ⟨r2, ho, fun F H as x y Q c hx hy q => by
    cases hx
    cases hy
    exact h H Q (q v F H (StepP.refl c.sub) (hd F) trivial)⟩
variable {i j : Int}
theorem f_add : OpF X (binaryOp .Add) μ (dd i) (dd j) (dd (i + j)) := op_two op_add (fun _ => Dp.int _) fun _ _ q => ⟨i, j, rfl, rfl, q⟩
theorem f_sub : OpF X (binaryOp .Sub) μ (dd i) (dd j) (dd (i - j)) := op_two op_sub (fun _ => Dp.int _) fun _ _ q => ⟨i, j, rfl, rfl, q⟩
theorem f_mul (h : CMul i j) : OpF X (binaryOp .Mult) μ (dd i) (dd j) (dd (i * j)) := op_two op_mul (fun _ => Dp.int _) fun _ _ q => ⟨i, j, rfl, rfl, h, q⟩
theorem f_fdiv (h : CDiv i j) : OpF X (binaryOp .FloorDiv) μ (dd i) (dd j) (dd (i / j)) := op_two op_fdiv (fun _ => Dp.int _) fun _ _ q => ⟨i, j, rfl, rfl, h, q⟩
theorem f_mod (h : 0 < j) : OpF X (binaryOp .Mod) μ (dd i) (dd j) (dd (i % j)) := op_two op_mod (fun _ => Dp.int _) fun _ _ q => ⟨i, j, rfl, rfl, h, q⟩
theorem f_lt : OpF X (compareOp .Lt) μ (dd i) (dd j) (dd (decide (i < j))) := op_two op_lt (fun _ => Dp.bl _) fun _ _ q => ⟨i, j, rfl, rfl, q⟩
theorem f_le : OpF X (compareOp .LtE) μ (dd i) (dd j) (dd (decide (i ≤ j))) := op_two op_le (fun _ => Dp.bl _) fun _ _ q => ⟨i, j, rfl, rfl, q⟩
theorem f_gt : OpF X (compareOp .Gt) μ (dd i) (dd j) (dd (decide (j < i))) := op_two op_gt (fun _ => Dp.bl _) fun _ _ q => ⟨i, j, rfl, rfl, q⟩
theorem f_ge : OpF X (compareOp .GtE) μ (dd i) (dd j) (dd (decide (j ≤ i))) := op_two op_ge (fun _ => Dp.bl _) fun _ _ q => ⟨i, j, rfl, rfl, q⟩
theorem ev_neg (ha : Ev X Γ μ a (dd i) μ1) : Ev X Γ μ (.UnaryOp .USub a pos) (dd (-i)) μ1 := ev_unop un_neg ha fun F H as x Q c hx q => by
  cases hx
  exact ⟨i, rfl, q _ F H (StepP.refl c.sub) (Dp.int _)⟩

/-! typed ==, !=, in, not in, < -/
variable {α β : Type} [DecidableEq α] [Datum α] [DecidableEq β] [Datum β]
theorem holds_of {F : Hp} {H : Hp} {pins : List (Addr × Obj)} {σ : L2.St} {s : Shared} {v : V} {u : Value} {x : α} (I : Inv X pins σ H s) (h : Dp X.K H v (Datum.toD x)) (r : RelV v u) : Holds s.heap u x := Dp.reads I _ v u h r
theorem holdAll_of {H : Hp} {pins : List (Addr × Obj)} {σ : L2.St} {s : Shared} {vs : List V} {us : List Value} {xs : List α} (I : Inv X pins σ H s) (h : DpAll X.K H vs (xs.map Datum.toD)) (r : Vals vs us) : HoldAll s.heap us xs := Dp.readsAll I _ vs us h r
/-- a comparison of data whose answer is known -/
def rCmpD (K : PySem.W.Frag) (d e : PyData) (q : Bool) : R2 := fun x y H Q => Dp K H x d ∧ Dp K H y e ∧ Q (.bl q) H
theorem f_data {f : Value → Value → Sem Value} {d e : PyData} {q : Bool} (ho : OpR X f (rCmpD X.K d e q)) (ea : ra.rd μ = some d) (eb : rb.rd μ = some e) : OpF X f μ ra rb (dd q) :=
  ⟨_, ho, fun F H as x y Q c hx hy k => ⟨hx.dp c ea, hy.dp c eb, k _ F H (StepP.refl c.sub) (Dp.bl _) trivial⟩⟩
theorem op_eqX (hu : X.A.units + Datum.depth α < cLine) {x y : α} : OpR X (compareOp .Eq) (rCmpD X.K (Datum.toD x) (Datum.toD y) (decide (x = y))) := by
  intro pins s σ H v u vv uu Q I rx ry h
  obtain ⟨h1, h2, q⟩ := h
  exact PySem.W.eq_datum (holds_of (F := H) I h1 rx) (holds_of (F := H) I h2 ry) hu ⟨.bl _, H, I, rfl, q⟩
theorem op_neX (hu : X.A.units + Datum.depth α < cLine) {x y : α} : OpR X (compareOp .NotEq) (rCmpD X.K (Datum.toD x) (Datum.toD y) (decide (x ≠ y))) := by
  intro pins s σ H v u vv uu Q I rx ry h
  obtain ⟨h1, h2, q⟩ := h
  exact PySem.W.ne_datum (holds_of (F := H) I h1 rx) (holds_of (F := H) I h2 ry) hu ⟨.bl _, H, I, rfl, q⟩
theorem op_ltX {γ : Type} [DecidableEq γ] [DatumOrd γ] (hu : X.A.units + Datum.depth γ < cLine) {x y : γ} : OpR X (compareOp .Lt) (rCmpD X.K (Datum.toD x) (Datum.toD y) (DatumOrd.lt x y)) := by
  intro pins s σ H v u vv uu Q I rx ry h
  obtain ⟨h1, h2, q⟩ := h
  exact PySem.W.lt_datum (holds_of (F := H) I h1 rx) (holds_of (F := H) I h2 ry) hu ⟨.bl _, H, I, rfl, q⟩
theorem op_inL (hu : X.A.units + 1 + Datum.depth α < cLine) {x : α} {xs : List α} : OpR X (compareOp .In) (rCmpD X.K (Datum.toD x) (Datum.toD xs) (decide (x ∈ xs))) := by
  intro pins s σ H v u vv uu Q I rx ry h
  obtain ⟨h1, h2, q⟩ := h
  cases h2 with
  | lst hs ha =>
    cases ry
    obtain ⟨its, rv, pl, _⟩ := I.list hs
    exact PySem.W.in_list_datum pl.isList (by rw [show its.toArray.toList = its by simp]; exact holdAll_of I ha rv) (holds_of (F := H) I h1 rx) hu ⟨.bl _, H, I, rfl, q⟩
theorem op_ninL (hu : X.A.units + 1 + Datum.depth α < cLine) {x : α} {xs : List α} : OpR X (compareOp .NotIn) (rCmpD X.K (Datum.toD x) (Datum.toD xs) (decide (x ∉ xs))) := by
  intro pins s σ H v u vv uu Q I rx ry h
  obtain ⟨h1, h2, q⟩ := h
  cases h2 with
  | lst hs ha =>
    cases ry
    obtain ⟨its, rv, pl, _⟩ := I.list hs
    exact PySem.W.notIn_list_datum pl.isList (by rw [show its.toArray.toList = its by simp]; exact holdAll_of I ha rv) (holds_of (F := H) I h1 rx) hu ⟨.bl _, H, I, rfl, q⟩
theorem op_inT (hu : X.A.units + 1 + Datum.depth α < cLine) {x : α} {xs : Tup α} : OpR X (compareOp .In) (rCmpD X.K (Datum.toD x) (Datum.toD xs) (decide (x ∈ xs.items))) := by
  intro pins s σ H v u vv uu Q I rx ry h
  obtain ⟨h1, h2, q⟩ := h
  cases h2 with
  | tup hs ha =>
    cases ry
    obtain ⟨its, rv, pl, _⟩ := I.tuple hs
    exact PySem.W.in_tuple_datum pl (by rw [show its.toArray.toList = its by simp]; exact holdAll_of I ha rv) (holds_of (F := H) I h1 rx) hu ⟨.bl _, H, I, rfl, q⟩
theorem op_ninT (hu : X.A.units + 1 + Datum.depth α < cLine) {x : α} {xs : Tup α} : OpR X (compareOp .NotIn) (rCmpD X.K (Datum.toD x) (Datum.toD xs) (decide (x ∉ xs.items))) := by
  intro pins s σ H v u vv uu Q I rx ry h
  obtain ⟨h1, h2, q⟩ := h
  cases h2 with
  | tup hs ha =>
    cases ry
    obtain ⟨its, rv, pl, _⟩ := I.tuple hs
    exact PySem.W.notIn_tuple_datum pl (by rw [show its.toArray.toList = its by simp]; exact holdAll_of I ha rv) (holds_of (F := H) I h1 rx) hu ⟨.bl _, H, I, rfl, q⟩
/-- a type that is not deep -/
class Flat (α : Type) [DecidableEq α] [Datum α] : Prop where
  le : Datum.depth α ≤ 20
instance : Flat Int := ⟨by decide⟩
instance : Flat Bool := ⟨by decide⟩
instance : Flat Str := ⟨by decide⟩
instance : Flat (Tup Int) := ⟨by decide⟩
instance : Flat (Tup Str) := ⟨by decide⟩
instance : Flat (List Int) := ⟨by decide⟩
instance : Flat (List Str) := ⟨by decide⟩
instance : Flat (List Bool) := ⟨by decide⟩
instance : Flat (Tup (Tup Str)) := ⟨by decide⟩
instance : Flat (List (Tup Str)) := ⟨by decide⟩
instance : Flat (List (Tup Int)) := ⟨by decide⟩
instance : Flat (Tup Int × Tup Int) := ⟨by decide⟩
instance : Flat (Int × Tup Int) := ⟨by decide⟩
instance : Flat (Int × Tup (Tup Str)) := ⟨by decide⟩
instance : Flat (List (Tup Int × Tup Int)) := ⟨by decide⟩
theorem Flat.un (c : Cz k X) [f : Flat α] : X.A.units + 1 + Datum.depth α < cLine := by
  have h1 := c.un
  have h2 := f.le
  have h3 : X.A.units + 64 < cLine := h1
  omega
theorem Flat.un0 (c : Cz k X) [f : Flat α] : X.A.units + Datum.depth α < cLine := by
  have := Flat.un (α := α) c
  omega
theorem f_eq (c : Cz k X) [Flat α] {x y : α} (ea : ra.rd μ = some (Datum.toD x)) (eb : rb.rd μ = some (Datum.toD y)) : OpF X (compareOp .Eq) μ ra rb (dd (decide (x = y))) := f_data (op_eqX (Flat.un0 c)) ea eb
theorem f_ne (c : Cz k X) [Flat α] {x y : α} (ea : ra.rd μ = some (Datum.toD x)) (eb : rb.rd μ = some (Datum.toD y)) : OpF X (compareOp .NotEq) μ ra rb (dd (decide (x ≠ y))) := f_data (op_neX (Flat.un0 c)) ea eb
theorem f_inL (c : Cz k X) [Flat α] {x : α} {xs : List α} (ea : ra.rd μ = some (Datum.toD x)) (eb : rb.rd μ = some (Datum.toD xs)) : OpF X (compareOp .In) μ ra rb (dd (decide (x ∈ xs))) := f_data (op_inL (Flat.un c)) ea eb
theorem f_ninL (c : Cz k X) [Flat α] {x : α} {xs : List α} (ea : ra.rd μ = some (Datum.toD x)) (eb : rb.rd μ = some (Datum.toD xs)) : OpF X (compareOp .NotIn) μ ra rb (dd (decide (x ∉ xs))) := f_data (op_ninL (Flat.un c)) ea eb
theorem f_inT (c : Cz k X) [Flat α] {x : α} {xs : Tup α} (ea : ra.rd μ = some (Datum.toD x)) (eb : rb.rd μ = some (Datum.toD xs)) : OpF X (compareOp .In) μ ra rb (dd (decide (x ∈ xs.items))) := f_data (op_inT (Flat.un c)) ea eb
theorem f_ninT (c : Cz k X) [Flat α] {x : α} {xs : Tup α} (ea : ra.rd μ = some (Datum.toD x)) (eb : rb.rd μ = some (Datum.toD xs)) : OpF X (compareOp .NotIn) μ ra rb (dd (decide (x ∉ xs.items))) := f_data (op_ninT (Flat.un c)) ea eb
theorem f_ltO {γ : Type} [DecidableEq γ] [DatumOrd γ] (c : Cz k X) [Flat γ] {x y : γ} (ea : ra.rd μ = some (Datum.toD x)) (eb : rb.rd μ = some (Datum.toD y)) : OpF X (compareOp .Lt) μ ra rb (dd (DatumOrd.lt x y)) := f_data (op_ltX (Flat.un0 c)) ea eb

/-! ### chains -/
theorem ev_chain {op op' : CmpOp} {cc : Expr} {q q' : Bool} {rd : Sl} (f : OpF X (compareOp op) μ2 ra rb (dd q)) (f' : OpF X (compareOp op') μ2 rb rd (dd q')) (ha : Ev X Γ μ a ra μ1) (hb : Ev X Γ μ1 b rb μ2) (hc : Ev X Γ μ2 cc rd μ2)
    (hm : lastMarks [op, op'] [b, cc] = false := by with_unfolding_all rfl) : Ev X Γ μ (.Compare a [op, op'] [b, cc] pos) (dd (q && q')) μ2 := by
  obtain ⟨r2, ho, k⟩ := f.ex
  obtain ⟨r2', ho', k'⟩ := f'.ex
  refine pe_le (pe_chain ho ho' ha hb hc hm) fun σ H Q h => ?_
  obtain ⟨F, as, c, s, kk⟩ := h
  refine ⟨F, as, c, s, fun x F1 H1 st1 c1 hx nx => ⟨F1, as, c1, s.mono st1, fun y F2 H2 st2 c2 hy ny => ?_⟩⟩
  refine k F2 H2 as x y _ c2 (hx.mono st2) hy fun z F3 H3 p hz nz => ?_
  cases hz
  refine ⟨q, rfl, ?_⟩
  have st3 := (st1.trans st2).trans p.step
  cases q with
  | false => exact iteF (kk (.bl false) F3 H3 st3 (c2.pure p) (Dp.bl _) trivial)
  | true =>
    refine iteT ⟨F3, as, c2.pure p, s.mono st3, fun w F4 H4 st4 c4 hw nw => ?_⟩
    exact k' F4 H4 as y w Q c4 (hy.mono (p.step.trans st4)) hw fun z F5 H5 p5 hz5 nz5 => kk z F5 H5 ((st3.trans st4).trans p5.step) (c4.pure p5) hz5 trivial
/-! ### and, or, not; if -/
theorem et_val {q : Bool} (h : Ev X Γ μ e (dd q) μ1) (he : ∀ whole, isTrue e X.env whole = (do let v ← whole; standAt e.pos; holding [v] (truthy v)) := by intro _; rfl) : EvT X Γ μ e q μ1 :=
  pt_le (pt_val h he) fun σ H Q hq => by
    obtain ⟨F, as, c, s, kk⟩ := hq
    refine ⟨F, as, c, s, fun v F' H' st c' hv _ => ?_⟩
    cases hv
    exact ⟨q, rfl, kk F' H' st c'⟩
theorem et_not {q : Bool} (h : EvT X Γ μ e q μ1) : EvT X Γ μ (.UnaryOp .Not e pos) (!q) μ1 := pt_le (pt_not h) fun σ H Q hq => by
  obtain ⟨F, as, c, s, kk⟩ := hq
  exact ⟨F, as, c, s, kk⟩
theorem ev_not {q : Bool} (h : Ev X Γ μ e (dd q) μ1) : Ev X Γ μ (.UnaryOp .Not e pos) (dd (!q)) μ1 := pe_le (pe_not h) fun σ H Q hq => by
  obtain ⟨F, as, c, s, kk⟩ := hq
  refine ⟨F, as, c, s, fun v F' H' st c' hv _ => ?_⟩
  cases hv
  exact ⟨q, rfl, kk _ F' H' st c' (Dp.bl _) trivial⟩
variable {rest : List Expr} {q q' : Bool}
theorem ew_and1 (ha : EvT X Γ μ a q μ1) : EvW X Γ μ (.BoolOp .And [a] pos) q μ1 := pw_and1 ha
theorem ew_or1 (ha : EvT X Γ μ a q μ1) : EvW X Γ μ (.BoolOp .Or [a] pos) q μ1 := pw_or1 ha
theorem ew_and (ha : EvT X Γ μ a q μ) (hb : q = true → EvW X Γ μ (.BoolOp .And (b :: rest) pos) q' μ) : EvW X Γ μ (.BoolOp .And (a :: b :: rest) pos) (q && q') μ := by
  cases q with
  | true =>
    refine pw_le (pw_and ha (hb rfl)) fun σ H Q hq => ?_
    obtain ⟨F, as, c, s, kk⟩ := hq
    exact ⟨F, as, c, s, fun F1 H1 st1 c1 => iteT ⟨F1, as, c1, s.mono st1, fun F2 H2 st2 c2 => kk F2 H2 (st1.trans st2) c2⟩⟩
  | false =>
    have hn : PW X (.BoolOp .And (b :: rest) pos) (fun _ _ _ => False) := ⟨fun _ _ _ _ _ _ _ h => h.elim⟩
    refine pw_le (pw_and ha hn) fun σ H Q hq => ?_
    obtain ⟨F, as, c, s, kk⟩ := hq
    exact ⟨F, as, c, s, fun F1 H1 st1 c1 => iteF (kk F1 H1 st1 c1)⟩
theorem ew_or (ha : EvT X Γ μ a q μ) (hb : q = false → EvW X Γ μ (.BoolOp .Or (b :: rest) pos) q' μ) : EvW X Γ μ (.BoolOp .Or (a :: b :: rest) pos) (q || q') μ := by
  cases q with
  | false =>
    refine pw_le (pw_or ha (hb rfl)) fun σ H Q hq => ?_
    obtain ⟨F, as, c, s, kk⟩ := hq
    exact ⟨F, as, c, s, fun F1 H1 st1 c1 => iteF ⟨F1, as, c1, s.mono st1, fun F2 H2 st2 c2 => kk F2 H2 (st1.trans st2) c2⟩⟩
  | true =>
    have hn : PW X (.BoolOp .Or (b :: rest) pos) (fun _ _ _ => False) := ⟨fun _ _ _ _ _ _ _ h => h.elim⟩
    refine pw_le (pw_or ha hn) fun σ H Q hq => ?_
    obtain ⟨F, as, c, s, kk⟩ := hq
    exact ⟨F, as, c, s, fun F1 H1 st1 c1 => iteT (kk F1 H1 st1 c1)⟩
theorem et_w (h : EvW X Γ μ e q μ1) : EvT X Γ μ e q μ1 := h.pt
theorem ev_one {op : BoolOp} (h : Ev X Γ μ a r μ1) : Ev X Γ μ (.BoolOp op [a] pos) r μ1 := pe_one h
theorem pe_false : PE X e (fun _ _ _ => False) := ⟨fun _ _ _ _ _ _ h => h.elim⟩
theorem ev_and (ha : Ev X Γ μ a (dd q) μ) (hb : q = true → Ev X Γ μ (.BoolOp .And (b :: rest) pos) (dd q') μ) : Ev X Γ μ (.BoolOp .And (a :: b :: rest) pos) (dd (q && q')) μ := by
  cases q with
  | true =>
    refine pe_le (pe_and ha (hb rfl)) fun σ H Q hq => ?_
    obtain ⟨F, as, c, s, kk⟩ := hq
    refine ⟨F, as, c, s, fun v F1 H1 st1 c1 hv _ => ?_⟩
    cases hv
    exact ⟨true, rfl, iteT ⟨F1, as, c1, s.mono st1, fun w F2 H2 st2 c2 hw nw => kk w F2 H2 (st1.trans st2) c2 hw trivial⟩⟩
  | false =>
    refine pe_le (pe_and ha pe_false) fun σ H Q hq => ?_
    obtain ⟨F, as, c, s, kk⟩ := hq
    refine ⟨F, as, c, s, fun v F1 H1 st1 c1 hv _ => ?_⟩
    cases hv
    exact ⟨false, rfl, iteF (kk _ F1 H1 st1 c1 (Dp.bl _) trivial)⟩
theorem ev_or (ha : Ev X Γ μ a (dd q) μ) (hb : q = false → Ev X Γ μ (.BoolOp .Or (b :: rest) pos) (dd q') μ) : Ev X Γ μ (.BoolOp .Or (a :: b :: rest) pos) (dd (q || q')) μ := by
  cases q with
  | false =>
    refine pe_le (pe_or ha (hb rfl)) fun σ H Q hq => ?_
    obtain ⟨F, as, c, s, kk⟩ := hq
    refine ⟨F, as, c, s, fun v F1 H1 st1 c1 hv _ => ?_⟩
    cases hv
    exact ⟨false, rfl, iteF ⟨F1, as, c1, s.mono st1, fun w F2 H2 st2 c2 hw nw => kk w F2 H2 (st1.trans st2) c2 hw trivial⟩⟩
  | true =>
    refine pe_le (pe_or ha pe_false) fun σ H Q hq => ?_
    obtain ⟨F, as, c, s, kk⟩ := hq
    refine ⟨F, as, c, s, fun v F1 H1 st1 c1 hv _ => ?_⟩
    cases hv
    exact ⟨true, rfl, iteT (kk _ F1 H1 st1 c1 (Dp.bl _) trivial)⟩
/-- a if t else b -/
theorem ev_if {c : Expr} (ht : EvT X Γ μ c q μ1) (h1 : q = true → Ev X Γ μ1 a r μ2) (h2 : q = false → Ev X Γ μ1 b r μ2) : Ev X Γ μ (.IfExp c a b pos) r μ2 := by
  have fresh : ∀ {H H1 : Hp} {F F1 : Hp} {as : List Addr} {v : V}, Step as F H F1 H1 → New H1 v r → New H v r := fun {H H1 F F1 as v} st h => by
    cases r with
    | fre xs =>
      intro a e
      cases q : H a with
      | none => rfl
      | some o => exact absurd (h a e) (st.dm a (by rw [q]; simp))
    | _ => trivial
  cases q with
  | true =>
    refine pe_le (pe_ifExp ht (h1 rfl) pe_false) fun σ H Q hq => ?_
    obtain ⟨F, as, c, s, kk⟩ := hq
    exact ⟨F, as, c, s, fun F1 H1 st1 c1 => iteT ⟨F1, as, c1, s.mono st1, fun w F2 H2 st2 c2 hw nw => kk w F2 H2 (st1.trans st2) c2 hw (fresh st1 nw)⟩⟩
  | false =>
    refine pe_le (pe_ifExp ht pe_false (h2 rfl)) fun σ H Q hq => ?_
    obtain ⟨F, as, c, s, kk⟩ := hq
    exact ⟨F, as, c, s, fun F1 H1 st1 c1 => iteF ⟨F1, as, c1, s.mono st1, fun w F2 H2 st2 c2 hw nw => kk w F2 H2 (st1.trans st2) c2 hw (fresh st1 nw)⟩⟩

/-! ### arguments, displays -/
theorem VrA.mono {F H F' H' : Hp} {as : List Addr} {vs : List V} {rs : List Sl} (st : Step as F H F' H') (h : VrA X.K F H as vs rs) : VrA X.K F' H' as vs rs := Paired.mapP h fun _ _ q => q.mono st
theorem ea_nil : EvA X Γ μ [] [] μ := pa_le pa_nil fun σ H Q q => by
  obtain ⟨F, as, c, s, kk⟩ := q
  exact kk [] F H Step.refl c .nil
theorem ea_cons (ha : Ev X Γ μ e r μ1) (hr : EvA X Γ μ1 es rs μ2) (hs : starEach (e :: es) X.env = (false, eval e X.env) :: starEach es X.env := by rfl) : EvA X Γ μ (e :: es) (r :: rs) μ2 := pa_le (pa_cons ha hr hs) fun σ H Q q => by
  obtain ⟨F, as, c, s, kk⟩ := q
  exact ⟨F, as, c, s, fun v F1 H1 st1 c1 hv _ => ⟨F1, as, c1, s.mono st1, fun vs F2 H2 st2 c2 hvs => kk (v :: vs) F2 H2 (st1.trans st2) c2 (.cons (hv.mono st2) hvs)⟩⟩
theorem dpAll_vrA {F H : Hp} {as : List Addr} : ∀ {vs : List V} {ds : List PyData}, DpAll X.K F vs ds → VrA X.K F H as vs (ds.map Sl.dat)
  | _, _, .nil => .nil
  | _, _, .cons h t => .cons h (dpAll_vrA t)
theorem vrA_dpAll {F H : Hp} {as : List Addr} : ∀ {vs : List V} {ds : List PyData}, VrA X.K F H as vs (ds.map Sl.dat) → DpAll X.K F vs ds
  | _, [], .nil => .nil
  | _, _ :: _, .cons h t => .cons h (vrA_dpAll t)
theorem VrA.app {F H : Hp} {as : List Addr} : ∀ {vs ws : List V} {rs ss : List Sl}, VrA X.K F H as vs rs → VrA X.K F H as ws ss → VrA X.K F H as (vs ++ ws) (rs ++ ss)
  | _, _, _, _, .nil, h => h
  | _, _, _, _, .cons a t, h => .cons a (VrA.app t h)
/-- *e in a display -/
theorem ea_starT {ds : List PyData} {p : Pos} (ha : Ev X Γ μ e (.dat (.tuple ds)) μ1) (hr : EvA X Γ μ1 es rs μ2) (hs : starEach (.Starred e p :: es) X.env = (true, eval e X.env) :: starEach es X.env := by rfl) :
    EvA X Γ μ (.Starred e p :: es) (ds.map Sl.dat ++ rs) μ2 := pa_le (StX.pa_star ha hr hs) fun σ H Q q => by
  obtain ⟨F, as, c, s, kk⟩ := q
  refine ⟨F, as, c, s, fun v F1 H1 st1 c1 hv _ => ?_⟩
  obtain ⟨a, vs, rfl, h1, h2⟩ := hv.seqT c1 rfl
  exact ⟨a, vs, rfl, .inl (c1.sub.st h1), F1, as, c1, s.mono st1, fun ws F2 H2 st2 c2 hvs => kk (vs ++ ws) F2 H2 (st1.trans st2) c2 (VrA.app (VrA.mono st2 (dpAll_vrA h2)) hvs)⟩
theorem ea_starL {ds : List PyData} {p : Pos} (ha : Ev X Γ μ e (.dat (.list ds)) μ1) (hr : EvA X Γ μ1 es rs μ2) (hs : starEach (.Starred e p :: es) X.env = (true, eval e X.env) :: starEach es X.env := by rfl) :
    EvA X Γ μ (.Starred e p :: es) (ds.map Sl.dat ++ rs) μ2 := pa_le (StX.pa_star ha hr hs) fun σ H Q q => by
  obtain ⟨F, as, c, s, kk⟩ := q
  refine ⟨F, as, c, s, fun v F1 H1 st1 c1 hv _ => ?_⟩
  obtain ⟨a, vs, rfl, h1, h2⟩ := hv.seqL c1 rfl
  exact ⟨a, vs, rfl, .inr h1, F1, as, c1, s.mono st1, fun ws F2 H2 st2 c2 hvs => kk (vs ++ ws) F2 H2 (st1.trans st2) c2 (VrA.app (VrA.mono st2 (dpAll_vrA h2)) hvs)⟩
/-- a display of data: a tuple, a list -/
theorem ev_tuple {ds : List PyData} {x1 : Nat} (h : EvA X Γ μ es (ds.map Sl.dat) μ1) (hz : ds.length ≤ 100000) : Ev X Γ μ (.Tuple es x1 pos) (.dat (.tuple ds)) μ1 := pe_le (pe_tup h) fun σ H Q q => by
  obtain ⟨F, as, c, s, kk⟩ := q
  refine ⟨F, as, c, s, fun vs F1 H1 st1 c1 hvs => ?_⟩
  have hd := vrA_dpAll hvs
  refine ⟨by rw [hd.length, sizeLine_eq]; omega, fun p hp => ?_⟩
  have st2 := StepP.new (o := .tup vs) c1.sub hp
  exact kk (.ref p) _ _ (st1.trans st2.step) (c1.pure st2) (.tup (.inl (.inl upd_same)) (st2.ex.dpAll hd)) trivial
theorem ev_list {ds : List PyData} (h : EvA X Γ μ es (ds.map Sl.dat) μ1) (hz : ds.length ≤ 100000) : Ev X Γ μ (.List es pos) (.fre ds) μ1 := pe_le (pe_lst h) fun σ H Q q => by
  obtain ⟨F, as, c, s, kk⟩ := q
  refine ⟨F, as, c, s, fun vs F1 H1 st1 c1 hvs => ?_⟩
  have hd := vrA_dpAll hvs
  refine ⟨by rw [hd.length, sizeLine_eq]; omega, fun p hp => ?_⟩
  have st2 := StepP.hxOnly (H' := upd H1 p (.lst vs)) c1.sub (Ex.new hp)
  refine kk (.ref p) _ _ (st1.trans st2.step) (c1.pure st2) ⟨p, vs, rfl, upd_same, c1.sub.free hp, fun hm => c1.there p hm hp, hd⟩ fun a e => ?_
  cases e
  cases q : H p with
  | none => rfl
  | some o => exact absurd hp (st1.dm p (by rw [q]; simp))
end
end DL
end
section
set_option autoImplicit false
/-! D-layer 2: built-ins, subscripts, slices, +, *. -/
namespace DL
open PySem PySem.Spec PyProof.Rows L2
open PySem.W (Datum Tup DatumOrd Holds HoldAll)

/-! ### the plain functions -/
/-- max, min of ints; 0 of none -/
def imax : List Int → Int
  | [] => 0
  | x :: xs => xs.foldl (fun a y => if a < y then y else a) x
def imin : List Int → Int
  | [] => 0
  | x :: xs => xs.foldl (fun a y => if y < a then y else a) x
/-- sorted -/
def srt {α : Type} [DecidableEq α] [DatumOrd α] (xs : List α) : List α := xs.mergeSort fun a b => !DatumOrd.lt b a
/-- the first of the least, with a default -/
def minD {α : Type} [DecidableEq α] [DatumOrd α] (d : α) : List α → α
  | [] => d
  | x :: xs => PySem.W.minOf x xs

section
variable {X : Cx} {k : Nat} {Γ : List Sl} {μ μ1 μ2 μ3 : Mu} {e a b : Expr} {es : List Expr} {r ra rb rc : Sl} {rs : List Sl} {pos p : Pos}
theorem dpAll_int {F : Hp} : ∀ {vs : List V} {xs : List Int}, DpAll X.K F vs (xs.map Datum.toD) → vs = xs.map V.int
  | _, [], h => by cases h; rfl
  | _, x :: xs, h => by
    cases h with
    | cons h t =>
      cases h
      rw [dpAll_int t]
      rfl
theorem dpAll_bl {F : Hp} : ∀ {vs : List V} {xs : List Bool}, DpAll X.K F vs (xs.map Datum.toD) → vs = xs.map V.bl
  | _, [], h => by cases h; rfl
  | _, x :: xs, h => by
    cases h with
    | cons h t =>
      cases h
      rw [dpAll_bl t]
      rfl

/-- f on values that are rs gives rc -/
structure CallF (X : Cx) (f : Value) (μ : Mu) (rs : List Sl) (rc : Sl) : Prop where
  ex : ∃ r : List V → Hp → VK → Prop, CallR X f r ∧ ∀ F H as vs (Q : VK), Clz X.K F H as μ → VrA X.K F H as vs rs → (∀ z F' H', StepP F H F' H' → Vr X.K F' H' as z rc → New H z rc → Q z H') → r vs H Q
theorem newBack {F H F1 H1 : Hp} {as : List Addr} {z : V} {rc : Sl} (st : Step as F H F1 H1) (h : New H1 z rc) : New H z rc := by
  cases rc with
  | fre xs =>
    intro a e
    cases q : H a with
    | none => rfl
    | some o => exact absurd (h a e) (st.dm a (by rw [q]; simp))
  | _ => trivial
theorem ev_cb {x : Str} {id : String} (f : CallF X (.builtin id) μ1 rs rc) (hm : X.mg x = none) (ha : EvA X Γ μ (e :: es) rs μ1) (hv : bootBuiltins x = some (.builtin id) := by decide +kernel) (hg : Gl X x := by rfl) (hn : x ≠ "__name__" := by decide) (hdb : (x == ("__debug__" : Str)) = false := by decide)
    (he : starEach (e :: es) X.env = (false, eval e X.env) :: starEach es X.env := by rfl) (hpl : (backTo pos (starEach es X.env)).any (·.1) = false := by rfl) : Ev X Γ μ (.Call (.Name x p) (e :: es) [] pos) rc μ1 := by
  obtain ⟨r, hr, k⟩ := f.ex
  refine pe_le (pe_callB hr hg hm hv ha hn hdb he hpl) fun σ H Q q => ?_
  obtain ⟨F, as, c, s, kk⟩ := q
  exact ⟨F, as, c, s, fun vs F1 H1 st1 c1 hvs => k F1 H1 as vs Q c1 hvs fun z F2 H2 p hz nz => kk z F2 H2 (st1.trans p.step) (c1.pure p) hz (newBack st1 nz)⟩
theorem ev_ct {x : Str} {T : String} (f : CallF X (.type T) μ1 rs rc) (hm : X.mg x = none) (ha : EvA X Γ μ (e :: es) rs μ1) (hv : bootBuiltins x = some (.type T) := by decide +kernel) (hg : Gl X x := by rfl) (hn : x ≠ "__name__" := by decide) (hdb : (x == ("__debug__" : Str)) = false := by decide)
    (he : starEach (e :: es) X.env = (false, eval e X.env) :: starEach es X.env := by rfl) (hpl : (backTo pos (starEach es X.env)).any (·.1) = false := by rfl) : Ev X Γ μ (.Call (.Name x p) (e :: es) [] pos) rc μ1 := by
  obtain ⟨r, hr, k⟩ := f.ex
  refine pe_le (pe_callTy hr hg hm hv ha hn hdb he hpl) fun σ H Q q => ?_
  obtain ⟨F, as, c, s, kk⟩ := q
  exact ⟨F, as, c, s, fun vs F1 H1 st1 c1 hvs => k F1 H1 as vs Q c1 hvs fun z F2 H2 p hz nz => kk z F2 H2 (st1.trans p.step) (c1.pure p) hz (newBack st1 nz)⟩
theorem VrA.one {F H : Hp} {as : List Addr} {vs : List V} (h : VrA X.K F H as vs [ra]) : ∃ v, vs = [v] ∧ Vr X.K F H as v ra := by
  cases h with
  | cons h t => cases t; exact ⟨_, rfl, h⟩
theorem VrA.two {F H : Hp} {as : List Addr} {vs : List V} (h : VrA X.K F H as vs [ra, rb]) : ∃ v w, vs = [v, w] ∧ Vr X.K F H as v ra ∧ Vr X.K F H as w rb := by
  cases h with
  | cons h t =>
    obtain ⟨w, rfl, h2⟩ := VrA.one t
    exact ⟨_, w, rfl, h, h2⟩
/-- one argument that reads as d, the answer a scalar -/
theorem c_one {f : Value} {d d' : PyData} (hc : CallR X f (fun vs H Q => ∃ v, vs = [v] ∧ Dp X.K H v d ∧ ∀ z, (∀ H', Dp X.K H' z d') → Q z H)) (e : ra.rd μ = some d) : CallF X f μ [ra] (.dat d') :=
  ⟨_, hc, fun F H as vs Q c hv q => by
    obtain ⟨v, rfl, h⟩ := hv.one
    exact ⟨v, rfl, h.dp c e, fun z hz => q z F H (StepP.refl c.sub) (hz F) trivial⟩⟩
theorem cr_lenD {ds : List PyData} {d : PyData} (hd : d = .list ds ∨ d = .tuple ds) : CallR X (.builtin "len") (fun vs H Q => ∃ v, vs = [v] ∧ Dp X.K H v d ∧ ∀ z, (∀ H', Dp X.K H' z (.int (ds.length : Int))) → Q z H) := by
  intro pins s σ H xs us Q I r h
  obtain ⟨v, rfl, h1, q⟩ := h
  refine call_len_seq pins s σ H _ us Q I r ?_
  rcases hd with rfl | rfl
  · cases h1 with
    | @lst a ys _ h1 h2 => exact ⟨a, ys, rfl, .inl h1, q _ fun H' => by rw [h2.length]; exact Dp.int _⟩
  · cases h1 with
    | @tup a ys _ h1 h2 => exact ⟨a, ys, rfl, .inr h1, q _ fun H' => by rw [h2.length]; exact Dp.int _⟩
theorem c_lenD {ds : List PyData} {d : PyData} (e : ra.rd μ = some d) (hd : d = .list ds ∨ d = .tuple ds) : CallF X (.builtin "len") μ [ra] (dd (ds.length : Int)) := c_one (cr_lenD hd) e
variable {α β : Type} [DecidableEq α] [Datum α] [DecidableEq β] [Datum β]
theorem c_lenL {xs : List α} (e : ra.rd μ = some (Datum.toD xs)) : CallF X (.builtin "len") μ [ra] (dd (xs.length : Int)) := by
  have h := c_lenD (X := X) (ds := xs.map Datum.toD) e (.inl rfl)
  rw [List.length_map] at h
  exact h
theorem c_lenT {t : Tup α} (e : ra.rd μ = some (Datum.toD t)) : CallF X (.builtin "len") μ [ra] (dd (t.items.length : Int)) := by
  have h := c_lenD (X := X) (ds := t.items.map Datum.toD) e (.inr rfl)
  rw [List.length_map] at h
  exact h
/-- sum -/
theorem cr_sumL (hc : X.calm = true) {xs : List Int} : CallR X (.builtin "sum") (fun vs H Q => ∃ v, vs = [v] ∧ Dp X.K H v (Datum.toD xs) ∧ ∀ z, (∀ H', Dp X.K H' z (.int xs.sum)) → Q z H) := by
  intro pins s σ H vs us Q I r h
  obtain ⟨v, rfl, h1, q⟩ := h
  cases h1 with
  | @lst a ys _ h1 h2 =>
    have e := dpAll_int h2
    subst e
    exact L2.cr_sum hc pins s σ H _ us Q I r ⟨a, xs, rfl, h1, q _ fun H' => Dp.int _⟩
theorem cr_sumT (hc : X.calm = true) {xs : Tup Int} : CallR X (.builtin "sum") (fun vs H Q => ∃ v, vs = [v] ∧ Dp X.K H v (Datum.toD xs) ∧ ∀ z, (∀ H', Dp X.K H' z (.int xs.items.sum)) → Q z H) := by
  intro pins s σ H vs us Q I r h
  obtain ⟨v, rfl, h1, q⟩ := h
  cases h1 with
  | @tup a ys _ h1 h2 =>
    have e := dpAll_int h2
    subst e
    obtain ⟨its, rv, ht, _⟩ := I.tuple h1
    rw [Vals.ref1 r]
    have hi := rv.ints
    obtain ⟨ps, hx⟩ := hi.allInts.items
    have hn : numsOf (intItems ps).toList = xs.items := by rw [← hx]; exact hi.numsOf
    rw [nums_intItems] at hn
    have ht2 : s.heap.IsTuple a (intItems ps) := hx ▸ ht
    refine PySem.W.ktm_sumG (I.ok.hd hc) ht2 fun h' tk t' hk => ?_
    rw [preSum_eq, List.take_of_length_le (by simp), hn]
    exact ⟨.int _, H, I.kept hk, ⟨_, rfl⟩, q _ fun H' => Dp.int _⟩
theorem c_sumL (c : Cz k X) {xs : List Int} (e : ra.rd μ = some (Datum.toD xs)) : CallF X (.builtin "sum") μ [ra] (dd xs.sum) := c_one (cr_sumL c.calm) e
theorem c_sumT (c : Cz k X) {xs : Tup Int} (e : ra.rd μ = some (Datum.toD xs)) : CallF X (.builtin "sum") μ [ra] (dd xs.items.sum) := c_one (cr_sumT c.calm) e
/-- all, any -/
theorem cr_allL (hc : X.calm = true) {xs : List Bool} : CallR X (.builtin "all") (fun vs H Q => ∃ v, vs = [v] ∧ Dp X.K H v (Datum.toD xs) ∧ ∀ z, (∀ H', Dp X.K H' z (.bool (xs.all id))) → Q z H) := by
  intro pins s σ H vs us Q I r h
  obtain ⟨v, rfl, h1, q⟩ := h
  cases h1 with
  | @lst a ys _ h1 h2 =>
    have e := dpAll_bl h2
    subst e
    exact L2.cr_all hc pins s σ H _ us Q I r ⟨a, xs, rfl, h1, q _ fun H' => Dp.bl _⟩
theorem cr_anyL (hc : X.calm = true) {xs : List Bool} : CallR X (.builtin "any") (fun vs H Q => ∃ v, vs = [v] ∧ Dp X.K H v (Datum.toD xs) ∧ ∀ z, (∀ H', Dp X.K H' z (.bool (xs.any id))) → Q z H) := by
  intro pins s σ H vs us Q I r h
  obtain ⟨v, rfl, h1, q⟩ := h
  cases h1 with
  | @lst a ys _ h1 h2 =>
    have e := dpAll_bl h2
    subst e
    exact L2.cr_any hc pins s σ H _ us Q I r ⟨a, xs, rfl, h1, q _ fun H' => Dp.bl _⟩
theorem c_all (c : Cz k X) {xs : List Bool} (e : ra.rd μ = some (Datum.toD xs)) : CallF X (.builtin "all") μ [ra] (dd (xs.all id)) := c_one (cr_allL c.calm) e
theorem c_any (c : Cz k X) {xs : List Bool} (e : ra.rd μ = some (Datum.toD xs)) : CallF X (.builtin "any") μ [ra] (dd (xs.any id)) := c_one (cr_anyL c.calm) e
/-- int, abs, max, min of two -/
theorem c_int {i : Int} : CallF X (.type "int") μ [dd i] (dd i) := ⟨_, call_int1, fun F H as vs Q c hv q => by
  obtain ⟨v, rfl, h⟩ := hv.one
  cases h
  exact .inl ⟨i, rfl, q _ F H (StepP.refl c.sub) (Dp.int _) trivial⟩⟩
theorem c_intB {q : Bool} : CallF X (.type "int") μ [dd q] (dd (if q then 1 else 0 : Int)) := ⟨_, call_int1, fun F H as vs Q c hv k => by
  obtain ⟨v, rfl, h⟩ := hv.one
  cases h
  exact .inr ⟨q, rfl, k _ F H (StepP.refl c.sub) (Dp.int _) trivial⟩⟩
theorem c_abs {i : Int} : CallF X (.builtin "abs") μ [dd i] (dd (if i < 0 then -i else i)) := ⟨_, call_abs, fun F H as vs Q c hv q => by
  obtain ⟨v, rfl, h⟩ := hv.one
  cases h
  exact ⟨i, rfl, q _ F H (StepP.refl c.sub) (Dp.int _) trivial⟩⟩
theorem c_max2 (c : Cz k X) {i j : Int} : CallF X (.builtin "max") μ [dd i, dd j] (dd (max i j)) := ⟨_, call_max2 c.calm, fun F H as vs Q c hv q => by
  obtain ⟨v, w, rfl, h1, h2⟩ := hv.two
  cases h1
  cases h2
  refine ⟨i, j, rfl, ?_⟩
  have e : (if j > i then j else i) = max i j := by
    rw [Int.max_def]
    split <;> split <;> omega
  rw [e]
  exact q _ F H (StepP.refl c.sub) (Dp.int _) trivial⟩
theorem c_min2 (c : Cz k X) {i j : Int} : CallF X (.builtin "min") μ [dd i, dd j] (dd (min i j)) := ⟨_, call_min2 c.calm, fun F H as vs Q c hv q => by
  obtain ⟨v, w, rfl, h1, h2⟩ := hv.two
  cases h1
  cases h2
  refine ⟨i, j, rfl, ?_⟩
  have e : (if j < i then j else i) = min i j := by
    rw [Int.min_def]
    split <;> split <;> omega
  rw [e]
  exact q _ F H (StepP.refl c.sub) (Dp.int _) trivial⟩
/-- max, min of a list, a tuple of ints -/
theorem cr_maxL (c : Cz k X) {xs : List Int} (hn : xs ≠ []) : CallR X (.builtin "max") (fun vs H Q => ∃ v, vs = [v] ∧ Dp X.K H v (Datum.toD xs) ∧ ∀ z, (∀ H', Dp X.K H' z (.int (imax xs))) → Q z H) := by
  intro pins s σ H vs us Q I r h
  obtain ⟨v, rfl, h1, q⟩ := h
  cases xs with
  | nil => exact absurd rfl hn
  | cons x xs =>
    cases h1 with
    | @lst a ys _ h1 h2 =>
      obtain ⟨its, rv, pl, _⟩ := I.list h1
      rw [Vals.ref1 r]
      refine PySem.W.max_list_datum (x := x) (xs := xs) (I.ok.hd c.calm) pl.isList (by rw [show its.toArray.toList = its by simp]; exact holdAll_of (xs := x :: xs) I h2 rv) (Flat.un c) fun i v h' tk _ hv hk => ?_
      obtain ⟨t, rfl⟩ := PySem.W.int_of_holds hv
      have e : PySem.W.maxOf x xs = imax (x :: xs) := by
        unfold PySem.W.maxOf imax
        congr 1
        funext a y
        show (if decide (a < y) = true then y else a) = _
        by_cases h : a < y <;> simp [h]
      exact ⟨.int _, H, I.kept hk, ⟨t, rfl⟩, q _ fun H' => by rw [e]; exact Dp.int _⟩
theorem cr_maxT (c : Cz k X) {xs : Tup Int} (hn : xs.items ≠ []) : CallR X (.builtin "max") (fun vs H Q => ∃ v, vs = [v] ∧ Dp X.K H v (Datum.toD xs) ∧ ∀ z, (∀ H', Dp X.K H' z (.int (imax xs.items))) → Q z H) := by
  intro pins s σ H vs us Q I r h
  obtain ⟨v, rfl, h1, q⟩ := h
  obtain ⟨xs⟩ := xs
  cases xs with
  | nil => exact absurd rfl hn
  | cons x xs =>
    cases h1 with
    | @tup a ys _ h1 h2 =>
      obtain ⟨its, rv, pl, _⟩ := I.tuple h1
      rw [Vals.ref1 r]
      refine PySem.W.max_tuple_datum (x := x) (xs := xs) (I.ok.hd c.calm) pl (by rw [show its.toArray.toList = its by simp]; exact holdAll_of (xs := x :: xs) I h2 rv) (Flat.un c) fun i v h' tk _ hv hk => ?_
      obtain ⟨t, rfl⟩ := PySem.W.int_of_holds hv
      have e : PySem.W.maxOf x xs = imax (x :: xs) := by
        unfold PySem.W.maxOf imax
        congr 1
        funext a y
        show (if decide (a < y) = true then y else a) = _
        by_cases h : a < y <;> simp [h]
      exact ⟨.int _, H, I.kept hk, ⟨t, rfl⟩, q _ fun H' => by rw [e]; exact Dp.int _⟩
theorem cr_minL (c : Cz k X) {xs : List Int} (hn : xs ≠ []) : CallR X (.builtin "min") (fun vs H Q => ∃ v, vs = [v] ∧ Dp X.K H v (Datum.toD xs) ∧ ∀ z, (∀ H', Dp X.K H' z (.int (imin xs))) → Q z H) := by
  intro pins s σ H vs us Q I r h
  obtain ⟨v, rfl, h1, q⟩ := h
  cases xs with
  | nil => exact absurd rfl hn
  | cons x xs =>
    cases h1 with
    | @lst a ys _ h1 h2 =>
      obtain ⟨its, rv, pl, _⟩ := I.list h1
      rw [Vals.ref1 r]
      refine PySem.W.min_list_datum (x := x) (xs := xs) (I.ok.hd c.calm) pl.isList (by rw [show its.toArray.toList = its by simp]; exact holdAll_of (xs := x :: xs) I h2 rv) (Flat.un c) fun i v h' tk _ hv hk => ?_
      obtain ⟨t, rfl⟩ := PySem.W.int_of_holds hv
      have e : PySem.W.minOf x xs = imin (x :: xs) := by
        unfold PySem.W.minOf imin
        congr 1
        funext a y
        show (if decide (y < a) = true then y else a) = _
        by_cases h : y < a <;> simp [h]
      exact ⟨.int _, H, I.kept hk, ⟨t, rfl⟩, q _ fun H' => by rw [e]; exact Dp.int _⟩
theorem c_maxL (c : Cz k X) {xs : List Int} (e : ra.rd μ = some (Datum.toD xs)) (hn : xs ≠ []) : CallF X (.builtin "max") μ [ra] (dd (imax xs)) := c_one (cr_maxL c hn) e
theorem c_maxT (c : Cz k X) {xs : Tup Int} (e : ra.rd μ = some (Datum.toD xs)) (hn : xs.items ≠ []) : CallF X (.builtin "max") μ [ra] (dd (imax xs.items)) := c_one (cr_maxT c hn) e
theorem c_minL (c : Cz k X) {xs : List Int} (e : ra.rd μ = some (Datum.toD xs)) (hn : xs ≠ []) : CallF X (.builtin "min") μ [ra] (dd (imin xs)) := c_one (cr_minL c hn) e
/-- tuple(list), tuple(tuple), list(list), list(tuple) -/
theorem c_tupleD {ds : List PyData} (e : ra.rd μ = some (.list ds)) : CallF X (.type "tuple") μ [ra] (.dat (.tuple ds)) := ⟨_, call_tuple_of, fun F H as vs Q c hv q => by
  obtain ⟨v, rfl, h⟩ := hv.one
  obtain ⟨a, ys, rfl, h1, h2⟩ := h.seqL c e
  refine ⟨a, ys, rfl, .inl ⟨h1, fun l hl => ?_⟩⟩
  have st := StepP.new (o := .tup ys) c.sub hl
  exact q _ _ _ st (.tup (.inl (.inl upd_same)) (st.ex.dpAll h2)) trivial⟩
theorem c_tuple {xs : List α} (e : ra.rd μ = some (Datum.toD xs)) : CallF X (.type "tuple") μ [ra] (dd (Tup.mk xs)) := c_tupleD e
theorem c_tupleT {t : Tup α} : CallF X (.type "tuple") μ [dd t] (dd t) := ⟨_, call_tuple_of, fun F H as vs Q c hv q => by
  obtain ⟨v, rfl, h⟩ := hv.one
  obtain ⟨a, ys, rfl, h1, h2⟩ := h.seqT c rfl
  exact ⟨a, ys, rfl, .inr ⟨c.sub.st h1, q _ F H (StepP.refl c.sub) (.tup h1 h2) trivial⟩⟩⟩
theorem fre_new {F H : Hp} {as : List Addr} {l : Addr} {ys : List V} {ds : List PyData} {Q : VK} (c : Clz X.K F H as μ) (h2 : DpAll X.K F ys ds) (hl : H l = none)
    (q : ∀ z F' H', StepP F H F' H' → Vr X.K F' H' as z (.fre ds) → New H z (.fre ds) → Q z H') : Q (.ref l) (upd H l (.lst ys)) :=
  q _ F _ (StepP.hxOnly c.sub (Ex.new hl)) ⟨l, ys, rfl, upd_same, c.sub.free hl, fun hm => c.there l hm hl, h2⟩ fun a e => by
    cases e
    exact hl
theorem c_listL {ds : List PyData} (e : ra.rd μ = some (.list ds)) : CallF X (.type "list") μ [ra] (.fre ds) := ⟨_, call_list_of, fun F H as vs Q c hv q => by
  obtain ⟨v, rfl, h⟩ := hv.one
  obtain ⟨a, ys, rfl, h1, h2⟩ := h.seqL c e
  exact ⟨a, ys, rfl, .inl h1, fun l hl => fre_new c h2 hl q⟩⟩
theorem c_listT {ds : List PyData} (e : ra.rd μ = some (.tuple ds)) : CallF X (.type "list") μ [ra] (.fre ds) := ⟨_, call_list_of, fun F H as vs Q c hv q => by
  obtain ⟨v, rfl, h⟩ := hv.one
  obtain ⟨a, ys, rfl, h1, h2⟩ := h.seqT c e
  exact ⟨a, ys, rfl, .inr (c.sub.st h1), fun l hl => fre_new c h2 hl q⟩⟩
/-- sorted(list) -/
theorem each_vals {H : Hp} {pins : List (Addr × Obj)} {σ : L2.St} {s : Shared} (I : Inv X pins σ H s) {F : Hp} : ∀ {vs : List V} {us : List Value} {xs : List α}, DpAll X.K H vs (xs.map Datum.toD) → DpAll X.K F vs (xs.map Datum.toD) → Vals vs us →
    PySem.W.EachIs (fun u x => ∃ v, RelV v u ∧ Dp X.K F v (Datum.toD x)) us xs ∧ PySem.W.EachIs (fun u x => ∃ as, Reads s.heap u (Datum.toD x) as) us xs
  | _, _, [], h, h', r => by
    cases h
    cases r
    exact ⟨.nil, .nil⟩
  | _, _, x :: xs, h, h', r => by
    cases h with
    | cons h t =>
      cases h' with
      | cons h' t' =>
        cases r with
        | cons r rt =>
          have ih := each_vals I t t' rt
          exact ⟨.cons ⟨_, r, h'⟩ ih.1, .cons (Dp.reads I _ _ _ h r) ih.2⟩
theorem vals_each {F : Hp} : ∀ {us : List Value} {xs : List α}, PySem.W.EachIs (fun u x => ∃ v, RelV v u ∧ Dp X.K F v (Datum.toD x)) us xs → ∃ vs, Vals vs us ∧ DpAll X.K F vs (xs.map Datum.toD)
  | _, _, .nil => ⟨[], .nil, .nil⟩
  | _, _, .cons ⟨v, r, h⟩ t => by
    obtain ⟨vs, h1, h2⟩ := vals_each t
    exact ⟨v :: vs, .cons r h1, .cons h h2⟩
end
section
variable {X : Cx} {k : Nat} {μ : Mu} {ra : Sl} {α : Type} [DecidableEq α] [DatumOrd α]
theorem dataLe_srt : PySem.W.dataLe false (Datum.toD (α := α)) = fun a b => !DatumOrd.lt b a := by
  rw [PySem.W.dataLe_eq]
  funext a b
  show (!PySem.W.dataLt (Datum.toD b) (Datum.toD a)) = _
  rw [DatumOrd.lt_eq]
def rSrt (K : PySem.W.Frag) (xs : List α) : List V → Hp → VK → Prop := fun vs H Q => ∃ a F ys, vs = [.ref a] ∧ Ex F H ∧ SqL K H a ys ∧ DpAll K F ys (xs.map Datum.toD) ∧ ∀ l zs, H l = none → DpAll K F zs ((srt xs).map Datum.toD) → Q (.ref l) (upd H l (.lst zs))
theorem cr_srt (c : Cz k X) [Flat α] {xs : List α} (hs : PySem.W.Sortable (xs.map Datum.toD)) : CallR X (.builtin "sorted") (rSrt X.K xs) := by
  intro pins s σ H vs us Q I r h
  obtain ⟨a, F, ys, rfl, ex, h1, h2, q⟩ := h
  obtain ⟨its, rv, pl, hz⟩ := I.list h1
  rw [Vals.ref1 r]
  obtain ⟨e1, e2⟩ := each_vals I (ex.dpAll h2) h2 rv
  have hlen : xs.length = ys.length := by
    have := h2.length
    rw [List.length_map] at this
    exact this.symm
  refine PySem.W.sorted_data (enc := Datum.toD) (bs := xs) pl.isList e1 e2 (PySem.W.AllAlike.of fun b b' => DatumOrd.alike b b') hs (by rw [hlen]; exact hz) (fun b _ => ?_) fun out ho eo => ?_
  · have d1 := Datum.depth_le b
    have d2 := Flat.le (α := α)
    have d3 : X.A.units + 64 < cLine := c.un
    omega
  · rw [dataLe_srt] at eo
    obtain ⟨zs, g1, g2⟩ := vals_each eo
    obtain ⟨ep, he'⟩ := PyProof.Rows.sortedAll_at s.heap its out.toArray
    have hl2 : zs.length ≤ sizeLine := by rw [g1.length, ho, hlen]; exact hz
    exact ⟨.ref _, upd H (s.heap.objs.size + 1) (.lst zs), I.laid (t' := s.toks) (fun _ _ => PyProof.Rows.sortedAll_old) (Nat.le_succ _) ⟨hl2, out, ep, g1, he'⟩, rfl, q _ zs (I.hok.fresh (Nat.le_succ _)) g2⟩
theorem c_sorted (c : Cz k X) [Flat α] {xs : List α} (e : ra.rd μ = some (Datum.toD xs)) (hs : PySem.W.Sortable (xs.map Datum.toD)) : CallF X (.builtin "sorted") μ [ra] (fr (srt xs)) := ⟨_, cr_srt c hs, fun F H as vs Q cl hv q => by
  obtain ⟨v, rfl, h⟩ := hv.one
  obtain ⟨a, ys, rfl, h1, h2⟩ := h.seqL cl e
  exact ⟨a, F, ys, rfl, cl.sub, h1, h2, fun l zs hl hz => fre_new cl hz hl q⟩⟩
end
end DL
end
section
set_option autoImplicit false
/-! D-layer 3: subscripts, slices, +, *. -/
namespace DL
open PySem PySem.Spec PyProof.Rows L2
open PySem.W (Datum Tup DatumOrd Holds HoldAll)

/-- a slice of anything -/
def gcut {α : Type} (xs : List α) (lo hi : Option Int) : List α := (xs.drop (HT.sIx xs.length 0 lo)).take (HT.sIx xs.length xs.length hi - HT.sIx xs.length 0 lo)
section
variable {X : Cx} {k : Nat} {Γ : List Sl} {μ μ1 μ2 μ3 μ4 : Mu} {e a b : Expr} {es : List Expr} {r ra rb rc : Sl} {rs : List Sl} {pos p : Pos} {lo hi : Option Expr} {i j : Int} {oi oj : Option Int}
theorem atI_dp {F : Hp} {vs : List V} {ds : List PyData} {d : PyData} (h : DpAll X.K F vs ds) (e : atI ds i = some d) : ∃ v, atI vs i = some v ∧ Dp X.K F v d := by
  unfold atI at e ⊢
  rw [h.length]
  cases q : ixN ds.length i with
  | none => rw [q] at e; cases e
  | some n =>
    rw [q] at e
    exact h.get' e
/-- xs[i] -/
theorem ev_ixL {ds : List PyData} {d : PyData} (ha : Ev X Γ μ a ra μ1) (hb : Ev X Γ μ1 b (dd i) μ2) (e : ra.rd μ2 = some (.list ds)) (h : atI ds i = some d) (hs : PlainIx b := by exact fun _ _ => rfl) : Ev X Γ μ (.Subscript a b pos) (.dat d) μ2 :=
  pe_le (pe_ix ix_list ha hb hs) (tD2 fun F H as x y Q c hx hy q => by
    obtain ⟨a, vs, rfl, h1, h2⟩ := hx.seqL c e
    cases hy
    obtain ⟨v, h3, h4⟩ := atI_dp h2 h
    exact ⟨a, vs, i, v, rfl, rfl, h1, h3, q v F H (StepP.refl c.sub) h4 trivial⟩)
theorem ev_ixT {ds : List PyData} {d : PyData} (ha : Ev X Γ μ a (.dat (.tuple ds)) μ1) (hb : Ev X Γ μ1 b (dd i) μ2) (h : atI ds i = some d) (hs : PlainIx b := by exact fun _ _ => rfl) : Ev X Γ μ (.Subscript a b pos) (.dat d) μ2 :=
  pe_le (pe_ix ix_tup ha hb hs) (tD2 fun F H as x y Q c hx hy q => by
    obtain ⟨a, vs, rfl, h1, h2⟩ := hx.seqT c rfl
    cases hy
    obtain ⟨v, h3, h4⟩ := atI_dp h2 h
    exact ⟨a, vs, i, v, rfl, rfl, c.sub.st h1, h3, q v F H (StepP.refl c.sub) h4 trivial⟩)
variable {α β γ : Type} [DecidableEq α] [Datum α] [DecidableEq β] [Datum β] [DecidableEq γ] [Datum γ]
theorem ev_fst {q : α × β} {k1 : Nat} {p1 : Pos} (ha : Ev X Γ μ a (dd q) μ1) : Ev X Γ μ (.Subscript a (.Constant (.int 0) k1 p1) pos) (dd q.1) μ1 := ev_ixT (ds := [Datum.toD q.1, Datum.toD q.2]) ha ev_int (show atI [Datum.toD q.1, Datum.toD q.2] (0 : Int) = some (Datum.toD q.1) from rfl)
theorem ev_snd {q : α × β} {k1 : Nat} {p1 : Pos} (ha : Ev X Γ μ a (dd q) μ1) : Ev X Γ μ (.Subscript a (.Constant (.int 1) k1 p1) pos) (dd q.2) μ1 := ev_ixT (ds := [Datum.toD q.1, Datum.toD q.2]) ha ev_int (show atI [Datum.toD q.1, Datum.toD q.2] (1 : Int) = some (Datum.toD q.2) from rfl)
theorem atI_map {xs : List α} {n : Nat} {x : α} (h : xs[n]? = some x) : atI (xs.map Datum.toD) (n : Int) = some (Datum.toD x) := atI_nat (by rw [List.getElem?_map, h]; rfl)
/-- xs[i] of typed lists, tuples: i a place -/
theorem ev_ixLT {xs : List α} {x : α} {n : Nat} (ha : Ev X Γ μ a ra μ1) (hb : Ev X Γ μ1 b (dd i) μ2) (e : ra.rd μ2 = some (Datum.toD xs)) (hi : i = (n : Int)) (h : xs[n]? = some x) (hs : PlainIx b := by exact fun _ _ => rfl) : Ev X Γ μ (.Subscript a b pos) (dd x) μ2 :=
  ev_ixL ha hb e (by rw [hi]; exact atI_map h) hs
theorem ev_ixTT {xs : Tup α} {x : α} {n : Nat} (ha : Ev X Γ μ a (dd xs) μ1) (hb : Ev X Γ μ1 b (dd i) μ2) (hi : i = (n : Int)) (h : xs.items[n]? = some x) (hs : PlainIx b := by exact fun _ _ => rfl) : Ev X Γ μ (.Subscript a b pos) (dd x) μ2 :=
  ev_ixT ha hb (by rw [hi]; exact atI_map h) hs

/-! ### slices -/
def tDO (K : PySem.W.Frag) (Γ : List Sl) (μ : Mu) (o : Option Int) (μ' : Mu) : TO := fun σ H Q => ∃ F as, Clz K F H as μ ∧ Sls K F H as σ Γ ∧ ∀ F' H', Step as F H F' H' → Clz K F' H' as μ' → Q o H'
abbrev EvO (X : Cx) (Γ : List Sl) (μ : Mu) (o : Option Expr) (i : Option Int) (μ' : Mu) : Prop := PO X o (tDO X.K Γ μ i μ')
theorem po_le {o : Option Expr} {t t' : TO} (h : PO X o t) (le : ∀ σ H Q, t' σ H Q → t σ H Q) : PO X o t' := ⟨fun pins s σ H Q I q => h.run pins s σ H Q I (le _ _ _ q)⟩
theorem eo_none : EvO X Γ μ none none μ := po_le po_none fun σ H Q q => by
  obtain ⟨F, as, c, s, kk⟩ := q
  exact kk F H Step.refl c
theorem eo_some (h : Ev X Γ μ e (dd i) μ1) : EvO X Γ μ (some e) (some i) μ1 := po_le (po_some h) fun σ H Q q => by
  obtain ⟨F, as, c, s, kk⟩ := q
  refine ⟨F, as, c, s, fun v F1 H1 st1 c1 hv _ => ?_⟩
  cases hv
  exact ⟨i, rfl, kk F1 H1 st1 c1⟩
theorem gcut_map {δ ε : Type} (f : δ → ε) (xs : List δ) (lo hi : Option Int) : gcut (xs.map f) lo hi = (gcut xs lo hi).map f := by
  unfold gcut
  rw [List.length_map, List.map_take, List.map_drop]
theorem dp_cut {F : Hp} {vs : List V} {ds : List PyData} (h : DpAll X.K F vs ds) (lo hi : Option Int) : DpAll X.K F (cutV vs lo hi) (gcut ds lo hi) := by
  unfold cutV gcut
  rw [h.length]
  exact (h.drop _).take _
theorem tSl_le {rr : V → Option Int → Option Int → Hp → VK → Prop} (k : ∀ F H as x (Q : VK), Clz X.K F H as μ3 → Vr X.K F H as x ra → (∀ z F' H', StepP F H F' H' → Vr X.K F' H' as z rc → New H z rc → Q z H') → rr x oi oj H Q) :
    ∀ σ H Q, tD X.K Γ μ rc μ3 σ H Q → tSl rr (tD X.K Γ μ ra μ1) (tDO X.K Γ μ1 oi μ2) (tDO X.K Γ μ2 oj μ3) σ H Q := fun σ H Q q => by
  obtain ⟨F, as, c, s, kk⟩ := q
  refine ⟨F, as, c, s, fun x F1 H1 st1 c1 hx nx => ⟨F1, as, c1, s.mono st1, fun F2 H2 st2 c2 => ⟨F2, as, c2, s.mono (st1.trans st2), fun F3 H3 st3 c3 => ?_⟩⟩⟩
  have st := (st1.trans st2).trans st3
  exact k F3 H3 as x Q c3 (hx.mono (st2.trans st3)) fun z F4 H4 p hz nz => kk z F4 H4 (st.trans p.step) (c3.pure p) hz (newBack st nz)
theorem ev_slL {ds : List PyData} {p2 : Pos} (ha : Ev X Γ μ e ra μ1) (hl : EvO X Γ μ1 lo oi μ2) (hh : EvO X Γ μ2 hi oj μ3) (er : ra.rd μ3 = some (.list ds)) : Ev X Γ μ (.Subscript e (.Slice lo hi none p2) pos) (.fre (gcut ds oi oj)) μ3 :=
  pe_le (pe_slice sl_list ha hl hh) (tSl_le fun F H as x Q c hx q => by
    obtain ⟨a, vs, rfl, h1, h2⟩ := hx.seqL c er
    exact ⟨a, vs, rfl, h1, fun p hp => fre_new c (dp_cut h2 oi oj) hp q⟩)
theorem ev_slT {ds : List PyData} {p2 : Pos} (ha : Ev X Γ μ e (.dat (.tuple ds)) μ1) (hl : EvO X Γ μ1 lo oi μ2) (hh : EvO X Γ μ2 hi oj μ3) : Ev X Γ μ (.Subscript e (.Slice lo hi none p2) pos) (.dat (.tuple (gcut ds oi oj))) μ3 :=
  pe_le (pe_slice sl_tupA ha hl hh) (tSl_le fun F H as x Q c hx q => by
    obtain ⟨a, vs, rfl, h1, h2⟩ := hx.seqT c rfl
    refine ⟨a, vs, rfl, c.sub.st h1, fun hw => ?_, fun _ p hp => ?_⟩
    · have e1 : cutV vs oi oj = vs := by
        unfold cutV
        rw [hw.1, hw.2, List.drop_zero, Nat.sub_zero, List.take_length]
      have h3 := dp_cut h2 oi oj
      rw [e1] at h3
      exact q _ F H (StepP.refl c.sub) (.tup h1 h3) trivial
    · have st := StepP.new (o := .tup (cutV vs oi oj)) c.sub hp
      exact q _ _ _ st (.tup (.inl (.inl upd_same)) (st.ex.dpAll (dp_cut h2 oi oj))) trivial)
theorem ev_slTT {t : Tup α} {p2 : Pos} (ha : Ev X Γ μ e (dd t) μ1) (hl : EvO X Γ μ1 lo oi μ2) (hh : EvO X Γ μ2 hi oj μ3) : Ev X Γ μ (.Subscript e (.Slice lo hi none p2) pos) (dd (Tup.mk (gcut t.items oi oj))) μ3 :=
  (ev_slT ha hl hh).cast (by
    show Sl.dat (.tuple (gcut (t.items.map Datum.toD) oi oj)) = Sl.dat (.tuple ((gcut t.items oi oj).map Datum.toD))
    rw [gcut_map])
theorem ev_slLL {xs : List α} {p2 : Pos} (ha : Ev X Γ μ e ra μ1) (hl : EvO X Γ μ1 lo oi μ2) (hh : EvO X Γ μ2 hi oj μ3) (er : ra.rd μ3 = some (Datum.toD xs)) : Ev X Γ μ (.Subscript e (.Slice lo hi none p2) pos) (fr (gcut xs oi oj)) μ3 :=
  (ev_slL ha hl hh er).cast (by
    show Sl.fre (gcut (xs.map Datum.toD) oi oj) = Sl.fre ((gcut xs oi oj).map Datum.toD)
    rw [gcut_map])

/-! ### + of lists, of tuples -/
def rCatS (K : PySem.W.Frag) : R2 := fun x y H Q => ∃ l b xs zs, x = .ref l ∧ y = .ref b ∧ SqL K H l xs ∧ SqL K H b zs ∧ xs.length + zs.length ≤ sizeLine ∧ ∀ p, H p = none → Q (.ref p) (upd H p (.lst (xs ++ zs)))
theorem op_catS : OpR X (binaryOp .Add) (rCatS X.K) := by
  intro pins s σ H x y v u Q I rx ry h
  obtain ⟨l, b, xs, zs, rfl, rfl, hH, hB, hz, q⟩ := h
  cases rx
  cases ry
  obtain ⟨its, r, pl, z⟩ := I.list hH
  obtain ⟨its2, r2, pl2, z2⟩ := I.list hB
  obtain ⟨⟨cls, dd, data, sl⟩, ho, hc, n, hd⟩ := pl.isList
  obtain ⟨⟨cls2, dd2, data2, sl2⟩, ho2, hc2, n2, hd2⟩ := pl2.isList
  simp only at hc hd hc2 hd2
  subst hc hd hc2 hd2
  have e : its.toArray ++ its2.toArray = (its ++ its2).toArray := by simp
  have l1 := r.length
  have l2 := r2.length
  refine concat_meets ⟨_, ho, rfl⟩ ⟨_, ho2, rfl⟩ noFill_list_add seq_list_add PySem.F.slot_list_add PySem.F.entry_list_add (PySem.F.args_list_add_2 _ _) (list_addW l b its.toArray its2.toArray n n2 dd dd2 sl sl2 (by simp only [List.size_toArray]; omega)) ⟨ho, ho2, ?_⟩
  rw [e]
  exact ⟨.ref _, _, I.lnew (t' := s.toks) (r.append r2) (by rw [List.length_append]; omega), rfl, q _ I.fresh⟩
theorem f_catL {ds es : List PyData} (ea : ra.rd μ = some (.list ds)) (eb : rb.rd μ = some (.list es)) (hz : ds.length + es.length ≤ 100000) : OpF X (binaryOp .Add) μ ra rb (.fre (ds ++ es)) :=
  ⟨_, op_catS, fun F H as x y Q c hx hy q => by
    obtain ⟨a, vs, rfl, h1, h2⟩ := hx.seqL c ea
    obtain ⟨b, ws, rfl, h3, h4⟩ := hy.seqL c eb
    exact ⟨a, b, vs, ws, rfl, rfl, h1, h3, by rw [h2.length, h4.length, sizeLine_eq]; omega, fun p hp => fre_new c (h2.append h4) hp q⟩⟩
theorem f_catLL {xs ys : List α} (ea : ra.rd μ = some (Datum.toD xs)) (eb : rb.rd μ = some (Datum.toD ys)) (hz : xs.length + ys.length ≤ 100000) : OpF X (binaryOp .Add) μ ra rb (fr (xs ++ ys)) := by
  have h := f_catL (X := X) (ds := xs.map Datum.toD) (es := ys.map Datum.toD) ea eb (by rw [List.length_map, List.length_map]; exact hz)
  rw [← List.map_append] at h
  exact h
theorem f_catT {ds es : List PyData} (hz : ds.length + es.length ≤ 100000) : OpF X (binaryOp .Add) μ (.dat (.tuple ds)) (.dat (.tuple es)) (.dat (.tuple (ds ++ es))) :=
  ⟨_, op_catA, fun F H as x y Q c hx hy q => by
    obtain ⟨a, vs, rfl, h1, h2⟩ := hx.seqT c rfl
    obtain ⟨b, ws, rfl, h3, h4⟩ := hy.seqT c rfl
    refine ⟨a, b, vs, ws, rfl, rfl, c.sub.st h1, c.sub.st h3, by rw [h2.length, h4.length, sizeLine_eq]; omega, fun e => ?_, fun _ e => ?_, fun _ _ p hp => ?_⟩
    · subst e
      cases h2
      exact q _ F H (StepP.refl c.sub) (.tup h3 h4) trivial
    · subst e
      cases h4
      rw [List.append_nil] at *
      exact q _ F H (StepP.refl c.sub) (.tup h1 h2) trivial
    · have st := StepP.new (o := .tup (vs ++ ws)) c.sub hp
      exact q _ _ _ st (.tup (.inl (.inl upd_same)) (st.ex.dpAll (h2.append h4))) trivial⟩
theorem f_catTT {t u : Tup α} (hz : t.items.length + u.items.length ≤ 100000) : OpF X (binaryOp .Add) μ (dd t) (dd u) (dd (Tup.mk (t.items ++ u.items))) := by
  have h := f_catT (X := X) (μ := μ) (ds := t.items.map Datum.toD) (es := u.items.map Datum.toD) (by rw [List.length_map, List.length_map]; exact hz)
  rw [← List.map_append] at h
  exact h
/-- [x] * n -/
theorem f_repL {ds : List PyData} {n : Nat} (hz : ds.length * n ≤ 100000) (hn : n ≤ 100000) : OpF X (binaryOp .Mult) μ (.fre ds) (dd (n : Int)) (.fre (List.replicate n ds).flatten) :=
  ⟨_, op_rep, fun F H as x y Q c hx hy q => by
    obtain ⟨a, vs, rfl, h2, h3, h4, h5⟩ := hx
    cases hy
    refine ⟨a, n, vs, rfl, rfl, h2, by omega, by omega, by rw [h5.length, sizeLine_eq, Int.toNat_natCast]; omega, fun p hp => ?_⟩
    rw [Int.toNat_natCast]
    exact fre_new c (h5.rep n) hp q⟩
/-- a tuple times one is itself -/
theorem tuple_mul1 (l : Addr) (items : Array Value) (n : Nat) (dd : Option Addr) (sl : Array (Option Value)) (u : Tok) :
    Meets (Builtin.«tuple.__mul__» ⟨[.ref l, .int 1 u], []⟩) (fun _ R s => s.heap.get? l = some { cls := .type "tuple", dict := dd, data := .seq items n, slots := sl } ∧ R (.ok (.ret (Value.ref l))) s) :=
  .of_wp fun prog w A R s h => by
    obtain ⟨hp, g, d, tk, os⟩ := s
    obtain ⟨hl, h⟩ := h
    have f1 := AutoSeq1.idx_int
    have c1 : (items.isEmpty || (1 : Int) == 1) = true := by simp
    wp_walk using wpAny_loadPart' hl
    repeat (first
      | (refine wpAny_ite_true (decide_eq_true (by first | exact c1 | rfl)) ?_; wp_walk using wpAny_loadPart' hl)
      | (refine wpAny_ite_false (decide_eq_false (by decide)) ?_; wp_walk using wpAny_loadPart' hl))
    exact ⟨_, rfl, h⟩
end
end DL
end
section
set_option autoImplicit false
/-! D-layer 4: what is walked; targets; list comprehensions. -/
namespace DL
open PySem PySem.Spec PyProof.Rows L2
open PySem.W (Datum Tup DatumOrd Holds HoldAll T3)

/-! ### iterators -/
/-- J walks the data ds while what stands in F stands -/
structure WalkD (K : PySem.W.Frag) (J : It) (F : Hp) (ds : List PyData) : Prop where
  goes : ∀ i H, i < ds.length → Ex F H → J.go i H
  stops : ∀ H, Ex F H → J.stop ds.length H
  yields : ∀ i H x H', i < ds.length → Ex F H → J.yld i H x H' → ∃ d, ds[i]? = some d ∧ ∀ F0, Ex F F0 → Ex F0 H → ∃ F1, StepP F0 H F1 H' ∧ Dp K F1 x d
def tDI (K : PySem.W.Frag) (Γ : List Sl) (μ : Mu) (ds : List PyData) (μ' : Mu) : TI := fun σ H R => ∃ F as, Clz K F H as μ ∧ Sls K F H as σ Γ ∧
  ∀ J F' H', Step as F H F' H' → Clz K F' H' as μ' → ds.length ≤ sizeLine → WalkD K J F' ds → R J H'
abbrev EvI (X : Cx) (Γ : List Sl) (μ : Mu) (tg e : Expr) (ds : List PyData) (μ' : Mu) : Prop := PI X tg e (tDI X.K Γ μ ds μ')
section
variable {X : Cx} {k : Nat} {Γ : List Sl} {μ μ1 μ2 μ3 μ4 : Mu} {e a b tg : Expr} {es : List Expr} {r ra rb rc : Sl} {rs : List Sl} {pos p : Pos} {i j : Int} {ds : List PyData}
theorem EvI.cast {ds' : List PyData} (h : EvI X Γ μ tg e ds μ1) (q : ds = ds') : EvI X Γ μ tg e ds' μ1 := q ▸ h
theorem pi_le {t t' : TI} (h : PI X tg e t) (le : ∀ σ H R, t' σ H R → t σ H R) : PI X tg e t' := ⟨fun pins s σ H R I q => h.run pins s σ H R I (le _ _ _ q)⟩
theorem ei_list (h : Ev X Γ μ e (.dat (.list ds)) μ1) : EvI X Γ μ tg e ds μ1 := by
  refine ⟨fun pins s σ H R I q => ?_⟩
  obtain ⟨F, as, c, sl, kk⟩ := q
  refine thn (h.run pins s σ H (fun x H1 => ∃ F1 a vs, x = .ref a ∧ Step as F H F1 H1 ∧ Clz X.K F1 H1 as μ1 ∧ SqL X.K F1 a vs ∧ DpAll X.K F1 vs ds) I ⟨F, as, c, sl, fun v F1 H1 st c1 hv _ => ?_⟩) fun v s1 ⟨x, H1, I1, r1, q1⟩ => ?_
  · cases hv with
    | lst h1 h2 => exact ⟨F1, _, _, rfl, st, c1, h1, h2⟩
  · obtain ⟨F1, a, vs, rfl, st, c1, h1, h2⟩ := q1
    cases r1
    obtain ⟨its, rv, pl, hz⟩ := I1.list (c1.sub.sl h1)
    refine wpAny_pyIter_list pl.isList ?_
    refine ⟨s1.heap.objs.size, [s1.heap.objs.size], _, _, H1, rfl, I1.kept (t' := s1.toks) fun b o e => Heap.get?_push_of_some _ e, turn_list a _, ⟨_, Heap.get?_push_size _ rfl, rfl, rfl⟩, fun b hb => ?_, ?_⟩
    · have e : b = s1.heap.objs.size := by simpa using hb
      subst e
      exact I1.fpOk (Nat.le_refl _) (I1.hok.fresh (Nat.le_refl _))
    · have hl := h2.length
      refine kk _ F1 H1 st c1 (by rw [← hl]; exact hz) ⟨fun i H hi ex => ?_, fun H ex => ?_, fun i H x H' hi ex y => ?_⟩
      · exact walk_list.goes i H (by rw [hl]; exact hi) (ex.sl h1)
      · rw [← hl]
        exact walk_list.stops H (ex.sl h1)
      · obtain ⟨e1, e2⟩ := walk_list.yields i H x H' (by rw [hl]; exact hi) (ex.sl h1) y
        subst e1
        obtain ⟨d, g1, g2⟩ := h2.get e2
        exact ⟨d, g1, fun F0 x0 x1 => ⟨F0, StepP.refl x1, x0.dp g2⟩⟩
theorem ei_tup (h : Ev X Γ μ e (.dat (.tuple ds)) μ1) : EvI X Γ μ tg e ds μ1 := by
  refine ⟨fun pins s σ H R I q => ?_⟩
  obtain ⟨F, as, c, sl, kk⟩ := q
  refine thn (h.run pins s σ H (fun x H1 => ∃ F1 a vs, x = .ref a ∧ Step as F H F1 H1 ∧ Clz X.K F1 H1 as μ1 ∧ SqT X.K F1 a vs ∧ DpAll X.K F1 vs ds) I ⟨F, as, c, sl, fun v F1 H1 st c1 hv _ => ?_⟩) fun v s1 ⟨x, H1, I1, r1, q1⟩ => ?_
  · cases hv with
    | tup h1 h2 => exact ⟨F1, _, _, rfl, st, c1, h1, h2⟩
  · obtain ⟨F1, a, vs, rfl, st, c1, h1, h2⟩ := q1
    cases r1
    obtain ⟨its, rv, pl, hz⟩ := I1.tuple (c1.sub.st h1)
    refine wpAny_pyIter_tuple (show s1.heap.IsTuple a its.toArray from pl) ?_
    refine ⟨s1.heap.objs.size, [s1.heap.objs.size], _, _, H1, rfl, I1.kept (t' := s1.toks) fun b o e => Heap.get?_push_of_some _ e, turn_tuple a _, ⟨_, Heap.get?_push_size _ rfl, rfl, rfl⟩, fun b hb => ?_, ?_⟩
    · have e : b = s1.heap.objs.size := by simpa using hb
      subst e
      exact I1.fpOk (Nat.le_refl _) (I1.hok.fresh (Nat.le_refl _))
    · have hl := h2.length
      refine kk _ F1 H1 st c1 (by rw [← hl]; exact hz) ⟨fun i H hi ex => ?_, fun H ex => ?_, fun i H x H' hi ex y => ?_⟩
      · exact walk_tup.goes i H (by rw [hl]; exact hi) (ex.st h1)
      · rw [← hl]
        exact walk_tup.stops H (ex.st h1)
      · obtain ⟨e1, e2⟩ := walk_tup.yields i H x H' (by rw [hl]; exact hi) (ex.st h1) y
        subst e1
        obtain ⟨d, g1, g2⟩ := h2.get e2
        exact ⟨d, g1, fun F0 x0 x1 => ⟨F0, StepP.refl x1, x0.dp g2⟩⟩
/-- range(n) -/
def rangeI (n : Nat) : List Int := (List.range n).map fun i : Nat => (i : Int)
theorem ei_range {n : Int} (c : Cz k X) (h : Ev X Γ μ a (dd n) μ1) (hn : n ≤ 100000) (hn0 : -100000 ≤ n) (hg : Gl X "range" := by rfl) (hs : starEach [a] X.env = [(false, eval a X.env)] := by rfl) : EvI X Γ μ tg (.Call (.Name "range" p) [a] [] pos) ((rangeI n.toNat).map Datum.toD) μ1 :=
  pi_le (pi_range1 hg c.b_range (ea_cons h ea_nil hs) hs) fun σ H R q => by
    obtain ⟨F, as, c, sl, kk⟩ := q
    refine ⟨F, as, c, sl, fun vs F1 H1 st c1 hv => ?_⟩
    obtain ⟨v, rfl, h1⟩ := hv.one
    cases h1
    have hl : ((rangeI n.toNat).map (Datum.toD (α := Int))).length = n.toNat := by unfold rangeI; simp
    refine ⟨n, rfl, by omega, by omega, kk _ F1 H1 st c1 (by rw [hl, sizeLine_eq]; omega) ⟨fun i H hi ex => ?_, fun H ex => ?_, fun i H x H' hi ex y => ?_⟩⟩
    · rw [hl] at hi
      exact hi
    · rw [hl]
      exact Nat.le_refl _
    · obtain ⟨e1, e2⟩ := y
      subst e1 e2
      rw [hl] at hi
      refine ⟨.int (i : Int), ?_, fun F0 x0 x1 => ⟨F0, StepP.refl x1, ?_⟩⟩
      · unfold rangeI
        rw [List.getElem?_map, List.getElem?_map, List.getElem?_range hi]
        rfl
      · rw [Int.zero_add]
        exact Dp.int _
/-- new tuples -/
theorem new_tup {F0 H : Hp} {T : Addr} {vs : List V} {ds : List PyData} (x1 : Ex F0 H) (hT : H T = none) (h : DpAll X.K F0 vs ds) : ∃ F1, StepP F0 H F1 (upd H T (.tup vs)) ∧ Dp X.K F1 (.ref T) (.tuple ds) := by
  have st := StepP.new (o := .tup vs) x1 hT
  exact ⟨_, st, .tup (.inl (.inl upd_same)) (st.ex.dpAll h)⟩
/-- enumerate(list), enumerate(tuple) -/
def enumD (ds : List PyData) : List PyData := ds.zipIdx.map fun q => .tuple [.int (q.2 : Int), q.1]
theorem enumD_len (ds : List PyData) : (enumD ds).length = ds.length := by unfold enumD; simp
theorem enumD_get {ds : List PyData} {i : Nat} {d : PyData} (h : ds[i]? = some d) : (enumD ds)[i]? = some (.tuple [.int (i : Int), d]) := by
  unfold enumD
  rw [List.getElem?_map, List.getElem?_zipIdx, h]
  simp
theorem ei_enumL {elts : List Expr} {kk0 : Nat} {tpos : Pos} (c : Cz k X) (h : Ev X Γ μ a (.dat (.list ds)) μ1) (hg : Gl X "enumerate" := by rfl) (hs : starEach [a] X.env = [(false, eval a X.env)] := by rfl) : EvI X Γ μ (.Tuple elts kk0 tpos) (.Call (.Name "enumerate" p) [a] [] pos) (enumD ds) μ1 := by
  refine ⟨fun pins s σ H R I q => ?_⟩
  obtain ⟨F, as, cl, sl, kk⟩ := q
  refine Call_ (ld_blt I hg c.b_enumerate boot_enumerate (PyProof.Rows.callWith_type1 (thn ((ea_cons h ea_nil hs).run pos pins s σ H (fun vs H1 => ∃ F1 a ws, vs = [.ref a] ∧ Step as F H F1 H1 ∧ Clz X.K F1 H1 as μ1 ∧ SqL X.K F1 a ws ∧ DpAll X.K F1 ws ds) I
    ⟨F, as, cl, sl, fun vs F1 H1 st c1 hv => ?_⟩) fun us s1 ⟨vs, H1, I1, r1, q1⟩ => ?_) hs rfl))
  · obtain ⟨v, rfl, h1⟩ := hv.one
    cases h1 with
    | lst h1 h2 => exact ⟨F1, _, _, rfl, st, c1, h1, h2⟩
  · obtain ⟨F1, a, ws, rfl, st, c1, h1, h2⟩ := q1
    rw [Vals.ref1 r1]
    obtain ⟨its, rv, p', hz⟩ := I1.list (c1.sub.sl h1)
    refine call_enumerate_list p'.isList fun h' he hit hsz hk => wpAny_pyIter_enum he ?_
    have I2 : Inv X pins σ H1 { s1 with heap := h' } := I1.kept (t' := s1.toks) hk
    refine ⟨s1.heap.objs.size + 1, [s1.heap.objs.size + 1, s1.heap.objs.size], _, _, H1, rfl, I2, turn_enum a (s1.heap.objs.size + 1) s1.heap.objs.size, ⟨⟨.none, he⟩, hit, Nat.succ_ne_self _⟩, fun b hb => ?_, ?_⟩
    · have e' : b = s1.heap.objs.size + 1 ∨ b = s1.heap.objs.size := by simpa using hb
      have hle : s1.heap.objs.size ≤ b := by
        rcases e' with z | z
        · rw [z]; exact Nat.le_add_right _ _
        · rw [z]; exact Nat.le_refl _
      exact I1.fpOk hle (I1.hok.fresh hle)
    · have hl := h2.length
      refine kk _ F1 H1 st c1 (by rw [enumD_len, ← hl]; exact hz) ⟨fun i H hi ex => ?_, fun H ex => ?_, fun i H x H' hi ex y => ?_⟩
      · rw [enumD_len] at hi
        exact walk_enum.goes i H (by rw [hl]; exact hi) (ex.sl h1)
      · rw [enumD_len, ← hl]
        exact walk_enum.stops H (ex.sl h1)
      · rw [enumD_len] at hi
        obtain ⟨T, x0, y0, rfl, e1, rfl, e3, e4⟩ := walk_enum.yields i H x H' (by rw [hl]; exact hi) (ex.sl h1) y
        cases Option.some.inj e3
        obtain ⟨d, g1, g2⟩ := h2.get e4
        exact ⟨_, enumD_get g1, fun F0 x0 x1 => new_tup x1 e1 (.cons (Dp.int _) (.cons (x0.dp g2) .nil))⟩
/-- the tuple at a as it stands at each turn, numbered -/
def ItET (K : PySem.W.Frag) (a : Addr) : It :=
  ⟨fun i H => ∃ (xs : List V) (x : V), SqT K H a xs ∧ xs[i]? = some x, fun i H v H' => ∃ T x, v = .ref T ∧ H T = none ∧ H' = upd H T (.tup [.int (i : Nat), x]) ∧ ∀ xs, SqT K H a xs → xs[i]? = some x, fun i H => ∃ xs : List V, SqT K H a xs ∧ i = xs.length⟩
theorem turn_enumT {P : Program} {w : World} {K : PySem.W.Frag} {elts : List Expr} {kk : Nat} {tpos : Pos} (a e it : Addr) (hae : a ≠ e) (hai : a ≠ it) :
    Turn P w K (.Tuple elts kk tpos) (ItET K a) [e, it] e (fun i h => (∃ old, IsEnum h e it (0 + ((i : Nat) : Int)) old) ∧ h.IsTupleIter it a i ∧ e ≠ it) where
  mem := by simp
  obj := fun i h st b hb => by
    obtain ⟨⟨old, he⟩, ⟨o, ho, hc, hd⟩, _⟩ := st
    have e' : b = e ∨ b = it := by simpa using hb
    rcases e' with q | q
    · rw [q]; exact ⟨_, he, fun v q => nomatch q⟩
    · rw [q]; exact ⟨o, ho, fun v q => by rw [hd] at q; cases q⟩
  keep := fun i h h' st k => by
    obtain ⟨⟨old, he⟩, hi, n⟩ := st
    exact ⟨⟨old, k e (by simp) _ he⟩, hi.at fun o q => k it (by simp) o q, n⟩
  item := by
    intro X hP hw hK hc i pins s σ H E I hf st hg
    subst hP hw hK
    obtain ⟨⟨old, he⟩, hi, hne⟩ := st
    obtain ⟨xs, x, hqx, hx⟩ := hg
    obtain ⟨its, rv, p, _⟩ := I.tuple hqx
    obtain ⟨u, hu, ru⟩ := rv.get hx
    have hlt : i < its.toArray.size := by
      rw [List.size_toArray]
      exact (List.getElem?_eq_some_iff.mp hu).1
    have G := GoesN.enumFrom (elts := elts) (x1 := kk) (pos := tpos) 0 (Draws.tuple (prog := X.prog) (w := X.w) (A := X.A.in1) (I.ok.hd hc) it a hai its.toArray) e hne (by simp [hne, Ne.symm hae]) (by simp)
    refine G.goes i s _ E hlt ⟨⟨old, he⟩, hi, p⟩ fun v h' tk hY st' hk htk => ?_
    obtain ⟨T, t, x2, rfl, hT, hx2, hTt⟩ := hY
    obtain ⟨hen, hit', _⟩ := st'
    have ex2 : x2 = u := by
      have h1 : its.toArray[i]? = some x2 := hx2
      rw [List.getElem?_toArray, hu] at h1
      exact (Option.some.inj h1).symm
    subst ex2
    have new : ObjOk X.prog X.w (upd H T (.tup [.int (i : Nat), x])) h' T (.tup [.int (i : Nat), x]) :=
      ⟨by show 2 ≤ sizeLine; decide, [.int (0 + (i : Int)) t, x2], .cons ⟨t, by rw [Int.zero_add]⟩ (.cons ru .nil), hTt⟩
    have I1 : Inv X pins σ (upd H T (.tup [.int (i : Nat), x])) { s with heap := h', toks := tk } := I.turnedNew (ch := [e, it]) (fun c o hb q => hk c o hb q) hf hT new
    refine ⟨.ref T, _, I1, rfl, ⟨T, x, rfl, I.hok.fresh hT, rfl, fun l hl => by rw [I.tuple_inj hl hqx]; exact hx⟩, ⟨hen, hit', hne⟩, fun c hcm => ?_⟩
    have hlt2 : c < s.heap.objs.size := by
      have e' : c = e ∨ c = it := by simpa using hcm
      rcases e' with q | q
      · rw [q]; exact Heap.lt_size he
      · rw [q]; obtain ⟨_, e1, _⟩ := hi; exact Heap.lt_size e1
    rw [upd_ne (Nat.ne_of_lt (Nat.lt_of_lt_of_le hlt2 hT))]
    exact (hf c hcm).1
  done := by
    intro X hP hw hK hc i pins s σ H E I hf st hg
    subst hP hw hK
    obtain ⟨⟨old, he⟩, hi, hne⟩ := st
    obtain ⟨xs, hqx, hend⟩ := hg
    obtain ⟨its, rv, p, _⟩ := I.tuple hqx
    have hsz : its.toArray.size = i := by rw [List.size_toArray, ← rv.length, hend]
    have G := GoesN.enumFrom (elts := elts) (x1 := kk) (pos := tpos) 0 (Draws.tuple (prog := X.prog) (w := X.w) (A := X.A.in1) (I.ok.hd hc) it a hai its.toArray) e hne (by simp [hne, Ne.symm hae]) (by simp)
    refine thn (G.stops s (fun s' => Inv X pins σ H s') E (by rw [hsz]; exact ⟨⟨old, he⟩, hi, p⟩) fun h' tk hk htk => I.turnedL (ch := [e, it]) (fun c o hb q => hk c o hb q) hf) fun r s' hq => hq
  self := fun A i s Q E st h => let ⟨⟨_, he⟩, _⟩ := st; wpAny_pyIter_enum he h
set_option maxHeartbeats 1000000 in
theorem meets_enumerate_newT (l : Addr) (items : Array Value) :
    Meets (Builtin.«enumerate.__new__» ⟨[.type "enumerate", .ref l], []⟩) (fun _ R s => s.heap.IsTuple l items ∧
      R (.ok (.ret (.ref (s.heap.push { cls := .type "tuple_iterator", data := .fields #[.ref l, .int 0 0] }).objs.size)))
        { s with heap := (s.heap.push { cls := .type "tuple_iterator", data := .fields #[.ref l, .int 0 0] }).push { cls := .type "enumerate", data := .fields #[.none, .bool false, .ref s.heap.objs.size, rawInt 0, .none, .none] } }) :=
  .of_wp fun prog w A R s h => by
    obtain ⟨hp, g, d, tk, os⟩ := s; obtain ⟨hL, h⟩ := h
    have hsub := sub_enumerate
    wp_walk using wpAny_pyIter_tuple hL
    refine wpAny_stack_any fun st => wpAny_pure ?_
    split
    · rename_i c _ _ _ _ _
      cases (c == Value.type "enumerate")
      · wp_walk using wpAny_pyIter_tuple hL
        exact ⟨_, rfl, h⟩
      · wp_walk using wpAny_pyIter_tuple hL
        exact ⟨_, rfl, h⟩
    · wp_walk using wpAny_pyIter_tuple hL
      exact ⟨_, rfl, h⟩
theorem call_enumerate_tup {prog : Program} {w : World} {A : Around} {E : Value → Shared → Prop} {s : Shared} {l : Addr} {items : Array Value} {Q : Value → Shared → Prop} (hL : s.heap.IsTuple l items)
    (h : ∀ h', IsEnum h' (s.heap.objs.size + 1) s.heap.objs.size 0 .none → h'.IsTupleIter s.heap.objs.size l 0 → h'.objs.size = s.heap.objs.size + 2 →
      (∀ b o, s.heap.get? b = some o → h'.get? b = some o) → Q (.ref (s.heap.objs.size + 1)) { s with heap := h' }) :
    wpAny (model prog w) A (call (.type "enumerate") [.ref l]) Q E s := by
  refine callType_new F.called_enumerate (by decide) (F.typeCall_enumerate_1 _) (F.newCall_enumerate_1 _) (fun obj => F.args_object_init_2 obj _) F.entry_enumerate_new
    (meets_enumerate_newT l items) ⟨hL, ?_⟩
  have hz : (s.heap.push { cls := .type "tuple_iterator", data := .fields #[.ref l, .int 0 0] }).objs.size = s.heap.objs.size + 1 := Heap.size_push ..
  show _ ∧ _
  rw [hz]
  have he : IsEnum ((s.heap.push { cls := .type "tuple_iterator", data := .fields #[.ref l, .int 0 0] }).push
      { cls := .type "enumerate", data := .fields #[.none, .bool false, .ref s.heap.objs.size, rawInt 0, .none, .none] }) (s.heap.objs.size + 1) s.heap.objs.size 0 .none := by
    have := Heap.get?_push_size (s.heap.push { cls := .type "tuple_iterator", data := .fields #[.ref l, .int 0 0] })
      (o := { cls := .type "enumerate", data := .fields #[.none, .bool false, .ref s.heap.objs.size, rawInt 0, .none, .none] }) rfl
    rw [hz] at this; exact this
  refine ⟨⟨_, he, rfl⟩, h _ he ⟨_, Heap.get?_push_of_some _ (Heap.get?_push_size _ rfl), rfl, rfl⟩ (by rw [Heap.size_push, hz]) fun b o x => Heap.get?_push_of_some _ (Heap.get?_push_of_some _ x)⟩
theorem ei_enumT {elts : List Expr} {kk0 : Nat} {tpos : Pos} (c : Cz k X) (h : Ev X Γ μ a (.dat (.tuple ds)) μ1) (hg : Gl X "enumerate" := by rfl) (hs : starEach [a] X.env = [(false, eval a X.env)] := by rfl) : EvI X Γ μ (.Tuple elts kk0 tpos) (.Call (.Name "enumerate" p) [a] [] pos) (enumD ds) μ1 := by
  refine ⟨fun pins s σ H R I q => ?_⟩
  obtain ⟨F, as, cl, sl, kk⟩ := q
  refine Call_ (ld_blt I hg c.b_enumerate boot_enumerate (PyProof.Rows.callWith_type1 (thn ((ea_cons h ea_nil hs).run pos pins s σ H (fun vs H1 => ∃ F1 a ws, vs = [.ref a] ∧ Step as F H F1 H1 ∧ Clz X.K F1 H1 as μ1 ∧ SqT X.K F1 a ws ∧ DpAll X.K F1 ws ds) I
    ⟨F, as, cl, sl, fun vs F1 H1 st c1 hv => ?_⟩) fun us s1 ⟨vs, H1, I1, r1, q1⟩ => ?_) hs rfl))
  · obtain ⟨v, rfl, h1⟩ := hv.one
    cases h1 with
    | tup h1 h2 => exact ⟨F1, _, _, rfl, st, c1, h1, h2⟩
  · obtain ⟨F1, a, ws, rfl, st, c1, h1, h2⟩ := q1
    rw [Vals.ref1 r1]
    obtain ⟨its, rv, p', hz⟩ := I1.tuple (c1.sub.st h1)
    have alt : a < s1.heap.objs.size := by
      obtain ⟨o, ho, _⟩ := id p'
      exact Heap.lt_size ho
    refine call_enumerate_tup (show s1.heap.IsTuple a its.toArray from p') fun h' he hit hsz hk => wpAny_pyIter_enum he ?_
    have I2 : Inv X pins σ H1 { s1 with heap := h' } := I1.kept (t' := s1.toks) hk
    refine ⟨s1.heap.objs.size + 1, [s1.heap.objs.size + 1, s1.heap.objs.size], _, _, H1, rfl, I2, turn_enumT a (s1.heap.objs.size + 1) s1.heap.objs.size (Nat.ne_of_lt (Nat.lt_succ_of_lt alt)) (Nat.ne_of_lt alt), ⟨⟨.none, by simpa using he⟩, hit, Nat.succ_ne_self _⟩, fun b hb => ?_, ?_⟩
    · have e' : b = s1.heap.objs.size + 1 ∨ b = s1.heap.objs.size := by simpa using hb
      have hle : s1.heap.objs.size ≤ b := by
        rcases e' with z | z
        · rw [z]; exact Nat.le_add_right _ _
        · rw [z]; exact Nat.le_refl _
      exact I1.fpOk hle (I1.hok.fresh hle)
    · have hl := h2.length
      refine kk _ F1 H1 st c1 (by rw [enumD_len, ← hl]; exact hz) ⟨fun i H hi ex => ?_, fun H ex => ?_, fun i H x H' hi ex y => ?_⟩
      · rw [enumD_len, ← hl] at hi
        exact ⟨ws, ws[i], ex.st h1, by simp [hi]⟩
      · rw [enumD_len, ← hl]
        exact ⟨ws, ex.st h1, rfl⟩
      · obtain ⟨T, x0, rfl, e1, rfl, e4⟩ := y
        obtain ⟨d, g1, g2⟩ := h2.get (e4 ws (ex.st h1))
        exact ⟨_, enumD_get g1, fun F0 x0 x1 => new_tup x1 e1 (.cons (Dp.int _) (.cons (x0.dp g2) .nil))⟩
end
end DL
end
section
set_option autoImplicit false
/-! D-layer 5: zip; targets; list comprehensions. -/
namespace DL
open PySem PySem.Spec PyProof.Rows L2
open PySem.W (Datum Tup DatumOrd Holds HoldAll T3)

/-- what is read is not too long -/
def Szs (K : PySem.W.Frag) (H : Hp) : Prop := (∀ a xs, SqT K H a xs → xs.length ≤ sizeLine) ∧ ∀ a xs, SqL K H a xs → xs.length ≤ sizeLine
section
variable {X : Cx} {k : Nat} {Γ : List Sl} {μ μ1 μ2 μ3 μ4 : Mu} {e a b tg : Expr} {es : List Expr} {r ra rb rc : Sl} {rs : List Sl} {pos p : Pos} {i j : Int} {ds es1 : List PyData}
theorem szs_of {pins : List (Addr × Obj)} {σ : L2.St} {H : Hp} {s : Shared} (I : Inv X pins σ H s) : Szs X.K H := ⟨fun a xs h => (I.tuple h).choose_spec.2.2, fun a xs h => (I.list h).choose_spec.2.2⟩
theorem pa_sz {t : TA} (h : PA X es t) : PA X es (fun σ H Q => t σ H fun vs H1 => Szs X.K H1 → Q vs H1) := ⟨fun pos pins s σ H Q I q =>
  thn (h.run pos pins s σ H _ I q) fun us s1 ⟨vs, H1, I1, r1, q1⟩ => ⟨vs, H1, I1, r1, q1 (szs_of I1)⟩⟩
def zipD (ds es : List PyData) : List PyData := (ds.zip es).map fun q => .tuple [q.1, q.2]
theorem zipD_len (ds es : List PyData) : (zipD ds es).length = min ds.length es.length := by unfold zipD; simp
theorem zipD_get {ds es : List PyData} {i : Nat} {d e : PyData} (h : ds[i]? = some d) (h2 : es[i]? = some e) : (zipD ds es)[i]? = some (.tuple [d, e]) := by
  unfold zipD
  rw [List.getElem?_map, List.getElem?_zip_eq_some (z := (d, e)) |>.mpr ⟨h, h2⟩]
  rfl
/-- zip(tuple, tuple) -/
theorem ei_zipT {elts : List Expr} {kk0 : Nat} {tpos : Pos} (c : Cz k X) (ha : Ev X Γ μ a (.dat (.tuple ds)) μ1) (hb : Ev X Γ μ1 b (.dat (.tuple es1)) μ2) (hg : Gl X "zip" := by rfl)
    (hs : starEach [a, b] X.env = (false, eval a X.env) :: starEach [b] X.env := by rfl) (hs2 : starEach [b] X.env = (false, eval b X.env) :: starEach [] X.env := by rfl) (hpl : (backTo pos (starEach [b] X.env)).any (·.1) = false := by rfl) :
    EvI X Γ μ (.Tuple elts kk0 tpos) (.Call (.Name "zip" p) [a, b] [] pos) (zipD ds es1) μ2 :=
  pi_le (RZ.pi_zipA hg c.b_zip (pa_sz (ea_cons ha (ea_cons hb ea_nil hs2) hs)) hs hpl) fun σ H R q => by
    obtain ⟨F, as, cl, sl, kk⟩ := q
    refine ⟨F, as, cl, sl, fun vs F1 H1 st c1 hv sz => ?_⟩
    obtain ⟨v, w, rfl, hv1, hv2⟩ := hv.two
    obtain ⟨a1, ws, rfl, h1, h2⟩ := hv1.seqT c1 rfl
    obtain ⟨a2, us, rfl, h3, h4⟩ := hv2.seqT c1 rfl
    have l1 := h2.length
    have l2 := h4.length
    have z1 := sz.1 a1 ws (c1.sub.st h1)
    refine ⟨a1, a2, ws, us, rfl, .inr ⟨c1.sub.st h1, c1.sub.st h3, ?_⟩⟩
    refine kk _ F1 H1 st c1 (by rw [zipD_len]; omega) ⟨fun i H hi ex => ?_, fun H ex => ?_, fun i H x H' hi ex y => ?_⟩
    · rw [zipD_len] at hi
      have i1 : i < ws.length := by omega
      have i2 : i < us.length := by omega
      exact ⟨ws, us, ws[i], us[i], ex.st h1, ex.st h3, by simp [i1], by simp [i2]⟩
    · rw [zipD_len]
      exact ⟨ws, us, ex.st h1, ex.st h3, by omega⟩
    · rw [zipD_len] at hi
      obtain ⟨T, x0, y0, rfl, e1, rfl, e3, e4⟩ := y
      obtain ⟨d, g1, g2⟩ := h2.get (e3 ws (ex.st h1))
      obtain ⟨d', g3, g4⟩ := h4.get (e4 us (ex.st h3))
      exact ⟨_, zipD_get g1 g3, fun F0 x0 x1 => new_tup x1 e1 (.cons (x0.dp g2) (.cons (x0.dp g4) .nil))⟩
/-- zip(list, list) -/
theorem ei_zipL {elts : List Expr} {kk0 : Nat} {tpos : Pos} (c : Cz k X) (ha : Ev X Γ μ a (.dat (.list ds)) μ1) (hb : Ev X Γ μ1 b (.dat (.list es1)) μ2) (hg : Gl X "zip" := by rfl)
    (hs : starEach [a, b] X.env = (false, eval a X.env) :: starEach [b] X.env := by rfl) (hs2 : starEach [b] X.env = (false, eval b X.env) :: starEach [] X.env := by rfl) (hpl : (backTo pos (starEach [b] X.env)).any (·.1) = false := by rfl) :
    EvI X Γ μ (.Tuple elts kk0 tpos) (.Call (.Name "zip" p) [a, b] [] pos) (zipD ds es1) μ2 :=
  pi_le (RZ.pi_zipA hg c.b_zip (pa_sz (ea_cons ha (ea_cons hb ea_nil hs2) hs)) hs hpl) fun σ H R q => by
    obtain ⟨F, as, cl, sl, kk⟩ := q
    refine ⟨F, as, cl, sl, fun vs F1 H1 st c1 hv sz => ?_⟩
    obtain ⟨v, w, rfl, hv1, hv2⟩ := hv.two
    cases hv1 with
    | @lst a1 ws _ h1 h2 =>
      cases hv2 with
      | @lst a2 us _ h3 h4 =>
        have l1 := h2.length
        have l2 := h4.length
        have z1 := sz.2 a1 ws (c1.sub.sl h1)
        refine ⟨a1, a2, ws, us, rfl, .inl ⟨c1.sub.sl h1, c1.sub.sl h3, ?_⟩⟩
        refine kk _ F1 H1 st c1 (by rw [zipD_len]; omega) ⟨fun i H hi ex => ?_, fun H ex => ?_, fun i H x H' hi ex y => ?_⟩
        · rw [zipD_len] at hi
          have i1 : i < ws.length := by omega
          have i2 : i < us.length := by omega
          exact ⟨ws, us, ws[i], us[i], ex.sl h1, ex.sl h3, by simp [i1], by simp [i2]⟩
        · rw [zipD_len]
          exact ⟨ws, us, ex.sl h1, ex.sl h3, by omega⟩
        · rw [zipD_len] at hi
          obtain ⟨T, x0, y0, rfl, e1, rfl, e3, e4⟩ := y
          obtain ⟨d, g1, g2⟩ := h2.get (e3 ws (ex.sl h1))
          obtain ⟨d', g3, g4⟩ := h4.get (e4 us (ex.sl h3))
          exact ⟨_, zipD_get g1 g3, fun F0 x0 x1 => new_tup x1 e1 (.cons (x0.dp g2) (.cons (x0.dp g4) .nil))⟩

/-! ### zip of three tuples -/
def Itz3 (K : PySem.W.Frag) (a b c : Addr) : It :=
  ⟨fun i H => ∃ (xs ys zs : List V) (x y z : V), SqT K H a xs ∧ SqT K H b ys ∧ SqT K H c zs ∧ xs[i]? = some x ∧ ys[i]? = some y ∧ zs[i]? = some z,
    fun i H v H' => ∃ T x y z, v = .ref T ∧ H T = none ∧ H' = upd H T (.tup [x, y, z]) ∧ (∀ xs, SqT K H a xs → xs[i]? = some x) ∧ (∀ ys, SqT K H b ys → ys[i]? = some y) ∧ ∀ zs, SqT K H c zs → zs[i]? = some z,
    fun i H => ∃ xs ys zs : List V, SqT K H a xs ∧ SqT K H b ys ∧ SqT K H c zs ∧ i = min (min xs.length ys.length) zs.length⟩
theorem turn_zip3 {P : Program} {w : World} {K : PySem.W.Frag} {elts : List Expr} {kk : Nat} {tpos : Pos} {a b c z TI TO i1 i2 i3 : Addr} (D : ZipSep3 z TI TO i1 i2 i3 [i1, a] [i2, b] [i3, c]) (ha : a ≠ i1) (hb : b ≠ i2) (hc : c ≠ i3) :
    Turn P w K (.Tuple elts kk tpos) (Itz3 K a b c) [z, TI, TO, i1, i2, i3] z
      (fun i h => IsZip h z TI TO .none ∧ IsTupOf3 h TI (.ref i1) (.ref i2) (.ref i3) ∧ (∃ a1 a2 a3, IsTupOf3 h TO a1 a2 a3) ∧ h.IsTupleIter i1 a i ∧ h.IsTupleIter i2 b i ∧ h.IsTupleIter i3 c i) where
  mem := by simp
  obj := fun i h st q hq => by
    obtain ⟨hz, hTI, ⟨x, y, w, hTO⟩, ⟨o1, e1, _, d1⟩, ⟨o2, e2, _, d2⟩, ⟨o3, e3, _, d3⟩⟩ := st
    have e' : q = z ∨ q = TI ∨ q = TO ∨ q = i1 ∨ q = i2 ∨ q = i3 := by simpa using hq
    rcases e' with g | g | g | g | g | g
    · rw [g]; exact ⟨_, hz, fun v q => nomatch q⟩
    · rw [g]; exact ⟨_, hTI, fun v q => nomatch q⟩
    · rw [g]; exact ⟨_, hTO, fun v q => nomatch q⟩
    · rw [g]; exact ⟨o1, e1, fun v q => by rw [d1] at q; cases q⟩
    · rw [g]; exact ⟨o2, e2, fun v q => by rw [d2] at q; cases q⟩
    · rw [g]; exact ⟨o3, e3, fun v q => by rw [d3] at q; cases q⟩
  keep := fun i h h' st k => by
    obtain ⟨hz, hTI, ⟨x, y, w, hTO⟩, h1, h2, h3⟩ := st
    exact ⟨k z (by simp) _ hz, k TI (by simp) _ hTI, ⟨x, y, w, k TO (by simp) _ hTO⟩, h1.at fun o q => k i1 (by simp) o q, h2.at fun o q => k i2 (by simp) o q, h3.at fun o q => k i3 (by simp) o q⟩
  item := by
    intro X hP hw hK hcal i pins s σ H E I hf st hg
    subst hP hw hK
    obtain ⟨hz, hTI, hTO, h1, h2, h3⟩ := st
    obtain ⟨xs, ys, zs, x, y, w, hqx, hqy, hqz, hx, hy, hw⟩ := hg
    obtain ⟨its1, rv1, p1, _⟩ := I.tuple hqx
    obtain ⟨its2, rv2, p2, _⟩ := I.tuple hqy
    obtain ⟨its3, rv3, p3, _⟩ := I.tuple hqz
    obtain ⟨u1, hu1, ru1⟩ := rv1.get hx
    obtain ⟨u2, hu2, ru2⟩ := rv2.get hy
    obtain ⟨u3, hu3, ru3⟩ := rv3.get hw
    have l1 : i < its1.toArray.size := by rw [List.size_toArray]; exact (List.getElem?_eq_some_iff.mp hu1).1
    have l2 : i < its2.toArray.size := by rw [List.size_toArray]; exact (List.getElem?_eq_some_iff.mp hu2).1
    have l3 : i < its3.toArray.size := by rw [List.size_toArray]; exact (List.getElem?_eq_some_iff.mp hu3).1
    have G := GoesN.zip3 (elts := elts) (x1 := kk) (pos := tpos) D (Draws.tuple (prog := X.prog) (w := X.w) (A := X.A.in1) (I.ok.hd hcal) i1 a ha its1.toArray) (Draws.tuple (prog := X.prog) (w := X.w) (A := X.A.in1) (I.ok.hd hcal) i2 b hb its2.toArray) (Draws.tuple (prog := X.prog) (w := X.w) (A := X.A.in1) (I.ok.hd hcal) i3 c hc its3.toArray)
    refine G.goes i s _ E (by omega) ⟨hz, hTI, hTO, ⟨h1, p1⟩, ⟨h2, p2⟩, ⟨h3, p3⟩⟩ fun v h' tk hY st' hk htk => ?_
    obtain ⟨T, y1, y2, y3, rfl, hT, hx1, hx2, hx3, hTt⟩ := hY
    obtain ⟨hz', hTI', hTO', ⟨h1', _⟩, ⟨h2', _⟩, ⟨h3', _⟩⟩ := st'
    have e1 : y1 = u1 := by
      have h1 : its1.toArray[i]? = some y1 := hx1
      rw [List.getElem?_toArray, hu1] at h1
      exact (Option.some.inj h1).symm
    have e2 : y2 = u2 := by
      have h1 : its2.toArray[i]? = some y2 := hx2
      rw [List.getElem?_toArray, hu2] at h1
      exact (Option.some.inj h1).symm
    have e3 : y3 = u3 := by
      have h1 : its3.toArray[i]? = some y3 := hx3
      rw [List.getElem?_toArray, hu3] at h1
      exact (Option.some.inj h1).symm
    subst e1 e2 e3
    have new : ObjOk X.prog X.w (upd H T (.tup [x, y, w])) h' T (.tup [x, y, w]) :=
      ⟨by show 3 ≤ sizeLine; decide, [y1, y2, y3], .cons ru1 (.cons ru2 (.cons ru3 .nil)), hTt⟩
    have sub : ∀ q, q ∈ [z, TO, i1, i2, i3] → q ∈ [z, TI, TO, i1, i2, i3] := fun q hq => by
      simp only [List.mem_cons, List.not_mem_nil, or_false] at hq ⊢
      rcases hq with g | g | g | g | g <;> simp [g]
    have I1 : Inv X pins σ (upd H T (.tup [x, y, w])) { s with heap := h', toks := tk } := I.turnedNew (ch := [z, TO, i1, i2, i3]) (fun c o hb q => hk c o hb q) (fun q hq => hf q (sub q hq)) hT new
    refine ⟨.ref T, _, I1, rfl, ⟨T, x, y, w, rfl, I.hok.fresh hT, rfl, fun l hl => by rw [I.tuple_inj hl hqx]; exact hx, fun l hl => by rw [I.tuple_inj hl hqy]; exact hy, fun l hl => by rw [I.tuple_inj hl hqz]; exact hw⟩, ⟨hz', hTI', hTO', h1', h2', h3'⟩, fun q hcm => ?_⟩
    have hlt2 : q < s.heap.objs.size := by
      have e' : q = z ∨ q = TI ∨ q = TO ∨ q = i1 ∨ q = i2 ∨ q = i3 := by simpa using hcm
      obtain ⟨_, _, _, hTO⟩ := hTO
      rcases e' with g | g | g | g | g | g
      · rw [g]; exact Heap.lt_size hz
      · rw [g]; exact Heap.lt_size hTI
      · rw [g]; exact Heap.lt_size hTO
      · rw [g]; obtain ⟨_, e1, _⟩ := h1; exact Heap.lt_size e1
      · rw [g]; obtain ⟨_, e1, _⟩ := h2; exact Heap.lt_size e1
      · rw [g]; obtain ⟨_, e1, _⟩ := h3; exact Heap.lt_size e1
    rw [upd_ne (Nat.ne_of_lt (Nat.lt_of_lt_of_le hlt2 hT))]
    exact (hf q hcm).1
  done := by
    intro X hP hw hK hcal i pins s σ H E I hf st hg
    subst hP hw hK
    obtain ⟨hz, hTI, hTO, h1, h2, h3⟩ := st
    obtain ⟨xs, ys, zs, hqx, hqy, hqz, hend⟩ := hg
    obtain ⟨its1, rv1, p1, _⟩ := I.tuple hqx
    obtain ⟨its2, rv2, p2, _⟩ := I.tuple hqy
    obtain ⟨its3, rv3, p3, _⟩ := I.tuple hqz
    have hsz : min (min its1.toArray.size its2.toArray.size) its3.toArray.size = i := by
      rw [List.size_toArray, List.size_toArray, List.size_toArray, ← rv1.length, ← rv2.length, ← rv3.length, hend]
    have G := GoesN.zip3 (elts := elts) (x1 := kk) (pos := tpos) D (Draws.tuple (prog := X.prog) (w := X.w) (A := X.A.in1) (I.ok.hd hcal) i1 a ha its1.toArray) (Draws.tuple (prog := X.prog) (w := X.w) (A := X.A.in1) (I.ok.hd hcal) i2 b hb its2.toArray) (Draws.tuple (prog := X.prog) (w := X.w) (A := X.A.in1) (I.ok.hd hcal) i3 c hc its3.toArray)
    have sub : ∀ q, q ∈ [z, TO, i1, i2, i3] → q ∈ [z, TI, TO, i1, i2, i3] := fun q hq => by
      simp only [List.mem_cons, List.not_mem_nil, or_false] at hq ⊢
      rcases hq with g | g | g | g | g <;> simp [g]
    refine thn (G.stops s (fun s' => Inv X pins σ H s') E (by rw [hsz]; exact ⟨hz, hTI, hTO, ⟨h1, p1⟩, ⟨h2, p2⟩, ⟨h3, p3⟩⟩) fun h' tk hk htk => I.turnedL (ch := [z, TO, i1, i2, i3]) (fun c o hb q => hk c o hb q) fun q hq => hf q (sub q hq)) fun r s' hq => hq
  self := fun A i s Q E st h => wpAny_pyIter_zip st.1 h
def zip3D (ds es fs : List PyData) : List PyData := ((ds.zip es).zip fs).map fun q => .tuple [q.1.1, q.1.2, q.2]
theorem zip3D_len (ds es fs : List PyData) : (zip3D ds es fs).length = min (min ds.length es.length) fs.length := by unfold zip3D; simp
theorem zip3D_get {ds es fs : List PyData} {i : Nat} {d e f : PyData} (h : ds[i]? = some d) (h2 : es[i]? = some e) (h3 : fs[i]? = some f) : (zip3D ds es fs)[i]? = some (.tuple [d, e, f]) := by
  unfold zip3D
  rw [List.getElem?_map, List.getElem?_zip_eq_some (z := ((d, e), f)) |>.mpr ⟨List.getElem?_zip_eq_some (z := (d, e)) |>.mpr ⟨h, h2⟩, h3⟩]
  rfl
theorem VrA.three {F H : Hp} {as : List Addr} {vs : List V} (h : VrA X.K F H as vs [ra, rb, rc]) : ∃ u v w, vs = [u, v, w] ∧ Vr X.K F H as u ra ∧ Vr X.K F H as v rb ∧ Vr X.K F H as w rc := by
  cases h with
  | cons h t =>
    obtain ⟨v, w, rfl, h2, h3⟩ := VrA.two t
    exact ⟨_, v, w, rfl, h, h2, h3⟩
theorem ei_zip3 {elts : List Expr} {kk0 : Nat} {tpos : Pos} {d : Expr} {fs1 : List PyData} (c : Cz k X) (ha : Ev X Γ μ a (.dat (.tuple ds)) μ1) (hb : Ev X Γ μ1 b (.dat (.tuple es1)) μ2) (hd : Ev X Γ μ2 d (.dat (.tuple fs1)) μ3) (hg : Gl X "zip" := by rfl)
    (hs : starEach [a, b, d] X.env = (false, eval a X.env) :: starEach [b, d] X.env := by rfl) (hs2 : starEach [b, d] X.env = (false, eval b X.env) :: starEach [d] X.env := by rfl) (hs3 : starEach [d] X.env = (false, eval d X.env) :: starEach [] X.env := by rfl) (hpl : (backTo pos (starEach [b, d] X.env)).any (·.1) = false := by rfl) :
    EvI X Γ μ (.Tuple elts kk0 tpos) (.Call (.Name "zip" p) [a, b, d] [] pos) (zip3D ds es1 fs1) μ3 := by
  refine ⟨fun pins s σ H R I q => ?_⟩
  obtain ⟨F, as, cl, sl, kk⟩ := q
  refine Call_ (ld_blt I hg c.b_zip PyProof.Rows.boot_zip (PyProof.Rows.callWith_type1 (thn ((ea_cons ha (ea_cons hb (ea_cons hd ea_nil hs3) hs2) hs).run pos pins s σ H (fun vs H1 => ∃ F1 a1 a2 a3 w1 w2 w3, vs = [.ref a1, .ref a2, .ref a3] ∧ Step as F H F1 H1 ∧ Clz X.K F1 H1 as μ3 ∧
      (SqT X.K F1 a1 w1 ∧ DpAll X.K F1 w1 ds) ∧ (SqT X.K F1 a2 w2 ∧ DpAll X.K F1 w2 es1) ∧ (SqT X.K F1 a3 w3 ∧ DpAll X.K F1 w3 fs1)) I
    ⟨F, as, cl, sl, fun vs F1 H1 st c1 hv => ?_⟩) fun us s1 ⟨vs, H1, I1, r1, q1⟩ => ?_) hs hpl))
  · obtain ⟨u, v, w, rfl, h1, h2, h3⟩ := hv.three
    obtain ⟨a1, w1, rfl, g1, g2⟩ := h1.seqT c1 rfl
    obtain ⟨a2, w2, rfl, g3, g4⟩ := h2.seqT c1 rfl
    obtain ⟨a3, w3, rfl, g5, g6⟩ := h3.seqT c1 rfl
    exact ⟨F1, a1, a2, a3, w1, w2, w3, rfl, st, c1, ⟨g1, g2⟩, ⟨g3, g4⟩, g5, g6⟩
  · obtain ⟨F1, a1, a2, a3, w1, w2, w3, rfl, st, c1, ⟨g1, g2⟩, ⟨g3, g4⟩, g5, g6⟩ := q1
    cases r1 with
    | cons r rr =>
      cases rr with
      | cons r' rr =>
        cases rr with
        | cons r'' rr =>
          cases rr
          cases r
          cases r'
          cases r''
          obtain ⟨its1, rv1, p1, z1⟩ := I1.tuple (c1.sub.st g1)
          obtain ⟨its2, rv2, p2, z2⟩ := I1.tuple (c1.sub.st g3)
          obtain ⟨its3, rv3, p3, z3⟩ := I1.tuple (c1.sub.st g5)
          have l1 : a1 < s1.heap.objs.size := by obtain ⟨o, ho, _⟩ := id p1; exact Heap.lt_size ho
          have l2 : a2 < s1.heap.objs.size := by obtain ⟨o, ho, _⟩ := id p2; exact Heap.lt_size ho
          have l3 : a3 < s1.heap.objs.size := by obtain ⟨o, ho, _⟩ := id p3; exact Heap.lt_size ho
          refine zip_begins3 (begins_tuple a1 its1.toArray) (begins_tuple a2 its2.toArray) (begins_tuple a3 its3.toArray) p1 p2 p3 fun h' hz hTI hTO e1 e2 e3 hsz hk => wpAny_pyIter_zip hz ?_
          have I2 : Inv X pins σ H1 { s1 with heap := h' } := I1.kept (t' := s1.toks) hk
          have D := zip_sep3 (N := s1.heap.objs.size) (fp1 := [a1]) (fp2 := [a2]) (fp3 := [a3]) (fun b hb => by rw [List.mem_singleton.mp hb]; exact l1) (fun b hb => by rw [List.mem_singleton.mp hb]; exact l2) (fun b hb => by rw [List.mem_singleton.mp hb]; exact l3)
          refine ⟨s1.heap.objs.size + 5, [s1.heap.objs.size + 5, s1.heap.objs.size + 3, s1.heap.objs.size + 4, s1.heap.objs.size, s1.heap.objs.size + 1, s1.heap.objs.size + 2], _, _, H1, rfl, I2, turn_zip3 (a := a1) (b := a2) (c := a3) D (Nat.ne_of_lt l1) (Nat.ne_of_lt (Nat.lt_succ_of_lt l2)) (Nat.ne_of_lt (Nat.lt_succ_of_lt (Nat.lt_succ_of_lt l3))),
            ⟨hz, hTI, ⟨_, _, _, hTO⟩, ⟨_, e1, rfl, rfl⟩, ⟨_, e2, rfl, rfl⟩, ⟨_, e3, rfl, rfl⟩⟩, fun b hb => ?_, ?_⟩
          · have e' : b = s1.heap.objs.size + 5 ∨ b = s1.heap.objs.size + 3 ∨ b = s1.heap.objs.size + 4 ∨ b = s1.heap.objs.size ∨ b = s1.heap.objs.size + 1 ∨ b = s1.heap.objs.size + 2 := by simpa using hb
            have hle : s1.heap.objs.size ≤ b := by
              rcases e' with z | z | z | z | z | z
              · rw [z]; exact Nat.le_add_right _ _
              · rw [z]; exact Nat.le_add_right _ _
              · rw [z]; exact Nat.le_add_right _ _
              · rw [z]; exact Nat.le_refl _
              · rw [z]; exact Nat.le_add_right _ _
              · rw [z]; exact Nat.le_add_right _ _
            exact I1.fpOk hle (I1.hok.fresh hle)
          · have n1 := g2.length
            have n2 := g4.length
            have n3 := g6.length
            refine kk _ F1 H1 st c1 (by rw [zip3D_len]; omega) ⟨fun i H hi ex => ?_, fun H ex => ?_, fun i H x H' hi ex y => ?_⟩
            · rw [zip3D_len] at hi
              have i1 : i < w1.length := by omega
              have i2 : i < w2.length := by omega
              have i3 : i < w3.length := by omega
              exact ⟨w1, w2, w3, w1[i], w2[i], w3[i], ex.st g1, ex.st g3, ex.st g5, by simp [i1], by simp [i2], by simp [i3]⟩
            · rw [zip3D_len, ← n1, ← n2, ← n3]
              exact ⟨w1, w2, w3, ex.st g1, ex.st g3, ex.st g5, rfl⟩
            · obtain ⟨T, x0, y0, z0, rfl, f1, rfl, f3, f4, f5⟩ := y
              obtain ⟨d1, q1, q2⟩ := g2.get (f3 w1 (ex.st g1))
              obtain ⟨d2, q3, q4⟩ := g4.get (f4 w2 (ex.st g3))
              obtain ⟨d3, q5, q6⟩ := g6.get (f5 w3 (ex.st g5))
              exact ⟨_, zip3D_get q1 q3 q5, fun F0 x0 x1 => new_tup x1 f1 (.cons (x0.dp q2) (.cons (x0.dp q4) (.cons (x0.dp q6) .nil)))⟩
/-! typed -/
variable {α β γ : Type} [DecidableEq α] [Datum α] [DecidableEq β] [Datum β] [DecidableEq γ] [Datum γ]
theorem zipD_map (xs : List α) (ys : List β) : zipD (xs.map Datum.toD) (ys.map Datum.toD) = (xs.zip ys).map Datum.toD := by
  unfold zipD
  rw [List.zip_map, List.map_map, List.map_congr_left]
  intro q _
  rfl
def zip3 (xs : List α) (ys : List β) (zs : List γ) : List (T3 α β γ) := ((xs.zip ys).zip zs).map fun q => ⟨q.1.1, q.1.2, q.2⟩
theorem zip3D_map (xs : List α) (ys : List β) (zs : List γ) : zip3D (xs.map Datum.toD) (ys.map Datum.toD) (zs.map Datum.toD) = (zip3 xs ys zs).map Datum.toD := by
  unfold zip3D zip3
  rw [List.zip_map, List.zip_map, List.map_map, List.map_map, List.map_congr_left]
  intro q _
  rfl
def enumL (xs : List α) : List (Int × α) := xs.zipIdx.map fun q => ((q.2 : Int), q.1)
theorem enumD_map (xs : List α) : enumD (xs.map Datum.toD) = (enumL xs).map Datum.toD := by
  unfold enumD enumL
  rw [List.zipIdx_map, List.map_map, List.map_map, List.map_congr_left]
  intro q _
  rfl
end
end DL
end
section
set_option autoImplicit false
/-! D-layer 6: targets; list comprehensions. -/
namespace DL
open PySem PySem.Spec PyProof.Rows L2
open PySem.W (Datum Tup DatumOrd Holds HoldAll T3)

/-! ### targets -/
/-- the target takes d: the slots outside vs stay, then they hold Γ' -/
def tDG (K : PySem.W.Frag) (vs : List Nat) (Γ : List Sl) (d : PyData) (Γ' : List Sl) : TG := fun v σ H Q => ∃ F as μ, Clz K F H as μ ∧ Sls K F H as σ Γ ∧ Dp K F v d ∧ ∀ σ', wipe σ' vs = wipe σ vs → Sls K F H as σ' Γ' → Q σ' H
def tDGs (K : PySem.W.Frag) (vs : List Nat) (Γ : List Sl) (ds : List PyData) (Γ' : List Sl) : TGs := fun xs σ H Q => ∃ F as μ, Clz K F H as μ ∧ Sls K F H as σ Γ ∧ DpAll K F xs ds ∧ ∀ σ', wipe σ' vs = wipe σ vs → Sls K F H as σ' Γ' → Q σ' H
abbrev EvG (X : Cx) (vs : List Nat) (Γ : List Sl) (tg : Expr) (d : PyData) (Γ' : List Sl) : Prop := PG X tg (tDG X.K vs Γ d Γ')
abbrev EvGs (X : Cx) (vs : List Nat) (Γ : List Sl) (tgs : List Expr) (ds : List PyData) (Γ' : List Sl) : Prop := PGs X tgs (tDGs X.K vs Γ ds Γ')
section
variable {X : Cx} {k : Nat} {Γ Γ1 Γ2 : List Sl} {μ μ1 μ2 μ3 : Mu} {e a b tg : Expr} {es tgs : List Expr} {r ra rb rc : Sl} {rs : List Sl} {pos p : Pos} {ds : List PyData} {d : PyData} {vs : List Nat}
theorem wipe_set {σ : L2.St} {v : Option V} {i : Nat} : ∀ {vs : List Nat}, i ∈ vs → wipe (σ.set i v) vs = wipe σ vs
  | w :: ws, h => by
    unfold wipe
    by_cases hi : i ∈ ws
    · rw [wipe_set hi]
    · have e : i = w := (List.mem_cons.mp h).resolve_right hi
      subst e
      have out : ∀ (ws : List Nat), i ∉ ws → wipe (σ.set i v) ws = (wipe σ ws).set i v := fun ws => by
        induction ws with
        | nil => intro _; rfl
        | cons y ys ih =>
          intro hn
          have n1 : i ≠ y := fun z => hn (z ▸ List.mem_cons_self)
          have n2 : i ∉ ys := fun z => hn (List.mem_cons_of_mem _ z)
          show (wipe (σ.set i v) ys).set y none = ((wipe σ ys).set y none).set i v
          rw [ih n2, List.set_comm _ _ n1]
      rw [out ws hi, List.set_set]
theorem Sls.put {K : PySem.W.Frag} {F H : Hp} {as : List Addr} {σ : L2.St} {v : V} {i : Nat} (s : Sls K F H as σ Γ) (hi : i < σ.length) (h : Vr K F H as v r) : Sls K F H as (σ.set i (some v)) (Γ.set i r) := fun j q e hs => by
  by_cases hj : i = j
  · subst hj
    rw [List.getElem?_set_self' ] at e
    cases g : Γ[i]? with
    | none => rw [g] at e; cases e
    | some z =>
      rw [g] at e
      cases e
      exact ⟨v, by rw [List.getElem?_set_self hi], h⟩
  · rw [List.getElem?_set_ne hj] at e ⊢
    exact s j q e hs
theorem Sls.monoX {K : PySem.W.Frag} {F H F' H' : Hp} {as : List Addr} {σ : L2.St} (s : Sls K F H as σ Γ) (ex : Ex F F') : Sls K F' H' as σ Γ := fun i r e q => by
  obtain ⟨v, h1, h2⟩ := s i r e q
  refine ⟨v, h1, ?_⟩
  cases r with
  | un => trivial
  | dat d => exact ex.dp h2
  | cel k => exact h2
  | fre xs => cases q
  | dik kvs => obtain ⟨a, g1, g2⟩ := h2; exact ⟨a, g1, ex a _ g2⟩
  | dit P w kvs => obtain ⟨a, g1, g2⟩ := h2; exact ⟨a, g1, g2.ex ex⟩
theorem eg_name (c : Cz k X) (i : Nat) {x : Str} (hN : X.N[i]? = some x := by rfl) (hx : Loc X.env.scope x := by first | exact Or.inl rfl | exact Or.inr rfl) (hm : i ∈ vs := by decide) (hf : X.fn x = true ∨ X.env.scope.names.lookup x = some .local := by first | exact .inl rfl | exact .inr rfl) :
    EvG X vs Γ (.Name x pos) d (Γ.set i (.dat d)) := ⟨fun pins s σ H v u Q I r q => by
  obtain ⟨F, as, μ, cl, sl, hd, kk⟩ := q
  refine (pg_name c.nd hN hx hf).run pins s σ H v u Q I r ?_
  have hi : i < σ.length := by rw [I.len]; exact (List.getElem?_eq_some_iff.mp hN).1
  exact kk _ (wipe_set hm) (sl.put hi (show Vr X.K F H as v (.dat d) from hd))⟩
theorem pg_le {t t' : TG} (h : PG X tg t) (le : ∀ v σ H Q, t' v σ H Q → t v σ H Q) : PG X tg t' := ⟨fun pins s σ H v u Q I r q => h.run pins s σ H v u Q I r (le _ _ _ _ q)⟩
theorem pgs_le {t t' : TGs} (h : PGs X tgs t) (le : ∀ v σ H Q, t' v σ H Q → t v σ H Q) : PGs X tgs t' := ⟨fun pins s σ H v u Q I r q => h.run pins s σ H v u Q I r (le _ _ _ _ q)⟩
theorem egs_nil : EvGs X vs Γ [] [] Γ := pgs_le pgs_nil fun v σ H Q q => by
  obtain ⟨F, as, μ, cl, sl, hd, kk⟩ := q
  cases hd
  exact ⟨rfl, kk σ rfl sl⟩
theorem egs_cons (h1 : EvG X vs Γ tg d Γ1) (h2 : EvGs X vs Γ1 tgs ds Γ2) (hs : (assignEach (tg :: tgs) X.env).map (·.2) = assign tg X.env :: (assignEach tgs X.env).map (·.2) := by rfl) : EvGs X vs Γ (tg :: tgs) (d :: ds) Γ2 := pgs_le (pgs_cons h1 h2 hs) fun v σ H Q q => by
  obtain ⟨F, as, μ, cl, sl, hd, kk⟩ := q
  cases hd with
  | cons h t => exact ⟨_, _, rfl, F, as, μ, cl, sl, h, fun σ' w' s' => ⟨F, as, μ, cl, s', t, fun σ2 w2 s2 => kk σ2 (w2.trans w') s2⟩⟩
theorem eg_tup {n : Nat} (c : Cz k X) (h : EvGs X vs Γ tgs ds Γ1) (hn : (assignEach tgs X.env).length = ds.length := by rfl) (hst : (assignEach tgs X.env).findIdx? (·.1) = none := by rfl) : EvG X vs Γ (.Tuple tgs n pos) (.tuple ds) Γ1 :=
  pg_le (pg_tup c.calm h hn hst) fun v σ H Q q => by
    obtain ⟨F, as, μ, cl, sl, hd, kk⟩ := q
    cases hd with
    | tup h1 h2 => exact ⟨_, _, rfl, cl.sub.st h1, h2.length, F, as, μ, cl, sl, h2, kk⟩

/-! ### a clause's tests -/
abbrev EvTs (X : Cx) (Γ : List Sl) (μ : Mu) (ifs : List Expr) (b : Bool) (μ' : Mu) : Prop := PTs X ifs (tDT X.K Γ μ b μ')
theorem pts_le {ifs : List Expr} {t t' : TT} (h : PTs X ifs t) (le : ∀ σ H Q, t' σ H Q → t σ H Q) : PTs X ifs t' := ⟨fun pins s σ H Q I q => h.run pins s σ H Q I (le _ _ _ q)⟩
theorem ts_nil : EvTs X Γ μ [] true μ := pts_le pts_nil fun σ H Q q => by
  obtain ⟨F, as, cl, sl, kk⟩ := q
  exact kk F H Step.refl cl
theorem ts_one {q : Bool} (h : EvT X Γ μ e q μ1) : EvTs X Γ μ [e] q μ1 := pts_one h

/-! ### comprehensions -/
/-- an expression, and name = expression on one line -/
structure EvB (X : Cx) (e : Expr) (t : TE) : Prop where
  pe : PE X e t
  ps : ∀ {i : Nat} {y : Str} {py spos : Pos}, X.N[i]? = some y → X.env.scope.names.lookup y = some .local → swapsWith e (some (.Name y py)) spos.line X.env = pure true → PS X (.Assign [.Name y py] e spos) (tAsg t (gName i))
theorem ps_le {st : Stmt} {t t' : TS} (h : PS X st t) (le : ∀ D σ H, t' D σ H → t D σ H) : PS X st t' := ⟨fun pins s σ H D I q => h.run pins s σ H D I (le _ _ _ q)⟩
theorem EvB.le {t t' : TE} (h : EvB X e t) (le : ∀ σ H Q, t' σ H Q → t σ H Q) : EvB X e t' := ⟨pe_le h.pe le, fun h1 h2 h3 => ps_le (h.ps h1 h2 h3) fun D σ H q => le _ _ _ q⟩
theorem EvB.cast {r r' : Sl} (h : EvB X e (tD X.K Γ μ r μ1)) (q : r = r') : EvB X e (tD X.K Γ μ r' μ1) := q ▸ h
/-- a block of X -/
abbrev BX (X : Cx) (scope : Scope) (s : Shared) (H : Hp) (C : Addr) (cl : List (Str × Addr)) (fp : List Addr) : Cx := X.blk s H scope (compEnvC scope cl C X.env) fp
def wipeG (Γ : List Sl) : List Nat → List Sl
  | [] => Γ
  | v :: vs => (wipeG Γ vs).set v .un
theorem wipeG_out : ∀ {vs : List Nat} {i : Nat} {r : Sl}, (wipeG Γ vs)[i]? = some r → r.sta = true → i ∉ vs ∧ Γ[i]? = some r
  | [], i, r, h, _ => ⟨by simp, h⟩
  | v :: vs, i, r, h, hs => by
    unfold wipeG at h
    by_cases hv : v = i
    · subst hv
      rw [List.getElem?_set_self'] at h
      cases g : (wipeG Γ vs)[v]? with
      | none => rw [g] at h; cases h
      | some z =>
        rw [g] at h
        cases h
        cases hs
    · rw [List.getElem?_set_ne hv] at h
      obtain ⟨h1, h2⟩ := wipeG_out h hs
      exact ⟨fun z => (List.mem_cons.mp z).elim (fun e => hv e.symm) h1, h2⟩
theorem wipe_keep {σ : L2.St} : ∀ {vs : List Nat} {i : Nat}, i ∉ vs → (wipe σ vs)[i]? = σ[i]?
  | [], i, _ => rfl
  | v :: vs, i, h => by
    unfold wipe
    rw [List.getElem?_set_ne (fun e : v = i => h (by rw [e]; exact List.mem_cons_self))]
    exact wipe_keep fun z => h (List.mem_cons_of_mem _ z)
theorem Sls.wiped {K : PySem.W.Frag} {F H : Hp} {as : List Addr} {σ : L2.St} (s : Sls K F H as σ Γ) : Sls K F H as (wipe σ vs) (wipeG Γ vs) := fun i r e hs => by
  obtain ⟨h1, h2⟩ := wipeG_out e hs
  rw [wipe_keep h1]
  exact s i r h2 hs
/-- what is known at a turn -/
structure TurnOk (X : Cx) (scope : Scope) (vs : List Nat) (Γ : List Sl) (tg : Expr) (ifs : List Expr) (elt : Expr) (d : PyData) (μ : Mu) (o : Option PyData) (μ' : Mu) (Γ1 : List Sl) (q : Bool) (μ1 : Mu) : Prop where
  tg : ∀ s H C cl fp, EvG (BX X scope s H C cl fp) vs (wipeG Γ vs) tg d Γ1
  ts : ∀ s H C cl fp, EvTs (BX X scope s H C cl fp) Γ1 μ ifs q μ1
  no : q = false → o = none ∧ μ' = μ1
  el : q = true → ∃ y, o = some y ∧ ∀ s H C cl fp, Ev (BX X scope s H C cl fp) Γ1 μ1 elt (.dat y) μ'
abbrev TurnD (X : Cx) (scope : Scope) (vs : List Nat) (Γ : List Sl) (tg : Expr) (ifs : List Expr) (elt : Expr) (d : PyData) (μ : Mu) (o : Option PyData) (μ' : Mu) : Prop := ∃ Γ1 q μ1, TurnOk X scope vs Γ tg ifs elt d μ o μ' Γ1 q μ1
def outs (out : Nat → Option PyData) (n : Nat) : List PyData := (List.range n).filterMap out
theorem outs_succ (out : Nat → Option PyData) (n : Nat) : outs out (n + 1) = outs out n ++ (out n).toList := by
  unfold outs
  rw [List.range_succ, List.filterMap_append]
  cases h : out n <;> simp [h]
theorem outs_len (out : Nat → Option PyData) (n : Nat) : (outs out n).length ≤ n := by
  unfold outs
  exact Nat.le_trans (List.length_filterMap_le ..) (by simp)
/-- readings that leave the data open -/
def gU (X : Cx) (scope : Scope) (vs : List Nat) (tg : Expr) : TG := fun v σ H Q => ∃ Γ d Γ', (∀ s H C cl fp, EvG (BX X scope s H C cl fp) vs Γ tg d Γ') ∧ tDG X.K vs Γ d Γ' v σ H Q
def ttU (X : Cx) (scope : Scope) (ifs : List Expr) : TT := fun σ H Q => ∃ Γ μ q μ', (∀ s H C cl fp, EvTs (BX X scope s H C cl fp) Γ μ ifs q μ') ∧ tDT X.K Γ μ q μ' σ H Q
def teU (X : Cx) (scope : Scope) (elt : Expr) : TE := fun σ H Q => ∃ Γ μ r μ', (∀ s H C cl fp, Ev (BX X scope s H C cl fp) Γ μ elt r μ') ∧ tD X.K Γ μ r μ' σ H Q
theorem pgU {scope : Scope} : ∀ s H C cl fp, PG (BX X scope s H C cl fp) tg (gU X scope vs tg) := fun s H C cl fp => ⟨fun pins s1 σ H1 v u Q I r q => by
  obtain ⟨_, _, _, h, q⟩ := q
  exact (h s H C cl fp).run pins s1 σ H1 v u Q I r q⟩
theorem ptU {scope : Scope} {ifs : List Expr} : ∀ s H C cl fp, PTs (BX X scope s H C cl fp) ifs (ttU X scope ifs) := fun s H C cl fp => ⟨fun pins s1 σ H1 Q I q => by
  obtain ⟨_, _, _, _, h, q⟩ := q
  exact (h s H C cl fp).run pins s1 σ H1 Q I q⟩
theorem peU {scope : Scope} : ∀ s H C cl fp, PE (BX X scope s H C cl fp) e (teU X scope e) := fun s H C cl fp => ⟨fun pins s1 σ H1 Q I q => by
  obtain ⟨_, _, _, _, h, q⟩ := q
  exact (h s H C cl fp).run pins s1 σ H1 Q I q⟩
theorem tabs_upd {T : List (Addr × Str)} {H : Hp} {D : Addr} {xs ys : List V} (t : LamX.Tabs T H) (h : H D = some (.lst xs)) : LamX.Tabs T (upd H D (.lst ys)) := fun p hp => by
  obtain ⟨ps, h1, h2, h3⟩ := t p hp
  refine ⟨ps, ?_, h2, fun pos cv hc => ?_⟩
  · rw [upd_ne (fun e => by rw [e, h] at h1; cases h1)]
    exact h1
  · obtain ⟨c, e1, e2⟩ := h3 pos cv hc
    refine ⟨c, e1, ?_⟩
    rw [upd_ne (fun e => by rw [e, h] at e2; cases e2)]
    exact e2
theorem clz_upd {F H : Hp} {as : List Addr} {D : Addr} {xs ys : List V} (c5 : Clz X.K F H as μ) (h : H D = some (.lst xs)) (hF : F D = none) (h3 : D ∉ as) : Clz X.K F (upd H D (.lst ys)) as μ := by
  refine ⟨fun b o e => ?_, c5.nd, c5.len, fun k xs e => ?_, fun b hb => ?_, tabs_upd c5.tab h, c5.nt⟩
  · have : b ≠ D := by rintro rfl; rw [hF] at e; cases e
    rw [upd_ne this]
    exact c5.sub b o e
  · obtain ⟨a', vs', g1, g2, g3, g4⟩ := c5.cel k xs e
    have : a' ≠ D := by rintro rfl; exact h3 (List.mem_of_getElem? g1)
    exact ⟨a', vs', g1, g2, by rw [upd_ne this]; exact g3, g4⟩
  · by_cases hb2 : b = D
    · rw [hb2, upd_same]; simp
    · rw [upd_ne hb2]; exact c5.there b hb
theorem wipe_idem {σ : L2.St} {vs : List Nat} : ∀ (ws : List Nat), (∀ i ∈ ws, i ∈ vs) → wipe (wipe σ ws) vs = wipe σ vs
  | [], _ => rfl
  | w :: ws, h => by
    show wipe ((wipe σ ws).set w none) vs = _
    rw [wipe_set (h w List.mem_cons_self)]
    exact wipe_idem ws fun i hi => h i (List.mem_cons_of_mem _ hi)
theorem ev_lcG {elt iter : Expr} {ifs : List Expr} {scope : Scope} (own : List (Str × Nat)) (M : Nat → Mu) (out : Nat → Option PyData) (c : Cz k X) (hi : EvI X Γ μ tg iter ds (M 0)) (ok : BlkOk X.N X.env.scope scope own)
    (turns : ∀ i d, ds[i]? = some d → TurnD X scope (own.map (·.2)) Γ tg ifs elt d (M i) (out i) (M (i + 1))) (hs : ∀ x, foldedSetIterable iter X.env x = pure x := by intro _; rfl) :
    EvB X (.ListComp elt [⟨tg, iter, ifs, 0⟩] scope pos) (tD X.K Γ μ (.fre (outs out ds.length)) (M ds.length)) := by
  refine EvB.le ⟨pe_lc c.calm c.nd hi ok (pgU (vs := own.map (·.2))) ptU peU hs, fun h1 h2 h3 => ps_setLc c.calm c.nd h1 h2 h3 hi ok (pgU (vs := own.map (·.2))) ptU peU hs⟩ fun σ H Q hq => ?_
  obtain ⟨F, as, cl, sl, kk⟩ := hq
  refine ⟨F, as, cl, sl, fun J F1 H1 st1 c1 hz w D hD => ?_⟩
  refine lc_it (n := ds.length) (G := fun H => Ex F1 H) (Y := J.yld) (g := gU X scope (own.map (·.2)) tg) (tt := ttU X scope ifs) (te := teU X scope elt) (D := D) (H1 := H1) (Qd := fun H => Q (.ref D) H) (vs := own.map (·.2)) (σ := σ) ⟨fun i H hi ex => w.goes i H hi ex, fun H ex => w.stops H ex, fun _ _ _ _ _ _ y => y⟩
    (fun i H2 => ∃ F2 ys, Step as F1 H1 F2 H2 ∧ Clz X.K F2 H2 as (M i) ∧ H2 D = some (.lst ys) ∧ F2 D = none ∧ D ∉ as ∧ DpAll X.K F2 ys (outs out i)) ?_ (fun i H2 _ h => by
      obtain ⟨F2, ys, st2, c2, _⟩ := h
      exact st2.ex.trans c2.sub) ?_ ?_
  · have hDa : D ∉ as := fun h => c1.there D h hD
    have p := StepP.hxOnly (H' := upd H1 D (.lst [])) c1.sub (Ex.new hD)
    exact ⟨F1, [], p.step, c1.pure p, upd_same, c1.sub.free hD, hDa, .nil⟩
  · intro i x H2 H3 hlt pv y
    obtain ⟨F2, ys, st2, c2, h1, h2, h3, h4⟩ := pv
    obtain ⟨d, g1, g2⟩ := w.yields i H2 x H3 hlt (st2.ex.trans c2.sub) y
    obtain ⟨F3, p3, hx⟩ := g2 F2 st2.ex c2.sub
    obtain ⟨Γ1, q, μ1, T⟩ := turns i d g1
    have c3 := c2.pure p3
    have st3 := st2.trans p3.step
    refine ⟨wipeG Γ (own.map (·.2)), d, Γ1, T.tg, F3, as, M i, c3, ((sl.mono (st1.trans st3)).wiped), hx, fun σ' hw s' => ⟨hw.trans (wipe_idem _ fun _ h => h), Γ1, M i, q, μ1, T.ts, F3, as, c3, s', fun F4 H4 st4 c4 => ?_⟩⟩
    have hD3 : H3 D = some (.lst ys) := p3.hx D _ h1
    have hF3 : F3 D = none := p3.fr D (by rw [h1]; simp) h2
    have hD4 : H4 D = some (.lst ys) := st4.kp D _ h3 (fun ps z => by cases z) hD3
    have hF4 : F4 D = none := st4.fr D (by rw [hD3]; simp) hF3 h3
    cases q with
    | false =>
      obtain ⟨o1, o2⟩ := T.no rfl
      simp only [Bool.false_eq_true, if_false]
      refine ⟨F4, ys, st3.trans st4, o2 ▸ c4, hD4, hF4, h3, ?_⟩
      rw [outs_succ, o1]
      simpa using (st4.ex.dpAll (p3.ex.dpAll h4))
    | true =>
      obtain ⟨y, o1, ev⟩ := T.el rfl
      simp only [if_true]
      refine ⟨Γ1, μ1, .dat y, M (i + 1), ev, F4, as, c4, s'.mono st4, fun v F5 H5 st5 c5 hv _ => ?_⟩
      have hD5 : H5 D = some (.lst ys) := st5.kp D _ h3 (fun ps z => by cases z) hD4
      have hF5 : F5 D = none := st5.fr D (by rw [hD4]; simp) hF4 h3
      have dp5 : DpAll X.K F5 ys (outs out i) := st5.ex.dpAll (st4.ex.dpAll (p3.ex.dpAll h4))
      have hlen : ys.length ≤ i := by rw [dp5.length]; exact outs_len out i
      refine ⟨ys, hD5, by omega, ?_⟩
      have c6 : Clz X.K F5 (upd H5 D (.lst (ys ++ [v]))) as (M (i + 1)) := clz_upd c5 hD5 hF5 h3
      refine ⟨F5, ys ++ [v], ?_, c6, upd_same, hF5, h3, ?_⟩
      · have st35 := (st3.trans st4).trans st5
        refine ⟨st35.ex, fun b o nb nt e => ?_, st35.fr, fun b e => ?_⟩
        · have hbD : b ≠ D := by rintro rfl; rw [hD] at e; cases e
          rw [upd_ne hbD]
          exact st35.kp b o nb nt e
        · by_cases hb2 : b = D
          · rw [hb2, upd_same]; simp
          · rw [upd_ne hb2]; exact st35.dm b e
      · rw [outs_succ, o1]
        exact dp5.snoc hv
  · intro H2 pv
    obtain ⟨F2, ys, st2, c2, h1, h2, h3, h4⟩ := pv
    refine kk (.ref D) F2 H2 (st1.trans st2) c2 ⟨D, ys, rfl, h1, h2, h3, h4⟩ fun a e => ?_
    cases e
    cases q : H D with
    | none => rfl
    | some o => exact absurd hD (st1.dm D (by rw [q]; simp))
/-! typed -/
variable {α β : Type} [DecidableEq α] [Datum α] [DecidableEq β] [Datum β]
/-- what a turn of a typed comprehension is to show -/
structure TurnT (X : Cx) (scope : Scope) (vs : List Nat) (Γ : List Sl) (tg : Expr) (ifs : List Expr) (elt : Expr) (μ : Mu) (d : PyData) (q : Bool) (y : PyData) (Γ1 : List Sl) : Prop where
  tg : ∀ s H C cl fp, EvG (BX X scope s H C cl fp) vs (wipeG Γ vs) tg d Γ1
  ts : ∀ s H C cl fp, EvTs (BX X scope s H C cl fp) Γ1 μ ifs q μ
  el : q = true → ∀ s H C cl fp, Ev (BX X scope s H C cl fp) Γ1 μ elt (.dat y) μ
theorem outs_typed (p : α → Bool) (f : α → β) : ∀ (xs : List α), outs (fun i => (xs[i]?).bind fun x => if p x then some (Datum.toD (f x)) else none) xs.length = ((xs.filter p).map f).map Datum.toD := fun xs => by
  suffices h : ∀ n, n ≤ xs.length → outs (fun i => (xs[i]?).bind fun x => if p x then some (Datum.toD (f x)) else none) n = (((xs.take n).filter p).map f).map Datum.toD by
    rw [h _ (Nat.le_refl _), List.take_length]
  intro n
  induction n with
  | zero => intro _; rfl
  | succ n ih =>
    intro hn
    rw [outs_succ, ih (by omega)]
    have hlt : n < xs.length := hn
    rw [List.take_succ, List.getElem?_eq_getElem hlt]
    simp only [Option.bind_some, Option.toList_some, List.filter_append, List.map_append]
    congr 1
    cases hp : p xs[n] <;> simp [hp]
theorem ev_lc {elt iter : Expr} {ifs : List Expr} {scope : Scope} (own : List (Str × Nat)) (xs : List α) (p : α → Bool) (f : α → β) (c : Cz k X) (hi : EvI X Γ μ tg iter (xs.map Datum.toD) μ1) (ok : BlkOk X.N X.env.scope scope own)
    (turns : ∀ x ∈ xs, ∃ Γ1, TurnT X scope (own.map (·.2)) Γ tg ifs elt μ1 (Datum.toD x) (p x) (Datum.toD (f x)) Γ1) (hs : ∀ x, foldedSetIterable iter X.env x = pure x := by intro _; rfl) :
    EvB X (.ListComp elt [⟨tg, iter, ifs, 0⟩] scope pos) (tD X.K Γ μ (fr ((xs.filter p).map f)) μ1) := by
  have h := ev_lcG (pos := pos) (elt := elt) (ifs := ifs) own (fun _ => μ1) (fun i => (xs[i]?).bind fun x => if p x then some (Datum.toD (f x)) else none) c hi ok (fun i d hd => ?_) hs
  · rw [List.length_map, outs_typed] at h
    exact h
  · rw [List.getElem?_map] at hd
    cases hx : xs[i]? with
    | none => rw [hx] at hd; cases hd
    | some x =>
      rw [hx] at hd
      cases hd
      obtain ⟨Γ1, T⟩ := turns x (List.mem_of_getElem? hx)
      refine ⟨Γ1, p x, μ1, T.tg, T.ts, fun hq => ⟨?_, rfl⟩, fun hq => ⟨Datum.toD (f x), ?_, T.el hq⟩⟩
      · show (if p x = true then some (Datum.toD (f x)) else none) = none
        rw [hq]; rfl
      · show (if p x = true then some (Datum.toD (f x)) else none) = _
        rw [hq]; rfl
/-- without tests -/
theorem ev_lc0 {elt iter : Expr} {scope : Scope} (own : List (Str × Nat)) (xs : List α) (f : α → β) (c : Cz k X) (hi : EvI X Γ μ tg iter (xs.map Datum.toD) μ1) (ok : BlkOk X.N X.env.scope scope own)
    (turns : ∀ x ∈ xs, ∃ Γ1, (∀ s H C cl fp, EvG (BX X scope s H C cl fp) (own.map (·.2)) (wipeG Γ (own.map (·.2))) tg (Datum.toD x) Γ1) ∧ ∀ s H C cl fp, Ev (BX X scope s H C cl fp) Γ1 μ1 elt (dd (f x)) μ1) (hs : ∀ x, foldedSetIterable iter X.env x = pure x := by intro _; rfl) :
    EvB X (.ListComp elt [⟨tg, iter, [], 0⟩] scope pos) (tD X.K Γ μ (fr (xs.map f)) μ1) := by
  refine (ev_lc (pos := pos) (elt := elt) own xs (fun _ => true) f c hi ok (fun x hx => ?_) hs).cast (by rw [List.filter_eq_self.mpr (fun _ _ => rfl)])
  obtain ⟨Γ1, h1, h2⟩ := turns x hx
  exact ⟨Γ1, h1, fun _ _ _ _ _ => ts_nil, fun _ => h2⟩
/-- with one test -/
theorem ev_lc1 {elt iter cd : Expr} {scope : Scope} (own : List (Str × Nat)) (xs : List α) (p : α → Bool) (f : α → β) (c : Cz k X) (hi : EvI X Γ μ tg iter (xs.map Datum.toD) μ1) (ok : BlkOk X.N X.env.scope scope own)
    (turns : ∀ x ∈ xs, ∃ Γ1, (∀ s H C cl fp, EvG (BX X scope s H C cl fp) (own.map (·.2)) (wipeG Γ (own.map (·.2))) tg (Datum.toD x) Γ1) ∧ (∀ s H C cl fp, EvT (BX X scope s H C cl fp) Γ1 μ1 cd (p x) μ1) ∧ (p x = true → ∀ s H C cl fp, Ev (BX X scope s H C cl fp) Γ1 μ1 elt (dd (f x)) μ1)) (hs : ∀ x, foldedSetIterable iter X.env x = pure x := by intro _; rfl) :
    EvB X (.ListComp elt [⟨tg, iter, [cd], 0⟩] scope pos) (tD X.K Γ μ (fr ((xs.filter p).map f)) μ1) := by
  refine ev_lc (pos := pos) (elt := elt) own xs p f c hi ok (fun x hx => ?_) hs
  obtain ⟨Γ1, h1, h2, h3⟩ := turns x hx
  exact ⟨Γ1, h1, fun s H C cl fp => ts_one (h2 s H C cl fp), h3⟩
def wiU (X : Cx) (scope : Scope) (tg1 iter1 : Expr) : TI := fun σ H R => ∃ Γ μ ds μ', (∀ s H C cl fp, EvI (BX X scope s H C cl fp) Γ μ tg1 iter1 ds μ') ∧ tDI X.K Γ μ ds μ' σ H R
theorem piU {scope : Scope} {tg1 iter1 : Expr} : ∀ s H C cl fp, PI (BX X scope s H C cl fp) tg1 iter1 (wiU X scope tg1 iter1) := fun s H C cl fp => ⟨fun pins s1 σ H1 R I q => by
  obtain ⟨_, _, _, _, h, q⟩ := q
  exact (h s H C cl fp).run pins s1 σ H1 R I q⟩
def outs2 (out : Nat → Nat → Option PyData) (len : Nat → Nat) (n : Nat) : List PyData := (List.range n).flatMap fun i => outs (out i) (len i)
theorem outs2_succ (out : Nat → Nat → Option PyData) (len : Nat → Nat) (n : Nat) : outs2 out len (n + 1) = outs2 out len n ++ outs (out n) (len n) := by
  unfold outs2
  rw [List.range_succ, List.flatMap_append]
  simp
/-- an inner turn -/
structure TurnIn (X : Cx) (scope : Scope) (vs1 : List Nat) (Γ1 : List Sl) (tg1 : Expr) (ifs1 : List Expr) (elt : Expr) (μ : Mu) (e : PyData) (o : Option PyData) (Γ2 : List Sl) (q : Bool) : Prop where
  tg : ∀ s H C cl fp, EvG (BX X scope s H C cl fp) vs1 (wipeG Γ1 vs1) tg1 e Γ2
  ts : ∀ s H C cl fp, EvTs (BX X scope s H C cl fp) Γ2 μ ifs1 q μ
  no : q = false → o = none
  el : q = true → ∃ y, o = some y ∧ ∀ s H C cl fp, Ev (BX X scope s H C cl fp) Γ2 μ elt (.dat y) μ
structure TurnOut (X : Cx) (scope : Scope) (vs vs1 : List Nat) (Γ : List Sl) (tg tg1 iter1 : Expr) (ifs1 : List Expr) (elt : Expr) (μ : Mu) (d : PyData) (out : Nat → Option PyData) (len : Nat) (Γ1 : List Sl) (es : List PyData) : Prop where
  tg : ∀ s H C cl fp, EvG (BX X scope s H C cl fp) vs (wipeG Γ vs) tg d Γ1
  it : ∀ s H C cl fp, EvI (BX X scope s H C cl fp) Γ1 μ tg1 iter1 es μ
  len : es.length = len
  tu : ∀ j e, es[j]? = some e → ∃ Γ2 q, TurnIn X scope vs1 Γ1 tg1 ifs1 elt μ e (out j) Γ2 q
theorem ev_lc2G {elt iter tg1 iter1 : Expr} {ifs1 : List Expr} {scope : Scope} (own : List (Str × Nat)) (vs1 : List Nat) (out : Nat → Nat → Option PyData) (len : Nat → Nat) (c : Cz k X) (hi : EvI X Γ μ tg iter ds μ1) (ok : BlkOk X.N X.env.scope scope own) (hv : ∀ i ∈ vs1, i ∈ own.map (·.2))
    (hz : (outs2 out len ds.length).length ≤ 100000)
    (turns : ∀ i d, ds[i]? = some d → ∃ Γ1 es, TurnOut X scope (own.map (·.2)) vs1 Γ tg tg1 iter1 ifs1 elt μ1 d (out i) (len i) Γ1 es) (hs : ∀ x, foldedSetIterable iter X.env x = pure x := by intro _; rfl) (hs1 : ∀ env x, foldedSetIterable iter1 env x = pure x := by intro _ _; rfl) :
    EvB X (.ListComp elt [⟨tg, iter, [], 0⟩, ⟨tg1, iter1, ifs1, 0⟩] scope pos) (tD X.K Γ μ (.fre (outs2 out len ds.length)) μ1) := by
  refine EvB.le ⟨pe_lc2 c.calm c.nd hi ok hv (pgU (vs := own.map (·.2))) (fun _ _ _ _ _ => pts_nil) (piU (tg1 := tg1) (iter1 := iter1)) (pgU (vs := vs1)) (ptU (ifs := ifs1)) peU hs hs1,
    fun h1 h2 h3 => ps_setLc2 c.calm c.nd h1 h2 h3 hi ok hv (pgU (vs := own.map (·.2))) (fun _ _ _ _ _ => pts_nil) (piU (tg1 := tg1) (iter1 := iter1)) (pgU (vs := vs1)) (ptU (ifs := ifs1)) peU hs hs1⟩ fun σ H Q hq => ?_
  obtain ⟨F, as, cl, sl, kk⟩ := hq
  refine ⟨F, as, cl, sl, fun J F1 H1 st1 c1 hz1 w D hD => ?_⟩
  have mono2 : ∀ i, i ≤ ds.length → (outs2 out len i).length ≤ 100000 := by
    have key : ∀ k i, (outs2 out len i).length ≤ (outs2 out len (i + k)).length := fun k => by
      induction k with
      | zero => intro i; exact Nat.le_refl _
      | succ k ih =>
        intro i
        rw [← Nat.add_assoc, outs2_succ, List.length_append]
        exact Nat.le_trans (ih i) (Nat.le_add_right _ _)
    intro i hi
    have := key (ds.length - i) i
    rw [Nat.add_sub_cancel' hi] at this
    omega
  -- the outer invariant
  generalize hP : (fun (i : Nat) (H2 : Hp) (extra : List PyData) => ∃ F2 ys, Step as F1 H1 F2 H2 ∧ Clz X.K F2 H2 as μ1 ∧ H2 D = some (.lst ys) ∧ F2 D = none ∧ D ∉ as ∧ DpAll X.K F2 ys (outs2 out len i ++ extra)) = P
  refine ⟨fun i m H2 => m = ds.length - i ∧ i ≤ ds.length ∧ P i H2 [], ⟨ds.length, rfl, Nat.zero_le _, ?_⟩, ?_⟩
  · subst hP
    have hDa : D ∉ as := fun h => c1.there D h hD
    have p := StepP.hxOnly (H' := upd H1 D (.lst [])) c1.sub (Ex.new hD)
    exact ⟨F1, [], p.step, c1.pure p, upd_same, c1.sub.free hD, hDa, .nil⟩
  rintro i m H2 ⟨rfl, hi2, p⟩
  rcases Nat.lt_or_ge i ds.length with hlt | hge
  case inr =>
    have e : i = ds.length := by omega
    subst e hP
    obtain ⟨F2, ys, st2, c2, h1, h2, h3, h4⟩ := p
    rw [List.append_nil] at h4
    refine .inl ⟨w.stops H2 (st2.ex.trans c2.sub), kk (.ref D) F2 H2 (st1.trans st2) c2 ⟨D, ys, rfl, h1, h2, h3, h4⟩ fun a e => ?_⟩
    cases e
    cases q : H D with
    | none => rfl
    | some o => exact absurd hD (st1.dm D (by rw [q]; simp))
  have gg : Ex F1 H2 := by
    subst hP
    obtain ⟨F2, ys, st2, c2, _⟩ := p
    exact st2.ex.trans c2.sub
  refine .inr ⟨w.goes i H2 hlt gg, fun H' => P (i + 1) H' [], fun H' p' => ⟨ds.length - (i + 1), by omega, rfl, hlt, p'⟩, fun x H3 y => ?_⟩
  obtain ⟨d, g1, g2⟩ := w.yields i H2 x H3 hlt gg y
  obtain ⟨Γ1, es, T⟩ := turns i d g1
  subst hP
  obtain ⟨F2, ys, st2, c2, h1, h2, h3, h4⟩ := p
  obtain ⟨F3, p3, hx⟩ := g2 F2 st2.ex c2.sub
  have c3 := c2.pure p3
  have st3 := st2.trans p3.step
  have hD3 : H3 D = some (.lst ys) := p3.hx D _ h1
  have hF3 : F3 D = none := p3.fr D (by rw [h1]; simp) h2
  refine ⟨wipeG Γ (own.map (·.2)), d, Γ1, T.tg, F3, as, μ1, c3, ((sl.mono (st1.trans st3)).wiped), hx, fun σ' hw s' => ⟨hw.trans (wipe_idem _ fun _ h => h), ?_⟩⟩
  simp only [tYes, if_true]
  refine ⟨Γ1, μ1, es, μ1, T.it, F3, as, c3, s', fun J1 F4 H4 st4 c4 hz4 w1 => ?_⟩
  have hD4 : H4 D = some (.lst ys) := st4.kp D _ h3 (fun ps z => by cases z) hD3
  have hF4 : F4 D = none := st4.fr D (by rw [hD3]; simp) hF3 h3
  have dp4 : DpAll X.K F4 ys (outs2 out len i) := st4.ex.dpAll (p3.ex.dpAll (by simpa using h4))
  refine ⟨fun j k H => k = es.length - j ∧ j ≤ es.length ∧ ∃ F5 ys, Step as F1 H1 F5 H ∧ Ex F4 F5 ∧ Clz X.K F5 H as μ1 ∧ H D = some (.lst ys) ∧ F5 D = none ∧ DpAll X.K F5 ys (outs2 out len i ++ outs (out i) j), ⟨es.length, rfl, Nat.zero_le _, F4, ys, st3.trans st4, Ex.refl F4, c4, hD4, hF4, by simpa [outs] using dp4⟩, ?_⟩
  rintro j k H5 ⟨rfl, hj, F5, ys5, st5, x5, c5, hD5, hF5, dp5⟩
  have g5 : Ex F4 H5 := x5.trans c5.sub
  rcases Nat.lt_or_ge j es.length with hjl | hge
  case inr =>
    have e : j = es.length := by omega
    subst e
    refine .inl ⟨w1.stops H5 g5, F5, ys5, st5, c5, hD5, hF5, h3, ?_⟩
    rw [outs2_succ, ← T.len, List.append_nil]
    exact dp5
  refine .inr ⟨w1.goes j H5 hjl g5, fun H' => ∃ F5 ys, Step as F1 H1 F5 H' ∧ Ex F4 F5 ∧ Clz X.K F5 H' as μ1 ∧ H' D = some (.lst ys) ∧ F5 D = none ∧ DpAll X.K F5 ys (outs2 out len i ++ outs (out i) (j + 1)), fun H' p' => ⟨es.length - (j + 1), by omega, rfl, hjl, p'⟩, fun x2 H6 y2 => ?_⟩
  obtain ⟨e, r1, r2⟩ := w1.yields j H5 x2 H6 hjl g5 y2
  obtain ⟨Γ2, q, TI⟩ := T.tu j e r1
  obtain ⟨F6, p6, hx6⟩ := r2 F5 x5 c5.sub
  have c6 := c5.pure p6
  have st6 := st5.trans p6.step
  have hD6 : H6 D = some (.lst ys5) := p6.hx D _ hD5
  have hF6 : F6 D = none := p6.fr D (by rw [hD5]; simp) hF5
  have dp6 := p6.ex.dpAll dp5
  refine ⟨wipeG Γ1 vs1, e, Γ2, TI.tg, F6, as, μ1, c6, (s'.monoX ((st4.ex.trans x5).trans p6.ex)).wiped, hx6, fun σ3 hw3 s3 => ⟨hw3.trans (wipe_idem _ fun _ h => h), Γ2, μ1, q, μ1, TI.ts, F6, as, c6, s3, fun F7 H7 st7 c7 => ?_⟩⟩
  have hD7 : H7 D = some (.lst ys5) := st7.kp D _ h3 (fun ps z => by cases z) hD6
  have hF7 : F7 D = none := st7.fr D (by rw [hD6]; simp) hF6 h3
  have dp7 := st7.ex.dpAll dp6
  cases q with
  | false =>
    simp only [Bool.false_eq_true, if_false]
    refine ⟨F7, ys5, st6.trans st7, (x5.trans p6.ex).trans st7.ex, c7, hD7, hF7, ?_⟩
    rw [outs_succ, TI.no rfl]
    simpa using dp7
  | true =>
    obtain ⟨y3, o1, ev⟩ := TI.el rfl
    simp only [if_true]
    refine ⟨Γ2, μ1, .dat y3, μ1, ev, F7, as, c7, s3.mono st7, fun v F8 H8 st8 c8 hv _ => ?_⟩
    have hD8 : H8 D = some (.lst ys5) := st8.kp D _ h3 (fun ps z => by cases z) hD7
    have hF8 : F8 D = none := st8.fr D (by rw [hD7]; simp) hF7 h3
    have dp8 := st8.ex.dpAll dp7
    have hlen : ys5.length < sizeLine := by
      have l1 := mono2 (i + 1) hlt
      rw [outs2_succ, ← T.len, List.length_append] at l1
      have l2 := dp8.length
      rw [List.length_append] at l2
      have l3 : (outs (out i) (j + 1)).length ≤ (outs (out i) es.length).length := by
        have key : ∀ k i', (outs (out i) i').length ≤ (outs (out i) (i' + k)).length := fun k => by
          induction k with
          | zero => intro i'; exact Nat.le_refl _
          | succ k ih =>
            intro i'
            rw [← Nat.add_assoc, outs_succ, List.length_append]
            exact Nat.le_trans (ih i') (Nat.le_add_right _ _)
        have := key (es.length - (j + 1)) (j + 1)
        rw [Nat.add_sub_cancel' hjl] at this
        exact this
      rw [outs_succ, o1, List.length_append] at l3
      simp only [Option.toList_some, List.length_singleton] at l3
      rw [sizeLine_eq]
      omega
    refine ⟨ys5, hD8, hlen, F8, ys5 ++ [v], ?_, ((x5.trans p6.ex).trans st7.ex).trans st8.ex, clz_upd c8 hD8 hF8 h3, upd_same, hF8, ?_⟩
    · have st := (st6.trans st7).trans st8
      refine ⟨st.ex, fun b o nb nt e => ?_, st.fr, fun b e => ?_⟩
      · have hbD : b ≠ D := by rintro rfl; rw [hD] at e; cases e
        rw [upd_ne hbD]
        exact st.kp b o nb nt e
      · by_cases hb2 : b = D
        · rw [hb2, upd_same]; simp
        · rw [upd_ne hb2]; exact st.dm b e
    · rw [outs_succ, o1, ← List.append_assoc]
      exact dp8.snoc hv
/-! typed, two clauses -/
variable {γ : Type} [DecidableEq γ] [Datum γ]
theorem outs2_typed (ys : α → List β) (p : α → β → Bool) (f : α → β → γ) (xs : List α) :
    outs2 (fun i j => (xs[i]?).bind fun x => ((ys x)[j]?).bind fun y => if p x y then some (Datum.toD (f x y)) else none) (fun i => ((xs[i]?).map fun x => (ys x).length).getD 0) xs.length = (xs.flatMap fun x => ((ys x).filter (p x)).map (f x)).map Datum.toD := by
  suffices h : ∀ n, n ≤ xs.length → outs2 (fun i j => (xs[i]?).bind fun x => ((ys x)[j]?).bind fun y => if p x y then some (Datum.toD (f x y)) else none) (fun i => ((xs[i]?).map fun x => (ys x).length).getD 0) n = ((xs.take n).flatMap fun x => ((ys x).filter (p x)).map (f x)).map Datum.toD by
    rw [h _ (Nat.le_refl _), List.take_length]
  intro n
  induction n with
  | zero => intro _; rfl
  | succ n ih =>
    intro hn
    rw [outs2_succ, ih (by omega)]
    have hlt : n < xs.length := hn
    rw [List.take_succ, List.getElem?_eq_getElem hlt, Option.toList_some, List.flatMap_append, List.map_append, List.flatMap_singleton, Option.map_some, Option.getD_some]
    congr 1
    exact outs_typed (p xs[n]) (f xs[n]) (ys xs[n])
theorem ev_lc2 {elt iter tg1 iter1 : Expr} {ifs1 : List Expr} {scope : Scope} (own : List (Str × Nat)) (vs1 : List Nat) (xs : List α) (ys : α → List β) (p : α → β → Bool) (f : α → β → γ) (c : Cz k X) (hi : EvI X Γ μ tg iter (xs.map Datum.toD) μ1) (ok : BlkOk X.N X.env.scope scope own) (hv : ∀ i ∈ vs1, i ∈ own.map (·.2))
    (hz : (xs.flatMap fun x => ((ys x).filter (p x)).map (f x)).length ≤ 100000)
    (turns : ∀ x ∈ xs, ∃ Γ1, (∀ s H C cl fp, EvG (BX X scope s H C cl fp) (own.map (·.2)) (wipeG Γ (own.map (·.2))) tg (Datum.toD x) Γ1) ∧ (∀ s H C cl fp, EvI (BX X scope s H C cl fp) Γ1 μ1 tg1 iter1 ((ys x).map Datum.toD) μ1) ∧
      ∀ y ∈ ys x, ∃ Γ2, (∀ s H C cl fp, EvG (BX X scope s H C cl fp) vs1 (wipeG Γ1 vs1) tg1 (Datum.toD y) Γ2) ∧ (∀ s H C cl fp, EvTs (BX X scope s H C cl fp) Γ2 μ1 ifs1 (p x y) μ1) ∧ (p x y = true → ∀ s H C cl fp, Ev (BX X scope s H C cl fp) Γ2 μ1 elt (dd (f x y)) μ1))
    (hs : ∀ x, foldedSetIterable iter X.env x = pure x := by intro _; rfl) (hs1 : ∀ env x, foldedSetIterable iter1 env x = pure x := by intro _ _; rfl) :
    EvB X (.ListComp elt [⟨tg, iter, [], 0⟩, ⟨tg1, iter1, ifs1, 0⟩] scope pos) (tD X.K Γ μ (fr (xs.flatMap fun x => ((ys x).filter (p x)).map (f x))) μ1) := by
  have e := outs2_typed ys p f xs
  have h := ev_lc2G (pos := pos) (elt := elt) (ifs1 := ifs1) (tg1 := tg1) own vs1 (fun i j => (xs[i]?).bind fun x => ((ys x)[j]?).bind fun y => if p x y then some (Datum.toD (f x y)) else none) (fun i => ((xs[i]?).map fun x => (ys x).length).getD 0) c hi ok hv
    (by rw [List.length_map, e, List.length_map]; exact hz) (fun i d hd => ?_) hs hs1
  · rw [List.length_map, e] at h
    exact h
  · rw [List.getElem?_map] at hd
    cases hx : xs[i]? with
    | none => rw [hx] at hd; cases hd
    | some x =>
      rw [hx] at hd
      cases hd
      obtain ⟨Γ1, h1, h2, h3⟩ := turns x (List.mem_of_getElem? hx)
      refine ⟨Γ1, (ys x).map Datum.toD, h1, h2, by simp, fun j e he => ?_⟩
      rw [List.getElem?_map] at he
      cases hy : (ys x)[j]? with
      | none => rw [hy] at he; cases he
      | some y =>
        rw [hy] at he
        cases he
        obtain ⟨Γ2, g1, g2, g3⟩ := h3 y (List.mem_of_getElem? hy)
        refine ⟨Γ2, p x y, g1, g2, fun hq => ?_, fun hq => ⟨Datum.toD (f x y), ?_, g3 hq⟩⟩
        · simp [hy, hq]
        · simp [hy, hq]
end
end DL
end
section
set_option autoImplicit false
/-! D-layer 7: statements. -/
namespace DL
open PySem PySem.Spec PyProof.Rows L2
open PySem.W (Datum Tup DatumOrd Holds HoldAll T3)

/-- how a statement ends -/
inductive Out where
  | nx (Γ : List Sl) (μ : Mu)
  | ct (Γ : List Sl) (μ : Mu)
  | rt (r : Sl) (μ : Mu)
/-- steps, with new mutable lists -/
structure StepS (as : List Addr) (F H : Hp) (as' : List Addr) (F' H' : Hp) : Prop where
  st : Step as F H F' H'
  pre : ∃ ext, as' = as ++ ext ∧ ∀ a ∈ ext, H a = none
section
variable {K : PySem.W.Frag} {F H F' H' F2 H2 : Hp} {as as' as2 : List Addr} {μ μ1 μ2 : Mu} {σ : L2.St} {Γ Γ1 Γ2 : List Sl} {v : V} {r : Sl}
theorem StepS.refl : StepS as F H as F H := ⟨Step.refl, [], by simp, by simp⟩
theorem StepS.of (s : Step as F H F' H') : StepS as F H as F' H' := ⟨s, [], by simp, by simp⟩
theorem StepS.trans (a : StepS as F H as' F' H') (b : StepS as' F' H' as2 F2 H2) : StepS as F H as2 F2 H2 := by
  obtain ⟨s1, e1, rfl, f1⟩ := a
  obtain ⟨s2, e2, rfl, f2⟩ := b
  have out : ∀ c, H c ≠ none → c ∉ as → c ∉ as ++ e1 := fun c h n m => (List.mem_append.mp m).elim n fun z => h (f1 c z)
  refine ⟨⟨s1.ex.trans s2.ex, fun c o n nt h => s2.kp c o (out c (by rw [h]; simp) n) nt (s1.kp c o n nt h), fun c h1 h2 n => s2.fr c (s1.dm c h1) (s1.fr c h1 h2 n) (out c h1 n), fun c h => s2.dm c (s1.dm c h)⟩, e1 ++ e2, by rw [List.append_assoc], fun a ha => ?_⟩
  rcases List.mem_append.mp ha with h | h
  · exact f1 a h
  · cases q : H a with
    | none => rfl
    | some o => exact absurd (f2 a h) (s1.dm a (by rw [q]; simp))
theorem Vr.monoS (s : StepS as F H as' F' H') (h : Vr K F H as v r) : Vr K F' H' as' v r := by
  obtain ⟨s1, e1, rfl, f1⟩ := s
  have h' := h.mono s1
  cases r with
  | cel k =>
    obtain ⟨a, h1, h2⟩ := h'
    exact ⟨a, h1, by rw [List.getElem?_append_left (List.getElem?_eq_some_iff.mp h2).1]; exact h2⟩
  | fre xs =>
    obtain ⟨a, vs, rfl, h2, h3, h4, h5⟩ := h'
    refine ⟨a, vs, rfl, h2, h3, fun m => ?_, h5⟩
    rcases List.mem_append.mp m with z | z
    · exact h4 z
    · obtain ⟨a', vs', e, g2, _⟩ := h
      cases e
      rw [f1 a z] at g2
      cases g2
  | un => exact h'
  | dat d => exact h'
  | dik kvs => exact h'
  | dit P w kvs => exact h'
theorem Sls.monoS (s : StepS as F H as' F' H') (h : Sls K F H as σ Γ) : Sls K F' H' as' σ Γ := fun i r e q => by
  obtain ⟨v, h1, h2⟩ := h i r e q
  exact ⟨v, h1, h2.monoS s⟩
theorem newS {z : V} {rc : Sl} (st : StepS as F H as' F' H') (h : New H' z rc) : New H z rc := newBack st.st h
end
/-- what is wanted of the ends -/
def EndsD (K : PySem.W.Frag) (F H : Hp) (as : List Addr) (D : Ends) : Out → Prop
  | .nx Γ' μ' => ∀ σ' F' H' as', StepS as F H as' F' H' → Clz K F' H' as' μ' → Sls K F' H' as' σ' Γ' → D.nx σ' H'
  | .ct Γ' μ' => ∀ σ' F' H' as', StepS as F H as' F' H' → Clz K F' H' as' μ' → Sls K F' H' as' σ' Γ' → D.ct σ' H'
  | .rt r μ' => ∀ v F' H' as', StepS as F H as' F' H' → Clz K F' H' as' μ' → Vr K F' H' as' v r → New H v r → D.rt v H'
theorem EndsD.go {K : PySem.W.Frag} {F H F1 H1 : Hp} {as as1 : List Addr} {D : Ends} {o : Out} (kk : EndsD K F H as D o) (st : StepS as F H as1 F1 H1) : EndsD K F1 H1 as1 D o := by
  cases o with
  | nx Γ' μ' => exact fun σ2 F2 H2 as2 st2 c2 sl2 => kk σ2 F2 H2 as2 (st.trans st2) c2 sl2
  | ct Γ' μ' => exact fun σ2 F2 H2 as2 st2 c2 sl2 => kk σ2 F2 H2 as2 (st.trans st2) c2 sl2
  | rt r μ' => exact fun v F2 H2 as2 st2 c2 hv hn => kk v F2 H2 as2 (st.trans st2) c2 hv (newS st hn)
/-- the reading of a statement -/
def tSD (K : PySem.W.Frag) (Γ : List Sl) (μ : Mu) (o : Out) : TS := fun D σ H => ∃ F as, Clz K F H as μ ∧ Sls K F H as σ Γ ∧ EndsD K F H as D o
abbrev StD (X : Cx) (Γ : List Sl) (μ : Mu) (s : Stmt) (o : Out) : Prop := PS X s (tSD X.K Γ μ o)
abbrev SsD (X : Cx) (Γ : List Sl) (μ : Mu) (ss : List Stmt) (o : Out) : Prop := PSs X ss (tSD X.K Γ μ o)
def Out.nxt : Out → Bool
  | .nx _ _ => true
  | _ => false
/-- what is known of fewer slots -/
inductive Fits : List Sl → List Sl → Prop where
  | nil : Fits [] []
  | keep {r : Sl} {Γ Γ' : List Sl} : Fits Γ Γ' → Fits (r :: Γ) (r :: Γ')
  | drop {r : Sl} {Γ Γ' : List Sl} : Fits Γ Γ' → Fits (r :: Γ) (.un :: Γ')
theorem Fits.get : ∀ {Γ Γ' : List Sl}, Fits Γ Γ' → ∀ (i : Nat) (r : Sl), Γ'[i]? = some r → r.sta = true → Γ[i]? = some r
  | _, _, .nil, i, r, h, _ => by simp at h
  | _, _, .keep f, 0, r, h, _ => h
  | _, _, .keep f, i + 1, r, h, hs => by
    rw [List.getElem?_cons_succ] at h ⊢
    exact f.get i r h hs
  | _, _, .drop f, 0, r, h, hs => by
    cases h
    cases hs
  | _, _, .drop f, i + 1, r, h, hs => by
    rw [List.getElem?_cons_succ] at h ⊢
    exact f.get i r h hs
theorem Fits.refl : ∀ {Γ : List Sl}, Fits Γ Γ
  | [] => .nil
  | _ :: _ => .keep .refl
theorem Sls.fits {K : PySem.W.Frag} {F H : Hp} {as : List Addr} {σ : L2.St} {Γ Γ' : List Sl} (s : Sls K F H as σ Γ) (f : Fits Γ Γ') : Sls K F H as σ Γ' := fun i r e q => s i r (f.get i r e q) q
section
variable {X : Cx} {k : Nat} {Γ Γ1 Γ2 : List Sl} {μ μ1 μ2 μ3 : Mu} {e a b tg : Expr} {es tgs : List Expr} {r ra rb rc : Sl} {rs : List Sl} {pos p : Pos} {ds xs : List PyData} {d : PyData} {s : Stmt} {ss tt : List Stmt} {o : Out}
theorem pss_le {t t' : TS} (h : PSs X ss t) (le : ∀ D σ H, t' D σ H → t D σ H) : PSs X ss t' := ⟨fun pins s σ H D I q => h.run pins s σ H D I (le _ _ _ q)⟩
theorem ss_nil : SsD X Γ μ [] (.nx Γ μ) := pss_le pss_nil fun D σ H q => by
  obtain ⟨F, as, c, sl, kk⟩ := q
  exact kk σ F H as StepS.refl c sl
theorem ss_cons (h1 : StD X Γ μ s (.nx Γ1 μ1)) (h2 : SsD X Γ1 μ1 ss o) : SsD X Γ μ (s :: ss) o := pss_le (pss_cons h1 h2) fun D σ H q => by
  obtain ⟨F, as, c, sl, kk⟩ := q
  refine ⟨F, as, c, sl, fun σ' F' H' as' st c' sl' => ⟨F', as', c', sl', ?_⟩⟩
  have k2 := kk.go st
  cases o with
  | nx Γ' μ' => exact k2
  | ct Γ' μ' => exact k2
  | rt r μ' => exact k2
/-- behind it nothing is run -/
theorem ss_end (h1 : StD X Γ μ s o) (ho : o.nxt = false := by rfl) : SsD X Γ μ (s :: ss) o := by
  refine ⟨fun pins s1 σ H D I h => ?_⟩
  refine wpAny_execs_cons (thn (h1.run pins s1 σ H { D with nx := fun _ _ => False } I ?_) fun f s2 q => ?_)
  · obtain ⟨F, as, c, sl, kk⟩ := h
    refine ⟨F, as, c, sl, ?_⟩
    cases o with
    | nx Γ' μ' => cases ho
    | ct Γ' μ' => exact kk
    | rt r μ' => exact kk
  · cases f with
    | next =>
      obtain ⟨_, _, _, q⟩ := q
      exact False.elim q
    | ret v => exact q
    | brk => exact q
    | cont => exact q
theorem ss_one (h1 : StD X Γ μ s o) : SsD X Γ μ [s] o := pss_one h1
theorem ss_app (h1 : SsD X Γ μ ss (.nx Γ1 μ1)) (f : Fits Γ1 Γ2) : SsD X Γ μ ss (.nx Γ2 μ1) := pss_le h1 fun D σ H q => by
  obtain ⟨F, as, c, sl, kk⟩ := q
  exact ⟨F, as, c, sl, fun σ' F' H' as' st c' sl' => kk σ' F' H' as' st c' (sl'.fits f)⟩
/-- fewer slots known ahead -/
theorem ss_fits (f : Fits Γ Γ1) (h1 : SsD X Γ1 μ ss o) : SsD X Γ μ ss o := pss_le h1 fun D σ H q => by
  obtain ⟨F, as, c, sl, kk⟩ := q
  exact ⟨F, as, c, sl.fits f, kk⟩
theorem st_doc {x j} {p2 : Pos} : StD X Γ μ (.Expr (.Constant (.str x) j p) p2) (.nx Γ μ) := ps_le ps_doc fun D σ H q => by
  obtain ⟨F, as, c, sl, kk⟩ := q
  exact kk σ F H as StepS.refl c sl
theorem st_cont : StD X Γ μ (.Continue p) (.ct Γ μ) := ps_le ps_continue fun D σ H q => by
  obtain ⟨F, as, c, sl, kk⟩ := q
  exact kk σ F H as StepS.refl c sl
/-- a name is stored, from the value's reading -/
theorem st_store {i : Nat} {x : Str} {t : TS} {te : TE} (hi : X.N[i]? = some x) (h : PS X s (tAsg te (gName i))) {o : Out}
    (le : ∀ (D : Ends) (σ : L2.St) (H : Hp), i < σ.length → tSD X.K Γ μ o D σ H → te σ H fun v H1 => D.nx (σ.set i (some v)) H1) : StD X Γ μ s o := ⟨fun pins s1 σ H D I q => by
  have hl : i < σ.length := by rw [I.len]; exact (List.getElem?_eq_some_iff.mp hi).1
  exact h.run pins s1 σ H D I (le D σ H hl q)⟩
theorem store_dat {i : Nat} (hs : r.sta = true) : ∀ (D : Ends) (σ : L2.St) (H : Hp), i < σ.length → tSD X.K Γ μ (.nx (Γ.set i r) μ1) D σ H → tD X.K Γ μ r μ1 σ H fun v H1 => D.nx (σ.set i (some v)) H1 := fun D σ H hl q => by
  obtain ⟨F, as, c, sl, kk⟩ := q
  exact ⟨F, as, c, sl, fun v F' H' st c' hv _ => kk _ F' H' as (StepS.of st) c' ((sl.mono st).put hl hv)⟩
/-- a new mutable list -/
theorem clz_new {F H : Hp} {as : List Addr} {ys : List V} {A : Addr} (c : Clz X.K F H as μ) (h : H A = some (.lst ys)) (hF : F A = none) (hn : A ∉ as) (hd : DpAll X.K F ys xs) : Clz X.K F H (as ++ [A]) (μ ++ [some xs]) := by
  refine ⟨c.sub, List.nodup_append.mpr ⟨c.nd, by simp, fun a ha b hb => ?_⟩, by simp [c.len], fun j zs hj => ?_, fun a ha => ?_, c.tab, c.nt⟩
  · rw [List.mem_singleton] at hb
    subst hb
    rintro rfl
    exact hn ha
  · by_cases hlt : j < μ.length
    · rw [List.getElem?_append_left hlt] at hj
      obtain ⟨a', vs, g1, g2, g3, g4⟩ := c.cel j zs hj
      exact ⟨a', vs, by rw [List.getElem?_append_left (by rw [c.len]; exact hlt)]; exact g1, g2, g3, g4⟩
    · rw [List.getElem?_append_right (by omega)] at hj
      have e : j - μ.length = 0 := by
        have := (List.getElem?_eq_some_iff.mp hj).1
        simp at this
        omega
      rw [e] at hj
      have hz : xs = zs := by simpa using hj
      subst hz
      exact ⟨A, ys, by rw [List.getElem?_append_right (by rw [c.len]; omega), c.len, e]; rfl, hF, h, hd⟩
  · rcases List.mem_append.mp ha with z | z
    · exact c.there a z
    · rw [List.mem_singleton.mp z, h]; simp
theorem store_new {i : Nat} : ∀ (D : Ends) (σ : L2.St) (H : Hp), i < σ.length → tSD X.K Γ μ (.nx (Γ.set i (.cel μ1.length)) (μ1 ++ [some xs])) D σ H → tD X.K Γ μ (.fre xs) μ1 σ H fun v H1 => D.nx (σ.set i (some v)) H1 := fun D σ H hl q => by
  obtain ⟨F, as, c, sl, kk⟩ := q
  refine ⟨F, as, c, sl, fun v F' H' st c' hv hn => ?_⟩
  obtain ⟨A, ys, rfl, h2, h3, h4, h5⟩ := hv
  have st' : StepS as F H (as ++ [A]) F' H' := ⟨st, [A], rfl, fun b hb => by rw [List.mem_singleton.mp hb]; exact hn A rfl⟩
  refine kk _ F' H' (as ++ [A]) st' (clz_new c' h2 h3 h4 h5) ((sl.monoS st').put hl ⟨A, rfl, ?_⟩)
  rw [← c'.len, List.getElem?_append_right (Nat.le_refl _), Nat.sub_self]
  rfl
variable {i : Nat} {x : Str} {p2 : Pos}
/-- name = data -/
theorem st_set (c : Cz k X) (i : Nat) (h : Ev X Γ μ e r μ1) (hs : r.sta = true := by rfl) (hN : X.N[i]? = some x := by rfl) (hx : Loc X.env.scope x := by first | exact Or.inl rfl | exact Or.inr rfl) (hf : X.fn x = true ∨ X.env.scope.names.lookup x = some .local := by first | exact .inl rfl | exact .inr rfl)
    (hsw : swapsWith e (some (.Name x p2)) pos.line X.env = pure false := by rfl) : StD X Γ μ (.Assign [.Name x p2] e pos) (.nx (Γ.set i r) μ1) := st_store (t := tNext) hN (ps_set c.nd hN hx h hsw hf) (store_dat hs)
theorem st_new (c : Cz k X) (i : Nat) (h : Ev X Γ μ e (.fre xs) μ1) (hN : X.N[i]? = some x := by rfl) (hx : Loc X.env.scope x := by first | exact Or.inl rfl | exact Or.inr rfl) (hf : X.fn x = true ∨ X.env.scope.names.lookup x = some .local := by first | exact .inl rfl | exact .inr rfl)
    (hsw : swapsWith e (some (.Name x p2)) pos.line X.env = pure false := by rfl) : StD X Γ μ (.Assign [.Name x p2] e pos) (.nx (Γ.set i (.cel μ1.length)) (μ1 ++ [some xs])) := st_store (t := tNext) hN (ps_set c.nd hN hx h hsw hf) store_new
theorem frz_le : ∀ σ H Q, tD X.K Γ μ (.dat (.list xs)) μ1 σ H Q → tD X.K Γ μ (.fre xs) μ1 σ H Q := fun σ H Q q => by
  obtain ⟨F, as, c, s, k⟩ := q
  refine ⟨F, as, c, s, fun v F' H' st c' hv hn => ?_⟩
  obtain ⟨a, vs, rfl, h2, h3, h4, h5⟩ := hv
  have hnew : H a = none := hn a rfl
  have ex : Ex F' (upd F' a (.lst vs)) := Ex.new h3
  refine k (.ref a) (upd F' a (.lst vs)) H' ⟨st.ex.trans ex, st.kp, fun b h1 h2' n => ?_, st.dm⟩ ⟨fun b o q => ?_, c'.nd, c'.len, fun k xs q => ?_, c'.there, c'.tab, fun b ps q => ?_⟩ (.lst (.inl (.inl upd_same)) (ex.dpAll h5)) trivial
  · have : b ≠ a := by
      rintro rfl
      exact h1 hnew
    rw [upd_ne this]
    exact st.fr b h1 h2' n
  · by_cases hb : b = a
    · rw [hb, upd_same] at q
      cases q
      rw [hb]
      exact h2
    · rw [upd_ne hb] at q
      exact c'.sub b o q
  · obtain ⟨a', vs', g1, g2, g3, g4⟩ := c'.cel k xs q
    refine ⟨a', vs', g1, ?_, g3, ex.dpAll g4⟩
    have : a' ≠ a := by
      rintro rfl
      exact h4 (List.mem_of_getElem? g1)
    rw [upd_ne this]
    exact g2
  · by_cases hb : b = a
    · rw [hb, upd_same] at q
      cases q
    · rw [upd_ne hb] at q
      exact c'.nt b ps q
theorem EvB.frz (h : EvB X e (tD X.K Γ μ (.fre xs) μ1)) : EvB X e (tD X.K Γ μ (.dat (.list xs)) μ1) := h.le frz_le
/-- the same, of a comprehension on the name's own line -/
theorem st_setB (c : Cz k X) (i : Nat) (h : EvB X e (tD X.K Γ μ r μ1)) (hsw : swapsWith e (some (.Name x p2)) pos.line X.env = pure true) (hs : r.sta = true := by rfl) (hN : X.N[i]? = some x := by rfl) (hx : X.env.scope.names.lookup x = some .local := by rfl) :
    StD X Γ μ (.Assign [.Name x p2] e pos) (.nx (Γ.set i r) μ1) := st_store (t := tNext) hN (h.ps hN hx hsw) (store_dat hs)
theorem st_newB (c : Cz k X) (i : Nat) (h : EvB X e (tD X.K Γ μ (.fre xs) μ1)) (hsw : swapsWith e (some (.Name x p2)) pos.line X.env = pure true) (hN : X.N[i]? = some x := by rfl) (hx : X.env.scope.names.lookup x = some .local := by rfl) :
    StD X Γ μ (.Assign [.Name x p2] e pos) (.nx (Γ.set i (.cel μ1.length)) (μ1 ++ [some xs])) := st_store (t := tNext) hN (h.ps hN hx hsw) store_new
/-- return -/
theorem st_ret (h : Ev X Γ μ e r μ1) : StD X Γ μ (.Return (some e) pos) (.rt r μ1) := ps_le (ps_ret h) fun D σ H q => by
  obtain ⟨F, as, c, sl, kk⟩ := q
  exact ⟨F, as, c, sl, fun v F' H' st c' hv hn => kk v F' H' as (StepS.of st) c' hv hn⟩
/-- a value dropped -/
theorem st_expr (h : Ev X Γ μ e r μ1) (hs : swapsWith e none pos.line X.env = pure false := by rfl) : StD X Γ μ (.Expr e pos) (.nx Γ μ1) := ps_le (ps_expr h hs) fun D σ H q => by
  obtain ⟨F, as, c, sl, kk⟩ := q
  exact ⟨F, as, c, sl, fun v F' H' st c' hv hn => kk σ F' H' as (StepS.of st) c' (sl.mono st)⟩
/-- if -/
theorem st_if {c : Expr} {q : Bool} (hc : EvT X Γ μ c q μ1) (h1 : q = true → SsD X Γ μ1 ss o) (h2 : q = false → SsD X Γ μ1 tt o) : StD X Γ μ (.If c ss tt pos) o := by
  cases q with
  | true =>
    refine ps_le (ps_if hc (h1 rfl) pss_never) fun D σ H q => ?_
    obtain ⟨F, as, c, sl, kk⟩ := q
    exact ⟨F, as, c, sl, fun F' H' st c' => iteT ⟨F', as, c', sl.mono st, kk.go (StepS.of st)⟩⟩
  | false =>
    refine ps_le (ps_if hc pss_never (h2 rfl)) fun D σ H q => ?_
    obtain ⟨F, as, c, sl, kk⟩ := q
    exact ⟨F, as, c, sl, fun F' H' st c' => iteF ⟨F', as, c', sl.mono st, kk.go (StepS.of st)⟩⟩
/-- targets in a row take a tuple's items -/
theorem st_unp (c : Cz k X) (vs : List Nat) {n : Nat} (h : Ev X Γ μ e (.dat d) μ1) (hg : EvG X vs Γ (.Tuple tgs n p) d Γ1) (hs : swapsWithSole [.Tuple tgs n p] e pos.line X.env = pure false := by rfl) (hw : swappedStores [.Tuple tgs n p] e X.env = pure none := by rfl)
    (h1 : (assignEach [.Tuple tgs n p] X.env).map (·.2) = [assign (.Tuple tgs n p) X.env] := by rfl) : StD X Γ μ (.Assign [.Tuple tgs n p] e pos) (.nx Γ1 μ1) := ps_le (ps_asg h hg hs hw h1) fun D σ H q => by
  obtain ⟨F, as, c, sl, kk⟩ := q
  refine ⟨F, as, c, sl, fun v F' H' st c' hv _ => ⟨F', as, μ1, c', sl.mono st, hv, fun σ' _ sl' => kk σ' F' H' as (StepS.of st) c' sl'⟩⟩
end
end DL
end
section
set_option autoImplicit false
/-! D-layer 8: mutable lists, stores in a row, loops. -/
namespace DL
open PySem PySem.Spec PyProof.Rows L2
open PySem.W (Datum Tup DatumOrd Holds HoldAll T3)

section
variable {X : Cx} {k : Nat} {Γ Γ1 Γ2 : List Sl} {μ μ1 μ2 μ3 : Mu} {e a b tg : Expr} {es tgs : List Expr} {r ra rb rc : Sl} {rs : List Sl} {pos p : Pos} {ds xs : List PyData} {d : PyData} {s : Stmt} {ss tt : List Stmt} {o : Out} {n : Nat}
theorem ixN_n {n j : Nat} (hj : j < n) : ixN n (j : Int) = some j := by
  unfold ixN
  rw [if_pos (Int.natCast_nonneg j), if_pos (Int.ofNat_lt.mpr hj), Int.toNat_natCast]
/-- the list number n is written -/
theorem clz_set {F H : Hp} {as : List Addr} {vs ws : List V} {A : Addr} {ys : List PyData} (c : Clz X.K F H as μ) (hA : as[n]? = some A) (hx : μ[n]? = some (some xs)) (hd : DpAll X.K F ws ys) :
    Clz X.K F (upd H A (.lst ws)) as (μ.set n (some ys)) ∧ Step as F H F (upd H A (.lst ws)) := by
  obtain ⟨A', vs', g1, g2, g3, g4⟩ := c.cel n xs hx
  rw [hA] at g1
  cases g1
  have mem : A ∈ as := List.mem_of_getElem? hA
  refine ⟨⟨fun b o e => ?_, c.nd, by simp [c.len], fun j zs e => ?_, fun b hb => ?_, tabs_upd c.tab g3, c.nt⟩, ⟨Ex.refl F, fun b o nb nt e => ?_, fun b _ h _ => h, fun b e => ?_⟩⟩
  · have : b ≠ A := by rintro rfl; rw [g2] at e; cases e
    rw [upd_ne this]
    exact c.sub b o e
  · by_cases hj : n = j
    · subst hj
      rw [List.getElem?_set_self (List.getElem?_eq_some_iff.mp hx).1] at e
      cases e
      exact ⟨A, ws, hA, g2, upd_same, hd⟩
    · rw [List.getElem?_set_ne hj] at e
      obtain ⟨B, us, h1, h2, h3, h4⟩ := c.cel j zs e
      have : B ≠ A := by
        rintro rfl
        exact hj ((List.getElem?_inj (List.getElem?_eq_some_iff.mp hA).1 c.nd).mp (hA.trans h1.symm))
      exact ⟨B, us, h1, h2, by rw [upd_ne this]; exact h3, h4⟩
  · by_cases hb2 : b = A
    · rw [hb2, upd_same]; simp
    · rw [upd_ne hb2]; exact c.there b hb
  · have : b ≠ A := by rintro rfl; exact nb mem
    rw [upd_ne this]
    exact e
  · by_cases hb2 : b = A
    · rw [hb2, upd_same]; simp
    · rw [upd_ne hb2]; exact e
theorem tyL {H : Hp} {A : Addr} {vs : List V} (h : SqL X.K H A vs) : tyV X.K "list" (.ref A) H := .inl ⟨rfl, vs, h⟩
/-- x.append(e) -/
theorem ev_append {apos : Pos} (ho : Ev X Γ μ a (.cel n) μ1) (he : Ev X Γ μ1 e (.dat d) μ2) (hx1 : ∃ ys, μ1[n]? = some (some ys)) (hx : μ2[n]? = some (some xs)) (hz : xs.length ≤ 100000)
    (hbase : attributeBase a "append" X.env (eval a X.env) = eval a X.env := by rfl) (hline : (apos.endLine == pos.line) = true := by rfl) (hs : starEach [e] X.env = (false, eval e X.env) :: starEach [] X.env := by rfl)
    (hfew : ((backTo pos (starEach [e] X.env)).all (fun x => !x.1) && (backToKw pos (keywordEach [] X.env)).all (fun x => x.1.isSome)
      && decide ([e].length + ([] : List Keyword).length + (if ([] : List Keyword).isEmpty then 0 else 1) < 30)) = true := by rfl) :
    Ev X Γ μ (.Call (.Attribute a "append" apos) [e] [] pos) (dd ()) (μ2.set n (some (xs ++ [d]))) :=
  pe_le (pe_bm PySem.F.plainAttrs_list PySem.F.slot_list_append PySem.F.type_list_append mt_append ho (ea_cons he ea_nil hs) hbase hfew hline hs) fun σ H Q q => by
    obtain ⟨F, as, c, sl, kk⟩ := q
    refine ⟨F, as, c, sl, fun v F1 H1 st1 c1 hv _ => ?_⟩
    obtain ⟨A, rfl, hA⟩ := hv
    obtain ⟨ys, hy⟩ := hx1
    obtain ⟨A', us, g1, g2, g3, g4⟩ := c1.cel n ys hy
    rw [hA] at g1
    cases g1
    refine ⟨tyL (.inl (.inl g3)), F1, as, c1, sl.mono st1, fun ws F2 H2 st2 c2 hws => ?_⟩
    obtain ⟨y, rfl, hy2⟩ := hws.one
    obtain ⟨A', us2, h1, h2, h3, h4⟩ := c2.cel n xs hx
    rw [hA] at h1
    cases h1
    obtain ⟨c3, st3⟩ := clz_set (ws := us2 ++ [y]) (vs := us2) c2 hA hx (h4.snoc hy2)
    exact ⟨A, us2, y, rfl, rfl, h3, by rw [h4.length, sizeLine_eq]; omega, kk .non F2 _ ((st1.trans st2).trans st3) c3 .non trivial⟩
/-- x.pop() -/
theorem ev_pop {apos : Pos} (ho : Ev X Γ μ a (.cel n) μ) (hx : μ[n]? = some (some (xs ++ [d])))
    (hbase : attributeBase a "pop" X.env (eval a X.env) = eval a X.env := by rfl) (hline : (apos.endLine == pos.line) = true := by rfl) :
    Ev X Γ μ (.Call (.Attribute a "pop" apos) [] [] pos) (.dat d) (μ.set n (some xs)) :=
  pe_le (pe_bm0 PySem.F.plainAttrs_list PySem.F.slot_list_pop PySem.F.type_list_pop mt_pop ho hbase hline) fun σ H Q q => by
    obtain ⟨F, as, c, sl, kk⟩ := q
    refine ⟨F, as, c, sl, fun v F1 H1 st1 c1 hv _ => ?_⟩
    obtain ⟨A, rfl, hA⟩ := hv
    obtain ⟨A', us, g1, g2, g3, g4⟩ := c1.cel n _ hx
    rw [hA] at g1
    cases g1
    refine ⟨tyL (.inl (.inl g3)), ?_⟩
    have hl : us.length = xs.length + 1 := by rw [g4.length]; simp
    obtain ⟨y, e1, e2⟩ := g4.get' (i := us.length - 1) (d := d) (by rw [hl]; simp)
    have hd := g4.dropLast
    rw [List.dropLast_concat] at hd
    obtain ⟨c3, st3⟩ := clz_set (ws := us.dropLast) (vs := us) c1 hA hx hd
    exact ⟨A, us, y, rfl, rfl, g3, e1, kk y F1 _ (st1.trans st3) c3 e2 trivial⟩
/-- x.pop(e) -/
theorem ev_popAt {apos : Pos} {j : Nat} {jj : Int} (ho : Ev X Γ μ a (.cel n) μ1) (he : Ev X Γ μ1 e (dd jj) μ2) (hx1 : ∃ ys, μ1[n]? = some (some ys)) (hx : μ2[n]? = some (some xs)) (hj : jj = (j : Int)) (hd : xs[j]? = some d) (hz : xs.length ≤ 100000)
    (hbase : attributeBase a "pop" X.env (eval a X.env) = eval a X.env := by rfl) (hline : (apos.endLine == pos.line) = true := by rfl) (hs : starEach [e] X.env = (false, eval e X.env) :: starEach [] X.env := by rfl)
    (hfew : ((backTo pos (starEach [e] X.env)).all (fun x => !x.1) && (backToKw pos (keywordEach [] X.env)).all (fun x => x.1.isSome)
      && decide ([e].length + ([] : List Keyword).length + (if ([] : List Keyword).isEmpty then 0 else 1) < 30)) = true := by rfl) :
    Ev X Γ μ (.Call (.Attribute a "pop" apos) [e] [] pos) (.dat d) (μ2.set n (some (xs.eraseIdx j))) := by
  refine ⟨fun pins s σ H Q I q => ?_⟩
  refine (pe_bm PySem.F.plainAttrs_list PySem.F.slot_list_pop PySem.F.type_list_pop (r := fun x vs H Q => rPopAt x vs H Q) mt_popAt ho (ea_cons he ea_nil hs) hbase hfew hline hs).run pins s σ H Q I ?_
  obtain ⟨F, as, c, sl, kk⟩ := q
  refine ⟨F, as, c, sl, fun v F1 H1 st1 c1 hv _ => ?_⟩
  obtain ⟨A, rfl, hA⟩ := hv
  obtain ⟨ys, hy⟩ := hx1
  obtain ⟨A', us, g1, g2, g3, g4⟩ := c1.cel n ys hy
  rw [hA] at g1
  cases g1
  refine ⟨tyL (.inl (.inl g3)), F1, as, c1, sl.mono st1, fun ws F2 H2 st2 c2 hws => ?_⟩
  obtain ⟨y, rfl, hy2⟩ := hws.one
  cases hy2
  obtain ⟨A', us2, h1, h2, h3, h4⟩ := c2.cel n xs hx
  rw [hA] at h1
  cases h1
  obtain ⟨z, e1, e2⟩ := h4.get' hd
  obtain ⟨c3, st3⟩ := clz_set (ws := us2.eraseIdx j) (vs := us2) c2 hA hx (h4.eraseIdx j)
  have hlt : j < us2.length := (List.getElem?_eq_some_iff.mp e1).1
  have hl := h4.length
  refine ⟨A, us2, (j : Int), j, z, rfl, by rw [hj], h3, by omega, by omega, ?_, e1, kk z F2 _ ((st1.trans st2).trans st3) c3 e2 trivial⟩
  rw [seqIndex_of (by omega) (by omega), Int.toNat_natCast]
/-- xs[e] = e2 -/
theorem st_setix {j : Nat} {jj : Int} {p2 : Pos} (hv : Ev X Γ μ b (.dat d) μ1) (ho : Ev X Γ μ1 a (.cel n) μ2) (he : Ev X Γ μ2 e (dd jj) μ3) (hx : μ3[n]? = some (some xs)) (hj : jj = (j : Int)) (hd : j < xs.length)
    (ha : ∀ v, assign (.Subscript a e p2) X.env v = (do
      let ov ← holding [v] (eval a X.env)
      let iv ← holding [v, ov] (eval e X.env)
      standAt p2
      holding [v, ov, iv] (setItem ov iv v)
      release [v, ov, iv] []) := by intro _; rfl) (hs : swapsWithSole [.Subscript a e p2] b pos.line X.env = pure false := by rfl) (hw : swappedStores [.Subscript a e p2] b X.env = pure none := by rfl)
    (h1 : (assignEach [.Subscript a e p2] X.env).map (·.2) = [assign (.Subscript a e p2) X.env] := by rfl) : StD X Γ μ (.Assign [.Subscript a e p2] b pos) (.nx Γ (μ3.set n (some (xs.set j d)))) :=
  ps_le (ps_asg hv (pg_sub ho he set_list ha) hs hw h1) fun D σ H q => by
    obtain ⟨F, as, c, sl, kk⟩ := q
    refine ⟨F, as, c, sl, fun v F1 H1 st1 c1 hv _ => ⟨F1, as, c1, sl.mono st1, fun x F2 H2 st2 c2 hx2 _ => ⟨F2, as, c2, sl.mono (st1.trans st2), fun y F3 H3 st3 c3 hy _ => ?_⟩⟩⟩
    obtain ⟨A, rfl, hA⟩ := hx2
    cases hy
    obtain ⟨A', us2, g1, g2, g3, g4⟩ := c3.cel n xs hx
    rw [hA] at g1
    cases g1
    have hv3 : Dp X.K F3 v d := st3.ex.dp (st2.ex.dp hv)
    obtain ⟨c4, st4⟩ := clz_set (ws := us2.set j v) (vs := us2) c3 hA hx (g4.set j hv3)
    have st := ((st1.trans st2).trans st3).trans st4
    refine ⟨A, us2, jj, j, rfl, rfl, g3, ?_, kk σ F3 _ as (StepS.of st) c4 (sl.mono st)⟩
    rw [hj, g4.length]
    exact ixN_n hd
/-- the list number n is given up: from now on it never changes -/
def frzG (n : Nat) (xs : List PyData) (Γ : List Sl) : List Sl := Γ.map fun r => match r with
  | .cel j => if j = n then .dat (.list xs) else .cel j
  | r => r
theorem ss_frz (hx : μ[n]? = some (some xs)) (h : SsD X (frzG n xs Γ) (μ.set n none) ss o) : SsD X Γ μ ss o := pss_le h fun D σ H q => by
  obtain ⟨F, as, c, sl, kk⟩ := q
  obtain ⟨A, vs, g1, g2, g3, g4⟩ := c.cel n xs hx
  have ex : Ex F (upd F A (.lst vs)) := Ex.new g2
  have c' : Clz X.K (upd F A (.lst vs)) H as (μ.set n none) := by
    refine ⟨fun b o e => ?_, c.nd, by simp [c.len], fun j zs e => ?_, c.there, c.tab, fun b ps e => ?_⟩
    · by_cases hb : b = A
      · rw [hb, upd_same] at e
        cases e
        rw [hb]
        exact g3
      · rw [upd_ne hb] at e
        exact c.sub b o e
    · by_cases hj : n = j
      · subst hj
        rw [List.getElem?_set_self (List.getElem?_eq_some_iff.mp hx).1] at e
        cases e
      · rw [List.getElem?_set_ne hj] at e
        obtain ⟨B, us, h1, h2, h3, h4⟩ := c.cel j zs e
        have : B ≠ A := by
          rintro rfl
          exact hj ((List.getElem?_inj (List.getElem?_eq_some_iff.mp g1).1 c.nd).mp (g1.trans h1.symm))
        exact ⟨B, us, h1, by rw [upd_ne this]; exact h2, h3, ex.dpAll h4⟩
    · by_cases hb : b = A
      · rw [hb, upd_same] at e
        cases e
      · rw [upd_ne hb] at e
        exact c.nt b ps e
  have sl' : Sls X.K (upd F A (.lst vs)) H as σ (frzG n xs Γ) := fun i r e hs => by
    unfold frzG at e
    rw [List.getElem?_map] at e
    cases q : Γ[i]? with
    | none => rw [q] at e; cases e
    | some r0 =>
      rw [q] at e
      have e2 : _ = r := Option.some.inj e
      subst e2
      cases r0 with
      | cel j =>
        obtain ⟨v, h1, B, rfl, h2⟩ := sl i _ q rfl
        by_cases hj : j = n
        · subst hj
          rw [g1] at h2
          cases h2
          refine ⟨_, h1, ?_⟩
          simp only [if_true]
          exact .lst (.inl (.inl upd_same)) (ex.dpAll g4)
        · refine ⟨_, h1, ?_⟩
          simp only [hj, if_false]
          exact ⟨B, rfl, h2⟩
      | un => cases hs
      | fre zs => cases hs
      | dat d =>
        obtain ⟨v, h1, h2⟩ := sl i _ q rfl
        exact ⟨v, h1, ex.dp h2⟩
      | dik kvs =>
        obtain ⟨v, h1, B, h2, h3⟩ := sl i _ q rfl
        exact ⟨v, h1, B, h2, ex B _ h3⟩
      | dit P w kvs =>
        obtain ⟨v, h1, B, h2, h3⟩ := sl i _ q rfl
        exact ⟨v, h1, B, h2, h3.ex ex⟩
  refine ⟨upd F A (.lst vs), as, c', sl', kk.go ?_⟩
  exact StepS.of ⟨ex, fun b o _ _ h => h, fun b h1 h2 h3 => by
    have : b ≠ A := by rintro rfl; exact h3 (List.mem_of_getElem? g1)
    rw [upd_ne this]; exact h2, fun b h => h⟩
/-- x, y = a, b: the values' slots -/
inductive Put : Mu → List Sl → List Sl → Mu → Prop where
  | nil {μ : Mu} : Put μ [] [] μ
  | sta {μ μ' : Mu} {r : Sl} {rs rs' : List Sl} (h : r.sta = true) (t : Put μ rs rs' μ') : Put μ (r :: rs) (r :: rs') μ'
  | new {μ μ' : Mu} {xs : List PyData} {rs rs' : List Sl} (t : Put (μ ++ [some xs]) rs rs' μ') : Put μ (.fre xs :: rs) (.cel μ.length :: rs') μ'
  | frz {μ μ' : Mu} {xs : List PyData} {rs rs' : List Sl} (t : Put μ rs rs' μ') : Put μ (.fre xs :: rs) (.dat (.list xs) :: rs') μ'
/-- the new lists among values -/
def frA : List V → List Sl → List Addr
  | .ref a :: vs, .fre _ :: rs => a :: frA vs rs
  | _ :: vs, _ :: rs => frA vs rs
  | _, _ => []
theorem frA_cons (v : V) (vs : List V) (r : Sl) (rs : List Sl) : frA (v :: vs) (r :: rs) = frA [v] [r] ++ frA vs rs := by
  cases v <;> cases r <;> rfl
theorem frA_off {v : V} {vs : List V} (h : r.sta = true) : frA (v :: vs) (r :: rs) = frA vs rs := by
  cases r <;> first | (cases h; done) | (cases v <;> rfl)
/-- arguments, the new lists known -/
def tDN (K : PySem.W.Frag) (Γ : List Sl) (μ : Mu) (rs : List Sl) (μ' : Mu) : TA := fun σ H Q => ∃ F as, Clz K F H as μ ∧ Sls K F H as σ Γ ∧
  ∀ vs F' H', Step as F H F' H' → Clz K F' H' as μ' → VrA K F' H' as vs rs → (frA vs rs).Nodup → (∀ a ∈ frA vs rs, H a = none) → Q vs H'
abbrev EvN (X : Cx) (Γ : List Sl) (μ : Mu) (es : List Expr) (rs : List Sl) (μ' : Mu) : Prop := PA X es (tDN X.K Γ μ rs μ')
theorem en_nil : EvN X Γ μ [] [] μ := pa_le pa_nil fun σ H Q q => by
  obtain ⟨F, as, c, s, kk⟩ := q
  exact kk [] F H Step.refl c .nil .nil (fun _ h => by cases h)
theorem en_cons (ha : Ev X Γ μ e r μ1) (hr : EvN X Γ μ1 es rs μ2) (hs : starEach (e :: es) X.env = (false, eval e X.env) :: starEach es X.env := by rfl) : EvN X Γ μ (e :: es) (r :: rs) μ2 := pa_le (pa_cons ha hr hs) fun σ H Q q => by
  obtain ⟨F, as, c, s, kk⟩ := q
  refine ⟨F, as, c, s, fun v F1 H1 st1 c1 hv hn => ⟨F1, as, c1, s.mono st1, fun vs F2 H2 st2 c2 hvs nd nw => kk (v :: vs) F2 H2 (st1.trans st2) c2 (.cons (hv.mono st2) hvs) ?_ fun a h => ?_⟩⟩
  · rw [frA_cons]
    refine List.nodup_append.mpr ⟨?_, nd, fun a ha b hb => ?_⟩
    · cases v <;> cases r <;> simp [frA]
    · have ha' : ∃ xs, r = .fre xs ∧ v = .ref a := by
        cases r with
        | fre xs => obtain ⟨b, _, rfl, _⟩ := hv; exact ⟨xs, rfl, by simpa [frA, eq_comm] using ha⟩
        | _ => cases v <;> simp [frA] at ha
      obtain ⟨xs, rfl, rfl⟩ := ha'
      obtain ⟨a', vs', e, h2, _⟩ := hv
      cases e
      rintro rfl
      rw [nw a hb] at h2
      cases h2
  · rw [frA_cons] at h
    rcases List.mem_append.mp h with h | h
    · have ha' : ∃ xs, r = .fre xs ∧ v = .ref a := by
        cases r with
        | fre xs => obtain ⟨b, _, rfl, _⟩ := hv; exact ⟨xs, rfl, by simpa [frA, eq_comm] using h⟩
        | _ => cases v <;> simp [frA] at h
      obtain ⟨xs, rfl, rfl⟩ := ha'
      exact hn a rfl
    · cases q : H a with
      | none => rfl
      | some o => exact absurd (nw a h) (st1.dm a (by rw [q]; simp))
theorem VrA.grow {F H : Hp} {as : List Addr} {A : Addr} : ∀ {vs : List V} {rs : List Sl}, VrA X.K F H as vs rs → A ∉ frA vs rs → VrA X.K F H (as ++ [A]) vs rs
  | _, _, .nil, _ => .nil
  | v :: vs, r :: rs, .cons h t, hn => by
    rw [frA_cons] at hn
    refine .cons ?_ (VrA.grow t fun z => hn (List.mem_append_right _ z))
    cases r with
    | un => trivial
    | dat d => exact h
    | cel k =>
      obtain ⟨a, h1, h2⟩ := h
      exact ⟨a, h1, by rw [List.getElem?_append_left (List.getElem?_eq_some_iff.mp h2).1]; exact h2⟩
    | fre xs =>
      obtain ⟨a, us, rfl, h2, h3, h4, h5⟩ := h
      refine ⟨a, us, rfl, h2, h3, fun m => ?_, h5⟩
      rcases List.mem_append.mp m with z | z
      · exact h4 z
      · rw [List.mem_singleton] at z
        subst z
        exact hn (List.mem_append_left _ (by simp [frA]))
    | dik kvs => exact h
    | dit P w kvs => exact h
theorem VrA.cool {F H : Hp} {as : List Addr} {A : Addr} {o : HO} (hF : F A = none) : ∀ {vs : List V} {rs : List Sl}, VrA X.K F H as vs rs → A ∉ frA vs rs → VrA X.K (upd F A o) H as vs rs
  | _, _, .nil, _ => .nil
  | v :: vs, r :: rs, .cons h t, hn => by
    rw [frA_cons] at hn
    have ex : Ex F (upd F A o) := Ex.new hF
    refine .cons ?_ (VrA.cool hF t fun z => hn (List.mem_append_right _ z))
    cases r with
    | un => trivial
    | dat d => exact ex.dp h
    | cel k => exact h
    | fre xs =>
      obtain ⟨a, us, rfl, h2, h3, h4, h5⟩ := h
      have : a ≠ A := by
        rintro rfl
        exact hn (List.mem_append_left _ (by simp [frA]))
      exact ⟨a, us, rfl, h2, by rw [upd_ne this]; exact h3, h4, ex.dpAll h5⟩
    | dik kvs => obtain ⟨a, h1, h2⟩ := h; exact ⟨a, h1, ex a _ h2⟩
    | dit P w kvs => obtain ⟨a, h1, h2⟩ := h; exact ⟨a, h1, h2.ex ex⟩
theorem Vr.wide {F H F' : Hp} {as ext : List Addr} {v : V} (ex : Ex F F') (hs : r.sta = true) (h : Vr X.K F H as v r) : Vr X.K F' H (as ++ ext) v r := by
  cases r with
  | un => cases hs
  | fre xs => cases hs
  | dat d => exact ex.dp h
  | cel k =>
    obtain ⟨a, h1, h2⟩ := h
    exact ⟨a, h1, by rw [List.getElem?_append_left (List.getElem?_eq_some_iff.mp h2).1]; exact h2⟩
  | dik kvs => obtain ⟨a, h1, h2⟩ := h; exact ⟨a, h1, ex a _ h2⟩
  | dit P w kvs => obtain ⟨a, h1, h2⟩ := h; exact ⟨a, h1, h2.ex ex⟩
theorem put_ok {F0 H0 H : Hp} {as0 : List Addr} {μ μ' : Mu} {rs rs' : List Sl} (hp : Put μ rs rs' μ') : ∀ {F : Hp} {as : List Addr} {vs : List V}, StepS as0 F0 H0 as F H → Clz X.K F H as μ → VrA X.K F H as vs rs → (frA vs rs).Nodup → (∀ a ∈ frA vs rs, H0 a = none) →
    ∃ F' ext, StepS as0 F0 H0 (as ++ ext) F' H ∧ Ex F F' ∧ Clz X.K F' H (as ++ ext) μ' ∧ VrA X.K F' H (as ++ ext) vs rs' := by
  induction hp with
  | nil =>
    intro F as vs st c h _ _
    cases h
    exact ⟨F, [], by simpa using st, Ex.refl F, by simpa using c, .nil⟩
  | sta hs t ih =>
    intro F as vs st c h nd nw
    cases h with
    | cons h tl =>
      rw [frA_off hs] at nd nw
      obtain ⟨F', ext, g1, g2, g3, g4⟩ := ih st c tl nd nw
      exact ⟨F', ext, g1, g2, g3, .cons (h.wide g2 hs) g4⟩
  | @new μ μ' xs rs rs' t ih =>
    intro F as vs st c h nd nw
    cases h with
    | cons h tl =>
      obtain ⟨A, ys, rfl, h2, h3, h4, h5⟩ := h
      rw [frA_cons] at nd nw
      have nA : A ∉ frA _ rs := fun m => (List.nodup_append.mp nd).2.2 A (by simp [frA]) A m rfl
      have st2 : StepS as F H (as ++ [A]) F H ∨ True := .inr trivial
      have st' : StepS as0 F0 H0 (as ++ [A]) F H := by
        obtain ⟨s1, e1, rfl, f1⟩ := st
        refine ⟨s1, e1 ++ [A], by rw [List.append_assoc], fun a ha => ?_⟩
        rcases List.mem_append.mp ha with z | z
        · exact f1 a z
        · rw [List.mem_singleton] at z
          subst z
          exact nw a (by simp [frA])
      obtain ⟨F', ext, g1, g2, g3, g4⟩ := ih st' (clz_new c h2 h3 h4 h5) (VrA.grow tl nA) (List.nodup_append.mp nd).2.1 fun a ha => nw a (List.mem_append_right _ ha)
      refine ⟨F', [A] ++ ext, by rw [← List.append_assoc]; exact g1, g2, by rw [← List.append_assoc]; exact g3, .cons ⟨A, rfl, ?_⟩ (by rw [← List.append_assoc]; exact g4)⟩
      rw [← List.append_assoc, List.getElem?_append_left (by rw [← c.len]; simp), ← c.len, List.getElem?_append_right (Nat.le_refl _), Nat.sub_self]
      rfl
  | @frz μ μ' xs rs rs' t ih =>
    intro F as vs st c h nd nw
    cases h with
    | cons h tl =>
      obtain ⟨A, ys, rfl, h2, h3, h4, h5⟩ := h
      rw [frA_cons] at nd nw
      have nA : A ∉ frA _ rs := fun m => (List.nodup_append.mp nd).2.2 A (by simp [frA]) A m rfl
      have ex : Ex F (upd F A (.lst ys)) := Ex.new h3
      have hA0 : H0 A = none := nw A (by simp [frA])
      have st' : StepS as0 F0 H0 as (upd F A (.lst ys)) H := ⟨⟨st.st.ex.trans ex, st.st.kp, fun b h1 h2' n => by
        have : b ≠ A := by rintro rfl; exact h1 hA0
        rw [upd_ne this]
        exact st.st.fr b h1 h2' n, st.st.dm⟩, st.pre⟩
      have c' : Clz X.K (upd F A (.lst ys)) H as μ := ⟨fun b o q => by
          by_cases hb : b = A
          · rw [hb, upd_same] at q
            cases q
            rw [hb]
            exact h2
          · rw [upd_ne hb] at q
            exact c.sub b o q, c.nd, c.len, fun k xs q => by
          obtain ⟨a', vs', g1, g2, g3, g4⟩ := c.cel k xs q
          refine ⟨a', vs', g1, ?_, g3, ex.dpAll g4⟩
          have : a' ≠ A := by
            rintro rfl
            exact h4 (List.mem_of_getElem? g1)
          rw [upd_ne this]
          exact g2, c.there, c.tab, fun b ps q => by
          by_cases hb : b = A
          · rw [hb, upd_same] at q
            cases q
          · rw [upd_ne hb] at q
            exact c.nt b ps q⟩
      obtain ⟨F', ext, g1, g2, g3, g4⟩ := ih st' c' (VrA.cool h3 tl nA) (List.nodup_append.mp nd).2.1 fun a ha => nw a (List.mem_append_right _ ha)
      exact ⟨F', ext, g1, ex.trans g2, g3, .cons (.lst (.inl (.inl (g2 A _ upd_same))) (g2.dpAll (ex.dpAll h5))) g4⟩
variable {i j l : Nat} {x y z : Str} {px py pz pt p2 : Pos} {kt k2 : Nat} {r1 r2 r3 : Sl} {r1' r2' r3' : Sl} {cc : Expr}
theorem put2 (hp : Put μ1 [r1, r2] [r1', r2'] μ2) {D : Ends} {σ : L2.St} {H F F1 H1 : Hp} {as : List Addr} {vs : List V} (hi : i < σ.length) (hj : j < σ.length) (kk : EndsD X.K F H as D (.nx ((Γ.set i r1').set j r2') μ2)) (sl : Sls X.K F H as σ Γ)
    (st : Step as F H F1 H1) (c1 : Clz X.K F1 H1 as μ1) (hv : VrA X.K F1 H1 as vs [r1, r2]) (nd : (frA vs [r1, r2]).Nodup) (nw : ∀ a ∈ frA vs [r1, r2], H a = none) : ∃ u v, vs = [u, v] ∧ D.nx ((σ.set i (some u)).set j (some v)) H1 := by
  obtain ⟨u, v, rfl, _⟩ := VrA.two hv
  obtain ⟨F2, ext, g1, g2, g3, g4⟩ := put_ok hp (StepS.of st) c1 hv nd nw
  obtain ⟨_, _, e, h1, h2⟩ := VrA.two g4
  cases e
  exact ⟨u, v, rfl, kk _ F2 H1 _ g1 g3 (((sl.monoS g1).put hi h1).put (by rw [List.length_set]; exact hj) h2)⟩
/-- x, y = a, b with plain names on one row -/
theorem st_par (c : Cz k X) (i j : Nat) (ha : EvN X Γ μ [a, b] [r1, r2] μ1) (hp : Put μ1 [r1, r2] [r1', r2'] μ2) (hN : X.N[i]? = some x := by rfl) (hN2 : X.N[j]? = some y := by rfl) (hij : i ≠ j := by decide)
    (hx : X.env.scope.names.lookup x = some .local := by rfl) (hy : X.env.scope.names.lookup y = some .local := by rfl)
    (hw : swappedStores [.Tuple [.Name x px, .Name y py] kt pt] (.Tuple [a, b] k2 p2) X.env = pure (some [x, y]) := by rfl) (hs : swapsWithSole [.Tuple [.Name x px, .Name y py] kt pt] (.Tuple [a, b] k2 p2) pos.line X.env = pure false := by rfl) :
    StD X Γ μ (.Assign [.Tuple [.Name x px, .Name y py] kt pt] (.Tuple [a, b] k2 p2) pos) (.nx ((Γ.set i r1').set j r2') μ2) := ⟨fun pins s1 σ H D I q => by
  have hi : i < σ.length := by rw [I.len]; exact (List.getElem?_eq_some_iff.mp hN).1
  have hj : j < σ.length := by rw [I.len]; exact (List.getElem?_eq_some_iff.mp hN2).1
  refine (ps_par c.calm c.nd hN hN2 hij hx hy ha hw hs).run pins s1 σ H D I ?_
  obtain ⟨F, as, cl, sl, kk⟩ := q
  exact ⟨F, as, cl, sl, fun vs F1 H1 st1 c1 hv nd nw => put2 hp hi hj kk sl st1 c1 hv nd nw⟩⟩
/-- x, y = a, b by a tuple -/
theorem st_par' (c : Cz k X) (i j : Nat) (ha : EvN X Γ μ [a, b] [r1, r2] μ1) (hp : Put μ1 [r1, r2] [r1', r2'] μ2) (hN : X.N[i]? = some x := by rfl) (hN2 : X.N[j]? = some y := by rfl)
    (hx : Loc X.env.scope x := by first | exact Or.inl rfl | exact Or.inr rfl) (hf : X.fn x = true ∨ X.env.scope.names.lookup x = some .local := by first | exact .inl rfl | exact .inr rfl) (hx2 : Loc X.env.scope y := by first | exact Or.inl rfl | exact Or.inr rfl) (hf2 : X.fn y = true ∨ X.env.scope.names.lookup y = some .local := by first | exact .inl rfl | exact .inr rfl)
    (hw : swappedStores [.Tuple [.Name x px, .Name y py] kt pt] (.Tuple [a, b] k2 p2) X.env = pure none := by rfl) (hs : swapsWithSole [.Tuple [.Name x px, .Name y py] kt pt] (.Tuple [a, b] k2 p2) pos.line X.env = pure false := by rfl)
    (h1 : (assignEach [.Tuple [.Name x px, .Name y py] kt pt] X.env).map (·.2) = [assign (.Tuple [.Name x px, .Name y py] kt pt) X.env] := by rfl)
    (g1 : (assignEach [.Name x px, .Name y py] X.env).map (·.2) = assign (.Name x px) X.env :: (assignEach [.Name y py] X.env).map (·.2) := by rfl) (g2 : (assignEach [.Name y py] X.env).map (·.2) = assign (.Name y py) X.env :: (assignEach [] X.env).map (·.2) := by rfl)
    (hn : (assignEach [.Name x px, .Name y py] X.env).length = 2 := by rfl) (hst : (assignEach [.Name x px, .Name y py] X.env).findIdx? (·.1) = none := by rfl) :
    StD X Γ μ (.Assign [.Tuple [.Name x px, .Name y py] kt pt] (.Tuple [a, b] k2 p2) pos) (.nx ((Γ.set i r1').set j r2') μ2) := ⟨fun pins s1 σ H D I q => by
  have hi : i < σ.length := by rw [I.len]; exact (List.getElem?_eq_some_iff.mp hN).1
  have hj : j < σ.length := by rw [I.len]; exact (List.getElem?_eq_some_iff.mp hN2).1
  refine (ps_asg (pe_tup ha) (pg_tup c.calm (pgs_cons (pg_name c.nd hN hx hf) (pgs_cons (pg_name c.nd hN2 hx2 hf2) pgs_nil g2) g1) hn hst) hs hw h1).run pins s1 σ H D I ?_
  obtain ⟨F, as, cl, sl, kk⟩ := q
  refine ⟨F, as, cl, sl, fun vs F1 H1 st1 c1 hv nd nw => ?_⟩
  have hl : vs.length = 2 := by obtain ⟨u, v, rfl, _⟩ := VrA.two hv; rfl
  refine ⟨by rw [hl]; decide, fun q hq => ⟨q, vs, rfl, .inl (.inl upd_same), hl, ?_⟩⟩
  have p := StepP.hxOnly (H' := upd H1 q (.tup vs)) c1.sub (Ex.new hq)
  obtain ⟨u, v, rfl, hd⟩ := put2 hp hi hj kk sl (st1.trans p.step) (c1.pure p) (VrA.mono p.step hv) nd nw
  exact ⟨u, [v], rfl, v, [], rfl, rfl, hd⟩⟩
theorem put3 (hp : Put μ1 [r1, r2, r3] [r1', r2', r3'] μ2) {D : Ends} {σ : L2.St} {H F F1 H1 : Hp} {as : List Addr} {vs : List V} (hi : i < σ.length) (hj : j < σ.length) (hl : l < σ.length) (kk : EndsD X.K F H as D (.nx (((Γ.set i r1').set j r2').set l r3') μ2)) (sl : Sls X.K F H as σ Γ)
    (st : Step as F H F1 H1) (c1 : Clz X.K F1 H1 as μ1) (hv : VrA X.K F1 H1 as vs [r1, r2, r3]) (nd : (frA vs [r1, r2, r3]).Nodup) (nw : ∀ a ∈ frA vs [r1, r2, r3], H a = none) : ∃ u v w, vs = [u, v, w] ∧ D.nx (((σ.set i (some u)).set j (some v)).set l (some w)) H1 := by
  obtain ⟨u, v, w, rfl, _⟩ := VrA.three hv
  obtain ⟨F2, ext, g1, g2, g3, g4⟩ := put_ok hp (StepS.of st) c1 hv nd nw
  obtain ⟨_, _, _, e, h1, h2, h3⟩ := VrA.three g4
  cases e
  exact ⟨u, v, w, rfl, kk _ F2 H1 _ g1 g3 ((((sl.monoS g1).put hi h1).put (by rw [List.length_set]; exact hj) h2).put (by rw [List.length_set, List.length_set]; exact hl) h3)⟩
theorem st_par3 (c : Cz k X) (i j l : Nat) (ha : EvN X Γ μ [a, b, cc] [r1, r2, r3] μ1) (hp : Put μ1 [r1, r2, r3] [r1', r2', r3'] μ2) (hN : X.N[i]? = some x := by rfl) (hN2 : X.N[j]? = some y := by rfl) (hN3 : X.N[l]? = some z := by rfl) (hij : i ≠ j := by decide) (hil : i ≠ l := by decide) (hjl : j ≠ l := by decide)
    (hx : X.env.scope.names.lookup x = some .local := by rfl) (hy : X.env.scope.names.lookup y = some .local := by rfl) (hz : X.env.scope.names.lookup z = some .local := by rfl)
    (hw : swappedStores [.Tuple [.Name x px, .Name y py, .Name z pz] kt pt] (.Tuple [a, b, cc] k2 p2) X.env = pure (some [x, y, z]) := by rfl) (hs : swapsWithSole [.Tuple [.Name x px, .Name y py, .Name z pz] kt pt] (.Tuple [a, b, cc] k2 p2) pos.line X.env = pure false := by rfl) :
    StD X Γ μ (.Assign [.Tuple [.Name x px, .Name y py, .Name z pz] kt pt] (.Tuple [a, b, cc] k2 p2) pos) (.nx (((Γ.set i r1').set j r2').set l r3') μ2) := ⟨fun pins s1 σ H D I q => by
  have hi : i < σ.length := by rw [I.len]; exact (List.getElem?_eq_some_iff.mp hN).1
  have hj : j < σ.length := by rw [I.len]; exact (List.getElem?_eq_some_iff.mp hN2).1
  have hl : l < σ.length := by rw [I.len]; exact (List.getElem?_eq_some_iff.mp hN3).1
  refine (ps_par3 c.calm c.nd hN hN2 hN3 hij hil hjl hx hy hz ha hw hs).run pins s1 σ H D I ?_
  obtain ⟨F, as, cl, sl, kk⟩ := q
  exact ⟨F, as, cl, sl, fun vs F1 H1 st1 c1 hv nd nw => put3 hp hi hj hl kk sl st1 c1 hv nd nw⟩⟩
theorem st_par3' (c : Cz k X) (i j l : Nat) (ha : EvN X Γ μ [a, b, cc] [r1, r2, r3] μ1) (hp : Put μ1 [r1, r2, r3] [r1', r2', r3'] μ2) (hN : X.N[i]? = some x := by rfl) (hN2 : X.N[j]? = some y := by rfl) (hN3 : X.N[l]? = some z := by rfl)
    (hx : Loc X.env.scope x := by first | exact Or.inl rfl | exact Or.inr rfl) (hf : X.fn x = true ∨ X.env.scope.names.lookup x = some .local := by first | exact .inl rfl | exact .inr rfl) (hx2 : Loc X.env.scope y := by first | exact Or.inl rfl | exact Or.inr rfl) (hf2 : X.fn y = true ∨ X.env.scope.names.lookup y = some .local := by first | exact .inl rfl | exact .inr rfl)
    (hx3 : Loc X.env.scope z := by first | exact Or.inl rfl | exact Or.inr rfl) (hf3 : X.fn z = true ∨ X.env.scope.names.lookup z = some .local := by first | exact .inl rfl | exact .inr rfl)
    (hw : swappedStores [.Tuple [.Name x px, .Name y py, .Name z pz] kt pt] (.Tuple [a, b, cc] k2 p2) X.env = pure none := by rfl) (hs : swapsWithSole [.Tuple [.Name x px, .Name y py, .Name z pz] kt pt] (.Tuple [a, b, cc] k2 p2) pos.line X.env = pure false := by rfl)
    (h1 : (assignEach [.Tuple [.Name x px, .Name y py, .Name z pz] kt pt] X.env).map (·.2) = [assign (.Tuple [.Name x px, .Name y py, .Name z pz] kt pt) X.env] := by rfl)
    (g1 : (assignEach [.Name x px, .Name y py, .Name z pz] X.env).map (·.2) = assign (.Name x px) X.env :: (assignEach [.Name y py, .Name z pz] X.env).map (·.2) := by rfl) (g2 : (assignEach [.Name y py, .Name z pz] X.env).map (·.2) = assign (.Name y py) X.env :: (assignEach [.Name z pz] X.env).map (·.2) := by rfl)
    (g3 : (assignEach [.Name z pz] X.env).map (·.2) = assign (.Name z pz) X.env :: (assignEach [] X.env).map (·.2) := by rfl)
    (hn : (assignEach [.Name x px, .Name y py, .Name z pz] X.env).length = 3 := by rfl) (hst : (assignEach [.Name x px, .Name y py, .Name z pz] X.env).findIdx? (·.1) = none := by rfl) :
    StD X Γ μ (.Assign [.Tuple [.Name x px, .Name y py, .Name z pz] kt pt] (.Tuple [a, b, cc] k2 p2) pos) (.nx (((Γ.set i r1').set j r2').set l r3') μ2) := ⟨fun pins s1 σ H D I q => by
  have hi : i < σ.length := by rw [I.len]; exact (List.getElem?_eq_some_iff.mp hN).1
  have hj : j < σ.length := by rw [I.len]; exact (List.getElem?_eq_some_iff.mp hN2).1
  have hl : l < σ.length := by rw [I.len]; exact (List.getElem?_eq_some_iff.mp hN3).1
  refine (ps_asg (pe_tup ha) (pg_tup c.calm (pgs_cons (pg_name c.nd hN hx hf) (pgs_cons (pg_name c.nd hN2 hx2 hf2) (pgs_cons (pg_name c.nd hN3 hx3 hf3) pgs_nil g3) g2) g1) hn hst) hs hw h1).run pins s1 σ H D I ?_
  obtain ⟨F, as, cl, sl, kk⟩ := q
  refine ⟨F, as, cl, sl, fun vs F1 H1 st1 c1 hv nd nw => ?_⟩
  have hl3 : vs.length = 3 := by obtain ⟨u, v, w, rfl, _⟩ := VrA.three hv; rfl
  refine ⟨by rw [hl3]; decide, fun q hq => ⟨q, vs, rfl, .inl (.inl upd_same), hl3, ?_⟩⟩
  have p := StepP.hxOnly (H' := upd H1 q (.tup vs)) c1.sub (Ex.new hq)
  obtain ⟨u, v, w, rfl, hd⟩ := put3 hp hi hj hl kk sl (st1.trans p.step) (c1.pure p) (VrA.mono p.step hv) nd nw
  exact ⟨u, [v, w], rfl, v, [w], rfl, w, [], rfl, rfl, hd⟩⟩

/-! ### loops -/
/-- a turn ends well -/
inductive Goes : Out → List Sl → Mu → Prop where
  | nx {Γ Γ' : List Sl} {μ : Mu} (f : Fits Γ Γ') : Goes (.nx Γ μ) Γ' μ
  | ct {Γ Γ' : List Sl} {μ : Mu} (f : Fits Γ Γ') : Goes (.ct Γ μ) Γ' μ
def tgU (X : Cx) (tg : Expr) : TG := fun v σ H Q => ∃ vs Γ d Γ', EvG X vs Γ tg d Γ' ∧ tDG X.K vs Γ d Γ' v σ H Q
def tbU (X : Cx) (body : List Stmt) : TS := fun D σ H => ∃ Γ μ o, SsD X Γ μ body o ∧ tSD X.K Γ μ o D σ H
theorem pg_tgU : PG X tg (tgU X tg) := ⟨fun pins s1 σ H1 v u Q I r q => by
  obtain ⟨_, _, _, _, h, q⟩ := q
  exact h.run pins s1 σ H1 v u Q I r q⟩
theorem pss_tbU {body : List Stmt} : PSs X body (tbU X body) := ⟨fun pins s1 σ H1 D I q => by
  obtain ⟨_, _, _, h, q⟩ := q
  exact h.run pins s1 σ H1 D I q⟩
/-- the turns ahead of the end; then all are gone, or one returns -/
theorem st_for {body : List Stmt} {iter : Expr} (vs : List Nat) (S : Nat → List Sl × Mu) (n : Nat) (c : Cz k X) (hx : X.xe = fun _ _ => False) (hi : EvI X Γ μ tg iter ds μ1) (h0 : Fits Γ (S 0).1) (hm : (S 0).2 = μ1) (hn : n ≤ ds.length)
    (turn : ∀ i d, i < n → ds[i]? = some d → ∃ Γt o, EvG X vs (S i).1 tg d Γt ∧ SsD X Γt (S i).2 body o ∧ Goes o (S (i + 1)).1 (S (i + 1)).2)
    (fin : (n = ds.length ∧ o = .nx (S n).1 (S n).2) ∨ ∃ d Γt r μ', ds[n]? = some d ∧ EvG X vs (S n).1 tg d Γt ∧ SsD X Γt (S n).2 body (.rt r μ') ∧ o = .rt r μ')
    (hs : ∀ x, foldedSetIterable iter X.env x = pure x := by intro _; rfl) : StD X Γ μ (.For tg iter body [] pos) o := by
  have hp : PassesOwn (model X.prog X.w) X.A X.env X.xe := by rw [hx]; exact PassesOwn.never
  refine ps_le (ps_for hp c.calm hi pg_tgU pss_tbU hs) fun D σ H q => ?_
  obtain ⟨F, as, cl, sl, kk⟩ := q
  refine ⟨F, as, cl, sl, fun J F1 H1 st1 c1 hz w => ?_⟩
  refine ⟨fun i m σ' H' => m = ds.length - i ∧ i ≤ n ∧ ∃ F2 as2, StepS as F H as2 F2 H' ∧ Ex F1 F2 ∧ Clz X.K F2 H' as2 (S i).2 ∧ Sls X.K F2 H' as2 σ' (S i).1, ⟨ds.length, rfl, Nat.zero_le _, F1, as, StepS.of st1, Ex.refl F1, by rw [hm]; exact c1, (sl.mono st1).fits h0⟩, ?_⟩
  rintro i m σ' H' ⟨rfl, hle, F2, as2, st2, x2, c2, sl2⟩
  have g : Ex F1 H' := x2.trans c2.sub
  rcases Nat.lt_or_ge i n with hlt | hge
  · -- a turn that goes on
    refine .inr ⟨w.goes i H' (by omega) g, fun σ3 H3 => ∃ F3 as3, StepS as F H as3 F3 H3 ∧ Ex F1 F3 ∧ Clz X.K F3 H3 as3 (S (i + 1)).2 ∧ Sls X.K F3 H3 as3 σ3 (S (i + 1)).1, fun σ3 H3 p => ⟨ds.length - (i + 1), by omega, rfl, hlt, p⟩, fun v H3 y => ?_⟩
    obtain ⟨d, g1, g2⟩ := w.yields i H' v H3 (by omega) g y
    obtain ⟨F3, p3, hv⟩ := g2 F2 x2 c2.sub
    obtain ⟨Γt, ot, e1, e2, e3⟩ := turn i d hlt g1
    have c3 := c2.pure p3
    refine ⟨vs, (S i).1, d, Γt, e1, F3, as2, (S i).2, c3, sl2.mono p3.step, hv, fun σ4 _ sl4 => ⟨Γt, (S i).2, ot, e2, F3, as2, c3, sl4, ?_⟩⟩
    have st3 := st2.trans (StepS.of (as := as2) p3.step)
    cases e3 with
    | nx f => exact fun σ5 F5 H5 as5 st5 c5 sl5 => ⟨F5, as5, st3.trans st5, (x2.trans p3.ex).trans st5.st.ex, c5, sl5.fits f⟩
    | ct f => exact fun σ5 F5 H5 as5 st5 c5 sl5 => ⟨F5, as5, st3.trans st5, (x2.trans p3.ex).trans st5.st.ex, c5, sl5.fits f⟩
  · have e : i = n := by omega
    subst e
    rcases fin with ⟨e1, e2⟩ | ⟨d, Γt, r, μ', g1, e1, e2, e3⟩
    · subst e2
      refine .inl ⟨by rw [e1]; exact w.stops H' g, kk σ' F2 H' as2 st2 c2 sl2⟩
    · subst e3
      have hlt : i < ds.length := (List.getElem?_eq_some_iff.mp g1).1
      refine .inr ⟨w.goes i H' hlt g, fun _ _ => False, fun _ _ h => h.elim, fun v H3 y => ?_⟩
      obtain ⟨d', g1', g2⟩ := w.yields i H' v H3 hlt g y
      rw [g1] at g1'
      cases g1'
      obtain ⟨F3, p3, hv⟩ := g2 F2 x2 c2.sub
      have c3 := c2.pure p3
      exact ⟨vs, (S i).1, d, Γt, e1, F3, as2, (S i).2, c3, sl2.mono p3.step, hv, fun σ4 _ sl4 => ⟨Γt, (S i).2, .rt r μ', e2, F3, as2, c3, sl4, kk.go (st2.trans (StepS.of (as := as2) p3.step))⟩⟩
/-- while -/
def tcU (X : Cx) (e : Expr) : TT := fun σ H Q => ∃ Γ μ q μ', EvT X Γ μ e q μ' ∧ tDT X.K Γ μ q μ' σ H Q
theorem pt_tcU : PT X e (tcU X e) := ⟨fun pins s1 σ H1 Q I q => by
  obtain ⟨_, _, _, _, h, q⟩ := q
  exact h.run pins s1 σ H1 Q I q⟩
theorem st_while {body : List Stmt} (S : Nat → List Sl × Mu) (n : Nat) (hx : X.xe = fun _ _ => False) (h0 : Fits Γ (S 0).1) (hm : (S 0).2 = μ)
    (cond : ∀ i, i ≤ n → EvT X (S i).1 (S i).2 e (decide (i < n)) (S i).2)
    (turn : ∀ i, i < n → ∃ o, SsD X (S i).1 (S i).2 body o ∧ Goes o (S (i + 1)).1 (S (i + 1)).2) : StD X Γ μ (.While e body [] pos) (.nx (S n).1 (S n).2) := by
  have hp : PassesOwn (model X.prog X.w) X.A X.env X.xe := by rw [hx]; exact PassesOwn.never
  refine ps_le (ps_while hp pt_tcU pss_tbU) fun D σ H q => ?_
  obtain ⟨F, as, cl, sl, kk⟩ := q
  refine ⟨fun m σ' H' => m ≤ n ∧ ∃ F2 as2, StepS as F H as2 F2 H' ∧ Clz X.K F2 H' as2 (S (n - m)).2 ∧ Sls X.K F2 H' as2 σ' (S (n - m)).1, ⟨n, Nat.le_refl _, F, as, StepS.refl, by rw [Nat.sub_self, hm]; exact cl, by rw [Nat.sub_self]; exact sl.fits h0⟩, ?_⟩
  rintro m σ' H' ⟨hle, F2, as2, st2, c2, sl2⟩
  refine ⟨_, _, _, _, cond (n - m) (by omega), F2, as2, c2, sl2, fun F3 H3 st3 c3 => ?_⟩
  have sl3 := sl2.mono st3
  by_cases hlt : n - m < n
  · rw [decide_eq_true hlt]
    refine iteT ⟨fun σ4 H4 => ∃ F4 as4, StepS as F H as4 F4 H4 ∧ Clz X.K F4 H4 as4 (S (n - m + 1)).2 ∧ Sls X.K F4 H4 as4 σ4 (S (n - m + 1)).1, fun σ4 H4 p => ⟨m - 1, by omega, by omega, by rw [show n - (m - 1) = n - m + 1 by omega]; exact p⟩, ?_⟩
    obtain ⟨ot, e1, e2⟩ := turn (n - m) hlt
    refine ⟨_, _, ot, e1, F3, as2, c3, sl3, ?_⟩
    have st := st2.trans (StepS.of st3)
    cases e2 with
    | nx f => exact fun σ5 F5 H5 as5 st5 c5 sl5 => ⟨F5, as5, st.trans st5, c5, sl5.fits f⟩
    | ct f => exact fun σ5 F5 H5 as5 st5 c5 sl5 => ⟨F5, as5, st.trans st5, c5, sl5.fits f⟩
  · rw [decide_eq_false hlt]
    have e : n - m = n := by omega
    rw [e] at c3 sl3
    exact iteF (kk σ' F3 H3 as2 (st2.trans (StepS.of st3)) c3 sl3)
end
end DL
end
section
set_option autoImplicit false
/-! D-layer 9: defs and their calls. -/
namespace DL
open PySem PySem.Spec PyProof.Rows L2
open PySem.W (Datum Tup DatumOrd Holds HoldAll T3)

abbrev Rel := List Sl → Mu → Sl → Mu → Prop
/-- what a def promises: R arguments lists result lists -/
def spD (K : PySem.W.Frag) (R : Rel) : Sp := fun vs H Q E => ∃ F as μ rs r μ', R rs μ r μ' ∧ Clz K F H as μ ∧ VrA K F H as vs rs ∧ ∀ v F' H', Step as F H F' H' → Clz K F' H' as μ' → Vr K F' H' as v r → New H v r → Q v H'
structure Has (P : Program) (w : World) (K : PySem.W.Frag) (mg : Str → Option Value) (base : Heap) (k : Nat) (x : Str) (R : Rel) : Prop where
  ex : ∃ (f : Addr) (fd : FuncData) (ps : List Str), FnOk P w K mg base CX0 k f fd ps (spD K R) ∧ mg x = some (.ref f) ∧ PySem.W.keepIn K (.ref f) = true ∧ Binds K fd ps []
/-- the built-in names stand -/
structure Glb (mg : Str → Option Value) : Prop where
  b_len : mg "len" = none
  b_sum : mg "sum" = none
  b_max : mg "max" = none
  b_min : mg "min" = none
  b_all : mg "all" = none
  b_any : mg "any" = none
  b_int : mg "int" = none
  b_str : mg "str" = none
  b_bool : mg "bool" = none
  b_abs : mg "abs" = none
  b_tuple : mg "tuple" = none
  b_list : mg "list" = none
  b_set : mg "set" = none
  b_dict : mg "dict" = none
  b_zip : mg "zip" = none
  b_enumerate : mg "enumerate" = none
  b_range : mg "range" = none
  b_sorted : mg "sorted" = none
  b_isinstance : mg "isinstance" = none
theorem Glb.cz {mg : Str → Option Value} (g : Glb mg) {k : Nat} {A : Around} {N : List Str} (r : Room k A) (nd : N.Nodup) : CzP k true A N mg :=
  ⟨rfl, r, nd, g.b_len, g.b_sum, g.b_max, g.b_min, g.b_all, g.b_any, g.b_int, g.b_str, g.b_bool, g.b_abs, g.b_tuple, g.b_list, g.b_set, g.b_dict, g.b_zip, g.b_enumerate, g.b_range, g.b_sorted, g.b_isinstance⟩
/-- how a body's end is the def's end: n the lists given -/
inductive Back (n : Nat) : Sl → Mu → Sl → Mu → Prop where
  | dat {d : PyData} {μ : Mu} : Back n (.dat d) μ (.dat d) (μ.take n)
  | fre {xs : List PyData} {μ : Mu} : Back n (.fre xs) μ (.fre xs) (μ.take n)
  | cel {j : Nat} {xs : List PyData} {μ : Mu} (h : n ≤ j) (hx : μ[j]? = some (some xs)) : Back n (.cel j) μ (.fre xs) (μ.take n)
  | dik {kvs : List (Key × Int)} {μ : Mu} : Back n (.dik kvs) μ (.dik kvs) (μ.take n)
  | dit {P : Program} {w : World} {kvs : List (List Key × Int)} {μ : Mu} : Back n (.dit P w kvs) μ (.dit P w kvs) (μ.take n)
/-- a return, or the end of the body (None) -/
inductive EndsAs (n : Nat) : Out → Sl → Mu → Prop where
  | rt {r1 r : Sl} {μ1 μ' : Mu} (b : Back n r1 μ1 r μ') : EndsAs n (.rt r1 μ1) r μ'
  | nx {Γ : List Sl} {μ : Mu} : EndsAs n (.nx Γ μ) (dd ()) (μ.take n)
section
variable {K : PySem.W.Frag} {F H : Hp} {as ext : List Addr} {μ μ1 μ' : Mu} {r r1 : Sl} {v : V}
theorem clz_take (c : Clz K F H (as ++ ext) μ) : Clz K F H as (μ.take as.length) := by
  have hl := c.len
  rw [List.length_append] at hl
  refine ⟨c.sub, (List.nodup_append.mp c.nd).1, by rw [List.length_take]; omega, fun k xs h => ?_, fun a ha => c.there a (List.mem_append_left _ ha), c.tab, c.nt⟩
  have hk : k < as.length := by
    have := (List.getElem?_eq_some_iff.mp h).1
    rw [List.length_take] at this
    omega
  rw [List.getElem?_take_of_lt hk] at h
  obtain ⟨a, vs, g1, g2, g3, g4⟩ := c.cel k xs h
  rw [List.getElem?_append_left hk] at g1
  exact ⟨a, vs, g1, g2, g3, g4⟩
theorem Back.ok (b : Back as.length r1 μ1 r μ') (c : Clz K F H (as ++ ext) μ1) (h : Vr K F H (as ++ ext) v r1) {H0 : Hp} (hx : ∀ a ∈ ext, H0 a = none) (hn : New H0 v r1) : Clz K F H as μ' ∧ Vr K F H as v r ∧ New H0 v r := by
  have c' := clz_take c
  cases b with
  | dat => exact ⟨c', h, trivial⟩
  | fre =>
    obtain ⟨a, vs, e, h2, h3, h4, h5⟩ := h
    exact ⟨c', ⟨a, vs, e, h2, h3, fun m => h4 (List.mem_append_left _ m), h5⟩, hn⟩
  | dik => exact ⟨c', h, trivial⟩
  | dit => exact ⟨c', h, trivial⟩
  | @cel j xs μ h1 hx1 =>
    obtain ⟨a, rfl, h2⟩ := h
    obtain ⟨a', vs, g1, g2, g3, g4⟩ := c.cel j xs hx1
    rw [h2] at g1
    cases g1
    rw [List.getElem?_append_right h1] at h2
    have mem : a ∈ ext := List.mem_of_getElem? h2
    have na : a ∉ as := fun m => (List.nodup_append.mp c.nd).2.2 a m a mem rfl
    exact ⟨c', ⟨a, vs, rfl, g3, g2, na, g4⟩, fun b e => by cases e; exact hx a mem⟩
theorem start_sls {N : List Str} : ∀ {vs : List V} {rs : List Sl}, VrA K F H as vs rs → Sls K F H as (L2.start N vs) (rs ++ List.replicate (N.length - rs.length) .un) := fun {vs rs} h i r e hs => by
  have hl : vs.length = rs.length := Paired.length h
  unfold L2.start
  by_cases hi : i < rs.length
  · rw [List.getElem?_append_left hi] at e
    have key : ∀ {vs : List V} {rs : List Sl} {i : Nat}, VrA K F H as vs rs → rs[i]? = some r → ∃ v, vs[i]? = some v ∧ Vr K F H as v r := fun {vs rs i} h => by
      induction h generalizing i with
      | nil => intro e; simp at e
      | cons h t ih =>
        intro e
        cases i with
        | zero => cases e; exact ⟨_, rfl, h⟩
        | succ i => exact ih (by simpa using e)
    obtain ⟨v, h1, h2⟩ := key h e
    refine ⟨v, ?_, h2⟩
    rw [List.getElem?_append_left (by rw [List.length_map, hl]; exact hi), List.getElem?_map, h1]
    rfl
  · rw [List.getElem?_append_right (by omega), List.getElem?_replicate] at e
    split at e
    · cases e; cases hs
    · cases e
end
abbrev FnP (K : PySem.W.Frag) (x : Str) (st : Stmt) (f : Addr) (fd : FuncData) : Prop := FunD K x x (defArgs st) (defBody st) (defScope st) [] [] f fd
/-- a body's context -/
abbrev BodyX (P : Program) (w : World) (K : PySem.W.Frag) (mg : Str → Option Value) (base : Heap) (N : List Str) (x : Str) (st : Stmt) (f : Addr) (cdv : Value) (A : Around) (outer : List Env) (s : Shared) (H : Hp) (E : XK) : Cx :=
  (cxOf CX0 P w K mg base N x (defScope st) f cdv A outer s H E).nox
section
variable {P : Program} {w : World} {K : PySem.W.Frag} {mg : Str → Option Value} {base : Heap} {k : Nat} {x : Str} {st : Stmt} {N ps : List Str} {R : Rel}
/-- a def of the text -/
theorem has_of (g : Glb mg) (F : ∃ f fd, FnP K x st f fd ∧ mg x = some (.ref f)) (S : FnScope N ps (defScope st))
    (hb : ∀ (kV doc pm : Value) (an : Option Addr) (cdv ct : Value) (us : List Value), us.length = ps.length → bindArgs (PySem.W.fnOf x x (defArgs st) (defBody st) (defScope st) .none kV doc pm an cdv ct) ⟨us, []⟩ = pure (ps.zip us))
    (hl : ∀ rs μ r μ', R rs μ r μ' → rs.length = ps.length)
    (body : ∀ f cdv A outer s H E rs μ r μ', Cz k (BodyX P w K mg base N x st f cdv A outer s H E) → R rs μ r μ' → ∃ o, SsD (BodyX P w K mg base N x st f cdv A outer s H E) (rs ++ List.replicate (N.length - rs.length) .un) μ (defBody st) o ∧ EndsAs μ.length o r μ') :
    Has P w K mg base (k + 1) x R := by
  obtain ⟨f, fd, F, hm⟩ := F
  refine ⟨f, fd, ps, F.ok S (fun vs H Q E h => ?_) (fun cdv A outer s H vs Q E hr h => ?_), hm, F.kp, F.bindsN hb⟩
  · obtain ⟨F0, as, μ, rs, r, μ', hR, _, hv, _⟩ := h
    rw [← hl rs μ r μ' hR]
    exact Paired.length hv
  · obtain ⟨F0, as, μ, rs, r, μ', hR, c, hv, kk⟩ := h
    obtain ⟨o, hB, hk⟩ := body f cdv A outer s H E rs μ r μ' (g.cz hr S.nd) hR
    refine ⟨_, PSs.nox hB, F0, as, c, start_sls hv, ?_⟩
    rw [← c.len] at hk
    cases hk with
    | rt hk =>
      intro v F' H' as' st' c' hv' hn
      obtain ⟨s1, ext, rfl, fx⟩ := st'
      obtain ⟨q1, q2, q3⟩ := hk.ok c' hv' fx hn
      exact kk v F' H' s1 q1 q2 q3
    | nx =>
      intro σ' F' H' as' st' c' sl'
      obtain ⟨s1, ext, rfl, fx⟩ := st'
      exact kk .non F' H' s1 (clz_take c') .non trivial
end
/-- a slot that no mutable list is in -/
def Sl.fix : Sl → Bool
  | .dat _ => true
  | .dik _ => true
  | .dit _ _ _ => true
  | _ => false
section
variable {X : Cx} {k j : Nat} {Γ Γ1 Γ2 : List Sl} {μ μ1 μ2 μ3 : Mu} {e a b tg : Expr} {es tgs : List Expr} {r ra rb rc : Sl} {rs : List Sl} {pos p : Pos} {ds xs ys : List PyData} {d : PyData} {R : Rel} {x : Str} {n : Nat}
theorem vrA_fix {F H H' : Hp} {as as' : List Addr} : ∀ {vs : List V} {rs : List Sl}, VrA X.K F H as vs rs → rs.all Sl.fix = true → VrA X.K F H' as' vs rs
  | _, _, .nil, _ => .nil
  | v :: vs, r :: rs, .cons h t, e => by
    rw [List.all_cons, Bool.and_eq_true] at e
    refine .cons ?_ (vrA_fix t e.2)
    cases r with
    | dat d => exact h
    | dik kvs => exact h
    | dit P w kvs => exact h
    | un => cases e.1
    | cel k => cases e.1
    | fre xs => cases e.1
theorem tCall_le {E : XK} {t : TA} {F H : Hp} {as : List Addr} {rs' : List Sl} {μ' μ2' : Mu} {Q : VK} {vs : List V} : True := trivial
/-- the callee with the lists bs of its own -/
theorem Step.narrow {as : List Addr} {F H F' H' : Hp} (s : Step [] F H F' H') : Step as F H F' H' := ⟨s.ex, fun b o _ nt h => s.kp b o (by simp) nt h, fun b h1 h2 _ => s.fr b h1 h2 (by simp), s.dm⟩
theorem clz_none {F H : Hp} {as : List Addr} (c : Clz X.K F H as μ) : Clz X.K F H [] [] := ⟨c.sub, .nil, rfl, fun k xs h => by simp at h, fun a h => (by cases h), c.tab, c.nt⟩
theorem clz_back {F H F' H' : Hp} {as : List Addr} (c : Clz X.K F H as μ) (s : Step [] F H F' H') (c' : Clz X.K F' H' [] []) : Clz X.K F' H' as μ := by
  refine ⟨c'.sub, c.nd, c.len, fun k xs h => ?_, fun a ha => s.dm a (c.there a ha), c'.tab, c'.nt⟩
  obtain ⟨a, vs, g1, g2, g3, g4⟩ := c.cel k xs h
  exact ⟨a, vs, g1, s.fr a (by rw [g3]; simp) g2 (by simp), s.kp a _ (by simp) (fun ps z => by cases z) g3, s.ex.dpAll g4⟩
theorem vr_back {F' H' H : Hp} {as bs : List Addr} {v : V} (hr : r.fix = true ∨ ∃ xs, r = .fre xs) (h : Vr X.K F' H' bs v r) (hn : New H v r) (ha : ∀ a ∈ as, H a ≠ none) : Vr X.K F' H' as v r := by
  cases r with
  | dat d => exact h
  | dik kvs => exact h
  | dit P w kvs => exact h
  | un => trivial
  | cel k => rcases hr with h | ⟨_, h⟩ <;> cases h
  | fre xs =>
    obtain ⟨a, vs, rfl, h2, h3, h4, h5⟩ := h
    exact ⟨a, vs, rfl, h2, h3, fun m => ha a m (hn a rfl), h5⟩
/-- a def that leaves the mutable lists alone -/
theorem ev_call (h : Has X.prog X.w X.K X.mg X.base j x R) (c : Cz k X) (ha : EvA X Γ μ (e :: es) rs μ1) (hr : R rs [] r []) (hf : rs.all Sl.fix = true := by rfl) (hq : r.fix = true ∨ ∃ xs, r = .fre xs := by first | exact .inl rfl | exact .inr ⟨_, rfl⟩) (hjk : j ≤ k := by decide)
    (hg : Gl X x := by rfl) (hdb : (x == ("__debug__" : Str)) = false := by decide) (he : starEach (e :: es) X.env = (false, eval e X.env) :: starEach es X.env := by rfl) (hpl : (backTo pos (starEach es X.env)).any (·.1) = false := by rfl) :
    Ev X Γ μ (.Call (.Name x p) (e :: es) [] pos) r μ1 := by
  obtain ⟨f, fd, ps, F, hm, kp, hb⟩ := h.ex
  refine pe_le (pe_call (F.mono hjk) c.rm hg hm kp hb .nil pass0 ha hdb he hpl) fun σ H Q q => ?_
  obtain ⟨F0, as, cl, sl, kk⟩ := q
  refine ⟨F0, as, cl, sl, fun vs F1 H1 st1 c1 hv => ?_⟩
  show spD X.K R (vs ++ []) H1 Q E0
  rw [List.append_nil]
  refine ⟨F1, [], [], rs, r, [], hr, clz_none c1, vrA_fix hv hf, fun v F2 H2 st2 c2 hv2 hn => ?_⟩
  have st : Step as F1 H1 F2 H2 := st2.narrow
  exact kk v F2 H2 (st1.trans st) (clz_back c1 st2 c2) (vr_back hq hv2 hn c1.there) (newBack st1 hn)
theorem ev_call0 (h : Has X.prog X.w X.K X.mg X.base j x R) (c : Cz k X) (hr : R [] [] r []) (hq : r.fix = true ∨ ∃ xs, r = .fre xs := by first | exact .inl rfl | exact .inr ⟨_, rfl⟩) (hjk : j ≤ k := by decide)
    (hg : Gl X x := by rfl) (hdb : (x == ("__debug__" : Str)) = false := by decide) : Ev X Γ μ (.Call (.Name x p) [] [] pos) r μ := by
  obtain ⟨f, fd, ps, F, hm, kp, hb⟩ := h.ex
  refine pe_le (pe_call0 (F.mono hjk) c.rm hg hm kp hb .nil pass0 hdb) fun σ H Q q => ?_
  obtain ⟨F0, as, cl, sl, kk⟩ := q
  refine ⟨F0, [], [], [], r, [], hr, clz_none cl, .nil, fun v F2 H2 st2 c2 hv2 hn => ?_⟩
  exact kk v F2 H2 st2.narrow (clz_back cl st2 c2) (vr_back hq hv2 hn cl.there) hn
/-- a def that is given one mutable list, as its first argument -/
theorem ev_callBox (h : Has X.prog X.w X.K X.mg X.base j x R) (c : Cz k X) (ha : EvA X Γ μ (e :: es) (.cel n :: rs) μ1) (hx : μ1[n]? = some (some xs)) (hr : R (.cel 0 :: rs) [some xs] r [some ys]) (hf : rs.all Sl.fix = true := by rfl) (hq : r.fix = true ∨ ∃ xs, r = .fre xs := by first | exact .inl rfl | exact .inr ⟨_, rfl⟩) (hjk : j ≤ k := by decide)
    (hg : Gl X x := by rfl) (hdb : (x == ("__debug__" : Str)) = false := by decide) (he : starEach (e :: es) X.env = (false, eval e X.env) :: starEach es X.env := by rfl) (hpl : (backTo pos (starEach es X.env)).any (·.1) = false := by rfl) :
    Ev X Γ μ (.Call (.Name x p) (e :: es) [] pos) r (μ1.set n (some ys)) := by
  obtain ⟨f, fd, ps, F, hm, kp, hb⟩ := h.ex
  refine pe_le (pe_call (F.mono hjk) c.rm hg hm kp hb .nil pass0 ha hdb he hpl) fun σ H Q q => ?_
  obtain ⟨F0, as, cl, sl, kk⟩ := q
  refine ⟨F0, as, cl, sl, fun vs F1 H1 st1 c1 hv => ?_⟩
  show spD X.K R (vs ++ []) H1 Q E0
  rw [List.append_nil]
  cases hv with
  | @cons v1 _ vs1 _ hv1 hvs =>
  obtain ⟨A, rfl, hA⟩ := hv1
  obtain ⟨A', us, g1, g2, g3, g4⟩ := c1.cel n xs hx
  rw [hA] at g1
  cases g1
  have mA : A ∈ as := List.mem_of_getElem? hA
  refine ⟨F1, [A], [some xs], .cel 0 :: rs, r, [some ys], hr, ⟨c1.sub, by simp, rfl, fun k zs hk => ?_, fun a ha => ?_, c1.tab, c1.nt⟩, .cons ⟨A, rfl, rfl⟩ (vrA_fix hvs hf), fun v F2 H2 st2 c2 hv2 hn => ?_⟩
  · cases k with
    | zero => cases hk; exact ⟨A, us, rfl, g2, g3, g4⟩
    | succ k => simp at hk
  · rw [List.mem_singleton.mp ha, g3]; simp
  · have st : Step as F1 H1 F2 H2 := ⟨st2.ex, fun b o nb nt h => st2.kp b o (fun m => nb (List.mem_singleton.mp m ▸ mA)) nt h, fun b h1 h2 nb => st2.fr b h1 h2 (fun m => nb (List.mem_singleton.mp m ▸ mA)), st2.dm⟩
    refine kk v F2 H2 (st1.trans st) ⟨c2.sub, c1.nd, by simp [c1.len], fun k zs hk => ?_, fun a ha => st2.dm a (c1.there a ha), c2.tab, c2.nt⟩ (vr_back hq hv2 hn c1.there) (newBack st1 hn)
    by_cases hkn : n = k
    · subst hkn
      rw [List.getElem?_set_self (List.getElem?_eq_some_iff.mp hx).1] at hk
      cases hk
      obtain ⟨B, ws, e1, e2, e3, e4⟩ := c2.cel 0 ys rfl
      cases e1
      exact ⟨A, ws, hA, e2, e3, e4⟩
    · rw [List.getElem?_set_ne hkn] at hk
      obtain ⟨B, ws, e1, e2, e3, e4⟩ := c1.cel k zs hk
      have nB : B ∉ [A] := fun m => by
        rw [List.mem_singleton] at m
        subst m
        exact hkn ((List.getElem?_inj (List.getElem?_eq_some_iff.mp hA).1 c1.nd).mp (hA.trans e1.symm))
      exact ⟨B, ws, e1, st2.fr B (by rw [e3]; simp) e2 nB, st2.kp B _ nB (fun ps z => by cases z) e3, st2.ex.dpAll e4⟩
/-- a def that is given a new list, as its first argument, to write at -/
theorem ev_callFre (h : Has X.prog X.w X.K X.mg X.base j x R) (c : Cz k X) (ha : EvN X Γ μ (e :: es) (.fre xs :: rs) μ1) (hr : R (.cel 0 :: rs) [some xs] r [some ys]) (hf : rs.all Sl.fix = true := by rfl) (hq : r.fix = true := by rfl) (hjk : j ≤ k := by decide)
    (hg : Gl X x := by rfl) (hdb : (x == ("__debug__" : Str)) = false := by decide) (he : starEach (e :: es) X.env = (false, eval e X.env) :: starEach es X.env := by rfl) (hpl : (backTo pos (starEach es X.env)).any (·.1) = false := by rfl) :
    Ev X Γ μ (.Call (.Name x p) (e :: es) [] pos) r μ1 := by
  obtain ⟨f, fd, ps, F, hm, kp, hb⟩ := h.ex
  refine pe_le (pe_call (F.mono hjk) c.rm hg hm kp hb .nil pass0 ha hdb he hpl) fun σ H Q q => ?_
  obtain ⟨F0, as, cl, sl, kk⟩ := q
  refine ⟨F0, as, cl, sl, fun vs F1 H1 st1 c1 hv nd nw => ?_⟩
  show spD X.K R (vs ++ []) H1 Q E0
  rw [List.append_nil]
  cases hv with
  | @cons v1 _ vs1 _ hv1 hvs =>
  obtain ⟨A, us, rfl, g3, g2, nA, g4⟩ := hv1
  have hA : H A = none := nw A (by rw [frA_cons]; exact List.mem_append_left _ (by simp [frA]))
  refine ⟨F1, [A], [some xs], .cel 0 :: rs, r, [some ys], hr, ⟨c1.sub, by simp, rfl, fun k zs hk => ?_, fun a ha => ?_, c1.tab, c1.nt⟩, .cons ⟨A, rfl, rfl⟩ (vrA_fix hvs hf), fun v F2 H2 st2 c2 hv2 hn => ?_⟩
  · cases k with
    | zero => cases hk; exact ⟨A, us, rfl, g2, g3, g4⟩
    | succ k => simp at hk
  · rw [List.mem_singleton.mp ha, g3]; simp
  · have ne : ∀ b, H b ≠ none → b ∉ [A] := fun b hb m => by rw [List.mem_singleton.mp m] at hb; exact hb hA
    have st : Step as F0 H F2 H2 := ⟨st1.ex.trans st2.ex, fun b o nb nt h => st2.kp b o (ne b (by rw [h]; simp)) nt (st1.kp b o nb nt h), fun b h1 h2 nb => st2.fr b (st1.dm b h1) (st1.fr b h1 h2 nb) (ne b h1), fun b h => st2.dm b (st1.dm b h)⟩
    refine kk v F2 H2 st ⟨c2.sub, c1.nd, c1.len, fun k zs hk => ?_, fun a ha => st2.dm a (c1.there a ha), c2.tab, c2.nt⟩ (vr_back (.inl hq) hv2 hn c1.there) (newBack st1 hn)
    obtain ⟨B, ws, e1, e2, e3, e4⟩ := c1.cel k zs hk
    have nB : B ∉ [A] := fun m => by
      rw [List.mem_singleton] at m
      subst m
      exact nA (List.mem_of_getElem? e1)
    exact ⟨B, ws, e1, st2.fr B (by rw [e3]; simp) e2 nB, st2.kp B _ nB (fun ps z => by cases z) e3, st2.ex.dpAll e4⟩
end
end DL
end
section
set_option autoImplicit false
/-! D-layer 10: isinstance, None, defaults of max and min, count, index, wide numbers, tuple * n. -/
namespace DL
open PySem PySem.Spec PyProof.Rows L2
open PySem.W (Datum Tup DatumOrd Holds HoldAll T3)

/-- the type's name -/
def tyOf : PyData → String
  | .none => "NoneType"
  | .bool _ => "bool"
  | .int _ => "int"
  | .str _ => "str"
  | .list _ => "list"
  | _ => "tuple"
section
variable {X : Cx} {k : Nat} {Γ Γ1 Γ2 : List Sl} {μ μ1 μ2 μ3 : Mu} {e a b tg : Expr} {es tgs : List Expr} {r ra rb rc : Sl} {rs : List Sl} {pos p p2 : Pos} {ds xs ys : List PyData} {d : PyData} {n : Nat}
theorem dp_tyX {H : Hp} {v : V} (h : Dp X.K H v d) : TyX X.K H v (.type (tyOf d)) := by
  cases h with
  | non => exact .base .non
  | bl b => exact .base (.bl b)
  | int i => exact .base (.int i)
  | str x => exact .base (.str x)
  | lst h t =>
    rcases h with (h | ⟨o, h⟩) | ⟨o, its, n, h1, h2, _⟩
    · exact .base (.lst h)
    · exact .base (.frz h)
    · exact .kList h1 h2
  | tup h t =>
    rcases h with (h | ⟨o, h⟩) | ⟨o, its, n, h1, h2, _⟩
    · exact .base (.tup h)
    · exact .fTuple h
    · exact .kTuple h1 h2
/-- isinstance(e, T) -/
theorem ev_isi {T : Str} {T' : String} {q : Bool} (c : Cz k X) (he : Ev X Γ μ e ra μ1) (er : ra.rd μ1 = some d) (hT : bootBuiltins T = some (.type T')) (hm : X.mg T = none) (hk : kitB (tyOf d) T' = some q) (hg2 : Gl X T := by rfl) (hg : Gl X "isinstance" := by rfl) (hn : T ≠ "__name__" := by decide) (hd : (T == ("__debug__" : Str)) = false := by decide)
    (hs : starEach [e, .Name T p2] X.env = (false, eval e X.env) :: starEach [.Name T p2] X.env := by rfl) (hs2 : starEach [.Name T p2] X.env = (false, eval (.Name T p2) X.env) :: starEach [] X.env := by rfl) (hpl : (backTo pos (starEach [.Name T p2] X.env)).any (·.1) = false := by rfl) :
    Ev X Γ μ (.Call (.Name "isinstance" p) [e, .Name T p2] [] pos) (dd q) μ1 :=
  pe_le (pe_callB call_isi hg c.b_isinstance (by decide +kernel) (pa_cons he (pa_cons (pe_bltn (v := .ty T') hg2 hm hT rfl hn hd) pa_nil hs2) hs) (by decide) (by decide) hs hpl) fun σ H Q h => by
    obtain ⟨F, as, cl, sl, kk⟩ := h
    refine ⟨F, as, cl, sl, fun v F1 H1 st1 c1 hv _ => ?_⟩
    exact ⟨v, .ty T', _, _, q, rfl, .ty T', dp_tyX (hv.dp c1 er), kit_ty hk, kk (.bl q) F1 H1 st1 c1 (Dp.bl q) trivial⟩
/-- isinstance(e, (T, U)) -/
theorem ev_isi2 {T U : Str} {T' U' : String} {q1 q2 : Bool} {kt : Nat} {pt pT pU : Pos} (c : Cz k X) (he : Ev X Γ μ e ra μ1) (er : ra.rd μ1 = some d) (hT : bootBuiltins T = some (.type T')) (hU : bootBuiltins U = some (.type U')) (hmT : X.mg T = none) (hmU : X.mg U = none)
    (hk : kitB (tyOf d) T' = some q1) (hk2 : kitB (tyOf d) U' = some q2) (hgT : Gl X T := by rfl) (hgU : Gl X U := by rfl) (hg : Gl X "isinstance" := by rfl) (hn : T ≠ "__name__" := by decide) (hd : (T == ("__debug__" : Str)) = false := by decide) (hn2 : U ≠ "__name__" := by decide) (hd2 : (U == ("__debug__" : Str)) = false := by decide)
    (hs : starEach [e, .Tuple [.Name T pT, .Name U pU] kt pt] X.env = (false, eval e X.env) :: starEach [.Tuple [.Name T pT, .Name U pU] kt pt] X.env := by rfl) (hs2 : starEach [.Tuple [.Name T pT, .Name U pU] kt pt] X.env = (false, eval (.Tuple [.Name T pT, .Name U pU] kt pt) X.env) :: starEach [] X.env := by rfl)
    (hs3 : starEach [.Name T pT, .Name U pU] X.env = (false, eval (.Name T pT) X.env) :: starEach [.Name U pU] X.env := by rfl) (hs4 : starEach [.Name U pU] X.env = (false, eval (.Name U pU) X.env) :: starEach [] X.env := by rfl)
    (hpl : (backTo pos (starEach [.Tuple [.Name T pT, .Name U pU] kt pt] X.env)).any (·.1) = false := by rfl) :
    Ev X Γ μ (.Call (.Name "isinstance" p) [e, .Tuple [.Name T pT, .Name U pU] kt pt] [] pos) (dd (q1 || q2)) μ1 :=
  pe_le (pe_callB call_isiT hg c.b_isinstance (by decide +kernel) (pa_cons he (pa_cons (pe_tup (pa_cons (pe_bltn (v := .ty T') hgT hmT hT rfl hn hd) (pa_cons (pe_bltn (v := .ty U') hgU hmU hU rfl hn2 hd2) pa_nil hs4) hs3)) pa_nil hs2) hs) (by decide) (by decide) hs hpl) fun σ H Q h => by
    obtain ⟨F, as, cl, sl, kk⟩ := h
    refine ⟨F, as, cl, sl, fun v F1 H1 st1 c1 hv _ => ⟨(show 2 ≤ sizeLine from by decide), fun q hq => ?_⟩⟩
    have st2 := StepP.hxOnly (H' := upd H1 q (.tup [.ty T', .ty U'])) c1.sub (Ex.new hq)
    refine ⟨v, q, _, .type (tyOf d), [.type T', .type U'], q1 || q2, rfl, upd_same, .cons (.ty T') (.cons (.ty U') .nil), dp_tyX (st2.hx.dp (hv.dp c1 er)), ?_, kk (.bl _) F1 _ (st1.trans st2.step) (c1.pure st2) (Dp.bl _) trivial⟩
    refine kitAny_cons (kit_ty hk) (fun h => ?_) (fun h => by rw [h]; rfl)
    rw [h]
    exact kitAny_cons (kit_ty hk2) (fun h2 => by rw [h2]; exact kitAny_nil) (fun h2 => by rw [h2]; rfl)
/-- e is None -/
def isNone : PyData → Bool
  | .none => true
  | _ => false
theorem dp_non {H : Hp} {v : V} (h : Dp X.K H v d) : decide (v = .non) = isNone d := by
  cases h <;> rfl
theorem f_isN (er : ra.rd μ = some d) : OpF X (compareOp .Is) μ ra (dd ()) (dd (isNone d)) := ⟨_, op_isN, fun F H as x y Q c hx hy q => by
  cases hy
  refine ⟨rfl, ?_⟩
  rw [dp_non (hx.dp c er)]
  exact q _ F H (StepP.refl c.sub) (Dp.bl _) trivial⟩
variable {i j : Int}
theorem f_mulW (h : CMulW i j) : OpF X (binaryOp .Mult) μ (dd i) (dd j) (dd (i * j)) := op_two op_mulW (fun _ => Dp.int _) fun _ _ q => ⟨i, j, rfl, rfl, h, q⟩
theorem f_fdivW (h : CDivW i j) : OpF X (binaryOp .FloorDiv) μ (dd i) (dd j) (dd (i / j)) := op_two op_fdivW (fun _ => Dp.int _) fun _ _ q => ⟨i, j, rfl, rfl, h, q⟩
theorem f_pow (h : CPow i j) : OpF X (binaryOp .Pow) μ (dd i) (dd j) (dd (i ^ j.toNat)) := op_two op_pow (fun _ => Dp.int _) fun _ _ q => ⟨i, j, rfl, rfl, h, q⟩
variable {α : Type} [DecidableEq α] [Datum α]
/-- xs.count(e) -/
theorem mt_count (c : Cz k X) [Flat α] {xs : List α} {y : α} : MtR X "list.count" (fun x vs H Q => ∃ v, vs = [v] ∧ Dp X.K H x (Datum.toD xs) ∧ Dp X.K H v (Datum.toD y) ∧ ∀ z, (∀ H', Dp X.K H' z (.int ((xs.countP fun u => decide (u = y) : Nat) : Int))) → Q z H) := by
  intro pins s σ H x vs v us Q I rx rv h
  obtain ⟨w, rfl, h1, h2, q⟩ := h
  obtain ⟨u, rfl, ru⟩ := rv.one
  cases h1 with
  | lst hs ha =>
    cases rx
    obtain ⟨its, rr, pl, _⟩ := I.list hs
    exact PySem.W.count_list_datum pl.isList (by rw [show its.toArray.toList = its by simp]; exact holdAll_of I ha rr) (holds_of (F := H) I h2 ru) (Flat.un c) ⟨.int _, H, I.tok _, ⟨_, rfl⟩, q _ fun _ => Dp.int _⟩
theorem ev_count {apos : Pos} {xs : List α} {y : α} (c : Cz k X) [Flat α] (ho : Ev X Γ μ a ra μ1) (he : Ev X Γ μ1 e rb μ2) (e1 : ra.rd μ1 = some (Datum.toD xs)) (e2 : ra.rd μ2 = some (Datum.toD xs)) (e3 : rb.rd μ2 = some (Datum.toD y))
    (hbase : attributeBase a "count" X.env (eval a X.env) = eval a X.env := by rfl) (hline : (apos.endLine == pos.line) = true := by rfl) (hs : starEach [e] X.env = (false, eval e X.env) :: starEach [] X.env := by rfl)
    (hfew : ((backTo pos (starEach [e] X.env)).all (fun x => !x.1) && (backToKw pos (keywordEach [] X.env)).all (fun x => x.1.isSome)
      && decide ([e].length + ([] : List Keyword).length + (if ([] : List Keyword).isEmpty then 0 else 1) < 30)) = true := by rfl) :
    Ev X Γ μ (.Call (.Attribute a "count" apos) [e] [] pos) (dd ((xs.countP fun u => decide (u = y) : Nat) : Int)) μ2 :=
  pe_le (pe_bm PySem.F.plainAttrs_list PySem.F.slot_list_count PySem.F.type_list_count (mt_count c) ho (ea_cons he ea_nil hs) hbase hfew hline hs) fun σ H Q q => by
    obtain ⟨F, as, cl, sl, kk⟩ := q
    refine ⟨F, as, cl, sl, fun v F1 H1 st1 c1 hv _ => ?_⟩
    obtain ⟨A, us, rfl, h2, h3⟩ := hv.seqL c1 e1
    refine ⟨tyL h2, F1, as, c1, sl.mono st1, fun ws F2 H2 st2 c2 hws => ?_⟩
    obtain ⟨y, rfl, hy2⟩ := hws.one
    exact ⟨y, rfl, (hv.mono st2).dp c2 e2, hy2.dp c2 e3, fun z hz => kk z F2 H2 (st1.trans st2) c2 (hz F2) trivial⟩
/-- tuple(xs): a new tuple, known to have no dict -/
theorem call_tuple_frz : CallR X (.type "tuple") (fun xs H Q => ∃ p ys, xs = [.ref p] ∧ SqL X.K H p ys ∧ ∀ l o, H l = none → o.dict = none → Q (.ref l) (upd H l (.frz o (.tup ys)))) := by
  intro pins s σ H xs us Q I r h
  obtain ⟨p, ys, rfl, hq, q⟩ := h
  obtain ⟨u, rfl, rx⟩ := vals1 r
  cases rx
  obtain ⟨its, r', pl, hz⟩ := I.list hq
  have hlen := r'.length
  refine call_tuple_list pl.isList (fun h' kp => ?_) (by simp only [List.size_toArray] <;> omega)
  have I1 : Inv X pins σ H { s with heap := h' } := I.kept (t' := s.toks) kp
  have I2 : Inv X pins σ (upd H h'.objs.size (.frz { cls := .type "tuple", data := .seq its.toArray } (.tup ys))) { s with heap := h'.push { cls := .type "tuple", data := .seq its.toArray } } :=
    I1.laid (t' := s.toks) (fun b o e => Heap.get?_push_of_some _ e) (Nat.le_refl _) (show ObjOk X.prog X.w _ _ _ (.frz _ (.tup ys)) from ⟨Heap.get?_push_size _ rfl, hz, its, r', IsTup.new _ _⟩)
  exact ⟨.ref h'.objs.size, _, I2, rfl, q _ _ (I1.hok.fresh (Nat.le_refl _)) rfl⟩
/-- a tuple without a dict of its own -/
def tDF (K : PySem.W.Frag) (Γ : List Sl) (μ : Mu) (ds : List PyData) (μ' : Mu) : TE := fun σ H Q => ∃ F as, Clz K F H as μ ∧ Sls K F H as σ Γ ∧
  ∀ A o vs F' H', Step as F H F' H' → Clz K F' H' as μ' → F' A = some (.frz o (.tup vs)) → o.dict = none → DpAll K F' vs ds → Q (.ref A) H'
abbrev EvF (X : Cx) (Γ : List Sl) (μ : Mu) (e : Expr) (ds : List PyData) (μ' : Mu) : Prop := PE X e (tDF X.K Γ μ ds μ')
theorem ef_tuple (c : Cz k X) (h : Ev X Γ μ e (.fre ds) μ1) (hg : Gl X "tuple" := by rfl) (hs : starEach [e] X.env = (false, eval e X.env) :: starEach [] X.env := by rfl) : EvF X Γ μ (.Call (.Name "tuple" p) [e] [] pos) ds μ1 :=
  pe_le (pe_callTy call_tuple_frz hg c.b_tuple (by decide +kernel) (ea_cons h ea_nil hs) (by decide) (by decide) hs rfl) fun σ H Q q => by
    obtain ⟨F, as, cl, sl, kk⟩ := q
    refine ⟨F, as, cl, sl, fun vs F1 H1 st1 c1 hv => ?_⟩
    obtain ⟨v, rfl, h1⟩ := hv.one
    obtain ⟨A, ys, rfl, h2, h3, h4, h5⟩ := h1
    refine ⟨A, ys, rfl, .inl (.inl h2), fun l o hl ho => ?_⟩
    have st := StepP.new (o := .frz o (.tup ys)) c1.sub hl
    exact kk l o ys _ _ (st1.trans st.step) (c1.pure st) upd_same ho (st.ex.dpAll h5)
theorem EvF.ev (h : EvF X Γ μ e ds μ1) : Ev X Γ μ e (.dat (.tuple ds)) μ1 := pe_le h fun σ H Q q => by
  obtain ⟨F, as, cl, sl, kk⟩ := q
  exact ⟨F, as, cl, sl, fun A o vs F' H' st c hF ho hd => kk (.ref A) F' H' st c (.tup (.inl (.inr ⟨o, hF⟩)) hd) trivial⟩
/-- t.index(e), e in t -/
theorem ev_index {apos : Pos} {xs : Tup α} {y : α} (c : Cz k X) [Flat α] (ho : EvF X Γ μ a (xs.items.map Datum.toD) μ1) (he : Ev X Γ μ1 e (dd y) μ2) (hy : y ∈ xs.items)
    (hbase : attributeBase a "index" X.env (eval a X.env) = eval a X.env := by rfl) (hline : (apos.endLine == pos.line) = true := by rfl) (hs : starEach [e] X.env = (false, eval e X.env) :: starEach [] X.env := by rfl)
    (hfew : ((backTo pos (starEach [e] X.env)).all (fun x => !x.1) && (backToKw pos (keywordEach [] X.env)).all (fun x => x.1.isSome)
      && decide ([e].length + ([] : List Keyword).length + (if ([] : List Keyword).isEmpty then 0 else 1) < 30)) = true := by rfl) :
    Ev X Γ μ (.Call (.Attribute a "index" apos) [e] [] pos) (dd ((xs.items.idxOf y : Nat) : Int)) μ2 := by
  refine ⟨fun pins s σ H Q I q => ?_⟩
  obtain ⟨F, as, cl, sl, kk⟩ := q
  refine wpAny_Call_method_late hbase hfew hline rfl (thn (ho.run pins s σ H (fun v H1 => ∃ F1 A o us, v = .ref A ∧ Step as F H F1 H1 ∧ Clz X.K F1 H1 as μ1 ∧ F1 A = some (.frz o (.tup us)) ∧ o.dict = none ∧ DpAll X.K F1 us (xs.items.map Datum.toD)) I ⟨F, as, cl, sl, fun A o us F1 H1 st1 c1 hF hod hd => ⟨F1, A, o, us, rfl, st1, c1, hF, hod, hd⟩⟩) fun v s1 ⟨x, H1, I1, r1, q1⟩ => ?_)
  obtain ⟨F1, A, o, us, rfl, st1, c1, hF, hod, h3⟩ := q1
  have h2 : SqT X.K F1 A us := .inl (.inr ⟨o, hF⟩)
  cases r1
  obtain ⟨its, rv, pl, _⟩ := I1.tuple (c1.sub.st h2)
  obtain ⟨o1, ho1, hc1, hd1⟩ := id pl
  obtain ⟨ho2, _⟩ := (show ObjOk X.prog X.w H1 s1.heap A (.frz o (.tup us)) from I1.hok A _ (c1.sub A _ hF))
  refine ⟨"tuple", "tuple.index", PySem.F.plainAttrs_tuple, PySem.F.slot_tuple_index, PySem.F.type_tuple_index, ⟨o1, ho1, hc1⟩, fun b e => ?_, ?_⟩
  · cases e
    exact ⟨o, ho2, hod⟩
  · have hA := (ea_cons he ea_nil hs).run pos pins s1 σ H1 (fun vs H2 => ∃ F2 w, vs = [w] ∧ Step as F1 H1 F2 H2 ∧ Clz X.K F2 H2 as μ2 ∧ Dp X.K F2 w (Datum.toD y)) I1 ⟨F1, as, c1, sl.mono st1, fun vs F2 H2 st2 c2 hvs => by
      obtain ⟨w, rfl, hw⟩ := hvs.one
      exact ⟨F2, w, rfl, st2, c2, hw⟩⟩
    rw [hs] at hA ⊢
    refine Calls.callWith_builtin (by rfl) (Calls.evalArgs_plain ?_)
    refine thn hA fun us2 s2 ⟨vs, H2, I2, r2, F2, w, e2, st2, c2, hw⟩ => ?_
    subst e2
    obtain ⟨u, rfl, ru⟩ := r2.one
    obtain ⟨its2, rv2, pl2, _⟩ := I2.tuple (c2.sub.st (st2.ex.st h2))
    exact PySem.W.index_tuple_datum pl2 (holdAll_of (xs := xs.items) I2 (c2.sub.dpAll (st2.ex.dpAll h3)) rv2) (holds_of (F := H2) I2 (c2.sub.dp hw) ru) (Flat.un c) hy ⟨.int _, H2, I2.tok _, ⟨_, rfl⟩, kk _ F2 H2 (st1.trans st2) c2 (Dp.int _) trivial⟩
/-- (0,) * n -/
theorem op_rep1 : OpR X (binaryOp .Mult) (fun x y H Q => ∃ a us, x = .ref a ∧ y = .int 1 ∧ SqT X.K H a us ∧ Q (.ref a) H) := by
  intro pins s σ H x y v u Q I rx ry h
  obtain ⟨l, xs, rfl, rfl, hT, q⟩ := h
  cases rx
  obtain ⟨t, rfl⟩ := ry
  obtain ⟨its, r, ⟨⟨cls, dd, data, sl⟩, ho, hc, n, hd⟩, hs⟩ := I.tuple hT
  simp only at hc hd
  subst hc hd
  refine wpAny_binaryOp_repeat_ref (T := "tuple") (U := "int") (by decide) ⟨_, ho, rfl⟩ (fun s' => typeIs_int s' 1 t) noFill_tuple_mul F.fills_int_mul F.slot_int_rmul repeat_tuple F.slot_int_index.lookup
    (call_meets F.slot_int_rmul (typeIs_int s 1 t) F.entry_int_rmul (F.args_int_rmul_2 _ _) (int_rmul_tuple 1 t l its.toArray n dd sl)
      ⟨ho, rfl, ⟨_, ho, rfl⟩, call_meets F.slot_tuple_mul ⟨_, ho, rfl⟩ F.entry_tuple_mul (F.args_tuple_mul_2 _ _) (tuple_mul1 l its.toArray n dd sl t) ⟨ho, ?_⟩⟩)
  exact ⟨.ref l, H, I, rfl, q⟩
theorem f_repT {ds : List PyData} {n : Nat} (hd : ds ≠ []) (hz : ds.length ≤ 1000) (hn : n ≤ 1000) (h1 : 1 ≤ n) : OpF X (binaryOp .Mult) μ (.dat (.tuple ds)) (dd (n : Int)) (.dat (.tuple (List.replicate n ds).flatten)) := by
  by_cases h2 : n = 1
  · subst h2
    refine ⟨_, op_rep1, fun F H as x y Q c hx hy q => ?_⟩
    obtain ⟨a, us, rfl, g1, g2⟩ := hx.seqT c rfl
    cases hy
    exact ⟨a, us, rfl, rfl, c.sub.st g1, q _ F H (StepP.refl c.sub) (.tup g1 (by simpa using g2)) trivial⟩
  · refine ⟨_, op_repT, fun F H as x y Q c hx hy q => ?_⟩
    obtain ⟨a, us, rfl, g1, g2⟩ := hx.seqT c rfl
    cases hy
    refine ⟨a, n, us, rfl, rfl, c.sub.st g1, fun e => ?_, by omega, by omega, by rw [g2.length]; exact hz, fun p hp => ?_⟩
    · subst e
      cases g2
      exact hd rfl
    · rw [Int.toNat_natCast]
      have st := StepP.new (o := .tup (List.replicate n us).flatten) c.sub hp
      exact q _ _ _ st (.tup (.inl (.inl upd_same)) (st.ex.dpAll (g2.rep n))) trivial
theorem f_repT0 {z : Int} {n : Nat} (hn : n ≤ 1000) (h1 : 1 ≤ n) : OpF X (binaryOp .Mult) μ (dd (Tup.mk [z])) (dd (n : Int)) (dd (Tup.mk (List.replicate n z))) := by
  have h := f_repT (X := X) (μ := μ) (ds := [Datum.toD z]) (n := n) (by simp) (by simp) hn h1
  have e : ∀ m, (List.replicate m [Datum.toD z]).flatten = (List.replicate m z).map Datum.toD := fun m => by
    induction m with
    | zero => rfl
    | succ m ih => rw [List.replicate_succ, List.replicate_succ, List.flatten_cons, ih]; rfl
  rw [e] at h
  exact h
/-- max(xs, default=n), min of lists with a default -/
def maxD (d : Int) : List Int → Int
  | [] => d
  | xs => imax xs
theorem cr_maxD (c : Cz k X) {xs : List Int} {n : Int} : CallRK X (.builtin "max") [Str.ofString "default"] (fun vs zs H Q => ∃ v, vs = [v] ∧ zs = [.int n] ∧ Dp X.K H v (Datum.toD xs) ∧ Q (.int (maxD n xs)) H) := by
  intro pins s σ H vs zs us ws Q I r rz h
  obtain ⟨v, rfl, rfl, h1, q⟩ := h
  cases h1 with
  | @lst a ys _ h1 h2 =>
    obtain ⟨its, rv, pl, _⟩ := I.list h1
    rw [Vals.ref1 r]
    obtain ⟨w, rfl, t, rfl⟩ : ∃ w, ws = [w] ∧ ∃ t, w = Value.int n t := by
      cases rz with
      | cons p q => cases q; exact ⟨_, rfl, p⟩
    refine PySem.W.max_list_datum_default (xs := xs) (d := .int n t) (I.ok.hd c.calm) pl.isList (by rw [show its.toArray.toList = its by simp]; exact holdAll_of I h2 rv) (Flat.un c) (fun e h' tk hk => ?_) fun y ys i v h' tk e _ hv hk => ?_
    · subst e
      exact ⟨.int n, H, I.kept hk, ⟨t, rfl⟩, q⟩
    · obtain ⟨t, rfl⟩ := PySem.W.int_of_holds hv
      subst e
      have e : PySem.W.maxOf y ys = imax (y :: ys) := by
        unfold PySem.W.maxOf imax
        congr 1
        funext a y
        show (if decide (a < y) = true then y else a) = _
        by_cases h : a < y <;> simp [h]
      refine ⟨.int _, H, I.kept hk, ⟨t, rfl⟩, ?_⟩
      rw [e]
      exact q
theorem ev_maxD {xs : List Int} {n : Int} {kp : Pos} (c : Cz k X) (ha : Ev X Γ μ a ra μ1) (e : ra.rd μ1 = some (Datum.toD xs)) (hb : Ev X Γ μ1 b (dd n) μ1) (hg : Gl X "max" := by rfl)
    (hs : starEach [a] X.env = (false, eval a X.env) :: starEach [] X.env := by rfl) (he : backTo pos (starEach [a] X.env) = (false, eval a X.env) :: backTo pos (starEach [] X.env) := by rfl) (hpl : (backTo pos (starEach [a] X.env)).any (·.1) = false := by rfl)
    (hall : (backToKw pos (keywordEach [⟨some "default", b, kp⟩] X.env)).all (·.1.isSome) = true := by rfl) (hnone : (backToKw pos (keywordEach [⟨some "default", b, kp⟩] X.env)).any (·.1.isNone) = false := by rfl) (hks : (backToKw pos (keywordEach [⟨some "default", b, kp⟩] X.env)).filterMap (·.1) = [Str.ofString "default"] := by rfl) :
    Ev X Γ μ (.Call (.Name "max" p) [a] [⟨some "default", b, kp⟩] pos) (dd (maxD n xs)) μ1 :=
  pe_le (pe_callBK (cr_maxD c) hg c.b_max (by decide +kernel) (ea_cons ha ea_nil hs) (pk_cons hb pk_nil) (by decide) (by decide) he hpl hall hnone hks) fun σ H Q q => by
    obtain ⟨F, as, cl, sl, kk⟩ := q
    refine ⟨F, as, cl, sl, fun vs F1 H1 st1 c1 hv => ⟨F1, as, c1, sl.mono st1, fun w F2 H2 st2 c2 hw _ => ?_⟩⟩
    obtain ⟨v, rfl, h1⟩ := hv.one
    cases hw
    exact ⟨v, rfl, rfl, (h1.mono st2).dp c2 e, kk _ F2 H2 (st1.trans st2) c2 (Dp.int _) trivial⟩
variable {γ : Type} [DecidableEq γ] [DatumOrd γ]
theorem minOf_mem (y : γ) (ys : List γ) : PySem.W.minOf y ys ∈ y :: ys := by
  unfold PySem.W.minOf
  induction ys generalizing y with
  | nil => simp
  | cons z zs ih =>
    simp only [List.foldl_cons]
    split
    · exact List.mem_cons_of_mem _ (ih z)
    · rcases List.mem_cons.mp (ih y) with h | h
      · rw [h]; exact List.mem_cons_self
      · exact List.mem_cons_of_mem _ (List.mem_cons_of_mem _ h)
theorem cr_minD (c : Cz k X) [Flat γ] {xs : List γ} {d : γ} {F : Hp} : CallRK X (.builtin "min") [Str.ofString "default"] (fun vs zs H Q => ∃ A ys z, vs = [.ref A] ∧ zs = [z] ∧ Ex F H ∧ SqL X.K H A ys ∧ DpAll X.K F ys (xs.map Datum.toD) ∧ Dp X.K F z (Datum.toD d) ∧ ∀ v, Dp X.K F v (Datum.toD (minD d xs)) → Q v H) := by
  intro pins s σ H vs zs us ws Q I r rz h
  obtain ⟨A, ys, z, rfl, rfl, ex, h1, h2, h3, q⟩ := h
  obtain ⟨its, rv, pl, _⟩ := I.list h1
  rw [Vals.ref1 r]
  obtain ⟨w, rfl, rw'⟩ : ∃ w, ws = [w] ∧ RelV z w := by
    cases rz with
    | cons p q => cases q; exact ⟨_, rfl, p⟩
  refine PySem.W.min_list_datum_default (xs := xs) (d := w) (I.ok.hd c.calm) pl.isList (by rw [show its.toArray.toList = its by simp]; exact holdAll_of I (ex.dpAll h2) rv) (Flat.un c) (fun e h' tk hk => ?_) fun y ys' i v h' tk e hi hv hk => ?_
  · subst e
    exact ⟨z, H, I.kept hk, rw', q z h3⟩
  · subst e
    -- the item that it is
    obtain ⟨x0, hx0, rx0⟩ : ∃ x0, ys[i]? = some x0 ∧ RelV x0 v := by
      have hi' : its[i]? = some v := by
        have : its.toArray[i]? = some v := hi
        rwa [List.getElem?_toArray] at this
      have hl : i < ys.length := by rw [rv.length]; exact (List.getElem?_eq_some_iff.mp hi').1
      obtain ⟨u, hu, ru⟩ := rv.get (x := ys[i]) (List.getElem?_eq_getElem hl)
      rw [hi'] at hu
      cases hu
      exact ⟨ys[i], List.getElem?_eq_getElem hl, ru⟩
    obtain ⟨d0, hd0, dp0⟩ := h2.get hx0
    obtain ⟨as1, r1⟩ := Dp.reads I _ _ _ (ex.dp dp0) rx0
    obtain ⟨as2, r2⟩ := hv
    have e2 := PyProof.Rows.reads_det (fun b o q _ => hk b o q) r1 r2
    refine ⟨x0, H, I.kept hk, rx0, q x0 ?_⟩
    show Dp X.K F x0 (Datum.toD (PySem.W.minOf y ys'))
    rw [e2.1]
    exact dp0
theorem ev_minD {xs : List γ} {d : γ} {kp : Pos} (c : Cz k X) [Flat γ] (ha : Ev X Γ μ a ra μ1) (e : ra.rd μ1 = some (Datum.toD xs)) (hb : Ev X Γ μ1 b (dd d) μ1) (hg : Gl X "min" := by rfl)
    (hs : starEach [a] X.env = (false, eval a X.env) :: starEach [] X.env := by rfl) (he : backTo pos (starEach [a] X.env) = (false, eval a X.env) :: backTo pos (starEach [] X.env) := by rfl) (hpl : (backTo pos (starEach [a] X.env)).any (·.1) = false := by rfl)
    (hall : (backToKw pos (keywordEach [⟨some "default", b, kp⟩] X.env)).all (·.1.isSome) = true := by rfl) (hnone : (backToKw pos (keywordEach [⟨some "default", b, kp⟩] X.env)).any (·.1.isNone) = false := by rfl) (hks : (backToKw pos (keywordEach [⟨some "default", b, kp⟩] X.env)).filterMap (·.1) = [Str.ofString "default"] := by rfl) :
    Ev X Γ μ (.Call (.Name "min" p) [a] [⟨some "default", b, kp⟩] pos) (dd (minD d xs)) μ1 := ⟨fun pins s σ H Q I q => by
  obtain ⟨F, as, cl, sl, kk⟩ := q
  have key : ∀ F2 : Hp, True := fun _ => trivial
  refine (pe_callBK (r := fun vs zs H Q => ∃ F, ∃ A ys z, vs = [.ref A] ∧ zs = [z] ∧ Ex F H ∧ SqL X.K H A ys ∧ DpAll X.K F ys (xs.map Datum.toD) ∧ Dp X.K F z (Datum.toD d) ∧ ∀ v, Dp X.K F v (Datum.toD (minD d xs)) → Q v H)
    (fun pins s σ H vs zs us ws Q I r rz ⟨F, h⟩ => cr_minD c (F := F) pins s σ H vs zs us ws Q I r rz h) hg c.b_min (by decide +kernel) (ea_cons ha ea_nil hs) (pk_cons hb pk_nil) (by decide) (by decide) he hpl hall hnone hks).run pins s σ H Q I ?_
  refine ⟨F, as, cl, sl, fun vs F1 H1 st1 c1 hv => ⟨F1, as, c1, sl.mono st1, fun w F2 H2 st2 c2 hw _ => ?_⟩⟩
  obtain ⟨v, rfl, h1⟩ := hv.one
  obtain ⟨A, ys, rfl, g1, g2⟩ := (h1.mono st2).seqL c2 e
  exact ⟨F2, A, ys, w, rfl, rfl, c2.sub, g1, g2, hw, fun v hv => kk v F2 H2 (st1.trans st2) c2 hv trivial⟩⟩
/-! types by name -/
theorem bt_list : bootBuiltins "list" = some (.type "list") := by decide +kernel
theorem bt_tuple : bootBuiltins "tuple" = some (.type "tuple") := by decide +kernel
theorem bt_int : bootBuiltins "int" = some (.type "int") := by decide +kernel
theorem bt_bool : bootBuiltins "bool" = some (.type "bool") := by decide +kernel
theorem bt_str : bootBuiltins "str" = some (.type "str") := by decide +kernel
/-- the names of the types, and which is which -/
def kitT (a b : String) : Bool := a == b || (a == "bool" && b == "int")
theorem kit_all : ∀ a ∈ ["NoneType", "bool", "int", "str", "list", "tuple"], ∀ b ∈ ["bool", "int", "str", "list", "tuple"], kitB a b = some (kitT a b) := by decide +kernel
theorem kit_d (d : PyData) {b : String} (hb : b ∈ ["bool", "int", "str", "list", "tuple"]) : kitB (tyOf d) b = some (kitT (tyOf d) b) := kit_all _ (by cases d <;> simp [tyOf]) b hb
/-- isinstance(e, T), in short -/
theorem ev_is {T : Str} {T' : String} (c : Cz k X) (he : Ev X Γ μ e ra μ1) (er : ra.rd μ1 = some d) (hT : bootBuiltins T = some (.type T')) (hm : X.mg T = none) (hb : T' ∈ ["bool", "int", "str", "list", "tuple"] := by decide) (hg2 : Gl X T := by rfl) (hg : Gl X "isinstance" := by rfl) (hn : T ≠ "__name__" := by decide) (hd : (T == ("__debug__" : Str)) = false := by decide)
    (hs : starEach [e, .Name T p2] X.env = (false, eval e X.env) :: starEach [.Name T p2] X.env := by rfl) (hs2 : starEach [.Name T p2] X.env = (false, eval (.Name T p2) X.env) :: starEach [] X.env := by rfl) (hpl : (backTo pos (starEach [.Name T p2] X.env)).any (·.1) = false := by rfl) :
    Ev X Γ μ (.Call (.Name "isinstance" p) [e, .Name T p2] [] pos) (dd (kitT (tyOf d) T')) μ1 := ev_isi c he er hT hm (kit_d d hb) hg2 hg hn hd hs hs2 hpl
theorem ev_is2 {T U : Str} {T' U' : String} {kt : Nat} {pt pT pU : Pos} (c : Cz k X) (he : Ev X Γ μ e ra μ1) (er : ra.rd μ1 = some d) (hT : bootBuiltins T = some (.type T')) (hU : bootBuiltins U = some (.type U')) (hmT : X.mg T = none) (hmU : X.mg U = none) (hbT : T' ∈ ["bool", "int", "str", "list", "tuple"] := by decide) (hbU : U' ∈ ["bool", "int", "str", "list", "tuple"] := by decide)
    (hgT : Gl X T := by rfl) (hgU : Gl X U := by rfl) (hg : Gl X "isinstance" := by rfl) (hn : T ≠ "__name__" := by decide) (hd : (T == ("__debug__" : Str)) = false := by decide) (hn2 : U ≠ "__name__" := by decide) (hd2 : (U == ("__debug__" : Str)) = false := by decide)
    (hs : starEach [e, .Tuple [.Name T pT, .Name U pU] kt pt] X.env = (false, eval e X.env) :: starEach [.Tuple [.Name T pT, .Name U pU] kt pt] X.env := by rfl) (hs2 : starEach [.Tuple [.Name T pT, .Name U pU] kt pt] X.env = (false, eval (.Tuple [.Name T pT, .Name U pU] kt pt) X.env) :: starEach [] X.env := by rfl)
    (hs3 : starEach [.Name T pT, .Name U pU] X.env = (false, eval (.Name T pT) X.env) :: starEach [.Name U pU] X.env := by rfl) (hs4 : starEach [.Name U pU] X.env = (false, eval (.Name U pU) X.env) :: starEach [] X.env := by rfl)
    (hpl : (backTo pos (starEach [.Tuple [.Name T pT, .Name U pU] kt pt] X.env)).any (·.1) = false := by rfl) :
    Ev X Γ μ (.Call (.Name "isinstance" p) [e, .Tuple [.Name T pT, .Name U pU] kt pt] [] pos) (dd (kitT (tyOf d) T' || kitT (tyOf d) U')) μ1 := ev_isi2 c he er hT hU hmT hmU (kit_d d hbT) (kit_d d hbU) hgT hgU hg hn hd hn2 hd2 hs hs2 hs3 hs4 hpl
end
end DL
end
section
set_option autoImplicit false
/-! dict(zip(t, u)) of two tuples: zip as an argument of dict, over any two iterators. -/
namespace DZ
open PySem PySem.W
open Sem (wp)
section
variable {prog : Program} {w : World} {A : Around} {E : Value → Shared → Prop} {s : Shared} {z TI TO T i1 i2 : Addr} {fp1 fp2 : List Addr} {n1 n2 i : Nat} {P1 P2 : Nat → Value → Prop} {St1 St2 : Nat → Heap → Prop} {f : Bool} {oT : Obj}
/-- the zip's next, its last tuple still out -/
theorem held_item {Q : Value → Shared → Prop} (S : ZipSep2 z TI TO i1 i2 fp1 fp2) (D1 : Draws prog w A i1 fp1 n1 P1 St1) (D2 : Draws prog w A i2 fp2 n2 P2 St2) (hz : IsZipHeld s.heap z TI TO T f) (hT : s.heap.get? T = some oT) (hTI : IsTupOf2 s.heap TI (.ref i1) (.ref i2))
    (st1 : St1 i s.heap) (st2 : St2 i s.heap) (hlt1 : i < n1) (hlt2 : i < n2)
    (hQ : ∀ x1 x2 h' tk, P1 i x1 → P2 i x2 → IsZipHeld h' z TI TO T true → St1 (i + 1) h' → St2 (i + 1) h' → IsTupOf2 h' s.heap.objs.size x1 x2 → (∀ c o, c ≠ z → c ≠ i1 → c ≠ i2 → s.heap.get? c = some o → h'.get? c = some o) → Q (.ref s.heap.objs.size) { s with heap := h', toks := tk }) :
    wpAny (model prog w) A (Builtin.«zip.__next__» ⟨[.ref z], []⟩) (fun fin s' => ∃ v, fin = .done (.ret v) ∧ Q v s') E s := by
  obtain ⟨hp, gs, ds, tk0, os⟩ := s
  show wpAny _ _ (field (.ref z) 2 >>= _) _ _ ⟨hp, gs, ds, tk0, os⟩
  refine wpAny_bind (wpAny_field hz rfl (x := .bool false) rfl ?_)
  show wpAny _ _ (field (.ref z) 3 >>= _) _ _ ⟨hp, gs, ds, tk0, os⟩
  refine wpAny_bind (wpAny_field hz rfl (x := .ref TI) rfl (wpAny_bind (wpAny_seqItems hTI rfl ?_)))
  show wpAny _ _ (Builtin.SmallTypes.ownedTupleIsFree (.ref z) >>= _) _ _ ⟨hp, gs, ds, tk0, os⟩
  refine wpAny_bind (wpAny_tupleHeld_zip hz hT fun g0 hz0 hs0 => ?_)
  replace hs0 : Heap.SameBut z hp g0 := hs0
  simp only [Bool.false_eq_true, if_false]
  refine wpAny_bind ?_
  rw [← Array.forIn_toList]
  simp only [List.forIn_cons, List.forIn_nil]
  refine wpAny_bind (wpAny_bind (wpAny_holding ?_))
  show wpAny _ _ (Builtin.SmallTypes.nextOf (.ref i1) >>= _) _ _ ⟨g0, gs, ds, tk0, os⟩
  refine wpAny_bind (D1.item i _ _ _ hlt1 (D1.over st1 hs0 S.zf1) fun x1 p1 tk1 hx1 sn1 hp1 => wpAny_pure (wpAny_pure ?_))
  replace hp1 : Heap.SameBut i1 g0 p1 := hp1
  refine wpAny_bind (wpAny_bind (wpAny_holding ?_))
  show wpAny _ _ (Builtin.SmallTypes.nextOf (.ref i2) >>= _) _ _ ⟨p1, gs, ds, tk1, os⟩
  refine wpAny_bind (D2.item i _ _ _ hlt2 (D2.over (D2.over st2 hs0 S.zf2) hp1 S.sep1_2) fun x2 p2 tk2 hx2 sn2 hp2 => wpAny_pure (wpAny_pure (wpAny_pure ?_)))
  replace hp2 : Heap.SameBut i2 p1 p2 := hp2
  show wpAny _ _ (newTuple [x1, x2] >>= _) _ _ ⟨p2, gs, ds, tk2, os⟩
  refine wpAny_bind (wpAny_newTuple ?_)
  have esz : p2.objs.size = hp.objs.size := by rw [hp2.1, hp1.1, hs0.1]
  have keepAll : ∀ c o, c ≠ z → c ≠ i1 → c ≠ i2 → hp.get? c = some o → p2.get? c = some o := fun c o ez e1 e2 g => hp2.extBut _ _ e2 (hp1.extBut _ _ e1 (hs0.extBut _ _ ez g))
  have zHeld : IsZipHeld p2 z TI TO T true := hp2.extBut _ _ S.zi2 (hp1.extBut _ _ S.zi1 hz0)
  have pushed : ∀ (c : Addr) (o : Obj), p2.get? c = some o → (p2.push { cls := .type "tuple", data := .seq #[x1, x2] }).get? c = some o := fun c o g => Heap.get?_push_of_some _ g
  refine wpAny_pure ⟨_, rfl, ?_⟩
  show Q (.ref p2.objs.size) _
  have newT : IsTupOf2 (p2.push { cls := .type "tuple", data := .seq #[x1, x2] }) p2.objs.size x1 x2 := Heap.get?_push_size _ rfl
  rw [esz] at newT ⊢
  exact hQ x1 x2 _ tk2 hx1 hx2 (pushed _ _ zHeld) (D1.frame _ _ _ (D1.over sn1 hp2 S.sep2_1) fun b _ o g => pushed b o g) (D2.frame _ _ _ sn2 fun b _ o g => pushed b o g) newT fun c o ez e1 e2 g => pushed c o (keepAll c o ez e1 e2 g)
/-- its end, so -/
theorem held_end {Q : Fin → Shared → Prop} (S : ZipSep2 z TI TO i1 i2 fp1 fp2) (D1 : Draws prog w A i1 fp1 n1 P1 St1) (D2 : Draws prog w A i2 fp2 n2 P2 St2) (hz : IsZipHeld s.heap z TI TO T f) (hT : s.heap.get? T = some oT) (hTI : IsTupOf2 s.heap TI (.ref i1) (.ref i2))
    (st1 : St1 i s.heap) (st2 : St2 i s.heap) (hle1 : i ≤ n1) (hle2 : i ≤ n2) (hend : i = n1 ∨ i = n2)
    (hE : ∀ h' tk e, (∀ c o, c ≠ z → c ≠ i1 → c ≠ i2 → s.heap.get? c = some o → h'.get? c = some o) → (∃ o, h'.get? e = some o ∧ o.cls = .type "StopIteration") → E (.ref e) { s with heap := h', toks := tk }) :
    wpAny (model prog w) A (Builtin.«zip.__next__» ⟨[.ref z], []⟩) Q E s := by
  obtain ⟨hp, gs, ds, tk0, os⟩ := s
  show wpAny _ _ (field (.ref z) 2 >>= _) _ _ ⟨hp, gs, ds, tk0, os⟩
  refine wpAny_bind (wpAny_field hz rfl (x := .bool false) rfl ?_)
  show wpAny _ _ (field (.ref z) 3 >>= _) _ _ ⟨hp, gs, ds, tk0, os⟩
  refine wpAny_bind (wpAny_field hz rfl (x := .ref TI) rfl (wpAny_bind (wpAny_seqItems hTI rfl ?_)))
  show wpAny _ _ (Builtin.SmallTypes.ownedTupleIsFree (.ref z) >>= _) _ _ ⟨hp, gs, ds, tk0, os⟩
  refine wpAny_bind (wpAny_tupleHeld_zip hz hT fun g0 hz0 hs0 => ?_)
  replace hs0 : Heap.SameBut z hp g0 := hs0
  simp only [Bool.false_eq_true, if_false]
  refine wpAny_bind ?_
  rw [← Array.forIn_toList]
  simp only [List.forIn_cons, List.forIn_nil]
  refine wpAny_bind (wpAny_bind (wpAny_holding ?_))
  show wpAny _ _ (Builtin.SmallTypes.nextOf (.ref i1) >>= _) _ _ ⟨g0, gs, ds, tk0, os⟩
  by_cases hlt1 : i < n1
  · refine wpAny_bind (D1.item i _ _ _ hlt1 (D1.over st1 hs0 S.zf1) fun x1 p1 tk1 hx1 sn1 hp1 => wpAny_pure (wpAny_pure ?_))
    replace hp1 : Heap.SameBut i1 g0 p1 := hp1
    have e2 : i = n2 := by omega
    refine wpAny_bind (wpAny_bind (wpAny_holding ?_))
    show wpAny _ _ (Builtin.SmallTypes.nextOf (.ref i2) >>= _) _ _ ⟨p1, gs, ds, tk1, os⟩
    refine wpAny_bind (D2.done ⟨p1, gs, ds, tk1, os⟩ _ _ (by rw [← e2]; exact D2.over (D2.over st2 hs0 S.zf2) hp1 S.sep1_2) fun q e hq he => ?_)
    replace hq : Heap.ExtBut i2 p1 q := hq
    exact hE q tk1 e (fun c o ez e1 e2 g => hq _ _ e2 (hp1.extBut _ _ e1 (hs0.extBut _ _ ez g))) he
  · have e1 : i = n1 := by omega
    refine wpAny_bind (D1.done ⟨g0, gs, ds, tk0, os⟩ _ _ (by rw [← e1]; exact D1.over st1 hs0 S.zf1) fun q e hq he => ?_)
    replace hq : Heap.ExtBut i1 g0 q := hq
    exact hE q tk0 e (fun c o ez e1 _ g => hq _ _ e1 (hs0.extBut _ _ ez g)) he
theorem next_held {Q : Option Value → Shared → Prop} (S : ZipSep2 z TI TO i1 i2 fp1 fp2) (D1 : Draws prog w A.in1 i1 fp1 n1 P1 St1) (D2 : Draws prog w A.in1 i2 fp2 n2 P2 St2) (hz : IsZipHeld s.heap z TI TO T f) (hT : s.heap.get? T = some oT) (hTI : IsTupOf2 s.heap TI (.ref i1) (.ref i2))
    (st1 : St1 i s.heap) (st2 : St2 i s.heap) (hlt1 : i < n1) (hlt2 : i < n2)
    (hQ : ∀ x1 x2 h' tk, P1 i x1 → P2 i x2 → IsZipHeld h' z TI TO T true → St1 (i + 1) h' → St2 (i + 1) h' → IsTupOf2 h' s.heap.objs.size x1 x2 → (∀ c o, c ≠ z → c ≠ i1 → c ≠ i2 → s.heap.get? c = some o → h'.get? c = some o) → Q (some (.ref s.heap.objs.size)) { s with heap := h', toks := tk }) :
    wpAny (model prog w) A (pyNext (.ref z)) Q E s := by
  have ty : s.TypeIs (.ref z) "zip" := ⟨_, hz, rfl⟩
  unfold pyNext
  exact wpAny_bind (wpAny_attempt (wpAny_callSpecial?_slot (name := Str.ofString "__next__") ty F.slot_zip_next (wpAny_call_entry F.slot_zip_next ty F.entry_zip_next
    (held_item S D1 D2 hz hT hTI st1 st2 hlt1 hlt2 fun x1 x2 h' tk q1 q2 q3 q4 q5 q6 q7 => wpAny_pure (hQ x1 x2 h' tk q1 q2 q3 q4 q5 q6 q7)) (F.args_zip_next_1 _))))
theorem stop_held {Q : Option Value → Shared → Prop} (S : ZipSep2 z TI TO i1 i2 fp1 fp2) (D1 : Draws prog w A.in1 i1 fp1 n1 P1 St1) (D2 : Draws prog w A.in1 i2 fp2 n2 P2 St2) (hz : IsZipHeld s.heap z TI TO T f) (hT : s.heap.get? T = some oT) (hTI : IsTupOf2 s.heap TI (.ref i1) (.ref i2))
    (st1 : St1 i s.heap) (st2 : St2 i s.heap) (hle1 : i ≤ n1) (hle2 : i ≤ n2) (hend : i = n1 ∨ i = n2)
    (hQ : ∀ h' tk, (∀ c o, c ≠ z → c ≠ i1 → c ≠ i2 → s.heap.get? c = some o → h'.get? c = some o) → Q none { s with heap := h', toks := tk }) : wpAny (model prog w) A (pyNext (.ref z)) Q E s := by
  have ty : s.TypeIs (.ref z) "zip" := ⟨_, hz, rfl⟩
  unfold pyNext
  refine wpAny_bind (wpAny_attempt (wpAny_callSpecial?_slot (name := Str.ofString "__next__") ty F.slot_zip_next (wpAny_call_entry F.slot_zip_next ty F.entry_zip_next
    (held_end S D1 D2 hz hT hTI st1 st2 hle1 hle2 hend fun h' tk e hk ⟨o, ho, hc⟩ => ?_) (F.args_zip_next_1 _))))
  exact wpAny_bind (wpAny_isInstance (T := "StopIteration") (b := true) ⟨o, ho, hc⟩ isSubtype_stop (wpAny_pure (hQ _ _ hk)))
end
/-- zip(t, u), as what dict() is made of -/
theorem zipArg {prog : Program} {w : World} {z TI TO i1 i2 l1 l2 : Addr} (S : ZipSep2 z TI TO i1 i2 [i1, l1] [i2, l2]) (n1 : l1 ≠ i1) (n2 : l2 ≠ i2) (m1 : TI ≠ l1) (m2 : TI ≠ l2) (xs ys : Array Value) :
    PairArg prog w "zip" z [z, TI, TO, i1, i2, l1, l2] [z, TO, i1, i2] (min xs.size ys.size) (fun i k v => xs[i]? = some k ∧ ys[i]? = some v)
      (fun h => IsZip h z TI TO .none ∧ IsTupOf2 h TI (.ref i1) (.ref i2) ∧ (∃ a b, IsTupOf2 h TO a b) ∧ h.IsTupleIter i1 l1 0 ∧ h.IsTupleIter i2 l2 0 ∧ h.IsTuple l1 xs ∧ h.IsTuple l2 ys) where
  type := fun s ok => ⟨_, ok.1, rfl⟩
  notDict := by decide
  keep := fun h h' ⟨q1, q2, ⟨a, b, q3⟩, q4, q5, q6, q7⟩ up => ⟨up _ _ q1, up _ _ q2, ⟨a, b, up _ _ q3⟩, q4.at fun o g => up _ o g, q5.at fun o g => up _ o g, q6.at fun o g => up _ o g, q7.at fun o g => up _ o g⟩
  there := fun h ⟨q1, q2, ⟨a, b, q3⟩, ⟨o4, q4, _⟩, ⟨o5, q5, _⟩, ⟨o6, q6, _⟩, ⟨o7, q7, _⟩⟩ c hc => by
    simp only [List.mem_cons, List.not_mem_nil, or_false] at hc
    rcases hc with e | e | e | e | e | e | e
    · exact e ▸ ⟨_, q1⟩
    · exact e ▸ ⟨_, q2⟩
    · exact e ▸ ⟨_, q3⟩
    · exact e ▸ ⟨_, q4⟩
    · exact e ▸ ⟨_, q5⟩
    · exact e ▸ ⟨_, q6⟩
    · exact e ▸ ⟨_, q7⟩
  sub := fun b hb => by
    simp only [List.mem_cons, List.not_mem_nil, or_false] at hb ⊢
    rcases hb with e | e | e | e <;> simp [e]
  noKeys := fun A s Q E hA ok h => getAttrOr_miss_zip ok.1 rfl rfl rfl zip_no_keys (by decide +kernel) hA h
  iter := fun A s d Q E hA ok hd hdf h => by
    obtain ⟨q1, q2, ⟨a, b, q3⟩, q4, q5, q6, q7⟩ := ok
    simp only [List.mem_cons, List.not_mem_nil, or_false, not_or] at hdf
    obtain ⟨dz, dTI, dTO, di1, di2, dl1, dl2⟩ := hdf
    have D1 : Draws prog w A.in1 i1 [i1, l1] xs.size (fun i v => xs[i]? = some v) (fun i h => h.IsTupleIter i1 l1 i ∧ h.IsTuple l1 xs) := Draws.tuple (A := A.in1) (show A.in1.handled = none from hA) i1 l1 n1 xs
    have D2 : Draws prog w A.in1 i2 [i2, l2] ys.size (fun i v => ys[i]? = some v) (fun i h => h.IsTupleIter i2 l2 i ∧ h.IsTuple l2 ys) := Draws.tuple (A := A.in1) (show A.in1.handled = none from hA) i2 l2 n2 ys
    refine wpAny_pyIter_zip q1 (h z [z, TO, i1, i2] (fun i h => IsTupOf2 h TI (.ref i1) (.ref i2) ∧ (h.IsTupleIter i1 l1 i ∧ h.IsTuple l1 xs) ∧ (h.IsTupleIter i2 l2 i ∧ h.IsTuple l2 ys) ∧
      ((IsZip h z TI TO .none ∧ ∃ a b, IsTupOf2 h TO a b) ∨ ∃ T f oT, IsZipHeld h z TI TO T f ∧ h.get? T = some oT ∧ T ≠ z ∧ T ≠ i1 ∧ T ≠ i2 ∧ T ≠ d)) s.heap s.toks ?_ ⟨q2, ⟨q4, q6⟩, ⟨q5, q7⟩, .inl ⟨q1, a, b, q3⟩⟩ (fun _ _ g => g) fun b hb => .inl hb)
    constructor
    · intro hm
      simp only [List.mem_cons, List.not_mem_nil, or_false] at hm
      rcases hm with e | e | e | e
      · exact dz e
      · exact dTO e
      · exact di1 e
      · exact di2 e
    · rintro i h₁ h₂ ⟨g1, ⟨g2, g3⟩, ⟨g4, g5⟩, g6⟩ up
      refine ⟨up _ _ (Ne.symm dTI) g1, ⟨g2.at fun o g => up _ o (Ne.symm di1) g, g3.at fun o g => up _ o (Ne.symm dl1) g⟩, ⟨g4.at fun o g => up _ o (Ne.symm di2) g, g5.at fun o g => up _ o (Ne.symm dl2) g⟩, ?_⟩
      rcases g6 with ⟨g6, a, b, g7⟩ | ⟨T, f, oT, g6, g7, r1, r2, r3, r4⟩
      · exact .inl ⟨up _ _ (Ne.symm dz) g6, a, b, up _ _ (Ne.symm dTO) g7⟩
      · exact .inr ⟨T, f, oT, up _ _ (Ne.symm dz) g6, up _ _ r4 g7, r1, r2, r3, r4⟩
    · rintro i s₁ Q₁ E₁ hi ⟨g1, g2, g3, g6⟩ hds hQ
      have lt1 : i < xs.size := Nat.lt_of_lt_of_le hi (Nat.min_le_left ..)
      have lt2 : i < ys.size := Nat.lt_of_lt_of_le hi (Nat.min_le_right ..)
      have new : ∀ {c : Addr} {o : Obj}, s₁.heap.get? c = some o → s₁.heap.objs.size ≠ c := fun g => Nat.ne_of_gt (Heap.lt_size g)
      have a1 : s₁.heap.objs.size ≠ i1 := by obtain ⟨_, g, _⟩ := g2.1; exact new g
      have a2 : s₁.heap.objs.size ≠ i2 := by obtain ⟨_, g, _⟩ := g3.1; exact new g
      rcases g6 with ⟨g6, a, b, g7⟩ | ⟨T, f, oT, g6, g7, r1, r2, r3, r4⟩
      · refine wpAny_pyNext_zipD2_item S D1 D2 g6 g1 g7 g2 g3 lt1 lt2 fun x1 x2 h' tk p1 p2 b1 b2 c1 c2 b5 _ up => ?_
        refine hQ s₁.heap.objs.size x1 x2 h' tk ⟨p1, p2⟩ (.inl ⟨_, b5, rfl, _, rfl⟩) ⟨up _ _ S.TIz S.TITO S.TIi1 S.TIi2 g1, c1, c2, .inr ⟨s₁.heap.objs.size, false, _, b1, b5, new g6, a1, a2, Nat.ne_of_gt hds⟩⟩ fun c o hc g => ?_
        simp only [List.mem_cons, List.not_mem_nil, or_false, not_or] at hc
        exact up c o hc.1 hc.2.1 hc.2.2.1 hc.2.2.2 g
      · refine next_held S D1 D2 g6 g7 g1 g2 g3 lt1 lt2 fun x1 x2 h' tk p1 p2 b1 c1 c2 b5 up => ?_
        refine hQ s₁.heap.objs.size x1 x2 h' tk ⟨p1, p2⟩ (.inl ⟨_, b5, rfl, _, rfl⟩) ⟨up _ _ S.TIz S.TIi1 S.TIi2 g1, c1, c2, .inr ⟨T, true, oT, b1, up _ _ r1 r2 r3 g7, r1, r2, r3, r4⟩⟩ fun c o hc g => ?_
        simp only [List.mem_cons, List.not_mem_nil, or_false, not_or] at hc
        exact up c o hc.1 hc.2.2.1 hc.2.2.2 g
    · rintro s₁ Q₁ E₁ ⟨g1, g2, g3, g6⟩ hQ
      rcases g6 with ⟨g6, a, b, g7⟩ | ⟨T, f, oT, g6, g7, r1, r2, r3, r4⟩
      · refine wpAny_pyNext_zipD2_end S D1 D2 g6 g1 g7 g2 g3 (Nat.min_le_left ..) (Nat.min_le_right ..) (by omega) fun h' tk up => hQ h' tk fun c o hc g => ?_
        simp only [List.mem_cons, List.not_mem_nil, or_false, not_or] at hc
        exact up c o hc.1 hc.2.1 hc.2.2.1 hc.2.2.2 g
      · refine stop_held S D1 D2 g6 g7 g1 g2 g3 (Nat.min_le_left ..) (Nat.min_le_right ..) (by omega) fun h' tk up => hQ h' tk fun c o hc g => ?_
        simp only [List.mem_cons, List.not_mem_nil, or_false, not_or] at hc
        exact up c o hc.1 hc.2.2.1 hc.2.2.2 g
end DZ
end
section
set_option autoImplicit false
/-! D-layer 11: dict(zip(..)), table[..]. -/
namespace DL
open PySem PySem.Spec PyProof.Rows L2
open PySem.W (Datum Tup DatumOrd Holds HoldAll T3)

theorem merged_nodup {κ : Type} [DecidableEq κ] : ∀ (more acc : List (κ × Value)), ((acc ++ more).map (·.1)).Nodup → merged acc more = acc ++ more
  | [], acc, _ => by simp [merged]
  | kv :: more, acc, h => by
    have e : stored acc kv.1 kv.2 = acc ++ [kv] := by
      unfold stored
      have no : (acc.any fun x => x.1 = kv.1) = false := by
        rw [List.any_eq_false]
        intro x hx
        rw [List.map_append, List.map_cons] at h
        have := (List.nodup_append.mp h).2.2 x.1 (List.mem_map.mpr ⟨x, hx, rfl⟩) kv.1 List.mem_cons_self
        simpa using this
      rw [no]
      simp
    show merged (stored acc kv.1 kv.2) more = _
    rw [e, merged_nodup more (acc ++ [kv]) (by rw [List.append_assoc]; exact h), List.append_assoc]
    rfl
theorem storedAllH_nodup {κ : Type} [DecidableEq κ] : ∀ (more acc : List (κ × Addr × Value)), ((acc ++ more).map (·.1)).Nodup → storedAllH acc more = acc ++ more
  | [], acc, _ => by simp [storedAllH]
  | kv :: more, acc, h => by
    have e : storedH acc kv.1 kv.2.1 kv.2.2 = acc ++ [kv] := by
      refine storedH_new ?_ _ _
      unfold atKey
      rw [Option.map_eq_none_iff, List.find?_eq_none]
      intro x hx
      rw [List.map_append, List.map_cons] at h
      have := (List.nodup_append.mp h).2.2 x.1 (List.mem_map.mpr ⟨x, hx, rfl⟩) kv.1 List.mem_cons_self
      simpa using this
    show storedAllH (storedH acc kv.1 kv.2.1 kv.2.2) more = _
    rw [e, storedAllH_nodup more (acc ++ [kv]) (by rw [List.append_assoc]; exact h), List.append_assoc]
    rfl
section
variable {X : Cx} {k : Nat} {Γ Γ1 Γ2 : List Sl} {μ μ1 μ2 μ3 : Mu} {e a b tg : Expr} {es tgs : List Expr} {r ra rb rc : Sl} {rs : List Sl} {pos p p2 pos2 : Pos} {ds xs ys : List PyData} {d : PyData} {n : Nat}
/-- a zip of two tuples as it lies, ahead of dict() -/
structure ZipUp (X : Cx) (pins : List (Addr × Obj)) (H1 : Hp) (s1 : Shared) (z TI TO i1 i2 a1 a2 : Addr) (w1 w2 : List V) (t1 t2 : List Value) : Prop where
  sep : ZipSep2 z TI TO i1 i2 [i1, a1] [i2, a2]
  n1 : a1 ≠ i1
  n2 : a2 ≠ i2
  m1 : TI ≠ a1
  m2 : TI ≠ a2
  ok : IsZip s1.heap z TI TO .none ∧ IsTupOf2 s1.heap TI (.ref i1) (.ref i2) ∧ (∃ a b, IsTupOf2 s1.heap TO a b) ∧ s1.heap.IsTupleIter i1 a1 0 ∧ s1.heap.IsTupleIter i2 a2 0 ∧ s1.heap.IsTuple a1 t1.toArray ∧ s1.heap.IsTuple a2 t2.toArray
  fp : ∀ b ∈ [z, TO, i1, i2], FpOk X pins H1 b
  v1 : Vals w1 t1
  v2 : Vals w2 t2
  s1 : w1.length ≤ sizeLine
  old : ∃ n0, (∀ b xs, SqT X.K H1 b xs → b < n0) ∧ ∀ b ∈ [z, TO, i1, i2], n0 ≤ b
theorem zip_up {pins : List (Addr × Obj)} {s : Shared} {σ : L2.St} {H F : Hp} {as : List Addr} {es1 : List PyData} {Q : Value → Shared → Prop} (c : Cz k X) (I : Inv X pins σ H s) (cl : Clz X.K F H as μ) (sl : Sls X.K F H as σ Γ) (ha : Ev X Γ μ a (.dat (.tuple ds)) μ1) (hb : Ev X Γ μ1 b (.dat (.tuple es1)) μ2) (hg : Gl X "zip")
    (hs : starEach [a, b] X.env = (false, eval a X.env) :: starEach [b] X.env) (hs2 : starEach [b] X.env = (false, eval b X.env) :: starEach [] X.env) (hpl : (backTo pos (starEach [b] X.env)).any (·.1) = false)
    (q : ∀ F1 H1 s1 z TI TO i1 i2 a1 a2 w1 w2 t1 t2, Inv X pins σ H1 s1 → Step as F H F1 H1 → Clz X.K F1 H1 as μ2 → SqT X.K F1 a1 w1 → DpAll X.K F1 w1 ds → SqT X.K F1 a2 w2 → DpAll X.K F1 w2 es1 → ZipUp X pins H1 s1 z TI TO i1 i2 a1 a2 w1 w2 t1 t2 → Q (.ref z) s1) :
    wpAny (model X.prog X.w) X.A (eval (.Call (.Name "zip" p) [a, b] [] pos) X.env) Q X.xe s := by
  refine Call_ (ld_blt I hg c.b_zip PyProof.Rows.boot_zip (PyProof.Rows.callWith_type1 (thn ((ea_cons ha (ea_cons hb ea_nil hs2) hs).run pos pins s σ H (fun vs H1 => ∃ F1 a1 a2 w1 w2, vs = [.ref a1, .ref a2] ∧ Step as F H F1 H1 ∧ Clz X.K F1 H1 as μ2 ∧ SqT X.K F1 a1 w1 ∧ DpAll X.K F1 w1 ds ∧ SqT X.K F1 a2 w2 ∧ DpAll X.K F1 w2 es1) I
    ⟨F, as, cl, sl, fun vs F1 H1 st1 c1 hv => ?_⟩) fun us s1 ⟨vs, H1, I1, r1, q1⟩ => ?_) hs hpl))
  · obtain ⟨u, v, rfl, h1, h2⟩ := hv.two
    obtain ⟨a1, w1, rfl, g1, g2⟩ := h1.seqT c1 rfl
    obtain ⟨a2, w2, rfl, g3, g4⟩ := h2.seqT c1 rfl
    exact ⟨F1, a1, a2, w1, w2, rfl, st1, c1, g1, g2, g3, g4⟩
  · obtain ⟨F1, a1, a2, w1, w2, rfl, st1, c1, g1, g2, g3, g4⟩ := q1
    obtain ⟨u1, u2, rfl, r1, r2⟩ := vals2 r1
    cases r1
    cases r2
    obtain ⟨t1, rv1, p1, z1⟩ := I1.tuple (c1.sub.st g1)
    obtain ⟨t2, rv2, p2, z2⟩ := I1.tuple (c1.sub.st g3)
    have l1 : a1 < s1.heap.objs.size := by obtain ⟨o, ho, _⟩ := id p1; exact Heap.lt_size ho
    have l2 : a2 < s1.heap.objs.size := by obtain ⟨o, ho, _⟩ := id p2; exact Heap.lt_size ho
    refine RZ.call_zipT (show s1.heap.IsTuple a1 t1.toArray from p1) (show s1.heap.IsTuple a2 t2.toArray from p2) fun h' hz hTI hTO e1 e2 hsz hk => ?_
    have I2 : Inv X pins σ H1 { s1 with heap := h' } := I1.kept (t' := s1.toks) hk
    have S := zip_sep2 (N := s1.heap.objs.size) (fp1 := [a1]) (fp2 := [a2]) (fun b hb => by rw [List.mem_singleton.mp hb]; exact l1) (fun b hb => by rw [List.mem_singleton.mp hb]; exact l2)
    refine q F1 H1 { s1 with heap := h' } _ _ _ _ _ a1 a2 w1 w2 t1 t2 I2 st1 c1 g1 g2 g3 g4 ⟨S, Nat.ne_of_lt l1, Nat.ne_of_lt (Nat.lt_succ_of_lt l2), (Nat.ne_of_lt (Nat.lt_succ_of_lt (Nat.lt_succ_of_lt l1))).symm, (Nat.ne_of_lt (Nat.lt_succ_of_lt (Nat.lt_succ_of_lt l2))).symm,
      ⟨hz, hTI, ⟨_, _, hTO⟩, e1, e2, (show s1.heap.IsTuple a1 t1.toArray from p1).at fun o g => hk _ o g, (show s1.heap.IsTuple a2 t2.toArray from p2).at fun o g => hk _ o g⟩, fun b hb => ?_, rv1, rv2, z1, s1.heap.objs.size, fun b xs hx => ?_, fun b hb => ?_⟩
    · have hle : s1.heap.objs.size ≤ b := by
        simp only [List.mem_cons, List.not_mem_nil, or_false] at hb
        rcases hb with e | e | e | e <;> rw [e] <;> first | exact Nat.le_refl _ | exact Nat.le_add_right _ _
      exact I1.fpOk hle (I1.hok.fresh hle)
    · obtain ⟨t, _, ⟨o, ho, _⟩, _⟩ := I1.tuple hx
      exact Heap.lt_size ho
    · simp only [List.mem_cons, List.not_mem_nil, or_false] at hb
      rcases hb with e | e | e | e <;> rw [e] <;> first | exact Nat.le_refl _ | exact Nat.le_add_right _ _
/-- the pairs of texts and numbers -/
def kvT (ks : List Str) (vs : List Int) : List (Key × Int) := (ks.zip vs).map fun q => (.inr q.1, q.2)
theorem dp_strs {F : Hp} : ∀ {vs : List V} {xs : List Str}, DpAll X.K F vs (xs.map Datum.toD) → vs = xs.map V.str
  | _, [], h => by cases h; rfl
  | _, x :: xs, h => by
    cases h with
    | cons h t =>
      cases h
      rw [dp_strs t]
      rfl
theorem nd_take {α β : Type} : ∀ (xs : List α) (ys : List β), xs.Nodup → ((xs.zip ys).map (·.1)).Nodup
  | [], _, _ => by simp
  | _ :: _, [], _ => by simp
  | x :: xs, y :: ys, h => by
    rw [List.zip_cons_cons, List.map_cons, List.nodup_cons]
    rw [List.nodup_cons] at h
    refine ⟨fun m => h.1 ?_, nd_take xs ys h.2⟩
    obtain ⟨q, hq, e⟩ := List.mem_map.mp m
    have e' : q.1 = x := e
    rw [← e']
    exact (List.of_mem_zip (a := q.1) (b := q.2) hq).1
/-- dict(zip(texts, numbers)) -/
theorem ev_dzK {ks : Tup Str} {ns : Tup Int} (c : Cz k X) (ha : Ev X Γ μ a (dd ks) μ1) (hb : Ev X Γ μ1 b (dd ns) μ2) (nd : ks.items.Nodup) (hg : Gl X "zip" := by rfl) (hg2 : Gl X "dict" := by rfl)
    (hs : starEach [a, b] X.env = (false, eval a X.env) :: starEach [b] X.env := by rfl) (hs2 : starEach [b] X.env = (false, eval b X.env) :: starEach [] X.env := by rfl) (hpl : (backTo pos (starEach [b] X.env)).any (·.1) = false := by rfl)
    (hs3 : starEach [.Call (.Name "zip" p) [a, b] [] pos] X.env = (false, eval (.Call (.Name "zip" p) [a, b] [] pos) X.env) :: starEach [] X.env := by rfl) :
    Ev X Γ μ (.Call (.Name "dict" p2) [.Call (.Name "zip" p) [a, b] [] pos] [] pos2) (.dik (kvT ks.items ns.items)) μ2 := by
  refine ⟨fun pins s σ H Q I q => ?_⟩
  obtain ⟨F, as, cl, sl, kk⟩ := q
  have hd : bootBuiltins "dict" = some (.type "dict") := by decide +kernel
  refine Call_ (ld_blt I hg2 c.b_dict hd (PyProof.Rows.callWith_type1 ?_ hs3 rfl))
  rw [hs3]
  refine Calls.spliced_cons (zip_up c I cl sl ha hb hg hs hs2 hpl fun F1 H1 s1 z TI TO i1 i2 a1 a2 w1 w2 t1 t2 I1 st1 c1 g1 g2 g3 g4 Z => Calls.spliced_nil ?_)
  have ew := dp_strs g2
  have ev := dpAll_int g4
  have l1 := Z.v1.length
  have l2 := Z.v2.length
  have z1 := Z.s1
  have lk : w1.length = ks.items.length := by rw [g2.length, List.length_map]
  have ln : w2.length = ns.items.length := by rw [g4.length, List.length_map]
  have hu := c.un
  -- the pairs as the machine has them
  have hpair : ∀ (i : Nat) (key v : Value), t1[i]? = some key → t2[i]? = some v → ∃ x, ks.items[i]? = some x ∧ (mixKind X.prog X.w).is (.inr x) key = true := fun i key v e1 e2 => by
    have hi : i < ks.items.length := by rw [← lk, l1]; exact (List.getElem?_eq_some_iff.mp e1).1
    obtain ⟨u, hu, ru⟩ := Z.v1.get (i := i) (x := .str ks.items[i]) (by rw [ew, List.getElem?_map, List.getElem?_eq_getElem hi]; rfl)
    rw [e1] at hu
    cases hu
    exact ⟨_, List.getElem?_eq_getElem hi, kV_is (P := X.prog) (w := X.w) (k := .inr ks.items[i]) ru⟩
  have hlen : (((ks.items.zip t2).map fun q => ((.inr q.1 : Key), q.2)) : List (Key × Value)).length = min t1.length t2.length := by
    rw [List.length_map, List.length_zip, ← lk, l1]
  have hget : ∀ (i : Nat) (x : Str) (v : Value), ks.items[i]? = some x → t2[i]? = some v → (((ks.items.zip t2).map fun q => ((.inr q.1 : Key), q.2)) : List (Key × Value))[i]? = some (.inr x, v) := fun i x v e1 e2 => by
    rw [List.getElem?_map, List.getElem?_zip_eq_some (z := (x, v)) |>.mpr ⟨e1, e2⟩]
    rfl
  refine PySem.call_dict_pairs (knd := mixKind X.prog X.w) (kvs := (ks.items.zip t2).map fun q => (.inr q.1, q.2)) (DZ.zipArg Z.sep Z.n1 Z.n2 Z.m1 Z.m2 t1.toArray t2.toArray) (I1.ok.hd c.calm) Z.ok ⟨?_, fun i key v h => ?_⟩ ?_ fun h' tk hD hk => ?_
  · rw [hlen]; simp
  · obtain ⟨e1, e2⟩ := h
    rw [List.getElem?_toArray] at e1 e2
    obtain ⟨x, e3, e4⟩ := hpair i key v e1 e2
    exact ⟨.inr x, hget i x v e3 e2, e4⟩
  · rw [List.size_toArray, List.size_toArray]; omega
  · have ndK : (((ks.items.zip t2).map fun q => ((.inr q.1 : Key), q.2)).map (·.1)).Nodup := by
      have h1 := nd_take ks.items t2 nd
      rw [List.map_map]
      have e : (List.map ((fun x => x.1) ∘ fun q : Str × Value => ((Sum.inr q.1 : Key), q.2)) (ks.items.zip t2)) = ((ks.items.zip t2).map (·.1)).map Sum.inr := by rw [List.map_map]; rfl
      rw [e]
      exact List.Pairwise.map _ (fun a b h e => h (Sum.inr.inj e)) h1
    rw [merged_nodup _ [] (by simpa using ndK), List.nil_append] at hD
    have hT : H1 s1.heap.objs.size = none := I1.hok.fresh (Nat.le_refl _)
    have key : ∀ {xs : List Str} {ns : List Int} {ts : List Value}, Vals (ns.map V.int) ts → KV (dikV (kvT xs ns)) ((xs.zip ts).map fun q => ((.inr q.1 : Key), q.2)) := fun {xs} => by
      induction xs with
      | nil => intro ns ts _; exact .nil
      | cons x xs ih =>
        intro ns ts r
        cases ns with
        | nil => cases r; exact .nil
        | cons n ns =>
          cases r with
          | cons r rr => exact .cons ⟨rfl, r⟩ (ih rr)
    have rel := key (xs := ks.items) (by rw [← ev]; exact Z.v2)
    have zl : (dikV (kvT ks.items ns.items)).length ≤ sizeLine := by
      unfold dikV kvT
      rw [List.length_map, List.length_map, List.length_zip]
      omega
    have sysne : (s1.heap.objs.size == sysModules) = false := beq_eq_false_iff_ne.mpr (Nat.ne_of_gt I1.big)
    have I2 : Inv X pins σ (upd H1 s1.heap.objs.size (.dK (dikV (kvT ks.items ns.items)))) { s1 with heap := h', toks := tk } := I1.turnedNew (ch := [z, TO, i1, i2]) (fun c o hb q => hk c o hb q) Z.fp (Nat.le_refl _) (dk_new zl sysne rel hD)
    have st2 := StepP.new (o := .dK (dikV (kvT ks.items ns.items))) c1.sub hT
    exact ⟨.ref _, _, I2, rfl, kk _ _ _ (st1.trans st2.step) (c1.pure st2) ⟨_, rfl, upd_same⟩ trivial⟩
/-- the pairs of tuples of texts and numbers -/
def kvG (gs : List (Tup Str)) (vs : List Int) : List (List Key × Int) := (gs.zip vs).map fun q => (q.1.items.map .inr, q.2)
theorem dp_tups {F : Hp} : ∀ {ws : List V} {gs : List (Tup Str)}, DpAll X.K F ws (gs.map Datum.toD) → ∃ bs : List Addr, ws = bs.map V.ref ∧ Paired (fun (b : Addr) (g : Tup Str) => SqT X.K F b ((g.items.map (Sum.inr : Str → Key)).map kV)) bs gs
  | _, [], h => by cases h; exact ⟨[], rfl, .nil⟩
  | _, g :: gs, h => by
    cases h with
    | cons h t =>
      obtain ⟨bs, rfl, hp⟩ := dp_tups t
      cases h with
      | @tup b us _ h1 h2 =>
        have e := dp_strs h2
        subst e
        refine ⟨b :: bs, rfl, .cons ?_ hp⟩
        rw [List.map_map]
        exact h1
/-- the machine's pairs -/
def psG (gs : List (Tup Str)) (bs : List Addr) (ts : List Value) : List (List Key × Addr × Value) := ((gs.zip bs).zip ts).map fun q => (q.1.1.items.map .inr, q.1.2, q.2)
theorem keyG_inj {g g' : Tup Str} (h : g.items.map (Sum.inr : Str → Key) = g'.items.map .inr) : g = g' := by
  obtain ⟨xs⟩ := g
  obtain ⟨ys⟩ := g'
  have : xs = ys := by
    have inj : ∀ (xs ys : List Str), xs.map (Sum.inr : Str → Key) = ys.map .inr → xs = ys := fun xs => by
      induction xs with
      | nil => intro ys h; cases ys with
        | nil => rfl
        | cons y ys => cases h
      | cons x xs ih =>
        intro ys h
        cases ys with
        | nil => cases h
        | cons y ys =>
          rw [List.map_cons, List.map_cons] at h
          obtain ⟨h1, h2⟩ := List.cons.inj h
          rw [Sum.inr.inj h1, ih ys h2]
    exact inj xs ys h
  rw [this]
/-- dict(zip(tuples, numbers)) -/
theorem ev_dzT {gs : Tup (Tup Str)} {ns : Tup Int} (c : Cz k X) (ha : Ev X Γ μ a (dd gs) μ1) (hb : Ev X Γ μ1 b (dd ns) μ2) (nd : gs.items.Nodup) (hg : Gl X "zip" := by rfl) (hg2 : Gl X "dict" := by rfl)
    (hs : starEach [a, b] X.env = (false, eval a X.env) :: starEach [b] X.env := by rfl) (hs2 : starEach [b] X.env = (false, eval b X.env) :: starEach [] X.env := by rfl) (hpl : (backTo pos (starEach [b] X.env)).any (·.1) = false := by rfl)
    (hs3 : starEach [.Call (.Name "zip" p) [a, b] [] pos] X.env = (false, eval (.Call (.Name "zip" p) [a, b] [] pos) X.env) :: starEach [] X.env := by rfl) :
    Ev X Γ μ (.Call (.Name "dict" p2) [.Call (.Name "zip" p) [a, b] [] pos] [] pos2) (.dit X.prog X.w (kvG gs.items ns.items)) μ2 := by
  refine ⟨fun pins s σ H Q I q => ?_⟩
  obtain ⟨F, as, cl, sl, kk⟩ := q
  have hd : bootBuiltins "dict" = some (.type "dict") := by decide +kernel
  refine Call_ (ld_blt I hg2 c.b_dict hd (PyProof.Rows.callWith_type1 ?_ hs3 rfl))
  rw [hs3]
  refine Calls.spliced_cons (zip_up c I cl sl ha hb hg hs hs2 hpl fun F1 H1 s1 z TI TO i1 i2 a1 a2 w1 w2 t1 t2 I1 st1 c1 g1 g2 g3 g4 Z => Calls.spliced_nil ?_)
  obtain ⟨bs, ew, pb⟩ := dp_tups g2
  have ev := dpAll_int g4
  have l1 := Z.v1.length
  have l2 := Z.v2.length
  have z1 := Z.s1
  have lk : w1.length = gs.items.length := by rw [g2.length, List.length_map]
  have lb : bs.length = gs.items.length := by rw [← lk, ew, List.length_map]
  have ln : w2.length = ns.items.length := by rw [g4.length, List.length_map]
  have hu := c.un
  have et : t1 = bs.map Value.ref := by
    have key : ∀ {bs : List Addr} {ts : List Value}, Vals (bs.map V.ref) ts → ts = bs.map Value.ref := fun {bs} => by
      induction bs with
      | nil => intro ts r; cases r; rfl
      | cons b bs ih =>
        intro ts r
        cases r with
        | cons r rr => rw [ih rr, show _ = Value.ref b from r]; rfl
    exact key (by rw [← ew]; exact Z.v1)
  have hlen : (psG gs.items bs t2).length = min t1.length t2.length := by
    unfold psG
    rw [List.length_map, List.length_zip, List.length_zip, et, List.length_map, lb, Nat.min_self]
  have hmem : ∀ x ∈ psG gs.items bs t2, SqT X.K F1 x.2.1 (x.1.map kV) := fun x hx => by
    unfold psG at hx
    obtain ⟨q, hq, rfl⟩ := List.mem_map.mp hx
    have h1 : (q.1.1, q.1.2) ∈ gs.items.zip bs := (List.of_mem_zip (a := q.1) (b := q.2) hq).1
    have key : ∀ {bs : List Addr} {gs : List (Tup Str)}, Paired (fun (b : Addr) (g : Tup Str) => SqT X.K F1 b ((g.items.map (Sum.inr : Str → Key)).map kV)) bs gs → ∀ y ∈ gs.zip bs, SqT X.K F1 y.2 ((y.1.items.map (Sum.inr : Str → Key)).map kV) := fun {bs gs} h => by
      induction h with
      | nil => intro y hy; simp at hy
      | cons h t ih =>
        intro y hy
        rw [List.zip_cons_cons] at hy
        rcases List.mem_cons.mp hy with e | e
        · subst e; exact h
        · exact ih y e
    exact key pb (q.1.1, q.1.2) h1
  obtain ⟨n0, hold, hnew⟩ := Z.old
  have hkey : ∀ (h' : Heap), (∀ b o, b ≠ s1.heap.objs.size → b ∉ [z, TO, i1, i2] → s1.heap.get? b = some o → h'.get? b = some o) → ∀ x ∈ psG gs.items bs t2, (tupleKind (mixKind X.prog X.w)).is h' x.1 x.2.1 := fun h' hk x hx => by
    have hs := c1.sub.st (hmem x hx)
    obtain ⟨its, rv, ⟨o, ho, hc, n, hd⟩, _⟩ := I1.tuple hs
    have n1 : x.2.1 ≠ s1.heap.objs.size := Nat.ne_of_lt (Heap.lt_size ho)
    have n2 : x.2.1 ∉ [z, TO, i1, i2] := fun m => by
      have h1 : x.2.1 < n0 := hold _ _ hs
      have h2 : n0 ≤ x.2.1 := hnew _ m
      exact Nat.not_lt_of_le h2 h1
    exact ⟨o, its.toArray, n, hk _ _ n1 n2 ho, hc, hd, by simpa using items_are rv⟩
  have hnd : ((psG gs.items bs t2).map (·.1)).Nodup := by
    have h1 : ((gs.items.zip bs).map (·.1)).Nodup := nd_take _ _ nd
    have h2 : (((gs.items.zip bs).zip t2).map (·.1.1)).Nodup := by
      have e : ((gs.items.zip bs).zip t2).map (·.1.1) = (((gs.items.zip bs).map (·.1)).zip t2).map (·.1) := by
        rw [List.zip_map_left, List.map_map]
        rfl
      rw [e]
      exact nd_take _ _ h1
    unfold psG
    rw [List.map_map]
    have e : (List.map ((fun x => x.1) ∘ fun q : (Tup Str × Addr) × Value => (q.1.1.items.map (Sum.inr : Str → Key), q.1.2, q.2)) ((gs.items.zip bs).zip t2)) = (((gs.items.zip bs).zip t2).map (·.1.1)).map fun g => g.items.map .inr := by rw [List.map_map]; rfl
    rw [e]
    exact List.Pairwise.map _ (fun a b h e => h (keyG_inj e)) h2
  refine PySem.call_dict_pairsH (knd := tupleKind (mixKind X.prog X.w)) (ps := psG gs.items bs t2) (DZ.zipArg Z.sep Z.n1 Z.n2 Z.m1 Z.m2 t1.toArray t2.toArray) (I1.ok.hd c.calm) ?_ Z.ok ⟨?_, fun i key v h => ?_⟩ (fun h' hk x hx => hkey h' hk x hx) ?_ fun h' tk hD hk => ?_
  · show X.A.units + 1 + 1 < cLine
    omega
  · rw [hlen]; simp
  · obtain ⟨e1, e2⟩ := h
    rw [List.getElem?_toArray] at e1 e2
    rw [et, List.getElem?_map] at e1
    cases hb : bs[i]? with
    | none => rw [hb] at e1; cases e1
    | some b =>
      rw [hb] at e1
      have hi : i < gs.items.length := by rw [← lb]; exact (List.getElem?_eq_some_iff.mp hb).1
      refine ⟨gs.items[i].items.map .inr, b, ?_, (Option.some.inj e1).symm⟩
      unfold psG
      rw [List.getElem?_map, List.getElem?_zip_eq_some (z := ((gs.items[i], b), v)) |>.mpr ⟨List.getElem?_zip_eq_some (z := (gs.items[i], b)) |>.mpr ⟨List.getElem?_eq_getElem hi, hb⟩, e2⟩]
      rfl
  · rw [List.size_toArray, List.size_toArray]; omega
  · rw [storedAllH_nodup _ [] (by simpa using hnd), List.nil_append] at hD
    have hT : H1 s1.heap.objs.size = none := I1.hok.fresh (Nat.le_refl _)
    obtain ⟨o, es, ep, d1, d2, d3, d4, d5, d6⟩ := hD
    have I2 : Inv X pins σ (upd H1 s1.heap.objs.size (.ext (rawD X.prog X.w s1.heap.objs.size (psG gs.items bs t2)))) { s1 with heap := h', toks := tk } :=
      I1.turnedNew (ch := [z, TO, i1, i2]) (fun c o hb q => hk c o hb q) Z.fp (Nat.le_refl _) ⟨⟨o, es, ep, d1, d2, d3, d4⟩, ⟨o, d1⟩, fun h1 h2 ⟨o, es, ep, q1, q2, q3, q4⟩ up => ⟨o, es, ep, up o q1, q2, q3, q4⟩⟩
    have st2 := StepP.new (o := .ext (rawD X.prog X.w s1.heap.objs.size (psG gs.items bs t2))) c1.sub hT
    refine ⟨.ref _, _, I2, rfl, kk _ _ _ (st1.trans st2.step) (c1.pure st2) ⟨_, rfl, psG gs.items bs t2, upd_same, ?_, ?_⟩ trivial⟩
    · have key : ∀ {bs : List Addr} {gs : List (Tup Str)} {ns : List Int} {ts : List Value}, Paired (fun (b : Addr) (g : Tup Str) => SqT X.K F1 b ((g.items.map (Sum.inr : Str → Key)).map kV)) bs gs → Vals (ns.map V.int) ts →
          Paired (fun (p : List Key × Int) (q : List Key × Addr × Value) => p.1 = q.1 ∧ SqT X.K F1 q.2.1 (p.1.map kV) ∧ RelV (V.int p.2) q.2.2) (kvG gs ns) (psG gs bs ts) := fun {bs gs ns ts} h => by
        induction h generalizing ns ts with
        | nil => intro _; exact .nil
        | cons h t ih =>
          intro r
          cases ns with
          | nil => cases r; exact .nil
          | cons n ns =>
            cases r with
            | cons r rr => exact .cons ⟨rfl, h, r⟩ (ih rr)
      exact Paired.mapP (key pb (by rw [← ev]; exact Z.v2)) fun _ _ q => ⟨q.1, st2.ex.st q.2.1, q.2.2⟩
    · unfold kvG
      rw [List.map_map]
      have e : (List.map ((fun x => x.1) ∘ fun q : Tup Str × Int => (q.1.items.map (Sum.inr : Str → Key), q.2)) (gs.items.zip ns.items)) = ((gs.items.zip ns.items).map (·.1)).map fun g => g.items.map .inr := by rw [List.map_map]; rfl
      rw [e]
      exact List.Pairwise.map _ (fun a b h e => h (keyG_inj e)) (nd_take _ _ nd)
/-- d[x] -/
def dval {κ : Type} [DecidableEq κ] (kvs : List (κ × Int)) (k : κ) : Option Int := (kvs.find? fun kv => decide (kv.1 = k)).map (·.2)
theorem valV_dik (kvs : List (Key × Int)) (x : Key) : valV (dikV kvs) x = (dval kvs x).map V.int := by
  unfold valV dikV dval
  rw [List.find?_map]
  cases h : List.find? ((fun kv : Key × V => decide (kv.1 = x)) ∘ fun p : Key × Int => (p.1, V.int p.2)) kvs with
  | none => rw [show (List.find? (fun kv : Key × Int => decide (kv.1 = x)) kvs) = none from h]; rfl
  | some q => rw [show (List.find? (fun kv : Key × Int => decide (kv.1 = x)) kvs) = some q from h]; rfl
theorem ev_dget {kvs : List (Key × Int)} {x : Str} {i : Int} (c : Cz k X) (ha : Ev X Γ μ a (.dik kvs) μ1) (hb : Ev X Γ μ1 b (dd x) μ2) (h : dval kvs (.inr x) = some i) (hs : NoSl b := by exact fun _ _ => rfl) : Ev X Γ μ (.Subscript a b pos) (dd i) μ2 :=
  pe_le (pe_dget (by have := c.un; omega) ha hb hs) fun σ H Q q => by
    obtain ⟨F, as, cl, sl, kk⟩ := q
    refine ⟨F, as, cl, sl, fun u F1 H1 st1 c1 hu _ => ⟨F1, as, c1, sl.mono st1, fun v F2 H2 st2 c2 hv _ => ?_⟩⟩
    obtain ⟨A, rfl, hA⟩ := hu
    cases hv
    have hH : H2 A = some (.dK (dikV kvs)) := c2.sub A _ (st2.ex A _ hA)
    refine ⟨A, .int i, rfl, ?_, kk _ F2 H2 (st1.trans st2) c2 (Dp.int _) trivial⟩
    have g := DGet.k (k := .inr x) hH
    rw [valV_dik, h] at g
    exact g
theorem ev_dgetT {kvs : List (List Key × Int)} {g : Tup Str} {i : Int} (c : Cz k X) (ha : Ev X Γ μ a (.dit X.prog X.w kvs) μ1) (hb : Ev X Γ μ1 b (dd g) μ2) (h : dval kvs (g.items.map .inr) = some i) (hs : NoSl b := by exact fun _ _ => rfl) : Ev X Γ μ (.Subscript a b pos) (dd i) μ2 := ⟨fun pins s σ H Q I q => by
  obtain ⟨F, as, cl, sl, kk⟩ := q
  refine subD_of PySem.F.slot_dict_getitem.lookup hs (thn (ha.run pins s σ H (fun v H1 => ∃ F1, Step as F H F1 H1 ∧ Clz X.K F1 H1 as μ1 ∧ Vr X.K F1 H1 as v (.dit X.prog X.w kvs)) I ⟨F, as, cl, sl, fun v F1 H1 st1 c1 hv _ => ⟨F1, st1, c1, hv⟩⟩) fun u s1 ⟨x, H1, I1, rx, F1, st1, c1, hv⟩ =>
    thn (hb.run pins s1 σ H1 (fun v H2 => ∃ F2, Step as F1 H1 F2 H2 ∧ Clz X.K F2 H2 as μ2 ∧ Vr X.K F2 H2 as v (dd g)) I1 ⟨F1, as, c1, sl.mono st1, fun v F2 H2 st2 c2 hv2 _ => ⟨F2, st2, c2, hv2⟩⟩) fun iv s2 ⟨y, H2, I2, ry, F2, st2, c2, hv2⟩ => ?_)
  obtain ⟨A, rfl, xs, hA, hP, hN⟩ := hv
  obtain ⟨B, us, rfl, h1, h2⟩ := hv2.seqT c2 rfl
  have e := dp_strs h2
  subst e
  cases rx
  cases ry
  have hH : H2 A = some (.ext (rawD X.prog X.w A xs)) := c2.sub A _ (st2.ex A _ hA)
  obtain ⟨⟨o, es, ep, d1, d2, d3, d4⟩, _, _⟩ := (show ObjOk X.prog X.w H2 s2.heap A (.ext (rawD X.prog X.w A xs)) from I2.hok A _ hH)
  have isK : ∀ (b : Addr) (ks : List Key), SqT X.K F2 b (ks.map kV) → (tupleKind (mixKind X.prog X.w)).is s2.heap ks b := fun b ks hs => by
    obtain ⟨its, rv, ⟨o, ho, hc, n, hd⟩, _⟩ := I2.tuple (c2.sub.st hs)
    exact ⟨o, its.toArray, n, ho, hc, hd, by simpa using items_are rv⟩
  have keys : ∀ x ∈ xs, (tupleKind (mixKind X.prog X.w)).is s2.heap x.1 x.2.1 := by
    have key : ∀ {kvs : List (List Key × Int)} {xs : List (List Key × Addr × Value)}, Paired (fun (p : List Key × Int) (q : List Key × Addr × Value) => p.1 = q.1 ∧ SqT X.K F1 q.2.1 (p.1.map kV) ∧ RelV (V.int p.2) q.2.2) kvs xs → ∀ x ∈ xs, (tupleKind (mixKind X.prog X.w)).is s2.heap x.1 x.2.1 := fun {kvs xs} h => by
      induction h with
      | nil => intro x hx; cases hx
      | cons h t ih =>
        intro x hx
        rcases List.mem_cons.mp hx with e | e
        · subst e
          exact isK _ _ (by rw [← h.1]; exact st2.ex.st h.2.1)
        · exact ih x e
    exact key hP
  have ndx : (xs.map (·.1)).Nodup := by
    have e : xs.map (·.1) = kvs.map (·.1) := by
      have key : ∀ {kvs : List (List Key × Int)} {xs : List (List Key × Addr × Value)}, Paired (fun (p : List Key × Int) (q : List Key × Addr × Value) => p.1 = q.1 ∧ SqT X.K F1 q.2.1 (p.1.map kV) ∧ RelV (V.int p.2) q.2.2) kvs xs → xs.map (·.1) = kvs.map (·.1) := fun {kvs xs} h => by
        induction h with
        | nil => rfl
        | cons h t ih => rw [List.map_cons, List.map_cons, ih, h.1]
      exact key hP
    rw [e]
    exact hN
  have look : ∃ p, atKey xs (g.items.map .inr) = some p ∧ RelV (V.int i) p.2 := by
    have key : ∀ {kvs : List (List Key × Int)} {xs : List (List Key × Addr × Value)}, Paired (fun (p : List Key × Int) (q : List Key × Addr × Value) => p.1 = q.1 ∧ SqT X.K F1 q.2.1 (p.1.map kV) ∧ RelV (V.int p.2) q.2.2) kvs xs → dval kvs (g.items.map .inr) = some i → ∃ p, atKey xs (g.items.map .inr) = some p ∧ RelV (V.int i) p.2 := fun {kvs xs} h => by
      induction h with
      | nil => intro e; cases e
      | @cons p q ps qs h t ih =>
        intro e
        unfold dval at e
        unfold atKey
        rw [List.find?_cons] at e ⊢
        by_cases hk : p.1 = g.items.map .inr
        · rw [decide_eq_true hk] at e
          rw [← h.1, decide_eq_true hk]
          have e2 : p.2 = i := Option.some.inj e
          exact ⟨q.2, rfl, by rw [← e2]; exact h.2.2⟩
        · rw [decide_eq_false hk] at e
          rw [← h.1, decide_eq_false hk]
          exact ih e
    exact key hP h
  obtain ⟨p, hp, rp⟩ := look
  have D : s2.heap.DictOfH (tupleKind (mixKind X.prog X.w)) A xs := ⟨o, es, ep, d1, d2, d3, d4, keys, ndx⟩
  refine ⟨D.typeIs, wpAny_getItem_heap (tupleKind_room_in1 (by have := c.un; omega)) (isK B _ (by rw [List.map_map]; exact h1)) D hp ?_⟩
  exact ⟨.int i, H2, I2.tok _, rp, kk _ F2 H2 (st1.trans st2) c2 (Dp.int _) trivial⟩⟩
end
end DL
end
section
set_option autoImplicit false
/-! D-layer 12: sorted by the length, then the value (a lambda as the key). -/
namespace DL
open PySem PySem.Spec PyProof.Rows L2
open PySem.W (Datum Tup DatumOrd Holds HoldAll T3)

mutual
/-- data without lists -/
def noL : PyData → Bool
  | .list _ => false
  | .dict _ => false
  | .tuple xs => noLs xs
  | _ => true
def noLs : List PyData → Bool
  | [] => true
  | x :: xs => noL x && noLs xs
end
mutual
theorem reads_nil {h : Heap} : ∀ {v : Value} {d : PyData} {as : List Addr}, Reads h v d as → noL d = true → as = []
  | _, _, _, .none, _ => rfl
  | _, _, _, .bool b, _ => rfl
  | _, _, _, .int i t, _ => rfl
  | _, _, _, .str x t, _ => rfl
  | _, _, _, .list _ _ _ _, e => by simp [noL] at e
  | _, _, _, .dict _ _ _ _ _, e => by simp [noL] at e
  | _, _, _, .tuple _ _ _ r, e => readsAll_nil r (by simpa [noL] using e)
theorem readsAll_nil {h : Heap} : ∀ {vs : List Value} {ds : List PyData} {as : List Addr}, ReadsAll h vs ds as → noLs ds = true → as = []
  | _, _, _, .nil, _ => rfl
  | _, _, _, .cons r t, e => by
    rw [noLs, Bool.and_eq_true] at e
    rw [reads_nil r e.1, readsAll_nil t e.2]
    rfl
end
mutual
theorem reads_up {h h' : Heap} (k : ∀ b o, h.get? b = some o → h'.get? b = some o) : ∀ {v : Value} {d : PyData} {as : List Addr}, Reads h v d as → Reads h' v d as
  | _, _, _, .none => .none
  | _, _, _, .bool b => .bool b
  | _, _, _, .int i t => .int i t
  | _, _, _, .str x t => .str x t
  | _, _, _, .list h1 h2 h3 r => .list (k _ _ h1) h2 h3 (readsAll_up k r)
  | _, _, _, .dict h1 h2 h3 r r2 => .dict (k _ _ h1) h2 h3 (readsAll_up k r) (readsAll_up k r2)
  | _, _, _, .tuple h1 h2 h3 r => .tuple (k _ _ h1) h2 h3 (readsAll_up k r)
theorem readsAll_up {h h' : Heap} (k : ∀ b o, h.get? b = some o → h'.get? b = some o) : ∀ {vs : List Value} {ds : List PyData} {as : List Addr}, ReadsAll h vs ds as → ReadsAll h' vs ds as
  | _, _, _, .nil => .nil
  | _, _, _, .cons r t => .cons (reads_up k r) (readsAll_up k t)
end
section
variable {X : Cx} {pins : List (Addr × Obj)} {σ : L2.St} {H : Hp} {s : Shared}
/-- the lambda is made: the heap behind it, told in full -/
theorem lam_made {c P : Addr} {params : Arguments} {body : Expr} {scope : Scope} {pos : Pos} {E : Value → Shared → Prop} {Q : Value → Shared → Prop} (I : Inv X pins σ H s) (TB : LamX.TabB X.base X.mg c P) (hcode : X.env.code = .ref c)
    (hT : LamX.Tabs [(P, X.env.qual ++ "<lambda>")] H) (hdef : defaultsOf params X.env = ([], [])) (hfree : ∀ y ∈ scope.names, y.2 = .free → ∃ c, X.env.cells.lookup y.1 = some c)
    (q : ∀ (f c' : Addr) (pm ctv : Value) (H1 : Hp) (s' : Shared), Inv X pins σ H1 s' → LamX.ExtN H H1 → (∀ b, H b ≠ none → H1 b ≠ none) → LamX.Tabs [(P, X.env.qual ++ "<lambda>")] H1 → s'.heap.get? f = some (PySem.W.kla_obj "<lambda>" (X.env.qual ++ "<lambda>") params body scope (cloFrom X.env.cells scope.names []) pm c' ctv) →
      s'.heap.CodeRec (.ref c') (X.env.qual ++ "<lambda>") → Q (.ref f) s') : wpAny (model X.prog X.w) X.A (eval (.Lambda params body scope pos) X.env) Q E s := by
  obtain ⟨ps, tP, ok3, among⟩ := hT _ List.mem_cons_self
  have bP := (show X.base.BuiltinsAt X.mg P from TB.bm).keeps I.bk
  have oP : s.heap.get? P = some { cls := .none, data := .fields ps } := I.hok P _ tP
  refine PySem.W.kla_eval hdef ?_
  rcases hc : codeAmong pos ps.toList with _ | cv
  · refine PySem.W.kla_makeFunction (mg := X.mg) (c := c) (P := P) (ps := ps) (closure_ok hfree) I.ok.glob (I.mod.glob.keeps I.bk) hcode (TB.code.keeps I.bk) oP ok3 hc TB.gP bP fun c' ctv h' tk ext ge lt rec tab => ?_
    have fC : H c' = none := I.hok.fresh ge
    have pc : P ≠ c' := ne_of_none tP fC
    obtain ⟨c2, oc, vs, t, e2, g1, g2, g3⟩ := id rec
    cases e2
    have J := LamX.inv_table (t' := tk) (more := #[rawInt pos.line, rawInt pos.col, .ref c']) (h' := h'.push (PySem.W.kla_obj "<lambda>" (X.env.qual ++ "<lambda>") params body scope (cloFrom X.env.cells scope.names []) ((X.mg "__name__").getD .none) c' ctv)) I tP
      (fun b o ne g => Heap.get?_push_of_some _ (ext b o ne g)) (Heap.get?_push_of_some _ tab) ge ⟨oc, vs, t, Heap.get?_push_of_some _ g1, g2, g3⟩
    refine q _ c' _ ctv _ _ J (fun b o g n => ?_) (fun b g => ?_) (fun p hp => ?_) (Heap.get?_push_size _ rfl) ⟨c', oc, vs, t, rfl, Heap.get?_push_of_some _ g1, g2, g3⟩
    · have n1 : b ≠ c' := ne_of_none g fC
      have n2 : b ≠ P := by rintro rfl; rw [tP] at g; exact n ps (Option.some.inj g).symm
      rw [upd_ne n1, upd_ne n2]
      exact g
    · by_cases n1 : b = c'
      · rw [n1, upd_same]; simp
      · by_cases n2 : b = P
        · rw [upd_ne n1, n2, upd_same]; simp
        · rw [upd_ne n1, upd_ne n2]; exact g
    · rw [List.mem_singleton.mp hp]
      have eL : (ps ++ #[rawInt pos.line, rawInt pos.col, .ref c']).toList = ps.toList ++ [rawInt pos.line, rawInt pos.col, .ref c'] := by simp
      refine ⟨_, (upd_ne pc).trans upd_same, by rw [eL]; exact PySem.TriplesOk_snoc _ _ _ _ ok3, fun p' cv g => ?_⟩
      rw [eL] at g
      rcases LamX.among_app _ ok3 g with z | z
      · obtain ⟨c0, e1, e2⟩ := among p' cv z
        have n1 : c0 ≠ c' := ne_of_none e2 fC
        have n2 : c0 ≠ P := by rintro rfl; rw [tP] at e2; exact LamX.codeO_ne ps (Option.some.inj e2).symm
        exact ⟨c0, e1, by rw [upd_ne n1, upd_ne n2]; exact e2⟩
      · exact ⟨c', z, upd_same⟩
  · obtain ⟨c', e, hco⟩ := among pos cv hc
    subst e
    refine PySem.W.kla_makeFunctionHit (mg := X.mg) (c := c) (P := P) (ps := ps) (closure_ok hfree) I.ok.glob (I.mod.glob.keeps I.bk) hcode (TB.code.keeps I.bk) oP ok3 hc bP fun ctv h' tk up sz => ?_
    obtain ⟨⟨oc, vs, t, g1, g2, g3⟩, _, _⟩ := I.hok c' _ hco
    exact q h'.objs.size c' _ ctv H _ (I.kept fun b o g => Heap.get?_push_of_some _ (up b o g)) (LamX.ExtN.refl H) (fun b g => g) hT (Heap.get?_push_size _ rfl) ⟨c', oc, vs, t, rfl, Heap.get?_push_of_some _ (up _ _ g1), g2, g3⟩
end
/-- the key: the length, then the value -/
def keyLV (x : Tup (Tup Str)) : PyData := .tuple [.int (x.items.length : Int), Datum.toD x]
def srtLV (xs : List (Tup (Tup Str))) : List (Tup (Tup Str)) := xs.mergeSort (PySem.W.dataLe false keyLV)
section
variable {X : Cx} {k : Nat} {Γ Γ1 Γ2 : List Sl} {μ μ1 μ2 μ3 : Mu} {e a b tg : Expr} {r ra rb rc : Sl} {pos p p2 pos2 : Pos}
/-- lambda v: (len(v), v), called at any heap -/
theorem lam_turn {P : Program} {w : World} {A : Around} {mg : Str → Option Value} {base : Heap} {K : PySem.W.Frag} {f c' : Addr} {pm ctv : Value} {qual v : Str} {params : Arguments} {scope : Scope} {p1 p2 p3 p4 p5 : Pos} {kt : Nat} {s : Shared} {items : List Value} {t : Addr} {d : PyData}
    (M : Mod K mg base) (g : mg "len" = none) (hd : A.depth < recursionLimit) (up : ∀ b o, base.get? b = some o → s.heap.get? b = some o)
    (hf : s.heap.get? f = some (PySem.W.kla_obj "<lambda>" qual params (.Tuple [.Call (.Name "len" p1) [.Name v p2] [] p3, .Name v p4] kt p5) scope [] pm c' ctv)) (rec : s.heap.CodeRec (.ref c') qual)
    (sk : scope.kind = .function) (sco : scope.isCoroutine = false) (sg : scope.isGenerator = false) (sc : ∀ x ∈ scope.names, x.2 ≠ .cell) (sv : scope.names.lookup v = some .local) (sl : scope.names.lookup ("len" : Str) = some .globalImplicit) (hdb : (v == ("__debug__" : Str)) = false)
    (hbind : bindArgs (PySem.W.kla_fn "<lambda>" qual params (.Tuple [.Call (.Name "len" p1) [.Name v p2] [] p3, .Name v p4] kt p5) scope [] pm (.ref c') ctv) ⟨[.ref t], []⟩ = pure [(v, .ref t)])
    (ht : s.heap.IsTuple t items.toArray) (hz : items.length ≤ sizeLine) (hr : Reads s.heap (.ref t) d []) : wpAny (model P w) A (call (.ref f) [.ref t]) (PySem.W.KeyPure (.tuple [.int (items.length : Int), d]) s) (fun _ _ => False) s := by
  obtain ⟨mb, b1, b2⟩ := M.blt
  refine wpAny_call (PySem.W.kla_callFunE hd hf rfl sco sg rfl rec ?_)
  rw [hbind]
  refine wpAny_pure (wpAny_newFunctionEnv sc (fun x hx => by rw [List.mem_singleton.mp hx]; exact sv) (fun h1 hns hsb => ⟨(M.nolimit.keeps up).fresh _ hsb, ?_⟩) sk)
  have kp : ∀ b o, s.heap.get? b = some o → h1.get? b = some o := fun b o e => hsb.extBut b o (Nat.ne_of_lt (Heap.lt_size e)) (Heap.get?_push_of_some _ e)
  show codeAny _ _ (.expr _ (PySem.W.envX qual scope s.heap.objs.size f (.ref c') [])) _ _
  refine PySem.W.kla_codeExpr (wpAny_mono (Q := PySem.W.KeyPure (.tuple [.int (items.length : Int), d]) s) (E := fun _ _ => False) ?_ (fun _ _ h => h) fun _ _ z => z.elim)
  have glo : h1.Ns (PySem.W.envX qual scope s.heap.objs.size f (.ref c') []).globals mg := M.glob.keeps fun b o e => kp b o (up b o e)
  have blt : h1.Ns (PySem.W.envX qual scope s.heap.objs.size f (.ref c') []).builtins mb := b1.keeps fun b o e => kp b o (up b o e)
  have hv : ([(v, Value.ref t)] : List (Str × Value)).reverse.lookup v = some (.ref t) := by simp
  have one : wpAny (model P w) (A.deeper (PySem.W.envX qual scope s.heap.objs.size f (.ref c') [])) (eval (.Name v p2) (PySem.W.envX qual scope s.heap.objs.size f (.ref c') [])) (fun u s2 => u = .ref t ∧ s2 = { s with heap := h1, toks := s.toks + 1 }) (fun _ _ => False) { s with heap := h1, toks := s.toks + 1 } :=
    wpAny_Name (wpAny_loadName_local sk sv hns hv ⟨rfl, rfl⟩) hdb
  have hlen : h1.IsTuple t items.toArray := ht.at fun o e => kp _ o e
  have l63 := line63
  refine wpAny_Tuple_spliced ?_
  show wpAny _ _ (spliced ((false, eval (.Call (.Name "len" p1) [.Name v p2] [] p3) _) :: backTo p5 (starEach [.Name v p4] _))) _ _ _
  refine Calls.spliced_cons ?_
  refine Call_ (Calls.Name_function_global sk sl (Calls.loadGlobal_builtin glo g blt ((b2 "len" (by decide)).trans boot_len) ?_))
  refine PyProof.Rows.callWith_builtin1 (Calls.spliced_cons (wpAny_mono one (fun u s2 ⟨e1, e2⟩ => ?_) fun _ _ z => z)) rfl rfl
  subst e1 e2
  refine Calls.spliced_nil (PyProof.Rows.len_tuple (show IsTup h1 t items.toArray from hlen) (by rw [List.size_toArray]; omega) ?_)
  refine Calls.spliced_cons (wpAny_Name (wpAny_loadName_local sk sv hns hv ?_) hdb)
  refine Calls.spliced_nil ⟨by show 2 ≤ sizeLine; decide, _, _, rfl, fun b o e => Heap.get?_push_of_some _ (kp b o e), ?_⟩
  refine .tuple (Heap.get?_push_size _ rfl) rfl rfl ?_
  have r2 := reads_up (h' := h1.push { cls := .type "tuple", data := .seq [Value.int items.toArray.size (s.toks + 1 + 1), .ref t].toArray }) (fun b o e => Heap.get?_push_of_some _ (kp b o e)) hr
  have r3 := ReadsAll.cons (.int (items.toArray.size : Int) (s.toks + 1 + 1)) (ReadsAll.cons r2 ReadsAll.nil)
  rw [List.size_toArray] at r3
  exact r3
theorem noL_strs : ∀ xs : List Str, noLs (xs.map Datum.toD) = true
  | [] => rfl
  | x :: xs => by
    rw [List.map_cons, noLs, noL_strs xs]
    rfl
theorem noL_groups : ∀ xs : List (Tup Str), noLs (xs.map Datum.toD) = true
  | [] => rfl
  | x :: xs => by
    rw [List.map_cons, noLs, noL_groups xs, Bool.and_true]
    show noLs (x.items.map Datum.toD) = true
    exact noL_strs x.items
theorem ev_sortLV {xs : List (Tup (Tup Str))} {cc : Addr} {v : Str} {params : Arguments} {scope : Scope} {p1 p2 p3 p4 p5 lpos kpos : Pos} {kt : Nat} (c : Cz k X) (TB : LamX.TabB X.base X.mg cc (tabOf X.K)) (hcode : X.env.code = .ref cc) (hq : X.env.qual ++ "<lambda>" = lamQ)
    (ha : Ev X Γ μ e ra μ1) (er : ra.rd μ1 = some (Datum.toD xs)) (hdef : defaultsOf params X.env = ([], []))
    (sk : scope.kind = .function) (sco : scope.isCoroutine = false) (sg : scope.isGenerator = false) (sc : ∀ x ∈ scope.names, x.2 ≠ .cell ∧ x.2 ≠ .free) (sv : scope.names.lookup v = some .local) (sl : scope.names.lookup ("len" : Str) = some .globalImplicit) (hdb : (v == ("__debug__" : Str)) = false) (hcl : cloFrom X.env.cells scope.names [] = [])
    (hbind : ∀ (pm ctv : Value) (c' t : Addr), bindArgs (PySem.W.kla_fn "<lambda>" (X.env.qual ++ "<lambda>") params (.Tuple [.Call (.Name "len" p1) [.Name v p2] [] p3, .Name v p4] kt p5) scope [] pm (.ref c') ctv) ⟨[.ref t], []⟩ = pure [(v, .ref t)])
    (hg : Gl X "sorted" := by rfl) (hs : starEach [e] X.env = (false, eval e X.env) :: starEach [] X.env := by rfl) (he : backTo pos (starEach [e] X.env) = (false, eval e X.env) :: backTo pos (starEach [] X.env) := by rfl) (hpl : (backTo pos (starEach [e] X.env)).any (·.1) = false := by rfl)
    (hall : (backToKw pos (keywordEach [⟨some "key", .Lambda params (.Tuple [.Call (.Name "len" p1) [.Name v p2] [] p3, .Name v p4] kt p5) scope lpos, kpos⟩] X.env)).all (·.1.isSome) = true := by rfl) (hnone : (backToKw pos (keywordEach [⟨some "key", .Lambda params (.Tuple [.Call (.Name "len" p1) [.Name v p2] [] p3, .Name v p4] kt p5) scope lpos, kpos⟩] X.env)).any (·.1.isNone) = false := by rfl)
    (hks : (backToKw pos (keywordEach [⟨some "key", .Lambda params (.Tuple [.Call (.Name "len" p1) [.Name v p2] [] p3, .Name v p4] kt p5) scope lpos, kpos⟩] X.env)).filterMap (·.1) = [Str.ofString "key"] := by rfl) :
    Ev X Γ μ (.Call (.Name "sorted" p) [e] [⟨some "key", .Lambda params (.Tuple [.Call (.Name "len" p1) [.Name v p2] [] p3, .Name v p4] kt p5) scope lpos, kpos⟩] pos) (fr (srtLV xs)) μ1 := by
  refine ⟨fun pins s σ H Q I q => ?_⟩
  obtain ⟨F, as, cl, sl0, kk⟩ := q
  have hb : bootBuiltins "sorted" = some (.builtin "sorted") := by decide +kernel
  refine wpAny_Call_Name_kw (ld_blt I hg c.b_sorted hb ?_)
  refine PyProof.Rows.callWith_kw (thn ((ea_cons ha ea_nil hs).run pos pins s σ H (fun vs H1 => ∃ F1 A us, vs = [.ref A] ∧ Step as F H F1 H1 ∧ Clz X.K F1 H1 as μ1 ∧ SqL X.K H1 A us ∧ DpAll X.K F1 us (xs.map Datum.toD)) I ⟨F, as, cl, sl0, fun vs F1 H1 st1 c1 hv => ?_⟩) fun us s1 ⟨vs, H1, I1, r1, q1⟩ => ?_) he hpl hall hnone
  · obtain ⟨u, rfl, h1⟩ := hv.one
    obtain ⟨A, us, rfl, h2, h3⟩ := h1.seqL c1 er
    exact ⟨F1, A, us, rfl, st1, c1, h2, h3⟩
  obtain ⟨F1, A, ys, rfl, st1, c1, h2, h3⟩ := q1
  rw [Vals.ref1 r1]
  show wpAny _ _ (evalAll [(do let v ← eval (.Lambda params (.Tuple [.Call (.Name "len" p1) [.Name v p2] [] p3, .Name v p4] kt p5) scope lpos) X.env; standAt pos; pure v)]) _ _ s1
  have hT := c1.tab
  unfold TTs at hT
  rw [← hq] at hT
  refine wpAny_evalAll_cons (wpAny_bind (lam_made I1 TB hcode hT hdef (fun y hy e => absurd e (sc y hy).2) fun f c' pm ctv H2 s2 J ext dm tabs hf rec => wpAny_bind (wpAny_standAt (wpAny_pure ?_))))
  refine wpAny_evalAll_nil ?_
  rw [hks]
  show wpAny _ _ (call (.builtin "sorted") [.ref A] [(Str.ofString "key", .ref f)]) _ _ s2
  -- the heap behind the lambda
  have notT : ∀ b o, F1 b = some o → H2 b = some o := fun b o e => ext b o (c1.sub b o e) fun ps z => c1.nt b ps (z ▸ e)
  have c2 : Clz X.K F1 H2 as μ1 := ⟨notT, c1.nd, c1.len, fun k zs e => by
    obtain ⟨a', vs', g1, g2, g3, g4⟩ := c1.cel k zs e
    exact ⟨a', vs', g1, g2, ext a' _ g3 (fun ps z => by cases z), g4⟩, fun a ha => dm a (c1.there a ha), by unfold TTs; rw [← hq]; exact tabs, c1.nt⟩
  have st2 : Step as F1 H1 F1 H2 := ⟨Ex.refl F1, fun b o _ nt e => ext b o e nt, fun b _ e _ => e, dm⟩
  have h2' : SqL X.K H2 A ys := by
    rcases h2 with (h | ⟨o, h⟩) | h
    · exact .inl (.inl (ext A _ h fun ps z => by cases z))
    · exact .inl (.inr ⟨o, ext A _ h fun ps z => by cases z⟩)
    · exact .inr h
  obtain ⟨its, rv, pl, hz⟩ := J.list h2'
  have hlen : xs.length = ys.length := by
    have := h3.length
    rw [List.length_map] at this
    exact this.symm
  obtain ⟨e1, _⟩ := each_vals J (c2.sub.dpAll h3) h3 rv
  have hu := c.un
  have hroom := c.rm.dp
  refine PySem.W.sorted_key_data (k := keyLV) (b := false) (bs := xs) (R := fun u x => ∃ v, RelV v u ∧ Dp X.K F1 v (Datum.toD x)) pl.isList e1 (PySem.W.AllAlike.of fun b b' => DatumOrd.alike ((b.items.length : Int), b) ((b'.items.length : Int), b')) (PySem.W.Sortable.tuples fun b => ⟨_, _, rfl⟩) (by rw [hlen]; exact hz) (fun x _ => ?_) (PyProof.Rows.ksk_s1 _ _) (fun _ => PyProof.Rows.ksk_l1 _ _) (fun x => PyProof.Rows.ksk_t1 f x) (fun u x hR hx h tk up => ?_) fun out cn h' tk up fresh hD lo eo => ?_
  · have d1 := Datum.depth_le ((x.items.length : Int), x)
    have d2 := Flat.le (α := Int × Tup (Tup Str))
    show X.A.units + 2 + PyData.depth (Datum.toD ((x.items.length : Int), x)) < cLine
    omega
  · obtain ⟨w, rw', hw⟩ := hR
    obtain ⟨as1, rd⟩ := Dp.reads J _ _ _ (c2.sub.dp hw) rw'
    have nil := reads_nil rd (show noL (Datum.toD x) = true from noL_groups x.items)
    subst nil
    cases hw with
    | @tup t us _ g1 g2 =>
      cases rw'
      obtain ⟨ti, rt, pt, zt⟩ := J.tuple (c2.sub.st g1)
      have le : ti.length = x.items.length := by rw [← rt.length, g2.length, List.length_map]
      have key := lam_turn (P := X.prog) (w := X.w) (A := X.A.in1.in1) (base := X.base) (K := X.K) (s := { s2 with heap := h, toks := tk }) (items := ti) (t := t) (d := Datum.toD x) J.ok.mod c.b_len
        (by show X.A.depth < recursionLimit; omega) (fun b o e => up b o (J.bk b o e)) (by rw [← hcl]; exact up _ _ hf) (by obtain ⟨c0, oc, vs, t0, e0, q1, q2, q3⟩ := rec; exact ⟨c0, oc, vs, t0, e0, up _ _ q1, q2, q3⟩) sk sco sg (fun x hx => (sc x hx).1) sv sl hdb (hbind pm ctv c' t)
        ((show s2.heap.IsTuple t ti.toArray from pt).at fun o e => up _ o e) (by rw [← rt.length]; exact zt) (reads_up up rd)
      rw [le] at key
      exact key
  · obtain ⟨zs, g1, g2⟩ := vals_each eo
    have hl2 : zs.length ≤ sizeLine := by rw [g1.length, lo, hlen]; exact hz
    refine ⟨.ref _, upd H2 (s2.heap.objs.size + 1) (.lst zs), J.laid (t' := tk) up (Nat.le_succ _) ⟨hl2, out, cn, g1, hD⟩, rfl, ?_⟩
    exact fre_new c2 g2 (J.hok.fresh (Nat.le_succ _)) fun z F' H' p hz nz => kk z F' H' ((st1.trans st2).trans p.step) (c2.pure p) hz (newBack (st1.trans st2) nz)
end
end DL
end
section
set_option autoImplicit false
/-! set(list of ints): the set with its order (call_set_tupI tells it for tuples). -/
namespace DS
open PySem PySem.Spec PyProof.Rows L2
/-- a set just made -/
abbrev fresh0 (w : World) : Obj := { cls := .type "set", dict := none, data := .set #[] 0 (.fresh 0 0 (!w.params.followText "set-order")) }
section
variable {P : Program} {w : World} {A : Around} {E : Value → Shared → Prop} {s : Shared}
set_option maxRecDepth 100000 in
set_option maxHeartbeats 3200000 in
theorem set_of_list {l : Addr} {items : Array Value} (ns : List Int) {Q : Value → Shared → Prop} (calm : A.handled = none) (isL : s.heap.IsList l items) (isI : IntsAre items.toList ns) (few : ns.length + 1 < scanBound)
    (q : ∀ (h' : Heap) (tk c : Nat), SetR w h' s.heap.objs.size (fun j => decide (j ∈ ns)) c → c ≤ ns.length → (∀ b o, s.heap.get? b = some o → h'.get? b = some o) → Q (.ref s.heap.objs.size) { s with heap := h', toks := tk }) :
    wpAny (model P w) A (call (.type "set") [.ref l]) Q E s := by
  have size : items.size = ns.length := by rw [← Array.length_toList]; exact IntsAre.length isI
  obtain ⟨k, tl, hmro⟩ := PySem.F.called_set.mro
  have hmade := PySem.F.called_set.made
  have hsub := PySem.F.called_set.sub
  refine wpAny_call (codeAny_of_tree ?_)
  show wpAny (model P w) _ (callAny (.type "set") _) _ _ s
  refine wpAny_pure ⟨Code.quiet_builtin _ (by decide +kernel), codeAny_builtin PySem.F.entry_type_call ?_⟩
  rw [Around.under_plain (weight_type_call_type "set" [.ref l] []) rfl]
  have notT := PySem.F.called_set.notType
  have canC := PySem.F.called_set.canCreate
  have okC := PySem.F.typeCall_set_1 (.ref l)
  repeat (any_goals (first | assumption | wp_step))
  refine codeAny_mono (code_set_led1 (.ref l) (E := E) (Q₁ := fun obj s₁ => obj = .ref s.heap.objs.size ∧ s₁ = { s with heap := s.heap.push (fresh0 w) }) ⟨rfl, rfl⟩) fun r s₁ hr => ?_
  cases r with
  | error e => exact hr
  | ok fl =>
    cases fl with
    | next => exact hr.elim
    | brk => exact hr.elim
    | cont => exact hr.elim
    | ret obj =>
      obtain ⟨rfl, rfl⟩ := hr
      have isS : (s.heap.push (fresh0 w)).get? s.heap.objs.size = some (fresh0 w) := Heap.get?_push_size _ rfl
      have tyS : Shared.TypeIs { s with heap := s.heap.push (fresh0 w) } (.ref s.heap.objs.size) "set" := ⟨_, isS, rfl⟩
      have look := PySem.F.called_set.init.lookup
      have bind0 := PySem.F.called_set.init.bind (.ref s.heap.objs.size)
      repeat (any_goals (first | assumption | wp_step))
      refine codeAny_mono (codeAny_call_builtin (R := wants (fun r s₂ => r = .none ∧ ∃ h' tk c, s₂ = { s with heap := h', toks := tk } ∧ SetR w h' s.heap.objs.size (fun j => decide (j ∈ ns)) c ∧ c ≤ ns.length ∧ (∀ b o, s.heap.get? b = some o → h'.get? b = some o)) E) PySem.F.called_set.init.plain PySem.F.entry_set_init (check_set_init_1 tyS ?_)) fun r₂ s₂ hr₂ => ?_
      · obtain ⟨⟨oc, od, odat, osl⟩, gl, gc, gn, gd⟩ := isL
        simp only at gc gd
        subst gc gd
        have gl2 : (s.heap.push (fresh0 w)).get? l = some { cls := .type "list", dict := od, data := .seq items gn, slots := osl } := Heap.get?_push_of_some _ gl
        have nS := PySem.F.sub_list_set
        have nF := PySem.F.sub_list_frozenset
        have nD : (Value.type "list" == Value.type "dict") = false := by decide
        have isL2 : (s.heap.push (fresh0 w)).IsList l items := ⟨_, gl2, rfl, gn, rfl⟩
        unfold Builtin.«set.__init__» noKeywords Builtin.Frozenset.updateFrom
        generalize hit : pyIter = itf
        wp_walk
        subst hit
        refine wpAny_pyIter_list isL2 (wpAny_bind (wpAny_runValue ?_))
        have ltl : l < s.heap.objs.size := Heap.lt_size gl
        have sz1 : (s.heap.push (fresh0 w)).objs.size = s.heap.objs.size + 1 := Heap.size_push ..
        have calm3 : A.in1.in1.in1.handled = none := by simp [calm]
        have ne1 : l ≠ (s.heap.push (fresh0 w)).objs.size := by rw [sz1]; exact Nat.ne_of_lt (Nat.lt_succ_of_lt ltl)
        have off : s.heap.objs.size ∉ [(s.heap.push (fresh0 w)).objs.size, l] := by
          rw [sz1]
          simp only [List.mem_cons, List.not_mem_nil, or_false, not_or]
          exact ⟨Nat.ne_of_lt (Nat.lt_succ_self _), Nat.ne_of_gt ltl⟩
        have vals : ∀ (i : Nat) (v : Value), items[i]? = some v → ∃ k t, ns[i]? = some k ∧ v = .int k t := fun i v g => by
          have lt : i < ns.length := by rw [← size]; exact (Array.getElem?_eq_some_iff.mp g).1
          obtain ⟨t, e⟩ := PyProof.Rows.IntsAre.int_at isI i v (by rw [Array.getElem?_toList]; exact g)
          have e2 : ns.getD i 0 = ns[i] := by rw [List.getD_eq_getElem?_getD, List.getElem?_eq_getElem lt]; rfl
          exact ⟨ns[i], t, List.getElem?_eq_getElem lt, by rw [e, e2]⟩
        refine set_update_ints ((Walks.list calm3 _ l ne1 items).toS) s.heap.objs.size off ns size few vals items.size 0 _ (Nat.sub_zero _) (Nat.zero_le _) ⟨⟨_, Heap.get?_push_size _ rfl, rfl, rfl⟩, (isL2.push _)⟩ ⟨0, Nat.le_refl 0, setR_new_at (Heap.get?_push_of_some _ isS)⟩ fun s' c' hm le R => ?_
        obtain ⟨h', g2, d', tk', os'⟩ := s'
        obtain rfl : g2 = s.gens := hm.gens
        obtain rfl : d' = s.drawn := hm.drawn
        obtain rfl : os' = s.os := hm.os
        show wpAny _ _ _ _ _ _
        refine wpAny_pure ?_
        show wpAny _ _ (ret Value.none) _ _ _
        refine wpAny_pure ⟨rfl, h', tk', c', rfl, R, by rw [← size]; exact le, fun b o e => ?_⟩
        have lb : b < s.heap.objs.size := Heap.lt_size e
        refine hm.heap b o (fun m => ?_) (Heap.get?_push_of_some _ (Heap.get?_push_of_some _ e))
        rw [sz1] at m
        simp only [List.mem_cons, List.not_mem_nil, or_false] at m
        rcases m with z | z
        · exact Nat.ne_of_lt lb z
        · exact Nat.ne_of_lt (Nat.lt_succ_of_lt lb) z
      · cases r₂ with
        | error e => exact hr₂
        | ok fl₂ =>
          cases fl₂ with
          | next => exact hr₂.elim
          | brk => exact hr₂.elim
          | cont => exact hr₂.elim
          | ret r =>
            obtain ⟨rfl, h', tk, c', rfl, R, le, up⟩ := hr₂
            repeat (any_goals (first | assumption | wp_step))
            exact q _ _ _ R le up
end
end DS
end
section
set_option autoImplicit false
/-! D-layer 13: sorted(set(ints)), list or list. -/
namespace DL
open PySem PySem.Spec PyProof.Rows L2
open PySem.W (Datum Tup DatumOrd Holds HoldAll T3)

/-- the members, ascending (none below 0) -/
def setAsc (xs : List Int) : List Int := (rangeI (imax xs + 1).toNat).filter fun i => decide (i ∈ xs)
theorem asc_unique : ∀ (xs ys : List Int), xs.Pairwise (· < ·) → ys.Pairwise (· < ·) → (∀ k, k ∈ xs ↔ k ∈ ys) → xs = ys
  | [], [], _, _, _ => rfl
  | [], y :: ys, _, _, h => by simpa using (h y).mpr List.mem_cons_self
  | x :: xs, [], _, _, h => by simpa using (h x).mp List.mem_cons_self
  | x :: xs, y :: ys, hx, hy, h => by
    rw [List.pairwise_cons] at hx hy
    have e : x = y := by
      rcases List.mem_cons.mp ((h x).mp List.mem_cons_self) with e | m1
      · exact e
      · rcases List.mem_cons.mp ((h y).mpr List.mem_cons_self) with e | m2
        · exact e.symm
        · have a1 := hy.1 x m1
          have a2 := hx.1 y m2
          omega
    subst e
    rw [asc_unique xs ys hx.2 hy.2 fun k => ?_]
    constructor
    · intro m
      have a1 := hx.1 k m
      rcases List.mem_cons.mp ((h k).mp (List.mem_cons_of_mem _ m)) with e | m2
      · omega
      · exact m2
    · intro m
      have a1 := hy.1 k m
      rcases List.mem_cons.mp ((h k).mpr (List.mem_cons_of_mem _ m)) with e | m2
      · omega
      · exact m2
theorem imax_ge : ∀ {xs : List Int} {x : Int}, x ∈ xs → x ≤ imax xs := fun {xs x} h => by
  cases xs with
  | nil => cases h
  | cons y ys =>
    unfold imax
    have key : ∀ (ys : List Int) (a : Int), a ≤ ys.foldl (fun a y => if a < y then y else a) a ∧ ∀ z ∈ ys, z ≤ ys.foldl (fun a y => if a < y then y else a) a := fun ys => by
      induction ys with
      | nil => intro a; exact ⟨Int.le_refl _, fun z h => by cases h⟩
      | cons w ws ih =>
        intro a
        rw [List.foldl_cons]
        have h1 := ih (if a < w then w else a)
        have h2 : a ≤ (if a < w then w else a) ∧ w ≤ (if a < w then w else a) := by split <;> omega
        refine ⟨Int.le_trans h2.1 h1.1, fun z hz => ?_⟩
        rcases List.mem_cons.mp hz with e | m
        · rw [e]; exact Int.le_trans h2.2 h1.1
        · exact h1.2 z m
    rcases List.mem_cons.mp h with e | m
    · rw [e]; exact (key ys y).1
    · exact (key ys y).2 x m
theorem rangeI_mem {n : Nat} {i : Int} : i ∈ rangeI n ↔ 0 ≤ i ∧ i < n := by
  unfold rangeI
  rw [List.mem_map]
  constructor
  · rintro ⟨j, hj, rfl⟩
    rw [List.mem_range] at hj
    omega
  · rintro ⟨h1, h2⟩
    exact ⟨i.toNat, List.mem_range.mpr (by omega), by omega⟩
theorem rangeI_asc (n : Nat) : (rangeI n).Pairwise (· < ·) := by
  unfold rangeI
  exact List.Pairwise.map _ (fun a b h => Int.ofNat_lt.mpr h) List.pairwise_lt_range
theorem setAsc_mem {xs : List Int} (h : ∀ x ∈ xs, 0 ≤ x) (k : Int) : k ∈ setAsc xs ↔ k ∈ xs := by
  unfold setAsc
  rw [List.mem_filter, rangeI_mem, decide_eq_true_eq]
  constructor
  · exact fun q => q.2
  · intro q
    have a1 := h k q
    have a2 := imax_ge q
    exact ⟨⟨a1, by omega⟩, q⟩
theorem setAsc_asc (xs : List Int) : (setAsc xs).Pairwise (· < ·) := (rangeI_asc _).filter _
theorem nodup_len {α : Type} [DecidableEq α] : ∀ (xs ys : List α), xs.Nodup → (∀ x ∈ xs, x ∈ ys) → xs.length ≤ ys.length
  | [], _, _, _ => Nat.zero_le _
  | x :: xs, ys, h, hs => by
    rw [List.nodup_cons] at h
    have m : x ∈ ys := hs x List.mem_cons_self
    have ih := nodup_len xs (ys.erase x) h.2 fun z hz => (List.mem_erase_of_ne (fun e : z = x => h.1 (by rw [← e]; exact hz))).mpr (hs z (List.mem_cons_of_mem _ hz))
    rw [List.length_erase_of_mem m] at ih
    have := List.length_pos_of_mem m
    rw [List.length_cons]
    omega
section
variable {X : Cx} {k : Nat} {Γ Γ1 Γ2 : List Sl} {μ μ1 μ2 μ3 : Mu} {e a b tg : Expr} {es rest : List Expr} {r ra rb rc : Sl} {pos p p2 pos2 : Pos} {ds ys : List PyData}
theorem setR_few {w : World} {h : Heap} {a : Addr} {c : Nat} {xs : List Int} (R : SetR w h a (fun j => decide (j ∈ xs)) c) (hx : ∀ x ∈ xs, 0 ≤ x ∧ x < 63) : c < 64 := by
  obtain ⟨o, es, ep, t, _, _, _, _, hnd, hm, _, _, hn, _⟩ := R
  have h1 := nodup_len _ (rangeI 63) hnd fun k hk => by
    have := (hm k).mpr hk
    exact rangeI_mem.mpr (by simpa using hx k (of_decide_eq_true this))
  have e : (rangeI 63).length = 63 := by unfold rangeI; simp
  rw [List.length_map, Array.length_toList, hn, e] at h1
  omega
theorem cr_setL (hc : X.calm = true) : CallR X (.type "set") (fun vs H Q => ∃ (a : Addr) (xs : List Int), vs = [.ref a] ∧ SqL X.K H a (xs.map V.int) ∧ xs.length ≤ 4000 ∧ (∀ x ∈ xs, 0 ≤ x ∧ x < 63) ∧ ∀ p c, H p = none → c < 64 → Q (.ref p) (upd H p (SetO X.w p (fun j => decide (j ∈ xs)) c))) := by
  intro pins s σ H vs us Q I r h
  obtain ⟨a, xs, rfl, hs, hl, hx, q⟩ := h
  obtain ⟨its, rv, pl, _⟩ := I.list hs
  rw [Vals.ref1 r]
  refine DS.set_of_list xs (I.ok.hd hc) pl.isList (by simpa using RZ.intsAre_vals rv) (by unfold scanBound; omega) fun h' tk c R _ up => ?_
  have J : Inv X pins σ (upd H s.heap.objs.size (SetO X.w s.heap.objs.size (fun j => decide (j ∈ xs)) c)) { s with heap := h', toks := tk } := I.laid (t' := tk) up (Nat.le_refl _) (setO_new R)
  exact ⟨.ref _, _, J, rfl, q _ c (I.hok.fresh (Nat.le_refl _)) (setR_few R hx)⟩
theorem ev_sortedSet {xs : List Int} (c : Cz k X) (ha : Ev X Γ μ e ra μ1) (er : ra.rd μ1 = some (Datum.toD xs)) (hl : xs.length ≤ 4000) (hx : ∀ x ∈ xs, 0 ≤ x ∧ x < 63) (hg : Gl X "sorted" := by rfl) (hg2 : Gl X "set" := by rfl)
    (hs : starEach [e] X.env = (false, eval e X.env) :: starEach [] X.env := by rfl) (hs2 : starEach [.Call (.Name "set" p2) [e] [] pos2] X.env = (false, eval (.Call (.Name "set" p2) [e] [] pos2) X.env) :: starEach [] X.env := by rfl) :
    Ev X Γ μ (.Call (.Name "sorted" p) [.Call (.Name "set" p2) [e] [] pos2] [] pos) (fr (setAsc xs)) μ1 :=
  pe_le (pe_callB (cr_sortedSet c.calm) hg c.b_sorted (by decide +kernel) (pa_cons (pe_callTy (cr_setL c.calm) hg2 c.b_set (by decide +kernel) (ea_cons ha ea_nil hs) (by decide) (by decide) hs rfl) pa_nil hs2) (by decide) (by decide) hs2 rfl) fun σ H Q q => by
    obtain ⟨F, as, cl, sl, kk⟩ := q
    refine ⟨F, as, cl, sl, fun vs F1 H1 st1 c1 hv => ?_⟩
    obtain ⟨v, rfl, h1⟩ := hv.one
    obtain ⟨A, us, rfl, h2, h3⟩ := h1.seqL c1 er
    have eu := dpAll_int h3
    subst eu
    refine ⟨A, xs, rfl, h2, hl, hx, fun s cn hs hc => ?_⟩
    have p2 := StepP.hxOnly (H' := upd H1 s (SetO X.w s (fun j => decide (j ∈ xs)) cn)) c1.sub (Ex.new hs)
    refine ⟨s, _, cn, rfl, upd_same, hc, fun ns l has hm _ hl => ?_⟩
    have e : ns = setAsc xs := asc_unique _ _ has (setAsc_asc xs) fun k => by rw [hm k, setAsc_mem (fun x h => (hx x h).1)]; simp
    subst e
    have c2 := c1.pure p2
    have st2 := st1.trans p2.step
    have dp : ∀ (F : Hp) (zs : List Int), DpAll X.K F (zs.map V.int) (zs.map Datum.toD) := fun F zs => by
      induction zs with
      | nil => exact .nil
      | cons z zs ih => exact .cons (Dp.int z) ih
    exact fre_new c2 (dp F1 _) hl fun z F' H' p hz nz => kk z F' H' (st2.trans p.step) (c2.pure p) hz (newBack st2 nz)
/-- xs or ys, of lists just made -/
theorem ev_orL (ha : Ev X Γ μ a (.fre ds) μ) (hb : ds = [] → Ev X Γ μ (.BoolOp .Or (b :: rest) pos) (.fre ys) μ) : Ev X Γ μ (.BoolOp .Or (a :: b :: rest) pos) (.fre (if ds = [] then ys else ds)) μ := by
  by_cases e : ds = []
  · rw [if_pos e]
    subst e
    refine pe_le (pe_orT ha (hb rfl)) fun σ H Q q => ?_
    obtain ⟨F, as, cl, sl, kk⟩ := q
    refine ⟨F, as, cl, sl, fun v F1 H1 st1 c1 hv hn => ⟨false, ?_, ?_⟩⟩
    · obtain ⟨A, us, rfl, h2, h3, h4, h5⟩ := hv
      cases h5
      exact .inl ⟨[], .inl (.inl h2), rfl⟩
    · exact iteF ⟨F1, as, c1, sl.mono st1, fun w F2 H2 st2 c2 hw nw => kk w F2 H2 (st1.trans st2) c2 hw (newBack st1 nw)⟩
  · rw [if_neg e]
    refine pe_le (pe_orT ha pe_false) fun σ H Q q => ?_
    obtain ⟨F, as, cl, sl, kk⟩ := q
    refine ⟨F, as, cl, sl, fun v F1 H1 st1 c1 hv hn => ⟨true, ?_, ?_⟩⟩
    · obtain ⟨A, us, rfl, h2, h3, h4, h5⟩ := hv
      refine .inl ⟨us, .inl (.inl h2), ?_⟩
      cases us with
      | nil => cases h5; exact absurd rfl e
      | cons u us => rfl
    · exact iteT (kk v F1 H1 st1 c1 hv hn)
end
end DL
end
section
set_option autoImplicit false
/-! D-layer 14: comprehensions in short. -/
namespace DL
open PySem PySem.Spec PyProof.Rows L2
open PySem.W (Datum Tup DatumOrd Holds HoldAll T3)
/-- how a block stands -/
structure Bz where
  s : Shared
  H : Hp
  C : Addr
  cl : List (Str × Addr)
  fp : List Addr
abbrev BZ (X : Cx) (scope : Scope) (z : Bz) : Cx := BX X scope z.s z.H z.C z.cl z.fp
abbrev AllB (X : Cx) (k : Nat) (scope : Scope) (p : Cx → Prop) : Prop := ∀ z : Bz, Cz k (BZ X scope z) → p (BZ X scope z)
section
variable {X : Cx} {k : Nat} {Γ Γ1 Γ2 : List Sl} {μ μ1 μ2 μ3 : Mu} {e a b tg : Expr} {es rest : List Expr} {r ra rb rc : Sl} {pos p p2 pos2 : Pos} {ds ys : List PyData}
variable {α β γ : Type} [DecidableEq α] [Datum α] [DecidableEq β] [Datum β] [DecidableEq γ] [Datum γ]
theorem AllB.at {scope : Scope} {p : Cx → Prop} (h : AllB X k scope p) (c : Cz k X) : ∀ s H C cl fp, p (BX X scope s H C cl fp) := fun s H C cl fp => h ⟨s, H, C, cl, fp⟩ c
theorem lc0 {elt iter : Expr} {scope : Scope} (own : List (Str × Nat)) (xs : List α) (f : α → β) (c : Cz k X) (hi : EvI X Γ μ tg iter (xs.map Datum.toD) μ1) (ok : BlkOk X.N X.env.scope scope own)
    (turns : ∀ x ∈ xs, ∃ Γ1, AllB X k scope (fun Z => EvG Z (own.map (·.2)) (wipeG Γ (own.map (·.2))) tg (Datum.toD x) Γ1) ∧ AllB X k scope (fun Z => Ev Z Γ1 μ1 elt (dd (f x)) μ1)) (hs : ∀ x, foldedSetIterable iter X.env x = pure x := by intro _; rfl) :
    EvB X (.ListComp elt [⟨tg, iter, [], 0⟩] scope pos) (tD X.K Γ μ (fr (xs.map f)) μ1) := ev_lc0 own xs f c hi ok (fun x hx => by
      obtain ⟨Γ1, h1, h2⟩ := turns x hx
      exact ⟨Γ1, h1.at c, h2.at c⟩) hs
theorem lc1 {elt iter cd : Expr} {scope : Scope} (own : List (Str × Nat)) (xs : List α) (p : α → Bool) (f : α → β) (c : Cz k X) (hi : EvI X Γ μ tg iter (xs.map Datum.toD) μ1) (ok : BlkOk X.N X.env.scope scope own)
    (turns : ∀ x ∈ xs, ∃ Γ1, AllB X k scope (fun Z => EvG Z (own.map (·.2)) (wipeG Γ (own.map (·.2))) tg (Datum.toD x) Γ1) ∧ AllB X k scope (fun Z => EvT Z Γ1 μ1 cd (p x) μ1) ∧ (p x = true → AllB X k scope (fun Z => Ev Z Γ1 μ1 elt (dd (f x)) μ1))) (hs : ∀ x, foldedSetIterable iter X.env x = pure x := by intro _; rfl) :
    EvB X (.ListComp elt [⟨tg, iter, [cd], 0⟩] scope pos) (tD X.K Γ μ (fr ((xs.filter p).map f)) μ1) := ev_lc1 own xs p f c hi ok (fun x hx => by
      obtain ⟨Γ1, h1, h2, h3⟩ := turns x hx
      exact ⟨Γ1, h1.at c, h2.at c, fun h => (h3 h).at c⟩) hs
/-- the items themselves -/
theorem lcf {elt iter cd : Expr} {scope : Scope} (own : List (Str × Nat)) (xs : List α) (p : α → Bool) (c : Cz k X) (hi : EvI X Γ μ tg iter (xs.map Datum.toD) μ1) (ok : BlkOk X.N X.env.scope scope own)
    (turns : ∀ x ∈ xs, ∃ Γ1, AllB X k scope (fun Z => EvG Z (own.map (·.2)) (wipeG Γ (own.map (·.2))) tg (Datum.toD x) Γ1) ∧ AllB X k scope (fun Z => EvT Z Γ1 μ1 cd (p x) μ1) ∧ (p x = true → AllB X k scope (fun Z => Ev Z Γ1 μ1 elt (dd x) μ1))) (hs : ∀ x, foldedSetIterable iter X.env x = pure x := by intro _; rfl) :
    EvB X (.ListComp elt [⟨tg, iter, [cd], 0⟩] scope pos) (tD X.K Γ μ (fr (xs.filter p)) μ1) := (lc1 own xs p (fun x => x) c hi ok turns hs).cast (by rw [List.map_id'])
theorem lc20 {elt iter tg1 iter1 : Expr} {scope : Scope} (own : List (Str × Nat)) (vs1 : List Nat) (xs : List α) (ys : α → List β) (f : α → β → γ) (c : Cz k X) (hi : EvI X Γ μ tg iter (xs.map Datum.toD) μ1) (ok : BlkOk X.N X.env.scope scope own) (hv : ∀ i ∈ vs1, i ∈ own.map (·.2))
    (hz : (xs.flatMap fun x => (ys x).map (f x)).length ≤ 100000)
    (turns : ∀ x ∈ xs, ∃ Γ1, AllB X k scope (fun Z => EvG Z (own.map (·.2)) (wipeG Γ (own.map (·.2))) tg (Datum.toD x) Γ1) ∧ AllB X k scope (fun Z => EvI Z Γ1 μ1 tg1 iter1 ((ys x).map Datum.toD) μ1) ∧
      ∀ y ∈ ys x, ∃ Γ2, AllB X k scope (fun Z => EvG Z vs1 (wipeG Γ1 vs1) tg1 (Datum.toD y) Γ2) ∧ AllB X k scope (fun Z => Ev Z Γ2 μ1 elt (dd (f x y)) μ1))
    (hs : ∀ x, foldedSetIterable iter X.env x = pure x := by intro _; rfl) (hs1 : ∀ env x, foldedSetIterable iter1 env x = pure x := by intro _ _; rfl) :
    EvB X (.ListComp elt [⟨tg, iter, [], 0⟩, ⟨tg1, iter1, [], 0⟩] scope pos) (tD X.K Γ μ (fr (xs.flatMap fun x => (ys x).map (f x))) μ1) := by
  have e : (fun x => ((ys x).filter fun _ => true).map (f x)) = fun x => (ys x).map (f x) := by
    funext x
    rw [List.filter_eq_self.mpr (fun _ _ => rfl)]
  refine (ev_lc2 (pos := pos) own vs1 xs ys (fun _ _ => true) f c hi ok hv (by rw [e]; exact hz) (fun x hx => ?_) hs hs1).cast (by rw [e])
  obtain ⟨Γ1, h1, h2, h3⟩ := turns x hx
  refine ⟨Γ1, h1.at c, h2.at c, fun y hy => ?_⟩
  obtain ⟨Γ2, g1, g2⟩ := h3 y hy
  exact ⟨Γ2, g1.at c, fun _ _ _ _ _ => ts_nil, fun _ => g2.at c⟩
theorem lc21 {elt iter tg1 iter1 cd : Expr} {scope : Scope} (own : List (Str × Nat)) (vs1 : List Nat) (xs : List α) (ys : α → List β) (p : α → β → Bool) (f : α → β → γ) (c : Cz k X) (hi : EvI X Γ μ tg iter (xs.map Datum.toD) μ1) (ok : BlkOk X.N X.env.scope scope own) (hv : ∀ i ∈ vs1, i ∈ own.map (·.2))
    (hz : (xs.flatMap fun x => ((ys x).filter (p x)).map (f x)).length ≤ 100000)
    (turns : ∀ x ∈ xs, ∃ Γ1, AllB X k scope (fun Z => EvG Z (own.map (·.2)) (wipeG Γ (own.map (·.2))) tg (Datum.toD x) Γ1) ∧ AllB X k scope (fun Z => EvI Z Γ1 μ1 tg1 iter1 ((ys x).map Datum.toD) μ1) ∧
      ∀ y ∈ ys x, ∃ Γ2, AllB X k scope (fun Z => EvG Z vs1 (wipeG Γ1 vs1) tg1 (Datum.toD y) Γ2) ∧ AllB X k scope (fun Z => EvT Z Γ2 μ1 cd (p x y) μ1) ∧ (p x y = true → AllB X k scope (fun Z => Ev Z Γ2 μ1 elt (dd (f x y)) μ1)))
    (hs : ∀ x, foldedSetIterable iter X.env x = pure x := by intro _; rfl) (hs1 : ∀ env x, foldedSetIterable iter1 env x = pure x := by intro _ _; rfl) :
    EvB X (.ListComp elt [⟨tg, iter, [], 0⟩, ⟨tg1, iter1, [cd], 0⟩] scope pos) (tD X.K Γ μ (fr (xs.flatMap fun x => ((ys x).filter (p x)).map (f x))) μ1) := ev_lc2 own vs1 xs ys p f c hi ok hv hz (fun x hx => by
  obtain ⟨Γ1, h1, h2, h3⟩ := turns x hx
  refine ⟨Γ1, h1.at c, h2.at c, fun y hy => ?_⟩
  obtain ⟨Γ2, g1, g2, g3⟩ := h3 y hy
  exact ⟨Γ2, g1.at c, fun s H C cl fp => ts_one (g2.at c s H C cl fp), fun h => (g3 h).at c⟩) hs hs1
/-- a comprehension that writes at mutable lists: st runs the turns -/
def runM {τ : Type} (st : τ → α → β × τ) : τ → List α → List β × τ
  | t, [] => ([], t)
  | t, x :: xs => ((st t x).1 :: (runM st (st t x).2 xs).1, (runM st (st t x).2 xs).2)
theorem runM_take {τ : Type} (st : τ → α → β × τ) : ∀ (xs : List α) (t : τ) (n : Nat) (x : α), xs[n]? = some x → (runM st t (xs.take (n + 1))).2 = (st (runM st t (xs.take n)).2 x).2 ∧ (runM st t xs).1[n]? = some (st (runM st t (xs.take n)).2 x).1
  | [], _, _, _, h => by simp at h
  | y :: ys, t, 0, x, h => by
    cases h
    exact ⟨by simp [runM], by simp [runM]⟩
  | y :: ys, t, n + 1, x, h => by
    have ih := runM_take st ys (st t y).2 n x (by simpa using h)
    rw [List.take_succ_cons, List.take_succ_cons]
    exact ⟨ih.1, by simpa [runM] using ih.2⟩
theorem runM_len {τ : Type} (st : τ → α → β × τ) : ∀ (xs : List α) (t : τ), (runM st t xs).1.length = xs.length
  | [], _ => rfl
  | x :: xs, t => by
    show (runM st (st t x).2 xs).1.length + 1 = _
    rw [runM_len st xs]
    rfl
theorem lcM {τ : Type} {elt iter : Expr} {scope : Scope} (own : List (Str × Nat)) (xs : List α) (M : τ → Mu) (st : τ → α → β × τ) (t0 : τ) (I : τ → Prop) (c : Cz k X) (hi : EvI X Γ μ tg iter (xs.map Datum.toD) (M t0)) (ok : BlkOk X.N X.env.scope scope own) (i0 : I t0)
    (turns : ∀ t x, I t → x ∈ xs → I (st t x).2 ∧ ∃ Γ1, AllB X k scope (fun Z => EvG Z (own.map (·.2)) (wipeG Γ (own.map (·.2))) tg (Datum.toD x) Γ1) ∧ AllB X k scope (fun Z => Ev Z Γ1 (M t) elt (dd (st t x).1) (M (st t x).2))) (hs : ∀ x, foldedSetIterable iter X.env x = pure x := by intro _; rfl) :
    EvB X (.ListComp elt [⟨tg, iter, [], 0⟩] scope pos) (tD X.K Γ μ (fr (runM st t0 xs).1) (M (runM st t0 xs).2)) := by
  have hI : ∀ n, n ≤ xs.length → I (runM st t0 (xs.take n)).2 := fun n => by
    induction n with
    | zero => intro _; simpa [runM] using i0
    | succ n ih =>
      intro hn
      have e := runM_take st xs t0 n xs[n] (List.getElem?_eq_getElem hn)
      rw [e.1]
      exact (turns _ _ (ih (by omega)) (List.getElem_mem hn)).1
  have h := ev_lcG (pos := pos) (elt := elt) (ifs := []) own (fun n => M (runM st t0 (xs.take n)).2) (fun n => ((runM st t0 xs).1[n]?).map Datum.toD) c (by simpa [runM] using hi) ok (fun i d hd => ?_) hs
  · rw [List.length_map, List.take_length] at h
    have e : outs (fun n => ((runM st t0 xs).1[n]?).map Datum.toD) xs.length = (runM st t0 xs).1.map Datum.toD := by
      have key : ∀ (ys : List β), outs (fun n => (ys[n]?).map Datum.toD) ys.length = ys.map Datum.toD := fun ys => by
        suffices h : ∀ n, n ≤ ys.length → outs (fun n => (ys[n]?).map Datum.toD) n = (ys.take n).map Datum.toD by rw [h _ (Nat.le_refl _), List.take_length]
        intro n
        induction n with
        | zero => intro _; rfl
        | succ n ih =>
          intro hn
          have hlt : n < ys.length := hn
          rw [outs_succ, ih (by omega), List.take_succ, List.getElem?_eq_getElem hlt, List.map_append]
          rfl
      have := key (runM st t0 xs).1
      rw [runM_len] at this
      exact this
    rw [e] at h
    exact h
  · rw [List.getElem?_map] at hd
    cases hx : xs[i]? with
    | none => rw [hx] at hd; cases hd
    | some x =>
      rw [hx] at hd
      cases hd
      have hlt : i < xs.length := (List.getElem?_eq_some_iff.mp hx).1
      have e := runM_take st xs t0 i x hx
      obtain ⟨_, Γ1, h1, h2⟩ := turns _ x (hI i (by omega)) (List.mem_of_getElem? hx)
      refine ⟨Γ1, true, _, h1.at c, fun _ _ _ _ _ => ts_nil, fun h => (by cases h), fun _ => ⟨_, (by rw [e.2]; rfl), ?_⟩⟩
      rw [e.1]
      exact h2.at c
/-- untyped, without tests -/
theorem lcD {elt iter : Expr} {scope : Scope} (own : List (Str × Nat)) (xs zs : List PyData) (hl : zs.length = xs.length) (c : Cz k X) (hi : EvI X Γ μ tg iter xs μ1) (ok : BlkOk X.N X.env.scope scope own)
    (turns : ∀ (i : Nat) (d y : PyData), xs[i]? = some d → zs[i]? = some y → ∃ Γ1, AllB X k scope (fun Z => EvG Z (own.map (·.2)) (wipeG Γ (own.map (·.2))) tg d Γ1) ∧ AllB X k scope (fun Z => Ev Z Γ1 μ1 elt (.dat y) μ1)) (hs : ∀ x, foldedSetIterable iter X.env x = pure x := by intro _; rfl) :
    EvB X (.ListComp elt [⟨tg, iter, [], 0⟩] scope pos) (tD X.K Γ μ (.fre zs) μ1) := by
  have e : outs (fun i : Nat => zs[i]?) zs.length = zs := by
    suffices h : ∀ n, n ≤ zs.length → outs (fun i : Nat => zs[i]?) n = zs.take n by rw [h _ (Nat.le_refl _), List.take_length]
    intro n
    induction n with
    | zero => intro _; rfl
    | succ n ih =>
      intro hn
      have hlt : n < zs.length := hn
      rw [outs_succ, ih (by omega), List.take_succ, List.getElem?_eq_getElem hlt]
  have h := ev_lcG (pos := pos) (elt := elt) (ifs := []) own (fun _ => μ1) (fun i : Nat => zs[i]?) c hi ok (fun i d hd => ?_) hs
  · rw [← hl, e] at h
    exact h
  · have hlt : i < zs.length := by rw [hl]; exact (List.getElem?_eq_some_iff.mp hd).1
    obtain ⟨Γ1, h1, h2⟩ := turns i d zs[i] hd (List.getElem?_eq_getElem hlt)
    exact ⟨Γ1, true, μ1, h1.at c, fun _ _ _ _ _ => ts_nil, fun h => (by cases h), fun _ => ⟨_, List.getElem?_eq_getElem hlt, h2.at c⟩⟩
end
end DL
end
section
set_option autoImplicit false
/-! D-layer 15: displays, choices, places in short. -/
namespace DL
open PySem PySem.Spec PyProof.Rows L2
open PySem.W (Datum Tup DatumOrd Holds HoldAll T3)
section
variable {X : Cx} {k : Nat} {Γ Γ1 Γ2 : List Sl} {μ μ1 μ2 μ3 : Mu} {e a b d tg : Expr} {es rest : List Expr} {r ra rb rc : Sl} {pos p p2 pos2 : Pos} {x1 : Nat}
variable {α β γ δ : Type} [DecidableEq α] [Datum α] [DecidableEq β] [Datum β] [DecidableEq γ] [Datum γ] [DecidableEq δ] [Datum δ]
theorem ev_ifD {c : Expr} {q : Bool} {x y : α} (ht : EvT X Γ μ c q μ1) (h1 : q = true → Ev X Γ μ1 a (dd x) μ2) (h2 : q = false → Ev X Γ μ1 b (dd y) μ2) : Ev X Γ μ (.IfExp c a b pos) (dd (if q = true then x else y)) μ2 :=
  ev_if ht (fun h => (h1 h).cast (by rw [if_pos h])) (fun h => (h2 h).cast (by rw [if_neg (by rw [h]; decide)]))
theorem ev_ifF {c : Expr} {q : Bool} {x y : List α} (ht : EvT X Γ μ c q μ1) (h1 : q = true → Ev X Γ μ1 a (fr x) μ2) (h2 : q = false → Ev X Γ μ1 b (fr y) μ2) : Ev X Γ μ (.IfExp c a b pos) (fr (if q = true then x else y)) μ2 :=
  ev_if ht (fun h => (h1 h).cast (by rw [if_pos h])) (fun h => (h2 h).cast (by rw [if_neg (by rw [h]; decide)]))
/-- displays -/
theorem ev_pair {x : α} {y : β} (ha : Ev X Γ μ a (dd x) μ1) (hb : Ev X Γ μ1 b (dd y) μ2) (hs : starEach [a, b] X.env = (false, eval a X.env) :: starEach [b] X.env := by rfl) (hs2 : starEach [b] X.env = (false, eval b X.env) :: starEach [] X.env := by rfl) :
    Ev X Γ μ (.Tuple [a, b] x1 pos) (dd (x, y)) μ2 := ev_tuple (ds := [Datum.toD x, Datum.toD y]) (ea_cons ha (ea_cons hb ea_nil hs2) hs) (by show 2 ≤ 100000; decide)
theorem ev_trip {x : α} {y : β} {z : γ} (ha : Ev X Γ μ a (dd x) μ1) (hb : Ev X Γ μ1 b (dd y) μ2) (hd : Ev X Γ μ2 d (dd z) μ3) (hs : starEach [a, b, d] X.env = (false, eval a X.env) :: starEach [b, d] X.env := by rfl) (hs2 : starEach [b, d] X.env = (false, eval b X.env) :: starEach [d] X.env := by rfl) (hs3 : starEach [d] X.env = (false, eval d X.env) :: starEach [] X.env := by rfl) :
    Ev X Γ μ (.Tuple [a, b, d] x1 pos) (dd (⟨x, y, z⟩ : T3 α β γ)) μ3 := ev_tuple (ds := [Datum.toD x, Datum.toD y, Datum.toD z]) (ea_cons ha (ea_cons hb (ea_cons hd ea_nil hs3) hs2) hs) (by show 3 ≤ 100000; decide)
theorem ev_tup0 : Ev X Γ μ (.Tuple [] x1 pos) (dd (Tup.mk ([] : List α))) μ := ev_tuple (ds := []) ea_nil (by decide)
theorem ev_tup1 {x : α} (ha : Ev X Γ μ a (dd x) μ1) (hs : starEach [a] X.env = (false, eval a X.env) :: starEach [] X.env := by rfl) : Ev X Γ μ (.Tuple [a] x1 pos) (dd (Tup.mk [x])) μ1 := ev_tuple (ds := [Datum.toD x]) (ea_cons ha ea_nil hs) (by show 1 ≤ 100000; decide)
/-- (*t, x) -/
theorem ev_snoc {t : Tup α} {x : α} (ha : Ev X Γ μ a (dd t) μ1) (hb : Ev X Γ μ1 b (dd x) μ2) (hz : t.items.length ≤ 90000) (hs : starEach [.Starred a p, b] X.env = (true, eval a X.env) :: starEach [b] X.env := by rfl) (hs2 : starEach [b] X.env = (false, eval b X.env) :: starEach [] X.env := by rfl) :
    Ev X Γ μ (.Tuple [.Starred a p, b] x1 pos) (dd (Tup.mk (t.items ++ [x]))) μ2 := by
  have h := ev_tuple (pos := pos) (x1 := x1) (ds := t.items.map Datum.toD ++ [Datum.toD x]) (by
    rw [List.map_append]
    exact ea_starT ha (ea_cons hb ea_nil hs2) hs) (by rw [List.length_append, List.length_map]; show t.items.length + 1 ≤ 100000; omega)
  have e : (Datum.toD (Tup.mk (t.items ++ [x]))) = PyData.tuple (t.items.map Datum.toD ++ [Datum.toD x]) := by
    show PyData.tuple ((t.items ++ [x]).map Datum.toD) = _
    rw [List.map_append]
    rfl
  rw [show dd (Tup.mk (t.items ++ [x])) = Sl.dat (Datum.toD (Tup.mk (t.items ++ [x]))) from rfl, e]
  exact h
/-- (*t, *xs) -/
theorem ev_cat2 {t : Tup α} {xs : List α} (ha : Ev X Γ μ a (dd t) μ1) (hb : Ev X Γ μ1 b (dd xs) μ2) (hz : t.items.length + xs.length ≤ 100000) (hs : starEach [.Starred a p, .Starred b p2] X.env = (true, eval a X.env) :: starEach [.Starred b p2] X.env := by rfl) (hs2 : starEach [.Starred b p2] X.env = (true, eval b X.env) :: starEach [] X.env := by rfl) :
    Ev X Γ μ (.Tuple [.Starred a p, .Starred b p2] x1 pos) (dd (Tup.mk (t.items ++ xs))) μ2 := by
  have h := ev_tuple (pos := pos) (x1 := x1) (μ1 := μ2) (Γ := Γ) (μ := μ) (es := [.Starred a p, .Starred b p2]) (ds := t.items.map Datum.toD ++ xs.map Datum.toD) (by
    rw [List.map_append]
    refine ea_starT ha ?_ hs
    have h2 := ea_starL (rs := []) (p := p2) hb ea_nil hs2
    rw [List.append_nil] at h2
    exact h2) (by rw [List.length_append, List.length_map, List.length_map]; exact hz)
  have e : (Datum.toD (Tup.mk (t.items ++ xs))) = PyData.tuple (t.items.map Datum.toD ++ xs.map Datum.toD) := by
    show PyData.tuple ((t.items ++ xs).map Datum.toD) = _
    rw [List.map_append]
  rw [show dd (Tup.mk (t.items ++ xs)) = Sl.dat (Datum.toD (Tup.mk (t.items ++ xs))) from rfl, e]
  exact h
theorem ev_lst0 : Ev X Γ μ (.List [] pos) (fr ([] : List α)) μ := ev_list (ds := []) ea_nil (by decide)
theorem ev_lst1 {x : α} (ha : Ev X Γ μ a (dd x) μ1) (hs : starEach [a] X.env = (false, eval a X.env) :: starEach [] X.env := by rfl) : Ev X Γ μ (.List [a] pos) (fr [x]) μ1 := ev_list (ds := [Datum.toD x]) (ea_cons ha ea_nil hs) (by show 1 ≤ 100000; decide)
/-- [x, *xs] -/
theorem ev_lstC {x : α} {xs : List α} (ha : Ev X Γ μ a (dd x) μ1) (hb : Ev X Γ μ1 b (dd xs) μ2) (hz : xs.length ≤ 90000) (hs : starEach [a, .Starred b p] X.env = (false, eval a X.env) :: starEach [.Starred b p] X.env := by rfl) (hs2 : starEach [.Starred b p] X.env = (true, eval b X.env) :: starEach [] X.env := by rfl) :
    Ev X Γ μ (.List [a, .Starred b p] pos) (fr (x :: xs)) μ2 := by
  refine ev_list (ds := Datum.toD x :: xs.map Datum.toD) ?_ (by rw [List.length_cons, List.length_map]; omega)
  have h2 := ea_starL (rs := []) (p := p) hb ea_nil hs2
  rw [List.append_nil] at h2
  exact ea_cons ha h2 hs
/-- xs[i], i a place -/
theorem ev_ixLD {xs : List α} {n : Nat} {i : Int} (dflt : α) (ha : Ev X Γ μ a ra μ1) (hb : Ev X Γ μ1 b (dd i) μ2) (e : ra.rd μ2 = some (Datum.toD xs)) (hi : i = (n : Int)) (h : n < xs.length) (hs : PlainIx b := by exact fun _ _ => rfl) : Ev X Γ μ (.Subscript a b pos) (dd (xs.getD n dflt)) μ2 :=
  ev_ixLT ha hb e hi (by rw [List.getD_eq_getElem?_getD, List.getElem?_eq_getElem h]; rfl) hs
theorem ev_ixTD {xs : Tup α} {n : Nat} {i : Int} (dflt : α) (ha : Ev X Γ μ a (dd xs) μ1) (hb : Ev X Γ μ1 b (dd i) μ2) (hi : i = (n : Int)) (h : n < xs.items.length) (hs : PlainIx b := by exact fun _ _ => rfl) : Ev X Γ μ (.Subscript a b pos) (dd (xs.items.getD n dflt)) μ2 :=
  ev_ixTT ha hb hi (by rw [List.getD_eq_getElem?_getD, List.getElem?_eq_getElem h]; rfl) hs
/-- if c: (returns); rest -/
theorem ss_ifr {c : Expr} {q : Bool} {x y : Sl} {ss tt : List Stmt} {μ4 : Mu} (hc : EvT X Γ μ c q μ1) (h1 : q = true → SsD X Γ μ1 ss (.rt x μ4)) (h2 : q = false → SsD X Γ μ1 tt (.rt y μ4)) : SsD X Γ μ (.If c ss [] pos :: tt) (.rt (if q = true then x else y) μ4) := by
  cases q with
  | true => exact ss_end (st_if hc (fun _ => h1 rfl) (fun h => by cases h))
  | false => exact ss_cons (st_if hc (fun h => by cases h) (fun _ => ss_nil)) (h2 rfl)
theorem ss_ifD {c : Expr} {q : Bool} {x y : α} {ss tt : List Stmt} {μ4 : Mu} (hc : EvT X Γ μ c q μ1) (h1 : q = true → SsD X Γ μ1 ss (.rt (dd x) μ4)) (h2 : q = false → SsD X Γ μ1 tt (.rt (dd y) μ4)) : SsD X Γ μ (.If c ss [] pos :: tt) (.rt (dd (if q = true then x else y)) μ4) := by
  cases q with
  | true => exact ss_end (st_if hc (fun _ => h1 rfl) (fun h => by cases h))
  | false => exact ss_cons (st_if hc (fun h => by cases h) (fun _ => ss_nil)) (h2 rfl)
/-- if c: raise ..; c is false -/
theorem st_ifno {c : Expr} {q : Bool} {ss : List Stmt} (hc : EvT X Γ μ c q μ1) (h : q = false) : StD X Γ μ (.If c ss [] pos) (.nx Γ μ1) := by
  subst h
  exact st_if hc (fun h => by cases h) (fun _ => ss_nil)
end
end DL
end
section
set_option autoImplicit false
/-! D-layer 16: loops and mutable lists, typed. -/
namespace DL
open PySem PySem.Spec PyProof.Rows L2
open PySem.W (Datum Tup DatumOrd Holds HoldAll T3)
section
variable {X : Cx} {k : Nat} {Γ Γ1 Γ2 : List Sl} {μ μ1 μ2 μ3 : Mu} {e a b d tg : Expr} {es rest : List Expr} {r ra rb rc : Sl} {pos p p2 pos2 : Pos} {x1 n : Nat} {ss tt body : List Stmt} {o : Out}
variable {α β γ δ : Type} [DecidableEq α] [Datum α] [DecidableEq β] [Datum β] [DecidableEq γ] [Datum γ] [DecidableEq δ] [Datum δ]
theorem foldl_take {τ : Type} (step : τ → α → τ) (t0 : τ) (xs : List α) (i : Nat) (x : α) (h : xs[i]? = some x) : (xs.take (i + 1)).foldl step t0 = step ((xs.take i).foldl step t0) x := by
  rw [List.take_succ, h, List.foldl_append]
  rfl
/-- a loop that folds -/
theorem st_fold {τ : Type} {iter : Expr} (vs : List Nat) (xs : List α) (step : τ → α → τ) (t0 : τ) (G : τ → List Sl) (M : τ → Mu) (I : Nat → τ → Prop) (c : Cz k X) (hi : EvI X Γ μ tg iter (xs.map Datum.toD) μ1) (i0 : I 0 t0) (h0 : Fits Γ (G t0)) (hm : M t0 = μ1)
    (turn : ∀ i t x, xs[i]? = some x → I i t → I (i + 1) (step t x) ∧ ∃ Γt o, EvG X vs (G t) tg (Datum.toD x) Γt ∧ SsD X Γt (M t) body o ∧ Goes o (G (step t x)) (M (step t x)))
    (hx : X.xe = fun _ _ => False := by rfl) (hs : ∀ x, foldedSetIterable iter X.env x = pure x := by intro _; rfl) : StD X Γ μ (.For tg iter body [] pos) (.nx (G (xs.foldl step t0)) (M (xs.foldl step t0))) := by
  have hI : ∀ i, i ≤ xs.length → I i ((xs.take i).foldl step t0) := fun i => by
    induction i with
    | zero => intro _; exact i0
    | succ i ih =>
      intro hn
      rw [foldl_take step t0 xs i xs[i] (List.getElem?_eq_getElem hn)]
      exact (turn i _ _ (List.getElem?_eq_getElem hn) (ih (by omega))).1
  refine st_for vs (fun i => (G ((xs.take i).foldl step t0), M ((xs.take i).foldl step t0))) xs.length c hx hi h0 hm (by rw [List.length_map]; exact Nat.le_refl _) (fun i d hi hd => ?_) (.inl ⟨by rw [List.length_map], by rw [List.take_length]⟩) hs
  rw [List.getElem?_map, List.getElem?_eq_getElem hi] at hd
  cases hd
  have e := List.getElem?_eq_getElem hi
  obtain ⟨_, Γt, o, h1, h2, h3⟩ := turn i _ _ e (hI i (by omega))
  show ∃ Γt o, _ ∧ _ ∧ Goes o (G ((xs.take (i + 1)).foldl step t0)) (M ((xs.take (i + 1)).foldl step t0))
  rw [foldl_take step t0 xs i _ e]
  exact ⟨Γt, o, h1, h2, h3⟩
/-- a loop that looks for an item, and returns -/
theorem ss_seek {iter : Expr} (vs : List Nat) (xs : List α) (q : α → Bool) (x y : Sl) (G : List Sl) (c : Cz k X) (hi : EvI X Γ μ tg iter (xs.map Datum.toD) μ1) (h0 : Fits Γ G)
    (turn : ∀ z ∈ xs, ∃ Γt, EvG X vs G tg (Datum.toD z) Γt ∧ (q z = true → SsD X Γt μ1 body (.rt x μ1)) ∧ (q z = false → ∃ o, SsD X Γt μ1 body o ∧ Goes o G μ1)) (hr : xs.any q = false → SsD X G μ1 tt (.rt y μ1))
    (hx : X.xe = fun _ _ => False := by rfl) (hs : ∀ x, foldedSetIterable iter X.env x = pure x := by intro _; rfl) : SsD X Γ μ (.For tg iter body [] pos :: tt) (.rt (if xs.any q = true then x else y) μ1) := by
  have going : ∀ (n : Nat), (∀ i z, i < n → xs[i]? = some z → q z = false) → ∀ (i : Nat) (d : PyData), i < n → (xs.map Datum.toD)[i]? = some d → ∃ Γt o, EvG X vs G tg d Γt ∧ SsD X Γt μ1 body o ∧ Goes o G μ1 := fun n h i d hi hd => by
    rw [List.getElem?_map] at hd
    cases hz : xs[i]? with
    | none => rw [hz] at hd; cases hd
    | some z =>
      rw [hz] at hd
      cases hd
      obtain ⟨Γt, h1, _, h3⟩ := turn z (List.mem_of_getElem? hz)
      obtain ⟨o, g1, g2⟩ := h3 (h i z hi hz)
      exact ⟨Γt, o, h1, g1, g2⟩
  by_cases hq : xs.any q = true
  · rw [if_pos hq]
    -- the first that is found
    have first : ∃ (n : Nat) (z : α), xs[n]? = some z ∧ q z = true ∧ ∀ i z, i < n → xs[i]? = some z → q z = false := by
      clear hi turn going hr hs
      induction xs with
      | nil => simp at hq
      | cons u us ih =>
        by_cases hu : q u = true
        · exact ⟨0, u, rfl, hu, fun i z hi _ => by omega⟩
        · rw [List.any_cons] at hq
          have hu' : q u = false := by simpa using hu
          rw [hu', Bool.false_or] at hq
          obtain ⟨n, z, h1, h2, h3⟩ := ih hq
          refine ⟨n + 1, z, by simpa using h1, h2, fun i z hi hz => ?_⟩
          cases i with
          | zero => cases hz; exact hu'
          | succ i => exact h3 i z (by omega) (by simpa using hz)
    obtain ⟨n, z, h1, h2, h3⟩ := first
    have hlt : n < xs.length := (List.getElem?_eq_some_iff.mp h1).1
    obtain ⟨Γt, g1, g2, _⟩ := turn z (List.mem_of_getElem? h1)
    exact ss_end (st_for vs (fun _ => (G, μ1)) n c hx hi h0 rfl (by rw [List.length_map]; omega) (going n h3) (.inr ⟨Datum.toD z, Γt, x, μ1, by rw [List.getElem?_map, h1]; rfl, g1, g2 h2, rfl⟩) hs)
  · rw [if_neg hq]
    have hq' : xs.any q = false := by simpa using hq
    refine ss_cons (st_for vs (fun _ => (G, μ1)) xs.length c hx hi h0 rfl (by rw [List.length_map]; exact Nat.le_refl _) (going xs.length fun i z _ hz => ?_) (.inl ⟨by rw [List.length_map], rfl⟩) hs) (hr hq')
    rw [List.any_eq_false] at hq'
    simpa using hq' z (List.mem_of_getElem? hz)
theorem Ev.castM (h : Ev X Γ μ e r μ1) (q : μ1 = μ2) : Ev X Γ μ e r μ2 := q ▸ h
/-- a cell of typed items -/
abbrev cl (xs : List α) : Option (List PyData) := some (xs.map Datum.toD)
theorem ev_appendT {apos : Pos} {xs ys : List α} {x : α} (ho : Ev X Γ μ a (.cel n) μ1) (he : Ev X Γ μ1 e (dd x) μ2) (hx1 : μ1[n]? = some (cl ys)) (hx : μ2[n]? = some (cl xs)) (hz : xs.length ≤ 100000)
    (hbase : attributeBase a "append" X.env (eval a X.env) = eval a X.env := by rfl) (hline : (apos.endLine == pos.line) = true := by rfl) (hs : starEach [e] X.env = (false, eval e X.env) :: starEach [] X.env := by rfl)
    (hfew : ((backTo pos (starEach [e] X.env)).all (fun x => !x.1) && (backToKw pos (keywordEach [] X.env)).all (fun x => x.1.isSome)
      && decide ([e].length + ([] : List Keyword).length + (if ([] : List Keyword).isEmpty then 0 else 1) < 30)) = true := by rfl) :
    Ev X Γ μ (.Call (.Attribute a "append" apos) [e] [] pos) (dd ()) (μ2.set n (cl (xs ++ [x]))) :=
  (ev_append ho he ⟨_, hx1⟩ hx (by rw [List.length_map]; exact hz) hbase hline hs hfew).castM (by rw [show cl (xs ++ [x]) = some (xs.map Datum.toD ++ [Datum.toD x]) by rw [← List.map_singleton, ← List.map_append]])
theorem ev_popT {apos : Pos} {xs : List α} {x : α} (ho : Ev X Γ μ a (.cel n) μ) (hx : μ[n]? = some (cl (xs ++ [x])))
    (hbase : attributeBase a "pop" X.env (eval a X.env) = eval a X.env := by rfl) (hline : (apos.endLine == pos.line) = true := by rfl) :
    Ev X Γ μ (.Call (.Attribute a "pop" apos) [] [] pos) (dd x) (μ.set n (cl xs)) := ev_pop ho (by rw [hx, cl, List.map_append]; rfl) hbase hline
theorem erase_map (f : α → β) : ∀ (xs : List α) (j : Nat), (xs.map f).eraseIdx j = (xs.eraseIdx j).map f
  | [], j => by simp
  | x :: xs, 0 => rfl
  | x :: xs, j + 1 => by
    show f x :: (xs.map f).eraseIdx j = f x :: (xs.eraseIdx j).map f
    rw [erase_map f xs j]
theorem erase_mapD (xs : List α) (j : Nat) : (xs.map Datum.toD).eraseIdx j = (xs.eraseIdx j).map Datum.toD := by
  induction xs generalizing j with
  | nil => simp
  | cons x xs ih =>
    cases j with
    | zero => rfl
    | succ j =>
      show Datum.toD x :: (xs.map Datum.toD).eraseIdx j = Datum.toD x :: (xs.eraseIdx j).map Datum.toD
      rw [ih j]
theorem ev_popAtT {apos : Pos} {j : Nat} {jj : Int} {xs ys : List α} (dflt : α) (ho : Ev X Γ μ a (.cel n) μ1) (he : Ev X Γ μ1 e (dd jj) μ2) (hx1 : μ1[n]? = some (cl ys)) (hx : μ2[n]? = some (cl xs)) (hj : jj = (j : Int)) (hd : j < xs.length) (hz : xs.length ≤ 100000)
    (hbase : attributeBase a "pop" X.env (eval a X.env) = eval a X.env := by rfl) (hline : (apos.endLine == pos.line) = true := by rfl) (hs : starEach [e] X.env = (false, eval e X.env) :: starEach [] X.env := by rfl)
    (hfew : ((backTo pos (starEach [e] X.env)).all (fun x => !x.1) && (backToKw pos (keywordEach [] X.env)).all (fun x => x.1.isSome)
      && decide ([e].length + ([] : List Keyword).length + (if ([] : List Keyword).isEmpty then 0 else 1) < 30)) = true := by rfl) :
    Ev X Γ μ (.Call (.Attribute a "pop" apos) [e] [] pos) (dd (xs.getD j dflt)) (μ2.set n (cl (xs.eraseIdx j))) :=
  (ev_popAt (d := Datum.toD (xs.getD j dflt)) ho he ⟨_, hx1⟩ hx hj (by rw [List.getElem?_map, List.getElem?_eq_getElem hd, List.getD_eq_getElem?_getD, List.getElem?_eq_getElem hd]; rfl) (by rw [List.length_map]; exact hz) hbase hline hs hfew).castM (by rw [cl, erase_mapD])
theorem st_setixT {j : Nat} {jj : Int} {xs : List α} {x : α} (hv : Ev X Γ μ b (dd x) μ1) (ho : Ev X Γ μ1 a (.cel n) μ2) (he : Ev X Γ μ2 e (dd jj) μ3) (hx : μ3[n]? = some (cl xs)) (hj : jj = (j : Int)) (hd : j < xs.length)
    (ha : ∀ v, assign (.Subscript a e p2) X.env v = (do
      let ov ← holding [v] (eval a X.env)
      let iv ← holding [v, ov] (eval e X.env)
      standAt p2
      holding [v, ov, iv] (setItem ov iv v)
      release [v, ov, iv] []) := by intro _; rfl) (hs : swapsWithSole [.Subscript a e p2] b pos.line X.env = pure false := by rfl) (hw : swappedStores [.Subscript a e p2] b X.env = pure none := by rfl)
    (h1 : (assignEach [.Subscript a e p2] X.env).map (·.2) = [assign (.Subscript a e p2) X.env] := by rfl) : StD X Γ μ (.Assign [.Subscript a e p2] b pos) (.nx Γ (μ3.set n (cl (xs.set j x)))) := by
  have h := st_setix (pos := pos) (p2 := p2) hv ho he hx hj (by rw [List.length_map]; exact hd) ha hs hw h1
  rw [← List.map_set] at h
  exact h
/-- if without else, of one outcome -/
theorem st_ifn {cd : Expr} {q : Bool} {μ4 : Mu} (hc : EvT X Γ μ cd q μ1) (h1 : q = true → ∃ Γ', SsD X Γ μ1 ss (.nx Γ' μ4) ∧ Fits Γ' Γ2) (h2 : q = false → μ1 = μ4 ∧ Fits Γ Γ2) : StD X Γ μ (.If cd ss [] pos) (.nx Γ2 μ4) := by
  refine st_if hc (fun h => ?_) (fun h => ?_)
  · obtain ⟨Γ', h3, f⟩ := h1 h
    exact ss_app h3 f
  · obtain ⟨h3, f⟩ := h2 h
    subst h3
    exact ss_app ss_nil f
/-- if c: writes at the list number n -/
theorem st_ifC {cd : Expr} {q : Bool} {xs ys : List α} {Γ' : List Sl} (hc : EvT X Γ μ cd q μ) (hx : μ[n]? = some (cl xs)) (h1 : q = true → SsD X Γ μ ss (.nx Γ' (μ.set n (cl ys)))) (f : Fits Γ' Γ) : StD X Γ μ (.If cd ss [] pos) (.nx Γ (μ.set n (cl (if q = true then ys else xs)))) := by
  cases q with
  | true => exact st_ifn hc (fun h => ⟨Γ', h1 h, f⟩) (fun h => by cases h)
  | false => exact st_ifn hc (fun h => by cases h) (fun _ => ⟨by
      rw [if_neg (by decide)]
      refine List.ext_getElem? fun j => ?_
      by_cases hj : n = j
      · subst hj
        rw [hx, List.getElem?_set_self (List.getElem?_eq_some_iff.mp hx).1]
      · rw [List.getElem?_set_ne hj], Fits.refl⟩)
theorem ss_seekD {iter : Expr} (vs : List Nat) (xs : List α) (q : α → Bool) (x y : β) (G : List Sl) (c : Cz k X) (hi : EvI X Γ μ tg iter (xs.map Datum.toD) μ1) (h0 : Fits Γ G)
    (turn : ∀ z ∈ xs, ∃ Γt, EvG X vs G tg (Datum.toD z) Γt ∧ (q z = true → SsD X Γt μ1 body (.rt (dd x) μ1)) ∧ (q z = false → ∃ o, SsD X Γt μ1 body o ∧ Goes o G μ1)) (hr : xs.any q = false → SsD X G μ1 tt (.rt (dd y) μ1))
    (hx : X.xe = fun _ _ => False := by rfl) (hs : ∀ x, foldedSetIterable iter X.env x = pure x := by intro _; rfl) : SsD X Γ μ (.For tg iter body [] pos :: tt) (.rt (dd (if xs.any q = true then x else y)) μ1) := by
  have h := ss_seek (pos := pos) vs xs q (dd x) (dd y) G c hi h0 turn hr hx hs
  have e : dd (if xs.any q = true then x else y) = (if xs.any q = true then dd x else dd y) := by split <;> rfl
  rw [e]
  exact h
end
end DL
end
section
set_option autoImplicit false
/-! Contracts 0: shapes of promises; the first defs. -/
namespace CL
open PySem PySem.Spec PyProof.Rows L2 DL
open PySem.W (Datum Tup DatumOrd Holds HoldAll T3)
abbrev Rules := Tup Str × Tup (Tup Str)
section
variable {α β γ δ : Type} [DecidableEq α] [Datum α] [DecidableEq β] [Datum β] [DecidableEq γ] [Datum γ] [DecidableEq δ] [Datum δ]
/-- promises of defs that leave all as it is -/
def P1 (pre : α → Prop) (f : α → Sl) : Rel := fun rs μ r μ' => ∃ a, pre a ∧ rs = [dd a] ∧ μ = [] ∧ r = f a ∧ μ' = []
def P2 (pre : α → β → Prop) (f : α → β → Sl) : Rel := fun rs μ r μ' => ∃ a b, pre a b ∧ rs = [dd a, dd b] ∧ μ = [] ∧ r = f a b ∧ μ' = []
def P3 (pre : α → β → γ → Prop) (f : α → β → γ → Sl) : Rel := fun rs μ r μ' => ∃ a b c, pre a b c ∧ rs = [dd a, dd b, dd c] ∧ μ = [] ∧ r = f a b c ∧ μ' = []
def P4 (pre : α → β → γ → δ → Prop) (f : α → β → γ → δ → Sl) : Rel := fun rs μ r μ' => ∃ a b c d, pre a b c d ∧ rs = [dd a, dd b, dd c, dd d] ∧ μ = [] ∧ r = f a b c d ∧ μ' = []
theorem P1.go {pre : α → Prop} {f : α → Sl} {a : α} (h : pre a) : P1 pre f [dd a] [] (f a) [] := ⟨a, h, rfl, rfl, rfl, rfl⟩
theorem P2.go {pre : α → β → Prop} {f : α → β → Sl} {a : α} {b : β} (h : pre a b) : P2 pre f [dd a, dd b] [] (f a b) [] := ⟨a, b, h, rfl, rfl, rfl, rfl⟩
theorem P3.go {pre : α → β → γ → Prop} {f : α → β → γ → Sl} {a : α} {b : β} {c : γ} (h : pre a b c) : P3 pre f [dd a, dd b, dd c] [] (f a b c) [] := ⟨a, b, c, h, rfl, rfl, rfl, rfl⟩
theorem P4.go {pre : α → β → γ → δ → Prop} {f : α → β → γ → δ → Sl} {a : α} {b : β} {c : γ} {d : δ} (h : pre a b c d) : P4 pre f [dd a, dd b, dd c, dd d] [] (f a b c d) [] := ⟨a, b, c, d, h, rfl, rfl, rfl, rfl⟩
end
section
variable {P : Program} {w : World} {K : PySem.W.Frag} {mg : Str → Option Value} {base : Heap}
abbrev Def (K : PySem.W.Frag) (mg : Str → Option Value) (x : Str) (st : Stmt) : Prop := ∃ f fd, FnP K x st f fd ∧ mg x = some (.ref f)
end
end CL
end
section
set_option autoImplicit false
/-! Contracts 1: what the defs see; tupled. -/
namespace CL
open PySem PySem.Spec PyProof.Rows L2 DL
open PySem.W (Datum Tup DatumOrd Holds HoldAll T3)
mutual
/-- nested tuples of plain things, n deep -/
def flatT : Nat → PyData → Bool
  | n + 1, .tuple xs => flatTs n xs
  | _, .str _ => true
  | _, .int _ => true
  | _, .bool _ => true
  | _, _ => false
def flatTs : Nat → List PyData → Bool
  | _, [] => true
  | n, x :: xs => flatT n x && flatTs n xs
end
def R_tupled (n : Nat) : Rel := fun rs μ r μ' => ∃ d, flatT n d = true ∧ rs = [.dat d] ∧ μ = [] ∧ r = .dat d ∧ μ' = []
theorem flatTs_map {α : Type} [DecidableEq α] [Datum α] {n : Nat} (h : ∀ x : α, flatT n (Datum.toD x) = true) : ∀ xs : List α, flatTs n (xs.map Datum.toD) = true
  | [] => by simp [flatTs]
  | x :: xs => by rw [List.map_cons, flatTs, h x, flatTs_map h xs]; rfl
theorem flat_S (n : Nat) (x : Str) : flatT n (Datum.toD x) = true := by cases n <;> rfl
theorem flat_I (n : Nat) (x : Int) : flatT n (Datum.toD x) = true := by cases n <;> rfl
theorem flat_T {α : Type} [DecidableEq α] [Datum α] {n : Nat} (h : ∀ x : α, flatT n (Datum.toD x) = true) (t : Tup α) : flatT (n + 1) (Datum.toD t) = true := by
  show flatTs n (t.items.map Datum.toD) = true
  exact flatTs_map h t.items
theorem flat_P {α β : Type} [DecidableEq α] [Datum α] [DecidableEq β] [Datum β] {n : Nat} (h : ∀ x : α, flatT n (Datum.toD x) = true) (h2 : ∀ x : β, flatT n (Datum.toD x) = true) (t : α × β) : flatT (n + 1) (Datum.toD t) = true := by
  show flatTs n [Datum.toD t.1, Datum.toD t.2] = true
  rw [flatTs, flatTs, flatTs, h, h2]
  rfl
theorem flatTs_get : ∀ {n : Nat} {xs : List PyData} {i : Nat} {d : PyData}, flatTs n xs = true → xs[i]? = some d → flatT n d = true
  | _, [], _, _, _, e => by simp at e
  | n, x :: xs, 0, d, h, e => by
    rw [flatTs, Bool.and_eq_true] at h
    cases e
    exact h.1
  | n, x :: xs, i + 1, d, h, e => by
    rw [flatTs, Bool.and_eq_true] at h
    exact flatTs_get h.2 (by simpa using e)
theorem R_tupled.go {α : Type} [DecidableEq α] [Datum α] {n : Nat} (h : ∀ x : α, flatT n (Datum.toD x) = true) (x : α) : R_tupled n [dd x] [] (dd x) [] := ⟨_, h x, rfl, rfl, rfl, rfl⟩
structure Wld (P : Program) (w : World) (K : PySem.W.Frag) (mg : Str → Option Value) (base : Heap) : Prop where
  g : Glb mg
  d_is_number : Def K mg "is_number" s_is_number
  d_tupled : Def K mg "tupled" s_tupled
  d_are_numbers : Def K mg "are_numbers" s_are_numbers
  d_is_demands : Def K mg "is_demands" s_is_demands
  d_check_kind : Def K mg "check_kind" s_check_kind
  d_check_group : Def K mg "check_group" s_check_group
  d_groups_with : Def K mg "groups_with" s_groups_with
  d_place_of : Def K mg "place_of" s_place_of
  d_limit_of : Def K mg "limit_of" s_limit_of
  d_own_kinds : Def K mg "own_kinds" s_own_kinds
  d_open_sets : Def K mg "open_sets" s_open_sets
  d_with_name : Def K mg "with_name" s_with_name
  d_all_bare : Def K mg "all_bare" s_all_bare
  d_greatest_bare : Def K mg "greatest_bare" s_greatest_bare
  d_bare_number : Def K mg "bare_number" s_bare_number
  d_factors : Def K mg "factors" s_factors
  d_factor : Def K mg "factor" s_factor
  d_worst_kinds : Def K mg "worst_kinds" s_worst_kinds
  d_worst_case : Def K mg "worst_case" s_worst_case
  d_least_served : Def K mg "least_served" s_least_served
  d_greatest_most : Def K mg "greatest_most" s_greatest_most
  d_loads : Def K mg "loads" s_loads
  d_left_in : Def K mg "left_in" s_left_in
  d_keeps : Def K mg "keeps" s_keeps
  d_full_groups : Def K mg "full_groups" s_full_groups
  d_size_of : Def K mg "size_of" s_size_of
  d_all_lots : Def K mg "all_lots" s_all_lots
  d_open_groups : Def K mg "open_groups" s_open_groups
  d_served : Def K mg "served" s_served
  d_end_of : Def K mg "end_of" s_end_of
  d_is_shut : Def K mg "is_shut" s_is_shut
  d_is_end : Def K mg "is_end" s_is_end
  d_all_ends : Def K mg "all_ends" s_all_ends
  d_end_sizes : Def K mg "end_sizes" s_end_sizes
  d_most : Def K mg "most" s_most
  d_table_of : Def K mg "table_of" s_table_of
  d_bound_by : Def K mg "bound_by" s_bound_by
  d_sets_of : Def K mg "sets_of" s_sets_of
  d_bound_groups : Def K mg "bound_groups" s_bound_groups
  d_least_bound : Def K mg "least_bound" s_least_bound
  d_do_cross : Def K mg "do_cross" s_do_cross
  d_crossing : Def K mg "crossing" s_crossing
  d_is_nested : Def K mg "is_nested" s_is_nested
  d_all_sure : Def K mg "all_sure" s_all_sure
  d_demand_of : Def K mg "demand_of" s_demand_of
  d_is_barred_by : Def K mg "is_barred_by" s_is_barred_by
  d_barring_lots : Def K mg "barring_lots" s_barring_lots
  d_sure_in : Def K mg "sure_in" s_sure_in
  d_most_in : Def K mg "most_in" s_most_in
  d_spans_of : Def K mg "spans_of" s_spans_of
  d_law_box : Def K mg "_law_box" s__law_box
  d_law_take : Def K mg "_law_take" s__law_take
  d_law_cells : Def K mg "_law_cells" s__law_cells
  d_law_of : Def K mg "_law_of" s__law_of
  d_law_pick : Def K mg "_law_pick" s__law_pick
  d_law_same : Def K mg "_law_same" s__law_same
  d_law_rules : Def K mg "_law_rules" s__law_rules
  d_law_load : Def K mg "_law_load" s__law_load
  d_law_shut : Def K mg "_law_shut" s__law_shut
  d_law_more : Def K mg "_law_more" s__law_more
  d_law_keeps : Def K mg "_law_keeps" s__law_keeps
  d_law_served : Def K mg "_law_served" s__law_served
  d_law_lots : Def K mg "_law_lots" s__law_lots
  d_law_ends : Def K mg "_law_ends" s__law_ends
  d_law_sets : Def K mg "_law_sets" s__law_sets
  d_law_open : Def K mg "_law_open" s__law_open
  d_law_bare : Def K mg "_law_bare" s__law_bare
  d_law_crossing : Def K mg "_law_crossing" s__law_crossing
  d_law_worst_right : Def K mg "_law_worst_right" s__law_worst_right
  d_law_all_right : Def K mg "_law_all_right" s__law_all_right
  d_law_factor_right : Def K mg "_law_factor_right" s__law_factor_right
  d_law_by_hand_right : Def K mg "_law_by_hand_right" s__law_by_hand_right
  d_law_case_right : Def K mg "_law_case_right" s__law_case_right
  d_law_right : Def K mg "_law_right" s__law_right
  d_law : Def K mg "law" s_law
  tab : LamX.TabB base mg (codeOf K) (tabOf K)
  adr : ∃ fd, FnP K "sets_of" s_sets_of (He.fAd K ("sets_of", none)) fd ∧ mg "sets_of" = some (.ref (He.fAd K ("sets_of", none)))
section
variable {P : Program} {w : World} {K : PySem.W.Frag} {mg : Str → Option Value} {base : Heap}
/-! ### tupled -/
def N_tupled : List Str := ["value", "part"]
theorem sc_tupled : FnScope N_tupled ["value"] (defScope s_tupled) := ⟨rfl, rfl, rfl, by decide +kernel, rfl, by decide +kernel, by decide +kernel⟩
theorem has_tupled (W : Wld P w K mg base) : ∀ n : Nat, Has P w K mg base (n + 1) "tupled" (R_tupled n) := by
  intro n
  induction n with
  | zero =>
    refine has_of (k := 0) W.g W.d_tupled sc_tupled (fun _ _ _ _ _ _ us hl => match us, hl with | [_], _ => rfl) (fun rs μ r μ' h => by obtain ⟨a, _, h, _⟩ := h; rw [h]; rfl) ?_
    rintro f cdv A outer s H E rs μ r μ' c ⟨d, hp, rfl, rfl, rfl, rfl⟩
    have hk : (kitT (tyOf d) "list" || kitT (tyOf d) "tuple") = false := by
      cases d with
      | str x => rfl
      | int x => rfl
      | bool x => rfl
      | _ => simp [flatT] at hp
    exact ⟨_, ss_one (st_ret (ev_if (r := .dat d) (et_val (ev_is2 c (ev_name 0) rfl bt_list bt_tuple c.b_list c.b_tuple)) (fun h => by rw [hk] at h; cases h) (fun _ => ev_name 0))), .rt .dat⟩
  | succ n ih =>
    refine has_of (k := n + 1) W.g W.d_tupled sc_tupled (fun _ _ _ _ _ _ us hl => match us, hl with | [_], _ => rfl) (fun rs μ r μ' h => by obtain ⟨a, _, h, _⟩ := h; rw [h]; rfl) ?_
    rintro f cdv A outer s H E rs μ r μ' c ⟨d, hp, rfl, rfl, rfl, rfl⟩
    by_cases ht : ∃ xs, d = .tuple xs
    · obtain ⟨xs, rfl⟩ := ht
      have hx : flatTs n xs = true := hp
      exact ⟨_, ss_one (st_ret (ev_if (r := .dat (.tuple xs)) (et_val (ev_is2 c (ev_name 0) rfl bt_list bt_tuple c.b_list c.b_tuple)) (fun _ => ev_ct (c_tupleD (ds := xs) rfl) c.b_tuple (ea_cons (EvB.pe (lcD [("part", 1)] xs xs rfl c (ei_tup (ev_name 0)) (blkOk_by (by kernel_rfl)) (fun i d y hd hy => ⟨_, fun _ c => eg_name c 1, fun _ c => ev_call ih c (ea_cons (ev_name 1) ea_nil) ⟨y, flatTs_get hx hy, (by rw [hd] at hy; cases hy; rfl), rfl, rfl, rfl⟩ (hjk := Nat.le_refl _)⟩))) ea_nil)) (fun h => by cases h))), .rt .dat⟩
    · have hk : (kitT (tyOf d) "list" || kitT (tyOf d) "tuple") = false := by
        cases d with
        | tuple xs => exact absurd ⟨xs, rfl⟩ ht
        | str x => rfl
        | int x => rfl
        | bool x => rfl
        | _ => simp [flatT] at hp
      exact ⟨_, ss_one (st_ret (ev_if (r := .dat d) (et_val (ev_is2 c (ev_name 0) rfl bt_list bt_tuple c.b_list c.b_tuple)) (fun h => by rw [hk] at h; cases h) (fun _ => ev_name 0))), .rt .dat⟩
theorem h_tupled (W : Wld P w K mg base) : Has P w K mg base 4 "tupled" (R_tupled 3) := has_tupled W 3
/-! tupled, of a tuple, told with its object -/
theorem ef_if {X : Cx} {Γ : List Sl} {μ μ1 μ2 : Mu} {cd a b : Expr} {pos : Pos} {ds : List PyData} (ht : EvT X Γ μ cd true μ1) (h : EvF X Γ μ1 a ds μ2) : EvF X Γ μ (.IfExp cd a b pos) ds μ2 := pe_le (pe_ifExp ht h pe_false) fun σ H Q q => by
  obtain ⟨F, as, c, s, kk⟩ := q
  exact ⟨F, as, c, s, fun F1 H1 st1 c1 => iteT ⟨F1, as, c1, s.mono st1, fun A o us F2 H2 st2 c2 hF ho hd => kk A o us F2 H2 (st1.trans st2) c2 hF ho hd⟩⟩
def spF (K : PySem.W.Frag) : Sp := fun vs H Q E => ∃ F v xs, flatTs 2 xs = true ∧ vs = [v] ∧ Clz K F H [] [] ∧ Dp K F v (.tuple xs) ∧ ∀ A o us F' H', Step [] F H F' H' → Clz K F' H' [] [] → F' A = some (.frz o (.tup us)) → o.dict = none → DpAll K F' us xs → Q (.ref A) H'
theorem f_tupled (W : Wld P w K mg base) : ∃ f fd, FnOk P w K mg base CX0 5 f fd ["value"] (spF K) ∧ mg "tupled" = some (.ref f) ∧ PySem.W.keepIn K (.ref f) = true ∧ Binds K fd ["value"] [] := by
  obtain ⟨f, fd, F, hm⟩ := W.d_tupled
  refine ⟨f, fd, F.ok (k := 4) sc_tupled (fun vs H Q E h => ?_) (fun cdv A outer s H vs Q E hr h => ?_), hm, F.kp, F.bindsN fun _ _ _ _ _ _ us hl => match us, hl with | [_], _ => rfl⟩
  · obtain ⟨_, _, _, _, rfl, _⟩ := h
    rfl
  · obtain ⟨F0, v, xs, hx, rfl, cl, hd, kk⟩ := h
    have c : Cz 4 (BodyX P w K mg base N_tupled "tupled" s_tupled f cdv A outer s H E) := W.g.cz hr sc_tupled.nd
    have key : PSs (BodyX P w K mg base N_tupled "tupled" s_tupled f cdv A outer s H E) (defBody s_tupled) (tRet (tDF K [.dat (.tuple xs), .un] [] xs [])) := by
      refine pss_one (ps_ret ?_)
      refine ef_if (μ1 := []) (EvT.cast (et_val (ev_is2 (d := .tuple xs) c (ev_name 0) rfl bt_list bt_tuple c.b_list c.b_tuple)) rfl) ?_
      refine ef_tuple c (EvB.pe (lcD [("part", 1)] xs xs rfl c (ei_tup (ev_name 0)) (blkOk_by (by kernel_rfl)) (fun i d y hd hy => ⟨_, fun _ c => eg_name c 1, fun _ c => ev_call (has_tupled W 2) c (ea_cons (ev_name 1) ea_nil) ⟨y, flatTs_get hx hy, (by rw [hd] at hy; cases hy; rfl), rfl, rfl, rfl⟩⟩)))
    refine ⟨_, PSs.nox key, ?_⟩
    refine ⟨F0, [], cl, start_sls (N := N_tupled) (rs := [.dat (.tuple xs)]) (.cons hd .nil), fun A o us F2 H2 st2 c2 hF ho hd2 => kk A o us F2 H2 st2 c2 hF ho hd2⟩
end
section
variable {P : Program} {w : World} {X : Cx} {k : Nat} {Γ : List Sl} {μ μ1 : Mu} {e : Expr} {p pos : Pos}
theorem ef_tupled {xs : List PyData} (W : Wld X.prog X.w X.K X.mg X.base) (c : Cz k X) (ha : EvA X Γ μ [e] [.dat (.tuple xs)] μ1) (hx : flatTs 2 xs = true) (hk : 5 ≤ k := by decide) (hg : Gl X "tupled" := by rfl) (he : starEach [e] X.env = (false, eval e X.env) :: starEach [] X.env := by rfl) :
    EvF X Γ μ (.Call (.Name "tupled" p) [e] [] pos) xs μ1 := by
  obtain ⟨f, fd, F, hm, kp, hb⟩ := f_tupled W
  refine pe_le (pe_call (F.mono hk) c.rm hg hm kp hb .nil pass0 ha (by decide) he rfl) fun σ H Q q => ?_
  obtain ⟨F0, as, cl, sl, kk⟩ := q
  refine ⟨F0, as, cl, sl, fun vs F1 H1 st1 c1 hv => ?_⟩
  obtain ⟨v, rfl, h1⟩ := hv.one
  exact ⟨F1, v, xs, hx, rfl, clz_none c1, h1, fun A o us F2 H2 st2 c2 hF ho hd => kk A o us F2 H2 (st1.trans st2.narrow) (clz_back c1 st2 c2) hF ho hd⟩
end
end CL
end
section
set_option autoImplicit false
namespace CL
open PySem PySem.Spec PyProof.Rows L2 DL
open PySem.W (Datum Tup DatumOrd Holds HoldAll T3)
/-! Contracts 2. -/
section
variable {P : Program} {w : World} {K : PySem.W.Frag} {mg : Str → Option Value} {base : Heap}

/-! ### is_number -/
def m_is_number (v_value : Int) : Bool := ((kitT (tyOf (Datum.toD v_value)) "int") && (!(kitT (tyOf (Datum.toD v_value)) "bool")))
def N_is_number : List Str := ["value"]
theorem sc_is_number : FnScope N_is_number ["value"] (defScope s_is_number) := ⟨rfl, rfl, rfl, by decide +kernel, rfl, by decide +kernel, by decide +kernel⟩
abbrev R_is_number : Rel := P1 (fun (v_value : Int) => True) (fun (v_value : Int) => dd (m_is_number v_value))
theorem h_is_number (W : Wld P w K mg base) : Has P w K mg base 1 "is_number" R_is_number := by
  refine has_of (k := 0) W.g W.d_is_number sc_is_number (fun _ _ _ _ _ _ us hl => match us, hl with | [_], _ => rfl) (fun rs μ r μ' h => by obtain ⟨a0, h⟩ := h; rw [h.2.1]; rfl) ?_
  rintro f cdv A outer s H E rs μ r μ' c ⟨v_value, hp, rfl, rfl, rfl, rfl⟩
  exact ⟨_, (ss_end (st_ret (ev_and (ev_is (d := Datum.toD v_value) c (ev_name 0) rfl bt_int c.b_int) (fun hbo => (ev_one (ev_not (ev_is (d := Datum.toD v_value) c (ev_name 0) rfl bt_bool c.b_bool))))))), .rt .dat⟩
/-! ### are_numbers -/
def m_are_numbers (v_thing : (Tup Int)) (v_many : Int) : Bool := (if ((!(kitT (tyOf (Datum.toD v_thing)) "tuple")) || (decide ((v_thing.items.length : Int) ≠ v_many))) = true then false else ((v_thing.items.map fun x1 => ((m_is_number x1) && (decide ((0 : Int) ≤ x1)))).all id))
def N_are_numbers : List Str := ["thing", "many", "number"]
theorem sc_are_numbers : FnScope N_are_numbers ["thing", "many"] (defScope s_are_numbers) := ⟨rfl, rfl, rfl, by decide +kernel, rfl, by decide +kernel, by decide +kernel⟩
abbrev R_are_numbers : Rel := P2 (fun (v_thing : (Tup Int)) (v_many : Int) => True) (fun (v_thing : (Tup Int)) (v_many : Int) => dd (m_are_numbers v_thing v_many))
theorem h_are_numbers (W : Wld P w K mg base) : Has P w K mg base 2 "are_numbers" R_are_numbers := by
  refine has_of (k := 1) W.g W.d_are_numbers sc_are_numbers (fun _ _ _ _ _ _ us hl => match us, hl with | [_, _], _ => rfl) (fun rs μ r μ' h => by obtain ⟨a0, a1, h⟩ := h; rw [h.2.1]; rfl) ?_
  rintro f cdv A outer s H E rs μ r μ' c ⟨v_thing, v_many, hp, rfl, rfl, rfl, rfl⟩
  exact ⟨_, (ss_ifD (et_w (ew_or (et_not (et_val (ev_is (d := Datum.toD v_thing) c (ev_name 0) rfl bt_tuple c.b_tuple))) (fun hbo => (ew_or1 (et_cp (f_ne c (x := (v_thing.items.length : Int)) (y := v_many) rfl rfl) (ev_cb (c_lenT (t := v_thing) rfl) c.b_len (ea_cons (ev_name 0) ea_nil)) (ev_name 1)))))) (fun hif => (ss_end (st_ret ev_bl))) (fun hif =>
    (ss_end (st_ret (ev_cb (c_all c (xs := (v_thing.items.map fun x1 => ((m_is_number x1) && (decide ((0 : Int) ≤ x1))))) rfl) c.b_all (ea_cons (EvB.pe (lc0 [("number", 2)] v_thing.items (fun x1 => ((m_is_number x1) && (decide ((0 : Int) ≤ x1)))) c (ei_tup (ev_name 0)) (blkOk_by (by kernel_rfl)) (fun x1 hx1 => ⟨_, fun _ c => eg_name c 2, fun _ c => (ev_and (ev_call (h_is_number W) c (ea_cons (ev_name 2) ea_nil) (P1.go trivial)) (fun hbo => (ev_one (ev_cp f_ge (ev_name 2) ev_int))))⟩))) ea_nil)))))), .rt .dat⟩
/-! ### is_demands -/
def m_is_demands (v_rules : Rules) (v_thing : (Tup Int)) : Bool := (m_are_numbers v_thing (v_rules.1.items.length : Int))
def N_is_demands : List Str := ["rules", "thing"]
theorem sc_is_demands : FnScope N_is_demands ["rules", "thing"] (defScope s_is_demands) := ⟨rfl, rfl, rfl, by decide +kernel, rfl, by decide +kernel, by decide +kernel⟩
abbrev R_is_demands : Rel := P2 (fun (v_rules : Rules) (v_thing : (Tup Int)) => True) (fun (v_rules : Rules) (v_thing : (Tup Int)) => dd (m_is_demands v_rules v_thing))
theorem h_is_demands (W : Wld P w K mg base) : Has P w K mg base 3 "is_demands" R_is_demands := by
  refine has_of (k := 2) W.g W.d_is_demands sc_is_demands (fun _ _ _ _ _ _ us hl => match us, hl with | [_, _], _ => rfl) (fun rs μ r μ' h => by obtain ⟨a0, a1, h⟩ := h; rw [h.2.1]; rfl) ?_
  rintro f cdv A outer s H E rs μ r μ' c ⟨v_rules, v_thing, hp, rfl, rfl, rfl, rfl⟩
  exact ⟨_, (ss_end (st_ret (ev_call (h_are_numbers W) c (ea_cons (ev_name 1) (ea_cons (ev_cb (c_lenT (t := v_rules.1) rfl) c.b_len (ea_cons (ev_fst (q := v_rules) (ev_name 0)) ea_nil)) ea_nil)) (P2.go trivial)))), .rt .dat⟩
/-! ### check_kind -/
def m_check_kind (v_rules : Rules) (v_name : Str) : Unit := ()
def N_check_kind : List Str := ["rules", "name"]
theorem sc_check_kind : FnScope N_check_kind ["rules", "name"] (defScope s_check_kind) := ⟨rfl, rfl, rfl, by decide +kernel, rfl, by decide +kernel, by decide +kernel⟩
abbrev R_check_kind : Rel := P2 (fun (v_rules : Rules) (v_name : Str) => v_name ∈ v_rules.1.items) (fun (v_rules : Rules) (v_name : Str) => dd (m_check_kind v_rules v_name))
theorem h_check_kind (W : Wld P w K mg base) : Has P w K mg base 1 "check_kind" R_check_kind := by
  refine has_of (k := 0) W.g W.d_check_kind sc_check_kind (fun _ _ _ _ _ _ us hl => match us, hl with | [_, _], _ => rfl) (fun rs μ r μ' h => by obtain ⟨a0, a1, h⟩ := h; rw [h.2.1]; rfl) ?_
  rintro f cdv A outer s H E rs μ r μ' c ⟨v_rules, v_name, hp, rfl, rfl, rfl, rfl⟩
  exact ⟨_, (ss_cons (st_ifno (et_cp (f_ninT c (x := v_name) (xs := v_rules.1) rfl rfl) (ev_name 1) (ev_fst (q := v_rules) (ev_name 0))) (by simp [hp]))
    ss_nil), .nx⟩
/-! ### check_group -/
def m_check_group (v_rules : Rules) (v_group : (Tup Str)) : Unit := ()
def N_check_group : List Str := ["rules", "group"]
theorem sc_check_group : FnScope N_check_group ["rules", "group"] (defScope s_check_group) := ⟨rfl, rfl, rfl, by decide +kernel, rfl, by decide +kernel, by decide +kernel⟩
abbrev R_check_group : Rel := P2 (fun (v_rules : Rules) (v_group : (Tup Str)) => v_group ∈ v_rules.2.items) (fun (v_rules : Rules) (v_group : (Tup Str)) => dd (m_check_group v_rules v_group))
theorem h_check_group (W : Wld P w K mg base) : Has P w K mg base 5 "check_group" R_check_group := by
  refine has_of (k := 4) W.g W.d_check_group sc_check_group (fun _ _ _ _ _ _ us hl => match us, hl with | [_, _], _ => rfl) (fun rs μ r μ' h => by obtain ⟨a0, a1, h⟩ := h; rw [h.2.1]; rfl) ?_
  rintro f cdv A outer s H E rs μ r μ' c ⟨v_rules, v_group, hp, rfl, rfl, rfl, rfl⟩
  exact ⟨_, (ss_cons (st_ifno (et_cp (f_ninT c (x := v_group) (xs := v_rules.2) rfl rfl) (ev_call (h_tupled W) c (ea_cons (ev_name 1) ea_nil) (R_tupled.go (flat_T (flat_S _)) v_group)) (ev_call (h_tupled W) c (ea_cons (ev_snd (q := v_rules) (ev_name 0)) ea_nil) (R_tupled.go (flat_T (flat_T (flat_S _))) v_rules.2))) (by simp [hp]))
    ss_nil), .nx⟩
/-! ### groups_with -/
def m_groups_with (v_rules : Rules) (v_name : Str) : (Tup (Tup Str)) := (Tup.mk (v_rules.2.items.filter fun x1 => (decide (v_name ∈ x1.items))))
def N_groups_with : List Str := ["rules", "name", "group"]
theorem sc_groups_with : FnScope N_groups_with ["rules", "name"] (defScope s_groups_with) := ⟨rfl, rfl, rfl, by decide +kernel, rfl, by decide +kernel, by decide +kernel⟩
abbrev R_groups_with : Rel := P2 (fun (v_rules : Rules) (v_name : Str) => v_name ∈ v_rules.1.items) (fun (v_rules : Rules) (v_name : Str) => dd (m_groups_with v_rules v_name))
theorem h_groups_with (W : Wld P w K mg base) : Has P w K mg base 5 "groups_with" R_groups_with := by
  refine has_of (k := 4) W.g W.d_groups_with sc_groups_with (fun _ _ _ _ _ _ us hl => match us, hl with | [_, _], _ => rfl) (fun rs μ r μ' h => by obtain ⟨a0, a1, h⟩ := h; rw [h.2.1]; rfl) ?_
  rintro f cdv A outer s H E rs μ r μ' c ⟨v_rules, v_name, hp, rfl, rfl, rfl, rfl⟩
  exact ⟨_, (ss_cons (st_expr (ev_call (h_check_kind W) c (ea_cons (ev_name 0) (ea_cons (ev_name 1) ea_nil)) (P2.go hp)))
    (ss_end (st_ret (ev_ct (c_tuple (xs := (v_rules.2.items.filter fun x1 => (decide (v_name ∈ x1.items)))) rfl) c.b_tuple (ea_cons (EvB.pe (lcf [("group", 2)] v_rules.2.items (fun x1 => (decide (v_name ∈ x1.items))) c (ei_tup (ev_call (h_tupled W) c (ea_cons (ev_snd (q := v_rules) (ev_name 0)) ea_nil) (R_tupled.go (flat_T (flat_T (flat_S _))) v_rules.2))) (blkOk_by (by kernel_rfl)) (fun x1 hx1 => ⟨_, fun _ c => eg_name c 2, fun _ c => (et_cp (f_inT c (x := v_name) (xs := x1) rfl rfl) (ev_name 1) (ev_name 2)), fun hif _ c => (ev_name 2)⟩))) ea_nil))))), .rt .dat⟩
/-! ### with_name -/
def m_with_name (v_rules : Rules) (v_name : Str) : (List (Tup Str)) := (v_rules.2.items.filter fun x1 => (decide (v_name ∈ x1.items)))
def N_with_name : List Str := ["rules", "name", "group"]
theorem sc_with_name : FnScope N_with_name ["rules", "name"] (defScope s_with_name) := ⟨rfl, rfl, rfl, by decide +kernel, rfl, by decide +kernel, by decide +kernel⟩
abbrev R_with_name : Rel := P2 (fun (v_rules : Rules) (v_name : Str) => True) (fun (v_rules : Rules) (v_name : Str) => fr (m_with_name v_rules v_name))
theorem h_with_name (W : Wld P w K mg base) : Has P w K mg base 5 "with_name" R_with_name := by
  refine has_of (k := 4) W.g W.d_with_name sc_with_name (fun _ _ _ _ _ _ us hl => match us, hl with | [_, _], _ => rfl) (fun rs μ r μ' h => by obtain ⟨a0, a1, h⟩ := h; rw [h.2.1]; rfl) ?_
  rintro f cdv A outer s H E rs μ r μ' c ⟨v_rules, v_name, hp, rfl, rfl, rfl, rfl⟩
  exact ⟨_, (ss_end (st_ret (EvB.pe (lcf [("group", 2)] v_rules.2.items (fun x1 => (decide (v_name ∈ x1.items))) c (ei_tup (ev_call (h_tupled W) c (ea_cons (ev_snd (q := v_rules) (ev_name 0)) ea_nil) (R_tupled.go (flat_T (flat_T (flat_S _))) v_rules.2))) (blkOk_by (by kernel_rfl)) (fun x1 hx1 => ⟨_, fun _ c => eg_name c 2, fun _ c => (et_cp (f_inT c (x := v_name) (xs := x1) rfl rfl) (ev_name 1) (ev_name 2)), fun hif _ c => (ev_name 2)⟩))))), .rt .fre⟩
/-! ### own_kinds -/
def m_own_kinds (v_groups : (Tup (Tup Str))) : (Tup (Tup Str)) := (Tup.mk (v_groups.items.map fun x1 => (Tup.mk (x1.items.filter fun x2 => (decide ((((v_groups.items.map fun x3 => (decide (x2 ∈ x3.items))).countP fun u => decide (u = true) : Nat) : Int) = (1 : Int)))))))
def N_own_kinds : List Str := ["groups", "every", "name", "far", "own"]
theorem sc_own_kinds : FnScope N_own_kinds ["groups"] (defScope s_own_kinds) := ⟨rfl, rfl, rfl, by decide +kernel, rfl, by decide +kernel, by decide +kernel⟩
abbrev R_own_kinds : Rel := P1 (fun (v_groups : (Tup (Tup Str))) => True) (fun (v_groups : (Tup (Tup Str))) => dd (m_own_kinds v_groups))
theorem h_own_kinds (W : Wld P w K mg base) : Has P w K mg base 5 "own_kinds" R_own_kinds := by
  refine has_of (k := 4) W.g W.d_own_kinds sc_own_kinds (fun _ _ _ _ _ _ us hl => match us, hl with | [_], _ => rfl) (fun rs μ r μ' h => by obtain ⟨a0, h⟩ := h; rw [h.2.1]; rfl) ?_
  rintro f cdv A outer s H E rs μ r μ' c ⟨v_groups, hp, rfl, rfl, rfl, rfl⟩
  exact ⟨_, (ss_cons (st_set c 1 (ev_call (h_tupled W) c (ea_cons (ev_name 0) ea_nil) (R_tupled.go (flat_T (flat_T (flat_S _))) v_groups)))
    (ss_end (st_ret (ev_ct (c_tuple (xs := (v_groups.items.map fun x1 => (Tup.mk (x1.items.filter fun x2 => (decide ((((v_groups.items.map fun x3 => (decide (x2 ∈ x3.items))).countP fun u => decide (u = true) : Nat) : Int) = (1 : Int))))))) rfl) c.b_tuple (ea_cons (EvB.pe (lc0 [("own", 4)] v_groups.items (fun x1 => (Tup.mk (x1.items.filter fun x2 => (decide ((((v_groups.items.map fun x3 => (decide (x2 ∈ x3.items))).countP fun u => decide (u = true) : Nat) : Int) = (1 : Int)))))) c (ei_tup (ev_name 1)) (blkOk_by (by kernel_rfl)) (fun x1 hx1 => ⟨_, fun _ c => eg_name c 4, fun _ c => (ev_ct (c_tuple (xs := (x1.items.filter fun x2 => (decide ((((v_groups.items.map fun x3 => (decide (x2 ∈ x3.items))).countP fun u => decide (u = true) : Nat) : Int) = (1 : Int))))) rfl) c.b_tuple (ea_cons (EvB.pe (lcf [("name", 2)] x1.items (fun x2 => (decide ((((v_groups.items.map fun x3 => (decide (x2 ∈ x3.items))).countP fun u => decide (u = true) : Nat) : Int) = (1 : Int)))) c (ei_tup (ev_name 4)) (blkOk_by (by kernel_rfl)) (fun x2 hx2 => ⟨_, fun _ c => eg_name c 2, fun _ c => (et_cp (f_eq c (x := (((v_groups.items.map fun x3 => (decide (x2 ∈ x3.items))).countP fun u => decide (u = true) : Nat) : Int)) (y := (1 : Int)) rfl rfl) (ev_count c (xs := (v_groups.items.map fun x3 => (decide (x2 ∈ x3.items)))) (y := true) (EvB.pe (lc0 [("far", 3)] v_groups.items (fun x3 => (decide (x2 ∈ x3.items))) c (ei_tup (ev_name 1)) (blkOk_by (by kernel_rfl)) (fun x3 hx3 => ⟨_, fun _ c => eg_name c 3, fun _ c => (ev_cp (f_inT c (x := x2) (xs := x3) rfl rfl) (ev_name 2) (ev_name 3))⟩))) ev_bl rfl rfl rfl) ev_int), fun hif _ c => (ev_name 2)⟩))) ea_nil))⟩))) ea_nil))))), .rt .dat⟩
end
end CL
end
section
set_option autoImplicit false
/-! What the defs may count on; small facts. -/
namespace CL
open PySem PySem.Spec PyProof.Rows L2 DL
open PySem.W (Datum Tup DatumOrd Holds HoldAll T3)
instance : Flat (T3 Str Int Int) := ⟨by decide⟩
instance : Flat (Tup (T3 Str Int Int)) := ⟨by decide⟩
instance : Flat (Tup Bool) := ⟨by decide⟩
instance : Flat (List (Int × Tup Int)) := ⟨by decide⟩
instance : Flat (List (Tup (Tup Str))) := ⟨by decide⟩
/-- rules in order -/
structure WR (R : Rules) : Prop where
  kn : R.1.items.Nodup
  k1 : R.1.items ≠ []
  kl : R.1.items.length ≤ 4
  gn : R.2.items.Nodup
  gl : R.2.items.length ≤ 4
  gs : ∀ g ∈ R.2.items, ∀ n ∈ g.items, n ∈ R.1.items
  ne : ∀ g ∈ R.2.items, g.items ≠ []
  nd : ∀ g ∈ R.2.items, g.items.Nodup
/-- a number for each kind, each group -/
def WK (R : Rules) (D : Tup Int) : Prop := D.items.length = R.1.items.length
def WG (R : Rules) (L : Tup Int) : Prop := L.items.length = R.2.items.length
/-- demands -/
structure WD (R : Rules) (D : Tup Int) : Prop where
  len : WK R D
  lo : ∀ d ∈ D.items, 0 ≤ d
  hi : ∀ d ∈ D.items, d ≤ 3
theorem dval_get {κ : Type} [DecidableEq κ] {kvs : List (κ × Int)} {k : κ} (h : k ∈ kvs.map (·.1)) : dval kvs k = some ((dval kvs k).getD 0) := by
  unfold dval
  obtain ⟨kv, hm, he⟩ := List.mem_map.mp h
  cases hf : kvs.find? fun kv => decide (kv.1 = k) with
  | none =>
    rw [List.find?_eq_none] at hf
    exact absurd (by simpa using he) (hf kv hm)
  | some z => rfl
theorem kvT_keys {ks : List Str} {vs : List Int} {x : Str} (h : x ∈ ks) (hl : ks.length ≤ vs.length) : (Sum.inr x : Key) ∈ (kvT ks vs).map (·.1) := by
  unfold kvT
  rw [List.map_map]
  obtain ⟨i, hi, e⟩ := List.getElem_of_mem h
  refine List.mem_map.mpr ⟨(ks[i], vs[i]'(by omega)), ?_, by rw [← e]; rfl⟩
  refine List.mem_iff_getElem?.mpr ⟨i, ?_⟩
  rw [List.getElem?_zip_eq_some]
  exact ⟨List.getElem?_eq_getElem hi, List.getElem?_eq_getElem (by omega)⟩
theorem kvG_keys {gs : List (Tup Str)} {vs : List Int} {g : Tup Str} (h : g ∈ gs) (hl : gs.length ≤ vs.length) : (g.items.map (Sum.inr : Str → Key)) ∈ (kvG gs vs).map (·.1) := by
  unfold kvG
  rw [List.map_map]
  obtain ⟨i, hi, e⟩ := List.getElem_of_mem h
  refine List.mem_map.mpr ⟨(gs[i], vs[i]'(by omega)), ?_, by rw [← e]; rfl⟩
  refine List.mem_iff_getElem?.mpr ⟨i, ?_⟩
  rw [List.getElem?_zip_eq_some]
  exact ⟨List.getElem?_eq_getElem hi, List.getElem?_eq_getElem (by omega)⟩
theorem dval_kvT {ks : List Str} {vs : List Int} {x : Str} (h : x ∈ ks) (hl : ks.length ≤ vs.length) : dval (kvT ks vs) (.inr x) = some ((dval (kvT ks vs) (.inr x)).getD 0) := dval_get (kvT_keys h hl)
theorem dval_kvG {gs : List (Tup Str)} {vs : List Int} {g : Tup Str} (h : g ∈ gs) (hl : gs.length ≤ vs.length) : dval (kvG gs vs) (g.items.map .inr) = some ((dval (kvG gs vs) (g.items.map .inr)).getD 0) := dval_get (kvG_keys h hl)
end CL
end
section
set_option autoImplicit false
namespace CL
open PySem PySem.Spec PyProof.Rows L2 DL
open PySem.W (Datum Tup DatumOrd Holds HoldAll T3)
/-! Contracts 3. -/
section
variable {P : Program} {w : World} {K : PySem.W.Frag} {mg : Str → Option Value} {base : Heap}

/-! ### size_of -/
def m_size_of (v_lot : (Tup Int)) : Int := v_lot.items.sum
def N_size_of : List Str := ["lot"]
theorem sc_size_of : FnScope N_size_of ["lot"] (defScope s_size_of) := ⟨rfl, rfl, rfl, by decide +kernel, rfl, by decide +kernel, by decide +kernel⟩
abbrev R_size_of : Rel := P1 (fun (v_lot : (Tup Int)) => True) (fun (v_lot : (Tup Int)) => dd (m_size_of v_lot))
theorem h_size_of (W : Wld P w K mg base) : Has P w K mg base 1 "size_of" R_size_of := by
  refine has_of (k := 0) W.g W.d_size_of sc_size_of (fun _ _ _ _ _ _ us hl => match us, hl with | [_], _ => rfl) (fun rs μ r μ' h => by obtain ⟨a0, h⟩ := h; rw [h.2.1]; rfl) ?_
  rintro f cdv A outer s H E rs μ r μ' c ⟨v_lot, hp, rfl, rfl, rfl, rfl⟩
  exact ⟨_, (ss_end (st_ret (ev_cb (c_sumT c (xs := v_lot) rfl) c.b_sum (ea_cons (ev_name 0) ea_nil)))), .rt .dat⟩
/-! ### loads -/
def m_loads (v_rules : Rules) (v_lot : (Tup Int)) : (Tup Int) := (Tup.mk (v_rules.2.items.map fun x1 => (x1.items.map fun x2 => ((dval (kvT v_rules.1.items v_lot.items) (.inr x2)).getD 0)).sum))
def N_loads : List Str := ["rules", "lot", "kinds", "groups", "table", "name", "group"]
theorem sc_loads : FnScope N_loads ["rules", "lot"] (defScope s_loads) := ⟨rfl, rfl, rfl, by decide +kernel, rfl, by decide +kernel, by decide +kernel⟩
abbrev R_loads : Rel := P2 (fun (v_rules : Rules) (v_lot : (Tup Int)) => WR v_rules ∧ WK v_rules v_lot) (fun (v_rules : Rules) (v_lot : (Tup Int)) => dd (m_loads v_rules v_lot))
theorem h_loads (W : Wld P w K mg base) : Has P w K mg base 5 "loads" R_loads := by
  refine has_of (k := 4) W.g W.d_loads sc_loads (fun _ _ _ _ _ _ us hl => match us, hl with | [_, _], _ => rfl) (fun rs μ r μ' h => by obtain ⟨a0, a1, h⟩ := h; rw [h.2.1]; rfl) ?_
  rintro f cdv A outer s H E rs μ r μ' c ⟨v_rules, v_lot, hp, rfl, rfl, rfl, rfl⟩
  exact ⟨_, (ss_cons (st_unp c [2, 3] (ev_call (h_tupled W) c (ea_cons (ev_name 0) ea_nil) (R_tupled.go (flat_P (flat_T (flat_S _)) (flat_T (flat_T (flat_S _)))) v_rules)) (eg_tup c (egs_cons (eg_name c 2) (egs_cons (eg_name c 3) egs_nil))))
    (ss_cons (st_set c 4 (ev_dzK c (ev_name 2) (ev_name 1) hp.1.kn))
    (ss_end (st_ret (ev_ct (c_tuple (xs := (v_rules.2.items.map fun x1 => (x1.items.map fun x2 => ((dval (kvT v_rules.1.items v_lot.items) (.inr x2)).getD 0)).sum)) rfl) c.b_tuple (ea_cons (EvB.pe (lc0 [("group", 6)] v_rules.2.items (fun x1 => (x1.items.map fun x2 => ((dval (kvT v_rules.1.items v_lot.items) (.inr x2)).getD 0)).sum) c (ei_tup (ev_name 3)) (blkOk_by (by kernel_rfl)) (fun x1 hx1 => ⟨_, fun _ c => eg_name c 6, fun _ c => (ev_cb (c_sumL c (xs := (x1.items.map fun x2 => ((dval (kvT v_rules.1.items v_lot.items) (.inr x2)).getD 0))) rfl) c.b_sum (ea_cons (EvB.pe (lc0 [("name", 5)] x1.items (fun x2 => ((dval (kvT v_rules.1.items v_lot.items) (.inr x2)).getD 0)) c (ei_tup (ev_name 6)) (blkOk_by (by kernel_rfl)) (fun x2 hx2 => ⟨_, fun _ c => eg_name c 5, fun _ c => (ev_dget c (ev_name 4) (ev_name 5) (dval_kvT (hp.1.gs _ hx1 _ hx2) (Nat.le_of_eq hp.2.symm)))⟩))) ea_nil))⟩))) ea_nil)))))), .rt .dat⟩
/-! ### left_in -/
def m_left_in (v_rules : Rules) (v_limits : (Tup Int)) (v_lot : (Tup Int)) : (Tup Int) := (Tup.mk ((v_limits.items.zip (m_loads v_rules v_lot).items).map fun x1 => (x1.1 - x1.2)))
def N_left_in : List Str := ["rules", "limits", "lot", "limit", "many"]
theorem sc_left_in : FnScope N_left_in ["rules", "limits", "lot"] (defScope s_left_in) := ⟨rfl, rfl, rfl, by decide +kernel, rfl, by decide +kernel, by decide +kernel⟩
abbrev R_left_in : Rel := P3 (fun (v_rules : Rules) (v_limits : (Tup Int)) (v_lot : (Tup Int)) => WR v_rules ∧ WK v_rules v_lot) (fun (v_rules : Rules) (v_limits : (Tup Int)) (v_lot : (Tup Int)) => dd (m_left_in v_rules v_limits v_lot))
theorem h_left_in (W : Wld P w K mg base) : Has P w K mg base 6 "left_in" R_left_in := by
  refine has_of (k := 5) W.g W.d_left_in sc_left_in (fun _ _ _ _ _ _ us hl => match us, hl with | [_, _, _], _ => rfl) (fun rs μ r μ' h => by obtain ⟨a0, a1, a2, h⟩ := h; rw [h.2.1]; rfl) ?_
  rintro f cdv A outer s H E rs μ r μ' c ⟨v_rules, v_limits, v_lot, hp, rfl, rfl, rfl, rfl⟩
  exact ⟨_, (ss_end (st_ret (ev_ct (c_tuple (xs := ((v_limits.items.zip (m_loads v_rules v_lot).items).map fun x1 => (x1.1 - x1.2))) rfl) c.b_tuple (ea_cons (EvB.pe (lc0 [("limit", 3), ("many", 4)] (v_limits.items.zip (m_loads v_rules v_lot).items) (fun x1 => (x1.1 - x1.2)) c (EvI.cast (ei_zipT c (ev_name 1) (ev_call (h_loads W) c (ea_cons (ev_name 0) (ea_cons (ev_name 2) ea_nil)) (P2.go hp))) (zipD_map _ _)) (blkOk_by (by kernel_rfl)) (fun x1 hx1 => ⟨_, fun _ c => eg_tup c (egs_cons (eg_name c 3) (egs_cons (eg_name c 4) egs_nil)), fun _ c => (ev_op f_sub (ev_name 3) (ev_name 4))⟩))) ea_nil)))), .rt .dat⟩
/-! ### keeps -/
def m_keeps (v_rules : Rules) (v_limits : (Tup Int)) (v_lot : (Tup Int)) : Bool := (((m_left_in v_rules v_limits v_lot).items.map fun x1 => (decide ((0 : Int) ≤ x1))).all id)
def N_keeps : List Str := ["rules", "limits", "lot", "left"]
theorem sc_keeps : FnScope N_keeps ["rules", "limits", "lot"] (defScope s_keeps) := ⟨rfl, rfl, rfl, by decide +kernel, rfl, by decide +kernel, by decide +kernel⟩
abbrev R_keeps : Rel := P3 (fun (v_rules : Rules) (v_limits : (Tup Int)) (v_lot : (Tup Int)) => WR v_rules ∧ WK v_rules v_lot) (fun (v_rules : Rules) (v_limits : (Tup Int)) (v_lot : (Tup Int)) => dd (m_keeps v_rules v_limits v_lot))
theorem h_keeps (W : Wld P w K mg base) : Has P w K mg base 7 "keeps" R_keeps := by
  refine has_of (k := 6) W.g W.d_keeps sc_keeps (fun _ _ _ _ _ _ us hl => match us, hl with | [_, _, _], _ => rfl) (fun rs μ r μ' h => by obtain ⟨a0, a1, a2, h⟩ := h; rw [h.2.1]; rfl) ?_
  rintro f cdv A outer s H E rs μ r μ' c ⟨v_rules, v_limits, v_lot, hp, rfl, rfl, rfl, rfl⟩
  exact ⟨_, (ss_end (st_ret (ev_cb (c_all c (xs := ((m_left_in v_rules v_limits v_lot).items.map fun x1 => (decide ((0 : Int) ≤ x1)))) rfl) c.b_all (ea_cons (EvB.pe (lc0 [("left", 3)] (m_left_in v_rules v_limits v_lot).items (fun x1 => (decide ((0 : Int) ≤ x1))) c (ei_tup (ev_call (h_left_in W) c (ea_cons (ev_name 0) (ea_cons (ev_name 1) (ea_cons (ev_name 2) ea_nil))) (P3.go hp))) (blkOk_by (by kernel_rfl)) (fun x1 hx1 => ⟨_, fun _ c => eg_name c 3, fun _ c => (ev_cp f_ge (ev_name 3) ev_int)⟩))) ea_nil)))), .rt .dat⟩
/-! ### full_groups -/
def m_full_groups (v_rules : Rules) (v_limits : (Tup Int)) (v_lot : (Tup Int)) : (Tup (Tup Str)) := (Tup.mk (((v_rules.2.items.zip (m_left_in v_rules v_limits v_lot).items).filter fun x1 => (decide (x1.2 ≤ (0 : Int)))).map fun x1 => x1.1))
def N_full_groups : List Str := ["rules", "limits", "lot", "group", "left"]
theorem sc_full_groups : FnScope N_full_groups ["rules", "limits", "lot"] (defScope s_full_groups) := ⟨rfl, rfl, rfl, by decide +kernel, rfl, by decide +kernel, by decide +kernel⟩
abbrev R_full_groups : Rel := P3 (fun (v_rules : Rules) (v_limits : (Tup Int)) (v_lot : (Tup Int)) => WR v_rules ∧ WK v_rules v_lot) (fun (v_rules : Rules) (v_limits : (Tup Int)) (v_lot : (Tup Int)) => dd (m_full_groups v_rules v_limits v_lot))
theorem h_full_groups (W : Wld P w K mg base) : Has P w K mg base 7 "full_groups" R_full_groups := by
  refine has_of (k := 6) W.g W.d_full_groups sc_full_groups (fun _ _ _ _ _ _ us hl => match us, hl with | [_, _, _], _ => rfl) (fun rs μ r μ' h => by obtain ⟨a0, a1, a2, h⟩ := h; rw [h.2.1]; rfl) ?_
  rintro f cdv A outer s H E rs μ r μ' c ⟨v_rules, v_limits, v_lot, hp, rfl, rfl, rfl, rfl⟩
  exact ⟨_, (ss_end (st_ret (ev_ct (c_tuple (xs := (((v_rules.2.items.zip (m_left_in v_rules v_limits v_lot).items).filter fun x1 => (decide (x1.2 ≤ (0 : Int)))).map fun x1 => x1.1)) rfl) c.b_tuple (ea_cons (EvB.pe (lc1 [("group", 3), ("left", 4)] (v_rules.2.items.zip (m_left_in v_rules v_limits v_lot).items) (fun x1 => (decide (x1.2 ≤ (0 : Int)))) (fun x1 => x1.1) c (EvI.cast (ei_zipT c (ev_snd (q := v_rules) (ev_call (h_tupled W) c (ea_cons (ev_name 0) ea_nil) (R_tupled.go (flat_P (flat_T (flat_S _)) (flat_T (flat_T (flat_S _)))) v_rules))) (ev_call (h_left_in W) c (ea_cons (ev_name 0) (ea_cons (ev_name 1) (ea_cons (ev_name 2) ea_nil))) (P3.go hp))) (zipD_map _ _)) (blkOk_by (by kernel_rfl)) (fun x1 hx1 => ⟨_, fun _ c => eg_tup c (egs_cons (eg_name c 3) (egs_cons (eg_name c 4) egs_nil)), fun _ c => (et_cp f_le (ev_name 4) ev_int), fun hif _ c => (ev_name 3)⟩))) ea_nil)))), .rt .dat⟩
/-! ### all_sure -/
def m_all_sure (v_rules : Rules) (v_limits : (Tup Int)) (v_demands : (Tup Int)) : Bool := (m_keeps v_rules v_limits v_demands)
def N_all_sure : List Str := ["rules", "limits", "demands"]
theorem sc_all_sure : FnScope N_all_sure ["rules", "limits", "demands"] (defScope s_all_sure) := ⟨rfl, rfl, rfl, by decide +kernel, rfl, by decide +kernel, by decide +kernel⟩
abbrev R_all_sure : Rel := P3 (fun (v_rules : Rules) (v_limits : (Tup Int)) (v_demands : (Tup Int)) => WR v_rules ∧ WK v_rules v_demands) (fun (v_rules : Rules) (v_limits : (Tup Int)) (v_demands : (Tup Int)) => dd (m_all_sure v_rules v_limits v_demands))
theorem h_all_sure (W : Wld P w K mg base) : Has P w K mg base 8 "all_sure" R_all_sure := by
  refine has_of (k := 7) W.g W.d_all_sure sc_all_sure (fun _ _ _ _ _ _ us hl => match us, hl with | [_, _, _], _ => rfl) (fun rs μ r μ' h => by obtain ⟨a0, a1, a2, h⟩ := h; rw [h.2.1]; rfl) ?_
  rintro f cdv A outer s H E rs μ r μ' c ⟨v_rules, v_limits, v_demands, hp, rfl, rfl, rfl, rfl⟩
  exact ⟨_, (ss_end (st_ret (ev_call (h_keeps W) c (ea_cons (ev_name 0) (ea_cons (ev_name 1) (ea_cons (ev_name 2) ea_nil))) (P3.go hp)))), .rt .dat⟩
/-! ### is_shut -/
def m_is_shut (v_rules : Rules) (v_limits : (Tup Int)) (v_demands : (Tup Int)) (v_lot : (Tup Int)) : Bool := (((((zip3 v_rules.1.items v_lot.items v_demands.items).filter fun x1 => (decide (x1.b < x1.c))).map fun x1 => x1.a).map fun x2 => (((m_full_groups v_rules v_limits v_lot).items.map fun x3 => (decide (x2 ∈ x3.items))).any id)).all id)
def N_is_shut : List Str := ["rules", "limits", "demands", "lot", "full", "less", "name", "many", "number", "group"]
theorem sc_is_shut : FnScope N_is_shut ["rules", "limits", "demands", "lot"] (defScope s_is_shut) := ⟨rfl, rfl, rfl, by decide +kernel, rfl, by decide +kernel, by decide +kernel⟩
abbrev R_is_shut : Rel := P4 (fun (v_rules : Rules) (v_limits : (Tup Int)) (v_demands : (Tup Int)) (v_lot : (Tup Int)) => WR v_rules ∧ WK v_rules v_lot) (fun (v_rules : Rules) (v_limits : (Tup Int)) (v_demands : (Tup Int)) (v_lot : (Tup Int)) => dd (m_is_shut v_rules v_limits v_demands v_lot))
theorem h_is_shut (W : Wld P w K mg base) : Has P w K mg base 8 "is_shut" R_is_shut := by
  refine has_of (k := 7) W.g W.d_is_shut sc_is_shut (fun _ _ _ _ _ _ us hl => match us, hl with | [_, _, _, _], _ => rfl) (fun rs μ r μ' h => by obtain ⟨a0, a1, a2, a3, h⟩ := h; rw [h.2.1]; rfl) ?_
  rintro f cdv A outer s H E rs μ r μ' c ⟨v_rules, v_limits, v_demands, v_lot, hp, rfl, rfl, rfl, rfl⟩
  exact ⟨_, (ss_cons (st_set c 4 (ev_call (h_full_groups W) c (ea_cons (ev_name 0) (ea_cons (ev_name 1) (ea_cons (ev_name 3) ea_nil))) (P3.go hp)))
    (ss_cons (st_setB c 5 (EvB.frz (lc1 [("name", 6), ("many", 7), ("number", 8)] (zip3 v_rules.1.items v_lot.items v_demands.items) (fun x1 => (decide (x1.b < x1.c))) (fun x1 => x1.a) c (EvI.cast (ei_zip3 c (ev_fst (q := v_rules) (ev_name 0)) (ev_name 3) (ev_name 2)) (zip3D_map _ _ _)) (blkOk_by (by kernel_rfl)) (fun x1 hx1 => ⟨_, fun _ c => eg_tup c (egs_cons (eg_name c 6) (egs_cons (eg_name c 7) (egs_cons (eg_name c 8) egs_nil))), fun _ c => (et_cp f_lt (ev_name 7) (ev_name 8)), fun hif _ c => (ev_name 6)⟩))) (sw_true rfl rfl rfl rfl))
    (ss_end (st_ret (ev_cb (c_all c (xs := ((((zip3 v_rules.1.items v_lot.items v_demands.items).filter fun x1 => (decide (x1.b < x1.c))).map fun x1 => x1.a).map fun x2 => (((m_full_groups v_rules v_limits v_lot).items.map fun x3 => (decide (x2 ∈ x3.items))).any id))) rfl) c.b_all (ea_cons (EvB.pe (lc0 [("name", 6)] (((zip3 v_rules.1.items v_lot.items v_demands.items).filter fun x1 => (decide (x1.b < x1.c))).map fun x1 => x1.a) (fun x2 => (((m_full_groups v_rules v_limits v_lot).items.map fun x3 => (decide (x2 ∈ x3.items))).any id)) c (ei_list (ev_name 5)) (blkOk_by (by kernel_rfl)) (fun x2 hx2 => ⟨_, fun _ c => eg_name c 6, fun _ c => (ev_cb (c_any c (xs := ((m_full_groups v_rules v_limits v_lot).items.map fun x3 => (decide (x2 ∈ x3.items)))) rfl) c.b_any (ea_cons (EvB.pe (lc0 [("group", 9)] (m_full_groups v_rules v_limits v_lot).items (fun x3 => (decide (x2 ∈ x3.items))) c (ei_tup (ev_name 4)) (blkOk_by (by kernel_rfl)) (fun x3 hx3 => ⟨_, fun _ c => eg_name c 9, fun _ c => (ev_cp (f_inT c (x := x2) (xs := x3) rfl rfl) (ev_name 6) (ev_name 9))⟩))) ea_nil))⟩))) ea_nil)))))), .rt .dat⟩
/-! ### is_end -/
def m_is_end (v_rules : Rules) (v_limits : (Tup Int)) (v_demands : (Tup Int)) (v_thing : (Tup Int)) : Bool := (if ((!(m_is_demands v_rules v_thing)) || (((v_thing.items.zip v_demands.items).map fun x1 => (decide (x1.2 < x1.1))).any id)) = true then false else ((m_keeps v_rules v_limits v_thing) && (m_is_shut v_rules v_limits v_demands v_thing)))
def N_is_end : List Str := ["rules", "limits", "demands", "thing", "many", "number"]
theorem sc_is_end : FnScope N_is_end ["rules", "limits", "demands", "thing"] (defScope s_is_end) := ⟨rfl, rfl, rfl, by decide +kernel, rfl, by decide +kernel, by decide +kernel⟩
abbrev R_is_end : Rel := P4 (fun (v_rules : Rules) (v_limits : (Tup Int)) (v_demands : (Tup Int)) (v_thing : (Tup Int)) => WR v_rules ∧ WK v_rules v_thing) (fun (v_rules : Rules) (v_limits : (Tup Int)) (v_demands : (Tup Int)) (v_thing : (Tup Int)) => dd (m_is_end v_rules v_limits v_demands v_thing))
theorem h_is_end (W : Wld P w K mg base) : Has P w K mg base 9 "is_end" R_is_end := by
  refine has_of (k := 8) W.g W.d_is_end sc_is_end (fun _ _ _ _ _ _ us hl => match us, hl with | [_, _, _, _], _ => rfl) (fun rs μ r μ' h => by obtain ⟨a0, a1, a2, a3, h⟩ := h; rw [h.2.1]; rfl) ?_
  rintro f cdv A outer s H E rs μ r μ' c ⟨v_rules, v_limits, v_demands, v_thing, hp, rfl, rfl, rfl, rfl⟩
  exact ⟨_, (ss_ifD (et_w (ew_or (et_not (et_val (ev_call (h_is_demands W) c (ea_cons (ev_name 0) (ea_cons (ev_name 3) ea_nil)) (P2.go trivial)))) (fun hbo => (ew_or1 (et_val (ev_cb (c_any c (xs := ((v_thing.items.zip v_demands.items).map fun x1 => (decide (x1.2 < x1.1)))) rfl) c.b_any (ea_cons (EvB.pe (lc0 [("many", 4), ("number", 5)] (v_thing.items.zip v_demands.items) (fun x1 => (decide (x1.2 < x1.1))) c (EvI.cast (ei_zipT c (ev_name 3) (ev_name 2)) (zipD_map _ _)) (blkOk_by (by kernel_rfl)) (fun x1 hx1 => ⟨_, fun _ c => eg_tup c (egs_cons (eg_name c 4) (egs_cons (eg_name c 5) egs_nil)), fun _ c => (ev_cp f_gt (ev_name 4) (ev_name 5))⟩))) ea_nil))))))) (fun hif => (ss_end (st_ret ev_bl))) (fun hif =>
    (ss_end (st_ret (ev_and (ev_call (h_keeps W) c (ea_cons (ev_name 0) (ea_cons (ev_name 1) (ea_cons (ev_name 3) ea_nil))) (P3.go hp)) (fun hbo => (ev_one (ev_call (h_is_shut W) c (ea_cons (ev_name 0) (ea_cons (ev_name 1) (ea_cons (ev_name 2) (ea_cons (ev_name 3) ea_nil)))) (P4.go hp))))))))), .rt .dat⟩
/-! ### do_cross -/
def m_do_cross (v_one : (Tup Str)) (v_other : (Tup Str)) : Bool := ((decide ((0 : Int) < ((v_one.items.filter fun x1 => (decide (x1 ∈ v_other.items))).length : Int))) && (decide (((v_one.items.filter fun x1 => (decide (x1 ∈ v_other.items))).length : Int) < (min (v_one.items.length : Int) (v_other.items.length : Int)))))
def N_do_cross : List Str := ["one", "other", "shared", "name"]
theorem sc_do_cross : FnScope N_do_cross ["one", "other"] (defScope s_do_cross) := ⟨rfl, rfl, rfl, by decide +kernel, rfl, by decide +kernel, by decide +kernel⟩
abbrev R_do_cross : Rel := P2 (fun (v_one : (Tup Str)) (v_other : (Tup Str)) => True) (fun (v_one : (Tup Str)) (v_other : (Tup Str)) => dd (m_do_cross v_one v_other))
theorem h_do_cross (W : Wld P w K mg base) : Has P w K mg base 1 "do_cross" R_do_cross := by
  refine has_of (k := 0) W.g W.d_do_cross sc_do_cross (fun _ _ _ _ _ _ us hl => match us, hl with | [_, _], _ => rfl) (fun rs μ r μ' h => by obtain ⟨a0, a1, h⟩ := h; rw [h.2.1]; rfl) ?_
  rintro f cdv A outer s H E rs μ r μ' c ⟨v_one, v_other, hp, rfl, rfl, rfl, rfl⟩
  exact ⟨_, (ss_cons (st_setB c 2 (EvB.frz (lcf [("name", 3)] v_one.items (fun x1 => (decide (x1 ∈ v_other.items))) c (ei_tup (ev_name 0)) (blkOk_by (by kernel_rfl)) (fun x1 hx1 => ⟨_, fun _ c => eg_name c 3, fun _ c => (et_cp (f_inT c (x := x1) (xs := v_other) rfl rfl) (ev_name 3) (ev_name 1)), fun hif _ c => (ev_name 3)⟩))) (sw_true rfl rfl rfl rfl))
    (ss_end (st_ret (ev_chain f_lt f_lt ev_int (ev_cb (c_lenL (xs := (v_one.items.filter fun x1 => (decide (x1 ∈ v_other.items)))) rfl) c.b_len (ea_cons (ev_name 2) ea_nil)) (ev_cb (c_min2 c) c.b_min (ea_cons (ev_cb (c_lenT (t := v_one) rfl) c.b_len (ea_cons (ev_name 0) ea_nil)) (ea_cons (ev_cb (c_lenT (t := v_other) rfl) c.b_len (ea_cons (ev_name 1) ea_nil)) ea_nil))))))), .rt .dat⟩
/-! ### demand_of -/
def m_demand_of (v_rules : Rules) (v_demands : (Tup Int)) (v_name : Str) : Int := ((dval (kvT v_rules.1.items v_demands.items) (.inr v_name)).getD 0)
def N_demand_of : List Str := ["rules", "demands", "name"]
theorem sc_demand_of : FnScope N_demand_of ["rules", "demands", "name"] (defScope s_demand_of) := ⟨rfl, rfl, rfl, by decide +kernel, rfl, by decide +kernel, by decide +kernel⟩
abbrev R_demand_of : Rel := P3 (fun (v_rules : Rules) (v_demands : (Tup Int)) (v_name : Str) => WR v_rules ∧ WK v_rules v_demands ∧ v_name ∈ v_rules.1.items) (fun (v_rules : Rules) (v_demands : (Tup Int)) (v_name : Str) => dd (m_demand_of v_rules v_demands v_name))
theorem h_demand_of (W : Wld P w K mg base) : Has P w K mg base 1 "demand_of" R_demand_of := by
  refine has_of (k := 0) W.g W.d_demand_of sc_demand_of (fun _ _ _ _ _ _ us hl => match us, hl with | [_, _, _], _ => rfl) (fun rs μ r μ' h => by obtain ⟨a0, a1, a2, h⟩ := h; rw [h.2.1]; rfl) ?_
  rintro f cdv A outer s H E rs μ r μ' c ⟨v_rules, v_demands, v_name, hp, rfl, rfl, rfl, rfl⟩
  exact ⟨_, (ss_end (st_ret (ev_dget c (ev_dzK c (ev_fst (q := v_rules) (ev_name 0)) (ev_name 1) hp.1.kn) (ev_name 2) (dval_kvT hp.2.2 (Nat.le_of_eq hp.2.1.symm))))), .rt .dat⟩
/-! ### is_barred_by -/
def m_is_barred_by (v_rules : Rules) (v_limits : (Tup Int)) (v_lot : (Tup Int)) (v_name : Str) : Bool := (((m_full_groups v_rules v_limits v_lot).items.map fun x1 => (decide (v_name ∈ x1.items))).any id)
def N_is_barred_by : List Str := ["rules", "limits", "lot", "name", "group"]
theorem sc_is_barred_by : FnScope N_is_barred_by ["rules", "limits", "lot", "name"] (defScope s_is_barred_by) := ⟨rfl, rfl, rfl, by decide +kernel, rfl, by decide +kernel, by decide +kernel⟩
abbrev R_is_barred_by : Rel := P4 (fun (v_rules : Rules) (v_limits : (Tup Int)) (v_lot : (Tup Int)) (v_name : Str) => WR v_rules ∧ WK v_rules v_lot) (fun (v_rules : Rules) (v_limits : (Tup Int)) (v_lot : (Tup Int)) (v_name : Str) => dd (m_is_barred_by v_rules v_limits v_lot v_name))
theorem h_is_barred_by (W : Wld P w K mg base) : Has P w K mg base 8 "is_barred_by" R_is_barred_by := by
  refine has_of (k := 7) W.g W.d_is_barred_by sc_is_barred_by (fun _ _ _ _ _ _ us hl => match us, hl with | [_, _, _, _], _ => rfl) (fun rs μ r μ' h => by obtain ⟨a0, a1, a2, a3, h⟩ := h; rw [h.2.1]; rfl) ?_
  rintro f cdv A outer s H E rs μ r μ' c ⟨v_rules, v_limits, v_lot, v_name, hp, rfl, rfl, rfl, rfl⟩
  exact ⟨_, (ss_end (st_ret (ev_cb (c_any c (xs := ((m_full_groups v_rules v_limits v_lot).items.map fun x1 => (decide (v_name ∈ x1.items)))) rfl) c.b_any (ea_cons (EvB.pe (lc0 [("group", 4)] (m_full_groups v_rules v_limits v_lot).items (fun x1 => (decide (v_name ∈ x1.items))) c (ei_tup (ev_call (h_full_groups W) c (ea_cons (ev_name 0) (ea_cons (ev_name 1) (ea_cons (ev_name 2) ea_nil))) (P3.go hp))) (blkOk_by (by kernel_rfl)) (fun x1 hx1 => ⟨_, fun _ c => eg_name c 4, fun _ c => (ev_cp (f_inT c (x := v_name) (xs := x1) rfl rfl) (ev_name 3) (ev_name 4))⟩))) ea_nil)))), .rt .dat⟩
end
end CL
end
section
set_option autoImplicit false
namespace CL
open PySem PySem.Spec PyProof.Rows L2 DL
open PySem.W (Datum Tup DatumOrd Holds HoldAll T3)
/-! Contracts 4. -/
section
variable {P : Program} {w : World} {K : PySem.W.Frag} {mg : Str → Option Value} {base : Heap}

/-! ### open_sets -/
def m_open_sets (v_groups : (List (Tup Str))) : (List (Tup (Tup Str))) := (v_groups.foldl (fun (t1 : (List (Tup (Tup Str)))) u1 => (t1 ++ ((t1.map fun x1 => (Tup.mk (x1.items ++ [u1]))).filter fun x2 => (((m_own_kinds x2).items.map fun x3 => (decide ((0 : Int) < (x3.items.length : Int)))).all id)))) [(Tup.mk ([] : List (Tup Str)))])
def N_open_sets : List Str := ["groups", "found", "group", "more", "own", "names"]
theorem sc_open_sets : FnScope N_open_sets ["groups"] (defScope s_open_sets) := ⟨rfl, rfl, rfl, by decide +kernel, rfl, by decide +kernel, by decide +kernel⟩
def OsInv (i : Nat) (t : List (Tup (Tup Str))) : Prop := t.length ≤ 2 ^ i ∧ ∀ own ∈ t, own.items.length ≤ i
theorem os_zero : OsInv 0 [Tup.mk []] := ⟨Nat.le_refl _, fun own h => by rw [List.mem_singleton.mp h]; exact Nat.le_refl _⟩
theorem os_step {i : Nat} {t : List (Tup (Tup Str))} {u : Tup Str} {q : Tup (Tup Str) → Bool} (h : OsInv i t) : OsInv (i + 1) (t ++ (t.map fun x1 => (Tup.mk (x1.items ++ [u]))).filter q) := by
  refine ⟨?_, fun own hm => ?_⟩
  · have h1 := List.length_filter_le q (t.map fun x1 => (Tup.mk (x1.items ++ [u])))
    rw [List.length_map] at h1
    have h2 := h.1
    rw [List.length_append, Nat.pow_succ]
    omega
  · rcases List.mem_append.mp hm with m | m
    · exact Nat.le_succ_of_le (h.2 own m)
    · obtain ⟨x, hx, rfl⟩ := List.mem_map.mp (List.mem_filter.mp m).1
      show (x.items ++ [u]).length ≤ i + 1
      rw [List.length_append]
      exact Nat.succ_le_succ (h.2 x hx)
theorem os_16 {i : Nat} {t : List (Tup (Tup Str))} {xs : List (Tup Str)} {u : Tup Str} (h : OsInv i t) (hu : xs[i]? = some u) (hl : xs.length ≤ 4) : t.length ≤ 16 ∧ i ≤ 4 := by
  have h1 := (List.getElem?_eq_some_iff.mp hu).1
  have h2 : 2 ^ i ≤ 2 ^ 4 := Nat.pow_le_pow_right (by decide) (by omega)
  have h3 := h.1
  omega
theorem os_item {i : Nat} {t : List (Tup (Tup Str))} {xs : List (Tup Str)} {u : Tup Str} {x : Tup (Tup Str)} (h : OsInv i t) (hx : x ∈ t) (hu : xs[i]? = some u) (hl : xs.length ≤ 4) : x.items.length ≤ 90000 := by
  have h1 := h.2 x hx
  have h2 := os_16 h hu hl
  omega
theorem os_size {i : Nat} {t : List (Tup (Tup Str))} {xs : List (Tup Str)} {u : Tup Str} {q : Tup (Tup Str) → Bool} (h : OsInv i t) (hu : xs[i]? = some u) (hl : xs.length ≤ 4) : t.length + ((t.map fun x1 => (Tup.mk (x1.items ++ [u]))).filter q).length ≤ 100000 := by
  have h1 := List.length_filter_le q (t.map fun x1 => (Tup.mk (x1.items ++ [u])))
  rw [List.length_map] at h1
  have h2 := os_16 h hu hl
  omega
abbrev R_open_sets : Rel := P1 (fun (v_groups : (List (Tup Str))) => v_groups.length ≤ 4) (fun (v_groups : (List (Tup Str))) => dd (m_open_sets v_groups))
theorem h_open_sets (W : Wld P w K mg base) : Has P w K mg base 6 "open_sets" R_open_sets := by
  refine has_of (k := 5) W.g W.d_open_sets sc_open_sets (fun _ _ _ _ _ _ us hl => match us, hl with | [_], _ => rfl) (fun rs μ r μ' h => by obtain ⟨a0, h⟩ := h; rw [h.2.1]; rfl) ?_
  rintro f cdv A outer s H E rs μ r μ' c ⟨v_groups, hp, rfl, rfl, rfl, rfl⟩
  exact ⟨_, (ss_cons (st_set c 1 (Ev.frz' (ev_lst1 (ev_tup0 (α := (Tup Str))))))
    (ss_cons (st_fold [2] v_groups (fun (t1 : (List (Tup (Tup Str)))) u1 => (t1 ++ ((t1.map fun x1 => (Tup.mk (x1.items ++ [u1]))).filter fun x2 => (((m_own_kinds x2).items.map fun x3 => (decide ((0 : Int) < (x3.items.length : Int)))).all id)))) [(Tup.mk ([] : List (Tup Str)))] (fun t1 => [dd v_groups, dd t1, .un, .un, .un, .un]) (fun t1 => []) OsInv c (ei_list (ev_name 0)) os_zero Fits.refl rfl (fun i t1 u1 hu1 hI1 => ⟨os_step hI1, _, _, eg_name c 2, (ss_cons (st_setB c 3 (EvB.frz (lc0 [("own", 4)] t1 (fun x1 => (Tup.mk (x1.items ++ [u1]))) c (ei_list (ev_name 1)) (blkOk_by (by kernel_rfl)) (fun x1 hx1 => ⟨_, fun _ c => eg_name c 4, fun _ c => (ev_snoc (ev_name 4) (ev_name 2) (os_item hI1 hx1 hu1 hp))⟩))) (sw_true rfl rfl rfl rfl))
    (ss_cons (st_set c 1 (Ev.frz' (ev_op (f_catLL (xs := t1) (ys := ((t1.map fun x1 => (Tup.mk (x1.items ++ [u1]))).filter fun x2 => (((m_own_kinds x2).items.map fun x3 => (decide ((0 : Int) < (x3.items.length : Int)))).all id))) rfl rfl (os_size hI1 hu1 hp)) (ev_name 1) (EvB.pe (lcf [("own", 4)] (t1.map fun x1 => (Tup.mk (x1.items ++ [u1]))) (fun x2 => (((m_own_kinds x2).items.map fun x3 => (decide ((0 : Int) < (x3.items.length : Int)))).all id)) c (ei_list (ev_name 3)) (blkOk_by (by kernel_rfl)) (fun x2 hx2 => ⟨_, fun _ c => eg_name c 4, fun _ c => (et_val (ev_cb (c_all c (xs := ((m_own_kinds x2).items.map fun x3 => (decide ((0 : Int) < (x3.items.length : Int))))) rfl) c.b_all (ea_cons (EvB.pe (lc0 [("names", 5)] (m_own_kinds x2).items (fun x3 => (decide ((0 : Int) < (x3.items.length : Int)))) c (ei_tup (ev_call (h_own_kinds W) c (ea_cons (ev_name 4) ea_nil) (P1.go trivial))) (blkOk_by (by kernel_rfl)) (fun x3 hx3 => ⟨_, fun _ c => eg_name c 5, fun _ c => (ev_cp f_gt (ev_cb (c_lenT (t := x3) rfl) c.b_len (ea_cons (ev_name 5) ea_nil)) ev_int)⟩))) ea_nil))), fun hif _ c => (ev_name 4)⟩))))))
    ss_nil)), .nx (.keep (.keep (.drop (.drop (.keep (.keep .nil))))))⟩))
    (ss_end (st_ret (ev_name 1))))), .rt .dat⟩
end
end CL
end
section
set_option autoImplicit false
namespace CL
open PySem PySem.Spec PyProof.Rows L2 DL
open PySem.W (Datum Tup DatumOrd Holds HoldAll T3)
/-! Contracts 5. -/
section
variable {P : Program} {w : World} {K : PySem.W.Frag} {mg : Str → Option Value} {base : Heap}

/-! ### all_bare -/
def m_all_bare (v_rules : Rules) (v_name : Str) : (List (Tup (Tup Str))) := (srt ((m_open_sets (m_with_name v_rules v_name)).filter fun x1 => (decide ((0 : Int) < (x1.items.length : Int)))))
def N_all_bare : List Str := ["rules", "name", "own"]
theorem sc_all_bare : FnScope N_all_bare ["rules", "name"] (defScope s_all_bare) := ⟨rfl, rfl, rfl, by decide +kernel, rfl, by decide +kernel, by decide +kernel⟩
theorem srt_T {α : Type} [DecidableEq α] [Datum α] {xs : List (Tup α)} (h : ∀ x ∈ xs, x.items ≠ []) : PySem.W.Sortable (xs.map Datum.toD) := .inl fun d hd => by
  obtain ⟨x, hx, rfl⟩ := List.mem_map.mp hd
  have hn := h x hx
  cases e : x.items with
  | nil => exact absurd e hn
  | cons y ys => exact ⟨_, _, by show PyData.tuple (x.items.map Datum.toD) = _; rw [e]; rfl⟩
theorem with_le {R : Rules} {n : Str} (h : WR R) : (m_with_name R n).length ≤ 4 := Nat.le_trans (List.length_filter_le _ _) h.gl
abbrev R_all_bare : Rel := P2 (fun (v_rules : Rules) (v_name : Str) => WR v_rules ∧ v_name ∈ v_rules.1.items) (fun (v_rules : Rules) (v_name : Str) => fr (m_all_bare v_rules v_name))
theorem h_all_bare (W : Wld P w K mg base) : Has P w K mg base 7 "all_bare" R_all_bare := by
  refine has_of (k := 6) W.g W.d_all_bare sc_all_bare (fun _ _ _ _ _ _ us hl => match us, hl with | [_, _], _ => rfl) (fun rs μ r μ' h => by obtain ⟨a0, a1, h⟩ := h; rw [h.2.1]; rfl) ?_
  rintro f cdv A outer s H E rs μ r μ' c ⟨v_rules, v_name, hp, rfl, rfl, rfl, rfl⟩
  exact ⟨_, (ss_cons (st_expr (ev_call (h_check_kind W) c (ea_cons (ev_name 0) (ea_cons (ev_name 1) ea_nil)) (P2.go hp.2)))
    (ss_end (st_ret (ev_cb (c_sorted c (xs := ((m_open_sets (m_with_name v_rules v_name)).filter fun x1 => (decide ((0 : Int) < (x1.items.length : Int))))) rfl (srt_T (fun x hx => by have h := (List.mem_filter.mp hx).2; intro e; rw [e] at h; exact absurd h (by decide)))) c.b_sorted (ea_cons (EvB.pe (lcf [("own", 2)] (m_open_sets (m_with_name v_rules v_name)) (fun x1 => (decide ((0 : Int) < (x1.items.length : Int)))) c (ei_list (ev_call (h_open_sets W) c (ea_cons (Ev.frz' (ev_call (h_with_name W) c (ea_cons (ev_name 0) (ea_cons (ev_name 1) ea_nil)) (P2.go trivial))) ea_nil) (P1.go (with_le hp.1)))) (blkOk_by (by kernel_rfl)) (fun x1 hx1 => ⟨_, fun _ c => eg_name c 2, fun _ c => (et_cp f_gt (ev_cb (c_lenT (t := x1) rfl) c.b_len (ea_cons (ev_name 2) ea_nil)) ev_int), fun hif _ c => (ev_name 2)⟩))) ea_nil))))), .rt .fre⟩
/-! ### greatest_bare -/
def m_greatest_bare (v_rules : Rules) (v_name : Str) : (Tup (Tup Str)) := (minD (Tup.mk ([] : List (Tup Str))) ((m_all_bare v_rules v_name).filter fun x2 => (decide ((x2.items.length : Int) = (maxD (0 : Int) ((m_all_bare v_rules v_name).map fun x1 => (x1.items.length : Int)))))))
def N_greatest_bare : List Str := ["rules", "name", "every", "most", "own"]
theorem sc_greatest_bare : FnScope N_greatest_bare ["rules", "name"] (defScope s_greatest_bare) := ⟨rfl, rfl, rfl, by decide +kernel, rfl, by decide +kernel, by decide +kernel⟩
abbrev R_greatest_bare : Rel := P2 (fun (v_rules : Rules) (v_name : Str) => WR v_rules ∧ v_name ∈ v_rules.1.items) (fun (v_rules : Rules) (v_name : Str) => dd (m_greatest_bare v_rules v_name))
theorem h_greatest_bare (W : Wld P w K mg base) : Has P w K mg base 8 "greatest_bare" R_greatest_bare := by
  refine has_of (k := 7) W.g W.d_greatest_bare sc_greatest_bare (fun _ _ _ _ _ _ us hl => match us, hl with | [_, _], _ => rfl) (fun rs μ r μ' h => by obtain ⟨a0, a1, h⟩ := h; rw [h.2.1]; rfl) ?_
  rintro f cdv A outer s H E rs μ r μ' c ⟨v_rules, v_name, hp, rfl, rfl, rfl, rfl⟩
  exact ⟨_, (ss_cons (st_set c 2 (Ev.frz' (ev_call (h_all_bare W) c (ea_cons (ev_name 0) (ea_cons (ev_name 1) ea_nil)) (P2.go hp))))
    (ss_cons (st_set c 3 (ev_maxD (xs := ((m_all_bare v_rules v_name).map fun x1 => (x1.items.length : Int))) c (EvB.pe (lc0 [("own", 4)] (m_all_bare v_rules v_name) (fun x1 => (x1.items.length : Int)) c (ei_list (ev_name 2)) (blkOk_by (by kernel_rfl)) (fun x1 hx1 => ⟨_, fun _ c => eg_name c 4, fun _ c => (ev_cb (c_lenT (t := x1) rfl) c.b_len (ea_cons (ev_name 4) ea_nil))⟩))) rfl ev_int))
    (ss_end (st_ret (ev_minD (xs := ((m_all_bare v_rules v_name).filter fun x2 => (decide ((x2.items.length : Int) = (maxD (0 : Int) ((m_all_bare v_rules v_name).map fun x1 => (x1.items.length : Int))))))) (d := (Tup.mk ([] : List (Tup Str)))) c (EvB.pe (lcf [("own", 4)] (m_all_bare v_rules v_name) (fun x2 => (decide ((x2.items.length : Int) = (maxD (0 : Int) ((m_all_bare v_rules v_name).map fun x1 => (x1.items.length : Int)))))) c (ei_list (ev_name 2)) (blkOk_by (by kernel_rfl)) (fun x2 hx2 => ⟨_, fun _ c => eg_name c 4, fun _ c => (et_cp (f_eq c (x := (x2.items.length : Int)) (y := (maxD (0 : Int) ((m_all_bare v_rules v_name).map fun x1 => (x1.items.length : Int)))) rfl rfl) (ev_cb (c_lenT (t := x2) rfl) c.b_len (ea_cons (ev_name 4) ea_nil)) (ev_name 3)), fun hif _ c => (ev_name 4)⟩))) rfl (ev_tup0 (α := (Tup Str)))))))), .rt .dat⟩
/-! ### bare_number -/
def m_bare_number (v_rules : Rules) (v_name : Str) : Int := (max (1 : Int) ((m_greatest_bare v_rules v_name).items.length : Int))
def N_bare_number : List Str := ["rules", "name"]
theorem sc_bare_number : FnScope N_bare_number ["rules", "name"] (defScope s_bare_number) := ⟨rfl, rfl, rfl, by decide +kernel, rfl, by decide +kernel, by decide +kernel⟩
abbrev R_bare_number : Rel := P2 (fun (v_rules : Rules) (v_name : Str) => WR v_rules ∧ v_name ∈ v_rules.1.items) (fun (v_rules : Rules) (v_name : Str) => dd (m_bare_number v_rules v_name))
theorem h_bare_number (W : Wld P w K mg base) : Has P w K mg base 9 "bare_number" R_bare_number := by
  refine has_of (k := 8) W.g W.d_bare_number sc_bare_number (fun _ _ _ _ _ _ us hl => match us, hl with | [_, _], _ => rfl) (fun rs μ r μ' h => by obtain ⟨a0, a1, h⟩ := h; rw [h.2.1]; rfl) ?_
  rintro f cdv A outer s H E rs μ r μ' c ⟨v_rules, v_name, hp, rfl, rfl, rfl, rfl⟩
  exact ⟨_, (ss_end (st_ret (ev_cb (c_max2 c) c.b_max (ea_cons ev_int (ea_cons (ev_cb (c_lenT (t := (m_greatest_bare v_rules v_name)) rfl) c.b_len (ea_cons (ev_call (h_greatest_bare W) c (ea_cons (ev_name 0) (ea_cons (ev_name 1) ea_nil)) (P2.go hp)) ea_nil)) ea_nil))))), .rt .dat⟩
/-! ### factors -/
def m_factors (v_rules : Rules) : (Tup Int) := (Tup.mk (v_rules.1.items.map fun x1 => (m_bare_number v_rules x1)))
def N_factors : List Str := ["rules", "name"]
theorem sc_factors : FnScope N_factors ["rules"] (defScope s_factors) := ⟨rfl, rfl, rfl, by decide +kernel, rfl, by decide +kernel, by decide +kernel⟩
abbrev R_factors : Rel := P1 (fun (v_rules : Rules) => WR v_rules) (fun (v_rules : Rules) => dd (m_factors v_rules))
theorem h_factors (W : Wld P w K mg base) : Has P w K mg base 10 "factors" R_factors := by
  refine has_of (k := 9) W.g W.d_factors sc_factors (fun _ _ _ _ _ _ us hl => match us, hl with | [_], _ => rfl) (fun rs μ r μ' h => by obtain ⟨a0, h⟩ := h; rw [h.2.1]; rfl) ?_
  rintro f cdv A outer s H E rs μ r μ' c ⟨v_rules, hp, rfl, rfl, rfl, rfl⟩
  exact ⟨_, (ss_end (st_ret (ev_ct (c_tuple (xs := (v_rules.1.items.map fun x1 => (m_bare_number v_rules x1))) rfl) c.b_tuple (ea_cons (EvB.pe (lc0 [("name", 1)] v_rules.1.items (fun x1 => (m_bare_number v_rules x1)) c (ei_tup (ev_fst (q := v_rules) (ev_name 0))) (blkOk_by (by kernel_rfl)) (fun x1 hx1 => ⟨_, fun _ c => eg_name c 1, fun _ c => (ev_call (h_bare_number W) c (ea_cons (ev_name 0) (ea_cons (ev_name 1) ea_nil)) (P2.go ⟨hp, hx1⟩))⟩))) ea_nil)))), .rt .dat⟩
/-! ### factor -/
def m_factor (v_rules : Rules) : Int := (imax (m_factors v_rules).items)
def N_factor : List Str := ["rules"]
theorem sc_factor : FnScope N_factor ["rules"] (defScope s_factor) := ⟨rfl, rfl, rfl, by decide +kernel, rfl, by decide +kernel, by decide +kernel⟩
theorem fac_ne {R : Rules} (h : WR R) : (m_factors R).items ≠ [] := fun e => h.k1 (List.map_eq_nil_iff.mp e)
abbrev R_factor : Rel := P1 (fun (v_rules : Rules) => WR v_rules) (fun (v_rules : Rules) => dd (m_factor v_rules))
theorem h_factor (W : Wld P w K mg base) : Has P w K mg base 11 "factor" R_factor := by
  refine has_of (k := 10) W.g W.d_factor sc_factor (fun _ _ _ _ _ _ us hl => match us, hl with | [_], _ => rfl) (fun rs μ r μ' h => by obtain ⟨a0, h⟩ := h; rw [h.2.1]; rfl) ?_
  rintro f cdv A outer s H E rs μ r μ' c ⟨v_rules, hp, rfl, rfl, rfl, rfl⟩
  exact ⟨_, (ss_end (st_ret (ev_cb (c_maxT c (xs := (m_factors v_rules)) rfl (fac_ne hp)) c.b_max (ea_cons (ev_call (h_factors W) c (ea_cons (ev_name 0) ea_nil) (P1.go hp)) ea_nil)))), .rt .dat⟩
/-! ### worst_kinds -/
def m_worst_kinds (v_rules : Rules) : (Tup Str) := (Tup.mk (((v_rules.1.items.zip (m_factors v_rules).items).filter fun x1 => (decide (x1.2 = (m_factor v_rules)))).map fun x1 => x1.1))
def N_worst_kinds : List Str := ["rules", "most", "name", "number"]
theorem sc_worst_kinds : FnScope N_worst_kinds ["rules"] (defScope s_worst_kinds) := ⟨rfl, rfl, rfl, by decide +kernel, rfl, by decide +kernel, by decide +kernel⟩
abbrev R_worst_kinds : Rel := P1 (fun (v_rules : Rules) => WR v_rules) (fun (v_rules : Rules) => dd (m_worst_kinds v_rules))
theorem h_worst_kinds (W : Wld P w K mg base) : Has P w K mg base 12 "worst_kinds" R_worst_kinds := by
  refine has_of (k := 11) W.g W.d_worst_kinds sc_worst_kinds (fun _ _ _ _ _ _ us hl => match us, hl with | [_], _ => rfl) (fun rs μ r μ' h => by obtain ⟨a0, h⟩ := h; rw [h.2.1]; rfl) ?_
  rintro f cdv A outer s H E rs μ r μ' c ⟨v_rules, hp, rfl, rfl, rfl, rfl⟩
  exact ⟨_, (ss_cons (st_set c 1 (ev_call (h_factor W) c (ea_cons (ev_name 0) ea_nil) (P1.go hp)))
    (ss_end (st_ret (ev_ct (c_tuple (xs := (((v_rules.1.items.zip (m_factors v_rules).items).filter fun x1 => (decide (x1.2 = (m_factor v_rules)))).map fun x1 => x1.1)) rfl) c.b_tuple (ea_cons (EvB.pe (lc1 [("name", 2), ("number", 3)] (v_rules.1.items.zip (m_factors v_rules).items) (fun x1 => (decide (x1.2 = (m_factor v_rules)))) (fun x1 => x1.1) c (EvI.cast (ei_zipT c (ev_fst (q := v_rules) (ev_name 0)) (ev_call (h_factors W) c (ea_cons (ev_name 0) ea_nil) (P1.go hp))) (zipD_map _ _)) (blkOk_by (by kernel_rfl)) (fun x1 hx1 => ⟨_, fun _ c => eg_tup c (egs_cons (eg_name c 2) (egs_cons (eg_name c 3) egs_nil)), fun _ c => (et_cp (f_eq c (x := x1.2) (y := (m_factor v_rules)) rfl rfl) (ev_name 3) (ev_name 1)), fun hif _ c => (ev_name 2)⟩))) ea_nil))))), .rt .dat⟩
end
end CL
end
section
set_option autoImplicit false
/-! Plain facts 1: greatest, least, sorted; open sets, bare sets. -/
namespace CL
open PySem PySem.Spec PyProof.Rows L2 DL
open PySem.W (Datum Tup DatumOrd Holds HoldAll T3)
theorem imax_mem : ∀ {xs : List Int}, xs ≠ [] → imax xs ∈ xs
  | [], h => absurd rfl h
  | x :: xs, _ => by
    unfold imax
    have go : ∀ (ys : List Int) (a : Int), ys.foldl (fun a y => if a < y then y else a) a ∈ a :: ys := by
      intro ys
      induction ys with
      | nil => intro a; exact List.mem_singleton.mpr rfl
      | cons y ys ih =>
        intro a
        rw [List.foldl_cons]
        by_cases h : a < y
        · rw [if_pos h]; exact List.mem_cons_of_mem _ (ih y)
        · rw [if_neg h]
          rcases List.mem_cons.mp (ih a) with e | m
          · rw [e]; exact List.mem_cons_self
          · exact List.mem_cons_of_mem _ (List.mem_cons_of_mem _ m)
    exact go xs x
theorem imax_eq {xs : List Int} {m : Int} (hm : m ∈ xs) (h : ∀ x ∈ xs, x ≤ m) : imax xs = m :=
  Int.le_antisymm (h _ (imax_mem (List.ne_nil_of_mem hm))) (imax_ge hm)
theorem imin_mem : ∀ {xs : List Int}, xs ≠ [] → imin xs ∈ xs
  | [], h => absurd rfl h
  | x :: xs, _ => by
    unfold imin
    have go : ∀ (ys : List Int) (a : Int), ys.foldl (fun a y => if y < a then y else a) a ∈ a :: ys := by
      intro ys
      induction ys with
      | nil => intro a; exact List.mem_singleton.mpr rfl
      | cons y ys ih =>
        intro a
        rw [List.foldl_cons]
        by_cases h : y < a
        · rw [if_pos h]; exact List.mem_cons_of_mem _ (ih y)
        · rw [if_neg h]
          rcases List.mem_cons.mp (ih a) with e | m
          · rw [e]; exact List.mem_cons_self
          · exact List.mem_cons_of_mem _ (List.mem_cons_of_mem _ m)
    exact go xs x
theorem imin_le : ∀ {xs : List Int} {x : Int}, x ∈ xs → imin xs ≤ x
  | [], _, h => absurd h (List.not_mem_nil)
  | z :: xs, x, h => by
    unfold imin
    have go : ∀ (ys : List Int) (a : Int), ys.foldl (fun a y => if y < a then y else a) a ≤ a ∧ ∀ y ∈ ys, ys.foldl (fun a y => if y < a then y else a) a ≤ y := by
      intro ys
      induction ys with
      | nil => intro a; exact ⟨Int.le_refl _, fun y h => absurd h List.not_mem_nil⟩
      | cons y ys ih =>
        intro a
        rw [List.foldl_cons]
        by_cases h : y < a
        · rw [if_pos h]
          have i := ih y
          refine ⟨by omega, fun v hv => ?_⟩
          rcases List.mem_cons.mp hv with e | m
          · rw [e]; exact i.1
          · exact i.2 v m
        · rw [if_neg h]
          have i := ih a
          refine ⟨i.1, fun v hv => ?_⟩
          rcases List.mem_cons.mp hv with e | m
          · rw [e]; omega
          · exact i.2 v m
    rcases List.mem_cons.mp h with e | m
    · rw [e]; exact (go xs z).1
    · exact (go xs z).2 x m
theorem imin_eq {xs : List Int} {m : Int} (hm : m ∈ xs) (h : ∀ x ∈ xs, m ≤ x) : imin xs = m :=
  Int.le_antisymm (imin_le hm) (h _ (imin_mem (List.ne_nil_of_mem hm)))
theorem srt_perm {α : Type} [DecidableEq α] [DatumOrd α] (xs : List α) : (srt xs).Perm xs := List.mergeSort_perm _ _
theorem mem_srt {α : Type} [DecidableEq α] [DatumOrd α] {xs : List α} {x : α} : x ∈ srt xs ↔ x ∈ xs := (srt_perm xs).mem_iff
theorem minD_mem {γ : Type} [DecidableEq γ] [DatumOrd γ] {xs : List γ} {d : γ} (h : xs ≠ []) : minD d xs ∈ xs := by
  cases xs with
  | nil => exact absurd rfl h
  | cons y ys => exact minOf_mem y ys
theorem maxD_cons {xs : List Int} {d : Int} (h : xs ≠ []) : maxD d xs = imax xs := by
  cases xs with
  | nil => exact absurd rfl h
  | cons y ys => rfl
/-- whether each of some groups has an own kind, as the program asks -/
def opn (own : Tup (Tup Str)) : Bool := ((m_own_kinds own).items.map fun x3 => (decide ((0 : Int) < (x3.items.length : Int)))).all id
theorem os_go : ∀ (rest pre : List (Tup Str)) (t : List (Tup (Tup Str))), (∀ own ∈ t, opn own = true ∧ own.items.Sublist pre) →
    ∀ own ∈ rest.foldl (fun (t1 : (List (Tup (Tup Str)))) u1 => (t1 ++ ((t1.map fun x1 => (Tup.mk (x1.items ++ [u1]))).filter fun x2 => opn x2))) t, opn own = true ∧ own.items.Sublist (pre ++ rest)
  | [], pre, t, h => fun own ho => by rw [List.append_nil]; exact h own ho
  | g :: rest, pre, t, h => fun own ho => by
    rw [List.foldl_cons] at ho
    have a := os_go rest (pre ++ [g]) _ (fun w hw => ?_) own ho
    · rw [List.append_assoc] at a; exact a
    rcases List.mem_append.mp hw with m | m
    · exact ⟨(h w m).1, (h w m).2.trans (List.sublist_append_left _ _)⟩
    · obtain ⟨m1, m2⟩ := List.mem_filter.mp m
      obtain ⟨x, hx, rfl⟩ := List.mem_map.mp m1
      exact ⟨m2, List.Sublist.append (h x hx).2 (List.Sublist.refl _)⟩
theorem os_mem {gs : List (Tup Str)} {own : Tup (Tup Str)} (h : own ∈ m_open_sets gs) : opn own = true ∧ own.items.Sublist gs :=
  os_go gs [] [Tup.mk []] (fun own ho => by rw [List.mem_singleton.mp ho]; exact ⟨rfl, List.Sublist.refl _⟩) own h
theorem opn_own {own : Tup (Tup Str)} (h : opn own = true) : ∀ o ∈ (m_own_kinds own).items, o.items ≠ [] := fun o ho e => by
  have a := List.all_eq_true.mp h (decide ((0 : Int) < (o.items.length : Int))) (List.mem_map.mpr ⟨o, ho, rfl⟩)
  rw [e] at a
  exact absurd a (by decide)
theorem gb_open (R : Rules) (n : Str) : opn (m_greatest_bare R n) = true ∧ (m_greatest_bare R n).items.Sublist (m_with_name R n) := by
  by_cases h : ((m_all_bare R n).filter fun x2 => (decide ((x2.items.length : Int) = (maxD (0 : Int) ((m_all_bare R n).map fun x1 => (x1.items.length : Int)))))) = []
  · unfold m_greatest_bare
    rw [h]
    exact ⟨rfl, List.nil_sublist _⟩
  · have a := minD_mem (d := Tup.mk ([] : List (Tup Str))) h
    exact os_mem (List.mem_filter.mp (mem_srt.mp (List.mem_filter.mp a).1)).1
theorem own_len (own : Tup (Tup Str)) : (m_own_kinds own).items.length = own.items.length := List.length_map _
theorem bn_le {R : Rules} (h : WR R) (n : Str) : 1 ≤ m_bare_number R n ∧ m_bare_number R n ≤ 4 := by
  have a := Nat.le_trans (gb_open R n).2.length_le (with_le (n := n) h)
  unfold m_bare_number
  omega
theorem fac_le {R : Rules} (h : WR R) : 1 ≤ m_factor R ∧ m_factor R ≤ 4 := by
  obtain ⟨n, _, e⟩ := List.mem_map.mp (imax_mem (fac_ne h))
  have a := bn_le h n
  rw [show m_bare_number R n = m_factor R from e] at a
  exact a
theorem wk_mem {R : Rules} (n : Str) : n ∈ (m_worst_kinds R).items ↔ n ∈ R.1.items ∧ m_bare_number R n = m_factor R := by
  unfold m_worst_kinds
  constructor
  · intro hm
    obtain ⟨q, hq, rfl⟩ := List.mem_map.mp hm
    obtain ⟨h1, h2⟩ := List.mem_filter.mp hq
    unfold m_factors at h1
    obtain ⟨x, hx, e⟩ : ∃ x ∈ R.1.items, q = (x, m_bare_number R x) := by
      rw [show (R.1.items.zip (R.1.items.map fun x1 => m_bare_number R x1)) = R.1.items.map fun x => (x, m_bare_number R x) from by
        induction R.1.items with
        | nil => rfl
        | cons y ys ih => rw [List.map_cons, List.zip_cons_cons, ih]; rfl] at h1
      obtain ⟨x, hx, e⟩ := List.mem_map.mp h1
      exact ⟨x, hx, e.symm⟩
    subst e
    exact ⟨hx, of_decide_eq_true h2⟩
  · rintro ⟨hm, e⟩
    refine List.mem_map.mpr ⟨(n, m_bare_number R n), List.mem_filter.mpr ⟨?_, decide_eq_true e⟩, rfl⟩
    unfold m_factors
    rw [show (R.1.items.zip (R.1.items.map fun x1 => m_bare_number R x1)) = R.1.items.map fun x => (x, m_bare_number R x) from by
      generalize R.1.items = ks
      induction ks with
      | nil => rfl
      | cons y ys ih => rw [List.map_cons, List.zip_cons_cons, ih]; rfl]
    exact List.mem_map.mpr ⟨n, hm, rfl⟩
theorem wk_ne {R : Rules} (h : WR R) : (m_worst_kinds R).items ≠ [] := by
  obtain ⟨n, hn, e⟩ := List.mem_map.mp (imax_mem (fac_ne h))
  exact List.ne_nil_of_mem ((wk_mem n).mpr ⟨hn, e⟩)
theorem ne_pos {α : Type} {xs : List α} (h : xs ≠ []) : 0 < xs.length := List.length_pos_iff.mpr h
theorem getD_mem {α : Type} {xs : List α} {d : α} (h : xs ≠ []) : xs.getD 0 d ∈ xs := by
  cases xs with
  | nil => exact absurd rfl h
  | cons y ys => exact List.mem_cons_self
end CL
end
section
set_option autoImplicit false
namespace CL
open PySem PySem.Spec PyProof.Rows L2 DL
open PySem.W (Datum Tup DatumOrd Holds HoldAll T3)
/-! Contracts 6. -/
section
variable {P : Program} {w : World} {K : PySem.W.Frag} {mg : Str → Option Value} {base : Heap}

/-! ### worst_case -/
def m_worst_case (v_rules : Rules) : (T3 (Tup Int) (Tup Str) (Tup Int)) := (⟨(Tup.mk (v_rules.2.items.map fun x3 => (if (decide (x3 ∈ (m_greatest_bare v_rules ((m_worst_kinds v_rules).items.getD 0 ("" : Str))).items)) = true then (1 : Int) else (m_factor v_rules)))), (Tup.mk (((m_worst_kinds v_rules).items.getD 0 ("" : Str)) :: (((m_own_kinds (m_greatest_bare v_rules ((m_worst_kinds v_rules).items.getD 0 ("" : Str)))).items.filter fun x1 => (decide ((x1.items.getD 0 ("" : Str)) ≠ ((m_worst_kinds v_rules).items.getD 0 ("" : Str))))).map fun x1 => (x1.items.getD 0 ("" : Str))))), (Tup.mk (v_rules.1.items.map fun x4 => (if (decide (x4 ∈ (if (decide ((0 : Int) < ((m_greatest_bare v_rules ((m_worst_kinds v_rules).items.getD 0 ("" : Str))).items.length : Int))) = true then ((m_own_kinds (m_greatest_bare v_rules ((m_worst_kinds v_rules).items.getD 0 ("" : Str)))).items.map fun x2 => (x2.items.getD 0 ("" : Str))) else [((m_worst_kinds v_rules).items.getD 0 ("" : Str))]))) = true then 1 else 0 : Int)))⟩ : (T3 (Tup Int) (Tup Str) (Tup Int)))
def N_worst_case : List Str := ["rules", "name", "most", "some", "row", "names", "first", "limits", "group", "own"]
theorem sc_worst_case : FnScope N_worst_case ["rules"] (defScope s_worst_case) := ⟨rfl, rfl, rfl, by decide +kernel, rfl, by decide +kernel, by decide +kernel⟩
theorem wc_kind {R : Rules} (h : WR R) : (m_worst_kinds R).items.getD 0 ("" : Str) ∈ R.1.items := ((wk_mem _).mp (getD_mem (wk_ne h))).1
theorem wc_own {R : Rules} {n : Str} : ∀ o ∈ (m_own_kinds (m_greatest_bare R n)).items, o.items ≠ [] := opn_own (gb_open R n).1
theorem wc_len {R : Rules} {n : Str} {q : Tup Str → Bool} {f : Tup Str → Str} (h : WR R) : (((m_own_kinds (m_greatest_bare R n)).items.filter q).map f).length ≤ 90000 := by
  have a := Nat.le_trans (gb_open R n).2.length_le (with_le (n := n) h)
  have b := List.length_filter_le q (m_own_kinds (m_greatest_bare R n)).items
  rw [own_len] at b
  rw [List.length_map]
  omega
abbrev R_worst_case : Rel := P1 (fun (v_rules : Rules) => WR v_rules) (fun (v_rules : Rules) => dd (m_worst_case v_rules))
theorem h_worst_case (W : Wld P w K mg base) : Has P w K mg base 13 "worst_case" R_worst_case := by
  refine has_of (k := 12) W.g W.d_worst_case sc_worst_case (fun _ _ _ _ _ _ us hl => match us, hl with | [_], _ => rfl) (fun rs μ r μ' h => by obtain ⟨a0, h⟩ := h; rw [h.2.1]; rfl) ?_
  rintro f cdv A outer s H E rs μ r μ' c ⟨v_rules, hp, rfl, rfl, rfl, rfl⟩
  exact ⟨_, (ss_cons (st_par' c 1 2 (en_cons (ev_ixTD (n := 0) ("" : Str) (ev_call (h_worst_kinds W) c (ea_cons (ev_name 0) ea_nil) (P1.go hp)) ev_int rfl (ne_pos (wk_ne hp))) (en_cons (ev_call (h_factor W) c (ea_cons (ev_name 0) ea_nil) (P1.go hp)) en_nil)) (.sta rfl (.sta rfl .nil)))
    (ss_cons (st_set c 3 (ev_call (h_greatest_bare W) c (ea_cons (ev_name 0) (ea_cons (ev_name 1) ea_nil)) (P2.go ⟨hp, wc_kind hp⟩)))
    (ss_cons (st_set c 4 (Ev.frz' (ev_lstC (ev_name 1) (Ev.frz' (EvB.pe (lc1 [("names", 5)] (m_own_kinds (m_greatest_bare v_rules ((m_worst_kinds v_rules).items.getD 0 ("" : Str)))).items (fun x1 => (decide ((x1.items.getD 0 ("" : Str)) ≠ ((m_worst_kinds v_rules).items.getD 0 ("" : Str))))) (fun x1 => (x1.items.getD 0 ("" : Str))) c (ei_tup (ev_call (h_own_kinds W) c (ea_cons (ev_name 3) ea_nil) (P1.go trivial))) (blkOk_by (by kernel_rfl)) (fun x1 hx1 => ⟨_, fun _ c => eg_name c 5, fun _ c => (et_cp (f_ne c (x := (x1.items.getD 0 ("" : Str))) (y := ((m_worst_kinds v_rules).items.getD 0 ("" : Str))) rfl rfl) (ev_ixTD (n := 0) ("" : Str) (ev_name 5) ev_int rfl (ne_pos (wc_own _ hx1))) (ev_name 1)), fun hif _ c => (ev_ixTD (n := 0) ("" : Str) (ev_name 5) ev_int rfl (ne_pos (wc_own _ hx1)))⟩)))) (wc_len hp))))
    (ss_cons (st_set c 6 (Ev.frz' (ev_ifF (et_cp f_gt (ev_cb (c_lenT (t := (m_greatest_bare v_rules ((m_worst_kinds v_rules).items.getD 0 ("" : Str)))) rfl) c.b_len (ea_cons (ev_name 3) ea_nil)) ev_int) (fun _ => (EvB.pe (lc0 [("names", 5)] (m_own_kinds (m_greatest_bare v_rules ((m_worst_kinds v_rules).items.getD 0 ("" : Str)))).items (fun x2 => (x2.items.getD 0 ("" : Str))) c (ei_tup (ev_call (h_own_kinds W) c (ea_cons (ev_name 3) ea_nil) (P1.go trivial))) (blkOk_by (by kernel_rfl)) (fun x2 hx2 => ⟨_, fun _ c => eg_name c 5, fun _ c => (ev_ixTD (n := 0) ("" : Str) (ev_name 5) ev_int rfl (ne_pos (wc_own _ hx2)))⟩)))) (fun _ => (ev_lst1 (ev_name 1))))))
    (ss_cons (st_set c 7 (ev_ct (c_tuple (xs := (v_rules.2.items.map fun x3 => (if (decide (x3 ∈ (m_greatest_bare v_rules ((m_worst_kinds v_rules).items.getD 0 ("" : Str))).items)) = true then (1 : Int) else (m_factor v_rules)))) rfl) c.b_tuple (ea_cons (EvB.pe (lc0 [("group", 8)] v_rules.2.items (fun x3 => (if (decide (x3 ∈ (m_greatest_bare v_rules ((m_worst_kinds v_rules).items.getD 0 ("" : Str))).items)) = true then (1 : Int) else (m_factor v_rules))) c (ei_tup (ev_call (h_tupled W) c (ea_cons (ev_snd (q := v_rules) (ev_name 0)) ea_nil) (R_tupled.go (flat_T (flat_T (flat_S _))) v_rules.2))) (blkOk_by (by kernel_rfl)) (fun x3 hx3 => ⟨_, fun _ c => eg_name c 8, fun _ c => (ev_ifD (et_cp (f_inT c (x := x3) (xs := (m_greatest_bare v_rules ((m_worst_kinds v_rules).items.getD 0 ("" : Str)))) rfl rfl) (ev_name 8) (ev_name 3)) (fun hif => ev_int) (fun hif => (ev_name 2)))⟩))) ea_nil)))
    (ss_end (st_ret (ev_trip (ev_name 7) (ev_ct (c_tuple (xs := (((m_worst_kinds v_rules).items.getD 0 ("" : Str)) :: (((m_own_kinds (m_greatest_bare v_rules ((m_worst_kinds v_rules).items.getD 0 ("" : Str)))).items.filter fun x1 => (decide ((x1.items.getD 0 ("" : Str)) ≠ ((m_worst_kinds v_rules).items.getD 0 ("" : Str))))).map fun x1 => (x1.items.getD 0 ("" : Str))))) rfl) c.b_tuple (ea_cons (ev_name 4) ea_nil)) (ev_ct (c_tuple (xs := (v_rules.1.items.map fun x4 => (if (decide (x4 ∈ (if (decide ((0 : Int) < ((m_greatest_bare v_rules ((m_worst_kinds v_rules).items.getD 0 ("" : Str))).items.length : Int))) = true then ((m_own_kinds (m_greatest_bare v_rules ((m_worst_kinds v_rules).items.getD 0 ("" : Str)))).items.map fun x2 => (x2.items.getD 0 ("" : Str))) else [((m_worst_kinds v_rules).items.getD 0 ("" : Str))]))) = true then 1 else 0 : Int))) rfl) c.b_tuple (ea_cons (EvB.pe (lc0 [("own", 9)] v_rules.1.items (fun x4 => (if (decide (x4 ∈ (if (decide ((0 : Int) < ((m_greatest_bare v_rules ((m_worst_kinds v_rules).items.getD 0 ("" : Str))).items.length : Int))) = true then ((m_own_kinds (m_greatest_bare v_rules ((m_worst_kinds v_rules).items.getD 0 ("" : Str)))).items.map fun x2 => (x2.items.getD 0 ("" : Str))) else [((m_worst_kinds v_rules).items.getD 0 ("" : Str))]))) = true then 1 else 0 : Int)) c (ei_tup (ev_fst (q := v_rules) (ev_name 0))) (blkOk_by (by kernel_rfl)) (fun x4 hx4 => ⟨_, fun _ c => eg_name c 9, fun _ c => (ev_ct c_intB c.b_int (ea_cons (ev_cp (f_inL c (x := x4) (xs := (if (decide ((0 : Int) < ((m_greatest_bare v_rules ((m_worst_kinds v_rules).items.getD 0 ("" : Str))).items.length : Int))) = true then ((m_own_kinds (m_greatest_bare v_rules ((m_worst_kinds v_rules).items.getD 0 ("" : Str)))).items.map fun x2 => (x2.items.getD 0 ("" : Str))) else [((m_worst_kinds v_rules).items.getD 0 ("" : Str))])) rfl rfl) (ev_name 9) (ev_name 6)) ea_nil))⟩))) ea_nil)))))))))), .rt .dat⟩
/-! ### least_served -/
def m_least_served (v_rules : Rules) (v_most : Int) : Int := (((v_most + (m_factor v_rules)) - (1 : Int)) / (m_factor v_rules))
def N_least_served : List Str := ["rules", "most"]
theorem sc_least_served : FnScope N_least_served ["rules", "most"] (defScope s_least_served) := ⟨rfl, rfl, rfl, by decide +kernel, rfl, by decide +kernel, by decide +kernel⟩
abbrev R_least_served : Rel := P2 (fun (v_rules : Rules) (v_most : Int) => WR v_rules) (fun (v_rules : Rules) (v_most : Int) => dd (m_least_served v_rules v_most))
theorem h_least_served (W : Wld P w K mg base) : Has P w K mg base 12 "least_served" R_least_served := by
  refine has_of (k := 11) W.g W.d_least_served sc_least_served (fun _ _ _ _ _ _ us hl => match us, hl with | [_, _], _ => rfl) (fun rs μ r μ' h => by obtain ⟨a0, a1, h⟩ := h; rw [h.2.1]; rfl) ?_
  rintro f cdv A outer s H E rs μ r μ' c ⟨v_rules, v_most, hp, rfl, rfl, rfl, rfl⟩
  exact ⟨_, (ss_end (st_ret (ev_op (f_fdiv (by have h := fac_le hp; unfold CDiv; omega)) (ev_op f_sub (ev_op f_add (ev_name 1) (ev_call (h_factor W) c (ea_cons (ev_name 0) ea_nil) (P1.go hp))) ev_int) (ev_call (h_factor W) c (ea_cons (ev_name 0) ea_nil) (P1.go hp))))), .rt .dat⟩
/-! ### greatest_most -/
def m_greatest_most (v_rules : Rules) (v_many : Int) : Int := (v_many * (m_factor v_rules))
def N_greatest_most : List Str := ["rules", "many"]
theorem sc_greatest_most : FnScope N_greatest_most ["rules", "many"] (defScope s_greatest_most) := ⟨rfl, rfl, rfl, by decide +kernel, rfl, by decide +kernel, by decide +kernel⟩
theorem gm_mul {a b : Int} (h0 : 0 ≤ a) (h1 : a ≤ 1000) (h : 1 ≤ b ∧ b ≤ 4) : CMul a b := by
  unfold CMul
  omega
abbrev R_greatest_most : Rel := P2 (fun (v_rules : Rules) (v_many : Int) => WR v_rules ∧ 0 ≤ v_many ∧ v_many ≤ 1000) (fun (v_rules : Rules) (v_many : Int) => dd (m_greatest_most v_rules v_many))
theorem h_greatest_most (W : Wld P w K mg base) : Has P w K mg base 12 "greatest_most" R_greatest_most := by
  refine has_of (k := 11) W.g W.d_greatest_most sc_greatest_most (fun _ _ _ _ _ _ us hl => match us, hl with | [_, _], _ => rfl) (fun rs μ r μ' h => by obtain ⟨a0, a1, h⟩ := h; rw [h.2.1]; rfl) ?_
  rintro f cdv A outer s H E rs μ r μ' c ⟨v_rules, v_many, hp, rfl, rfl, rfl, rfl⟩
  exact ⟨_, (ss_end (st_ret (ev_op (f_mul (gm_mul hp.2.1 hp.2.2 (fac_le hp.1))) (ev_name 1) (ev_call (h_factor W) c (ea_cons (ev_name 0) ea_nil) (P1.go hp.1))))), .rt .dat⟩
end
end CL
end
section
set_option autoImplicit false
/-! D-layer 17: the last of a list; lists of zeros. -/
namespace DL
open PySem PySem.Spec PyProof.Rows L2
open PySem.W (Datum Tup DatumOrd Holds HoldAll T3)
section
variable {X : Cx} {Γ : List Sl} {μ μ1 μ2 : Mu} {k : Nat} {a b e : Expr} {ra rb : Sl} {pos p : Pos}
variable {α : Type} [DecidableEq α] [Datum α]
theorem atI_last {ds : List PyData} {d : PyData} : atI (ds ++ [d]) (-1) = some d := by
  unfold atI
  rw [List.length_append]
  have e : ixN (ds.length + [d].length) (-1) = some ds.length := by
    unfold ixN
    rw [if_neg (by decide), if_pos (by show -((ds.length + 1 : Nat) : Int) ≤ -1; omega)]
    congr 1
    show (-1 + ((ds.length + 1 : Nat) : Int)).toNat = ds.length
    omega
  rw [e]
  show (ds ++ [d])[ds.length]? = some d
  simp
theorem ev_lastD {xs : List α} {i : Int} (dflt : α) (ha : Ev X Γ μ a ra μ1) (hb : Ev X Γ μ1 b (dd i) μ2) (e : ra.rd μ2 = some (Datum.toD xs)) (hi : i = -1) (h : xs ≠ []) (hs : PlainIx b := by exact fun _ _ => rfl) : Ev X Γ μ (.Subscript a b pos) (dd (xs.getLastD dflt)) μ2 := by
  obtain ⟨ys, y, rfl⟩ : ∃ ys y, xs = ys ++ [y] := ⟨_, _, (List.dropLast_concat_getLast h).symm⟩
  have e2 : (ys ++ [y]).getLastD dflt = y := by simp
  rw [e2]
  refine ev_ixL ha hb (ds := (ys ++ [y]).map Datum.toD) e ?_ hs
  rw [hi, List.map_append]
  exact atI_last
theorem f_repI {z i : Int} (h0 : 0 ≤ i) (h1 : i ≤ 100000) : OpF X (binaryOp .Mult) μ (fr [z]) (dd i) (fr (List.replicate i.toNat z)) := by
  obtain ⟨n, rfl⟩ := Int.eq_ofNat_of_zero_le h0
  have h := f_repL (X := X) (μ := μ) (ds := [Datum.toD z]) (n := n) (by show 1 * n ≤ _; omega) (by omega)
  have e : ∀ m, (List.replicate m [Datum.toD z]).flatten = (List.replicate m z).map Datum.toD := fun m => by
    induction m with
    | zero => rfl
    | succ m ih => rw [List.replicate_succ, List.replicate_succ, List.flatten_cons, ih]; rfl
  rw [e] at h
  exact h
end
end DL
end
section
set_option autoImplicit false
namespace CL
open PySem PySem.Spec PyProof.Rows L2 DL
open PySem.W (Datum Tup DatumOrd Holds HoldAll T3)
/-! Contracts 7. -/
section
variable {P : Program} {w : World} {K : PySem.W.Frag} {mg : Str → Option Value} {base : Heap}

/-! ### place_of -/
def m_place_of (v_rules : Rules) (v_group : (Tup Str)) : Int := ((v_rules.2.items.idxOf v_group : Nat) : Int)
def N_place_of : List Str := ["rules", "group"]
theorem sc_place_of : FnScope N_place_of ["rules", "group"] (defScope s_place_of) := ⟨rfl, rfl, rfl, by decide +kernel, rfl, by decide +kernel, by decide +kernel⟩
abbrev R_place_of : Rel := P2 (fun (v_rules : Rules) (v_group : (Tup Str)) => v_group ∈ v_rules.2.items) (fun (v_rules : Rules) (v_group : (Tup Str)) => dd (m_place_of v_rules v_group))
theorem h_place_of (W : Wld P w K mg base) : Has P w K mg base 6 "place_of" R_place_of := by
  refine has_of (k := 5) W.g W.d_place_of sc_place_of (fun _ _ _ _ _ _ us hl => match us, hl with | [_, _], _ => rfl) (fun rs μ r μ' h => by obtain ⟨a0, a1, h⟩ := h; rw [h.2.1]; rfl) ?_
  rintro f cdv A outer s H E rs μ r μ' c ⟨v_rules, v_group, hp, rfl, rfl, rfl, rfl⟩
  exact ⟨_, (ss_cons (st_expr (ev_call (h_check_group W) c (ea_cons (ev_name 0) (ea_cons (ev_name 1) ea_nil)) (P2.go hp)))
    (ss_end (st_ret (ev_index c (ef_tupled W c (ea_cons (ev_snd (q := v_rules) (ev_name 0)) ea_nil) (flatTs_map (flat_T (flat_S _)) _)) (ev_call (h_tupled W) c (ea_cons (ev_name 1) ea_nil) (R_tupled.go (flat_T (flat_S _)) v_group)) hp)))), .rt .dat⟩
/-! ### limit_of -/
def m_limit_of (v_rules : Rules) (v_limits : (Tup Int)) (v_group : (Tup Str)) : Int := (v_limits.items.getD (m_place_of v_rules v_group).toNat (0 : Int))
def N_limit_of : List Str := ["rules", "limits", "group"]
theorem sc_limit_of : FnScope N_limit_of ["rules", "limits", "group"] (defScope s_limit_of) := ⟨rfl, rfl, rfl, by decide +kernel, rfl, by decide +kernel, by decide +kernel⟩
theorem lim_ix {R : Rules} {L : Tup Int} {g : Tup Str} (h : g ∈ R.2.items) (hl : WG R L) : (m_place_of R g).toNat < L.items.length := by
  have a := List.idxOf_lt_length_iff.mpr h
  unfold WG at hl
  unfold m_place_of
  omega
abbrev R_limit_of : Rel := P3 (fun (v_rules : Rules) (v_limits : (Tup Int)) (v_group : (Tup Str)) => v_group ∈ v_rules.2.items ∧ WG v_rules v_limits) (fun (v_rules : Rules) (v_limits : (Tup Int)) (v_group : (Tup Str)) => dd (m_limit_of v_rules v_limits v_group))
theorem h_limit_of (W : Wld P w K mg base) : Has P w K mg base 7 "limit_of" R_limit_of := by
  refine has_of (k := 6) W.g W.d_limit_of sc_limit_of (fun _ _ _ _ _ _ us hl => match us, hl with | [_, _, _], _ => rfl) (fun rs μ r μ' h => by obtain ⟨a0, a1, a2, h⟩ := h; rw [h.2.1]; rfl) ?_
  rintro f cdv A outer s H E rs μ r μ' c ⟨v_rules, v_limits, v_group, hp, rfl, rfl, rfl, rfl⟩
  exact ⟨_, (ss_end (st_ret (ev_ixTD (n := (m_place_of v_rules v_group).toNat) (0 : Int) (ev_name 1) (ev_call (h_place_of W) c (ea_cons (ev_name 0) (ea_cons (ev_name 2) ea_nil)) (P2.go hp.1)) (by unfold m_place_of; omega) (lim_ix hp.1 hp.2)))), .rt .dat⟩
/-! ### all_lots -/
def m_all_lots (v_rules : Rules) (v_limits : (Tup Int)) (v_demands : (Tup Int)) : (List (Tup Int)) := (v_demands.items.foldl (fun (t1 : Int × (List (Tup Int))) u1 => ((t1.1 - (1 : Int)), ((t1.2.flatMap fun x1 => (rangeI (u1 + (1 : Int)).toNat).map fun x2 => (Tup.mk (x1.items ++ [x2]))).filter fun x3 => (m_keeps v_rules v_limits (Tup.mk (x3.items ++ (List.replicate (t1.1 - (1 : Int)).toNat (0 : Int)))))))) ((v_demands.items.length : Int), [(Tup.mk ([] : List Int))])).2
def N_all_lots : List Str := ["rules", "limits", "demands", "found", "rest", "number", "lot", "many"]
theorem sc_all_lots : FnScope N_all_lots ["rules", "limits", "demands"] (defScope s_all_lots) := ⟨rfl, rfl, rfl, by decide +kernel, rfl, by decide +kernel, by decide +kernel⟩
abbrev alMore (t : List (Tup Int)) (u : Int) : List (Tup Int) := t.flatMap fun x1 => (rangeI (u + 1).toNat).map fun x2 => Tup.mk (x1.items ++ [x2])
def AlI (R : Rules) (D : Tup Int) (i : Nat) (t : Int × List (Tup Int)) : Prop := t.1 = (D.items.length : Int) - i ∧ t.2.length ≤ 4 ^ i ∧ ∀ lot ∈ t.2, lot.items.length = i
theorem rangeI_len (n : Nat) : (rangeI n).length = n := by unfold rangeI; rw [List.length_map, List.length_range]
theorem al_zero {R : Rules} {D : Tup Int} (h : WD R D) : AlI R D 0 ((D.items.length : Int), [Tup.mk ([] : List Int)]) := ⟨by show _ = _ - ((0 : Nat) : Int); omega, Nat.le_refl _, fun lot hl => by rw [List.mem_singleton.mp hl]; rfl⟩
theorem al_u {R : Rules} {D : Tup Int} {i : Nat} {u : Int} (h : WD R D) (hu : D.items[i]? = some u) : 0 ≤ u ∧ u ≤ 3 ∧ i < D.items.length := by
  have m := List.mem_of_getElem? hu
  exact ⟨h.lo u m, h.hi u m, (List.getElem?_eq_some_iff.mp hu).1⟩
theorem al_more {t : List (Tup Int)} {u : Int} (h0 : 0 ≤ u) (h : u ≤ 3) : (alMore t u).length ≤ 4 * t.length := by
  induction t with
  | nil => exact Nat.le_refl _
  | cons x t ih =>
    unfold alMore at ih ⊢
    rw [List.flatMap_cons, List.length_append, List.length_map, rangeI_len, List.length_cons]
    omega
theorem al_mem {t : List (Tup Int)} {u : Int} {lot : Tup Int} {i : Nat} (h : ∀ l ∈ t, l.items.length = i) (hm : lot ∈ alMore t u) : lot.items.length = i + 1 := by
  obtain ⟨x, hx, hm⟩ := List.mem_flatMap.mp hm
  obtain ⟨y, _, rfl⟩ := List.mem_map.mp hm
  show (x.items ++ [y]).length = _
  rw [List.length_append, h x hx]
  rfl
theorem al_step {R : Rules} {D : Tup Int} {i : Nat} {t : Int × List (Tup Int)} {u : Int} {q : Tup Int → Bool} (h : WD R D) (hI : AlI R D i t) (hu : D.items[i]? = some u) : AlI R D (i + 1) (t.1 - 1, (alMore t.2 u).filter q) := by
  have a := al_u h hu
  refine ⟨?_, ?_, fun lot hl => al_mem hI.2.2 (List.mem_filter.mp hl).1⟩
  · have b := hI.1
    show t.1 - 1 = _ - ((i + 1 : Nat) : Int)
    omega
  · have b := List.length_filter_le q (alMore t.2 u)
    have c := al_more (t := t.2) a.1 a.2.1
    have d := hI.2.1
    show ((alMore t.2 u).filter q).length ≤ _
    rw [Nat.pow_succ]
    omega
theorem al_dl {R : Rules} {D : Tup Int} (r : WR R) (h : WD R D) : D.items.length ≤ 4 := by have a := h.len; have b := r.kl; unfold WK at a; omega
theorem al_few {R : Rules} {D : Tup Int} {i : Nat} {t : Int × List (Tup Int)} {u : Int} (r : WR R) (h : WD R D) (hI : AlI R D i t) (hu : D.items[i]? = some u) : (alMore t.2 u).length ≤ 100000 := by
  have a := al_u h hu
  have b := al_more (t := t.2) a.1 a.2.1
  have c := hI.2.1
  have d := al_dl r h
  have e : 4 ^ i ≤ 4 ^ 4 := Nat.pow_le_pow_right (by decide) (by omega)
  omega
theorem al_hi {R : Rules} {D : Tup Int} {i : Nat} {u : Int} (h : WD R D) (hu : D.items[i]? = some u) : u + 1 ≤ 100000 := by have a := al_u h hu; omega
theorem al_lo {R : Rules} {D : Tup Int} {i : Nat} {u : Int} (h : WD R D) (hu : D.items[i]? = some u) : -100000 ≤ u + 1 := by have a := al_u h hu; omega
theorem al_len {R : Rules} {D : Tup Int} {i : Nat} {t : Int × List (Tup Int)} {u : Int} {x : Tup Int} (r : WR R) (h : WD R D) (hI : AlI R D i t) (hu : D.items[i]? = some u) (hx : x ∈ t.2) : x.items.length ≤ 90000 := by
  have a := hI.2.2 x hx
  have b := al_u h hu
  have d := al_dl r h
  omega
theorem al_r0 {R : Rules} {D : Tup Int} {i : Nat} {t : Int × List (Tup Int)} {u : Int} (h : WD R D) (hI : AlI R D i t) (hu : D.items[i]? = some u) : 0 ≤ t.1 - 1 := by
  have a := hI.1
  have b := al_u h hu
  omega
theorem al_r1 {R : Rules} {D : Tup Int} {i : Nat} {t : Int × List (Tup Int)} {u : Int} (r : WR R) (h : WD R D) (hI : AlI R D i t) (hu : D.items[i]? = some u) : t.1 - 1 ≤ 100000 := by
  have a := hI.1
  have b := al_u h hu
  have d := al_dl r h
  omega
theorem al_cat {R : Rules} {D : Tup Int} {i : Nat} {t : Int × List (Tup Int)} {u : Int} {x : Tup Int} (r : WR R) (h : WD R D) (hI : AlI R D i t) (hu : D.items[i]? = some u) (hx : x ∈ alMore t.2 u) : x.items.length + (List.replicate (t.1 - 1).toNat (0 : Int)).length ≤ 100000 := by
  have e := al_mem hI.2.2 hx
  have a := hI.1
  have b := al_u h hu
  have d := al_dl r h
  rw [List.length_replicate]
  omega
theorem al_wk {R : Rules} {D : Tup Int} {i : Nat} {t : Int × List (Tup Int)} {u : Int} {x : Tup Int} (h : WD R D) (hI : AlI R D i t) (hu : D.items[i]? = some u) (hx : x ∈ alMore t.2 u) : WK R (Tup.mk (x.items ++ List.replicate (t.1 - 1).toNat (0 : Int))) := by
  have e := al_mem hI.2.2 hx
  have a := hI.1
  have b := al_u h hu
  have d := h.len
  unfold WK at d ⊢
  show (x.items ++ List.replicate (t.1 - 1).toNat (0 : Int)).length = _
  rw [List.length_append, List.length_replicate]
  omega
abbrev R_all_lots : Rel := P3 (fun (v_rules : Rules) (v_limits : (Tup Int)) (v_demands : (Tup Int)) => WR v_rules ∧ WD v_rules v_demands) (fun (v_rules : Rules) (v_limits : (Tup Int)) (v_demands : (Tup Int)) => dd (m_all_lots v_rules v_limits v_demands))
theorem h_all_lots (W : Wld P w K mg base) : Has P w K mg base 8 "all_lots" R_all_lots := by
  refine has_of (k := 7) W.g W.d_all_lots sc_all_lots (fun _ _ _ _ _ _ us hl => match us, hl with | [_, _, _], _ => rfl) (fun rs μ r μ' h => by obtain ⟨a0, a1, a2, h⟩ := h; rw [h.2.1]; rfl) ?_
  rintro f cdv A outer s H E rs μ r μ' c ⟨v_rules, v_limits, v_demands, hp, rfl, rfl, rfl, rfl⟩
  exact ⟨_, (ss_cons (st_par' c 3 4 (en_cons (ev_lst1 (ev_tup0 (α := Int))) (en_cons (ev_cb (c_lenT (t := v_demands) rfl) c.b_len (ea_cons (ev_name 2) ea_nil)) en_nil)) (.frz (.sta rfl .nil)))
    (ss_cons (st_fold [5] v_demands.items (fun (t1 : Int × (List (Tup Int))) u1 => ((t1.1 - (1 : Int)), ((t1.2.flatMap fun x1 => (rangeI (u1 + (1 : Int)).toNat).map fun x2 => (Tup.mk (x1.items ++ [x2]))).filter fun x3 => (m_keeps v_rules v_limits (Tup.mk (x3.items ++ (List.replicate (t1.1 - (1 : Int)).toNat (0 : Int)))))))) ((v_demands.items.length : Int), [(Tup.mk ([] : List Int))]) (fun t1 => [dd v_rules, dd v_limits, dd v_demands, dd t1.2, dd t1.1, .un, .un, .un]) (fun t1 => []) (AlI v_rules v_demands) c (ei_tup (ev_name 2)) (al_zero hp.2) Fits.refl rfl (fun i t1 u1 hu1 hI1 => ⟨(al_step hp.2 hI1 hu1), _, _, eg_name c 5, (ss_cons (st_set c 4 (ev_op f_sub (ev_name 4) ev_int))
    (ss_cons (st_setB c 3 (EvB.frz (lc20 [("lot", 6), ("many", 7)] [7] t1.2 (fun x1 => (rangeI (u1 + (1 : Int)).toNat)) (fun x1 x2 => (Tup.mk (x1.items ++ [x2]))) c (ei_list (ev_name 3)) (blkOk_by (by kernel_rfl)) (by decide) (al_few hp.1 hp.2 hI1 hu1) (fun x1 hx1 => ⟨_, fun _ c => eg_name c 6, fun _ c => (ei_range c (ev_op f_add (ev_name 5) ev_int) (al_hi hp.2 hu1) (al_lo hp.2 hu1)), fun x2 hx2 => ⟨_, fun _ c => eg_name c 7, fun _ c => (ev_snoc (ev_name 6) (ev_name 7) (al_len hp.1 hp.2 hI1 hu1 hx1))⟩⟩))) (sw_true rfl rfl rfl rfl))
    (ss_cons (st_setB c 3 (EvB.frz (lcf [("lot", 6)] (t1.2.flatMap fun x1 => (rangeI (u1 + (1 : Int)).toNat).map fun x2 => (Tup.mk (x1.items ++ [x2]))) (fun x3 => (m_keeps v_rules v_limits (Tup.mk (x3.items ++ (List.replicate (t1.1 - (1 : Int)).toNat (0 : Int)))))) c (ei_list (ev_name 3)) (blkOk_by (by kernel_rfl)) (fun x3 hx3 => ⟨_, fun _ c => eg_name c 6, fun _ c => (et_val (ev_call (h_keeps W) c (ea_cons (ev_name 0) (ea_cons (ev_name 1) (ea_cons (ev_cat2 (ev_name 6) (Ev.frz' (ev_op (f_repI (al_r0 hp.2 hI1 hu1) (al_r1 hp.1 hp.2 hI1 hu1)) (ev_lst1 ev_int) (ev_name 4))) (al_cat hp.1 hp.2 hI1 hu1 hx3)) ea_nil))) (P3.go ⟨hp.1, al_wk hp.2 hI1 hu1 hx3⟩))), fun hif _ c => (ev_name 6)⟩))) (sw_true rfl rfl rfl rfl))
    ss_nil))), .nx (.keep (.keep (.keep (.keep (.keep (.drop (.keep (.keep .nil))))))))⟩))
    (ss_end (st_ret (ev_name 3))))), .rt .dat⟩
end
end CL
end
section
set_option autoImplicit false
namespace CL
open PySem PySem.Spec PyProof.Rows L2 DL
open PySem.W (Datum Tup DatumOrd Holds HoldAll T3)
/-! Contracts 8. -/
section
variable {P : Program} {w : World} {K : PySem.W.Frag} {mg : Str → Option Value} {base : Heap}

/-! ### open_groups -/
def m_open_groups (v_rules : Rules) (v_limits : (Tup Int)) (v_row : (Tup Str)) : ((Tup Bool) × (List Int)) := ((Tup.mk (v_row.items.foldl (fun (t1 : List Int × List Bool) u1 => (((((enumL v_rules.2.items).filter fun x1 => (decide (u1 ∈ x1.2.items))).map fun x1 => x1.1).foldl (fun (t2 : List Int) u2 => (t2.set u2.toNat ((t2.getD u2.toNat (0 : Int)) - (if ((t1.2 ++ [(((((enumL v_rules.2.items).filter fun x1 => (decide (u1 ∈ x1.2.items))).map fun x1 => x1.1).map fun x2 => (decide ((0 : Int) < (t1.1.getD x2.toNat (0 : Int))))).all id)]).getLastD false) = true then 1 else 0 : Int)))) t1.1), (t1.2 ++ [(((((enumL v_rules.2.items).filter fun x1 => (decide (u1 ∈ x1.2.items))).map fun x1 => x1.1).map fun x2 => (decide ((0 : Int) < (t1.1.getD x2.toNat (0 : Int))))).all id)]))) (v_limits.items, ([] : List Bool))).2), (v_row.items.foldl (fun (t1 : List Int × List Bool) u1 => (((((enumL v_rules.2.items).filter fun x1 => (decide (u1 ∈ x1.2.items))).map fun x1 => x1.1).foldl (fun (t2 : List Int) u2 => (t2.set u2.toNat ((t2.getD u2.toNat (0 : Int)) - (if ((t1.2 ++ [(((((enumL v_rules.2.items).filter fun x1 => (decide (u1 ∈ x1.2.items))).map fun x1 => x1.1).map fun x2 => (decide ((0 : Int) < (t1.1.getD x2.toNat (0 : Int))))).all id)]).getLastD false) = true then 1 else 0 : Int)))) t1.1), (t1.2 ++ [(((((enumL v_rules.2.items).filter fun x1 => (decide (u1 ∈ x1.2.items))).map fun x1 => x1.1).map fun x2 => (decide ((0 : Int) < (t1.1.getD x2.toNat (0 : Int))))).all id)]))) (v_limits.items, ([] : List Bool))).1)
def N_open_groups : List Str := ["rules", "limits", "row", "groups", "room", "found", "name", "places", "place", "group"]
theorem sc_open_groups : FnScope N_open_groups ["rules", "limits", "row"] (defScope s_open_groups) := ⟨rfl, rfl, rfl, by decide +kernel, rfl, by decide +kernel, by decide +kernel⟩
theorem og_pl {gs : List (Tup Str)} {q : Int × Tup Str → Bool} {p : Int} (h : p ∈ ((enumL gs).filter q).map (·.1)) : p = (p.toNat : Int) ∧ p.toNat < gs.length := by
  obtain ⟨z, hz, rfl⟩ := List.mem_map.mp h
  have a := (List.mem_filter.mp hz).1
  unfold enumL at a
  obtain ⟨y, hy, rfl⟩ := List.mem_map.mp a
  obtain ⟨i, hi⟩ := List.mem_iff_getElem?.mp hy
  rw [List.getElem?_zipIdx] at hi
  obtain ⟨g, hg, rfl⟩ := Option.map_eq_some_iff.mp hi
  have b := (List.getElem?_eq_some_iff.mp hg).1
  exact ⟨rfl, by show (((0 + i : Nat) : Int)).toNat < _; omega⟩
theorem og_lt {α : Type} {n m : Nat} {xs : List α} (h : xs.length = n) (k : m < n) : m < xs.length := h ▸ k
theorem og_set {n m : Nat} {v : Int} {xs : List Int} (h : xs.length = n) : (xs.set m v).length = n := by rw [List.length_set]; exact h
theorem og_len {f : List Int → Int → Int} {st : List Int → Int → List Int} (hst : ∀ t u, st t u = t.set u.toNat (f t u)) : ∀ (ps : List Int) (xs : List Int) (n : Nat), xs.length = n → (ps.foldl st xs).length = n
  | [], xs, n, h => h
  | p :: ps, xs, n, h => og_len hst ps _ n (by rw [hst, List.length_set]; exact h)
theorem og_suc {n : Nat} {v : Bool} {xs : List Bool} (h : xs.length = n) : (xs ++ [v]).length = n + 1 := by rw [List.length_append, h]; rfl
theorem og_app {i : Nat} {xs : List Bool} {row : List Str} {u : Str} (h : xs.length = i) (hu : row[i]? = some u) (hl : row.length ≤ 8) : xs.length ≤ 100000 := by
  have a := (List.getElem?_eq_some_iff.mp hu).1
  omega
abbrev R_open_groups : Rel := P3 (fun (v_rules : Rules) (v_limits : (Tup Int)) (v_row : (Tup Str)) => WR v_rules ∧ WG v_rules v_limits ∧ v_row.items.length ≤ 8) (fun (v_rules : Rules) (v_limits : (Tup Int)) (v_row : (Tup Str)) => dd (m_open_groups v_rules v_limits v_row))
theorem h_open_groups (W : Wld P w K mg base) : Has P w K mg base 5 "open_groups" R_open_groups := by
  refine has_of (k := 4) W.g W.d_open_groups sc_open_groups (fun _ _ _ _ _ _ us hl => match us, hl with | [_, _, _], _ => rfl) (fun rs μ r μ' h => by obtain ⟨a0, a1, a2, h⟩ := h; rw [h.2.1]; rfl) ?_
  rintro f cdv A outer s H E rs μ r μ' c ⟨v_rules, v_limits, v_row, hp, rfl, rfl, rfl, rfl⟩
  exact ⟨_, (ss_cons (st_par3' c 3 4 5 (en_cons (ev_call (h_tupled W) c (ea_cons (ev_snd (q := v_rules) (ev_name 0)) ea_nil) (R_tupled.go (flat_T (flat_T (flat_S _))) v_rules.2)) (en_cons (ev_ct (c_listT (ds := (v_limits.items).map Datum.toD) rfl) c.b_list (ea_cons (ev_name 1) ea_nil)) (en_cons (ev_lst0 (α := Bool)) en_nil))) (.sta rfl (.new (.new .nil))))
    (ss_cons (st_fold [6] v_row.items (fun (t1 : List Int × List Bool) u1 => (((((enumL v_rules.2.items).filter fun x1 => (decide (u1 ∈ x1.2.items))).map fun x1 => x1.1).foldl (fun (t2 : List Int) u2 => (t2.set u2.toNat ((t2.getD u2.toNat (0 : Int)) - (if ((t1.2 ++ [(((((enumL v_rules.2.items).filter fun x1 => (decide (u1 ∈ x1.2.items))).map fun x1 => x1.1).map fun x2 => (decide ((0 : Int) < (t1.1.getD x2.toNat (0 : Int))))).all id)]).getLastD false) = true then 1 else 0 : Int)))) t1.1), (t1.2 ++ [(((((enumL v_rules.2.items).filter fun x1 => (decide (u1 ∈ x1.2.items))).map fun x1 => x1.1).map fun x2 => (decide ((0 : Int) < (t1.1.getD x2.toNat (0 : Int))))).all id)]))) (v_limits.items, ([] : List Bool)) (fun t1 => [dd v_rules, dd v_limits, dd v_row, dd v_rules.2, .cel 0, .cel 1, .un, .un, .un, .un]) (fun t1 => [cl t1.1, cl t1.2]) (fun i (t : List Int × List Bool) => t.1.length = v_rules.2.items.length ∧ t.2.length = i) c (ei_tup (ev_name 2)) ⟨hp.2.1, rfl⟩ Fits.refl rfl (fun i t1 u1 hu1 hI1 => ⟨⟨og_len (fun _ _ => rfl) _ _ _ hI1.1, og_suc hI1.2⟩, _, _, eg_name c 6, (ss_cons (st_setB c 7 (EvB.frz (lc1 [("place", 8), ("group", 9)] (enumL v_rules.2.items) (fun x1 => (decide (u1 ∈ x1.2.items))) (fun x1 => x1.1) c (EvI.cast (ei_enumT c (ev_name 3)) (enumD_map _)) (blkOk_by (by kernel_rfl)) (fun x1 hx1 => ⟨_, fun _ c => eg_tup c (egs_cons (eg_name c 8) (egs_cons (eg_name c 9) egs_nil)), fun _ c => (et_cp (f_inT c (x := u1) (xs := x1.2) rfl rfl) (ev_name 6) (ev_name 9)), fun hif _ c => (ev_name 8)⟩))) (sw_true rfl rfl rfl rfl))
    (ss_cons (st_expr (ev_appendT (xs := t1.2) (ys := t1.2) (x := (((((enumL v_rules.2.items).filter fun x1 => (decide (u1 ∈ x1.2.items))).map fun x1 => x1.1).map fun x2 => (decide ((0 : Int) < (t1.1.getD x2.toNat (0 : Int))))).all id)) (ev_name 5) (ev_cb (c_all c (xs := ((((enumL v_rules.2.items).filter fun x1 => (decide (u1 ∈ x1.2.items))).map fun x1 => x1.1).map fun x2 => (decide ((0 : Int) < (t1.1.getD x2.toNat (0 : Int)))))) rfl) c.b_all (ea_cons (EvB.pe (lc0 [("place", 8)] (((enumL v_rules.2.items).filter fun x1 => (decide (u1 ∈ x1.2.items))).map fun x1 => x1.1) (fun x2 => (decide ((0 : Int) < (t1.1.getD x2.toNat (0 : Int))))) c (ei_list (ev_name 7)) (blkOk_by (by kernel_rfl)) (fun x2 hx2 => ⟨_, fun _ c => eg_name c 8, fun _ c => (ev_cp f_gt (ev_ixLD (xs := t1.1) (n := x2.toNat) (0 : Int) (ev_name 4) (ev_name 8) rfl (og_pl hx2).1 (og_lt hI1.1 (og_pl hx2).2)) ev_int)⟩))) ea_nil)) rfl rfl (og_app hI1.2 hu1 hp.2.2)))
    (ss_cons (st_fold [8] (((enumL v_rules.2.items).filter fun x1 => (decide (u1 ∈ x1.2.items))).map fun x1 => x1.1) (fun (t2 : List Int) u2 => (t2.set u2.toNat ((t2.getD u2.toNat (0 : Int)) - (if ((t1.2 ++ [(((((enumL v_rules.2.items).filter fun x1 => (decide (u1 ∈ x1.2.items))).map fun x1 => x1.1).map fun x2 => (decide ((0 : Int) < (t1.1.getD x2.toNat (0 : Int))))).all id)]).getLastD false) = true then 1 else 0 : Int)))) t1.1 (fun t2 => [dd v_rules, dd v_limits, dd v_row, dd v_rules.2, .cel 0, .cel 1, dd u1, dd (((enumL v_rules.2.items).filter fun x1 => (decide (u1 ∈ x1.2.items))).map fun x1 => x1.1), .un, .un]) (fun t2 => [cl t2, cl (t1.2 ++ [(((((enumL v_rules.2.items).filter fun x1 => (decide (u1 ∈ x1.2.items))).map fun x1 => x1.1).map fun x2 => (decide ((0 : Int) < (t1.1.getD x2.toNat (0 : Int))))).all id)])]) (fun _ (t : List Int) => t.length = v_rules.2.items.length) c (ei_list (ev_name 7)) hI1.1 Fits.refl rfl (fun i t2 u2 hu2 hI2 => ⟨(og_set hI2), _, _, eg_name c 8, (ss_cons (st_setixT (n := 0) (j := u2.toNat) (xs := t2) (x := ((t2.getD u2.toNat (0 : Int)) - (if ((t1.2 ++ [(((((enumL v_rules.2.items).filter fun x1 => (decide (u1 ∈ x1.2.items))).map fun x1 => x1.1).map fun x2 => (decide ((0 : Int) < (t1.1.getD x2.toNat (0 : Int))))).all id)]).getLastD false) = true then 1 else 0 : Int))) (ev_op f_sub (ev_ixLD (xs := t2) (n := u2.toNat) (0 : Int) (ev_name 4) (ev_name 8) rfl (og_pl (List.mem_of_getElem? hu2)).1 (og_lt hI2 (og_pl (List.mem_of_getElem? hu2)).2)) (ev_ct c_intB c.b_int (ea_cons (ev_lastD (xs := (t1.2 ++ [(((((enumL v_rules.2.items).filter fun x1 => (decide (u1 ∈ x1.2.items))).map fun x1 => x1.1).map fun x2 => (decide ((0 : Int) < (t1.1.getD x2.toNat (0 : Int))))).all id)])) false (ev_name 5) (ev_neg ev_int) rfl rfl (by simp)) ea_nil))) (ev_name 4) (ev_name 8) rfl (og_pl (List.mem_of_getElem? hu2)).1 (og_lt hI2 (og_pl (List.mem_of_getElem? hu2)).2))
    ss_nil), .nx (.keep (.keep (.keep (.keep (.keep (.keep (.keep (.keep (.drop (.keep .nil))))))))))⟩))
    ss_nil))), .nx (.keep (.keep (.keep (.keep (.keep (.keep (.drop (.drop (.keep (.keep .nil))))))))))⟩))
    (ss_frz (n := 0) (xs := ((v_row.items.foldl (fun (t1 : List Int × List Bool) u1 => (((((enumL v_rules.2.items).filter fun x1 => (decide (u1 ∈ x1.2.items))).map fun x1 => x1.1).foldl (fun (t2 : List Int) u2 => (t2.set u2.toNat ((t2.getD u2.toNat (0 : Int)) - (if ((t1.2 ++ [(((((enumL v_rules.2.items).filter fun x1 => (decide (u1 ∈ x1.2.items))).map fun x1 => x1.1).map fun x2 => (decide ((0 : Int) < (t1.1.getD x2.toNat (0 : Int))))).all id)]).getLastD false) = true then 1 else 0 : Int)))) t1.1), (t1.2 ++ [(((((enumL v_rules.2.items).filter fun x1 => (decide (u1 ∈ x1.2.items))).map fun x1 => x1.1).map fun x2 => (decide ((0 : Int) < (t1.1.getD x2.toNat (0 : Int))))).all id)]))) (v_limits.items, ([] : List Bool))).1).map Datum.toD) rfl (ss_end (st_ret (ev_pair (ev_ct (c_tuple (xs := (v_row.items.foldl (fun (t1 : List Int × List Bool) u1 => (((((enumL v_rules.2.items).filter fun x1 => (decide (u1 ∈ x1.2.items))).map fun x1 => x1.1).foldl (fun (t2 : List Int) u2 => (t2.set u2.toNat ((t2.getD u2.toNat (0 : Int)) - (if ((t1.2 ++ [(((((enumL v_rules.2.items).filter fun x1 => (decide (u1 ∈ x1.2.items))).map fun x1 => x1.1).map fun x2 => (decide ((0 : Int) < (t1.1.getD x2.toNat (0 : Int))))).all id)]).getLastD false) = true then 1 else 0 : Int)))) t1.1), (t1.2 ++ [(((((enumL v_rules.2.items).filter fun x1 => (decide (u1 ∈ x1.2.items))).map fun x1 => x1.1).map fun x2 => (decide ((0 : Int) < (t1.1.getD x2.toNat (0 : Int))))).all id)]))) (v_limits.items, ([] : List Bool))).2) rfl) c.b_tuple (ea_cons (ev_name 5) ea_nil)) (ev_name 4))))))), .rt .dat⟩
/-! ### served -/
def m_served (v_rules : Rules) (v_limits : (Tup Int)) (v_row : (Tup Str)) : (Tup Bool) := (m_open_groups v_rules v_limits v_row).1
def N_served : List Str := ["rules", "limits", "row"]
theorem sc_served : FnScope N_served ["rules", "limits", "row"] (defScope s_served) := ⟨rfl, rfl, rfl, by decide +kernel, rfl, by decide +kernel, by decide +kernel⟩
abbrev R_served : Rel := P3 (fun (v_rules : Rules) (v_limits : (Tup Int)) (v_row : (Tup Str)) => WR v_rules ∧ WG v_rules v_limits ∧ v_row.items.length ≤ 8) (fun (v_rules : Rules) (v_limits : (Tup Int)) (v_row : (Tup Str)) => dd (m_served v_rules v_limits v_row))
theorem h_served (W : Wld P w K mg base) : Has P w K mg base 6 "served" R_served := by
  refine has_of (k := 5) W.g W.d_served sc_served (fun _ _ _ _ _ _ us hl => match us, hl with | [_, _, _], _ => rfl) (fun rs μ r μ' h => by obtain ⟨a0, a1, a2, h⟩ := h; rw [h.2.1]; rfl) ?_
  rintro f cdv A outer s H E rs μ r μ' c ⟨v_rules, v_limits, v_row, hp, rfl, rfl, rfl, rfl⟩
  exact ⟨_, (ss_end (st_ret (ev_fst (q := (m_open_groups v_rules v_limits v_row)) (ev_call (h_open_groups W) c (ea_cons (ev_name 0) (ea_cons (ev_name 1) (ea_cons (ev_name 2) ea_nil))) (P3.go hp))))), .rt .dat⟩
/-! ### end_of -/
def m_end_of (v_rules : Rules) (v_limits : (Tup Int)) (v_row : (Tup Str)) : (Tup Int) := (Tup.mk (v_rules.1.items.map fun x1 => (((v_row.items.zip (m_served v_rules v_limits v_row).items).filter fun x2 => (decide (x2.1 = x1))).map fun x2 => (if x2.2 = true then 1 else 0 : Int)).sum))
def N_end_of : List Str := ["rules", "limits", "row", "marks", "name", "mark", "kind"]
theorem sc_end_of : FnScope N_end_of ["rules", "limits", "row"] (defScope s_end_of) := ⟨rfl, rfl, rfl, by decide +kernel, rfl, by decide +kernel, by decide +kernel⟩
abbrev R_end_of : Rel := P3 (fun (v_rules : Rules) (v_limits : (Tup Int)) (v_row : (Tup Str)) => WR v_rules ∧ WG v_rules v_limits ∧ v_row.items.length ≤ 8) (fun (v_rules : Rules) (v_limits : (Tup Int)) (v_row : (Tup Str)) => dd (m_end_of v_rules v_limits v_row))
theorem h_end_of (W : Wld P w K mg base) : Has P w K mg base 7 "end_of" R_end_of := by
  refine has_of (k := 6) W.g W.d_end_of sc_end_of (fun _ _ _ _ _ _ us hl => match us, hl with | [_, _, _], _ => rfl) (fun rs μ r μ' h => by obtain ⟨a0, a1, a2, h⟩ := h; rw [h.2.1]; rfl) ?_
  rintro f cdv A outer s H E rs μ r μ' c ⟨v_rules, v_limits, v_row, hp, rfl, rfl, rfl, rfl⟩
  exact ⟨_, (ss_cons (st_set c 3 (ev_call (h_served W) c (ea_cons (ev_name 0) (ea_cons (ev_name 1) (ea_cons (ev_name 2) ea_nil))) (P3.go hp)))
    (ss_end (st_ret (ev_ct (c_tuple (xs := (v_rules.1.items.map fun x1 => (((v_row.items.zip (m_served v_rules v_limits v_row).items).filter fun x2 => (decide (x2.1 = x1))).map fun x2 => (if x2.2 = true then 1 else 0 : Int)).sum)) rfl) c.b_tuple (ea_cons (EvB.pe (lc0 [("kind", 6)] v_rules.1.items (fun x1 => (((v_row.items.zip (m_served v_rules v_limits v_row).items).filter fun x2 => (decide (x2.1 = x1))).map fun x2 => (if x2.2 = true then 1 else 0 : Int)).sum) c (ei_tup (ev_fst (q := v_rules) (ev_name 0))) (blkOk_by (by kernel_rfl)) (fun x1 hx1 => ⟨_, fun _ c => eg_name c 6, fun _ c => (ev_cb (c_sumL c (xs := (((v_row.items.zip (m_served v_rules v_limits v_row).items).filter fun x2 => (decide (x2.1 = x1))).map fun x2 => (if x2.2 = true then 1 else 0 : Int))) rfl) c.b_sum (ea_cons (EvB.pe (lc1 [("name", 4), ("mark", 5)] (v_row.items.zip (m_served v_rules v_limits v_row).items) (fun x2 => (decide (x2.1 = x1))) (fun x2 => (if x2.2 = true then 1 else 0 : Int)) c (EvI.cast (ei_zipT c (ev_name 2) (ev_name 3)) (zipD_map _ _)) (blkOk_by (by kernel_rfl)) (fun x2 hx2 => ⟨_, fun _ c => eg_tup c (egs_cons (eg_name c 4) (egs_cons (eg_name c 5) egs_nil)), fun _ c => (et_cp (f_eq c (x := x2.1) (y := x1) rfl rfl) (ev_name 4) (ev_name 6)), fun hif _ c => (ev_ct c_intB c.b_int (ea_cons (ev_name 5) ea_nil))⟩))) ea_nil))⟩))) ea_nil))))), .rt .dat⟩
end
end CL
end
section
set_option autoImplicit false
namespace CL
open PySem PySem.Spec PyProof.Rows L2 DL
open PySem.W (Datum Tup DatumOrd Holds HoldAll T3)
/-! Contracts 9. -/
section
variable {P : Program} {w : World} {K : PySem.W.Frag} {mg : Str → Option Value} {base : Heap}

/-! ### all_ends -/
def m_all_ends (v_rules : Rules) (v_limits : (Tup Int)) (v_demands : (Tup Int)) : (List (Tup Int)) := ((m_all_lots v_rules v_limits v_demands).filter fun x1 => (m_is_shut v_rules v_limits v_demands x1))
def N_all_ends : List Str := ["rules", "limits", "demands", "lot"]
theorem sc_all_ends : FnScope N_all_ends ["rules", "limits", "demands"] (defScope s_all_ends) := ⟨rfl, rfl, rfl, by decide +kernel, rfl, by decide +kernel, by decide +kernel⟩
theorem fold_inv {α τ : Type} [DecidableEq α] [Datum α] {step : τ → α → τ} {t0 : τ} {I : Nat → τ → Prop} (xs : List α) (h0 : I 0 t0) (hs : ∀ i t x, xs[i]? = some x → I i t → I (i + 1) (step t x)) : I xs.length (xs.foldl step t0) := by
  have hI : ∀ i, i ≤ xs.length → I i ((xs.take i).foldl step t0) := fun i => by
    induction i with
    | zero => intro _; exact h0
    | succ i ih =>
      intro hn
      rw [foldl_take step t0 xs i xs[i] (List.getElem?_eq_getElem hn)]
      exact hs i _ _ (List.getElem?_eq_getElem hn) (ih (by omega))
  have a := hI xs.length (Nat.le_refl _)
  rw [List.take_length] at a
  exact a
theorem al_all {R : Rules} {L D lot : Tup Int} (h : WD R D) (hm : lot ∈ m_all_lots R L D) : WK R lot := by
  have a : AlI R D D.items.length _ := fold_inv D.items (al_zero h) (fun i t x hx hI => al_step (q := fun x3 => (m_keeps R L (Tup.mk (x3.items ++ (List.replicate (t.1 - (1 : Int)).toNat (0 : Int)))))) h hI hx)
  have b := a.2.2 lot hm
  have c := h.len
  unfold WK at c ⊢
  omega
abbrev R_all_ends : Rel := P3 (fun (v_rules : Rules) (v_limits : (Tup Int)) (v_demands : (Tup Int)) => WR v_rules ∧ WD v_rules v_demands) (fun (v_rules : Rules) (v_limits : (Tup Int)) (v_demands : (Tup Int)) => fr (m_all_ends v_rules v_limits v_demands))
theorem h_all_ends (W : Wld P w K mg base) : Has P w K mg base 9 "all_ends" R_all_ends := by
  refine has_of (k := 8) W.g W.d_all_ends sc_all_ends (fun _ _ _ _ _ _ us hl => match us, hl with | [_, _, _], _ => rfl) (fun rs μ r μ' h => by obtain ⟨a0, a1, a2, h⟩ := h; rw [h.2.1]; rfl) ?_
  rintro f cdv A outer s H E rs μ r μ' c ⟨v_rules, v_limits, v_demands, hp, rfl, rfl, rfl, rfl⟩
  exact ⟨_, (ss_end (st_ret (EvB.pe (lcf [("lot", 3)] (m_all_lots v_rules v_limits v_demands) (fun x1 => (m_is_shut v_rules v_limits v_demands x1)) c (ei_list (ev_call (h_all_lots W) c (ea_cons (ev_name 0) (ea_cons (ev_name 1) (ea_cons (ev_name 2) ea_nil))) (P3.go hp))) (blkOk_by (by kernel_rfl)) (fun x1 hx1 => ⟨_, fun _ c => eg_name c 3, fun _ c => (et_val (ev_call (h_is_shut W) c (ea_cons (ev_name 0) (ea_cons (ev_name 1) (ea_cons (ev_name 2) (ea_cons (ev_name 3) ea_nil)))) (P4.go ⟨hp.1, al_all hp.2 hx1⟩))), fun hif _ c => (ev_name 3)⟩))))), .rt .fre⟩
/-! ### end_sizes -/
def m_end_sizes (v_rules : Rules) (v_limits : (Tup Int)) (v_demands : (Tup Int)) : (Tup Int) := (Tup.mk ((rangeI ((imax ((m_all_ends v_rules v_limits v_demands).map fun x1 => (m_size_of x1))) + (1 : Int)).toNat).filter fun x2 => (decide (x2 ∈ ((m_all_ends v_rules v_limits v_demands).map fun x1 => (m_size_of x1))))))
def N_end_sizes : List Str := ["rules", "limits", "demands", "sizes", "lot", "number"]
theorem sc_end_sizes : FnScope N_end_sizes ["rules", "limits", "demands"] (defScope s_end_sizes) := ⟨rfl, rfl, rfl, by decide +kernel, rfl, by decide +kernel, by decide +kernel⟩
theorem es_im {xs : List (Tup Int)} {f : Tup Int → Int} (h : xs ≠ []) (hb : ∀ x ∈ xs, 0 ≤ f x ∧ f x ≤ 12) : 0 ≤ imax (xs.map f) ∧ imax (xs.map f) ≤ 12 := by
  obtain ⟨x, hx, e⟩ := List.mem_map.mp (imax_mem (xs := xs.map f) (by simpa using h))
  rw [← e]
  exact hb x hx
abbrev R_end_sizes : Rel := P3 (fun (v_rules : Rules) (v_limits : (Tup Int)) (v_demands : (Tup Int)) => (WR v_rules ∧ WD v_rules v_demands) ∧ m_all_ends v_rules v_limits v_demands ≠ [] ∧ ∀ lot ∈ m_all_ends v_rules v_limits v_demands, 0 ≤ lot.items.sum ∧ lot.items.sum ≤ 12) (fun (v_rules : Rules) (v_limits : (Tup Int)) (v_demands : (Tup Int)) => dd (m_end_sizes v_rules v_limits v_demands))
theorem h_end_sizes (W : Wld P w K mg base) : Has P w K mg base 10 "end_sizes" R_end_sizes := by
  refine has_of (k := 9) W.g W.d_end_sizes sc_end_sizes (fun _ _ _ _ _ _ us hl => match us, hl with | [_, _, _], _ => rfl) (fun rs μ r μ' h => by obtain ⟨a0, a1, a2, h⟩ := h; rw [h.2.1]; rfl) ?_
  rintro f cdv A outer s H E rs μ r μ' c ⟨v_rules, v_limits, v_demands, hp, rfl, rfl, rfl, rfl⟩
  exact ⟨_, (ss_cons (st_set c 3 (Ev.frz' (EvB.pe (lc0 [("lot", 4)] (m_all_ends v_rules v_limits v_demands) (fun x1 => (m_size_of x1)) c (ei_list (Ev.frz' (ev_call (h_all_ends W) c (ea_cons (ev_name 0) (ea_cons (ev_name 1) (ea_cons (ev_name 2) ea_nil))) (P3.go hp.1)))) (blkOk_by (by kernel_rfl)) (fun x1 hx1 => ⟨_, fun _ c => eg_name c 4, fun _ c => (ev_call (h_size_of W) c (ea_cons (ev_name 4) ea_nil) (P1.go trivial))⟩)))))
    (ss_end (st_ret (ev_ct (c_tuple (xs := ((rangeI ((imax ((m_all_ends v_rules v_limits v_demands).map fun x1 => (m_size_of x1))) + (1 : Int)).toNat).filter fun x2 => (decide (x2 ∈ ((m_all_ends v_rules v_limits v_demands).map fun x1 => (m_size_of x1)))))) rfl) c.b_tuple (ea_cons (EvB.pe (lcf [("number", 5)] (rangeI ((imax ((m_all_ends v_rules v_limits v_demands).map fun x1 => (m_size_of x1))) + (1 : Int)).toNat) (fun x2 => (decide (x2 ∈ ((m_all_ends v_rules v_limits v_demands).map fun x1 => (m_size_of x1))))) c (ei_range c (ev_op f_add (ev_cb (c_maxL c (xs := ((m_all_ends v_rules v_limits v_demands).map fun x1 => (m_size_of x1))) rfl (by simpa using hp.2.1)) c.b_max (ea_cons (ev_name 3) ea_nil)) ev_int) (by have h := es_im (f := fun x1 => m_size_of x1) hp.2.1 hp.2.2; omega) (by have h := es_im (f := fun x1 => m_size_of x1) hp.2.1 hp.2.2; omega)) (blkOk_by (by kernel_rfl)) (fun x2 hx2 => ⟨_, fun _ c => eg_name c 5, fun _ c => (et_cp (f_inL c (x := x2) (xs := ((m_all_ends v_rules v_limits v_demands).map fun x1 => (m_size_of x1))) rfl rfl) (ev_name 5) (ev_name 3)), fun hif _ c => (ev_name 5)⟩))) ea_nil))))), .rt .dat⟩
/-! ### most -/
def m_most (v_rules : Rules) (v_limits : (Tup Int)) (v_demands : (Tup Int)) : Int := (imax ((m_all_lots v_rules v_limits v_demands).map fun x1 => x1.items.sum))
def N_most : List Str := ["rules", "limits", "demands", "lot"]
theorem sc_most : FnScope N_most ["rules", "limits", "demands"] (defScope s_most) := ⟨rfl, rfl, rfl, by decide +kernel, rfl, by decide +kernel, by decide +kernel⟩
abbrev R_most : Rel := P3 (fun (v_rules : Rules) (v_limits : (Tup Int)) (v_demands : (Tup Int)) => (WR v_rules ∧ WD v_rules v_demands) ∧ m_all_lots v_rules v_limits v_demands ≠ []) (fun (v_rules : Rules) (v_limits : (Tup Int)) (v_demands : (Tup Int)) => dd (m_most v_rules v_limits v_demands))
theorem h_most (W : Wld P w K mg base) : Has P w K mg base 9 "most" R_most := by
  refine has_of (k := 8) W.g W.d_most sc_most (fun _ _ _ _ _ _ us hl => match us, hl with | [_, _, _], _ => rfl) (fun rs μ r μ' h => by obtain ⟨a0, a1, a2, h⟩ := h; rw [h.2.1]; rfl) ?_
  rintro f cdv A outer s H E rs μ r μ' c ⟨v_rules, v_limits, v_demands, hp, rfl, rfl, rfl, rfl⟩
  exact ⟨_, (ss_end (st_ret (ev_cb (c_maxL c (xs := ((m_all_lots v_rules v_limits v_demands).map fun x1 => x1.items.sum)) rfl (by simpa using hp.2)) c.b_max (ea_cons (EvB.pe (lc0 [("lot", 3)] (m_all_lots v_rules v_limits v_demands) (fun x1 => x1.items.sum) c (ei_list (ev_call (h_all_lots W) c (ea_cons (ev_name 0) (ea_cons (ev_name 1) (ea_cons (ev_name 2) ea_nil))) (P3.go hp.1))) (blkOk_by (by kernel_rfl)) (fun x1 hx1 => ⟨_, fun _ c => eg_name c 3, fun _ c => (ev_cb (c_sumT c (xs := x1) rfl) c.b_sum (ea_cons (ev_name 3) ea_nil))⟩))) ea_nil)))), .rt .dat⟩
/-! ### table_of -/
def m_table_of (v_rules : Rules) (v_limits : (Tup Int)) : List (List Key × Int) := (kvG v_rules.2.items v_limits.items)
def N_table_of : List Str := ["rules", "limits"]
theorem sc_table_of : FnScope N_table_of ["rules", "limits"] (defScope s_table_of) := ⟨rfl, rfl, rfl, by decide +kernel, rfl, by decide +kernel, by decide +kernel⟩
abbrev R_table_of (P : Program) (w : World) : Rel := P2 (fun (v_rules : Rules) (v_limits : (Tup Int)) => WR v_rules) (fun (v_rules : Rules) (v_limits : (Tup Int)) => .dit P w (m_table_of v_rules v_limits))
theorem h_table_of (W : Wld P w K mg base) : Has P w K mg base 5 "table_of" (R_table_of P w) := by
  refine has_of (k := 4) W.g W.d_table_of sc_table_of (fun _ _ _ _ _ _ us hl => match us, hl with | [_, _], _ => rfl) (fun rs μ r μ' h => by obtain ⟨a0, a1, h⟩ := h; rw [h.2.1]; rfl) ?_
  rintro f cdv A outer s H E rs μ r μ' c ⟨v_rules, v_limits, hp, rfl, rfl, rfl, rfl⟩
  exact ⟨_, (ss_end (st_ret (ev_dzT c (ev_call (h_tupled W) c (ea_cons (ev_snd (q := v_rules) (ev_name 0)) ea_nil) (R_tupled.go (flat_T (flat_T (flat_S _))) v_rules.2)) (ev_name 1) hp.gn))), .rt .dit⟩
/-! ### bound_by -/
def m_bound_by (v_rules : Rules) (v_limits : (Tup Int)) (v_demands : (Tup Int)) (v_groups : (Tup (Tup Str))) : Int := ((v_groups.items.map fun x3 => ((dval (m_table_of v_rules v_limits) (x3.items.map .inr)).getD 0)).sum + (((v_rules.1.items.zip v_demands.items).filter fun x1 => (!((v_groups.items.map fun x2 => (decide (x1.1 ∈ x2.items))).any id))).map fun x1 => x1.2).sum)
def N_bound_by : List Str := ["rules", "limits", "demands", "groups", "table", "rest", "name", "number", "group"]
theorem sc_bound_by : FnScope N_bound_by ["rules", "limits", "demands", "groups"] (defScope s_bound_by) := ⟨rfl, rfl, rfl, by decide +kernel, rfl, by decide +kernel, by decide +kernel⟩
abbrev R_bound_by : Rel := P4 (fun (v_rules : Rules) (v_limits : (Tup Int)) (v_demands : (Tup Int)) (v_groups : (Tup (Tup Str))) => WR v_rules ∧ WG v_rules v_limits ∧ ∀ g ∈ v_groups.items, g ∈ v_rules.2.items) (fun (v_rules : Rules) (v_limits : (Tup Int)) (v_demands : (Tup Int)) (v_groups : (Tup (Tup Str))) => dd (m_bound_by v_rules v_limits v_demands v_groups))
theorem h_bound_by (W : Wld P w K mg base) : Has P w K mg base 6 "bound_by" R_bound_by := by
  refine has_of (k := 5) W.g W.d_bound_by sc_bound_by (fun _ _ _ _ _ _ us hl => match us, hl with | [_, _, _, _], _ => rfl) (fun rs μ r μ' h => by obtain ⟨a0, a1, a2, a3, h⟩ := h; rw [h.2.1]; rfl) ?_
  rintro f cdv A outer s H E rs μ r μ' c ⟨v_rules, v_limits, v_demands, v_groups, hp, rfl, rfl, rfl, rfl⟩
  exact ⟨_, (ss_cons (st_set c 4 (ev_call (h_table_of W) c (ea_cons (ev_name 0) (ea_cons (ev_name 1) ea_nil)) (P2.go hp.1)))
    (ss_cons (st_setB c 5 (EvB.frz (lc1 [("name", 6), ("number", 7)] (v_rules.1.items.zip v_demands.items) (fun x1 => (!((v_groups.items.map fun x2 => (decide (x1.1 ∈ x2.items))).any id))) (fun x1 => x1.2) c (EvI.cast (ei_zipT c (ev_fst (q := v_rules) (ev_name 0)) (ev_name 2)) (zipD_map _ _)) (blkOk_by (by kernel_rfl)) (fun x1 hx1 => ⟨_, fun _ c => eg_tup c (egs_cons (eg_name c 6) (egs_cons (eg_name c 7) egs_nil)), fun _ c => (et_not (et_val (ev_cb (c_any c (xs := (v_groups.items.map fun x2 => (decide (x1.1 ∈ x2.items)))) rfl) c.b_any (ea_cons (EvB.pe (lc0 [("group", 8)] v_groups.items (fun x2 => (decide (x1.1 ∈ x2.items))) c (ei_tup (ev_name 3)) (blkOk_by (by kernel_rfl)) (fun x2 hx2 => ⟨_, fun _ c => eg_name c 8, fun _ c => (ev_cp (f_inT c (x := x1.1) (xs := x2) rfl rfl) (ev_name 6) (ev_name 8))⟩))) ea_nil)))), fun hif _ c => (ev_name 7)⟩))) (sw_true rfl rfl rfl rfl))
    (ss_end (st_ret (ev_op f_add (ev_cb (c_sumL c (xs := (v_groups.items.map fun x3 => ((dval (m_table_of v_rules v_limits) (x3.items.map .inr)).getD 0))) rfl) c.b_sum (ea_cons (EvB.pe (lc0 [("group", 8)] v_groups.items (fun x3 => ((dval (m_table_of v_rules v_limits) (x3.items.map .inr)).getD 0)) c (ei_tup (ev_name 3)) (blkOk_by (by kernel_rfl)) (fun x3 hx3 => ⟨_, fun _ c => eg_name c 8, fun _ c => (ev_dgetT c (ev_name 4) (ev_name 8) (dval_kvG (hp.2.2 _ hx3) (Nat.le_of_eq hp.2.1.symm)))⟩))) ea_nil)) (ev_cb (c_sumL c (xs := (((v_rules.1.items.zip v_demands.items).filter fun x1 => (!((v_groups.items.map fun x2 => (decide (x1.1 ∈ x2.items))).any id))).map fun x1 => x1.2)) rfl) c.b_sum (ea_cons (ev_name 5) ea_nil))))))), .rt .dat⟩
end
end CL
end
section
set_option autoImplicit false
/-! D-layer 18: the def that makes a lambda. -/
namespace DL
open PySem PySem.Spec PyProof.Rows L2
open PySem.W (Datum Tup DatumOrd Holds HoldAll)
section
variable {P : Program} {w : World} {K : PySem.W.Frag} {mg : Str → Option Value} {base : Heap} {k : Nat} {x : Str} {st : Stmt} {N ps : List Str} {R : Rel}
theorem has_ofC (g : Glb mg) (F : ∃ fd, FnP K x st (He.fAd K ("sets_of", none)) fd ∧ mg x = some (.ref (He.fAd K ("sets_of", none)))) (S : FnScope N ps (defScope st))
    (hb : ∀ (kV doc pm : Value) (an : Option Addr) (cdv ct : Value) (us : List Value), us.length = ps.length → bindArgs (PySem.W.fnOf x x (defArgs st) (defBody st) (defScope st) .none kV doc pm an cdv ct) ⟨us, []⟩ = pure (ps.zip us))
    (hl : ∀ rs μ r μ', R rs μ r μ' → rs.length = ps.length)
    (body : ∀ f cdv A outer s H E rs μ r μ', cdv = .ref (codeOf K) → Cz k (BodyX P w K mg base N x st f cdv A outer s H E) → R rs μ r μ' → ∃ o, SsD (BodyX P w K mg base N x st f cdv A outer s H E) (rs ++ List.replicate (N.length - rs.length) .un) μ (defBody st) o ∧ EndsAs μ.length o r μ') :
    Has P w K mg base (k + 1) x R := by
  obtain ⟨fd, F, hm⟩ := F
  have fok : FnOk P w K mg base CX0 (k + 1) (He.fAd K ("sets_of", none)) fd ps (spD K R) := by
    obtain ⟨oc, od, dV, kV, doc, pm, an, cdv, ct, osl, e0, lk, hcd, _, _⟩ := F.ex
    have hc : cdv = .ref (codeOf K) := by
      unfold codeOf
      rw [lk, e0]
      clear e0
      cases cdv with
      | ref c => rfl
      | _ => simp [PySem.W.codeIn] at hcd
    subst e0
    refine fn_of lk hcd S (fun vs H Q E h => ?_) fun A outer s H vs Q E hr h => ?_
    · obtain ⟨F0, as, μ, rs, r, μ', hR, _, hv, _⟩ := h
      rw [← hl rs μ r μ' hR]
      exact Paired.length hv
    · obtain ⟨F0, as, μ, rs, r, μ', hR, c, hv, kk⟩ := h
      obtain ⟨o, hB, hk⟩ := body _ cdv A outer s H E rs μ r μ' hc (g.cz hr S.nd) hR
      refine ⟨_, PSs.nox hB, F0, as, c, start_sls hv, ?_⟩
      rw [← c.len] at hk
      cases hk with
      | rt hk =>
        intro v F' H' as' st' c' hv' hn
        obtain ⟨s1, ext, rfl, fx⟩ := st'
        obtain ⟨q1, q2, q3⟩ := hk.ok c' hv' fx hn
        exact kk v F' H' s1 q1 q2 q3
      | nx =>
        intro σ' F' H' as' st' c' sl'
        obtain ⟨s1, ext, rfl, fx⟩ := st'
        exact kk .non F' H' s1 (clz_take c') .non trivial
  exact ⟨_, fd, ps, fok, hm, F.kp, F.bindsN hb⟩
end
end DL
end
section
set_option autoImplicit false
namespace CL
open PySem PySem.Spec PyProof.Rows L2 DL
open PySem.W (Datum Tup DatumOrd Holds HoldAll T3)
/-! Contracts 10. -/
section
variable {P : Program} {w : World} {K : PySem.W.Frag} {mg : Str → Option Value} {base : Heap}

/-! ### sets_of -/
def m_sets_of (v_things : (Tup (Tup Str))) : (List (Tup (Tup Str))) := (srtLV (v_things.items.foldl (fun (t1 : (List (Tup (Tup Str)))) u1 => (t1 ++ (t1.map fun x1 => (Tup.mk (x1.items ++ [u1]))))) [(Tup.mk ([] : List (Tup Str)))]))
def N_sets_of : List Str := ["things", "found", "own", "some"]
theorem sc_sets_of : FnScope N_sets_of ["things"] (defScope s_sets_of) := ⟨rfl, rfl, rfl, by decide +kernel, rfl, by decide +kernel, by decide +kernel⟩
abbrev StInv (i : Nat) (t : List (Tup (Tup Str))) : Prop := OsInv i t
theorem st_zero : StInv 0 [Tup.mk []] := os_zero
theorem st_step {i : Nat} {t : List (Tup (Tup Str))} {u : Tup Str} (h : StInv i t) : StInv (i + 1) (t ++ (t.map fun x1 => (Tup.mk (x1.items ++ [u])))) := by
  have a := os_step (u := u) (q := fun _ => true) h
  rw [List.filter_eq_self.mpr (fun _ _ => rfl)] at a
  exact a
theorem st_item {i : Nat} {t : List (Tup (Tup Str))} {xs : List (Tup Str)} {u : Tup Str} {x : Tup (Tup Str)} (h : StInv i t) (hx : x ∈ t) (hu : xs[i]? = some u) (hl : xs.length ≤ 4) : x.items.length ≤ 90000 := os_item h hx hu hl
theorem st_size {i : Nat} {t : List (Tup (Tup Str))} {xs : List (Tup Str)} {u : Tup Str} (h : StInv i t) (hu : xs[i]? = some u) (hl : xs.length ≤ 4) : t.length + (t.map fun x1 => (Tup.mk (x1.items ++ [u]))).length ≤ 100000 := by
  have a := os_size (q := fun _ => true) h hu hl
  rw [List.filter_eq_self.mpr (fun _ _ => rfl)] at a
  exact a
abbrev R_sets_of : Rel := P1 (fun (v_things : (Tup (Tup Str))) => v_things.items.length ≤ 4) (fun (v_things : (Tup (Tup Str))) => fr (m_sets_of v_things))
theorem h_sets_of (W : Wld P w K mg base) : Has P w K mg base 5 "sets_of" R_sets_of := by
  refine has_ofC (k := 4) W.g W.adr sc_sets_of (fun _ _ _ _ _ _ us hl => match us, hl with | [_], _ => rfl) (fun rs μ r μ' h => by obtain ⟨a0, h⟩ := h; rw [h.2.1]; rfl) ?_
  rintro f cdv A outer s H E rs μ r μ' hcd c ⟨v_things, hp, rfl, rfl, rfl, rfl⟩
  exact ⟨_, (ss_cons (st_set c 1 (Ev.frz' (ev_lst1 (ev_tup0 (α := (Tup Str))))))
    (ss_cons (st_fold [2] v_things.items (fun (t1 : (List (Tup (Tup Str)))) u1 => (t1 ++ (t1.map fun x1 => (Tup.mk (x1.items ++ [u1]))))) [(Tup.mk ([] : List (Tup Str)))] (fun t1 => [dd v_things, dd t1, .un, .un]) (fun t1 => []) StInv c (ei_tup (ev_name 0)) st_zero Fits.refl rfl (fun i t1 u1 hu1 hI1 => ⟨(st_step hI1), _, _, eg_name c 2, (ss_cons (st_set c 1 (Ev.frz' (ev_op (f_catLL (xs := t1) (ys := (t1.map fun x1 => (Tup.mk (x1.items ++ [u1])))) rfl rfl (st_size hI1 hu1 hp)) (ev_name 1) (EvB.pe (lc0 [("some", 3)] t1 (fun x1 => (Tup.mk (x1.items ++ [u1]))) c (ei_list (ev_name 1)) (blkOk_by (by kernel_rfl)) (fun x1 hx1 => ⟨_, fun _ c => eg_name c 3, fun _ c => (ev_snoc (ev_name 3) (ev_name 2) (st_item hI1 hx1 hu1 hp))⟩))))))
    ss_nil), .nx (.keep (.keep (.drop (.keep .nil))))⟩))
    (ss_end (st_ret (ev_sortLV (xs := (v_things.items.foldl (fun (t1 : (List (Tup (Tup Str)))) u1 => (t1 ++ (t1.map fun x1 => (Tup.mk (x1.items ++ [u1]))))) [(Tup.mk ([] : List (Tup Str)))])) c W.tab (by rw [← hcd]; rfl) rfl (ev_name 1) rfl rfl rfl rfl rfl (by decide) rfl rfl (by decide) rfl (fun _ _ _ _ => rfl)))))), .rt .fre⟩
end
end CL
end
section
set_option autoImplicit false
namespace CL
open PySem PySem.Spec PyProof.Rows L2 DL
open PySem.W (Datum Tup DatumOrd Holds HoldAll T3)
/-! Contracts 11. -/
section
variable {P : Program} {w : World} {K : PySem.W.Frag} {mg : Str → Option Value} {base : Heap}

/-! ### bound_groups -/
def m_bound_groups (v_rules : Rules) (v_limits : (Tup Int)) (v_demands : (Tup Int)) : (Tup (Tup Str)) := (((((m_sets_of v_rules.2).map fun x1 => ((m_bound_by v_rules v_limits v_demands x1), x1)).filter fun x3 => (decide (x3.1 = (imin (((m_sets_of v_rules.2).map fun x1 => ((m_bound_by v_rules v_limits v_demands x1), x1)).map fun x2 => x2.1))))).map fun x3 => x3.2).getD 0 (Tup.mk ([] : List (Tup Str))))
def N_bound_groups : List Str := ["rules", "limits", "demands", "found", "some", "least", "bound"]
theorem sc_bound_groups : FnScope N_bound_groups ["rules", "limits", "demands"] (defScope s_bound_groups) := ⟨rfl, rfl, rfl, by decide +kernel, rfl, by decide +kernel, by decide +kernel⟩
theorem ss_go : ∀ (rest pre : List (Tup Str)) (t : List (Tup (Tup Str))), (∀ own ∈ t, own.items.Sublist pre) →
    ∀ own ∈ rest.foldl (fun (t1 : (List (Tup (Tup Str)))) u1 => (t1 ++ (t1.map fun x1 => (Tup.mk (x1.items ++ [u1]))))) t, own.items.Sublist (pre ++ rest)
  | [], pre, t, h => fun own ho => by rw [List.append_nil]; exact h own ho
  | g :: rest, pre, t, h => fun own ho => by
    rw [List.foldl_cons] at ho
    have a := ss_go rest (pre ++ [g]) _ (fun w hw => ?_) own ho
    · rw [List.append_assoc] at a; exact a
    rcases List.mem_append.mp hw with m | m
    · exact (h w m).trans (List.sublist_append_left _ _)
    · obtain ⟨x, hx, rfl⟩ := List.mem_map.mp m
      exact List.Sublist.append (h x hx) (List.Sublist.refl _)
theorem srtLV_mem {xs : List (Tup (Tup Str))} {x : Tup (Tup Str)} : x ∈ srtLV xs ↔ x ∈ xs := (List.mergeSort_perm _ _).mem_iff
theorem ss_mem {gs own : Tup (Tup Str)} (h : own ∈ m_sets_of gs) : own.items.Sublist gs.items :=
  ss_go gs.items [] [Tup.mk []] (fun own ho => by rw [List.mem_singleton.mp ho]; exact List.Sublist.refl _) own (srtLV_mem.mp h)
theorem ss_zero : ∀ (rest : List (Tup Str)) (t : List (Tup (Tup Str))), Tup.mk [] ∈ t → Tup.mk [] ∈ rest.foldl (fun (t1 : (List (Tup (Tup Str)))) u1 => (t1 ++ (t1.map fun x1 => (Tup.mk (x1.items ++ [u1]))))) t
  | [], t, h => h
  | g :: rest, t, h => by rw [List.foldl_cons]; exact ss_zero rest _ (List.mem_append_left _ h)
theorem ss_ne {gs : Tup (Tup Str)} : m_sets_of gs ≠ [] := List.ne_nil_of_mem (srtLV_mem.mpr (ss_zero gs.items _ List.mem_cons_self))
theorem bg_ne {xs : List (Tup (Tup Str))} {f : Tup (Tup Str) → Int} (h : xs ≠ []) : (((xs.map fun x1 => (f x1, x1)).filter fun x3 => decide (x3.1 = imin ((xs.map fun x1 => (f x1, x1)).map fun x2 => x2.1))).map fun x3 => x3.2) ≠ [] := by
  have hm := imin_mem (xs := ((xs.map fun x1 => (f x1, x1)).map fun x2 => x2.1)) (by simpa using h)
  obtain ⟨y, hy, e⟩ := List.mem_map.mp hm
  exact List.ne_nil_of_mem (List.mem_map.mpr ⟨y, List.mem_filter.mpr ⟨hy, decide_eq_true e⟩, rfl⟩)
abbrev R_bound_groups : Rel := P3 (fun (v_rules : Rules) (v_limits : (Tup Int)) (v_demands : (Tup Int)) => WR v_rules ∧ WG v_rules v_limits) (fun (v_rules : Rules) (v_limits : (Tup Int)) (v_demands : (Tup Int)) => dd (m_bound_groups v_rules v_limits v_demands))
theorem h_bound_groups (W : Wld P w K mg base) : Has P w K mg base 7 "bound_groups" R_bound_groups := by
  refine has_of (k := 6) W.g W.d_bound_groups sc_bound_groups (fun _ _ _ _ _ _ us hl => match us, hl with | [_, _, _], _ => rfl) (fun rs μ r μ' h => by obtain ⟨a0, a1, a2, h⟩ := h; rw [h.2.1]; rfl) ?_
  rintro f cdv A outer s H E rs μ r μ' c ⟨v_rules, v_limits, v_demands, hp, rfl, rfl, rfl, rfl⟩
  exact ⟨_, (ss_cons (st_setB c 3 (EvB.frz (lc0 [("some", 4)] (m_sets_of v_rules.2) (fun x1 => ((m_bound_by v_rules v_limits v_demands x1), x1)) c (ei_list (Ev.frz' (ev_call (h_sets_of W) c (ea_cons (ev_call (h_tupled W) c (ea_cons (ev_snd (q := v_rules) (ev_name 0)) ea_nil) (R_tupled.go (flat_T (flat_T (flat_S _))) v_rules.2)) ea_nil) (P1.go hp.1.gl)))) (blkOk_by (by kernel_rfl)) (fun x1 hx1 => ⟨_, fun _ c => eg_name c 4, fun _ c => (ev_pair (ev_call (h_bound_by W) c (ea_cons (ev_name 0) (ea_cons (ev_name 1) (ea_cons (ev_name 2) (ea_cons (ev_name 4) ea_nil)))) (P4.go ⟨hp.1, hp.2, fun g hg => (ss_mem hx1).subset hg⟩)) (ev_name 4))⟩))) (sw_true rfl rfl rfl rfl))
    (ss_cons (st_set c 5 (ev_cb (c_minL c (xs := (((m_sets_of v_rules.2).map fun x1 => ((m_bound_by v_rules v_limits v_demands x1), x1)).map fun x2 => x2.1)) rfl (by simpa using ss_ne)) c.b_min (ea_cons (EvB.pe (lc0 [("bound", 6), ("some", 4)] ((m_sets_of v_rules.2).map fun x1 => ((m_bound_by v_rules v_limits v_demands x1), x1)) (fun x2 => x2.1) c (ei_list (ev_name 3)) (blkOk_by (by kernel_rfl)) (fun x2 hx2 => ⟨_, fun _ c => eg_tup c (egs_cons (eg_name c 6) (egs_cons (eg_name c 4) egs_nil)), fun _ c => (ev_name 6)⟩))) ea_nil)))
    (ss_end (st_ret (ev_ixLD (xs := ((((m_sets_of v_rules.2).map fun x1 => ((m_bound_by v_rules v_limits v_demands x1), x1)).filter fun x3 => (decide (x3.1 = (imin (((m_sets_of v_rules.2).map fun x1 => ((m_bound_by v_rules v_limits v_demands x1), x1)).map fun x2 => x2.1))))).map fun x3 => x3.2)) (n := 0) (Tup.mk ([] : List (Tup Str))) (EvB.pe (lc1 [("bound", 6), ("some", 4)] ((m_sets_of v_rules.2).map fun x1 => ((m_bound_by v_rules v_limits v_demands x1), x1)) (fun x3 => (decide (x3.1 = (imin (((m_sets_of v_rules.2).map fun x1 => ((m_bound_by v_rules v_limits v_demands x1), x1)).map fun x2 => x2.1))))) (fun x3 => x3.2) c (ei_list (ev_name 3)) (blkOk_by (by kernel_rfl)) (fun x3 hx3 => ⟨_, fun _ c => eg_tup c (egs_cons (eg_name c 6) (egs_cons (eg_name c 4) egs_nil)), fun _ c => (et_cp (f_eq c (x := x3.1) (y := (imin (((m_sets_of v_rules.2).map fun x1 => ((m_bound_by v_rules v_limits v_demands x1), x1)).map fun x2 => x2.1))) rfl rfl) (ev_name 6) (ev_name 5)), fun hif _ c => (ev_name 4)⟩))) ev_int rfl rfl (ne_pos (bg_ne ss_ne))))))), .rt .dat⟩
/-! ### least_bound -/
def m_least_bound (v_rules : Rules) (v_limits : (Tup Int)) (v_demands : (Tup Int)) : Int := (m_bound_by v_rules v_limits v_demands (m_bound_groups v_rules v_limits v_demands))
def N_least_bound : List Str := ["rules", "limits", "demands"]
theorem sc_least_bound : FnScope N_least_bound ["rules", "limits", "demands"] (defScope s_least_bound) := ⟨rfl, rfl, rfl, by decide +kernel, rfl, by decide +kernel, by decide +kernel⟩
theorem bg_mem {R : Rules} {L D : Tup Int} (h : WR R) : (m_bound_groups R L D).items.Sublist R.2.items := by
  have a := getD_mem (d := (Tup.mk ([] : List (Tup Str)))) (bg_ne (xs := m_sets_of R.2) (f := fun x1 => m_bound_by R L D x1) ss_ne)
  obtain ⟨y, hy, e⟩ := List.mem_map.mp a
  obtain ⟨z, hz, e2⟩ := List.mem_map.mp (List.mem_filter.mp hy).1
  have b := ss_mem hz
  subst e2
  have e3 : m_bound_groups R L D = z := e.symm
  rw [e3]
  exact b
abbrev R_least_bound : Rel := P3 (fun (v_rules : Rules) (v_limits : (Tup Int)) (v_demands : (Tup Int)) => WR v_rules ∧ WG v_rules v_limits) (fun (v_rules : Rules) (v_limits : (Tup Int)) (v_demands : (Tup Int)) => dd (m_least_bound v_rules v_limits v_demands))
theorem h_least_bound (W : Wld P w K mg base) : Has P w K mg base 8 "least_bound" R_least_bound := by
  refine has_of (k := 7) W.g W.d_least_bound sc_least_bound (fun _ _ _ _ _ _ us hl => match us, hl with | [_, _, _], _ => rfl) (fun rs μ r μ' h => by obtain ⟨a0, a1, a2, h⟩ := h; rw [h.2.1]; rfl) ?_
  rintro f cdv A outer s H E rs μ r μ' c ⟨v_rules, v_limits, v_demands, hp, rfl, rfl, rfl, rfl⟩
  exact ⟨_, (ss_end (st_ret (ev_call (h_bound_by W) c (ea_cons (ev_name 0) (ea_cons (ev_name 1) (ea_cons (ev_name 2) (ea_cons (ev_call (h_bound_groups W) c (ea_cons (ev_name 0) (ea_cons (ev_name 1) (ea_cons (ev_name 2) ea_nil))) (P3.go hp)) ea_nil)))) (P4.go ⟨hp.1, hp.2, fun g hg => (bg_mem hp.1).subset hg⟩)))), .rt .dat⟩
/-! ### crossing -/
def m_crossing (v_rules : Rules) : (List ((Tup Str) × (Tup Str))) := (v_rules.2.items.flatMap fun x1 => (v_rules.2.items.filter fun x2 => ((PySem.W.DatumOrd.lt x1 x2) && (m_do_cross x1 x2))).map fun x2 => (x1, x2))
def N_crossing : List Str := ["rules", "groups", "one", "other"]
theorem sc_crossing : FnScope N_crossing ["rules"] (defScope s_crossing) := ⟨rfl, rfl, rfl, by decide +kernel, rfl, by decide +kernel, by decide +kernel⟩
theorem cr_few {gs : List (Tup Str)} {q : Tup Str → Tup Str → Bool} (h : gs.length ≤ 4) : (gs.flatMap fun x1 => (gs.filter fun x2 => q x1 x2).map fun x2 => (x1, x2)).length ≤ 100000 := by
  have go : ∀ xs : List (Tup Str), (xs.flatMap fun x1 => (gs.filter fun x2 => q x1 x2).map fun x2 => (x1, x2)).length ≤ 4 * xs.length := by
    intro xs
    induction xs with
    | nil => exact Nat.le_refl _
    | cons x xs ih =>
      have a := List.length_filter_le (fun x2 => q x x2) gs
      rw [List.flatMap_cons, List.length_append, List.length_map, List.length_cons]
      omega
  have a := go gs
  omega
abbrev R_crossing : Rel := P1 (fun (v_rules : Rules) => WR v_rules) (fun (v_rules : Rules) => fr (m_crossing v_rules))
theorem h_crossing (W : Wld P w K mg base) : Has P w K mg base 5 "crossing" R_crossing := by
  refine has_of (k := 4) W.g W.d_crossing sc_crossing (fun _ _ _ _ _ _ us hl => match us, hl with | [_], _ => rfl) (fun rs μ r μ' h => by obtain ⟨a0, h⟩ := h; rw [h.2.1]; rfl) ?_
  rintro f cdv A outer s H E rs μ r μ' c ⟨v_rules, hp, rfl, rfl, rfl, rfl⟩
  exact ⟨_, (ss_cons (st_set c 1 (ev_call (h_tupled W) c (ea_cons (ev_snd (q := v_rules) (ev_name 0)) ea_nil) (R_tupled.go (flat_T (flat_T (flat_S _))) v_rules.2)))
    (ss_end (st_ret (EvB.pe (lc21 [("one", 2), ("other", 3)] [3] v_rules.2.items (fun x1 => v_rules.2.items) (fun x1 x2 => ((PySem.W.DatumOrd.lt x1 x2) && (m_do_cross x1 x2))) (fun x1 x2 => (x1, x2)) c (ei_tup (ev_name 1)) (blkOk_by (by kernel_rfl)) (by decide) (cr_few hp.gl) (fun x1 hx1 => ⟨_, fun _ c => eg_name c 2, fun _ c => (ei_tup (ev_name 1)), fun x2 hx2 => ⟨_, fun _ c => eg_name c 3, fun _ c => (et_w (ew_and (et_cp (f_ltO c (x := x1) (y := x2) rfl rfl) (ev_name 2) (ev_name 3)) (fun hbo => (ew_and1 (et_val (ev_call (h_do_cross W) c (ea_cons (ev_name 2) (ea_cons (ev_name 3) ea_nil)) (P2.go trivial))))))), fun hif _ c => (ev_pair (ev_name 2) (ev_name 3))⟩⟩)))))), .rt .fre⟩
/-! ### is_nested -/
def m_is_nested (v_rules : Rules) : Bool := (decide (((m_crossing v_rules).length : Int) = (0 : Int)))
def N_is_nested : List Str := ["rules"]
theorem sc_is_nested : FnScope N_is_nested ["rules"] (defScope s_is_nested) := ⟨rfl, rfl, rfl, by decide +kernel, rfl, by decide +kernel, by decide +kernel⟩
abbrev R_is_nested : Rel := P1 (fun (v_rules : Rules) => WR v_rules) (fun (v_rules : Rules) => dd (m_is_nested v_rules))
theorem h_is_nested (W : Wld P w K mg base) : Has P w K mg base 6 "is_nested" R_is_nested := by
  refine has_of (k := 5) W.g W.d_is_nested sc_is_nested (fun _ _ _ _ _ _ us hl => match us, hl with | [_], _ => rfl) (fun rs μ r μ' h => by obtain ⟨a0, h⟩ := h; rw [h.2.1]; rfl) ?_
  rintro f cdv A outer s H E rs μ r μ' c ⟨v_rules, hp, rfl, rfl, rfl, rfl⟩
  exact ⟨_, (ss_end (st_ret (ev_cp (f_eq c (x := ((m_crossing v_rules).length : Int)) (y := (0 : Int)) rfl rfl) (ev_cb (c_lenL (xs := (m_crossing v_rules)) rfl) c.b_len (ea_cons (ev_call (h_crossing W) c (ea_cons (ev_name 0) ea_nil) (P1.go hp)) ea_nil)) ev_int))), .rt .dat⟩
/-! ### barring_lots -/
def m_barring_lots (v_rules : Rules) (v_limits : (Tup Int)) (v_demands : (Tup Int)) (v_name : Str) : (List (Int × (Tup Int))) := (srt ((m_all_lots v_rules v_limits v_demands).foldl (fun (t1 : List (Int × (Tup Int))) u1 => (if ((decide ((m_demand_of v_rules u1 v_name) < (m_demand_of v_rules v_demands v_name))) && (m_is_barred_by v_rules v_limits u1 v_name)) = true then (t1 ++ [((m_demand_of v_rules u1 v_name), u1)]) else t1)) ([] : List (Int × (Tup Int)))))
def N_barring_lots : List Str := ["rules", "limits", "demands", "name", "number", "found", "lot", "many"]
theorem sc_barring_lots : FnScope N_barring_lots ["rules", "limits", "demands", "name"] (defScope s_barring_lots) := ⟨rfl, rfl, rfl, by decide +kernel, rfl, by decide +kernel, by decide +kernel⟩
theorem bl_step {i : Nat} {t : List (Int × Tup Int)} {q : Bool} {x : Int × Tup Int} (h : t.length ≤ i) : (if q = true then t ++ [x] else t).length ≤ i + 1 := by
  cases q with
  | true => rw [if_pos rfl, List.length_append]; exact Nat.succ_le_succ h
  | false => exact Nat.le_succ_of_le h
theorem al_256 {R : Rules} {L D : Tup Int} (r : WR R) (h : WD R D) : (m_all_lots R L D).length ≤ 256 := by
  have a : AlI R D D.items.length _ := fold_inv D.items (al_zero h) (fun i t x hx hI => al_step (q := fun x3 => (m_keeps R L (Tup.mk (x3.items ++ (List.replicate (t.1 - (1 : Int)).toNat (0 : Int)))))) h hI hx)
  have d := al_dl r h
  have e : 4 ^ D.items.length ≤ 4 ^ 4 := Nat.pow_le_pow_right (by decide) d
  exact Nat.le_trans a.2.1 e
theorem bl_few {R : Rules} {L D : Tup Int} {i : Nat} {t : List (Int × Tup Int)} {u : Tup Int} (r : WR R) (h : WD R D) (hI : t.length ≤ i) (hu : (m_all_lots R L D)[i]? = some u) : t.length ≤ 100000 := by
  have a := al_256 (L := L) r h
  have b := (List.getElem?_eq_some_iff.mp hu).1
  omega
theorem srt_P {α β : Type} [DecidableEq α] [Datum α] [DecidableEq β] [Datum β] (xs : List (α × β)) : PySem.W.Sortable (xs.map Datum.toD) := .inl fun d hd => by
  obtain ⟨x, hx, rfl⟩ := List.mem_map.mp hd
  exact ⟨_, _, rfl⟩
abbrev R_barring_lots : Rel := P4 (fun (v_rules : Rules) (v_limits : (Tup Int)) (v_demands : (Tup Int)) (v_name : Str) => WR v_rules ∧ WD v_rules v_demands ∧ v_name ∈ v_rules.1.items) (fun (v_rules : Rules) (v_limits : (Tup Int)) (v_demands : (Tup Int)) (v_name : Str) => fr (m_barring_lots v_rules v_limits v_demands v_name))
theorem h_barring_lots (W : Wld P w K mg base) : Has P w K mg base 9 "barring_lots" R_barring_lots := by
  refine has_of (k := 8) W.g W.d_barring_lots sc_barring_lots (fun _ _ _ _ _ _ us hl => match us, hl with | [_, _, _, _], _ => rfl) (fun rs μ r μ' h => by obtain ⟨a0, a1, a2, a3, h⟩ := h; rw [h.2.1]; rfl) ?_
  rintro f cdv A outer s H E rs μ r μ' c ⟨v_rules, v_limits, v_demands, v_name, hp, rfl, rfl, rfl, rfl⟩
  exact ⟨_, (ss_cons (st_set c 4 (ev_call (h_demand_of W) c (ea_cons (ev_name 0) (ea_cons (ev_name 2) (ea_cons (ev_name 3) ea_nil))) (P3.go ⟨hp.1, hp.2.1.len, hp.2.2⟩)))
    (ss_cons (st_new c 5 (ev_lst0 (α := (Int × (Tup Int)))))
    (ss_cons (st_fold [6] (m_all_lots v_rules v_limits v_demands) (fun (t1 : List (Int × (Tup Int))) u1 => (if ((decide ((m_demand_of v_rules u1 v_name) < (m_demand_of v_rules v_demands v_name))) && (m_is_barred_by v_rules v_limits u1 v_name)) = true then (t1 ++ [((m_demand_of v_rules u1 v_name), u1)]) else t1)) ([] : List (Int × (Tup Int))) (fun t1 => [dd v_rules, dd v_limits, dd v_demands, dd v_name, dd (m_demand_of v_rules v_demands v_name), .cel 0, .un, .un]) (fun t1 => [cl t1]) (fun i (t : List (Int × Tup Int)) => t.length ≤ i) c (ei_list (ev_call (h_all_lots W) c (ea_cons (ev_name 0) (ea_cons (ev_name 1) (ea_cons (ev_name 2) ea_nil))) (P3.go ⟨hp.1, hp.2.1⟩))) (Nat.le_refl _) Fits.refl rfl (fun i t1 u1 hu1 hI1 => ⟨(bl_step hI1), _, _, eg_name c 6, (ss_cons (st_set c 7 (ev_call (h_demand_of W) c (ea_cons (ev_name 0) (ea_cons (ev_name 6) (ea_cons (ev_name 3) ea_nil))) (P3.go ⟨hp.1, al_all hp.2.1 (List.mem_of_getElem? hu1), hp.2.2⟩)))
    (ss_cons (st_ifC (n := 0) (xs := t1) (ys := (t1 ++ [((m_demand_of v_rules u1 v_name), u1)])) (et_w (ew_and (et_cp f_lt (ev_name 7) (ev_name 4)) (fun hbo => (ew_and1 (et_val (ev_call (h_is_barred_by W) c (ea_cons (ev_name 0) (ea_cons (ev_name 1) (ea_cons (ev_name 6) (ea_cons (ev_name 3) ea_nil)))) (P4.go ⟨hp.1, al_all hp.2.1 (List.mem_of_getElem? hu1)⟩))))))) rfl (fun hif => (ss_cons (st_expr (ev_appendT (n := 0) (xs := t1) (ys := t1) (x := ((m_demand_of v_rules u1 v_name), u1)) (ev_name 5) (ev_pair (ev_name 7) (ev_name 6)) rfl rfl (bl_few hp.1 hp.2.1 hI1 hu1)))
    ss_nil)) (.keep (.keep (.keep (.keep (.keep (.keep (.keep (.keep .nil)))))))))
    ss_nil)), .nx (.keep (.keep (.keep (.keep (.keep (.keep (.drop (.drop .nil))))))))⟩))
    (ss_end (st_ret (ev_cb (c_sorted c (xs := ((m_all_lots v_rules v_limits v_demands).foldl (fun (t1 : List (Int × (Tup Int))) u1 => (if ((decide ((m_demand_of v_rules u1 v_name) < (m_demand_of v_rules v_demands v_name))) && (m_is_barred_by v_rules v_limits u1 v_name)) = true then (t1 ++ [((m_demand_of v_rules u1 v_name), u1)]) else t1)) ([] : List (Int × (Tup Int))))) rfl (srt_P _)) c.b_sorted (ea_cons (ev_name 5) ea_nil))))))), .rt .fre⟩
/-! ### sure_in -/
def m_sure_in (v_rules : Rules) (v_limits : (Tup Int)) (v_demands : (Tup Int)) (v_name : Str) : Int := (if (decide ((0 : Int) < ((m_barring_lots v_rules v_limits v_demands v_name).length : Int))) = true then ((m_barring_lots v_rules v_limits v_demands v_name).getD 0 ((0 : Int), (Tup.mk ([] : List Int)))).1 else (m_demand_of v_rules v_demands v_name))
def N_sure_in : List Str := ["rules", "limits", "demands", "name", "found"]
theorem sc_sure_in : FnScope N_sure_in ["rules", "limits", "demands", "name"] (defScope s_sure_in) := ⟨rfl, rfl, rfl, by decide +kernel, rfl, by decide +kernel, by decide +kernel⟩
abbrev R_sure_in : Rel := P4 (fun (v_rules : Rules) (v_limits : (Tup Int)) (v_demands : (Tup Int)) (v_name : Str) => WR v_rules ∧ WD v_rules v_demands ∧ v_name ∈ v_rules.1.items) (fun (v_rules : Rules) (v_limits : (Tup Int)) (v_demands : (Tup Int)) (v_name : Str) => dd (m_sure_in v_rules v_limits v_demands v_name))
theorem h_sure_in (W : Wld P w K mg base) : Has P w K mg base 10 "sure_in" R_sure_in := by
  refine has_of (k := 9) W.g W.d_sure_in sc_sure_in (fun _ _ _ _ _ _ us hl => match us, hl with | [_, _, _, _], _ => rfl) (fun rs μ r μ' h => by obtain ⟨a0, a1, a2, a3, h⟩ := h; rw [h.2.1]; rfl) ?_
  rintro f cdv A outer s H E rs μ r μ' c ⟨v_rules, v_limits, v_demands, v_name, hp, rfl, rfl, rfl, rfl⟩
  exact ⟨_, (ss_cons (st_expr (ev_call (h_check_kind W) c (ea_cons (ev_name 0) (ea_cons (ev_name 3) ea_nil)) (P2.go hp.2.2)))
    (ss_cons (st_set c 4 (Ev.frz' (ev_call (h_barring_lots W) c (ea_cons (ev_name 0) (ea_cons (ev_name 1) (ea_cons (ev_name 2) (ea_cons (ev_name 3) ea_nil)))) (P4.go hp))))
    (ss_end (st_ret (ev_ifD (et_cp f_gt (ev_cb (c_lenL (xs := (m_barring_lots v_rules v_limits v_demands v_name)) rfl) c.b_len (ea_cons (ev_name 4) ea_nil)) ev_int) (fun hif => (ev_fst (q := ((m_barring_lots v_rules v_limits v_demands v_name).getD 0 ((0 : Int), (Tup.mk ([] : List Int))))) (ev_ixLD (xs := (m_barring_lots v_rules v_limits v_demands v_name)) (n := 0) ((0 : Int), (Tup.mk ([] : List Int))) (ev_name 4) ev_int rfl rfl (by have h := of_decide_eq_true hif; omega)))) (fun hif => (ev_call (h_demand_of W) c (ea_cons (ev_name 0) (ea_cons (ev_name 2) (ea_cons (ev_name 3) ea_nil))) (P3.go ⟨hp.1, hp.2.1.len, hp.2.2⟩)))))))), .rt .dat⟩
/-! ### most_in -/
def m_most_in (v_rules : Rules) (v_limits : (Tup Int)) (v_demands : (Tup Int)) (v_name : Str) : Int := (imin ([(m_demand_of v_rules v_demands v_name)] ++ ((m_groups_with v_rules v_name).items.map fun x1 => (m_limit_of v_rules v_limits x1))))
def N_most_in : List Str := ["rules", "limits", "demands", "name", "own"]
theorem sc_most_in : FnScope N_most_in ["rules", "limits", "demands", "name"] (defScope s_most_in) := ⟨rfl, rfl, rfl, by decide +kernel, rfl, by decide +kernel, by decide +kernel⟩
theorem gw_mem {R : Rules} {n : Str} {g : Tup Str} (h : g ∈ (m_groups_with R n).items) : g ∈ R.2.items := (List.mem_filter.mp h).1
theorem mi_few {R : Rules} {n : Str} {x : Int} {f : Tup Str → Int} (h : WR R) : [x].length + ((m_groups_with R n).items.map f).length ≤ 100000 := by
  have a := List.length_filter_le (fun x1 : Tup Str => decide (n ∈ x1.items)) R.2.items
  have b := h.gl
  rw [List.length_map]
  show 1 + (R.2.items.filter fun x1 => decide (n ∈ x1.items)).length ≤ 100000
  omega
abbrev R_most_in : Rel := P4 (fun (v_rules : Rules) (v_limits : (Tup Int)) (v_demands : (Tup Int)) (v_name : Str) => WR v_rules ∧ (WK v_rules v_demands ∧ WG v_rules v_limits) ∧ v_name ∈ v_rules.1.items) (fun (v_rules : Rules) (v_limits : (Tup Int)) (v_demands : (Tup Int)) (v_name : Str) => dd (m_most_in v_rules v_limits v_demands v_name))
theorem h_most_in (W : Wld P w K mg base) : Has P w K mg base 8 "most_in" R_most_in := by
  refine has_of (k := 7) W.g W.d_most_in sc_most_in (fun _ _ _ _ _ _ us hl => match us, hl with | [_, _, _, _], _ => rfl) (fun rs μ r μ' h => by obtain ⟨a0, a1, a2, a3, h⟩ := h; rw [h.2.1]; rfl) ?_
  rintro f cdv A outer s H E rs μ r μ' c ⟨v_rules, v_limits, v_demands, v_name, hp, rfl, rfl, rfl, rfl⟩
  exact ⟨_, (ss_cons (st_expr (ev_call (h_check_kind W) c (ea_cons (ev_name 0) (ea_cons (ev_name 3) ea_nil)) (P2.go hp.2.2)))
    (ss_end (st_ret (ev_cb (c_minL c (xs := ([(m_demand_of v_rules v_demands v_name)] ++ ((m_groups_with v_rules v_name).items.map fun x1 => (m_limit_of v_rules v_limits x1)))) rfl (by simp)) c.b_min (ea_cons (ev_op (f_catLL (xs := [(m_demand_of v_rules v_demands v_name)]) (ys := ((m_groups_with v_rules v_name).items.map fun x1 => (m_limit_of v_rules v_limits x1))) rfl rfl (mi_few hp.1)) (ev_lst1 (ev_call (h_demand_of W) c (ea_cons (ev_name 0) (ea_cons (ev_name 2) (ea_cons (ev_name 3) ea_nil))) (P3.go ⟨hp.1, hp.2.1.1, hp.2.2⟩))) (EvB.pe (lc0 [("own", 4)] (m_groups_with v_rules v_name).items (fun x1 => (m_limit_of v_rules v_limits x1)) c (ei_tup (ev_call (h_groups_with W) c (ea_cons (ev_name 0) (ea_cons (ev_name 3) ea_nil)) (P2.go hp.2.2))) (blkOk_by (by kernel_rfl)) (fun x1 hx1 => ⟨_, fun _ c => eg_name c 4, fun _ c => (ev_call (h_limit_of W) c (ea_cons (ev_name 0) (ea_cons (ev_name 1) (ea_cons (ev_name 4) ea_nil))) (P3.go ⟨gw_mem hx1, hp.2.1.2⟩))⟩)))) ea_nil))))), .rt .dat⟩
/-! ### spans_of -/
def m_spans_of (v_rules : Rules) (v_limits : (Tup Int)) (v_demands : (Tup Int)) : (Tup (T3 Str Int Int)) := (Tup.mk (v_rules.1.items.foldl (fun (t1 : List (T3 Str Int Int)) u1 => (t1 ++ [(⟨u1, (m_sure_in v_rules v_limits v_demands u1), (m_most_in v_rules v_limits v_demands u1)⟩ : (T3 Str Int Int))])) ([] : List (T3 Str Int Int))))
def N_spans_of : List Str := ["rules", "limits", "demands", "found", "name"]
theorem sc_spans_of : FnScope N_spans_of ["rules", "limits", "demands"] (defScope s_spans_of) := ⟨rfl, rfl, rfl, by decide +kernel, rfl, by decide +kernel, by decide +kernel⟩
theorem sp_step {i : Nat} {t : List (T3 Str Int Int)} {x : T3 Str Int Int} (h : t.length ≤ i) : (t ++ [x]).length ≤ i + 1 := by
  rw [List.length_append]; exact Nat.succ_le_succ h
theorem sp_few {R : Rules} {i : Nat} {t : List (T3 Str Int Int)} {u : Str} (r : WR R) (hI : t.length ≤ i) (hu : R.1.items[i]? = some u) : t.length ≤ 100000 := by
  have a := r.kl
  have b := (List.getElem?_eq_some_iff.mp hu).1
  omega
abbrev R_spans_of : Rel := P3 (fun (v_rules : Rules) (v_limits : (Tup Int)) (v_demands : (Tup Int)) => WR v_rules ∧ WD v_rules v_demands ∧ WG v_rules v_limits) (fun (v_rules : Rules) (v_limits : (Tup Int)) (v_demands : (Tup Int)) => dd (m_spans_of v_rules v_limits v_demands))
theorem h_spans_of (W : Wld P w K mg base) : Has P w K mg base 11 "spans_of" R_spans_of := by
  refine has_of (k := 10) W.g W.d_spans_of sc_spans_of (fun _ _ _ _ _ _ us hl => match us, hl with | [_, _, _], _ => rfl) (fun rs μ r μ' h => by obtain ⟨a0, a1, a2, h⟩ := h; rw [h.2.1]; rfl) ?_
  rintro f cdv A outer s H E rs μ r μ' c ⟨v_rules, v_limits, v_demands, hp, rfl, rfl, rfl, rfl⟩
  exact ⟨_, (ss_cons (st_new c 3 (ev_lst0 (α := (T3 Str Int Int))))
    (ss_cons (st_fold [4] v_rules.1.items (fun (t1 : List (T3 Str Int Int)) u1 => (t1 ++ [(⟨u1, (m_sure_in v_rules v_limits v_demands u1), (m_most_in v_rules v_limits v_demands u1)⟩ : (T3 Str Int Int))])) ([] : List (T3 Str Int Int)) (fun t1 => [dd v_rules, dd v_limits, dd v_demands, .cel 0, .un]) (fun t1 => [cl t1]) (fun i (t : List (T3 Str Int Int)) => t.length ≤ i) c (ei_tup (ev_fst (q := v_rules) (ev_name 0))) (Nat.le_refl _) Fits.refl rfl (fun i t1 u1 hu1 hI1 => ⟨(sp_step hI1), _, _, eg_name c 4, (ss_cons (st_expr (ev_appendT (n := 0) (xs := t1) (ys := t1) (x := (⟨u1, (m_sure_in v_rules v_limits v_demands u1), (m_most_in v_rules v_limits v_demands u1)⟩ : (T3 Str Int Int))) (ev_name 3) (ev_trip (ev_name 4) (ev_call (h_sure_in W) c (ea_cons (ev_name 0) (ea_cons (ev_name 1) (ea_cons (ev_name 2) (ea_cons (ev_name 4) ea_nil)))) (P4.go ⟨hp.1, hp.2.1, List.mem_of_getElem? hu1⟩)) (ev_call (h_most_in W) c (ea_cons (ev_name 0) (ea_cons (ev_name 1) (ea_cons (ev_name 2) (ea_cons (ev_name 4) ea_nil)))) (P4.go ⟨hp.1, ⟨hp.2.1.len, hp.2.2⟩, List.mem_of_getElem? hu1⟩))) rfl rfl (sp_few hp.1 hI1 hu1)))
    ss_nil), .nx (.keep (.keep (.keep (.keep (.drop .nil)))))⟩))
    (ss_end (st_ret (ev_ct (c_tuple (xs := (v_rules.1.items.foldl (fun (t1 : List (T3 Str Int Int)) u1 => (t1 ++ [(⟨u1, (m_sure_in v_rules v_limits v_demands u1), (m_most_in v_rules v_limits v_demands u1)⟩ : (T3 Str Int Int))])) ([] : List (T3 Str Int Int)))) rfl) c.b_tuple (ea_cons (ev_name 3) ea_nil)))))), .rt .dat⟩
end
end CL
end
section
set_option autoImplicit false
namespace CL
open PySem PySem.Spec PyProof.Rows L2 DL
open PySem.W (Datum Tup DatumOrd Holds HoldAll T3)
/-! Contracts 12: of the law. -/
section
variable {P : Program} {w : World} {K : PySem.W.Frag} {mg : Str → Option Value} {base : Heap}

/-! ### _law_load -/
def m_law_load (v_law_rules_so : Rules) (v_law_lot_so : (Tup Int)) (v_law_group_so : (Tup Str)) : Int := (((v_law_rules_so.1.items.zip v_law_lot_so.items).filter fun x1 => (decide (x1.1 ∈ v_law_group_so.items))).map fun x1 => x1.2).sum
def N_law_load : List Str := ["_law_rules_so", "_law_lot_so", "_law_group_so", "_law_tag", "_law_own"]
theorem sc_law_load : FnScope N_law_load ["_law_rules_so", "_law_lot_so", "_law_group_so"] (defScope s__law_load) := ⟨rfl, rfl, rfl, by decide +kernel, rfl, by decide +kernel, by decide +kernel⟩
abbrev R_law_load : Rel := P3 (fun (v_law_rules_so : Rules) (v_law_lot_so : (Tup Int)) (v_law_group_so : (Tup Str)) => True) (fun (v_law_rules_so : Rules) (v_law_lot_so : (Tup Int)) (v_law_group_so : (Tup Str)) => dd (m_law_load v_law_rules_so v_law_lot_so v_law_group_so))
theorem h_law_load (W : Wld P w K mg base) : Has P w K mg base 1 "_law_load" R_law_load := by
  refine has_of (k := 0) W.g W.d_law_load sc_law_load (fun _ _ _ _ _ _ us hl => match us, hl with | [_, _, _], _ => rfl) (fun rs μ r μ' h => by obtain ⟨a0, a1, a2, h⟩ := h; rw [h.2.1]; rfl) ?_
  rintro f cdv A outer s H E rs μ r μ' c ⟨v_law_rules_so, v_law_lot_so, v_law_group_so, hp, rfl, rfl, rfl, rfl⟩
  exact ⟨_, (ss_end (st_ret (ev_cb (c_sumL c (xs := (((v_law_rules_so.1.items.zip v_law_lot_so.items).filter fun x1 => (decide (x1.1 ∈ v_law_group_so.items))).map fun x1 => x1.2)) rfl) c.b_sum (ea_cons (EvB.pe (lc1 [("_law_tag", 3), ("_law_own", 4)] (v_law_rules_so.1.items.zip v_law_lot_so.items) (fun x1 => (decide (x1.1 ∈ v_law_group_so.items))) (fun x1 => x1.2) c (EvI.cast (ei_zipT c (ev_fst (q := v_law_rules_so) (ev_name 0)) (ev_name 1)) (zipD_map _ _)) (blkOk_by (by kernel_rfl)) (fun x1 hx1 => ⟨_, fun _ c => eg_tup c (egs_cons (eg_name c 3) (egs_cons (eg_name c 4) egs_nil)), fun _ c => (et_cp (f_inT c (x := x1.1) (xs := v_law_group_so) rfl rfl) (ev_name 3) (ev_name 2)), fun hif _ c => (ev_name 4)⟩))) ea_nil)))), .rt .dat⟩
/-! ### _law_shut -/
def m_law_shut (v_law_rules_so : Rules) (v_law_tops_so : (Tup Int)) (v_law_lot_so : (Tup Int)) (v_law_tag : Str) : Bool := (if ((v_law_rules_so.2.items.zip v_law_tops_so.items).any fun u1 => ((decide (v_law_tag ∈ u1.1.items)) && (decide (u1.2 ≤ (m_law_load v_law_rules_so v_law_lot_so u1.1))))) = true then true else false)
def N_law_shut : List Str := ["_law_rules_so", "_law_tops_so", "_law_lot_so", "_law_tag", "_law_group_so", "_law_top_so"]
theorem sc_law_shut : FnScope N_law_shut ["_law_rules_so", "_law_tops_so", "_law_lot_so", "_law_tag"] (defScope s__law_shut) := ⟨rfl, rfl, rfl, by decide +kernel, rfl, by decide +kernel, by decide +kernel⟩
abbrev R_law_shut : Rel := P4 (fun (v_law_rules_so : Rules) (v_law_tops_so : (Tup Int)) (v_law_lot_so : (Tup Int)) (v_law_tag : Str) => True) (fun (v_law_rules_so : Rules) (v_law_tops_so : (Tup Int)) (v_law_lot_so : (Tup Int)) (v_law_tag : Str) => dd (m_law_shut v_law_rules_so v_law_tops_so v_law_lot_so v_law_tag))
theorem h_law_shut (W : Wld P w K mg base) : Has P w K mg base 2 "_law_shut" R_law_shut := by
  refine has_of (k := 1) W.g W.d_law_shut sc_law_shut (fun _ _ _ _ _ _ us hl => match us, hl with | [_, _, _, _], _ => rfl) (fun rs μ r μ' h => by obtain ⟨a0, a1, a2, a3, h⟩ := h; rw [h.2.1]; rfl) ?_
  rintro f cdv A outer s H E rs μ r μ' c ⟨v_law_rules_so, v_law_tops_so, v_law_lot_so, v_law_tag, hp, rfl, rfl, rfl, rfl⟩
  exact ⟨_, (ss_seekD [4, 5] (v_law_rules_so.2.items.zip v_law_tops_so.items) (fun u1 => ((decide (v_law_tag ∈ u1.1.items)) && (decide (u1.2 ≤ (m_law_load v_law_rules_so v_law_lot_so u1.1))))) true false [dd v_law_rules_so, dd v_law_tops_so, dd v_law_lot_so, dd v_law_tag, .un, .un] c (EvI.cast (ei_zipT c (ev_snd (q := v_law_rules_so) (ev_name 0)) (ev_name 1)) (zipD_map _ _)) Fits.refl (fun u1 hu1 => ⟨_, eg_tup c (egs_cons (eg_name c 4) (egs_cons (eg_name c 5) egs_nil)), fun hq => (ss_end (st_if (et_w (ew_and (et_cp (f_inT c (x := v_law_tag) (xs := u1.1) rfl rfl) (ev_name 3) (ev_name 4)) (fun hbo => (ew_and1 (et_cp f_ge (ev_call (h_law_load W) c (ea_cons (ev_name 0) (ea_cons (ev_name 2) (ea_cons (ev_name 4) ea_nil))) (P3.go trivial)) (ev_name 5)))))) (fun _ => (ss_end (st_ret ev_bl))) (fun h => Bool.noConfusion (hq.symm.trans h)))), fun hq => ⟨_, (ss_one (st_if (et_w (ew_and (et_cp (f_inT c (x := v_law_tag) (xs := u1.1) rfl rfl) (ev_name 3) (ev_name 4)) (fun hbo => (ew_and1 (et_cp f_ge (ev_call (h_law_load W) c (ea_cons (ev_name 0) (ea_cons (ev_name 2) (ea_cons (ev_name 4) ea_nil))) (P3.go trivial)) (ev_name 5)))))) (fun h => Bool.noConfusion (h.symm.trans hq)) (fun _ => ss_nil))), .nx (.keep (.keep (.keep (.keep (.drop (.drop .nil))))))⟩⟩) (fun hany =>
    (ss_end (st_ret ev_bl)))), .rt .dat⟩
/-! ### _law_more -/
def m_law_more (v_law_rules_so : Rules) (v_law_lot_so : (Tup Int)) (v_law_tag : Str) : (Tup Int) := (Tup.mk ((v_law_rules_so.1.items.zip v_law_lot_so.items).map fun x1 => (x1.2 + (if (decide (x1.1 = v_law_tag)) = true then 1 else 0 : Int))))
def N_law_more : List Str := ["_law_rules_so", "_law_lot_so", "_law_tag", "_law_far", "_law_own"]
theorem sc_law_more : FnScope N_law_more ["_law_rules_so", "_law_lot_so", "_law_tag"] (defScope s__law_more) := ⟨rfl, rfl, rfl, by decide +kernel, rfl, by decide +kernel, by decide +kernel⟩
abbrev R_law_more : Rel := P3 (fun (v_law_rules_so : Rules) (v_law_lot_so : (Tup Int)) (v_law_tag : Str) => True) (fun (v_law_rules_so : Rules) (v_law_lot_so : (Tup Int)) (v_law_tag : Str) => dd (m_law_more v_law_rules_so v_law_lot_so v_law_tag))
theorem h_law_more (W : Wld P w K mg base) : Has P w K mg base 1 "_law_more" R_law_more := by
  refine has_of (k := 0) W.g W.d_law_more sc_law_more (fun _ _ _ _ _ _ us hl => match us, hl with | [_, _, _], _ => rfl) (fun rs μ r μ' h => by obtain ⟨a0, a1, a2, h⟩ := h; rw [h.2.1]; rfl) ?_
  rintro f cdv A outer s H E rs μ r μ' c ⟨v_law_rules_so, v_law_lot_so, v_law_tag, hp, rfl, rfl, rfl, rfl⟩
  exact ⟨_, (ss_end (st_ret (ev_ct (c_tuple (xs := ((v_law_rules_so.1.items.zip v_law_lot_so.items).map fun x1 => (x1.2 + (if (decide (x1.1 = v_law_tag)) = true then 1 else 0 : Int)))) rfl) c.b_tuple (ea_cons (EvB.pe (lc0 [("_law_far", 3), ("_law_own", 4)] (v_law_rules_so.1.items.zip v_law_lot_so.items) (fun x1 => (x1.2 + (if (decide (x1.1 = v_law_tag)) = true then 1 else 0 : Int))) c (EvI.cast (ei_zipT c (ev_fst (q := v_law_rules_so) (ev_name 0)) (ev_name 1)) (zipD_map _ _)) (blkOk_by (by kernel_rfl)) (fun x1 hx1 => ⟨_, fun _ c => eg_tup c (egs_cons (eg_name c 3) (egs_cons (eg_name c 4) egs_nil)), fun _ c => (ev_op f_add (ev_name 4) (ev_ct c_intB c.b_int (ea_cons (ev_cp (f_eq c (x := x1.1) (y := v_law_tag) rfl rfl) (ev_name 3) (ev_name 2)) ea_nil)))⟩))) ea_nil)))), .rt .dat⟩
/-! ### _law_keeps -/
def m_law_keeps (v_law_rules_so : Rules) (v_law_tops_so : (Tup Int)) (v_law_lot_so : (Tup Int)) : Bool := (if ((v_law_rules_so.2.items.zip v_law_tops_so.items).any fun u1 => (decide (u1.2 < (m_law_load v_law_rules_so v_law_lot_so u1.1)))) = true then false else true)
def N_law_keeps : List Str := ["_law_rules_so", "_law_tops_so", "_law_lot_so", "_law_group_so", "_law_top_so"]
theorem sc_law_keeps : FnScope N_law_keeps ["_law_rules_so", "_law_tops_so", "_law_lot_so"] (defScope s__law_keeps) := ⟨rfl, rfl, rfl, by decide +kernel, rfl, by decide +kernel, by decide +kernel⟩
abbrev R_law_keeps : Rel := P3 (fun (v_law_rules_so : Rules) (v_law_tops_so : (Tup Int)) (v_law_lot_so : (Tup Int)) => True) (fun (v_law_rules_so : Rules) (v_law_tops_so : (Tup Int)) (v_law_lot_so : (Tup Int)) => dd (m_law_keeps v_law_rules_so v_law_tops_so v_law_lot_so))
theorem h_law_keeps (W : Wld P w K mg base) : Has P w K mg base 2 "_law_keeps" R_law_keeps := by
  refine has_of (k := 1) W.g W.d_law_keeps sc_law_keeps (fun _ _ _ _ _ _ us hl => match us, hl with | [_, _, _], _ => rfl) (fun rs μ r μ' h => by obtain ⟨a0, a1, a2, h⟩ := h; rw [h.2.1]; rfl) ?_
  rintro f cdv A outer s H E rs μ r μ' c ⟨v_law_rules_so, v_law_tops_so, v_law_lot_so, hp, rfl, rfl, rfl, rfl⟩
  exact ⟨_, (ss_seekD [3, 4] (v_law_rules_so.2.items.zip v_law_tops_so.items) (fun u1 => (decide (u1.2 < (m_law_load v_law_rules_so v_law_lot_so u1.1)))) false true [dd v_law_rules_so, dd v_law_tops_so, dd v_law_lot_so, .un, .un] c (EvI.cast (ei_zipT c (ev_snd (q := v_law_rules_so) (ev_name 0)) (ev_name 1)) (zipD_map _ _)) Fits.refl (fun u1 hu1 => ⟨_, eg_tup c (egs_cons (eg_name c 3) (egs_cons (eg_name c 4) egs_nil)), fun hq => (ss_end (st_if (et_cp f_gt (ev_call (h_law_load W) c (ea_cons (ev_name 0) (ea_cons (ev_name 2) (ea_cons (ev_name 3) ea_nil))) (P3.go trivial)) (ev_name 4)) (fun _ => (ss_end (st_ret ev_bl))) (fun h => Bool.noConfusion (hq.symm.trans h)))), fun hq => ⟨_, (ss_one (st_if (et_cp f_gt (ev_call (h_law_load W) c (ea_cons (ev_name 0) (ea_cons (ev_name 2) (ea_cons (ev_name 3) ea_nil))) (P3.go trivial)) (ev_name 4)) (fun h => Bool.noConfusion (h.symm.trans hq)) (fun _ => ss_nil))), .nx (.keep (.keep (.keep (.drop (.drop .nil)))))⟩⟩) (fun hany =>
    (ss_end (st_ret ev_bl)))), .rt .dat⟩
/-! ### _law_served -/
def m_law_served (v_law_rules_so : Rules) (v_law_tops_so : (Tup Int)) (v_law_row_so : (Tup Str)) : ((Tup Bool) × (Tup Int)) := ((Tup.mk (v_law_row_so.items.foldl (fun (t1 : (Tup Int) × List Bool) u1 => ((if ((t1.2 ++ [(!(m_law_shut v_law_rules_so v_law_tops_so t1.1 u1))]).getLastD false) = true then (m_law_more v_law_rules_so t1.1 u1) else t1.1), (t1.2 ++ [(!(m_law_shut v_law_rules_so v_law_tops_so t1.1 u1))]))) ((Tup.mk (List.replicate v_law_rules_so.1.items.length (0 : Int))), ([] : List Bool))).2), (v_law_row_so.items.foldl (fun (t1 : (Tup Int) × List Bool) u1 => ((if ((t1.2 ++ [(!(m_law_shut v_law_rules_so v_law_tops_so t1.1 u1))]).getLastD false) = true then (m_law_more v_law_rules_so t1.1 u1) else t1.1), (t1.2 ++ [(!(m_law_shut v_law_rules_so v_law_tops_so t1.1 u1))]))) ((Tup.mk (List.replicate v_law_rules_so.1.items.length (0 : Int))), ([] : List Bool))).1)
def N_law_served : List Str := ["_law_rules_so", "_law_tops_so", "_law_row_so", "_law_lot_so", "_law_told_so", "_law_tag"]
theorem sc_law_served : FnScope N_law_served ["_law_rules_so", "_law_tops_so", "_law_row_so"] (defScope s__law_served) := ⟨rfl, rfl, rfl, by decide +kernel, rfl, by decide +kernel, by decide +kernel⟩
theorem sv_app {i : Nat} {xs : List Bool} {row : List Str} {u : Str} (h : xs.length ≤ i) (hu : row[i]? = some u) (hl : row.length ≤ 8) : xs.length ≤ 100000 := by
  have a := (List.getElem?_eq_some_iff.mp hu).1
  omega
theorem sv_step {i : Nat} {t : List Bool} {x : Bool} (h : t.length ≤ i) : (t ++ [x]).length ≤ i + 1 := by
  rw [List.length_append]; exact Nat.succ_le_succ h
abbrev R_law_served : Rel := P3 (fun (v_law_rules_so : Rules) (v_law_tops_so : (Tup Int)) (v_law_row_so : (Tup Str)) => WR v_law_rules_so ∧ v_law_row_so.items.length ≤ 8) (fun (v_law_rules_so : Rules) (v_law_tops_so : (Tup Int)) (v_law_row_so : (Tup Str)) => dd (m_law_served v_law_rules_so v_law_tops_so v_law_row_so))
theorem h_law_served (W : Wld P w K mg base) : Has P w K mg base 3 "_law_served" R_law_served := by
  refine has_of (k := 2) W.g W.d_law_served sc_law_served (fun _ _ _ _ _ _ us hl => match us, hl with | [_, _, _], _ => rfl) (fun rs μ r μ' h => by obtain ⟨a0, a1, a2, h⟩ := h; rw [h.2.1]; rfl) ?_
  rintro f cdv A outer s H E rs μ r μ' c ⟨v_law_rules_so, v_law_tops_so, v_law_row_so, hp, rfl, rfl, rfl, rfl⟩
  exact ⟨_, (ss_cons (st_par c 3 4 (en_cons (ev_op (f_repT0 (n := v_law_rules_so.1.items.length) (by have h := hp.1.kl; omega) (ne_pos hp.1.k1)) (ev_tup1 ev_int) (ev_cb (c_lenT (t := v_law_rules_so.1) rfl) c.b_len (ea_cons (ev_fst (q := v_law_rules_so) (ev_name 0)) ea_nil))) (en_cons (ev_lst0 (α := Bool)) en_nil)) (.sta rfl (.new .nil)))
    (ss_cons (st_fold [5] v_law_row_so.items (fun (t1 : (Tup Int) × List Bool) u1 => ((if ((t1.2 ++ [(!(m_law_shut v_law_rules_so v_law_tops_so t1.1 u1))]).getLastD false) = true then (m_law_more v_law_rules_so t1.1 u1) else t1.1), (t1.2 ++ [(!(m_law_shut v_law_rules_so v_law_tops_so t1.1 u1))]))) ((Tup.mk (List.replicate v_law_rules_so.1.items.length (0 : Int))), ([] : List Bool)) (fun t1 => [dd v_law_rules_so, dd v_law_tops_so, dd v_law_row_so, dd t1.1, .cel 0, .un]) (fun t1 => [cl t1.2]) (fun i (t : Tup Int × List Bool) => t.2.length ≤ i) c (ei_tup (ev_name 2)) (Nat.le_refl _) Fits.refl rfl (fun i t1 u1 hu1 hI1 => ⟨(sv_step hI1), _, _, eg_name c 5, (ss_cons (st_expr (ev_appendT (n := 0) (xs := t1.2) (ys := t1.2) (x := (!(m_law_shut v_law_rules_so v_law_tops_so t1.1 u1))) (ev_name 4) (ev_not (ev_call (h_law_shut W) c (ea_cons (ev_name 0) (ea_cons (ev_name 1) (ea_cons (ev_name 3) (ea_cons (ev_name 5) ea_nil)))) (P4.go trivial))) rfl rfl (sv_app hI1 hu1 hp.2)))
    (ss_cons (st_set c 3 (ev_ifD (et_val (ev_lastD (xs := (t1.2 ++ [(!(m_law_shut v_law_rules_so v_law_tops_so t1.1 u1))])) false (ev_name 4) (ev_neg ev_int) rfl rfl (by simp))) (fun hif => (ev_call (h_law_more W) c (ea_cons (ev_name 0) (ea_cons (ev_name 3) (ea_cons (ev_name 5) ea_nil))) (P3.go trivial))) (fun hif => (ev_name 3))))
    ss_nil)), .nx (.keep (.keep (.keep (.keep (.keep (.drop .nil))))))⟩))
    (ss_end (st_ret (ev_pair (ev_ct (c_tuple (xs := (v_law_row_so.items.foldl (fun (t1 : (Tup Int) × List Bool) u1 => ((if ((t1.2 ++ [(!(m_law_shut v_law_rules_so v_law_tops_so t1.1 u1))]).getLastD false) = true then (m_law_more v_law_rules_so t1.1 u1) else t1.1), (t1.2 ++ [(!(m_law_shut v_law_rules_so v_law_tops_so t1.1 u1))]))) ((Tup.mk (List.replicate v_law_rules_so.1.items.length (0 : Int))), ([] : List Bool))).2) rfl) c.b_tuple (ea_cons (ev_name 4) ea_nil)) (ev_name 3)))))), .rt .dat⟩
/-! ### _law_lots -/
def m_law_lots (v_law_many_so : (Tup Int)) : (List (Tup Int)) := (v_law_many_so.items.foldl (fun (t1 : (List (Tup Int))) u1 => (t1.foldl (fun (t2 : (List (Tup Int))) u2 => (t2 ++ ((rangeI (u1 + (1 : Int)).toNat).map fun x1 => (Tup.mk (u2.items ++ [x1]))))) ([] : List (Tup Int)))) [(Tup.mk ([] : List Int))])
def N_law_lots : List Str := ["_law_many_so", "_law_found", "_law_top_so", "_law_later_so", "_law_own", "_law_far"]
theorem sc_law_lots : FnScope N_law_lots ["_law_many_so"] (defScope s__law_lots) := ⟨rfl, rfl, rfl, by decide +kernel, rfl, by decide +kernel, by decide +kernel⟩
abbrev llMore (own : Tup Int) (u : Int) : List (Tup Int) := (rangeI (u + 1).toNat).map fun x => Tup.mk (own.items ++ [x])
theorem ll_one {own : Tup Int} {u : Int} (h : 0 ≤ u ∧ u ≤ 3) : (llMore own u).length ≤ 4 := by
  rw [List.length_map, rangeI_len]
  omega
theorem ll_in {i : Nat} {t : List (Tup Int)} {own : Tup Int} {u : Int} (h : 0 ≤ u ∧ u ≤ 3) (hI : t.length ≤ 4 * i) : (t ++ llMore own u).length ≤ 4 * (i + 1) := by
  have a := ll_one (own := own) h
  rw [List.length_append]
  omega
theorem ll_fold (u : Int) : ∀ (t acc : List (Tup Int)), t.foldl (fun t2 u2 => t2 ++ llMore u2 u) acc = acc ++ alMore t u
  | [], acc => (List.append_nil _).symm
  | x :: t, acc => by
    rw [List.foldl_cons, ll_fold u t, List.append_assoc]
    unfold alMore
    rw [List.flatMap_cons]
theorem ll_zero : [Tup.mk ([] : List Int)].length ≤ 4 ^ 0 ∧ ∀ lot ∈ [Tup.mk ([] : List Int)], lot.items.length ≤ 0 := ⟨Nat.le_refl _, fun lot h => by rw [List.mem_singleton.mp h]; exact Nat.le_refl _⟩
theorem ll_step {i : Nat} {t : List (Tup Int)} {u : Int} (h : 0 ≤ u ∧ u ≤ 3) (hI : t.length ≤ 4 ^ i ∧ ∀ lot ∈ t, lot.items.length ≤ i) : (t.foldl (fun t2 u2 => t2 ++ llMore u2 u) []).length ≤ 4 ^ (i + 1) ∧ ∀ lot ∈ t.foldl (fun t2 u2 => t2 ++ llMore u2 u) [], lot.items.length ≤ i + 1 := by
  rw [ll_fold, List.nil_append]
  refine ⟨?_, fun lot hl => ?_⟩
  · have a := al_more (t := t) h.1 h.2
    have b := hI.1
    rw [Nat.pow_succ]
    omega
  · obtain ⟨x, hx, hm⟩ := List.mem_flatMap.mp hl
    obtain ⟨y, _, rfl⟩ := List.mem_map.mp hm
    show (x.items ++ [y]).length ≤ i + 1
    rw [List.length_append]
    exact Nat.succ_le_succ (hI.2 x hx)
theorem ll_len {i j : Nat} {t : List (Tup Int)} {own : Tup Int} {u : Int} {D : List Int} {x : Int} (h : ∀ lot ∈ t, lot.items.length ≤ i) (hu : D[i]? = some u) (hl : D.length ≤ 4) (ho : t[j]? = some own) : own.items.length + [x].length ≤ 100000 := by
  have a := h own (List.mem_of_getElem? ho)
  have b := (List.getElem?_eq_some_iff.mp hu).1
  show own.items.length + 1 ≤ _
  omega
theorem ll_few {i j : Nat} {t s : List (Tup Int)} {own : Tup Int} {u : Int} {D : List Int} (h : 0 ≤ u ∧ u ≤ 3) (hI : t.length ≤ 4 ^ i) (hu : D[i]? = some u) (hl : D.length ≤ 4) (hs : s.length ≤ 4 * j) (ho : t[j]? = some own) : s.length + (llMore own u).length ≤ 100000 := by
  have a := ll_one (own := own) h
  have b := (List.getElem?_eq_some_iff.mp hu).1
  have c := (List.getElem?_eq_some_iff.mp ho).1
  have e : 4 ^ i ≤ 4 ^ 4 := Nat.pow_le_pow_right (by decide) (by omega)
  omega
abbrev R_law_lots : Rel := P1 (fun (v_law_many_so : (Tup Int)) => v_law_many_so.items.length ≤ 4 ∧ ∀ d ∈ v_law_many_so.items, 0 ≤ d ∧ d ≤ 3) (fun (v_law_many_so : (Tup Int)) => dd (m_law_lots v_law_many_so))
theorem h_law_lots (W : Wld P w K mg base) : Has P w K mg base 2 "_law_lots" R_law_lots := by
  refine has_of (k := 1) W.g W.d_law_lots sc_law_lots (fun _ _ _ _ _ _ us hl => match us, hl with | [_], _ => rfl) (fun rs μ r μ' h => by obtain ⟨a0, h⟩ := h; rw [h.2.1]; rfl) ?_
  rintro f cdv A outer s H E rs μ r μ' c ⟨v_law_many_so, hp, rfl, rfl, rfl, rfl⟩
  exact ⟨_, (ss_cons (st_set c 1 (Ev.frz' (ev_lst1 (ev_tup0 (α := Int)))))
    (ss_cons (st_fold [2] v_law_many_so.items (fun (t1 : (List (Tup Int))) u1 => (t1.foldl (fun (t2 : (List (Tup Int))) u2 => (t2 ++ ((rangeI (u1 + (1 : Int)).toNat).map fun x1 => (Tup.mk (u2.items ++ [x1]))))) ([] : List (Tup Int)))) [(Tup.mk ([] : List Int))] (fun t1 => [dd v_law_many_so, dd t1, .un, .un, .un, .un]) (fun t1 => []) (fun i (t : List (Tup Int)) => t.length ≤ 4 ^ i ∧ ∀ lot ∈ t, lot.items.length ≤ i) c (ei_tup (ev_name 0)) ll_zero Fits.refl rfl (fun i t1 u1 hu1 hI1 => ⟨(ll_step (hp.2 _ (List.mem_of_getElem? hu1)) hI1), _, _, eg_name c 2, (ss_cons (st_set c 3 (Ev.frz' (ev_lst0 (α := (Tup Int)))))
    (ss_cons (st_fold [4] t1 (fun (t2 : (List (Tup Int))) u2 => (t2 ++ ((rangeI (u1 + (1 : Int)).toNat).map fun x1 => (Tup.mk (u2.items ++ [x1]))))) ([] : List (Tup Int)) (fun t2 => [dd v_law_many_so, dd t1, dd u1, dd t2, .un, .un]) (fun t2 => []) (fun i (t : List (Tup Int)) => t.length ≤ 4 * i) c (ei_list (ev_name 1)) (Nat.le_refl _) Fits.refl rfl (fun i t2 u2 hu2 hI2 => ⟨(ll_in (hp.2 _ (List.mem_of_getElem? hu1)) hI2), _, _, eg_name c 4, (ss_cons (st_set c 3 (Ev.frz' (ev_op (f_catLL (xs := t2) (ys := ((rangeI (u1 + (1 : Int)).toNat).map fun x1 => (Tup.mk (u2.items ++ [x1])))) rfl rfl (ll_few (hp.2 _ (List.mem_of_getElem? hu1)) hI1.1 hu1 hp.1 hI2 hu2)) (ev_name 3) (EvB.pe (lc0 [("_law_far", 5)] (rangeI (u1 + (1 : Int)).toNat) (fun x1 => (Tup.mk (u2.items ++ [x1]))) c (ei_range c (ev_op f_add (ev_name 2) ev_int) (by have h := hp.2 _ (List.mem_of_getElem? hu1); omega) (by have h := hp.2 _ (List.mem_of_getElem? hu1); omega)) (blkOk_by (by kernel_rfl)) (fun x1 hx1 => ⟨_, fun _ c => eg_name c 5, fun _ c => (ev_op (f_catTT (ll_len hI1.2 hu1 hp.1 hu2)) (ev_name 4) (ev_tup1 (ev_name 5)))⟩))))))
    ss_nil), .nx (.keep (.keep (.keep (.keep (.drop (.keep .nil))))))⟩))
    (ss_cons (st_set c 1 (ev_name 3))
    ss_nil))), .nx (.keep (.keep (.drop (.drop (.keep (.keep .nil))))))⟩))
    (ss_end (st_ret (ev_name 1))))), .rt .dat⟩
/-! ### _law_sets -/
def m_law_sets (v_law_groups_so : (List (Tup Str))) : (List (Tup (Tup Str))) := (v_law_groups_so.foldl (fun (t1 : (List (Tup (Tup Str)))) u1 => (t1 ++ (t1.map fun x1 => (Tup.mk (x1.items ++ [u1]))))) [(Tup.mk ([] : List (Tup Str)))])
def N_law_sets : List Str := ["_law_groups_so", "_law_found", "_law_own", "_law_some_so"]
theorem sc_law_sets : FnScope N_law_sets ["_law_groups_so"] (defScope s__law_sets) := ⟨rfl, rfl, rfl, by decide +kernel, rfl, by decide +kernel, by decide +kernel⟩
abbrev R_law_sets : Rel := P1 (fun (v_law_groups_so : (List (Tup Str))) => v_law_groups_so.length ≤ 4) (fun (v_law_groups_so : (List (Tup Str))) => dd (m_law_sets v_law_groups_so))
theorem h_law_sets (W : Wld P w K mg base) : Has P w K mg base 1 "_law_sets" R_law_sets := by
  refine has_of (k := 0) W.g W.d_law_sets sc_law_sets (fun _ _ _ _ _ _ us hl => match us, hl with | [_], _ => rfl) (fun rs μ r μ' h => by obtain ⟨a0, h⟩ := h; rw [h.2.1]; rfl) ?_
  rintro f cdv A outer s H E rs μ r μ' c ⟨v_law_groups_so, hp, rfl, rfl, rfl, rfl⟩
  exact ⟨_, (ss_cons (st_set c 1 (Ev.frz' (ev_lst1 (ev_tup0 (α := (Tup Str))))))
    (ss_cons (st_fold [2] v_law_groups_so (fun (t1 : (List (Tup (Tup Str)))) u1 => (t1 ++ (t1.map fun x1 => (Tup.mk (x1.items ++ [u1]))))) [(Tup.mk ([] : List (Tup Str)))] (fun t1 => [dd v_law_groups_so, dd t1, .un, .un]) (fun t1 => []) StInv c (ei_list (ev_name 0)) st_zero Fits.refl rfl (fun i t1 u1 hu1 hI1 => ⟨(st_step hI1), _, _, eg_name c 2, (ss_cons (st_set c 1 (Ev.frz' (ev_op (f_catLL (xs := t1) (ys := (t1.map fun x1 => (Tup.mk (x1.items ++ [u1])))) rfl rfl (st_size hI1 hu1 hp)) (ev_name 1) (EvB.pe (lc0 [("_law_some_so", 3)] t1 (fun x1 => (Tup.mk (x1.items ++ [u1]))) c (ei_list (ev_name 1)) (blkOk_by (by kernel_rfl)) (fun x1 hx1 => ⟨_, fun _ c => eg_name c 3, fun _ c => (ev_op (f_catTT (Nat.le_trans (Nat.succ_le_succ (st_item hI1 hx1 hu1 hp)) (by decide))) (ev_name 3) (ev_tup1 (ev_name 2)))⟩))))))
    ss_nil), .nx (.keep (.keep (.drop (.keep .nil))))⟩))
    (ss_end (st_ret (ev_name 1))))), .rt .dat⟩
/-! ### _law_open -/
def m_law_open (v_law_some_so : (Tup (Tup Str))) : Bool := (if (v_law_some_so.items.any fun u1 => (decide ((u1.items.filter fun x1 => (decide (x1 ∉ (v_law_some_so.items.foldl (fun (t2 : (List Str)) u2 => (t2 ++ (if (decide (u2 ≠ u1)) = true then u2.items else ([] : List Str)))) ([] : List Str))))) = ([] : List Str)))) = true then false else true)
def N_law_open : List Str := ["_law_some_so", "_law_own", "_law_rest", "_law_far", "_law_tag"]
theorem sc_law_open : FnScope N_law_open ["_law_some_so"] (defScope s__law_open) := ⟨rfl, rfl, rfl, by decide +kernel, rfl, by decide +kernel, by decide +kernel⟩
theorem lo_one {q : Bool} {g : Tup Str} (h : g.items.length ≤ 4) : (if q = true then g.items else ([] : List Str)).length ≤ 4 := by
  cases q with
  | true => exact h
  | false => exact Nat.zero_le _
theorem lo_in {i : Nat} {t : List Str} {q : Bool} {g : Tup Str} (h : g.items.length ≤ 4) (hI : t.length ≤ 4 * i) : (t ++ (if q = true then g.items else ([] : List Str))).length ≤ 4 * (i + 1) := by
  have a := lo_one (q := q) h
  rw [List.length_append]
  omega
theorem lo_few {i : Nat} {t : List Str} {q : Bool} {g : Tup Str} {gs : List (Tup Str)} (h : g.items.length ≤ 4) (hl : gs.length ≤ 4) (hu : gs[i]? = some g) (hI : t.length ≤ 4 * i) : t.length + (if q = true then g.items else ([] : List Str)).length ≤ 100000 := by
  have a := lo_one (q := q) h
  have b := (List.getElem?_eq_some_iff.mp hu).1
  omega
abbrev R_law_open : Rel := P1 (fun (v_law_some_so : (Tup (Tup Str))) => v_law_some_so.items.length ≤ 4 ∧ ∀ g ∈ v_law_some_so.items, g.items.length ≤ 4) (fun (v_law_some_so : (Tup (Tup Str))) => dd (m_law_open v_law_some_so))
theorem h_law_open (W : Wld P w K mg base) : Has P w K mg base 1 "_law_open" R_law_open := by
  refine has_of (k := 0) W.g W.d_law_open sc_law_open (fun _ _ _ _ _ _ us hl => match us, hl with | [_], _ => rfl) (fun rs μ r μ' h => by obtain ⟨a0, h⟩ := h; rw [h.2.1]; rfl) ?_
  rintro f cdv A outer s H E rs μ r μ' c ⟨v_law_some_so, hp, rfl, rfl, rfl, rfl⟩
  exact ⟨_, (ss_seekD [1] v_law_some_so.items (fun u1 => (decide ((u1.items.filter fun x1 => (decide (x1 ∉ (v_law_some_so.items.foldl (fun (t2 : (List Str)) u2 => (t2 ++ (if (decide (u2 ≠ u1)) = true then u2.items else ([] : List Str)))) ([] : List Str))))) = ([] : List Str)))) false true [dd v_law_some_so, .un, .un, .un, .un] c (ei_tup (ev_name 0)) Fits.refl (fun u1 hu1 => ⟨_, eg_name c 1, fun hq => (ss_cons (st_set c 2 (Ev.frz' (ev_lst0 (α := Str))))
    (ss_cons (st_fold [3] v_law_some_so.items (fun (t2 : (List Str)) u2 => (t2 ++ (if (decide (u2 ≠ u1)) = true then u2.items else ([] : List Str)))) ([] : List Str) (fun t2 => [dd v_law_some_so, dd u1, dd t2, .un, .un]) (fun t2 => []) (fun i (t : List Str) => t.length ≤ 4 * i) c (ei_tup (ev_name 0)) (Nat.le_refl _) Fits.refl rfl (fun i t2 u2 hu2 hI2 => ⟨(lo_in (hp.2 _ (List.mem_of_getElem? hu2)) hI2), _, _, eg_name c 3, (ss_cons (st_set c 2 (Ev.frz' (ev_op (f_catLL (xs := t2) (ys := (if (decide (u2 ≠ u1)) = true then u2.items else ([] : List Str))) rfl rfl (lo_few (hp.2 _ (List.mem_of_getElem? hu2)) hp.1 hu2 hI2)) (ev_name 2) (ev_ifF (et_cp (f_ne c (x := u2) (y := u1) rfl rfl) (ev_name 3) (ev_name 1)) (fun _ => (ev_ct (c_listT (ds := (u2.items).map Datum.toD) rfl) c.b_list (ea_cons (ev_name 3) ea_nil))) (fun _ => (ev_lst0 (α := Str)))))))
    ss_nil), .nx (.keep (.keep (.keep (.drop (.keep .nil)))))⟩))
    (ss_end (st_if (et_cp (f_eq c (x := (u1.items.filter fun x1 => (decide (x1 ∉ (v_law_some_so.items.foldl (fun (t2 : (List Str)) u2 => (t2 ++ (if (decide (u2 ≠ u1)) = true then u2.items else ([] : List Str)))) ([] : List Str)))))) (y := ([] : List Str)) rfl rfl) (EvB.pe (lcf [("_law_tag", 4)] u1.items (fun x1 => (decide (x1 ∉ (v_law_some_so.items.foldl (fun (t2 : (List Str)) u2 => (t2 ++ (if (decide (u2 ≠ u1)) = true then u2.items else ([] : List Str)))) ([] : List Str))))) c (ei_tup (ev_name 1)) (blkOk_by (by kernel_rfl)) (fun x1 hx1 => ⟨_, fun _ c => eg_name c 4, fun _ c => (et_cp (f_ninL c (x := x1) (xs := (v_law_some_so.items.foldl (fun (t2 : (List Str)) u2 => (t2 ++ (if (decide (u2 ≠ u1)) = true then u2.items else ([] : List Str)))) ([] : List Str))) rfl rfl) (ev_name 4) (ev_name 2)), fun hif _ c => (ev_name 4)⟩))) (ev_lst0 (α := Str))) (fun _ => (ss_end (st_ret ev_bl))) (fun h => Bool.noConfusion (hq.symm.trans h)))))), fun hq => ⟨_, (ss_cons (st_set c 2 (Ev.frz' (ev_lst0 (α := Str))))
    (ss_cons (st_fold [3] v_law_some_so.items (fun (t2 : (List Str)) u2 => (t2 ++ (if (decide (u2 ≠ u1)) = true then u2.items else ([] : List Str)))) ([] : List Str) (fun t2 => [dd v_law_some_so, dd u1, dd t2, .un, .un]) (fun t2 => []) (fun i (t : List Str) => t.length ≤ 4 * i) c (ei_tup (ev_name 0)) (Nat.le_refl _) Fits.refl rfl (fun i t2 u2 hu2 hI2 => ⟨(lo_in (hp.2 _ (List.mem_of_getElem? hu2)) hI2), _, _, eg_name c 3, (ss_cons (st_set c 2 (Ev.frz' (ev_op (f_catLL (xs := t2) (ys := (if (decide (u2 ≠ u1)) = true then u2.items else ([] : List Str))) rfl rfl (lo_few (hp.2 _ (List.mem_of_getElem? hu2)) hp.1 hu2 hI2)) (ev_name 2) (ev_ifF (et_cp (f_ne c (x := u2) (y := u1) rfl rfl) (ev_name 3) (ev_name 1)) (fun _ => (ev_ct (c_listT (ds := (u2.items).map Datum.toD) rfl) c.b_list (ea_cons (ev_name 3) ea_nil))) (fun _ => (ev_lst0 (α := Str)))))))
    ss_nil), .nx (.keep (.keep (.keep (.drop (.keep .nil)))))⟩))
    (ss_one (st_if (et_cp (f_eq c (x := (u1.items.filter fun x1 => (decide (x1 ∉ (v_law_some_so.items.foldl (fun (t2 : (List Str)) u2 => (t2 ++ (if (decide (u2 ≠ u1)) = true then u2.items else ([] : List Str)))) ([] : List Str)))))) (y := ([] : List Str)) rfl rfl) (EvB.pe (lcf [("_law_tag", 4)] u1.items (fun x1 => (decide (x1 ∉ (v_law_some_so.items.foldl (fun (t2 : (List Str)) u2 => (t2 ++ (if (decide (u2 ≠ u1)) = true then u2.items else ([] : List Str)))) ([] : List Str))))) c (ei_tup (ev_name 1)) (blkOk_by (by kernel_rfl)) (fun x1 hx1 => ⟨_, fun _ c => eg_name c 4, fun _ c => (et_cp (f_ninL c (x := x1) (xs := (v_law_some_so.items.foldl (fun (t2 : (List Str)) u2 => (t2 ++ (if (decide (u2 ≠ u1)) = true then u2.items else ([] : List Str)))) ([] : List Str))) rfl rfl) (ev_name 4) (ev_name 2)), fun hif _ c => (ev_name 4)⟩))) (ev_lst0 (α := Str))) (fun h => Bool.noConfusion (h.symm.trans hq)) (fun _ => ss_nil))))), .nx (.keep (.drop (.drop (.keep (.keep .nil)))))⟩⟩) (fun hany =>
    (ss_end (st_ret ev_bl)))), .rt .dat⟩
end
end CL
end
section
set_option autoImplicit false
namespace CL
open PySem PySem.Spec PyProof.Rows L2 DL
open PySem.W (Datum Tup DatumOrd Holds HoldAll T3)
/-! Contracts 13: of the law. -/
section
variable {P : Program} {w : World} {K : PySem.W.Frag} {mg : Str → Option Value} {base : Heap}

/-! ### _law_bare -/
def m_law_bare (v_law_rules_so : Rules) (v_law_tag : Str) : Int := (imax ([(1 : Int)] ++ (((m_law_sets (v_law_rules_so.2.items.filter fun x1 => (decide (v_law_tag ∈ x1.items)))).filter fun x2 => (m_law_open x2)).map fun x2 => (x2.items.length : Int))))
def N_law_bare : List Str := ["_law_rules_so", "_law_tag", "_law_with_so", "_law_own"]
theorem sc_law_bare : FnScope N_law_bare ["_law_rules_so", "_law_tag"] (defScope s__law_bare) := ⟨rfl, rfl, rfl, by decide +kernel, rfl, by decide +kernel, by decide +kernel⟩
theorem g_le {R : Rules} (h : WR R) : ∀ g ∈ R.2.items, g.items.length ≤ 4 := fun g hg => Nat.le_trans (nodup_len _ _ (h.nd g hg) (h.gs g hg)) h.kl
theorem ls_mem {gs : List (Tup Str)} {own : Tup (Tup Str)} (h : own ∈ m_law_sets gs) : own.items.Sublist gs :=
  ss_go gs [] [Tup.mk []] (fun own ho => by rw [List.mem_singleton.mp ho]; exact List.Sublist.refl _) own h
theorem lb_open {R : Rules} {q : Tup Str → Bool} {own : Tup (Tup Str)} (h : WR R) (hm : own ∈ m_law_sets (R.2.items.filter q)) : own.items.length ≤ 4 ∧ ∀ g ∈ own.items, g.items.length ≤ 4 := by
  have a := (ls_mem hm).trans List.filter_sublist
  exact ⟨Nat.le_trans a.length_le h.gl, fun g hg => g_le h g (a.subset hg)⟩
theorem ls_16 {gs : List (Tup Str)} (h : gs.length ≤ 4) : (m_law_sets gs).length ≤ 16 := by
  have a : StInv gs.length (m_law_sets gs) := fold_inv gs st_zero (fun i t x hx hI => st_step hI)
  have b := a.1
  have c : 2 ^ gs.length ≤ 2 ^ 4 := Nat.pow_le_pow_right (by decide) h
  omega
theorem lb_few {R : Rules} {q : Tup Str → Bool} {p : Tup (Tup Str) → Bool} {f : Tup (Tup Str) → Int} (h : WR R) : [(1 : Int)].length + (((m_law_sets (R.2.items.filter q)).filter p).map f).length ≤ 100000 := by
  have a := ls_16 (Nat.le_trans (List.length_filter_le q R.2.items) h.gl)
  have b := List.length_filter_le p (m_law_sets (R.2.items.filter q))
  rw [List.length_map]
  show 1 + _ ≤ _
  omega
abbrev R_law_bare : Rel := P2 (fun (v_law_rules_so : Rules) (v_law_tag : Str) => WR v_law_rules_so) (fun (v_law_rules_so : Rules) (v_law_tag : Str) => dd (m_law_bare v_law_rules_so v_law_tag))
theorem h_law_bare (W : Wld P w K mg base) : Has P w K mg base 2 "_law_bare" R_law_bare := by
  refine has_of (k := 1) W.g W.d_law_bare sc_law_bare (fun _ _ _ _ _ _ us hl => match us, hl with | [_, _], _ => rfl) (fun rs μ r μ' h => by obtain ⟨a0, a1, h⟩ := h; rw [h.2.1]; rfl) ?_
  rintro f cdv A outer s H E rs μ r μ' c ⟨v_law_rules_so, v_law_tag, hp, rfl, rfl, rfl, rfl⟩
  exact ⟨_, (ss_cons (st_setB c 2 (EvB.frz (lcf [("_law_own", 3)] v_law_rules_so.2.items (fun x1 => (decide (v_law_tag ∈ x1.items))) c (ei_tup (ev_snd (q := v_law_rules_so) (ev_name 0))) (blkOk_by (by kernel_rfl)) (fun x1 hx1 => ⟨_, fun _ c => eg_name c 3, fun _ c => (et_cp (f_inT c (x := v_law_tag) (xs := x1) rfl rfl) (ev_name 1) (ev_name 3)), fun hif _ c => (ev_name 3)⟩))) (sw_true rfl rfl rfl rfl))
    (ss_end (st_ret (ev_cb (c_maxL c (xs := ([(1 : Int)] ++ (((m_law_sets (v_law_rules_so.2.items.filter fun x1 => (decide (v_law_tag ∈ x1.items)))).filter fun x2 => (m_law_open x2)).map fun x2 => (x2.items.length : Int)))) rfl (by simp)) c.b_max (ea_cons (ev_op (f_catLL (xs := [(1 : Int)]) (ys := (((m_law_sets (v_law_rules_so.2.items.filter fun x1 => (decide (v_law_tag ∈ x1.items)))).filter fun x2 => (m_law_open x2)).map fun x2 => (x2.items.length : Int))) rfl rfl (lb_few hp)) (ev_lst1 ev_int) (EvB.pe (lc1 [("_law_own", 3)] (m_law_sets (v_law_rules_so.2.items.filter fun x1 => (decide (v_law_tag ∈ x1.items)))) (fun x2 => (m_law_open x2)) (fun x2 => (x2.items.length : Int)) c (ei_list (ev_call (h_law_sets W) c (ea_cons (ev_name 2) ea_nil) (P1.go (Nat.le_trans (List.length_filter_le _ _) hp.gl)))) (blkOk_by (by kernel_rfl)) (fun x2 hx2 => ⟨_, fun _ c => eg_name c 3, fun _ c => (et_val (ev_call (h_law_open W) c (ea_cons (ev_name 3) ea_nil) (P1.go (lb_open hp hx2)))), fun hif _ c => (ev_cb (c_lenT (t := x2) rfl) c.b_len (ea_cons (ev_name 3) ea_nil))⟩)))) ea_nil))))), .rt .dat⟩
/-! ### _law_crossing -/
def m_law_crossing (v_law_groups_so : (Tup (Tup Str))) : (List ((Tup Str) × (Tup Str))) := ((enumL v_law_groups_so.items).foldl (fun (t1 : List ((Tup Str) × (Tup Str))) u1 => ((gcut v_law_groups_so.items (some (u1.1 + (1 : Int))) none).foldl (fun (t2 : List ((Tup Str) × (Tup Str))) u2 => (if ((decide ((u1.2.items.filter fun x1 => (decide (x1 ∈ u2.items))) ≠ ([] : List Str))) && ((decide (((u1.2.items.filter fun x1 => (decide (x1 ∈ u2.items))).length : Int) < (u1.2.items.length : Int))) && (decide (((u1.2.items.filter fun x1 => (decide (x1 ∈ u2.items))).length : Int) < (u2.items.length : Int))))) = true then (t2 ++ [(u1.2, u2)]) else t2)) t1)) ([] : List ((Tup Str) × (Tup Str))))
def N_law_crossing : List Str := ["_law_groups_so", "_law_found", "_law_k", "_law_one_so", "_law_two_so", "_law_both", "_law_tag"]
theorem sc_law_crossing : FnScope N_law_crossing ["_law_groups_so"] (defScope s__law_crossing) := ⟨rfl, rfl, rfl, by decide +kernel, rfl, by decide +kernel, by decide +kernel⟩
theorem gcut_le {α : Type} (xs : List α) (a b : Option Int) : (gcut xs a b).length ≤ xs.length := by
  unfold gcut
  rw [List.length_take, List.length_drop]
  omega
theorem lc_one {n j : Nat} {t : List (Tup Str × Tup Str)} {q : Bool} {x : Tup Str × Tup Str} (h : t.length ≤ n + j) : (if q = true then t ++ [x] else t).length ≤ n + (j + 1) := by
  cases q with
  | true => rw [if_pos rfl, List.length_append]; exact Nat.succ_le_succ h
  | false => exact Nat.le_succ_of_le h
theorem lc_fold {q : Tup Str → Bool} {f : Tup Str → Tup Str × Tup Str} : ∀ (gs : List (Tup Str)) (t : List (Tup Str × Tup Str)), (gs.foldl (fun t2 u2 => if q u2 = true then t2 ++ [f u2] else t2) t).length ≤ t.length + gs.length
  | [], t => Nat.le_refl _
  | g :: gs, t => by
    have a := lc_fold (q := q) (f := f) gs (if q g = true then t ++ [f g] else t)
    have b := lc_one (n := t.length) (j := 0) (t := t) (q := q g) (x := f g) (Nat.le_refl _)
    rw [List.foldl_cons, List.length_cons]
    omega
theorem lc_step {gs : List (Tup Str)} {i : Nat} {t : List (Tup Str × Tup Str)} {q : Tup Str → Bool} {f : Tup Str → Tup Str × Tup Str} {a b : Option Int} (h : gs.length ≤ 4) (hI : t.length ≤ 4 * i) : ((gcut gs a b).foldl (fun t2 u2 => if q u2 = true then t2 ++ [f u2] else t2) t).length ≤ 4 * (i + 1) := by
  have x := lc_fold (q := q) (f := f) (gcut gs a b) t
  have y := gcut_le gs a b
  omega
theorem lc_few {gs : List (Tup Str)} {i j : Nat} {t s : List (Tup Str × Tup Str)} {a b : Option Int} {u1 : Int × Tup Str} {u2 : Tup Str} (h : gs.length ≤ 4) (hI : t.length ≤ 4 * i) (hu : (enumL gs)[i]? = some u1) (hs : s.length ≤ t.length + j) (hu2 : (gcut gs a b)[j]? = some u2) : s.length ≤ 100000 := by
  have x := (List.getElem?_eq_some_iff.mp hu).1
  have y := (List.getElem?_eq_some_iff.mp hu2).1
  have z := gcut_le gs a b
  unfold enumL at x
  rw [List.length_map, List.length_zipIdx] at x
  omega
abbrev R_law_crossing : Rel := P1 (fun (v_law_groups_so : (Tup (Tup Str))) => v_law_groups_so.items.length ≤ 4) (fun (v_law_groups_so : (Tup (Tup Str))) => fr (m_law_crossing v_law_groups_so))
theorem h_law_crossing (W : Wld P w K mg base) : Has P w K mg base 1 "_law_crossing" R_law_crossing := by
  refine has_of (k := 0) W.g W.d_law_crossing sc_law_crossing (fun _ _ _ _ _ _ us hl => match us, hl with | [_], _ => rfl) (fun rs μ r μ' h => by obtain ⟨a0, h⟩ := h; rw [h.2.1]; rfl) ?_
  rintro f cdv A outer s H E rs μ r μ' c ⟨v_law_groups_so, hp, rfl, rfl, rfl, rfl⟩
  exact ⟨_, (ss_cons (st_new c 1 (ev_lst0 (α := ((Tup Str) × (Tup Str)))))
    (ss_cons (st_fold [2, 3] (enumL v_law_groups_so.items) (fun (t1 : List ((Tup Str) × (Tup Str))) u1 => ((gcut v_law_groups_so.items (some (u1.1 + (1 : Int))) none).foldl (fun (t2 : List ((Tup Str) × (Tup Str))) u2 => (if ((decide ((u1.2.items.filter fun x1 => (decide (x1 ∈ u2.items))) ≠ ([] : List Str))) && ((decide (((u1.2.items.filter fun x1 => (decide (x1 ∈ u2.items))).length : Int) < (u1.2.items.length : Int))) && (decide (((u1.2.items.filter fun x1 => (decide (x1 ∈ u2.items))).length : Int) < (u2.items.length : Int))))) = true then (t2 ++ [(u1.2, u2)]) else t2)) t1)) ([] : List ((Tup Str) × (Tup Str))) (fun t1 => [dd v_law_groups_so, .cel 0, .un, .un, .un, .un, .un]) (fun t1 => [cl t1]) (fun i (t : List (Tup Str × Tup Str)) => t.length ≤ 4 * i) c (EvI.cast (ei_enumT c (ev_name 0)) (enumD_map _)) (Nat.le_refl _) Fits.refl rfl (fun i t1 u1 hu1 hI1 => ⟨(lc_step hp hI1), _, _, eg_tup c (egs_cons (eg_name c 2) (egs_cons (eg_name c 3) egs_nil)), (ss_cons (st_fold [4] (gcut v_law_groups_so.items (some (u1.1 + (1 : Int))) none) (fun (t2 : List ((Tup Str) × (Tup Str))) u2 => (if ((decide ((u1.2.items.filter fun x1 => (decide (x1 ∈ u2.items))) ≠ ([] : List Str))) && ((decide (((u1.2.items.filter fun x1 => (decide (x1 ∈ u2.items))).length : Int) < (u1.2.items.length : Int))) && (decide (((u1.2.items.filter fun x1 => (decide (x1 ∈ u2.items))).length : Int) < (u2.items.length : Int))))) = true then (t2 ++ [(u1.2, u2)]) else t2)) t1 (fun t2 => [dd v_law_groups_so, .cel 0, dd u1.1, dd u1.2, .un, .un, .un]) (fun t2 => [cl t2]) (fun j (t : List (Tup Str × Tup Str)) => t.length ≤ t1.length + j) c (ei_tup (ev_slTT (ev_name 0) (eo_some (ev_op f_add (ev_name 2) ev_int)) eo_none)) (Nat.le_refl _) Fits.refl rfl (fun i t2 u2 hu2 hI2 => ⟨(lc_one hI2), _, _, eg_name c 4, (ss_cons (st_setB c 5 (EvB.frz (lcf [("_law_tag", 6)] u1.2.items (fun x1 => (decide (x1 ∈ u2.items))) c (ei_tup (ev_name 3)) (blkOk_by (by kernel_rfl)) (fun x1 hx1 => ⟨_, fun _ c => eg_name c 6, fun _ c => (et_cp (f_inT c (x := x1) (xs := u2) rfl rfl) (ev_name 6) (ev_name 4)), fun hif _ c => (ev_name 6)⟩))) (sw_true rfl rfl rfl rfl))
    (ss_cons (st_ifC (n := 0) (xs := t2) (ys := (t2 ++ [(u1.2, u2)])) (et_w (ew_and (et_cp (f_ne c (x := (u1.2.items.filter fun x1 => (decide (x1 ∈ u2.items)))) (y := ([] : List Str)) rfl rfl) (ev_name 5) (ev_lst0 (α := Str))) (fun hbo => (ew_and (et_cp f_lt (ev_cb (c_lenL (xs := (u1.2.items.filter fun x1 => (decide (x1 ∈ u2.items)))) rfl) c.b_len (ea_cons (ev_name 5) ea_nil)) (ev_cb (c_lenT (t := u1.2) rfl) c.b_len (ea_cons (ev_name 3) ea_nil))) (fun hbo => (ew_and1 (et_cp f_lt (ev_cb (c_lenL (xs := (u1.2.items.filter fun x1 => (decide (x1 ∈ u2.items)))) rfl) c.b_len (ea_cons (ev_name 5) ea_nil)) (ev_cb (c_lenT (t := u2) rfl) c.b_len (ea_cons (ev_name 4) ea_nil))))))))) rfl (fun hif => (ss_cons (st_expr (ev_appendT (n := 0) (xs := t2) (ys := t2) (x := (u1.2, u2)) (ev_name 1) (ev_pair (ev_name 3) (ev_name 4)) rfl rfl (lc_few hp hI1 hu1 hI2 hu2)))
    ss_nil)) (.keep (.keep (.keep (.keep (.keep (.keep (.keep .nil))))))))
    ss_nil)), .nx (.keep (.keep (.keep (.keep (.drop (.drop (.keep .nil)))))))⟩))
    ss_nil), .nx (.keep (.keep (.drop (.drop (.keep (.keep (.keep .nil)))))))⟩))
    (ss_end (st_ret (ev_name 1))))), .rt (.cel (Nat.zero_le _) rfl)⟩
/-! ### _law_worst_right -/
def m_law_worst_right (v_law_rules_so : Rules) (v_law_much_so : Int) : Bool := ((decide ((((v_law_rules_so.1.items.zip (m_worst_case v_law_rules_so).c.items).filter fun x1 => (decide ((((m_worst_case v_law_rules_so).b.items.countP fun u => decide (u = x1.1) : Nat) : Int) < x1.2))).map fun x1 => x1.2) = ([] : List Int))) && ((((decide (((m_worst_case v_law_rules_so).c.items.length : Int) = (v_law_rules_so.1.items.length : Int))) && (decide (((m_worst_case v_law_rules_so).a.items.length : Int) = (v_law_rules_so.2.items.length : Int)))) && (m_law_keeps v_law_rules_so (m_worst_case v_law_rules_so).a (m_worst_case v_law_rules_so).c)) && ((decide ((0 : Int) < (m_law_served v_law_rules_so (m_worst_case v_law_rules_so).a (m_worst_case v_law_rules_so).b).2.items.sum)) && (decide ((m_worst_case v_law_rules_so).c.items.sum = (v_law_much_so * (m_law_served v_law_rules_so (m_worst_case v_law_rules_so).a (m_worst_case v_law_rules_so).b).2.items.sum))))))
def N_law_worst_right : List Str := ["_law_rules_so", "_law_much_so", "_law_tops_so", "_law_row_so", "_law_lot_so", "_law_in_so", "_law_fits", "_law_tag", "_law_own", "_law_fine"]
theorem sc_law_worst_right : FnScope N_law_worst_right ["_law_rules_so", "_law_much_so"] (defScope s__law_worst_right) := ⟨rfl, rfl, rfl, by decide +kernel, rfl, by decide +kernel, by decide +kernel⟩
theorem wr_mul {a b : Int} (h : 0 ≤ a ∧ a ≤ 1000) : CMul a b := by
  unfold CMul
  omega
theorem wr_row {R : Rules} (h : WR R) : (m_worst_case R).b.items.length ≤ 8 := by
  have a := Nat.le_trans (gb_open R ((m_worst_kinds R).items.getD 0 ("" : Str))).2.length_le (with_le (n := (m_worst_kinds R).items.getD 0 ("" : Str)) h)
  have b := List.length_filter_le (fun x1 : Tup Str => (decide ((x1.items.getD 0 ("" : Str)) ≠ ((m_worst_kinds R).items.getD 0 ("" : Str))))) (m_own_kinds (m_greatest_bare R ((m_worst_kinds R).items.getD 0 ("" : Str)))).items
  rw [own_len] at b
  unfold m_worst_case
  show (_ :: _).length ≤ 8
  rw [List.length_cons, List.length_map]
  omega
abbrev R_law_worst_right : Rel := P2 (fun (v_law_rules_so : Rules) (v_law_much_so : Int) => WR v_law_rules_so ∧ 0 ≤ v_law_much_so ∧ v_law_much_so ≤ 1000) (fun (v_law_rules_so : Rules) (v_law_much_so : Int) => dd (m_law_worst_right v_law_rules_so v_law_much_so))
theorem h_law_worst_right (W : Wld P w K mg base) : Has P w K mg base 14 "_law_worst_right" R_law_worst_right := by
  refine has_of (k := 13) W.g W.d_law_worst_right sc_law_worst_right (fun _ _ _ _ _ _ us hl => match us, hl with | [_, _], _ => rfl) (fun rs μ r μ' h => by obtain ⟨a0, a1, h⟩ := h; rw [h.2.1]; rfl) ?_
  rintro f cdv A outer s H E rs μ r μ' c ⟨v_law_rules_so, v_law_much_so, hp, rfl, rfl, rfl, rfl⟩
  exact ⟨_, (ss_cons (st_unp c [2, 3, 4] (ev_call (h_worst_case W) c (ea_cons (ev_name 0) ea_nil) (P1.go hp.1)) (eg_tup c (egs_cons (eg_name c 2) (egs_cons (eg_name c 3) (egs_cons (eg_name c 4) egs_nil)))))
    (ss_cons (st_set c 5 (ev_cb (c_sumT c (xs := (m_law_served v_law_rules_so (m_worst_case v_law_rules_so).a (m_worst_case v_law_rules_so).b).2) rfl) c.b_sum (ea_cons (ev_snd (q := (m_law_served v_law_rules_so (m_worst_case v_law_rules_so).a (m_worst_case v_law_rules_so).b)) (ev_call (h_law_served W) c (ea_cons (ev_name 0) (ea_cons (ev_name 2) (ea_cons (ev_name 3) ea_nil))) (P3.go ⟨hp.1, wr_row hp.1⟩))) ea_nil)))
    (ss_cons (st_set c 6 (ev_cp (f_eq c (x := (((v_law_rules_so.1.items.zip (m_worst_case v_law_rules_so).c.items).filter fun x1 => (decide ((((m_worst_case v_law_rules_so).b.items.countP fun u => decide (u = x1.1) : Nat) : Int) < x1.2))).map fun x1 => x1.2)) (y := ([] : List Int)) rfl rfl) (EvB.pe (lc1 [("_law_tag", 7), ("_law_own", 8)] (v_law_rules_so.1.items.zip (m_worst_case v_law_rules_so).c.items) (fun x1 => (decide ((((m_worst_case v_law_rules_so).b.items.countP fun u => decide (u = x1.1) : Nat) : Int) < x1.2))) (fun x1 => x1.2) c (EvI.cast (ei_zipT c (ev_fst (q := v_law_rules_so) (ev_name 0)) (ev_name 4)) (zipD_map _ _)) (blkOk_by (by kernel_rfl)) (fun x1 hx1 => ⟨_, fun _ c => eg_tup c (egs_cons (eg_name c 7) (egs_cons (eg_name c 8) egs_nil)), fun _ c => (et_cp f_gt (ev_name 8) (ev_count c (xs := (m_worst_case v_law_rules_so).b.items) (y := x1.1) (ev_ct (c_listT (ds := ((m_worst_case v_law_rules_so).b.items).map Datum.toD) rfl) c.b_list (ea_cons (ev_name 3) ea_nil)) (ev_name 7) rfl rfl rfl)), fun hif _ c => (ev_name 8)⟩))) (ev_lst0 (α := Int))))
    (ss_cons (st_set c 9 (ev_and (ev_cp (f_eq c (x := ((m_worst_case v_law_rules_so).c.items.length : Int)) (y := (v_law_rules_so.1.items.length : Int)) rfl rfl) (ev_cb (c_lenT (t := (m_worst_case v_law_rules_so).c) rfl) c.b_len (ea_cons (ev_name 4) ea_nil)) (ev_cb (c_lenT (t := v_law_rules_so.1) rfl) c.b_len (ea_cons (ev_fst (q := v_law_rules_so) (ev_name 0)) ea_nil))) (fun hbo => (ev_one (ev_cp (f_eq c (x := ((m_worst_case v_law_rules_so).a.items.length : Int)) (y := (v_law_rules_so.2.items.length : Int)) rfl rfl) (ev_cb (c_lenT (t := (m_worst_case v_law_rules_so).a) rfl) c.b_len (ea_cons (ev_name 2) ea_nil)) (ev_cb (c_lenT (t := v_law_rules_so.2) rfl) c.b_len (ea_cons (ev_snd (q := v_law_rules_so) (ev_name 0)) ea_nil)))))))
    (ss_cons (st_set c 9 (ev_and (ev_name 9) (fun hbo => (ev_one (ev_call (h_law_keeps W) c (ea_cons (ev_name 0) (ea_cons (ev_name 2) (ea_cons (ev_name 4) ea_nil))) (P3.go trivial))))))
    (ss_end (st_ret (ev_and (ev_name 6) (fun hbo => (ev_and (ev_name 9) (fun hbo => (ev_and (ev_cp f_gt (ev_name 5) ev_int) (fun hbo => (ev_one (ev_cp (f_eq c (x := (m_worst_case v_law_rules_so).c.items.sum) (y := (v_law_much_so * (m_law_served v_law_rules_so (m_worst_case v_law_rules_so).a (m_worst_case v_law_rules_so).b).2.items.sum)) rfl rfl) (ev_cb (c_sumT c (xs := (m_worst_case v_law_rules_so).c) rfl) c.b_sum (ea_cons (ev_name 4) ea_nil)) (ev_op (f_mul (wr_mul hp.2)) (ev_name 1) (ev_name 5))))))))))))))))), .rt .dat⟩
end
end CL
end
section
set_option autoImplicit false
/-! Plain facts 2: lots as numbers of kinds. -/
namespace CL
open PySem PySem.Spec PyProof.Rows L2 DL
open PySem.W (Datum Tup DatumOrd Holds HoldAll T3)
/-- the number of a kind in a lot -/
def val (R : Rules) (lot : Tup Int) (n : Str) : Int := (dval (kvT R.1.items lot.items) (.inr n)).getD 0
def lotOf (R : Rules) (f : Str → Int) : Tup Int := Tup.mk (R.1.items.map f)
theorem dval_kv (k : Str) (ks : List Str) (v : Int) (vs : List Int) (n : Str) : dval (kvT (k :: ks) (v :: vs)) (.inr n) = if k = n then some v else dval (kvT ks vs) (.inr n) := by
  unfold dval kvT
  rw [List.zip_cons_cons, List.map_cons]
  by_cases h : k = n
  · rw [List.find?_cons_of_pos (by simp [h]), if_pos h]; rfl
  · rw [List.find?_cons_of_neg (by simp [h]), if_neg h]
theorem val_map (f : Str → Int) : ∀ (ks : List Str) (n : Str), n ∈ ks → (dval (kvT ks (ks.map f)) (.inr n)).getD 0 = f n
  | [], n, h => absurd h List.not_mem_nil
  | k :: ks, n, h => by
    rw [List.map_cons, dval_kv]
    by_cases e : k = n
    · rw [if_pos e, e]; rfl
    · rw [if_neg e]
      rcases List.mem_cons.mp h with q | q
      · exact absurd q.symm e
      · exact val_map f ks n q
theorem val_lotOf {R : Rules} {f : Str → Int} {n : Str} (h : n ∈ R.1.items) : val R (lotOf R f) n = f n := val_map f _ _ h
theorem lot_list : ∀ (ks : List Str) (vs : List Int), ks.Nodup → vs.length = ks.length → vs = ks.map fun n => (dval (kvT ks vs) (.inr n)).getD 0
  | [], [], _, _ => rfl
  | [], v :: vs, _, h => by cases h
  | k :: ks, [], _, h => by cases h
  | k :: ks, v :: vs, nd, h => by
    rw [List.nodup_cons] at nd
    rw [List.map_cons, dval_kv, if_pos rfl]
    have ih := lot_list ks vs nd.2 (by simpa using h)
    show v :: vs = v :: ks.map _
    congr 1
    rw [List.map_congr_left (g := fun n => (dval (kvT ks vs) (.inr n)).getD 0)]
    · exact ih
    · intro n hn
      rw [dval_kv, if_neg]
      intro e
      exact nd.1 (e ▸ hn)
theorem lot_eq {R : Rules} {lot : Tup Int} (r : WR R) (h : WK R lot) : lot = lotOf R (val R lot) := by
  have a := lot_list R.1.items lot.items r.kn h
  cases lot with
  | mk items => exact congrArg Tup.mk a
theorem lotOf_wk (R : Rules) (f : Str → Int) : WK R (lotOf R f) := List.length_map _
theorem lotOf_congr {R : Rules} {f g : Str → Int} (h : ∀ n ∈ R.1.items, f n = g n) : lotOf R f = lotOf R g := congrArg Tup.mk (List.map_congr_left h)
theorem lot_ext {R : Rules} {a b : Tup Int} (r : WR R) (ha : WK R a) (hb : WK R b) (h : ∀ n ∈ R.1.items, val R a n = val R b n) : a = b := by
  rw [lot_eq r ha, lot_eq r hb, lotOf_congr h]
theorem lot_items {R : Rules} {lot : Tup Int} (r : WR R) (h : WK R lot) : lot.items = R.1.items.map (val R lot) := lot_list R.1.items lot.items r.kn h
/-- zips with the kinds -/
theorem zip_map_self {α β : Type} (f : α → β) : ∀ xs : List α, xs.zip (xs.map f) = xs.map fun x => (x, f x)
  | [] => rfl
  | x :: xs => by rw [List.map_cons, List.zip_cons_cons, zip_map_self f xs]; rfl
theorem zip_lot {R : Rules} {lot : Tup Int} (r : WR R) (h : WK R lot) : R.1.items.zip lot.items = R.1.items.map fun n => (n, val R lot n) := by
  rw [lot_items r h, zip_map_self]
theorem sum_perm {xs ys : List Int} (h : xs.Perm ys) : xs.sum = ys.sum := by
  induction h with
  | nil => rfl
  | cons x _ ih => rw [List.sum_cons, List.sum_cons, ih]
  | swap x y l => rw [List.sum_cons, List.sum_cons, List.sum_cons, List.sum_cons]; omega
  | trans _ _ i1 i2 => exact i1.trans i2
/-- the load of a group -/
def ld (R : Rules) (lot : Tup Int) (g : Tup Str) : Int := (g.items.map (val R lot)).sum
theorem loads_eq (R : Rules) (lot : Tup Int) : m_loads R lot = Tup.mk (R.2.items.map (ld R lot)) := rfl
theorem grp_perm {R : Rules} (r : WR R) {g : Tup Str} (hg : g ∈ R.2.items) : (R.1.items.filter fun n => decide (n ∈ g.items)).Perm g.items := by
  rw [List.perm_ext_iff_of_nodup (r.kn.filter _) (r.nd g hg)]
  intro a
  rw [List.mem_filter, decide_eq_true_iff]
  exact ⟨fun h => h.2, fun h => ⟨r.gs g hg a h, h⟩⟩
theorem filter_map_fst {β : Type} (f : Str → β) (p : Str → Bool) (xs : List Str) : (((xs.map fun n => (n, f n)).filter fun q => p q.1).map fun q => q.2) = (xs.filter p).map f := by
  rw [List.filter_map, List.map_map]
  rfl
theorem law_load_eq {R : Rules} {lot : Tup Int} (r : WR R) (h : WK R lot) {g : Tup Str} (hg : g ∈ R.2.items) : m_law_load R lot g = ld R lot g := by
  unfold m_law_load ld
  rw [zip_lot r h, filter_map_fst (val R lot) (fun n => decide (n ∈ g.items))]
  exact sum_perm ((grp_perm r hg).map _)
theorem zip_fst {α β : Type} {xs : List α} {ys : List β} {q : α × β} (h : q ∈ xs.zip ys) : q.1 ∈ xs := by
  obtain ⟨a, b⟩ := q
  exact (List.of_mem_zip h).1
theorem zip_snd {α β : Type} {xs : List α} {ys : List β} {q : α × β} (h : q ∈ xs.zip ys) : q.2 ∈ ys := by
  obtain ⟨a, b⟩ := q
  exact (List.of_mem_zip h).2
/-- a kind lies in a full group; no load above its limit -/
def ShutP (R : Rules) (L lot : Tup Int) (n : Str) : Prop := ∃ q ∈ R.2.items.zip L.items, n ∈ q.1.items ∧ q.2 ≤ ld R lot q.1
def KeepsP (R : Rules) (L lot : Tup Int) : Prop := ∀ q ∈ R.2.items.zip L.items, ld R lot q.1 ≤ q.2
theorem ite_tf (b : Bool) : (if b = true then true else false) = b := by cases b <;> rfl
theorem ite_ft (b : Bool) : (if b = true then false else true) = !b := by cases b <;> rfl
theorem law_shut_iff {R : Rules} {L lot : Tup Int} (r : WR R) (h : WK R lot) {n : Str} : m_law_shut R L lot n = true ↔ ShutP R L lot n := by
  unfold m_law_shut ShutP
  rw [ite_tf, List.any_eq_true]
  constructor
  · rintro ⟨q, hq, e⟩
    rw [Bool.and_eq_true, decide_eq_true_iff, decide_eq_true_iff, law_load_eq r h (zip_fst hq)] at e
    exact ⟨q, hq, e⟩
  · rintro ⟨q, hq, e⟩
    refine ⟨q, hq, ?_⟩
    rw [Bool.and_eq_true, decide_eq_true_iff, decide_eq_true_iff, law_load_eq r h (zip_fst hq)]
    exact e
theorem law_keeps_iff {R : Rules} {L lot : Tup Int} (r : WR R) (h : WK R lot) : m_law_keeps R L lot = true ↔ KeepsP R L lot := by
  unfold m_law_keeps KeepsP
  rw [ite_ft, Bool.not_eq_true', List.any_eq_false]
  constructor
  · intro a q hq
    have b := a q hq
    rw [decide_eq_true_iff, law_load_eq r h (zip_fst hq)] at b
    omega
  · intro a q hq
    have b := a q hq
    rw [decide_eq_true_iff, law_load_eq r h (zip_fst hq)]
    omega
theorem zip_left (f : Tup Str → Int) : ∀ (gs : List (Tup Str)) (ls : List Int), (gs.zip ((ls.zip (gs.map f)).map fun x1 => (x1.1 - x1.2))) = (gs.zip ls).map fun q => (q.1, q.2 - f q.1)
  | [], _ => rfl
  | g :: gs, [] => by simp
  | g :: gs, l :: ls => by
    rw [List.map_cons, List.zip_cons_cons, List.map_cons, List.zip_cons_cons, List.zip_cons_cons, List.map_cons, zip_left f gs ls]
theorem left_eq (f : Tup Str → Int) : ∀ (gs : List (Tup Str)) (ls : List Int), ((ls.zip (gs.map f)).map fun x1 => (x1.1 - x1.2)) = (gs.zip ls).map fun q => q.2 - f q.1
  | [], ls => by simp
  | g :: gs, [] => by simp
  | g :: gs, l :: ls => by
    rw [List.map_cons, List.zip_cons_cons, List.map_cons, List.zip_cons_cons, List.map_cons, left_eq f gs ls]
theorem keeps_iff {R : Rules} {L lot : Tup Int} : m_keeps R L lot = true ↔ KeepsP R L lot := by
  unfold m_keeps KeepsP m_left_in
  rw [loads_eq]
  show (((((L.items.zip (R.2.items.map (ld R lot))).map fun x1 => (x1.1 - x1.2))).map fun x1 => (decide ((0 : Int) ≤ x1))).all id) = true ↔ _
  rw [left_eq, List.all_eq_true]
  constructor
  · intro a q hq
    have b := a _ (List.mem_map.mpr ⟨_, List.mem_map.mpr ⟨q, hq, rfl⟩, rfl⟩)
    have c : (0 : Int) ≤ q.2 - ld R lot q.1 := of_decide_eq_true b
    omega
  · intro a x hx
    obtain ⟨y, hy, rfl⟩ := List.mem_map.mp hx
    obtain ⟨q, hq, rfl⟩ := List.mem_map.mp hy
    have b := a q hq
    show decide ((0 : Int) ≤ q.2 - ld R lot q.1) = true
    rw [decide_eq_true_iff]
    omega
theorem full_eq {R : Rules} {L lot : Tup Int} : m_full_groups R L lot = Tup.mk (((R.2.items.zip L.items).filter fun q => decide (q.2 ≤ ld R lot q.1)).map fun q => q.1) := by
  unfold m_full_groups m_left_in
  rw [loads_eq]
  show Tup.mk (((R.2.items.zip ((L.items.zip (R.2.items.map (ld R lot))).map fun x1 => (x1.1 - x1.2))).filter fun x1 => (decide (x1.2 ≤ (0 : Int)))).map fun x1 => x1.1) = _
  rw [zip_left, List.filter_map, List.map_map]
  congr 1
  show ((R.2.items.zip L.items).filter fun q => decide (q.2 - ld R lot q.1 ≤ 0)).map (fun q => q.1) = _
  rw [List.filter_congr (q := fun q => decide (q.2 ≤ ld R lot q.1))]
  intro q _
  rw [decide_eq_decide]
  omega
theorem full_mem {R : Rules} {L lot : Tup Int} {g : Tup Str} : g ∈ (m_full_groups R L lot).items ↔ ∃ q ∈ R.2.items.zip L.items, q.1 = g ∧ q.2 ≤ ld R lot q.1 := by
  rw [full_eq]
  constructor
  · intro h
    obtain ⟨q, hq, e⟩ := List.mem_map.mp h
    obtain ⟨h1, h2⟩ := List.mem_filter.mp hq
    exact ⟨q, h1, e, of_decide_eq_true h2⟩
  · rintro ⟨q, hq, e, h2⟩
    exact List.mem_map.mpr ⟨q, List.mem_filter.mpr ⟨hq, decide_eq_true h2⟩, e⟩
theorem any_full {R : Rules} {L lot : Tup Int} {n : Str} : (((m_full_groups R L lot).items.map fun x3 => (decide (n ∈ x3.items))).any id) = true ↔ ShutP R L lot n := by
  rw [List.any_eq_true]
  constructor
  · rintro ⟨b, hb, e⟩
    obtain ⟨g, hg, rfl⟩ := List.mem_map.mp hb
    obtain ⟨q, hq, rfl, h2⟩ := full_mem.mp hg
    exact ⟨q, hq, of_decide_eq_true e, h2⟩
  · rintro ⟨q, hq, hn, h2⟩
    exact ⟨_, List.mem_map.mpr ⟨q.1, full_mem.mpr ⟨q, hq, rfl, h2⟩, rfl⟩, decide_eq_true hn⟩
theorem barred_iff {R : Rules} {L lot : Tup Int} {n : Str} : m_is_barred_by R L lot n = true ↔ ShutP R L lot n := any_full
/-- one more of a kind -/
theorem more_eq {R : Rules} {lot : Tup Int} (r : WR R) (h : WK R lot) (t : Str) : m_law_more R lot t = lotOf R fun n => val R lot n + if n = t then 1 else 0 := by
  unfold m_law_more lotOf
  rw [zip_lot r h, List.map_map]
  congr 1
  refine List.map_congr_left fun n _ => ?_
  show val R lot n + (if decide (n = t) = true then 1 else 0 : Int) = _
  by_cases e : n = t
  · rw [if_pos e, if_pos (decide_eq_true e)]
  · rw [if_neg e, if_neg (by rw [decide_eq_true_iff]; exact e)]
theorem more_wk {R : Rules} {lot : Tup Int} (r : WR R) (h : WK R lot) (t : Str) : WK R (m_law_more R lot t) := by rw [more_eq r h]; exact lotOf_wk _ _
theorem more_val {R : Rules} {lot : Tup Int} (r : WR R) (h : WK R lot) {t n : Str} (hn : n ∈ R.1.items) : val R (m_law_more R lot t) n = val R lot n + if n = t then 1 else 0 := by
  rw [more_eq r h, val_lotOf hn]
theorem zeros_eq (R : Rules) : Tup.mk (List.replicate R.1.items.length (0 : Int)) = lotOf R fun _ => 0 := by
  unfold lotOf
  rw [List.map_const']
theorem sum_val {R : Rules} {lot : Tup Int} (r : WR R) (h : WK R lot) : lot.items.sum = (R.1.items.map (val R lot)).sum := by rw [← lot_items r h]
end CL
end
section
set_option autoImplicit false
/-! D-layer 19: a while loop as a run of steps; pop of the last. -/
namespace DL
open PySem PySem.Spec PyProof.Rows L2
open PySem.W (Datum Tup DatumOrd Holds HoldAll)
section
variable {τ : Type}
def runW (step : τ → τ) (go : τ → Bool) : Nat → τ → τ
  | 0, t => t
  | n + 1, t => if go t = true then runW step go n (step t) else t
def iterW (step : τ → τ) : Nat → τ → τ
  | 0, t => t
  | n + 1, t => step (iterW step n t)
theorem iterW_in (step : τ → τ) : ∀ (n : Nat) (t : τ), iterW step n (step t) = iterW step (n + 1) t
  | 0, t => rfl
  | n + 1, t => congrArg step (iterW_in step n t)
theorem runW_iter (step : τ → τ) (go : τ → Bool) : ∀ (n : Nat) (t : τ), go (runW step go n t) = false → ∃ m, runW step go n t = iterW step m t ∧ go (iterW step m t) = false ∧ ∀ i, i < m → go (iterW step i t) = true
  | 0, t, h => ⟨0, rfl, h, fun i hi => absurd hi (Nat.not_lt_zero _)⟩
  | n + 1, t, h => by
    cases e : go t with
    | false => exact ⟨0, by unfold runW; rw [e]; rfl, e, fun i hi => absurd hi (Nat.not_lt_zero _)⟩
    | true =>
      have q : runW step go (n + 1) t = runW step go n (step t) := by
        show (if go t = true then runW step go n (step t) else t) = _
        rw [if_pos e]
      rw [q] at h ⊢
      obtain ⟨m, h1, h2, h3⟩ := runW_iter step go n (step t) h
      refine ⟨m + 1, by rw [h1, iterW_in], by rw [← iterW_in]; exact h2, fun i hi => ?_⟩
      cases i with
      | zero => exact e
      | succ i =>
        rw [← iterW_in]
        exact h3 i (by omega)
/-- an invariant and a measure -/
theorem runW_ends {step : τ → τ} {go : τ → Bool} {I : τ → Prop} {m : τ → Nat} (hs : ∀ t, I t → go t = true → I (step t) ∧ m (step t) < m t) : ∀ (n : Nat) (t : τ), I t → m t ≤ n → I (runW step go (n + 1) t) ∧ go (runW step go (n + 1) t) = false
  | n, t, hI, hm => by
    show I (if go t = true then runW step go n (step t) else t) ∧ go (if go t = true then runW step go n (step t) else t) = false
    cases e : go t with
    | false => rw [if_neg (by decide)]; exact ⟨hI, e⟩
    | true =>
      rw [if_pos rfl]
      obtain ⟨a, b⟩ := hs t hI e
      cases n with
      | zero => omega
      | succ n => exact runW_ends hs n (step t) a (by omega)
end
section
variable {X : Cx} {k : Nat} {Γ Γ1 Γ2 : List Sl} {μ μ1 μ2 μ3 : Mu} {e a b d tg : Expr} {es rest : List Expr} {r ra rb rc : Sl} {pos p p2 pos2 : Pos} {x1 n : Nat} {ss tt body : List Stmt} {s : Stmt} {o : Out}
variable {α β τ : Type} [DecidableEq α] [Datum α] [DecidableEq β] [Datum β]
theorem st_loop (step : τ → τ) (go : τ → Bool) (t0 : τ) (n : Nat) (G : τ → List Sl) (M : τ → Mu) (I : τ → Prop) (i0 : I t0) (hn : go (runW step go n t0) = false) (hI : ∀ t, I t → go t = true → I (step t)) (h0 : Fits Γ (G t0)) (hm : M t0 = μ)
    (cond : ∀ t, I t → EvT X (G t) (M t) e (go t) (M t))
    (turn : ∀ t, I t → go t = true → ∃ o, SsD X (G t) (M t) body o ∧ Goes o (G (step t)) (M (step t)))
    (hx : X.xe = fun _ _ => False := by rfl) : StD X Γ μ (.While e body [] pos) (.nx (G (runW step go n t0)) (M (runW step go n t0))) := by
  obtain ⟨m, h1, h2, h3⟩ := runW_iter step go n t0 hn
  have hIt : ∀ i, i ≤ m → I (iterW step i t0) := fun i => by
    induction i with
    | zero => intro _; exact i0
    | succ i ih =>
      intro hi
      exact hI _ (ih (by omega)) (h3 i (by omega))
  rw [h1]
  refine st_while (fun i => (G (iterW step i t0), M (iterW step i t0))) m hx h0 hm (fun i hi => ?_) (fun i hi => ?_)
  · have a := cond _ (hIt i hi)
    have b : decide (i < m) = go (iterW step i t0) := by
      by_cases q : i < m
      · rw [h3 i q, decide_eq_true q]
      · rw [decide_eq_false q, show i = m by omega, h2]
    rw [b]
    exact a
  · exact turn _ (hIt i (by omega)) (h3 i hi)
theorem ev_popL {apos : Pos} {xs : List α} (dflt : α) (ho : Ev X Γ μ a (.cel n) μ) (hx : μ[n]? = some (cl xs)) (h : xs ≠ [])
    (hbase : attributeBase a "pop" X.env (eval a X.env) = eval a X.env := by rfl) (hline : (apos.endLine == pos.line) = true := by rfl) :
    Ev X Γ μ (.Call (.Attribute a "pop" apos) [] [] pos) (dd (xs.getLastD dflt)) (μ.set n (cl xs.dropLast)) := by
  obtain ⟨ys, y, rfl⟩ : ∃ ys y, xs = ys ++ [y] := ⟨_, _, (List.dropLast_concat_getLast h).symm⟩
  have e1 : (ys ++ [y]).getLastD dflt = y := by simp
  have e2 : (ys ++ [y]).dropLast = ys := by simp
  rw [e1, e2]
  exact ev_popT ho hx hbase hline
theorem ss_consE {G : List Sl} {M : Mu} (h1 : StD X Γ μ s (.nx Γ1 μ1)) (h2 : ∃ o, SsD X Γ1 μ1 ss o ∧ Goes o G M) : ∃ o, SsD X Γ μ (s :: ss) o ∧ Goes o G M := by
  obtain ⟨o, h3, h4⟩ := h2
  exact ⟨o, ss_cons h1 h3, h4⟩
theorem ss_contD {cd : Expr} {q : Bool} {u v : τ} (G : τ → List Sl) (M : τ → Mu) (hc : EvT X Γ μ cd q μ) (h1 : q = true → Goes (.ct Γ μ) (G u) (M u)) (h2 : q = false → ∃ o, SsD X Γ μ ss o ∧ Goes o (G v) (M v)) :
    ∃ o, SsD X Γ μ (.If cd [.Continue p] [] pos :: ss) o ∧ Goes o (G (if q = true then u else v)) (M (if q = true then u else v)) := by
  cases q with
  | true => exact ⟨_, ss_end (st_if hc (fun _ => ss_end st_cont) (fun h => Bool.noConfusion h)), h1 rfl⟩
  | false =>
    obtain ⟨o, h3, h4⟩ := h2 rfl
    exact ⟨o, ss_cons (st_if hc (fun h => Bool.noConfusion h) (fun _ => ss_nil)) h3, h4⟩
theorem f_inLp (c : Cz k X) [Flat α] {x : α} {xs : List α} [dx : Decidable (x ∈ xs)] (ea : ra.rd μ = some (Datum.toD x)) (eb : rb.rd μ = some (Datum.toD xs)) : OpF X (compareOp .In) μ ra rb (dd (decide (x ∈ xs))) := by
  have h := f_inL (X := X) c (x := x) (xs := xs) ea eb
  have e : ∀ d1 d2 : Decidable (x ∈ xs), @decide _ d1 = @decide _ d2 := fun d1 d2 => by congr
  rw [e _ dx] at h
  exact h
end
end DL
end
section
set_option autoImplicit false
namespace CL
open PySem PySem.Spec PyProof.Rows L2 DL
open PySem.W (Datum Tup DatumOrd Holds HoldAll T3)
/-! Contracts 14: of the law. -/
section
variable {P : Program} {w : World} {K : PySem.W.Frag} {mg : Str → Option Value} {base : Heap}

/-! ### _law_ends -/
def w_law_ends (v_law_rules_so : Rules) (v_law_tops_so : (Tup Int)) (v_law_many_so : (Tup Int)) : List ((Tup Int) × (Tup Int)) × List ((Tup Int) × (Tup Int)) × List (Tup Int) → List ((Tup Int) × (Tup Int)) × List ((Tup Int) × (Tup Int)) × List (Tup Int) := fun t1 => if (decide ((t1.1.getLastD ((Tup.mk ([] : List Int)), (Tup.mk ([] : List Int)))) ∈ t1.2.1)) = true then (t1.1.dropLast, t1.2.1, t1.2.2) else (((enumL v_law_rules_so.1.items).foldl (fun (t2 : List ((Tup Int) × (Tup Int))) u2 => (if (decide ((0 : Int) < ((t1.1.getLastD ((Tup.mk ([] : List Int)), (Tup.mk ([] : List Int)))).2.items.getD u2.1.toNat (0 : Int)))) = true then (t2 ++ [((if (m_law_shut v_law_rules_so v_law_tops_so (t1.1.getLastD ((Tup.mk ([] : List Int)), (Tup.mk ([] : List Int)))).1 u2.2) = true then (t1.1.getLastD ((Tup.mk ([] : List Int)), (Tup.mk ([] : List Int)))).1 else (m_law_more v_law_rules_so (t1.1.getLastD ((Tup.mk ([] : List Int)), (Tup.mk ([] : List Int)))).1 u2.2)), (Tup.mk (((gcut (t1.1.getLastD ((Tup.mk ([] : List Int)), (Tup.mk ([] : List Int)))).2.items none (some u2.1)) ++ [(((t1.1.getLastD ((Tup.mk ([] : List Int)), (Tup.mk ([] : List Int)))).2.items.getD u2.1.toNat (0 : Int)) - (1 : Int))]) ++ (gcut (t1.1.getLastD ((Tup.mk ([] : List Int)), (Tup.mk ([] : List Int)))).2.items (some (u2.1 + (1 : Int))) none))))]) else t2)) t1.1.dropLast), (t1.2.1 ++ [(t1.1.getLastD ((Tup.mk ([] : List Int)), (Tup.mk ([] : List Int))))]), (if ((decide ((t1.1.getLastD ((Tup.mk ([] : List Int)), (Tup.mk ([] : List Int)))).2.items.sum = (0 : Int))) && (decide ((t1.1.getLastD ((Tup.mk ([] : List Int)), (Tup.mk ([] : List Int)))).1 ∉ t1.2.2))) = true then (t1.2.2 ++ [(t1.1.getLastD ((Tup.mk ([] : List Int)), (Tup.mk ([] : List Int)))).1]) else t1.2.2))
abbrev g_law_ends : List ((Tup Int) × (Tup Int)) × List ((Tup Int) × (Tup Int)) × List (Tup Int) → Bool := fun t1 => (decide (t1.1 ≠ ([] : List ((Tup Int) × (Tup Int)))))
def m_law_ends (v_law_rules_so : Rules) (v_law_tops_so : (Tup Int)) (v_law_many_so : (Tup Int)) : (List (Tup Int)) := (srt (runW (w_law_ends v_law_rules_so v_law_tops_so v_law_many_so) g_law_ends 60001 ([((Tup.mk (List.replicate v_law_rules_so.1.items.length (0 : Int))), v_law_many_so)], ([] : List ((Tup Int) × (Tup Int))), ([] : List (Tup Int)))).2.2)
def N_law_ends : List Str := ["_law_rules_so", "_law_tops_so", "_law_many_so", "_law_tags", "_law_fresh", "_law_seen_so", "_law_found", "_law_state_so", "_law_lot_so", "_law_left_so", "_law_k", "_law_tag", "_law_less_so", "_law_shut_so"]
theorem sc_law_ends : FnScope N_law_ends ["_law_rules_so", "_law_tops_so", "_law_many_so"] (defScope s__law_ends) := ⟨rfl, rfl, rfl, by decide +kernel, rfl, by decide +kernel, by decide +kernel⟩
abbrev Sta := Tup Int × Tup Int
abbrev EnT := List Sta × List Sta × List (Tup Int)
/-- what the states are: the rest of the demands, what is in; together few -/
def EnS (R : Rules) (s : Sta) : Prop := WK R s.1 ∧ WK R s.2 ∧ ∀ n ∈ R.1.items, 0 ≤ val R s.1 n ∧ 0 ≤ val R s.2 n ∧ val R s.1 n + val R s.2 n ≤ 3
def lastS (t : EnT) : Sta := t.1.getLastD ((Tup.mk ([] : List Int)), (Tup.mk ([] : List Int)))
/-- one less of a kind -/
def lessL (R : Rules) (d : Tup Int) (t : Str) : Tup Int := lotOf R fun n => val R d n - if n = t then 1 else 0
/-- the states next to one -/
def nxt (R : Rules) (L : Tup Int) (s : Sta) : List Sta := (R.1.items.filter fun n => decide (0 < val R s.2 n)).map fun n => (if m_law_shut R L s.1 n = true then s.1 else m_law_more R s.1 n, lessL R s.2 n)
theorem fold_if {α β : Type} {q : α → Bool} {f : α → β} : ∀ (xs : List α) (t : List β), xs.foldl (fun t u => if q u = true then t ++ [f u] else t) t = t ++ (xs.filter q).map f
  | [], t => (List.append_nil _).symm
  | x :: xs, t => by
    rw [List.foldl_cons, fold_if xs]
    cases e : q x with
    | true => rw [if_pos rfl, List.filter_cons_of_pos e, List.map_cons, List.append_assoc]; rfl
    | false => rw [if_neg (by decide), List.filter_cons_of_neg (by rw [e]; decide)]
theorem gcut_take (xs : List Int) (k : Nat) : gcut xs none (some (k : Int)) = xs.take k := by
  unfold gcut
  rw [HT.sIx_none, HT.sIx_nat, List.drop_zero, Nat.sub_zero]
  by_cases h : k ≤ xs.length
  · rw [Nat.min_eq_left h]
  · rw [Nat.min_eq_right (by omega), List.take_length, List.take_of_length_le (by omega)]
theorem gcut_drop {α : Type} (xs : List α) (k : Nat) : gcut xs (some ((k : Int) + 1)) none = xs.drop (k + 1) := by
  unfold gcut
  rw [HT.sIx_none, show ((k : Int) + 1) = ((k + 1 : Nat) : Int) by omega, HT.sIx_nat]
  by_cases h : k + 1 ≤ xs.length
  · rw [Nat.min_eq_left h, List.take_of_length_le (by rw [List.length_drop]; omega)]
  · rw [Nat.min_eq_right (by omega), Nat.sub_self, List.take_zero, List.drop_eq_nil_of_le (by omega)]
theorem less_list (f : Str → Int) : ∀ (ks : List Str) (k : Nat) (t : Str), ks.Nodup → ks[k]? = some t → (ks.map f).take k ++ [(ks.map f).getD k 0 - 1] ++ (ks.map f).drop (k + 1) = ks.map fun n => f n - (if n = t then 1 else 0 : Int)
  | [], k, t, _, h => by simp at h
  | x :: ks, 0, t, nd, h => by
    rw [List.nodup_cons] at nd
    obtain rfl : x = t := by simpa using h
    rw [List.map_cons, List.map_cons, if_pos rfl]
    show [f x - 1] ++ ks.map f = _
    show (f x - 1) :: ks.map f = _
    congr 1
    refine List.map_congr_left fun n hn => ?_
    have hne : ¬ n = x := fun e => nd.1 (e ▸ hn)
    rw [if_neg hne]
    omega
  | x :: ks, k + 1, t, nd, h => by
    rw [List.nodup_cons] at nd
    have h2 : ks[k]? = some t := by simpa using h
    have ih := less_list f ks k t nd.2 h2
    have ne : x ≠ t := fun e => nd.1 (e ▸ List.mem_of_getElem? h2)
    rw [List.map_cons, List.map_cons, if_neg ne, Int.sub_zero]
    show f x :: ((ks.map f).take k ++ [(ks.map f).getD k 0 - 1] ++ (ks.map f).drop (k + 1)) = _
    rw [ih]
theorem enum_mem {ks : List Str} {u : Int × Str} (h : u ∈ enumL ks) : ∃ k : Nat, u.1 = (k : Int) ∧ ks[k]? = some u.2 := by
  unfold enumL at h
  obtain ⟨y, hy, rfl⟩ := List.mem_map.mp h
  obtain ⟨i, hi⟩ := List.mem_iff_getElem?.mp hy
  rw [List.getElem?_zipIdx] at hi
  obtain ⟨g, hg, rfl⟩ := Option.map_eq_some_iff.mp hi
  exact ⟨i, by show ((0 + i : Nat) : Int) = _; omega, hg⟩
theorem enum_snd (ks : List Str) : (enumL ks).map (·.2) = ks := by
  unfold enumL
  rw [List.map_map]
  have go : ∀ (xs : List Str) (n : Nat), (xs.zipIdx n).map ((fun q : Int × Str => q.2) ∘ fun q : Str × Nat => ((q.2 : Int), q.1)) = xs := by
    intro xs
    induction xs with
    | nil => intro n; rfl
    | cons x xs ih => intro n; rw [List.zipIdx_cons, List.map_cons, ih]; rfl
  exact go ks 0
theorem val_at {R : Rules} {d : Tup Int} (r : WR R) (h : WK R d) {k : Nat} {t : Str} (hk : R.1.items[k]? = some t) : d.items.getD k 0 = val R d t := by
  rw [lot_items r h, List.getD_eq_getElem?_getD, List.getElem?_map, hk]
  rfl
theorem nxt_eq {R : Rules} {L : Tup Int} {s : Sta} (r : WR R) (h : WK R s.2) : ((enumL R.1.items).filter fun u2 => decide ((0 : Int) < s.2.items.getD u2.1.toNat (0 : Int))).map (fun u2 => ((if m_law_shut R L s.1 u2.2 = true then s.1 else m_law_more R s.1 u2.2), Tup.mk (((gcut s.2.items none (some u2.1)) ++ [s.2.items.getD u2.1.toNat (0 : Int) - (1 : Int)]) ++ (gcut s.2.items (some (u2.1 + (1 : Int))) none)))) = nxt R L s := by
  have e : ∀ u ∈ enumL R.1.items, s.2.items.getD u.1.toNat (0 : Int) = val R s.2 u.2 ∧ Tup.mk (((gcut s.2.items none (some u.1)) ++ [s.2.items.getD u.1.toNat (0 : Int) - (1 : Int)]) ++ (gcut s.2.items (some (u.1 + (1 : Int))) none)) = lessL R s.2 u.2 := fun u hu => by
    obtain ⟨k, e1, e2⟩ := enum_mem hu
    rw [e1, Int.toNat_natCast]
    refine ⟨val_at r h e2, ?_⟩
    rw [gcut_take, gcut_drop, lot_items r h, less_list (val R s.2) R.1.items k u.2 r.kn e2]
    rfl
  unfold nxt
  have b : R.1.items = (enumL R.1.items).map (·.2) := (enum_snd _).symm
  have c : (R.1.items.filter fun n => decide (0 < val R s.2 n)) = ((enumL R.1.items).filter fun u => decide (0 < val R s.2 u.2)).map (·.2) := by
    conv => lhs; rw [b]
    rw [List.filter_map]
    rfl
  rw [c, List.map_map, List.filter_congr (q := fun u => decide (0 < val R s.2 u.2)) (fun u hu => by rw [(e u hu).1])]
  refine List.map_congr_left fun u hu => ?_
  show (_, _) = ((if m_law_shut R L s.1 u.2 = true then s.1 else m_law_more R s.1 u.2), lessL R s.2 u.2)
  rw [(e u (List.mem_filter.mp hu).1).2]
theorem w_eq {R : Rules} {L D : Tup Int} {t : EnT} (r : WR R) (h : WK R (lastS t).2) : w_law_ends R L D t = if decide (lastS t ∈ t.2.1) = true then (t.1.dropLast, t.2.1, t.2.2) else (t.1.dropLast ++ nxt R L (lastS t), t.2.1 ++ [lastS t], if (decide ((lastS t).2.items.sum = 0) && decide ((lastS t).1 ∉ t.2.2)) = true then t.2.2 ++ [(lastS t).1] else t.2.2) := by
  rw [← nxt_eq r h, ← fold_if]
  rfl
theorem less_val {R : Rules} {d : Tup Int} {t n : Str} (hn : n ∈ R.1.items) : val R (lessL R d t) n = val R d n - if n = t then 1 else 0 := val_lotOf hn
theorem nxt_ok {R : Rules} {L : Tup Int} {s s' : Sta} (r : WR R) (h : EnS R s) (hs : s' ∈ nxt R L s) : EnS R s' := by
  obtain ⟨t, ht, rfl⟩ := List.mem_map.mp hs
  have hpos := of_decide_eq_true (List.mem_filter.mp ht).2
  refine ⟨?_, lotOf_wk _ _, fun n hn => ?_⟩
  · show WK R (if m_law_shut R L s.1 t = true then s.1 else m_law_more R s.1 t)
    cases m_law_shut R L s.1 t with
    | true => exact h.1
    | false => exact more_wk r h.1 t
  · have a := h.2.2 n hn
    show 0 ≤ val R (if m_law_shut R L s.1 t = true then s.1 else m_law_more R s.1 t) n ∧ 0 ≤ val R (lessL R s.2 t) n ∧ val R (if m_law_shut R L s.1 t = true then s.1 else m_law_more R s.1 t) n + val R (lessL R s.2 t) n ≤ 3
    rw [less_val hn]
    by_cases e : n = t
    · subst e
      rw [if_pos rfl]
      cases m_law_shut R L s.1 n with
      | true => rw [if_pos rfl]; omega
      | false => rw [if_neg (by decide), more_val r h.1 hn, if_pos rfl]; omega
    · rw [if_neg e]
      cases m_law_shut R L s.1 t with
      | true => rw [if_pos rfl]; omega
      | false => rw [if_neg (by decide), more_val r h.1 hn, if_neg e]; omega
theorem nxt_len (R : Rules) (L : Tup Int) (s : Sta) : (nxt R L s).length ≤ R.1.items.length := by
  unfold nxt
  rw [List.length_map]
  exact List.length_filter_le _ _
structure EnI (R : Rules) (t : EnT) : Prop where
  fr : ∀ s ∈ t.1, EnS R s
  se : ∀ s ∈ t.2.1, EnS R s
  nd : t.2.1.Nodup
  fo : ∀ l ∈ t.2.2, WK R l
  fl : t.2.2.length ≤ t.2.1.length
  fb : t.1.length ≤ 1 + 4 * t.2.1.length
/-- all states -/
def uni : Nat → List (List (Int × Int))
  | 0 => [[]]
  | n + 1 => (uni n).flatMap fun xs => [(0, 0), (0, 1), (0, 2), (0, 3), (1, 0), (1, 1), (1, 2), (2, 0), (2, 1), (3, 0)].map fun q => q :: xs
theorem uni_len : ∀ n, (uni n).length = 10 ^ n
  | 0 => rfl
  | n + 1 => by
    have go : ∀ xs : List (List (Int × Int)), (xs.flatMap fun ys => [((0 : Int), (0 : Int)), (0, 1), (0, 2), (0, 3), (1, 0), (1, 1), (1, 2), (2, 0), (2, 1), (3, 0)].map fun q => q :: ys).length = xs.length * 10 := by
      intro xs
      induction xs with
      | nil => rfl
      | cons x xs ih => rw [List.flatMap_cons, List.length_append, ih, List.length_map, List.length_cons]; simp; omega
    unfold uni
    rw [go, uni_len n, Nat.pow_succ]
theorem uni_mem {f g : Str → Int} : ∀ (ks : List Str), (∀ n ∈ ks, 0 ≤ f n ∧ 0 ≤ g n ∧ f n + g n ≤ 3) → (ks.map fun n => (f n, g n)) ∈ uni ks.length
  | [], _ => List.mem_singleton.mpr rfl
  | k :: ks, h => by
    unfold uni
    refine List.mem_flatMap.mpr ⟨_, uni_mem ks (fun n hn => h n (List.mem_cons_of_mem _ hn)), List.mem_map.mpr ⟨(f k, g k), ?_, rfl⟩⟩
    have a := h k List.mem_cons_self
    generalize f k = x at a
    generalize g k = y at a
    have hx : x = 0 ∨ x = 1 ∨ x = 2 ∨ x = 3 := by omega
    have hy : y = 0 ∨ y = 1 ∨ y = 2 ∨ y = 3 := by omega
    rcases hx with rfl | rfl | rfl | rfl <;> rcases hy with rfl | rfl | rfl | rfl <;> first | (exact absurd a.2.2 (by decide)) | simp
def codeS (R : Rules) (s : Sta) : List (Int × Int) := R.1.items.map fun n => (val R s.1 n, val R s.2 n)
theorem codeS_inj {R : Rules} {s s' : Sta} (r : WR R) (h : EnS R s) (h' : EnS R s') (e : codeS R s = codeS R s') : s = s' := by
  have a := List.map_inj_left.mp e
  have b1 := lot_ext r h.1 h'.1 fun n hn => (Prod.mk.inj (a n hn)).1
  have b2 := lot_ext r h.2.1 h'.2.1 fun n hn => (Prod.mk.inj (a n hn)).2
  exact Prod.ext b1 b2
theorem nodup_map_in {α β : Type} {f : α → β} : ∀ {xs : List α}, (∀ x ∈ xs, ∀ y ∈ xs, f x = f y → x = y) → xs.Nodup → (xs.map f).Nodup
  | [], _, _ => List.nodup_nil
  | x :: xs, h, nd => by
    rw [List.nodup_cons] at nd
    rw [List.map_cons, List.nodup_cons]
    refine ⟨fun hm => ?_, nodup_map_in (fun a ha b hb => h a (List.mem_cons_of_mem _ ha) b (List.mem_cons_of_mem _ hb)) nd.2⟩
    obtain ⟨y, hy, e⟩ := List.mem_map.mp hm
    exact nd.1 (h y (List.mem_cons_of_mem _ hy) x List.mem_cons_self e ▸ hy)
theorem sta_few {R : Rules} (r : WR R) {xs : List Sta} (h : ∀ s ∈ xs, EnS R s) (nd : xs.Nodup) : xs.length ≤ 10000 := by
  have a := nodup_len (xs.map (codeS R)) (uni R.1.items.length) (nodup_map_in (fun x hx y hy e => codeS_inj r (h x hx) (h y hy) e) nd) (fun c hc => by
    obtain ⟨s, hs, rfl⟩ := List.mem_map.mp hc
    exact uni_mem R.1.items (h s hs).2.2)
  rw [List.length_map, uni_len] at a
  have b : 10 ^ R.1.items.length ≤ 10 ^ 4 := Nat.pow_le_pow_right (by decide) r.kl
  exact Nat.le_trans a b
def enM (t : EnT) : Nat := 5 * (10000 - t.2.1.length) + t.1.length
theorem last_mem {t : EnT} (hg : g_law_ends t = true) : lastS t ∈ t.1 := by
  have a : t.1 ≠ [] := of_decide_eq_true hg
  unfold lastS
  rw [List.getLastD_eq_getLast?, List.getLast?_eq_some_getLast a]
  exact List.getLast_mem a
theorem en_step {R : Rules} {L D : Tup Int} {t : EnT} (r : WR R) (h : EnI R t) (hg : g_law_ends t = true) : EnI R (w_law_ends R L D t) ∧ enM (w_law_ends R L D t) < enM t := by
  have hl := h.fr _ (last_mem hg)
  have hn : t.1 ≠ [] := of_decide_eq_true hg
  have hp : 0 < t.1.length := List.length_pos_iff.mpr hn
  rw [w_eq r hl.2.1]
  by_cases q : lastS t ∈ t.2.1
  · rw [if_pos (decide_eq_true q)]
    refine ⟨⟨fun s hs => h.fr s ((List.dropLast_sublist _).subset hs), h.se, h.nd, h.fo, h.fl, ?_⟩, ?_⟩
    · have a := h.fb
      show t.1.dropLast.length ≤ 1 + 4 * t.2.1.length
      rw [List.length_dropLast]
      omega
    · show 5 * (10000 - t.2.1.length) + t.1.dropLast.length < 5 * (10000 - t.2.1.length) + t.1.length
      rw [List.length_dropLast]
      omega
  · rw [if_neg (by rw [decide_eq_true_iff]; exact q)]
    have nd : (t.2.1 ++ [lastS t]).Nodup := List.nodup_append.mpr ⟨h.nd, List.nodup_cons.mpr ⟨List.not_mem_nil, List.nodup_nil⟩, fun a ha b hb e => by
      rw [List.mem_singleton.mp hb] at e
      exact q (e ▸ ha)⟩
    have se : ∀ s ∈ t.2.1 ++ [lastS t], EnS R s := fun s hs => by
      rcases List.mem_append.mp hs with m | m
      · exact h.se s m
      · rw [List.mem_singleton.mp m]; exact hl
    have few := sta_few r se nd
    have nl := Nat.le_trans (nxt_len R L (lastS t)) r.kl
    rw [List.length_append] at few
    have few2 : t.2.1.length + 1 ≤ 10000 := few
    refine ⟨⟨fun s hs => ?_, se, nd, fun l hm => ?_, ?_, ?_⟩, ?_⟩
    · rcases List.mem_append.mp hs with m | m
      · exact h.fr s ((List.dropLast_sublist _).subset m)
      · exact nxt_ok r hl m
    · have hm' : l ∈ t.2.2 ∨ l = (lastS t).1 := by
        revert hm
        show l ∈ (if _ then _ else _) → _
        split
        · intro hm
          rcases List.mem_append.mp hm with m | m
          · exact .inl m
          · exact .inr (List.mem_singleton.mp m)
        · exact .inl
      rcases hm' with m | m
      · exact h.fo l m
      · rw [m]; exact hl.1
    · have a := h.fl
      show (if _ then _ else _ : List (Tup Int)).length ≤ (t.2.1 ++ [lastS t]).length
      rw [List.length_append]
      split
      · rw [List.length_append]; exact Nat.succ_le_succ a
      · exact Nat.le_succ_of_le a
    · have a := h.fb
      show (t.1.dropLast ++ nxt R L (lastS t)).length ≤ 1 + 4 * (t.2.1 ++ [lastS t]).length
      rw [List.length_append, List.length_append, List.length_dropLast]
      show t.1.length - 1 + (nxt R L (lastS t)).length ≤ 1 + 4 * (t.2.1.length + 1)
      omega
    · show 5 * (10000 - (t.2.1 ++ [lastS t]).length) + (t.1.dropLast ++ nxt R L (lastS t)).length < 5 * (10000 - t.2.1.length) + t.1.length
      rw [List.length_append, List.length_append, List.length_dropLast]
      show 5 * (10000 - (t.2.1.length + 1)) + (t.1.length - 1 + (nxt R L (lastS t)).length) < 5 * (10000 - t.2.1.length) + t.1.length
      omega
theorem en_zero {R : Rules} {D : Tup Int} (h : WR R ∧ WD R D) : EnI R ([((Tup.mk (List.replicate R.1.items.length (0 : Int))), D)], ([] : List Sta), ([] : List (Tup Int))) := by
  refine ⟨fun s hs => ?_, fun s hs => absurd hs List.not_mem_nil, List.nodup_nil, fun l hl => absurd hl List.not_mem_nil, Nat.le_refl _, Nat.le_refl _⟩
  rw [List.mem_singleton.mp hs, zeros_eq]
  refine ⟨lotOf_wk _ _, h.2.len, fun n hn => ?_⟩
  show 0 ≤ val R (lotOf R fun _ => 0) n ∧ 0 ≤ val R D n ∧ val R (lotOf R fun _ => 0) n + val R D n ≤ 3
  rw [val_lotOf hn]
  have m : val R D n ∈ D.items := by
    rw [lot_items h.1 h.2.len]
    exact List.mem_map.mpr ⟨n, hn, rfl⟩
  have a := h.2.lo _ m
  have b := h.2.hi _ m
  omega
theorem en_ends {R : Rules} {L D : Tup Int} (h : WR R ∧ WD R D) : EnI R (runW (w_law_ends R L D) g_law_ends 60001 ([((Tup.mk (List.replicate R.1.items.length (0 : Int))), D)], ([] : List Sta), ([] : List (Tup Int)))) ∧ g_law_ends (runW (w_law_ends R L D) g_law_ends 60001 ([((Tup.mk (List.replicate R.1.items.length (0 : Int))), D)], ([] : List Sta), ([] : List (Tup Int)))) = false :=
  runW_ends (step := w_law_ends R L D) (go := g_law_ends) (I := EnI R) (m := enM) (fun t hI hg => en_step h.1 hI hg) 60000 _ (en_zero h) (by show 5 * (10000 - 0) + 1 ≤ 60000; decide)
theorem en_1 {R : Rules} {t : EnT} (r : WR R) (h : EnI R t) : t.2.1.length ≤ 10000 := sta_few r h.se h.nd
theorem en_f {R : Rules} {xs : List (Tup Int)} (r : WR R) (h : ∀ l ∈ xs, WK R l) : PySem.W.Sortable (xs.map Datum.toD) := srt_T fun x hx e => by
  have a := h x hx
  unfold WK at a
  rw [e] at a
  exact r.k1 (List.length_eq_zero_iff.mp a.symm)
theorem en_ix {ks : List Str} {i : Nat} {u : Int × Str} (h : (enumL ks)[i]? = some u) : u.1 = (u.1.toNat : Int) ∧ u.1.toNat < ks.length := by
  obtain ⟨k, e1, e2⟩ := enum_mem (List.mem_of_getElem? h)
  have a := (List.getElem?_eq_some_iff.mp e2).1
  omega
theorem en_w {R : Rules} {t : EnT} (r : WR R) (h : EnI R t) (hg : g_law_ends t = true) : (lastS t).2.items.length = R.1.items.length := (h.fr _ (last_mem hg)).2.1
theorem en_l {R : Rules} {t : EnT} {i : Nat} {u : Int × Str} (r : WR R) (h : EnI R t) (hg : g_law_ends t = true) (hu : (enumL R.1.items)[i]? = some u) : u.1.toNat < (lastS t).2.items.length := by
  rw [en_w r h hg]
  exact (en_ix hu).2
theorem en_c1 {R : Rules} {t : EnT} {a b : Option Int} {x : Int} (r : WR R) (h : EnI R t) (hg : g_law_ends t = true) : (gcut (lastS t).2.items a b).length + [x].length ≤ 100000 := by
  have e := en_w r h hg
  have f := gcut_le (lastS t).2.items a b
  have k := r.kl
  show _ + 1 ≤ _
  omega
theorem en_c2 {R : Rules} {t : EnT} {a b c d : Option Int} {x : Int} (r : WR R) (h : EnI R t) (hg : g_law_ends t = true) : ((gcut (lastS t).2.items a b) ++ [x]).length + (gcut (lastS t).2.items c d).length ≤ 100000 := by
  have e := en_w r h hg
  have f := gcut_le (lastS t).2.items a b
  have f2 := gcut_le (lastS t).2.items c d
  have k := r.kl
  rw [List.length_append]
  show _ + 1 + _ ≤ _
  omega
theorem en_i0 (xs : List Sta) : xs.dropLast.length ≤ xs.length + 0 := by
  rw [List.length_dropLast]
  omega
theorem en_i1 {n j : Nat} {t : List Sta} {q : Bool} {x : Sta} (h : t.length ≤ n + j) : (if q = true then t ++ [x] else t).length ≤ n + (j + 1) := by
  cases q with
  | true => rw [if_pos rfl, List.length_append]; exact Nat.succ_le_succ h
  | false => exact Nat.le_succ_of_le h
theorem en_fr {R : Rules} {t : EnT} {ts : List Sta} {i : Nat} {u : Int × Str} (r : WR R) (h : EnI R t) (hI : ts.length ≤ t.1.length + i) (hu : (enumL R.1.items)[i]? = some u) : ts.length ≤ 100000 := by
  have a := (List.getElem?_eq_some_iff.mp hu).1
  unfold enumL at a
  rw [List.length_map, List.length_zipIdx] at a
  have b := h.fb
  have c := en_1 r h
  have k := r.kl
  omega
abbrev R_law_ends : Rel := P3 (fun (v_law_rules_so : Rules) (v_law_tops_so : (Tup Int)) (v_law_many_so : (Tup Int)) => WR v_law_rules_so ∧ WD v_law_rules_so v_law_many_so) (fun (v_law_rules_so : Rules) (v_law_tops_so : (Tup Int)) (v_law_many_so : (Tup Int)) => fr (m_law_ends v_law_rules_so v_law_tops_so v_law_many_so))
theorem h_law_ends (W : Wld P w K mg base) : Has P w K mg base 3 "_law_ends" R_law_ends := by
  refine has_of (k := 2) W.g W.d_law_ends sc_law_ends (fun _ _ _ _ _ _ us hl => match us, hl with | [_, _, _], _ => rfl) (fun rs μ r μ' h => by obtain ⟨a0, a1, a2, h⟩ := h; rw [h.2.1]; rfl) ?_
  rintro f cdv A outer s H E rs μ r μ' c ⟨v_law_rules_so, v_law_tops_so, v_law_many_so, hp, rfl, rfl, rfl, rfl⟩
  exact ⟨_, (ss_cons (st_set c 3 (ev_fst (q := v_law_rules_so) (ev_name 0)))
    (ss_cons (st_par3 c 4 5 6 (en_cons (ev_lst1 (ev_pair (ev_op (f_repT0 (n := v_law_rules_so.1.items.length) (by have h := hp.1.kl; omega) (ne_pos hp.1.k1)) (ev_tup1 ev_int) (ev_cb (c_lenT (t := v_law_rules_so.1) rfl) c.b_len (ea_cons (ev_name 3) ea_nil))) (ev_ct c_tupleT c.b_tuple (ea_cons (ev_name 2) ea_nil)))) (en_cons (ev_lst0 (α := ((Tup Int) × (Tup Int)))) (en_cons (ev_lst0 (α := (Tup Int))) en_nil))) (.new (.new (.new .nil))))
    (ss_cons (st_loop (w_law_ends v_law_rules_so v_law_tops_so v_law_many_so) g_law_ends ([((Tup.mk (List.replicate v_law_rules_so.1.items.length (0 : Int))), v_law_many_so)], ([] : List ((Tup Int) × (Tup Int))), ([] : List (Tup Int))) 60001 (fun (t1 : List ((Tup Int) × (Tup Int)) × List ((Tup Int) × (Tup Int)) × List (Tup Int)) => [dd v_law_rules_so, dd v_law_tops_so, dd v_law_many_so, dd v_law_rules_so.1, .cel 0, .cel 1, .cel 2, .un, .un, .un, .un, .un, .un, .un]) (fun (t1 : List ((Tup Int) × (Tup Int)) × List ((Tup Int) × (Tup Int)) × List (Tup Int)) => [cl t1.1, cl t1.2.1, cl t1.2.2]) (EnI v_law_rules_so) (en_zero hp) (en_ends hp).2 (fun t hI hgo => (en_step hp.1 hI hgo).1) Fits.refl rfl (fun t1 hI1 => (et_cp (f_ne c (x := t1.1) (y := ([] : List ((Tup Int) × (Tup Int)))) rfl rfl) (ev_name 4) (ev_lst0 (α := ((Tup Int) × (Tup Int)))))) (fun t1 hI1 hgo => (ss_consE (st_set c 7 (ev_popL (n := 0) (xs := t1.1) ((Tup.mk ([] : List Int)), (Tup.mk ([] : List Int))) (ev_name 4) rfl (of_decide_eq_true hgo)))
    (ss_contD (u := (t1.1.dropLast, t1.2.1, t1.2.2)) (v := (((enumL v_law_rules_so.1.items).foldl (fun (t2 : List ((Tup Int) × (Tup Int))) u2 => (if (decide ((0 : Int) < ((t1.1.getLastD ((Tup.mk ([] : List Int)), (Tup.mk ([] : List Int)))).2.items.getD u2.1.toNat (0 : Int)))) = true then (t2 ++ [((if (m_law_shut v_law_rules_so v_law_tops_so (t1.1.getLastD ((Tup.mk ([] : List Int)), (Tup.mk ([] : List Int)))).1 u2.2) = true then (t1.1.getLastD ((Tup.mk ([] : List Int)), (Tup.mk ([] : List Int)))).1 else (m_law_more v_law_rules_so (t1.1.getLastD ((Tup.mk ([] : List Int)), (Tup.mk ([] : List Int)))).1 u2.2)), (Tup.mk (((gcut (t1.1.getLastD ((Tup.mk ([] : List Int)), (Tup.mk ([] : List Int)))).2.items none (some u2.1)) ++ [(((t1.1.getLastD ((Tup.mk ([] : List Int)), (Tup.mk ([] : List Int)))).2.items.getD u2.1.toNat (0 : Int)) - (1 : Int))]) ++ (gcut (t1.1.getLastD ((Tup.mk ([] : List Int)), (Tup.mk ([] : List Int)))).2.items (some (u2.1 + (1 : Int))) none))))]) else t2)) t1.1.dropLast), (t1.2.1 ++ [(t1.1.getLastD ((Tup.mk ([] : List Int)), (Tup.mk ([] : List Int))))]), (if ((decide ((t1.1.getLastD ((Tup.mk ([] : List Int)), (Tup.mk ([] : List Int)))).2.items.sum = (0 : Int))) && (decide ((t1.1.getLastD ((Tup.mk ([] : List Int)), (Tup.mk ([] : List Int)))).1 ∉ t1.2.2))) = true then (t1.2.2 ++ [(t1.1.getLastD ((Tup.mk ([] : List Int)), (Tup.mk ([] : List Int)))).1]) else t1.2.2))) (fun (t1 : List ((Tup Int) × (Tup Int)) × List ((Tup Int) × (Tup Int)) × List (Tup Int)) => [dd v_law_rules_so, dd v_law_tops_so, dd v_law_many_so, dd v_law_rules_so.1, .cel 0, .cel 1, .cel 2, .un, .un, .un, .un, .un, .un, .un]) (fun (t1 : List ((Tup Int) × (Tup Int)) × List ((Tup Int) × (Tup Int)) × List (Tup Int)) => [cl t1.1, cl t1.2.1, cl t1.2.2]) (et_cp (f_inLp c (x := (t1.1.getLastD ((Tup.mk ([] : List Int)), (Tup.mk ([] : List Int))))) (xs := t1.2.1) rfl rfl) (ev_name 7) (ev_name 5)) (fun hq => .ct (.keep (.keep (.keep (.keep (.keep (.keep (.keep (.drop (.keep (.keep (.keep (.keep (.keep (.keep .nil))))))))))))))) (fun hq => ⟨_, (ss_cons (st_expr (ev_appendT (n := 1) (xs := t1.2.1) (ys := t1.2.1) (x := (t1.1.getLastD ((Tup.mk ([] : List Int)), (Tup.mk ([] : List Int))))) (ev_name 5) (ev_name 7) rfl rfl (Nat.le_trans (en_1 hp.1 hI1) (by decide))))
    (ss_cons (st_unp c [8, 9] (ev_name 7) (eg_tup c (egs_cons (eg_name c 8) (egs_cons (eg_name c 9) egs_nil))))
    (ss_cons (st_ifC (n := 2) (xs := t1.2.2) (ys := (t1.2.2 ++ [(t1.1.getLastD ((Tup.mk ([] : List Int)), (Tup.mk ([] : List Int)))).1])) (et_w (ew_and (et_cp (f_eq c (x := (t1.1.getLastD ((Tup.mk ([] : List Int)), (Tup.mk ([] : List Int)))).2.items.sum) (y := (0 : Int)) rfl rfl) (ev_cb (c_sumT c (xs := (t1.1.getLastD ((Tup.mk ([] : List Int)), (Tup.mk ([] : List Int)))).2) rfl) c.b_sum (ea_cons (ev_name 9) ea_nil)) ev_int) (fun hbo => (ew_and1 (et_cp (f_ninL c (x := (t1.1.getLastD ((Tup.mk ([] : List Int)), (Tup.mk ([] : List Int)))).1) (xs := t1.2.2) rfl rfl) (ev_name 8) (ev_name 6)))))) rfl (fun hif => (ss_cons (st_expr (ev_appendT (n := 2) (xs := t1.2.2) (ys := t1.2.2) (x := (t1.1.getLastD ((Tup.mk ([] : List Int)), (Tup.mk ([] : List Int)))).1) (ev_name 6) (ev_name 8) rfl rfl (Nat.le_trans hI1.fl (Nat.le_trans (en_1 hp.1 hI1) (by decide)))))
    ss_nil)) (.keep (.keep (.keep (.keep (.keep (.keep (.keep (.keep (.keep (.keep (.keep (.keep (.keep (.keep .nil)))))))))))))))
    (ss_cons (st_fold [10, 11] (enumL v_law_rules_so.1.items) (fun (t2 : List ((Tup Int) × (Tup Int))) u2 => (if (decide ((0 : Int) < ((t1.1.getLastD ((Tup.mk ([] : List Int)), (Tup.mk ([] : List Int)))).2.items.getD u2.1.toNat (0 : Int)))) = true then (t2 ++ [((if (m_law_shut v_law_rules_so v_law_tops_so (t1.1.getLastD ((Tup.mk ([] : List Int)), (Tup.mk ([] : List Int)))).1 u2.2) = true then (t1.1.getLastD ((Tup.mk ([] : List Int)), (Tup.mk ([] : List Int)))).1 else (m_law_more v_law_rules_so (t1.1.getLastD ((Tup.mk ([] : List Int)), (Tup.mk ([] : List Int)))).1 u2.2)), (Tup.mk (((gcut (t1.1.getLastD ((Tup.mk ([] : List Int)), (Tup.mk ([] : List Int)))).2.items none (some u2.1)) ++ [(((t1.1.getLastD ((Tup.mk ([] : List Int)), (Tup.mk ([] : List Int)))).2.items.getD u2.1.toNat (0 : Int)) - (1 : Int))]) ++ (gcut (t1.1.getLastD ((Tup.mk ([] : List Int)), (Tup.mk ([] : List Int)))).2.items (some (u2.1 + (1 : Int))) none))))]) else t2)) t1.1.dropLast (fun t2 => [dd v_law_rules_so, dd v_law_tops_so, dd v_law_many_so, dd v_law_rules_so.1, .cel 0, .cel 1, .cel 2, dd (t1.1.getLastD ((Tup.mk ([] : List Int)), (Tup.mk ([] : List Int)))), dd (t1.1.getLastD ((Tup.mk ([] : List Int)), (Tup.mk ([] : List Int)))).1, dd (t1.1.getLastD ((Tup.mk ([] : List Int)), (Tup.mk ([] : List Int)))).2, .un, .un, .un, .un]) (fun t2 => [cl t2, cl (t1.2.1 ++ [(t1.1.getLastD ((Tup.mk ([] : List Int)), (Tup.mk ([] : List Int))))]), cl (if ((decide ((t1.1.getLastD ((Tup.mk ([] : List Int)), (Tup.mk ([] : List Int)))).2.items.sum = (0 : Int))) && (decide ((t1.1.getLastD ((Tup.mk ([] : List Int)), (Tup.mk ([] : List Int)))).1 ∉ t1.2.2))) = true then (t1.2.2 ++ [(t1.1.getLastD ((Tup.mk ([] : List Int)), (Tup.mk ([] : List Int)))).1]) else t1.2.2)]) (fun j (t : List Sta) => t.length ≤ t1.1.length + j) c (EvI.cast (ei_enumT c (ev_name 3)) (enumD_map _)) (en_i0 t1.1) Fits.refl rfl (fun i t2 u2 hu2 hI2 => ⟨(en_i1 hI2), _, _, eg_tup c (egs_cons (eg_name c 10) (egs_cons (eg_name c 11) egs_nil)), (ss_cons (st_ifC (n := 0) (xs := t2) (ys := (t2 ++ [((if (m_law_shut v_law_rules_so v_law_tops_so (t1.1.getLastD ((Tup.mk ([] : List Int)), (Tup.mk ([] : List Int)))).1 u2.2) = true then (t1.1.getLastD ((Tup.mk ([] : List Int)), (Tup.mk ([] : List Int)))).1 else (m_law_more v_law_rules_so (t1.1.getLastD ((Tup.mk ([] : List Int)), (Tup.mk ([] : List Int)))).1 u2.2)), (Tup.mk (((gcut (t1.1.getLastD ((Tup.mk ([] : List Int)), (Tup.mk ([] : List Int)))).2.items none (some u2.1)) ++ [(((t1.1.getLastD ((Tup.mk ([] : List Int)), (Tup.mk ([] : List Int)))).2.items.getD u2.1.toNat (0 : Int)) - (1 : Int))]) ++ (gcut (t1.1.getLastD ((Tup.mk ([] : List Int)), (Tup.mk ([] : List Int)))).2.items (some (u2.1 + (1 : Int))) none))))])) (et_cp f_gt (ev_ixTD (n := u2.1.toNat) (0 : Int) (ev_name 9) (ev_name 10) (en_ix hu2).1 (en_l hp.1 hI1 hgo hu2)) ev_int) rfl (fun hif => (ss_cons (st_set c 12 (ev_op (f_catTT (en_c2 hp.1 hI1 hgo)) (ev_op (f_catTT (en_c1 hp.1 hI1 hgo)) (ev_slTT (ev_name 9) eo_none (eo_some (ev_name 10))) (ev_tup1 (ev_op f_sub (ev_ixTD (n := u2.1.toNat) (0 : Int) (ev_name 9) (ev_name 10) (en_ix hu2).1 (en_l hp.1 hI1 hgo hu2)) ev_int))) (ev_slTT (ev_name 9) (eo_some (ev_op f_add (ev_name 10) ev_int)) eo_none)))
    (ss_cons (st_set c 13 (ev_call (h_law_shut W) c (ea_cons (ev_name 0) (ea_cons (ev_name 1) (ea_cons (ev_name 8) (ea_cons (ev_name 11) ea_nil)))) (P4.go trivial)))
    (ss_cons (st_expr (ev_appendT (n := 0) (xs := t2) (ys := t2) (x := ((if (m_law_shut v_law_rules_so v_law_tops_so (t1.1.getLastD ((Tup.mk ([] : List Int)), (Tup.mk ([] : List Int)))).1 u2.2) = true then (t1.1.getLastD ((Tup.mk ([] : List Int)), (Tup.mk ([] : List Int)))).1 else (m_law_more v_law_rules_so (t1.1.getLastD ((Tup.mk ([] : List Int)), (Tup.mk ([] : List Int)))).1 u2.2)), (Tup.mk (((gcut (t1.1.getLastD ((Tup.mk ([] : List Int)), (Tup.mk ([] : List Int)))).2.items none (some u2.1)) ++ [(((t1.1.getLastD ((Tup.mk ([] : List Int)), (Tup.mk ([] : List Int)))).2.items.getD u2.1.toNat (0 : Int)) - (1 : Int))]) ++ (gcut (t1.1.getLastD ((Tup.mk ([] : List Int)), (Tup.mk ([] : List Int)))).2.items (some (u2.1 + (1 : Int))) none))))) (ev_name 4) (ev_pair (ev_ifD (et_val (ev_name 13)) (fun hif => (ev_name 8)) (fun hif => (ev_call (h_law_more W) c (ea_cons (ev_name 0) (ea_cons (ev_name 8) (ea_cons (ev_name 11) ea_nil))) (P3.go trivial)))) (ev_name 12)) rfl rfl (en_fr hp.1 hI1 hI2 hu2)))
    ss_nil)))) (.keep (.keep (.keep (.keep (.keep (.keep (.keep (.keep (.keep (.keep (.keep (.keep (.drop (.drop .nil)))))))))))))))
    ss_nil), .nx (.keep (.keep (.keep (.keep (.keep (.keep (.keep (.keep (.keep (.keep (.drop (.drop (.keep (.keep .nil))))))))))))))⟩))
    ss_nil)))), .nx (.keep (.keep (.keep (.keep (.keep (.keep (.keep (.drop (.drop (.drop (.keep (.keep (.keep (.keep .nil))))))))))))))⟩)))))
    (ss_end (st_ret (ev_cb (c_sorted c (xs := (runW (w_law_ends v_law_rules_so v_law_tops_so v_law_many_so) g_law_ends 60001 ([((Tup.mk (List.replicate v_law_rules_so.1.items.length (0 : Int))), v_law_many_so)], ([] : List ((Tup Int) × (Tup Int))), ([] : List (Tup Int)))).2.2) rfl (en_f hp.1 (en_ends hp).1.fo)) c.b_sorted (ea_cons (ev_name 6) ea_nil))))))), .rt .fre⟩
end
end CL
end
section
set_option autoImplicit false
/-! Plain facts 3: the order of data, sorted lists. -/
namespace CL
open PySem PySem.Spec PyProof.Rows L2 DL
open PySem.W (Datum Tup DatumOrd Holds HoldAll T3)
section
variable {α β : Type} [DecidableEq α] [DatumOrd α] [DecidableEq β] [DatumOrd β]
theorem lt_irr (a : α) : DatumOrd.lt a a = false := (DatumOrd.lt_eq a a).symm.trans (PySem.W.dataLt_self _)
theorem lt_tr {a b c : α} (h : DatumOrd.lt a b = true) (k : DatumOrd.lt b c = true) : DatumOrd.lt a c = true := by
  rw [← DatumOrd.lt_eq] at h k ⊢
  exact lex_trans _ _ _ h k
theorem lt_neg {a b c : α} (h : DatumOrd.lt a c = true) : DatumOrd.lt a b = true ∨ DatumOrd.lt b c = true := by
  rw [← DatumOrd.lt_eq] at h
  rw [← DatumOrd.lt_eq, ← DatumOrd.lt_eq]
  exact lex_negTrans _ _ _ h
theorem lt_asy {a b : α} (h : DatumOrd.lt a b = true) : DatumOrd.lt b a = false := by
  cases e : DatumOrd.lt b a with
  | false => rfl
  | true =>
    have k := lt_tr h e
    rw [lt_irr] at k
    cases k
theorem srt_pw (xs : List α) : (srt xs).Pairwise fun a b => DatumOrd.lt b a = false := by
  have h := List.pairwise_mergeSort (le := fun a b : α => !DatumOrd.lt b a) (fun a b c h1 h2 => by
    rw [Bool.not_eq_true'] at h1 h2 ⊢
    cases e : DatumOrd.lt c a with
    | false => rfl
    | true =>
      rcases lt_neg (b := b) e with k | k
      · rw [h2] at k; cases k
      · rw [h1] at k; cases k) (fun a b => by
    cases e : DatumOrd.lt b a with
    | false => rfl
    | true => rw [lt_asy e]; rfl) xs
  exact h.imp fun k => by rw [Bool.not_eq_true'] at k; exact k
/-- of two unlike ones one is less -/
class Tot (α : Type) [DecidableEq α] [DatumOrd α] : Prop where
  tot : ∀ a b : α, DatumOrd.lt a b = false → DatumOrd.lt b a = false → a = b
instance : Tot Int := ⟨fun a b h k => by
  have h1 : ¬ a < b := of_decide_eq_false h
  have k1 : ¬ b < a := of_decide_eq_false k
  omega⟩
theorem nats_tot : ∀ a b : List Nat, ¬ a < b → ¬ b < a → a = b := fun a b h k => List.le_antisymm (List.not_lt.mp k) (List.not_lt.mp h)
instance : Tot Str := ⟨fun a b h k => by
  have e := nats_tot _ _ (of_decide_eq_false h) (of_decide_eq_false k)
  cases a with
  | mk x =>
    cases b with
    | mk y => exact congrArg Str.mk (Array.toList_inj.mp e)⟩
theorem listLt_tot [Tot α] : ∀ a b : List α, PySem.W.listLt a b = false → PySem.W.listLt b a = false → a = b
  | [], [], _, _ => rfl
  | [], y :: ys, h, _ => by cases h
  | x :: xs, [], _, k => by cases k
  | x :: xs, y :: ys, h, k => by
    unfold PySem.W.listLt at h k
    by_cases e : x = y
    · rw [if_pos e] at h
      rw [if_pos e.symm] at k
      rw [e, listLt_tot xs ys h k]
    · rw [if_neg e] at h
      rw [if_neg (fun q => e q.symm)] at k
      exact absurd (Tot.tot x y h k) e
instance [Tot α] : Tot (Tup α) := ⟨fun a b h k => by
  have e := listLt_tot a.items b.items h k
  cases a
  cases b
  exact congrArg Tup.mk e⟩
theorem srt_asc [Tot α] {xs : List α} (nd : xs.Nodup) : (srt xs).Pairwise fun a b => DatumOrd.lt a b = true := by
  have h := srt_pw xs
  have n : (srt xs).Nodup := (srt_perm xs).nodup_iff.mpr nd
  refine (List.Pairwise.and h n).imp fun {a b} k => ?_
  cases e : DatumOrd.lt a b with
  | true => rfl
  | false => exact absurd (Tot.tot a b e k.1) k.2
/-- two ascending lists of the same things are one -/
theorem asc_eq : ∀ (xs ys : List α), xs.Pairwise (fun a b => DatumOrd.lt a b = true) → ys.Pairwise (fun a b => DatumOrd.lt a b = true) → (∀ k, k ∈ xs ↔ k ∈ ys) → xs = ys
  | [], [], _, _, _ => rfl
  | [], y :: ys, _, _, h => absurd ((h y).mpr List.mem_cons_self) List.not_mem_nil
  | x :: xs, [], _, _, h => absurd ((h x).mp List.mem_cons_self) List.not_mem_nil
  | x :: xs, y :: ys, hx, hy, h => by
    rw [List.pairwise_cons] at hx hy
    have e : x = y := by
      rcases List.mem_cons.mp ((h x).mp List.mem_cons_self) with a | a
      · exact a
      · rcases List.mem_cons.mp ((h y).mpr List.mem_cons_self) with b | b
        · exact b.symm
        · have p := lt_asy (hy.1 x a)
          rw [hx.1 y b] at p
          cases p
    subst e
    congr 1
    refine asc_eq xs ys hx.2 hy.2 fun k => ⟨fun m => ?_, fun m => ?_⟩
    · rcases List.mem_cons.mp ((h k).mp (List.mem_cons_of_mem _ m)) with a | a
      · have p := hx.1 k m
        rw [a, lt_irr] at p
        cases p
      · exact a
    · rcases List.mem_cons.mp ((h k).mpr (List.mem_cons_of_mem _ m)) with a | a
      · have p := hy.1 k m
        rw [a, lt_irr] at p
        cases p
      · exact a
/-- the first of a sorted list -/
theorem srt_head {xs ys : List α} {y : α} (h : srt xs = y :: ys) : y ∈ xs ∧ ∀ x ∈ xs, DatumOrd.lt x y = false := by
  have p := srt_pw xs
  rw [h, List.pairwise_cons] at p
  refine ⟨mem_srt.mp (h ▸ List.mem_cons_self), fun x hx => ?_⟩
  have m : x ∈ y :: ys := h ▸ mem_srt.mpr hx
  rcases List.mem_cons.mp m with e | e
  · rw [e]; exact lt_irr y
  · exact p.1 x e
end
end CL
end
section
set_option autoImplicit false
/-! Plain law 1: all lots. -/
namespace CL
open PySem PySem.Spec PyProof.Rows L2 DL
open PySem.W (Datum Tup DatumOrd Holds HoldAll T3)
theorem sum_le {α : Type} {f g : α → Int} : ∀ {xs : List α}, (∀ x ∈ xs, f x ≤ g x) → (xs.map f).sum ≤ (xs.map g).sum
  | [], _ => Int.le_refl _
  | x :: xs, h => by
    rw [List.map_cons, List.map_cons, List.sum_cons, List.sum_cons]
    have a := h x List.mem_cons_self
    have b := sum_le (xs := xs) (fun y hy => h y (List.mem_cons_of_mem _ hy))
    omega
theorem sum_lt {α : Type} {f g : α → Int} : ∀ {xs : List α}, (∀ x ∈ xs, f x ≤ g x) → (∃ x ∈ xs, f x < g x) → (xs.map f).sum < (xs.map g).sum
  | [], _, h => absurd h (by rintro ⟨x, hx, _⟩; cases hx)
  | x :: xs, h, ⟨z, hz, k⟩ => by
    rw [List.map_cons, List.map_cons, List.sum_cons, List.sum_cons]
    have a := h x List.mem_cons_self
    rcases List.mem_cons.mp hz with e | m
    · have b := sum_le (xs := xs) (fun y hy => h y (List.mem_cons_of_mem _ hy))
      subst e
      omega
    · have b := sum_lt (xs := xs) (fun y hy => h y (List.mem_cons_of_mem _ hy)) ⟨z, m, k⟩
      omega
theorem sum_nn {α : Type} {f : α → Int} {xs : List α} (h : ∀ x ∈ xs, 0 ≤ f x) : 0 ≤ (xs.map f).sum := by
  have a := sum_le (f := fun _ => (0 : Int)) (g := f) h
  have b : ∀ ys : List α, (ys.map fun _ => (0 : Int)).sum = 0 := by
    intro ys
    induction ys with
    | nil => rfl
    | cons y ys ih => rw [List.map_cons, List.sum_cons, ih]; rfl
  rw [b] at a
  exact a
/-- one lot is at most another, kind by kind -/
def LeL (R : Rules) (a b : Tup Int) : Prop := ∀ n ∈ R.1.items, val R a n ≤ val R b n
theorem ld_mono {R : Rules} (r : WR R) {a b : Tup Int} (h : LeL R a b) {g : Tup Str} (hg : g ∈ R.2.items) : ld R a g ≤ ld R b g := sum_le fun n hn => h n (r.gs g hg n hn)
theorem ld_lt {R : Rules} (r : WR R) {a b : Tup Int} (h : LeL R a b) {g : Tup Str} (hg : g ∈ R.2.items) {n : Str} (hn : n ∈ g.items) (k : val R a n < val R b n) : ld R a g < ld R b g := sum_lt (fun n hn => h n (r.gs g hg n hn)) ⟨n, hn, k⟩
theorem keeps_mono {R : Rules} (r : WR R) {L a b : Tup Int} (h : LeL R a b) (k : KeepsP R L b) : KeepsP R L a := fun q hq => Int.le_trans (ld_mono r h (zip_fst hq)) (k q hq)
theorem shut_mono {R : Rules} (r : WR R) {L a b : Tup Int} (h : LeL R a b) {n : Str} (k : ShutP R L a n) : ShutP R L b n := by
  obtain ⟨q, hq, h1, h2⟩ := k
  exact ⟨q, hq, h1, Int.le_trans h2 (ld_mono r h (zip_fst hq))⟩
/-- lists, place by place -/
def lePt : List Int → List Int → Prop
  | [], [] => True
  | x :: xs, y :: ys => x ≤ y ∧ lePt xs ys
  | _, _ => False
theorem lePt_refl : ∀ xs : List Int, lePt xs xs
  | [] => trivial
  | x :: xs => ⟨Int.le_refl _, lePt_refl xs⟩
theorem lePt_app : ∀ (xs : List Int) {ys zs : List Int}, lePt ys zs → lePt (xs ++ ys) (xs ++ zs)
  | [], _, _, h => h
  | x :: xs, _, _, h => ⟨Int.le_refl _, lePt_app xs h⟩
theorem dval_le (n : Str) : ∀ (ks : List Str) (vs ws : List Int), lePt vs ws → (dval (kvT ks vs) (.inr n)).getD 0 ≤ (dval (kvT ks ws) (.inr n)).getD 0
  | [], _, _, _ => Int.le_refl _
  | k :: ks, [], [], _ => Int.le_refl _
  | k :: ks, v :: vs, w :: ws, h => by
    rw [dval_kv, dval_kv]
    by_cases e : k = n
    · rw [if_pos e, if_pos e]; exact h.1
    · rw [if_neg e, if_neg e]; exact dval_le n ks vs ws h.2
theorem leL_pt {R : Rules} {a b : Tup Int} (h : lePt a.items b.items) : LeL R a b := fun n _ => dval_le n _ _ _ h
theorem filter_more {p q : Tup Int → Bool} {u : Int} : ∀ (X : List (Tup Int)), (∀ x ∈ X, ∀ y ∈ rangeI (u + 1).toNat, q (Tup.mk (x.items ++ [y])) = true → p x = true) → (alMore (X.filter p) u).filter q = (alMore X u).filter q
  | [], _ => rfl
  | x :: X, h => by
    have ih := filter_more X (fun z hz => h z (List.mem_cons_of_mem _ hz))
    have hc : ∀ Y : List (Tup Int), alMore (x :: Y) u = llMore x u ++ alMore Y u := fun Y => List.flatMap_cons ..
    rw [hc, List.filter_append, ← ih]
    cases e : p x with
    | true => rw [List.filter_cons_of_pos e, hc, List.filter_append]
    | false =>
      rw [List.filter_cons_of_neg (by rw [e]; decide)]
      have z : (llMore x u).filter q = [] := by
        rw [List.filter_eq_nil_iff]
        intro a ha k
        obtain ⟨y, hy, rfl⟩ := List.mem_map.mp ha
        have c := h x List.mem_cons_self y hy k
        rw [e] at c
        cases c
      rw [z]
      rfl
theorem law_lots_eq (D : Tup Int) : m_law_lots D = D.items.foldl (fun t u => alMore t u) [Tup.mk ([] : List Int)] := by
  unfold m_law_lots
  congr 1
  funext t u
  show t.foldl (fun t2 u2 => t2 ++ llMore u2 u) [] = _
  rw [ll_fold, List.nil_append]
abbrev alQ (R : Rules) (L : Tup Int) (r : Int) (lot : Tup Int) : Bool := m_keeps R L (Tup.mk (lot.items ++ List.replicate r.toNat (0 : Int)))
theorem all_go {R : Rules} {L : Tup Int} (r : WR R) : ∀ (us : List Int) (X : List (Tup Int)), (∀ u ∈ us, 0 ≤ u) →
    (us.foldl (fun (t1 : Int × List (Tup Int)) u1 => ((t1.1 - (1 : Int)), ((alMore t1.2 u1).filter fun x3 => alQ R L (t1.1 - 1) x3))) ((us.length : Int), X.filter fun x => alQ R L (us.length : Int) x)).2 = (us.foldl (fun t u => alMore t u) X).filter fun x => alQ R L 0 x
  | [], X, _ => rfl
  | u :: us, X, h => by
    rw [List.foldl_cons, List.foldl_cons, ← all_go r us (alMore X u) (fun v hv => h v (List.mem_cons_of_mem _ hv))]
    have e1 : (((u :: us).length : Nat) : Int) - 1 = (us.length : Int) := by rw [List.length_cons]; omega
    have e2 : (alMore (X.filter fun x => alQ R L ((u :: us).length : Int) x) u).filter (fun x3 => alQ R L (us.length : Int) x3) = (alMore X u).filter fun x => alQ R L (us.length : Int) x := by
      refine filter_more X fun x _ y hy k => ?_
      have y0 := (rangeI_mem.mp hy).1
      rw [keeps_iff] at k ⊢
      refine keeps_mono r (leL_pt ?_) k
      show lePt (x.items ++ List.replicate (((u :: us).length : Nat) : Int).toNat 0) ((x.items ++ [y]) ++ List.replicate ((us.length : Nat) : Int).toNat 0)
      rw [Int.toNat_natCast, Int.toNat_natCast, List.length_cons, List.replicate_succ, List.append_assoc]
      exact lePt_app _ ⟨y0, lePt_refl _⟩
    show (us.foldl _ ((((u :: us).length : Nat) : Int) - 1, (alMore (X.filter fun x => alQ R L ((u :: us).length : Int) x) u).filter (fun x3 => alQ R L ((((u :: us).length : Nat) : Int) - 1) x3))).2 = _
    rw [e1, e2]
theorem all_lots_eq {R : Rules} {L D : Tup Int} (r : WR R) (h : WD R D) (z : KeepsP R L (Tup.mk (List.replicate D.items.length 0))) : m_all_lots R L D = (m_law_lots D).filter fun x => m_keeps R L x := by
  have a := all_go (L := L) r D.items [Tup.mk ([] : List Int)] h.lo
  rw [law_lots_eq]
  have e : ([Tup.mk ([] : List Int)].filter fun x => alQ R L (D.items.length : Int) x) = [Tup.mk ([] : List Int)] := by
    rw [List.filter_cons_of_pos]
    · rfl
    · show m_keeps R L (Tup.mk ([] ++ List.replicate (D.items.length : Int).toNat (0 : Int))) = true
      rw [keeps_iff, Int.toNat_natCast, List.nil_append]
      exact z
  rw [e] at a
  have e2 : (fun x : Tup Int => alQ R L 0 x) = fun x => m_keeps R L x := by
    funext x
    show m_keeps R L (Tup.mk (x.items ++ [])) = m_keeps R L x
    rw [List.append_nil]
  rw [e2] at a
  exact a
end CL
end
section
set_option autoImplicit false
/-! Plain law 2: what lots are among all; their order. -/
namespace CL
open PySem PySem.Spec PyProof.Rows L2 DL
open PySem.W (Datum Tup DatumOrd Holds HoldAll T3)
/-- place by place from 0 to the demands -/
def boxed : List Int → List Int → Prop
  | [], [] => True
  | y :: ys, u :: us => (0 ≤ y ∧ y ≤ u) ∧ boxed ys us
  | _, _ => False
theorem more_mem {X : List (Tup Int)} {u : Int} {l : Tup Int} (h0 : 0 ≤ u) : l ∈ alMore X u ↔ ∃ a ∈ X, ∃ y, (0 ≤ y ∧ y ≤ u) ∧ l = Tup.mk (a.items ++ [y]) := by
  constructor
  · intro h
    obtain ⟨a, ha, hm⟩ := List.mem_flatMap.mp h
    obtain ⟨y, hy, rfl⟩ := List.mem_map.mp hm
    have b := rangeI_mem.mp hy
    exact ⟨a, ha, y, by omega, rfl⟩
  · rintro ⟨a, ha, y, hy, rfl⟩
    exact List.mem_flatMap.mpr ⟨a, ha, List.mem_map.mpr ⟨y, rangeI_mem.mpr (by omega), rfl⟩⟩
theorem fold_mem : ∀ (us : List Int) (X : List (Tup Int)) (l : Tup Int), (∀ u ∈ us, 0 ≤ u) → (l ∈ us.foldl (fun t u => alMore t u) X ↔ ∃ a ∈ X, ∃ ys, boxed ys us ∧ l = Tup.mk (a.items ++ ys))
  | [], X, l, _ => by
    constructor
    · intro h
      exact ⟨l, h, [], trivial, by rw [List.append_nil]⟩
    · rintro ⟨a, ha, ys, hy, rfl⟩
      cases ys with
      | nil => rw [List.append_nil]; exact ha
      | cons y ys => exact hy.elim
  | u :: us, X, l, h => by
    rw [List.foldl_cons, fold_mem us _ l (fun v hv => h v (List.mem_cons_of_mem _ hv))]
    have h0 := h u List.mem_cons_self
    constructor
    · rintro ⟨a, ha, ys, hy, rfl⟩
      obtain ⟨b, hb, y, hy2, rfl⟩ := (more_mem h0).mp ha
      refine ⟨b, hb, y :: ys, ⟨hy2, hy⟩, ?_⟩
      show Tup.mk ((b.items ++ [y]) ++ ys) = _
      rw [List.append_assoc]
      rfl
    · rintro ⟨b, hb, ys, hy, rfl⟩
      cases ys with
      | nil => exact hy.elim
      | cons y ys =>
        refine ⟨_, (more_mem h0).mpr ⟨b, hb, y, hy.1, rfl⟩, ys, hy.2, ?_⟩
        show _ = Tup.mk ((b.items ++ [y]) ++ ys)
        rw [List.append_assoc]
        rfl
theorem boxed_len : ∀ {ys us : List Int}, boxed ys us → ys.length = us.length
  | [], [], _ => rfl
  | y :: ys, u :: us, h => by rw [List.length_cons, List.length_cons, boxed_len h.2]
  | [], _ :: _, h => h.elim
  | _ :: _, [], h => h.elim
theorem boxed_map (f g : Str → Int) : ∀ ks : List Str, boxed (ks.map f) (ks.map g) ↔ ∀ n ∈ ks, 0 ≤ f n ∧ f n ≤ g n
  | [] => ⟨fun _ n hn => absurd hn List.not_mem_nil, fun _ => trivial⟩
  | k :: ks => by
    have ih := boxed_map f g ks
    constructor
    · intro h n hn
      rcases List.mem_cons.mp hn with e | m
      · rw [e]; exact h.1
      · exact ih.mp h.2 n m
    · intro h
      exact ⟨h k List.mem_cons_self, ih.mpr fun n hn => h n (List.mem_cons_of_mem _ hn)⟩
/-- a lot of the demands -/
def OfD (R : Rules) (D lot : Tup Int) : Prop := WK R lot ∧ ∀ n ∈ R.1.items, 0 ≤ val R lot n ∧ val R lot n ≤ val R D n
theorem lots_mem {R : Rules} {D lot : Tup Int} (r : WR R) (h : WD R D) : lot ∈ m_law_lots D ↔ OfD R D lot := by
  rw [law_lots_eq, fold_mem _ _ _ h.lo]
  constructor
  · rintro ⟨a, ha, ys, hy, rfl⟩
    obtain rfl := List.mem_singleton.mp ha
    have w : WK R (Tup.mk ([] ++ ys)) := (boxed_len hy).trans h.len
    refine ⟨w, ?_⟩
    have e1 := lot_items r w
    have e2 := lot_items r h.len
    have e3 : ys = R.1.items.map (val R (Tup.mk ([] ++ ys))) := e1
    rw [e2, e3] at hy
    exact (boxed_map _ _ _).mp hy
  · rintro ⟨w, hb⟩
    refine ⟨Tup.mk [], List.mem_singleton.mpr rfl, lot.items, ?_, rfl⟩
    rw [lot_items r w, lot_items r h.len]
    exact (boxed_map _ _ _).mpr hb
/-! ### the order -/
theorem listLt_app : ∀ {x y : List Int} (a b : List Int), x.length = y.length → PySem.W.listLt x y = true → PySem.W.listLt (x ++ a) (y ++ b) = true
  | [], [], _, _, _, h => by cases h
  | [], _ :: _, _, _, l, _ => by cases l
  | _ :: _, [], _, _, l, _ => by cases l
  | u :: x, v :: y, a, b, l, h => by
    unfold PySem.W.listLt at h
    show (if u = v then PySem.W.listLt (x ++ a) (y ++ b) else DatumOrd.lt u v) = true
    by_cases e : u = v
    · rw [if_pos e] at h ⊢
      exact listLt_app a b (by simpa using l) h
    · rw [if_neg e] at h ⊢
      exact h
theorem listLt_end : ∀ (x : List Int) {a b : Int}, a < b → PySem.W.listLt (x ++ [a]) (x ++ [b]) = true
  | [], a, b, h => by
    show (if a = b then PySem.W.listLt [] [] else decide (a < b)) = true
    rw [if_neg (by omega), decide_eq_true h]
  | u :: x, a, b, h => by
    show (if u = u then PySem.W.listLt (x ++ [a]) (x ++ [b]) else DatumOrd.lt u u) = true
    rw [if_pos rfl]
    exact listLt_end x h
abbrev Asc (xs : List (Tup Int)) : Prop := xs.Pairwise fun a b => DatumOrd.lt a b = true
theorem ll_asc (x : Tup Int) (u : Int) : Asc (llMore x u) := by
  refine List.Pairwise.map _ (fun a b h => ?_) (rangeI_asc _)
  exact listLt_end x.items h
theorem more_asc {u : Int} {n : Nat} : ∀ {X : List (Tup Int)}, (∀ x ∈ X, x.items.length = n) → Asc X → Asc (alMore X u)
  | [], _, _ => List.Pairwise.nil
  | x :: X, hl, h => by
    have h2 := List.pairwise_cons.mp h
    have hc : alMore (x :: X) u = llMore x u ++ alMore X u := List.flatMap_cons ..
    rw [hc]
    refine List.pairwise_append.mpr ⟨ll_asc x u, more_asc (fun y hy => hl y (List.mem_cons_of_mem _ hy)) h2.2, fun a ha b hb => ?_⟩
    obtain ⟨y, _, rfl⟩ := List.mem_map.mp ha
    obtain ⟨z, hz, hm⟩ := List.mem_flatMap.mp hb
    obtain ⟨v, _, rfl⟩ := List.mem_map.mp hm
    exact listLt_app [y] [v] ((hl x List.mem_cons_self).trans (hl z (List.mem_cons_of_mem _ hz)).symm) (h2.1 z hz)
theorem fold_asc : ∀ (us : List Int) (X : List (Tup Int)) (n : Nat), (∀ x ∈ X, x.items.length = n) → Asc X → Asc (us.foldl (fun t u => alMore t u) X)
  | [], X, n, _, h => h
  | u :: us, X, n, hl, h => fold_asc us (alMore X u) (n + 1) (fun x hx => al_mem hl hx) (more_asc hl h)
theorem lots_asc (D : Tup Int) : Asc (m_law_lots D) := by
  rw [law_lots_eq]
  exact fold_asc _ _ 0 (fun x hx => by rw [List.mem_singleton.mp hx]; rfl) (List.pairwise_singleton _ _)
/-! ### all lots, all ends -/
def KLot (R : Rules) (L D lot : Tup Int) : Prop := OfD R D lot ∧ KeepsP R L lot
def EndP (R : Rules) (L D lot : Tup Int) : Prop := KLot R L D lot ∧ ∀ n ∈ R.1.items, val R lot n < val R D n → ShutP R L lot n
theorem zeros_keep {R : Rules} {L : Tup Int} (r : WR R) (lp : ∀ l ∈ L.items, 0 ≤ l) : KeepsP R L (lotOf R fun _ => 0) := fun q hq => by
  have a := lp _ (zip_snd hq)
  have b : ld R (lotOf R fun _ => 0) q.1 ≤ 0 := by
    have c := sum_le (f := val R (lotOf R fun _ => 0)) (g := fun _ => (0 : Int)) (xs := q.1.items) (fun n hn => by rw [val_lotOf (r.gs _ (zip_fst hq) n hn)]; exact Int.le_refl _)
    have e : ∀ ys : List Str, (ys.map fun _ => (0 : Int)).sum = 0 := by
      intro ys
      induction ys with
      | nil => rfl
      | cons y ys ih => rw [List.map_cons, List.sum_cons, ih]; rfl
    rw [e] at c
    exact c
  omega
theorem zeros_D {R : Rules} {D : Tup Int} (h : WD R D) : Tup.mk (List.replicate D.items.length (0 : Int)) = lotOf R fun _ => 0 := by
  have e : D.items.length = R.1.items.length := h.len
  rw [e]
  exact zeros_eq R
theorem all_lots_is {R : Rules} {L D : Tup Int} (r : WR R) (h : WD R D) (lp : ∀ l ∈ L.items, 0 ≤ l) : m_all_lots R L D = (m_law_lots D).filter fun x => m_keeps R L x := all_lots_eq r h (by rw [zeros_D h]; exact zeros_keep r lp)
theorem all_lots_mem {R : Rules} {L D lot : Tup Int} (r : WR R) (h : WD R D) (lp : ∀ l ∈ L.items, 0 ≤ l) : lot ∈ m_all_lots R L D ↔ KLot R L D lot := by
  rw [all_lots_is r h lp, List.mem_filter, lots_mem r h, keeps_iff]
  exact Iff.rfl
theorem law_lots_same {R : Rules} {L D : Tup Int} (r : WR R) (h : WD R D) (lp : ∀ l ∈ L.items, 0 ≤ l) : m_all_lots R L D = (m_law_lots D).filter fun x => m_law_keeps R L x := by
  rw [all_lots_is r h lp]
  refine List.filter_congr fun x hx => ?_
  have w := ((lots_mem r h).mp hx).1
  rw [Bool.eq_iff_iff, keeps_iff, law_keeps_iff r w]
theorem zip3_lot {R : Rules} {a b : Tup Int} (r : WR R) (ha : WK R a) (hb : WK R b) : zip3 R.1.items a.items b.items = R.1.items.map fun n => ⟨n, val R a n, val R b n⟩ := by
  rw [lot_items r ha, lot_items r hb]
  have go : ∀ (f g : Str → Int) (ks : List Str), zip3 ks (ks.map f) (ks.map g) = ks.map fun n => ⟨n, f n, g n⟩ := by
    intro f g ks
    induction ks with
    | nil => rfl
    | cons k ks ih =>
      rw [List.map_cons, List.map_cons, List.map_cons, ← ih]
      rfl
  exact go _ _ _
theorem is_shut_iff {R : Rules} {L D lot : Tup Int} (r : WR R) (hd : WK R D) (h : WK R lot) : m_is_shut R L D lot = true ↔ ∀ n ∈ R.1.items, val R lot n < val R D n → ShutP R L lot n := by
  unfold m_is_shut
  rw [zip3_lot r h hd, List.all_eq_true]
  constructor
  · intro a n hn k
    have b := a _ (List.mem_map.mpr ⟨n, List.mem_map.mpr ⟨⟨n, val R lot n, val R D n⟩, List.mem_filter.mpr ⟨List.mem_map.mpr ⟨n, hn, rfl⟩, decide_eq_true k⟩, rfl⟩, rfl⟩)
    exact any_full.mp b
  · intro a x hx
    obtain ⟨n, hn, rfl⟩ := List.mem_map.mp hx
    obtain ⟨z, hz, rfl⟩ := List.mem_map.mp hn
    obtain ⟨h1, h2⟩ := List.mem_filter.mp hz
    obtain ⟨m, hm, rfl⟩ := List.mem_map.mp h1
    exact any_full.mpr (a m hm (of_decide_eq_true h2))
theorem all_ends_mem {R : Rules} {L D lot : Tup Int} (r : WR R) (h : WD R D) (lp : ∀ l ∈ L.items, 0 ≤ l) : lot ∈ m_all_ends R L D ↔ EndP R L D lot := by
  unfold m_all_ends EndP
  rw [List.mem_filter, all_lots_mem r h lp]
  constructor
  · rintro ⟨a, b⟩
    exact ⟨a, (is_shut_iff r h.len a.1.1).mp b⟩
  · rintro ⟨a, b⟩
    exact ⟨a, (is_shut_iff r h.len a.1.1).mpr b⟩
theorem all_ends_asc {R : Rules} {L D : Tup Int} (r : WR R) (h : WD R D) (lp : ∀ l ∈ L.items, 0 ≤ l) : Asc (m_all_ends R L D) := by
  unfold m_all_ends
  rw [all_lots_is r h lp]
  exact ((lots_asc D).filter _).filter _
end CL
end
section
set_option autoImplicit false
/-! Plain law 3: the ends by the law's own search are the program's. -/
namespace CL
open PySem PySem.Spec PyProof.Rows L2 DL
open PySem.W (Datum Tup DatumOrd Holds HoldAll T3)
theorem sum_if {f : Str → Int} {t : Str} : ∀ {xs : List Str}, xs.Nodup → (xs.map fun n => f n + if n = t then 1 else 0).sum = (xs.map f).sum + if t ∈ xs then 1 else 0
  | [], _ => rfl
  | x :: xs, nd => by
    rw [List.nodup_cons] at nd
    rw [List.map_cons, List.sum_cons, List.map_cons, List.sum_cons, sum_if nd.2]
    by_cases e : x = t
    · subst e
      rw [if_pos rfl, if_neg nd.1, if_pos List.mem_cons_self]
      omega
    · rw [if_neg e]
      by_cases m : t ∈ xs
      · rw [if_pos m, if_pos (List.mem_cons_of_mem _ m)]
        omega
      · rw [if_neg m, if_neg (fun q => by
          rcases List.mem_cons.mp q with q | q
          · exact e q.symm
          · exact m q)]
        omega
theorem ld_more {R : Rules} {lot : Tup Int} (r : WR R) (h : WK R lot) (t : Str) {g : Tup Str} (hg : g ∈ R.2.items) : ld R (m_law_more R lot t) g = ld R lot g + if t ∈ g.items then 1 else 0 := by
  unfold ld
  rw [← sum_if (r.nd g hg)]
  rw [List.map_congr_left (g := fun n => val R lot n + if n = t then 1 else 0)]
  intro n hn
  exact more_val r h (r.gs g hg n hn)
theorem more_keeps {R : Rules} {L lot : Tup Int} (r : WR R) (h : WK R lot) {t : Str} (k : KeepsP R L lot) (ns : ¬ ShutP R L lot t) : KeepsP R L (m_law_more R lot t) := fun q hq => by
  rw [ld_more r h t (zip_fst hq)]
  by_cases m : t ∈ q.1.items
  · rw [if_pos m]
    have a : ¬ q.2 ≤ ld R lot q.1 := fun z => ns ⟨q, hq, m, z⟩
    omega
  · rw [if_neg m]
    have a := k q hq
    omega
theorem more_le {R : Rules} {lot : Tup Int} (r : WR R) (h : WK R lot) (t : Str) : LeL R lot (m_law_more R lot t) := fun n hn => by
  rw [more_val r h hn]
  split <;> omega
/-- what holds of the states -/
def JS (R : Rules) (L D : Tup Int) (s : Sta) : Prop := WK R s.1 ∧ WK R s.2 ∧ KeepsP R L s.1 ∧ ∀ n ∈ R.1.items, 0 ≤ val R s.1 n ∧ 0 ≤ val R s.2 n ∧ val R s.1 n + val R s.2 n ≤ val R D n ∧ (val R s.1 n + val R s.2 n < val R D n → ShutP R L s.1 n)
theorem nxt_J {R : Rules} {L D : Tup Int} {s s' : Sta} (r : WR R) (h : JS R L D s) (hs : s' ∈ nxt R L s) : JS R L D s' := by
  obtain ⟨h1, h2, h3, h4⟩ := h
  obtain ⟨t, ht, rfl⟩ := List.mem_map.mp hs
  have hpos := of_decide_eq_true (List.mem_filter.mp ht).2
  have htk := (List.mem_filter.mp ht).1
  cases e : m_law_shut R L s.1 t with
  | true =>
    have sp := (law_shut_iff r h1).mp e
    refine ⟨h1, lotOf_wk _ _, h3, fun n hn => ?_⟩
    have a := h4 n hn
    show 0 ≤ val R s.1 n ∧ 0 ≤ val R (lessL R s.2 t) n ∧ val R s.1 n + val R (lessL R s.2 t) n ≤ val R D n ∧ (val R s.1 n + val R (lessL R s.2 t) n < val R D n → ShutP R L s.1 n)
    rw [less_val hn]
    by_cases q : n = t
    · subst q
      rw [if_pos rfl]
      exact ⟨a.1, by omega, by omega, fun _ => sp⟩
    · rw [if_neg q]
      exact ⟨a.1, by omega, by omega, fun z => a.2.2.2 (by omega)⟩
  | false =>
    have ns : ¬ ShutP R L s.1 t := fun z => by rw [(law_shut_iff r h1).mpr z] at e; cases e
    refine ⟨more_wk r h1 t, lotOf_wk _ _, more_keeps r h1 h3 ns, fun n hn => ?_⟩
    have a := h4 n hn
    show 0 ≤ val R (m_law_more R s.1 t) n ∧ 0 ≤ val R (lessL R s.2 t) n ∧ val R (m_law_more R s.1 t) n + val R (lessL R s.2 t) n ≤ val R D n ∧ (val R (m_law_more R s.1 t) n + val R (lessL R s.2 t) n < val R D n → ShutP R L (m_law_more R s.1 t) n)
    rw [less_val hn, more_val r h1 hn]
    by_cases q : n = t
    · subst q
      rw [if_pos rfl]
      exact ⟨by omega, by omega, by omega, fun z => shut_mono r (more_le r h1 n) (a.2.2.2 (by omega))⟩
    · rw [if_neg q]
      exact ⟨by omega, by omega, by omega, fun z => shut_mono r (more_le r h1 t) (a.2.2.2 (by omega))⟩
def startS (R : Rules) (D : Tup Int) : Sta := (Tup.mk (List.replicate R.1.items.length (0 : Int)), D)
theorem start_J {R : Rules} {L D : Tup Int} (r : WR R) (h : WD R D) (lp : ∀ l ∈ L.items, 0 ≤ l) : JS R L D (startS R D) := by
  unfold startS
  rw [zeros_eq]
  refine ⟨lotOf_wk _ _, h.len, zeros_keep r lp, fun n hn => ?_⟩
  show 0 ≤ val R (lotOf R fun _ => 0) n ∧ 0 ≤ val R D n ∧ val R (lotOf R fun _ => 0) n + val R D n ≤ val R D n ∧ (val R (lotOf R fun _ => 0) n + val R D n < val R D n → _)
  rw [val_lotOf hn]
  have m : val R D n ∈ D.items := by
    rw [lot_items r h.len]
    exact List.mem_map.mpr ⟨n, hn, rfl⟩
  have a := h.lo _ m
  exact ⟨by omega, a, by omega, fun z => absurd z (by omega)⟩
/-- what holds of the search -/
structure EnK (R : Rules) (L D : Tup Int) (t : EnT) : Prop where
  j1 : ∀ s ∈ t.1, JS R L D s
  j2 : ∀ s ∈ t.2.1, JS R L D s
  st : startS R D ∈ t.1 ∨ startS R D ∈ t.2.1
  cl : ∀ s ∈ t.2.1, ∀ s' ∈ nxt R L s, s' ∈ t.1 ∨ s' ∈ t.2.1
  fo : ∀ l, l ∈ t.2.2 ↔ ∃ s ∈ t.2.1, s.1 = l ∧ s.2.items.sum = 0
  fn : t.2.2.Nodup
theorem last_or {t : EnT} (hg : g_law_ends t = true) {s : Sta} (h : s ∈ t.1) : s ∈ t.1.dropLast ∨ s = lastS t := by
  have a : t.1 ≠ [] := of_decide_eq_true hg
  have e : lastS t = t.1.getLast a := by
    unfold lastS
    rw [List.getLastD_eq_getLast?, List.getLast?_eq_some_getLast a]
    rfl
  have b := List.dropLast_concat_getLast a
  rw [← b] at h
  rcases List.mem_append.mp h with m | m
  · exact .inl m
  · exact .inr ((List.mem_singleton.mp m).trans e.symm)
theorem enk_step {R : Rules} {L D : Tup Int} {t : EnT} (r : WR R) (h : EnK R L D t) (hg : g_law_ends t = true) : EnK R L D (w_law_ends R L D t) := by
  have hl := h.j1 _ (last_mem hg)
  rw [w_eq r hl.2.1]
  by_cases q : lastS t ∈ t.2.1
  · rw [if_pos (decide_eq_true q)]
    have mv : ∀ s, s ∈ t.1 ∨ s ∈ t.2.1 → s ∈ t.1.dropLast ∨ s ∈ t.2.1 := fun s hs => by
      rcases hs with m | m
      · rcases last_or hg m with k | k
        · exact .inl k
        · exact .inr (k ▸ q)
      · exact .inr m
    exact ⟨fun s hs => h.j1 s ((List.dropLast_sublist _).subset hs), h.j2, mv _ h.st, fun s hs s' hs' => mv _ (h.cl s hs s' hs'), h.fo, h.fn⟩
  · rw [if_neg (by rw [decide_eq_true_iff]; exact q)]
    have mv : ∀ s, s ∈ t.1 ∨ s ∈ t.2.1 → s ∈ t.1.dropLast ++ nxt R L (lastS t) ∨ s ∈ t.2.1 ++ [lastS t] := fun s hs => by
      rcases hs with m | m
      · rcases last_or hg m with k | k
        · exact .inl (List.mem_append_left _ k)
        · exact .inr (List.mem_append_right _ (List.mem_singleton.mpr k))
      · exact .inr (List.mem_append_left _ m)
    have sm : ∀ s, s ∈ t.2.1 ++ [lastS t] ↔ s ∈ t.2.1 ∨ s = lastS t := fun s => by
      rw [List.mem_append, List.mem_singleton]
    refine ⟨fun s hs => ?_, fun s hs => ?_, mv _ h.st, fun s hs s' hs' => ?_, fun l => ?_, ?_⟩
    · rcases List.mem_append.mp hs with m | m
      · exact h.j1 s ((List.dropLast_sublist _).subset m)
      · exact nxt_J r hl m
    · rcases (sm s).mp hs with m | m
      · exact h.j2 s m
      · rw [m]; exact hl
    · rcases (sm s).mp hs with m | m
      · exact mv _ (h.cl s m s' hs')
      · rw [m] at hs'
        exact .inl (List.mem_append_right _ hs')
    · show l ∈ (if _ then _ else _) ↔ ∃ s ∈ t.2.1 ++ [lastS t], _
      by_cases z : (lastS t).2.items.sum = 0
      · by_cases k : (lastS t).1 ∈ t.2.2
        · rw [if_neg (by rw [Bool.and_eq_true, decide_eq_true_iff, decide_eq_true_iff]; exact fun x => x.2 k), h.fo]
          constructor
          · rintro ⟨s, hs, e⟩
            exact ⟨s, (sm s).mpr (.inl hs), e⟩
          · rintro ⟨s, hs, e1, e2⟩
            rcases (sm s).mp hs with m | m
            · exact ⟨s, m, e1, e2⟩
            · rw [m] at e1
              exact e1 ▸ (h.fo _).mp k
        · rw [if_pos (by rw [Bool.and_eq_true, decide_eq_true_iff, decide_eq_true_iff]; exact ⟨z, k⟩), List.mem_append, List.mem_singleton, h.fo]
          constructor
          · rintro (⟨s, hs, e⟩ | e)
            · exact ⟨s, (sm s).mpr (.inl hs), e⟩
            · exact ⟨lastS t, (sm _).mpr (.inr rfl), e.symm, z⟩
          · rintro ⟨s, hs, e1, e2⟩
            rcases (sm s).mp hs with m | m
            · exact .inl ⟨s, m, e1, e2⟩
            · rw [m] at e1
              exact .inr e1.symm
      · rw [if_neg (by rw [Bool.and_eq_true, decide_eq_true_iff, decide_eq_true_iff]; exact fun x => z x.1), h.fo]
        constructor
        · rintro ⟨s, hs, e⟩
          exact ⟨s, (sm s).mpr (.inl hs), e⟩
        · rintro ⟨s, hs, e1, e2⟩
          rcases (sm s).mp hs with m | m
          · exact ⟨s, m, e1, e2⟩
          · rw [m] at e2
            exact absurd e2 z
    · show (if _ then _ else _ : List (Tup Int)).Nodup
      split
      · rename_i k
        have k2 := of_decide_eq_true (Bool.and_eq_true _ _ ▸ k).2
        exact List.nodup_append.mpr ⟨h.fn, List.nodup_cons.mpr ⟨List.not_mem_nil, List.nodup_nil⟩, fun a ha b hb e => by
          rw [List.mem_singleton.mp hb] at e
          exact k2 (e ▸ ha)⟩
      · exact h.fn
abbrev enEnd (R : Rules) (L D : Tup Int) : EnT := runW (w_law_ends R L D) g_law_ends 60001 ([startS R D], ([] : List Sta), ([] : List (Tup Int)))
theorem enk_end {R : Rules} {L D : Tup Int} (r : WR R) (h : WD R D) (lp : ∀ l ∈ L.items, 0 ≤ l) : EnK R L D (enEnd R L D) ∧ (enEnd R L D).1 = [] := by
  have a := runW_ends (step := w_law_ends R L D) (go := g_law_ends) (I := fun t => EnI R t ∧ EnK R L D t) (m := enM) (fun t hI hg => ⟨⟨(en_step r hI.1 hg).1, enk_step r hI.2 hg⟩, (en_step (L := L) (D := D) r hI.1 hg).2⟩) 60000 ([startS R D], ([] : List Sta), ([] : List (Tup Int))) ⟨en_zero ⟨r, h⟩, fun s hs => by rw [List.mem_singleton.mp hs]; exact start_J r h lp, fun s hs => absurd hs List.not_mem_nil, .inl List.mem_cons_self, fun s hs => absurd hs List.not_mem_nil, fun l => ⟨fun hl => absurd hl List.not_mem_nil, fun hl => by obtain ⟨s, hs, _⟩ := hl; exact absurd hs List.not_mem_nil⟩, List.nodup_nil⟩ (by show 5 * (10000 - 0) + 1 ≤ 60000; decide)
  refine ⟨a.1.2, ?_⟩
  have b : ¬ (enEnd R L D).1 ≠ [] := of_decide_eq_false a.2
  exact Classical.not_not.mp b
theorem law_ends_srt (R : Rules) (L D : Tup Int) : m_law_ends R L D = srt (enEnd R L D).2.2 := rfl
end CL
end
section
set_option autoImplicit false
/-! Plain law 4: law_ends = all_ends; every lot grows to an end. -/
namespace CL
open PySem PySem.Spec PyProof.Rows L2 DL
open PySem.W (Datum Tup DatumOrd Holds HoldAll T3)
theorem sum_zero {f : Str → Int} : ∀ {xs : List Str}, (∀ x ∈ xs, 0 ≤ f x) → (xs.map f).sum = 0 → ∀ x ∈ xs, f x = 0
  | [], _, _ => fun x hx => absurd hx List.not_mem_nil
  | y :: xs, h, e => fun x hx => by
    rw [List.map_cons, List.sum_cons] at e
    have a := h y List.mem_cons_self
    have b := sum_nn (xs := xs) (fun z hz => h z (List.mem_cons_of_mem _ hz))
    rcases List.mem_cons.mp hx with q | m
    · rw [q]; omega
    · exact sum_zero (fun z hz => h z (List.mem_cons_of_mem _ hz)) (by omega) x m
theorem sum_eq0 {f : Str → Int} {xs : List Str} (h : ∀ x ∈ xs, f x = 0) : (xs.map f).sum = 0 := by
  induction xs with
  | nil => rfl
  | cons x xs ih => rw [List.map_cons, List.sum_cons, h x List.mem_cons_self, ih (fun y hy => h y (List.mem_cons_of_mem _ hy))]; rfl
/-- a kind of which there is less, or none -/
theorem find_lt (f g : Str → Int) : ∀ ks : List Str, (∃ n ∈ ks, f n < g n) ∨ ∀ n ∈ ks, g n ≤ f n
  | [] => .inr fun n hn => absurd hn List.not_mem_nil
  | k :: ks => by
    by_cases h : f k < g k
    · exact .inl ⟨k, List.mem_cons_self, h⟩
    · rcases find_lt f g ks with ⟨n, hn, q⟩ | q
      · exact .inl ⟨n, List.mem_cons_of_mem _ hn, q⟩
      · refine .inr fun n hn => ?_
        rcases List.mem_cons.mp hn with e | m
        · rw [e]; omega
        · exact q n m
theorem not_shut_below {R : Rules} {L a e : Tup Int} (r : WR R) (h : LeL R a e) (k : KeepsP R L e) {n : Str} (lt : val R a n < val R e n) : ¬ ShutP R L a n := by
  rintro ⟨q, hq, hn, hf⟩
  have b := ld_lt r h (zip_fst hq) hn lt
  have c := k q hq
  omega
theorem nxt_mem {R : Rules} {L : Tup Int} {s : Sta} {n : Str} (hn : n ∈ R.1.items) (h : 0 < val R s.2 n) : (if m_law_shut R L s.1 n = true then s.1 else m_law_more R s.1 n, lessL R s.2 n) ∈ nxt R L s :=
  List.mem_map.mpr ⟨n, List.mem_filter.mpr ⟨hn, decide_eq_true h⟩, rfl⟩
theorem path1 {R : Rules} {L D E : Tup Int} (r : WR R) (hE : EndP R L D E) {seen : List Sta} (cl : ∀ s ∈ seen, ∀ s' ∈ nxt R L s, s' ∈ seen) : ∀ (k : Nat) (l : Tup Int), WK R l → LeL R l E → (R.1.items.map fun n => val R E n - val R l n).sum ≤ (k : Int) →
    (l, lotOf R fun n => val R D n - val R l n) ∈ seen → (E, lotOf R fun n => val R D n - val R E n) ∈ seen := by
  intro k
  induction k with
  | zero =>
    intro l hl le hs hm
    have a := sum_zero (f := fun n => val R E n - val R l n) (xs := R.1.items) (fun n hn => by have b := le n hn; omega) (by
      have b := sum_nn (f := fun n => val R E n - val R l n) (xs := R.1.items) (fun n hn => by have b := le n hn; omega)
      omega)
    have e : l = E := lot_ext r hl hE.1.1.1 fun n hn => by have b := a n hn; omega
    rw [← e]
    exact hm
  | succ k ih =>
    intro l hl le hs hm
    rcases find_lt (val R l) (val R E) R.1.items with ⟨n, hn, lt⟩ | q
    · have ns : m_law_shut R L l n = false := by
        cases z : m_law_shut R L l n with
        | false => rfl
        | true => exact absurd ((law_shut_iff r hl).mp z) (not_shut_below r le hE.1.2 lt)
      have vD := (hE.1.1.2 n hn).2
      have vl : val R (lotOf R fun n => val R D n - val R l n) n = val R D n - val R l n := val_lotOf hn
      have m := nxt_mem (R := R) (L := L) (s := (l, lotOf R fun n => val R D n - val R l n)) hn (by show 0 < val R (lotOf R fun n => val R D n - val R l n) n; rw [vl]; omega)
      have e : (if m_law_shut R L l n = true then l else m_law_more R l n, lessL R (lotOf R fun n => val R D n - val R l n) n) = (m_law_more R l n, lotOf R fun m => val R D m - val R (m_law_more R l n) m) := by
        rw [ns, if_neg (by decide)]
        congr 1
        refine lotOf_congr fun m hm => ?_
        rw [val_lotOf hm, more_val r hl hm]
        split <;> omega
      have m2 := cl _ hm _ m
      rw [e] at m2
      refine ih _ (more_wk r hl n) (fun m hm => ?_) ?_ m2
      · rw [more_val r hl hm]
        have b := le m hm
        split
        · rename_i q; subst q; omega
        · omega
      · have c := sum_lt (f := fun m => val R E m - val R (m_law_more R l n) m) (g := fun m => val R E m - val R l m) (xs := R.1.items) (fun m hm => by rw [more_val r hl hm]; split <;> omega) ⟨n, hn, by rw [more_val r hl hn, if_pos rfl]; omega⟩
        omega
    · have e : l = E := lot_ext r hl hE.1.1.1 fun n hn => by have b := q n hn; have c := le n hn; omega
      rw [← e]
      exact hm
theorem path2 {R : Rules} {L D E : Tup Int} (r : WR R) (hE : EndP R L D E) {seen : List Sta} (cl : ∀ s ∈ seen, ∀ s' ∈ nxt R L s, s' ∈ seen) : ∀ (k : Nat) (d : Tup Int), WK R d → (∀ n ∈ R.1.items, 0 ≤ val R d n ∧ val R d n ≤ val R D n - val R E n) → (R.1.items.map (val R d)).sum ≤ (k : Int) →
    (E, d) ∈ seen → ∃ s ∈ seen, s.1 = E ∧ s.2.items.sum = 0 := by
  intro k
  induction k with
  | zero =>
    intro d hd hb hs hm
    have b := sum_nn (xs := R.1.items) (fun n hn => (hb n hn).1)
    exact ⟨_, hm, rfl, by show d.items.sum = 0; rw [sum_val r hd]; omega⟩
  | succ k ih =>
    intro d hd hb hs hm
    rcases find_lt (fun _ => 0) (val R d) R.1.items with ⟨n, hn, lt⟩ | q
    · have a := hb n hn
      have sp := hE.2 n hn (by omega)
      have m := nxt_mem (R := R) (L := L) (s := (E, d)) hn lt
      have e : (if m_law_shut R L E n = true then E else m_law_more R E n, lessL R d n) = (E, lessL R d n) := by
        rw [if_pos ((law_shut_iff r hE.1.1.1).mpr sp)]
      have m2 := cl _ hm _ m
      rw [e] at m2
      refine ih (lessL R d n) (lotOf_wk _ _) (fun m hm => ?_) ?_ m2
      · rw [less_val hm]
        have b := hb m hm
        split
        · rename_i q; subst q; omega
        · omega
      · have c := sum_lt (f := fun m => val R (lessL R d n) m) (g := fun m => val R d m) (xs := R.1.items) (fun m hm => by rw [less_val hm]; split <;> omega) ⟨n, hn, by rw [less_val hn, if_pos rfl]; omega⟩
        have c2 : (R.1.items.map (val R (lessL R d n))).sum < (R.1.items.map (val R d)).sum := c
        omega
    · refine ⟨_, hm, rfl, ?_⟩
      show d.items.sum = 0
      rw [sum_val r hd]
      exact sum_eq0 fun n hn => by have a := hb n hn; have b := q n hn; omega
theorem law_ends_mem {R : Rules} {L D lot : Tup Int} (r : WR R) (h : WD R D) (lp : ∀ l ∈ L.items, 0 ≤ l) : lot ∈ m_law_ends R L D ↔ EndP R L D lot := by
  rw [law_ends_srt, mem_srt]
  obtain ⟨K, e0⟩ := enk_end r h lp
  rw [K.fo]
  constructor
  · rintro ⟨s, hs, rfl, z⟩
    obtain ⟨h1, h2, h3, h4⟩ := K.j2 s hs
    rw [sum_val r h2] at z
    have a := sum_zero (fun n hn => (h4 n hn).2.1) z
    refine ⟨⟨⟨h1, fun n hn => ?_⟩, h3⟩, fun n hn lt => ?_⟩
    · have b := h4 n hn
      have c := a n hn
      omega
    · have b := h4 n hn
      have c := a n hn
      exact b.2.2.2 (by omega)
  · intro hE
    have cl : ∀ s ∈ (enEnd R L D).2.1, ∀ s' ∈ nxt R L s, s' ∈ (enEnd R L D).2.1 := fun s hs s' hs' => by
      rcases K.cl s hs s' hs' with m | m
      · rw [e0] at m; exact absurd m List.not_mem_nil
      · exact m
    have st : startS R D ∈ (enEnd R L D).2.1 := by
      rcases K.st with m | m
      · rw [e0] at m; exact absurd m List.not_mem_nil
      · exact m
    have e : startS R D = (lotOf R (fun _ => 0), lotOf R fun n => val R D n - val R (lotOf R fun _ => 0) n) := by
      unfold startS
      rw [zeros_eq]
      congr 1
      refine (lot_eq r h.len).trans (lotOf_congr fun n hn => ?_)
      rw [val_lotOf hn]
      omega
    rw [e] at st
    have p1 := path1 r hE cl ((R.1.items.map fun n => val R lot n - val R (lotOf R fun _ => 0) n).sum.toNat) (lotOf R fun _ => 0) (lotOf_wk _ _) (fun n hn => by rw [val_lotOf hn]; exact (hE.1.1.2 n hn).1) (by omega) st
    have bd : ∀ n ∈ R.1.items, 0 ≤ val R (lotOf R fun n => val R D n - val R lot n) n ∧ val R (lotOf R fun n => val R D n - val R lot n) n ≤ val R D n - val R lot n := fun n hn => by
      rw [val_lotOf hn]
      have a := hE.1.1.2 n hn
      omega
    exact path2 r hE cl _ _ (lotOf_wk _ _) bd (Int.self_le_toNat _) p1
theorem law_ends_asc {R : Rules} {L D : Tup Int} (r : WR R) (h : WD R D) (lp : ∀ l ∈ L.items, 0 ≤ l) : Asc (m_law_ends R L D) := by
  rw [law_ends_srt]
  exact srt_asc (enk_end r h lp).1.fn
theorem ends_same {R : Rules} {L D : Tup Int} (r : WR R) (h : WD R D) (lp : ∀ l ∈ L.items, 0 ≤ l) : m_all_ends R L D = m_law_ends R L D :=
  asc_eq _ _ (all_ends_asc r h lp) (law_ends_asc r h lp) fun k => by rw [all_ends_mem r h lp, law_ends_mem r h lp]
/-- every lot that keeps grows to an end -/
theorem grow {R : Rules} {L D : Tup Int} (r : WR R) : ∀ (k : Nat) (l : Tup Int), KLot R L D l → (R.1.items.map fun n => val R D n - val R l n).sum ≤ (k : Int) → ∃ e, EndP R L D e ∧ LeL R l e := by
  intro k
  induction k with
  | zero =>
    intro l hl hs
    have a := sum_zero (f := fun n => val R D n - val R l n) (xs := R.1.items) (fun n hn => by have b := (hl.1.2 n hn).2; omega) (by
      have b := sum_nn (f := fun n => val R D n - val R l n) (xs := R.1.items) (fun n hn => by have b := (hl.1.2 n hn).2; omega)
      omega)
    exact ⟨l, ⟨hl, fun n hn lt => by have b := a n hn; omega⟩, fun n _ => Int.le_refl _⟩
  | succ k ih =>
    intro l hl hs
    by_cases q : ∃ n ∈ R.1.items, val R l n < val R D n ∧ ¬ ShutP R L l n
    · obtain ⟨n, hn, lt, ns⟩ := q
      have w := hl.1.1
      obtain ⟨e, he, le⟩ := ih (m_law_more R l n) ⟨⟨more_wk r w n, fun m hm => by
        rw [more_val r w hm]
        have b := hl.1.2 m hm
        split
        · rename_i z; subst z; omega
        · omega⟩, more_keeps r w hl.2 ns⟩ (by
        have c := sum_lt (f := fun m => val R D m - val R (m_law_more R l n) m) (g := fun m => val R D m - val R l m) (xs := R.1.items) (fun m hm => by rw [more_val r w hm]; split <;> omega) ⟨n, hn, by rw [more_val r w hn, if_pos rfl]; omega⟩
        omega)
      exact ⟨e, he, fun m hm => Int.le_trans (more_le r w n m hm) (le m hm)⟩
    · exact ⟨l, ⟨hl, fun n hn lt => Classical.byContradiction fun ns => q ⟨n, hn, lt, ns⟩⟩, fun n _ => Int.le_refl _⟩
theorem grows {R : Rules} {L D l : Tup Int} (r : WR R) (h : KLot R L D l) : ∃ e, EndP R L D e ∧ LeL R l e := grow r _ l h (Int.self_le_toNat _)
theorem zero_lot {R : Rules} {L D : Tup Int} (r : WR R) (h : WD R D) (lp : ∀ l ∈ L.items, 0 ≤ l) : KLot R L D (lotOf R fun _ => 0) := ⟨⟨lotOf_wk _ _, fun n hn => by
  rw [val_lotOf hn]
  have m : val R D n ∈ D.items := by
    rw [lot_items r h.len]
    exact List.mem_map.mpr ⟨n, hn, rfl⟩
  exact ⟨Int.le_refl _, h.lo _ m⟩⟩, zeros_keep r lp⟩
end CL
end
section
set_option autoImplicit false
/-! Plain law 5: rows served. -/
namespace CL
open PySem PySem.Spec PyProof.Rows L2 DL
open PySem.W (Datum Tup DatumOrd Holds HoldAll T3)
theorem fold_rel {α σ τ : Type} {f : σ → α → σ} {g : τ → α → τ} {Q : σ → τ → Prop} : ∀ (xs : List α) (s : σ) (t : τ), (∀ s t x, x ∈ xs → Q s t → Q (f s x) (g t x)) → Q s t → Q (xs.foldl f s) (xs.foldl g t)
  | [], s, t, _, h => h
  | x :: xs, s, t, hs, h => fold_rel xs (f s x) (g t x) (fun s t y hy => hs s t y (List.mem_cons_of_mem _ hy)) (hs s t x List.mem_cons_self h)
theorem fold_set (m : Int) : ∀ (ps room : List Int), ps.Nodup → (∀ p ∈ ps, 0 ≤ p) → ∀ i : Nat, (ps.foldl (fun t p => t.set p.toNat (t.getD p.toNat 0 - m)) room)[i]? = room[i]?.map fun v => if (i : Int) ∈ ps then v - m else v
  | [], room, _, _, i => by
    show room[i]? = _
    cases room[i]? <;> simp
  | p :: ps, room, nd, h0, i => by
    rw [List.nodup_cons] at nd
    rw [List.foldl_cons, fold_set m ps _ nd.2 (fun q hq => h0 q (List.mem_cons_of_mem _ hq)), List.getElem?_set]
    have p0 := h0 p List.mem_cons_self
    by_cases e : p.toNat = i
    · have e2 : p = (i : Int) := by omega
      rw [if_pos e]
      subst e2
      by_cases hl : i < room.length
      · rw [if_pos (by omega), List.getElem?_eq_getElem hl]
        show some (if (i : Int) ∈ ps then room.getD (i : Int).toNat 0 - m - m else room.getD (i : Int).toNat 0 - m) = some (if (i : Int) ∈ (i : Int) :: ps then room[i] - m else room[i])
        rw [if_neg nd.1, if_pos List.mem_cons_self, List.getD_eq_getElem?_getD, Int.toNat_natCast, List.getElem?_eq_getElem hl]
        rfl
      · rw [if_neg (by omega), List.getElem?_eq_none (by omega)]
        rfl
    · rw [if_neg e]
      have ne : (i : Int) ≠ p := fun q => e (by omega)
      cases room[i]? with
      | none => rfl
      | some v =>
        show some (if (i : Int) ∈ ps then _ else _) = some (if (i : Int) ∈ p :: ps then _ else _)
        congr 1
        by_cases q : (i : Int) ∈ ps
        · rw [if_pos q, if_pos (List.mem_cons_of_mem _ q)]
        · rw [if_neg q, if_neg (fun z => by
            rcases List.mem_cons.mp z with z | z
            · exact ne z
            · exact q z)]
abbrev plc (R : Rules) (u : Str) : List Int := ((enumL R.2.items).filter fun x1 => (decide (u ∈ x1.2.items))).map fun x1 => x1.1
theorem enumL_get (gs : List (Tup Str)) (i : Nat) : (enumL gs)[i]? = gs[i]?.map fun g => ((i : Int), g) := by
  unfold enumL
  rw [List.getElem?_map, List.getElem?_zipIdx]
  cases gs[i]? with
  | none => rfl
  | some g =>
    show some (((0 + i : Nat) : Int), g) = some ((i : Int), g)
    rw [Nat.zero_add]
theorem plc_mem {R : Rules} {u : Str} {p : Int} : p ∈ plc R u ↔ ∃ (i : Nat) (g : Tup Str), p = (i : Int) ∧ R.2.items[i]? = some g ∧ u ∈ g.items := by
  constructor
  · intro h
    obtain ⟨z, hz, rfl⟩ := List.mem_map.mp h
    obtain ⟨h1, h2⟩ := List.mem_filter.mp hz
    obtain ⟨i, hi⟩ := List.mem_iff_getElem?.mp h1
    rw [enumL_get] at hi
    obtain ⟨g, hg, rfl⟩ := Option.map_eq_some_iff.mp hi
    exact ⟨i, g, rfl, hg, of_decide_eq_true h2⟩
  · rintro ⟨i, g, rfl, hg, hu⟩
    refine List.mem_map.mpr ⟨((i : Int), g), List.mem_filter.mpr ⟨List.mem_iff_getElem?.mpr ⟨i, ?_⟩, decide_eq_true hu⟩, rfl⟩
    rw [enumL_get, hg]
    rfl
theorem plc_nodup (R : Rules) (u : Str) : (plc R u).Nodup := by
  have e : (enumL R.2.items).map (fun x1 => x1.1) = rangeI R.2.items.length := by
    apply List.ext_getElem?
    intro i
    rw [List.getElem?_map, enumL_get]
    unfold rangeI
    rw [List.getElem?_map]
    by_cases h : i < R.2.items.length
    · rw [List.getElem?_eq_getElem h, List.getElem?_range h]
      rfl
    · rw [List.getElem?_eq_none (by omega), List.getElem?_eq_none (by rw [List.length_range]; omega)]
      rfl
  have n : (rangeI R.2.items.length).Nodup := (rangeI_asc _).imp fun {a b} h => by omega
  rw [← e] at n
  exact List.Nodup.sublist (List.Sublist.map _ List.filter_sublist) n
theorem plc_nn {R : Rules} {u : Str} : ∀ p ∈ plc R u, 0 ≤ p := fun p hp => by
  obtain ⟨i, g, e, _⟩ := plc_mem.mp hp
  omega
/-- what is left in each group -/
def roomL (R : Rules) (L lot : Tup Int) : List Int := (R.2.items.zip L.items).map fun q => q.2 - ld R lot q.1
theorem room_get {R : Rules} {L lot : Tup Int} (wg : WG R L) {i : Nat} {g : Tup Str} (hg : R.2.items[i]? = some g) : ∃ l, L.items[i]? = some l ∧ (g, l) ∈ R.2.items.zip L.items ∧ (roomL R L lot)[i]? = some (l - ld R lot g) := by
  have hi := (List.getElem?_eq_some_iff.mp hg).1
  unfold WG at wg
  have hl : L.items[i]? = some (L.items[i]'(by omega)) := List.getElem?_eq_getElem (by omega)
  have hz : (R.2.items.zip L.items)[i]? = some (g, L.items[i]'(by omega)) := List.getElem?_zip_eq_some.mpr ⟨hg, hl⟩
  refine ⟨_, hl, List.mem_of_getElem? hz, ?_⟩
  unfold roomL
  rw [List.getElem?_map, hz]
  rfl
theorem open_iff {R : Rules} {L lot : Tup Int} (wg : WG R L) {u : Str} : ((plc R u).map fun x2 => decide ((0 : Int) < ((roomL R L lot).getD x2.toNat (0 : Int)))).all id = true ↔ ¬ ShutP R L lot u := by
  rw [List.all_eq_true]
  constructor
  · rintro a ⟨q, hq, hu, hf⟩
    obtain ⟨i, hi⟩ := List.mem_iff_getElem?.mp hq
    obtain ⟨g, l⟩ := q
    rw [List.getElem?_zip_eq_some] at hi
    obtain ⟨l2, e1, _, e2⟩ := room_get (lot := lot) wg hi.1
    have b := a _ (List.mem_map.mpr ⟨(i : Int), plc_mem.mpr ⟨i, g, rfl, hi.1, hu⟩, rfl⟩)
    have c : (0 : Int) < (roomL R L lot).getD (i : Int).toNat 0 := of_decide_eq_true b
    rw [Int.toNat_natCast, List.getD_eq_getElem?_getD, e2] at c
    have e3 : l2 = l := Option.some.inj (e1.symm.trans hi.2)
    have c2 : 0 < l2 - ld R lot g := c
    have hf2 : l ≤ ld R lot g := hf
    omega
  · intro ns x hx
    obtain ⟨p, hp, rfl⟩ := List.mem_map.mp hx
    obtain ⟨i, g, rfl, hg, hu⟩ := plc_mem.mp hp
    obtain ⟨l, e1, e2, e3⟩ := room_get (lot := lot) wg hg
    show decide ((0 : Int) < (roomL R L lot).getD (i : Int).toNat 0) = true
    rw [decide_eq_true_iff, Int.toNat_natCast, List.getD_eq_getElem?_getD, e3]
    show 0 < l - ld R lot g
    have a : ¬ l ≤ ld R lot g := fun z => ns ⟨(g, l), e2, hu, z⟩
    omega
theorem room_next {R : Rules} {L lot lot' : Tup Int} (wg : WG R L) {u : Str} {m : Int} (h : ∀ g ∈ R.2.items, ld R lot' g = ld R lot g + if u ∈ g.items then m else 0) : (plc R u).foldl (fun t p => t.set p.toNat (t.getD p.toNat 0 - m)) (roomL R L lot) = roomL R L lot' := by
  apply List.ext_getElem?
  intro i
  rw [fold_set m _ _ (plc_nodup R u) plc_nn]
  by_cases hi : i < R.2.items.length
  · have hg : R.2.items[i]? = some R.2.items[i] := List.getElem?_eq_getElem hi
    obtain ⟨l, e1, _, e3⟩ := room_get (lot := lot) wg hg
    obtain ⟨l2, e4, _, e6⟩ := room_get (lot := lot') wg hg
    have e7 : l2 = l := Option.some.inj (e4.symm.trans e1)
    rw [e3, e6, e7, h _ (List.getElem_mem hi)]
    show some (if (i : Int) ∈ plc R u then _ else _) = some _
    by_cases q : u ∈ R.2.items[i].items
    · rw [if_pos q, if_pos (plc_mem.mpr ⟨i, _, rfl, hg, q⟩)]
      congr 1
      omega
    · rw [if_neg q, if_neg (fun z => by
        obtain ⟨j, g, ej, hj, hu⟩ := plc_mem.mp z
        have e8 : i = j := by omega
        subst e8
        rw [hg] at hj
        cases hj
        exact q hu)]
      congr 1
      omega
  · have len : ∀ lot, (roomL R L lot).length ≤ R.2.items.length := fun lot => by
      unfold roomL
      rw [List.length_map, List.length_zip]
      omega
    rw [List.getElem?_eq_none (by have a := len lot; omega), List.getElem?_eq_none (by have a := len lot'; omega)]
    rfl
end CL
end
section
set_option autoImplicit false
/-! Plain law 6: rows served, by the program and by the law. -/
namespace CL
open PySem PySem.Spec PyProof.Rows L2 DL
open PySem.W (Datum Tup DatumOrd Holds HoldAll T3)
theorem last_app (xs : List Bool) (b : Bool) : (xs ++ [b]).getLastD false = b := by simp
theorem ld_same {R : Rules} {lot : Tup Int} {u : Str} : ∀ g ∈ R.2.items, ld R lot g = ld R lot g + if u ∈ g.items then 0 else 0 := fun g _ => by split <;> omega
abbrev svStep (R : Rules) (L : Tup Int) (t1 : Tup Int × List Bool) (u1 : Str) : Tup Int × List Bool := ((if ((t1.2 ++ [(!(m_law_shut R L t1.1 u1))]).getLastD false) = true then (m_law_more R t1.1 u1) else t1.1), (t1.2 ++ [(!(m_law_shut R L t1.1 u1))]))
abbrev ogStep (R : Rules) (t1 : List Int × List Bool) (u1 : Str) : List Int × List Bool := ((plc R u1).foldl (fun (t2 : List Int) u2 => (t2.set u2.toNat ((t2.getD u2.toNat (0 : Int)) - (if ((t1.2 ++ [(((plc R u1).map fun x2 => (decide ((0 : Int) < (t1.1.getD x2.toNat (0 : Int))))).all id)]).getLastD false) = true then 1 else 0 : Int)))) t1.1, (t1.2 ++ [(((plc R u1).map fun x2 => (decide ((0 : Int) < (t1.1.getD x2.toNat (0 : Int))))).all id)]))
abbrev sv0 (R : Rules) : Tup Int × List Bool := (Tup.mk (List.replicate R.1.items.length (0 : Int)), ([] : List Bool))
theorem sv_eq (R : Rules) (L : Tup Int) (row : Tup Str) : m_law_served R L row = (Tup.mk (row.items.foldl (svStep R L) (sv0 R)).2, (row.items.foldl (svStep R L) (sv0 R)).1) := rfl
theorem og_eq (R : Rules) (L : Tup Int) (row : Tup Str) : (m_open_groups R L row).1 = Tup.mk (row.items.foldl (ogStep R) (L.items, ([] : List Bool))).2 := rfl
theorem mark_eq {R : Rules} {L lot : Tup Int} (r : WR R) (wg : WG R L) (w : WK R lot) (u : Str) : (((plc R u).map fun x2 => decide ((0 : Int) < ((roomL R L lot).getD x2.toNat (0 : Int)))).all id) = !(m_law_shut R L lot u) := by
  rw [Bool.eq_iff_iff, open_iff wg, Bool.not_eq_true', ← Bool.not_eq_true, law_shut_iff r w]
def OgQ (R : Rules) (L : Tup Int) (s : List Int × List Bool) (t : Tup Int × List Bool) : Prop := s.1 = roomL R L t.1 ∧ s.2 = t.2 ∧ WK R t.1
theorem og_step {R : Rules} {L : Tup Int} (r : WR R) (wg : WG R L) {s : List Int × List Bool} {t : Tup Int × List Bool} {u : Str} (h : OgQ R L s t) : OgQ R L (ogStep R s u) (svStep R L t u) := by
  obtain ⟨h1, h2, h3⟩ := h
  obtain ⟨s1, s2⟩ := s
  obtain ⟨t1, t2⟩ := t
  have h1' : s1 = roomL R L t1 := h1
  have h2' : s2 = t2 := h2
  subst h1' h2'
  have m := mark_eq (L := L) r wg h3 u
  unfold OgQ ogStep svStep
  simp only [m, last_app]
  cases e : m_law_shut R L t1 u with
  | true =>
    refine ⟨?_, by trivial, h3⟩
    show (plc R u).foldl (fun t p => t.set p.toNat (t.getD p.toNat 0 - 0)) (roomL R L t1) = roomL R L t1
    exact room_next wg ld_same
  | false =>
    refine ⟨?_, by trivial, more_wk r h3 u⟩
    show (plc R u).foldl (fun t p => t.set p.toNat (t.getD p.toNat 0 - 1)) (roomL R L t1) = roomL R L (m_law_more R t1 u)
    exact room_next wg fun g hg => ld_more r h3 u hg
theorem room_zero {R : Rules} {L : Tup Int} (r : WR R) (wg : WG R L) : L.items = roomL R L (lotOf R fun _ => 0) := by
  unfold roomL
  have e : ∀ q ∈ R.2.items.zip L.items, q.2 - ld R (lotOf R fun _ => 0) q.1 = q.2 := fun q hq => by
    have a : ld R (lotOf R fun _ => 0) q.1 = 0 := sum_eq0 fun n hn => val_lotOf (r.gs _ (zip_fst hq) n hn)
    omega
  rw [List.map_congr_left e]
  unfold WG at wg
  have go : ∀ (gs : List (Tup Str)) (ls : List Int), ls.length = gs.length → ls = (gs.zip ls).map fun q => q.2 := by
    intro gs
    induction gs with
    | nil =>
      intro ls h
      cases ls with
      | nil => rfl
      | cons l ls => cases h
    | cons g gs ih =>
      intro ls h
      cases ls with
      | nil => cases h
      | cons l ls =>
        rw [List.zip_cons_cons, List.map_cons, ← ih ls (by simpa using h)]
  exact go _ _ wg
theorem served_same {R : Rules} {L : Tup Int} {row : Tup Str} (r : WR R) (wg : WG R L) : m_served R L row = (m_law_served R L row).1 := by
  show (m_open_groups R L row).1 = _
  rw [og_eq, sv_eq]
  have a := fold_rel (f := ogStep R) (g := svStep R L) (Q := OgQ R L) row.items (L.items, ([] : List Bool)) (sv0 R) (fun s t x _ h => og_step r wg h) ⟨by show L.items = roomL R L (Tup.mk _); rw [zeros_eq]; exact room_zero r wg, rfl, by show WK R (Tup.mk _); rw [zeros_eq]; exact lotOf_wk _ _⟩
  exact congrArg Tup.mk a.2.1
def cnt (row : List Str) (marks : List Bool) (k : Str) : Int := (((row.zip marks).filter fun x => decide (x.1 = k)).map fun x => (if x.2 = true then 1 else 0 : Int)).sum
theorem cnt_app {row : List Str} {marks : List Bool} (h : row.length = marks.length) (u : Str) (b : Bool) (k : Str) : cnt (row ++ [u]) (marks ++ [b]) k = cnt row marks k + if u = k then (if b = true then 1 else 0) else 0 := by
  unfold cnt
  rw [List.zip_append h, List.filter_append, List.map_append, List.sum_append]
  congr 1
  show (((([(u, b)] : List (Str × Bool)).filter fun x => decide (x.1 = k)).map fun x => (if x.2 = true then 1 else 0 : Int)).sum) = _
  by_cases e : u = k
  · rw [List.filter_cons_of_pos (by simpa using e), if_pos e]
    show (if b = true then 1 else 0 : Int) + 0 = _
    omega
  · rw [List.filter_cons_of_neg (by simpa using e), if_neg e]
    rfl
def CntI (R : Rules) (row : List Str) (i : Nat) (t : Tup Int × List Bool) : Prop := WK R t.1 ∧ t.2.length = i ∧ ∀ k ∈ R.1.items, val R t.1 k = cnt (row.take i) t.2 k
theorem cnt_end {R : Rules} {L : Tup Int} (r : WR R) (row : List Str) : CntI R row row.length (row.foldl (svStep R L) (sv0 R)) := by
  refine fold_inv (I := CntI R row) row ⟨by show WK R (Tup.mk _); rw [zeros_eq]; exact lotOf_wk _ _, rfl, fun k hk => ?_⟩ (fun i t u hu hI => ?_)
  · show val R (Tup.mk _) k = 0
    rw [zeros_eq, val_lotOf hk]
  · obtain ⟨h1, h2, h3⟩ := hI
    have hi := (List.getElem?_eq_some_iff.mp hu).1
    have tk : row.take (i + 1) = row.take i ++ [u] := by
      rw [List.take_succ, hu]
      rfl
    refine ⟨?_, ?_, fun k hk => ?_⟩
    · show WK R (if _ then _ else _)
      rw [last_app]
      split
      · exact more_wk r h1 u
      · exact h1
    · show (t.2 ++ [_]).length = i + 1
      rw [List.length_append, h2]
      rfl
    · rw [tk]
      show val R (if _ then _ else _) k = cnt (row.take i ++ [u]) (t.2 ++ [_]) k
      rw [cnt_app (by rw [List.length_take, h2]; omega), ← h3 k hk, last_app]
      cases m_law_shut R L t.1 u with
      | true =>
        show val R t.1 k = _
        split <;> simp
      | false =>
        show val R (m_law_more R t.1 u) k = _
        rw [more_val r h1 hk]
        by_cases e : k = u
        · subst e
          rw [if_pos rfl, if_pos rfl]
          rfl
        · rw [if_neg e, if_neg (fun q => e q.symm)]
theorem served_wk {R : Rules} {L : Tup Int} {row : Tup Str} (r : WR R) : WK R (m_law_served R L row).2 := (cnt_end (L := L) r row.items).1
theorem end_of_same {R : Rules} {L : Tup Int} {row : Tup Str} (r : WR R) (wg : WG R L) : m_end_of R L row = (m_law_served R L row).2 := by
  have a := cnt_end (L := L) r row.items
  have e : m_end_of R L row = lotOf R fun k => cnt row.items (m_served R L row).items k := rfl
  rw [e, served_same r wg, lot_eq r (served_wk (L := L) (row := row) r)]
  refine lotOf_congr fun k hk => ?_
  have b := a.2.2 k hk
  rw [List.take_length] at b
  exact b.symm
end CL
end
section
set_option autoImplicit false
/-! Plain law 7: the least and the most of a kind. -/
namespace CL
open PySem PySem.Spec PyProof.Rows L2 DL
open PySem.W (Datum Tup DatumOrd Holds HoldAll T3)
theorem barring_mem {R : Rules} {L D : Tup Int} (r : WR R) (h : WD R D) (lp : ∀ l ∈ L.items, 0 ≤ l) {n : Str} {x : Int × Tup Int} : x ∈ m_barring_lots R L D n ↔ ∃ lot, KLot R L D lot ∧ val R lot n < val R D n ∧ ShutP R L lot n ∧ x = (val R lot n, lot) := by
  have e : m_barring_lots R L D n = srt ([] ++ ((m_all_lots R L D).filter fun u1 => ((decide ((m_demand_of R u1 n) < (m_demand_of R D n))) && (m_is_barred_by R L u1 n))).map fun u1 => ((m_demand_of R u1 n), u1)) := by
    rw [← fold_if]
    rfl
  rw [e, mem_srt, List.nil_append]
  constructor
  · intro hx
    obtain ⟨lot, hl, rfl⟩ := List.mem_map.mp hx
    obtain ⟨h1, h2⟩ := List.mem_filter.mp hl
    rw [Bool.and_eq_true, decide_eq_true_iff, barred_iff] at h2
    exact ⟨lot, (all_lots_mem r h lp).mp h1, h2.1, h2.2, rfl⟩
  · rintro ⟨lot, h1, h2, h3, rfl⟩
    refine List.mem_map.mpr ⟨lot, List.mem_filter.mpr ⟨(all_lots_mem r h lp).mpr h1, ?_⟩, rfl⟩
    rw [Bool.and_eq_true, decide_eq_true_iff, barred_iff]
    exact ⟨h2, h3⟩
theorem pair_lt {x y : Int × Tup Int} (h : DatumOrd.lt x y = false) : y.1 ≤ x.1 := by
  have h2 : (if x.1 = y.1 then DatumOrd.lt x.2 y.2 else decide (x.1 < y.1)) = false := h
  by_cases e : x.1 = y.1
  · omega
  · rw [if_neg e] at h2
    have a := of_decide_eq_false h2
    omega
/-- a barring lot grows to an end with as many of the kind -/
theorem barred_end {R : Rules} {L D lot e : Tup Int} (r : WR R) (he : EndP R L D e) (le : LeL R lot e) {n : Str} (hn : n ∈ R.1.items) (sp : ShutP R L lot n) : val R e n = val R lot n := by
  have a := le n hn
  by_cases lt : val R lot n < val R e n
  · exact absurd sp (not_shut_below r le he.1.2 lt)
  · omega
theorem sure_is {R : Rules} {L D : Tup Int} (r : WR R) (h : WD R D) (lp : ∀ l ∈ L.items, 0 ≤ l) {n : Str} (hn : n ∈ R.1.items) : (∃ e, EndP R L D e ∧ val R e n = m_sure_in R L D n) ∧ ∀ e, EndP R L D e → m_sure_in R L D n ≤ val R e n := by
  have d : m_sure_in R L D n = (if (decide ((0 : Int) < ((m_barring_lots R L D n).length : Int))) = true then ((m_barring_lots R L D n).getD 0 ((0 : Int), (Tup.mk ([] : List Int)))).1 else val R D n) := rfl
  rw [d]
  cases q : m_barring_lots R L D n with
  | nil =>
    rw [if_neg (by decide)]
    have all : ∀ e, EndP R L D e → val R e n = val R D n := fun e he => by
      by_cases lt : val R e n < val R D n
      · have m : (val R e n, e) ∈ m_barring_lots R L D n := (barring_mem r h lp).mpr ⟨e, he.1, lt, he.2 n hn lt, rfl⟩
        rw [q] at m
        exact absurd m List.not_mem_nil
      · have a := (he.1.1.2 n hn).2
        omega
    obtain ⟨e, he, _⟩ := grows r (zero_lot r h lp)
    exact ⟨⟨e, he, all e he⟩, fun e he => by rw [all e he]; exact Int.le_refl _⟩
  | cons y ys =>
    rw [if_pos (decide_eq_true (by rw [List.length_cons]; omega))]
    show (∃ e, EndP R L D e ∧ val R e n = y.1) ∧ ∀ e, EndP R L D e → y.1 ≤ val R e n
    have hy : y ∈ m_barring_lots R L D n := by rw [q]; exact List.mem_cons_self
    obtain ⟨lot, h1, h2, h3, ey⟩ := (barring_mem r h lp).mp hy
    have least : ∀ x ∈ m_barring_lots R L D n, y.1 ≤ x.1 := fun x hx => by
      obtain ⟨zs, hz⟩ : ∃ zs, m_barring_lots R L D n = srt zs := ⟨_, rfl⟩
      rw [hz] at q hx
      exact pair_lt ((srt_head q).2 x (mem_srt.mp hx))
    obtain ⟨e, he, le⟩ := grows r h1
    refine ⟨⟨e, he, ?_⟩, fun e2 he2 => ?_⟩
    · rw [barred_end r he le hn h3, ey]
    · by_cases lt : val R e2 n < val R D n
      · exact least (val R e2 n, e2) ((barring_mem r h lp).mpr ⟨e2, he2.1, lt, he2.2 n hn lt, rfl⟩)
      · have a := (he2.1.1.2 n hn).2
        have b : y.1 = val R lot n := by rw [ey]
        omega
theorem get_zip {gs : List (Tup Str)} {ls : List Int} {g : Tup Str} (hg : g ∈ gs) (hl : ls.length = gs.length) : (g, ls.getD (gs.idxOf g) 0) ∈ gs.zip ls := by
  have hi := List.idxOf_lt_length_iff.mpr hg
  refine List.mem_of_getElem? (i := gs.idxOf g) (List.getElem?_zip_eq_some.mpr ⟨?_, ?_⟩)
  · rw [List.getElem?_eq_getElem hi, List.getElem_idxOf hi]
  · rw [List.getD_eq_getElem?_getD, List.getElem?_eq_getElem (by omega)]
    rfl
theorem zip_get : ∀ {gs : List (Tup Str)} {ls : List Int} {g : Tup Str} {l : Int}, gs.Nodup → (g, l) ∈ gs.zip ls → ls.getD (gs.idxOf g) 0 = l
  | [], _, _, _, _, h => by simp at h
  | _ :: _, [], _, _, _, h => by simp at h
  | a :: gs, b :: ls, g, l, nd, h => by
    rw [List.nodup_cons] at nd
    rw [List.zip_cons_cons] at h
    rw [List.idxOf_cons]
    rcases List.mem_cons.mp h with e | m
    · cases e
      simp
    · have ne : ¬ a = g := fun q => nd.1 (by rw [q]; exact zip_fst m)
      have ne2 : (a == g) = false := by simpa using ne
      rw [ne2]
      exact zip_get nd.2 m
theorem ld_one {R : Rules} {n : Str} {m : Int} (r : WR R) {g : Tup Str} (hg : g ∈ R.2.items) : ld R (lotOf R fun x => if x = n then m else 0) g = if n ∈ g.items then m else 0 := by
  unfold ld
  rw [List.map_congr_left (g := fun x => if x = n then m else 0) (fun x hx => val_lotOf (r.gs g hg x hx))]
  have go : ∀ xs : List Str, xs.Nodup → (xs.map fun x => if x = n then m else 0).sum = if n ∈ xs then m else 0 := by
    intro xs
    induction xs with
    | nil => intro _; rfl
    | cons x xs ih =>
      intro nd
      rw [List.nodup_cons] at nd
      rw [List.map_cons, List.sum_cons, ih nd.2]
      by_cases z : x = n
      · subst z
        rw [if_pos rfl, if_neg nd.1, if_pos List.mem_cons_self]
        omega
      · rw [if_neg z]
        by_cases q : n ∈ xs
        · rw [if_pos q, if_pos (List.mem_cons_of_mem _ q)]
          omega
        · rw [if_neg q, if_neg (fun w => by
            rcases List.mem_cons.mp w with w | w
            · exact z w.symm
            · exact q w)]
          rfl
  exact go _ (r.nd g hg)
theorem lim_eq {R : Rules} {L : Tup Int} {g : Tup Str} : m_limit_of R L g = L.items.getD (R.2.items.idxOf g) 0 := by
  show L.items.getD ((R.2.items.idxOf g : Nat) : Int).toNat 0 = _
  rw [Int.toNat_natCast]
/-- the most of a kind -/
theorem most_is {R : Rules} {L D : Tup Int} (r : WR R) (wg : WG R L) (h : WD R D) (lp : ∀ l ∈ L.items, 0 ≤ l) {n : Str} (hn : n ∈ R.1.items) : (∃ e, EndP R L D e ∧ val R e n = m_most_in R L D n) ∧ ∀ e, EndP R L D e → val R e n ≤ m_most_in R L D n := by
  have d : m_most_in R L D n = imin ([val R D n] ++ ((R.2.items.filter fun x1 => decide (n ∈ x1.items)).map fun x1 => m_limit_of R L x1)) := rfl
  have mem : m_most_in R L D n ∈ [val R D n] ++ ((R.2.items.filter fun x1 => decide (n ∈ x1.items)).map fun x1 => m_limit_of R L x1) := by
    rw [d]
    exact imin_mem (by simp)
  have lo : ∀ x ∈ [val R D n] ++ ((R.2.items.filter fun x1 => decide (n ∈ x1.items)).map fun x1 => m_limit_of R L x1), m_most_in R L D n ≤ x := fun x hx => by
    rw [d]
    exact imin_le hx
  have nn : 0 ≤ m_most_in R L D n := by
    rcases List.mem_append.mp mem with m | m
    · rw [List.mem_singleton.mp m]
      have m2 : val R D n ∈ D.items := by
        rw [lot_items r h.len]
        exact List.mem_map.mpr ⟨n, hn, rfl⟩
      exact h.lo _ m2
    · obtain ⟨g, hg, e⟩ := List.mem_map.mp m
      rw [← e, lim_eq]
      exact lp _ (zip_snd (get_zip (List.mem_filter.mp hg).1 wg))
  have up : ∀ e, EndP R L D e → val R e n ≤ m_most_in R L D n := fun e he => by
    rcases List.mem_append.mp mem with m | m
    · rw [List.mem_singleton.mp m]
      exact (he.1.1.2 n hn).2
    · obtain ⟨g, hg, eq⟩ := List.mem_map.mp m
      obtain ⟨hg1, hg2⟩ := List.mem_filter.mp hg
      rw [← eq, lim_eq]
      have k := he.1.2 _ (get_zip hg1 wg)
      have s := sum_le (f := fun x => if x = n then val R e n else 0) (g := val R e) (xs := g.items) (fun x hx => by
        have a := (he.1.1.2 x (r.gs g hg1 x hx)).1
        split
        · rename_i z; subst z; exact Int.le_refl _
        · exact a)
      have s2 : (g.items.map fun x => if x = n then val R e n else 0).sum = val R e n := by
        have go : ∀ xs : List Str, xs.Nodup → n ∈ xs → (xs.map fun x => if x = n then val R e n else 0).sum = val R e n := by
          intro xs
          induction xs with
          | nil => intro _ hm; exact absurd hm List.not_mem_nil
          | cons x xs ih =>
            intro nd hm
            rw [List.nodup_cons] at nd
            rw [List.map_cons, List.sum_cons]
            by_cases z : x = n
            · subst z
              have zr := sum_eq0 (f := fun y => if y = x then val R e x else 0) (xs := xs) (fun y hy => by
                have ne : ¬ y = x := fun q => nd.1 (by rw [← q]; exact hy)
                exact if_neg ne)
              rw [if_pos rfl, zr]
              omega
            · rw [if_neg z]
              rcases List.mem_cons.mp hm with q | q
              · exact absurd q.symm z
              · have i := ih nd.2 q
                omega
        exact go _ (r.nd g hg1) (of_decide_eq_true hg2)
      have k2 : ld R e g ≤ L.items.getD (R.2.items.idxOf g) 0 := k
      unfold ld at k2
      omega
  refine ⟨?_, up⟩
  have kl : KLot R L D (lotOf R fun x => if x = n then m_most_in R L D n else 0) := by
    refine ⟨⟨lotOf_wk _ _, fun x hx => ?_⟩, fun q hq => ?_⟩
    · rw [val_lotOf hx]
      have m2 : val R D x ∈ D.items := by
        rw [lot_items r h.len]
        exact List.mem_map.mpr ⟨x, hx, rfl⟩
      have a := h.lo _ m2
      split
      · rename_i z
        subst z
        exact ⟨nn, lo _ (List.mem_append_left _ (List.mem_singleton.mpr rfl))⟩
      · exact ⟨Int.le_refl _, a⟩
    · rw [ld_one r (zip_fst hq)]
      split
      · rename_i z
        have a := lo _ (List.mem_append_right _ (List.mem_map.mpr ⟨q.1, List.mem_filter.mpr ⟨zip_fst hq, decide_eq_true z⟩, rfl⟩))
        rw [lim_eq, zip_get r.gn (show (q.1, q.2) ∈ R.2.items.zip L.items from hq)] at a
        exact a
      · exact lp _ (zip_snd hq)
  obtain ⟨e, he, le⟩ := grows r kl
  have a := le n hn
  rw [val_lotOf hn, if_pos rfl] at a
  have b := up e he
  exact ⟨e, he, by omega⟩
end CL
end
section
set_option autoImplicit false
/-! D-layer 20: defs that write at a list that is handed to them. -/
namespace CL
open PySem PySem.Spec PyProof.Rows L2 DL
open PySem.W (Datum Tup DatumOrd Holds HoldAll T3)
section
variable {α β : Type} [DecidableEq α] [Datum α] [DecidableEq β] [Datum β]
def B1 (pre : List Int → Prop) (f : List Int → Sl) (g : List Int → List Int) : Rel := fun rs μ r μ' => ∃ b, pre b ∧ rs = [.cel 0] ∧ μ = [cl b] ∧ r = f b ∧ μ' = [cl (g b)]
def B2 (pre : List Int → α → Prop) (f : List Int → α → Sl) (g : List Int → α → List Int) : Rel := fun rs μ r μ' => ∃ b x, pre b x ∧ rs = [.cel 0, dd x] ∧ μ = [cl b] ∧ r = f b x ∧ μ' = [cl (g b x)]
def B3 (pre : List Int → α → β → Prop) (f : List Int → α → β → Sl) (g : List Int → α → β → List Int) : Rel := fun rs μ r μ' => ∃ b x y, pre b x y ∧ rs = [.cel 0, dd x, dd y] ∧ μ = [cl b] ∧ r = f b x y ∧ μ' = [cl (g b x y)]
theorem B1.go {pre : List Int → Prop} {f : List Int → Sl} {g : List Int → List Int} {b : List Int} (h : pre b) : B1 pre f g [.cel 0] [some (b.map Datum.toD)] (f b) [some ((g b).map Datum.toD)] := ⟨b, h, rfl, rfl, rfl, rfl⟩
theorem B2.go {pre : List Int → α → Prop} {f : List Int → α → Sl} {g : List Int → α → List Int} {b : List Int} {x : α} (h : pre b x) : B2 pre f g [.cel 0, dd x] [some (b.map Datum.toD)] (f b x) [some ((g b x).map Datum.toD)] := ⟨b, x, h, rfl, rfl, rfl, rfl⟩
theorem B3.go {pre : List Int → α → β → Prop} {f : List Int → α → β → Sl} {g : List Int → α → β → List Int} {b : List Int} {x : α} {y : β} (h : pre b x y) : B3 pre f g [.cel 0, dd x, dd y] [some (b.map Datum.toD)] (f b x y) [some ((g b x y).map Datum.toD)] := ⟨b, x, y, h, rfl, rfl, rfl, rfl⟩
/-- what a box is; how many draws at the most -/
def BoxB (n : Int) (b : List Int) : Prop := ∃ x y z : Int, b = [x, y, z] ∧ 0 ≤ z ∧ z ≤ n
theorem BoxB.le {n m : Int} {b : List Int} (h : BoxB n b) (k : n ≤ m) : BoxB m b := by
  obtain ⟨x, y, z, e, h1, h2⟩ := h
  exact ⟨x, y, z, e, h1, by omega⟩
section
variable {X : Cx} {k : Nat} {Γ Γ1 Γ2 : List Sl} {μ μ1 μ2 μ3 : Mu} {e a b d tg : Expr} {es rest : List Expr} {r ra rb rc : Sl} {pos p p2 pos2 : Pos} {x1 n : Nat} {ss tt body : List Stmt} {s : Stmt} {o : Out}
/-- if c: (returns); rest: with what is written -/
theorem ss_ifM {c : Expr} {q : Bool} {τ : Type} {x y : α × τ} (M : τ → Mu) (hc : EvT X Γ μ c q μ1) (h1 : q = true → SsD X Γ μ1 ss (.rt (dd x.1) (M x.2))) (h2 : q = false → SsD X Γ μ1 tt (.rt (dd y.1) (M y.2))) : SsD X Γ μ (.If c ss [] pos :: tt) (.rt (dd (if q = true then x else y).1) (M (if q = true then x else y).2)) := by
  cases q with
  | true => exact ss_end (st_if hc (fun _ => h1 rfl) (fun h => Bool.noConfusion h))
  | false => exact ss_cons (st_if hc (fun h => Bool.noConfusion h) (fun _ => ss_nil)) (h2 rfl)
theorem ev_orLT {xs ys : List α} (ha : Ev X Γ μ a (fr xs) μ) (hb : xs = [] → Ev X Γ μ (.BoolOp .Or (b :: es) pos) (fr ys) μ) : Ev X Γ μ (.BoolOp .Or (a :: b :: es) pos) (fr (if xs = [] then ys else xs)) μ := by
  have h := ev_orL (ds := xs.map Datum.toD) (ys := ys.map Datum.toD) ha (fun e0 => hb (List.map_eq_nil_iff.mp e0))
  by_cases q : xs = []
  · rw [if_pos q]
    rw [if_pos (by rw [q]; rfl)] at h
    exact h
  · rw [if_neg q]
    rw [if_neg (fun e0 => q (List.map_eq_nil_iff.mp e0))] at h
    exact h
end
end
end CL
end
section
set_option autoImplicit false
namespace CL
open PySem PySem.Spec PyProof.Rows L2 DL
open PySem.W (Datum Tup DatumOrd Holds HoldAll T3)
/-! Contracts 15: of the law, the draws. -/
section
variable {P : Program} {w : World} {K : PySem.W.Frag} {mg : Str → Option Value} {base : Heap}

/-! ### _law_take -/
def m_law_take (v_law_box_here : (List Int)) (v_law_size_so : Int) : Int × List Int := (if (decide ((0 : Int) < (v_law_box_here.getD 0 (0 : Int)))) = true then (((v_law_box_here.getD 0 (0 : Int)) % v_law_size_so), (v_law_box_here.set (0 : Int).toNat ((v_law_box_here.getD 0 (0 : Int)) / v_law_size_so))) else (((((((((((((((v_law_box_here.set (2 : Int).toNat ((v_law_box_here.getD 2 (0 : Int)) + (1 : Int))).getD 1 (0 : Int)) + ((48271 : Int) * ((v_law_box_here.set (2 : Int).toNat ((v_law_box_here.getD 2 (0 : Int)) + (1 : Int))).getD 2 (0 : Int)))) * ((39373 : Int) + ((v_law_box_here.set (2 : Int).toNat ((v_law_box_here.getD 2 (0 : Int)) + (1 : Int))).getD 2 (0 : Int)))) % (2147483647 : Int)) + ((v_law_box_here.set (2 : Int).toNat ((v_law_box_here.getD 2 (0 : Int)) + (1 : Int))).getD 2 (0 : Int))) + (((v_law_box_here.set (2 : Int).toNat ((v_law_box_here.getD 2 (0 : Int)) + (1 : Int))).getD 1 (0 : Int)) / (1000003 : Int))) * (((((((v_law_box_here.set (2 : Int).toNat ((v_law_box_here.getD 2 (0 : Int)) + (1 : Int))).getD 1 (0 : Int)) + ((48271 : Int) * ((v_law_box_here.set (2 : Int).toNat ((v_law_box_here.getD 2 (0 : Int)) + (1 : Int))).getD 2 (0 : Int)))) * ((39373 : Int) + ((v_law_box_here.set (2 : Int).toNat ((v_law_box_here.getD 2 (0 : Int)) + (1 : Int))).getD 2 (0 : Int)))) % (2147483647 : Int)) % (40009 : Int)) + (7 : Int))) % (2147483629 : Int)) * (48271 : Int)) + (((((v_law_box_here.set (2 : Int).toNat ((v_law_box_here.getD 2 (0 : Int)) + (1 : Int))).getD 1 (0 : Int)) + ((48271 : Int) * ((v_law_box_here.set (2 : Int).toNat ((v_law_box_here.getD 2 (0 : Int)) + (1 : Int))).getD 2 (0 : Int)))) * ((39373 : Int) + ((v_law_box_here.set (2 : Int).toNat ((v_law_box_here.getD 2 (0 : Int)) + (1 : Int))).getD 2 (0 : Int)))) % (2147483647 : Int))) % (2147483587 : Int)) / (64 : Int)) % v_law_size_so), (v_law_box_here.set (2 : Int).toNat ((v_law_box_here.getD 2 (0 : Int)) + (1 : Int)))))
def N_law_take : List Str := ["_law_box_here", "_law_size_so", "_law_some", "_law_once", "_law_far", "_law_again"]
theorem sc_law_take : FnScope N_law_take ["_law_box_here", "_law_size_so"] (defScope s__law_take) := ⟨rfl, rfl, rfl, by decide +kernel, rfl, by decide +kernel, by decide +kernel⟩
theorem tk_box {n : Int} {b : List Int} (h : BoxB n b) : b.length = 3 ∧ 0 ≤ b.getD 2 0 ∧ b.getD 2 0 ≤ n ∧ ∀ w : Int, (b.set (2 : Int).toNat w).getD 2 0 = w := by
  obtain ⟨x, y, z, rfl, h1, h2⟩ := h
  exact ⟨rfl, h1, h2, fun w => rfl⟩
abbrev R_law_take : Rel := B2 (fun (v_law_box_here : (List Int)) (v_law_size_so : Int) => BoxB 9999 v_law_box_here ∧ 0 < v_law_size_so ∧ v_law_size_so ≤ 1000) (fun (v_law_box_here : (List Int)) (v_law_size_so : Int) => dd (m_law_take v_law_box_here v_law_size_so).1) (fun (v_law_box_here : (List Int)) (v_law_size_so : Int) => (m_law_take v_law_box_here v_law_size_so).2)
theorem h_law_take (W : Wld P w K mg base) : Has P w K mg base 1 "_law_take" R_law_take := by
  refine has_of (k := 0) W.g W.d_law_take sc_law_take (fun _ _ _ _ _ _ us hl => match us, hl with | [_, _], _ => rfl) (fun rs μ r μ' h => by obtain ⟨a0, a1, h⟩ := h; rw [h.2.1]; rfl) ?_
  rintro f cdv A outer s H E rs μ r μ' c ⟨v_law_box_here, v_law_size_so, hp, rfl, rfl, rfl, rfl⟩
  have hs0 := hp.2.1
  have hs1 := hp.2.2
  have hlen := (tk_box hp.1).1
  have hz0 := (tk_box hp.1).2.1
  have hz1 := (tk_box hp.1).2.2.1
  have hset := (tk_box hp.1).2.2.2
  exact ⟨_, (ss_ifM (x := (((v_law_box_here.getD 0 (0 : Int)) % v_law_size_so), (v_law_box_here.set (0 : Int).toNat ((v_law_box_here.getD 0 (0 : Int)) / v_law_size_so)))) (y := (((((((((((((((v_law_box_here.set (2 : Int).toNat ((v_law_box_here.getD 2 (0 : Int)) + (1 : Int))).getD 1 (0 : Int)) + ((48271 : Int) * ((v_law_box_here.set (2 : Int).toNat ((v_law_box_here.getD 2 (0 : Int)) + (1 : Int))).getD 2 (0 : Int)))) * ((39373 : Int) + ((v_law_box_here.set (2 : Int).toNat ((v_law_box_here.getD 2 (0 : Int)) + (1 : Int))).getD 2 (0 : Int)))) % (2147483647 : Int)) + ((v_law_box_here.set (2 : Int).toNat ((v_law_box_here.getD 2 (0 : Int)) + (1 : Int))).getD 2 (0 : Int))) + (((v_law_box_here.set (2 : Int).toNat ((v_law_box_here.getD 2 (0 : Int)) + (1 : Int))).getD 1 (0 : Int)) / (1000003 : Int))) * (((((((v_law_box_here.set (2 : Int).toNat ((v_law_box_here.getD 2 (0 : Int)) + (1 : Int))).getD 1 (0 : Int)) + ((48271 : Int) * ((v_law_box_here.set (2 : Int).toNat ((v_law_box_here.getD 2 (0 : Int)) + (1 : Int))).getD 2 (0 : Int)))) * ((39373 : Int) + ((v_law_box_here.set (2 : Int).toNat ((v_law_box_here.getD 2 (0 : Int)) + (1 : Int))).getD 2 (0 : Int)))) % (2147483647 : Int)) % (40009 : Int)) + (7 : Int))) % (2147483629 : Int)) * (48271 : Int)) + (((((v_law_box_here.set (2 : Int).toNat ((v_law_box_here.getD 2 (0 : Int)) + (1 : Int))).getD 1 (0 : Int)) + ((48271 : Int) * ((v_law_box_here.set (2 : Int).toNat ((v_law_box_here.getD 2 (0 : Int)) + (1 : Int))).getD 2 (0 : Int)))) * ((39373 : Int) + ((v_law_box_here.set (2 : Int).toNat ((v_law_box_here.getD 2 (0 : Int)) + (1 : Int))).getD 2 (0 : Int)))) % (2147483647 : Int))) % (2147483587 : Int)) / (64 : Int)) % v_law_size_so), (v_law_box_here.set (2 : Int).toNat ((v_law_box_here.getD 2 (0 : Int)) + (1 : Int))))) (fun b => [cl b]) (et_cp f_gt (ev_ixLD (xs := v_law_box_here) (n := 0) (0 : Int) (ev_name 0) ev_int rfl rfl (by first | decide | omega | (simp only [CMul, CDiv, List.length_set, hset] ; omega))) ev_int) (fun hif => (ss_cons (st_set c 2 (ev_op (f_mod (i := (v_law_box_here.getD 0 (0 : Int))) (j := v_law_size_so) (by first | decide | omega | (simp only [CMul, CDiv, List.length_set, hset] ; omega))) (ev_ct c_int c.b_int (ea_cons (ev_ixLD (xs := v_law_box_here) (n := 0) (0 : Int) (ev_name 0) ev_int rfl rfl (by first | decide | omega | (simp only [CMul, CDiv, List.length_set, hset] ; omega))) ea_nil)) (ev_name 1)))
    (ss_cons (st_setixT (n := 0) (j := (0 : Int).toNat) (xs := v_law_box_here) (x := ((v_law_box_here.getD 0 (0 : Int)) / v_law_size_so)) (ev_op (f_fdiv (i := (v_law_box_here.getD 0 (0 : Int))) (j := v_law_size_so) (by first | decide | omega | (simp only [CMul, CDiv, List.length_set, hset] ; omega))) (ev_ixLD (xs := v_law_box_here) (n := 0) (0 : Int) (ev_name 0) ev_int rfl rfl (by first | decide | omega | (simp only [CMul, CDiv, List.length_set, hset] ; omega))) (ev_name 1)) (ev_name 0) ev_int rfl (by first | decide | omega | (simp only [CMul, CDiv, List.length_set, hset] ; omega)) (by first | decide | omega | (simp only [CMul, CDiv, List.length_set, hset] ; omega)))
    (ss_end (st_ret (ev_name 2)))))) (fun hif =>
    (ss_cons (st_setixT (n := 0) (j := (2 : Int).toNat) (xs := v_law_box_here) (x := ((v_law_box_here.getD 2 (0 : Int)) + (1 : Int))) (ev_op f_add (ev_ixLD (xs := v_law_box_here) (n := 2) (0 : Int) (ev_name 0) ev_int rfl rfl (by first | decide | omega | (simp only [CMul, CDiv, List.length_set, hset] ; omega))) ev_int) (ev_name 0) ev_int rfl (by first | decide | omega | (simp only [CMul, CDiv, List.length_set, hset] ; omega)) (by first | decide | omega | (simp only [CMul, CDiv, List.length_set, hset] ; omega)))
    (ss_cons (st_set c 3 (ev_op (f_mod (i := ((((v_law_box_here.set (2 : Int).toNat ((v_law_box_here.getD 2 (0 : Int)) + (1 : Int))).getD 1 (0 : Int)) + ((48271 : Int) * ((v_law_box_here.set (2 : Int).toNat ((v_law_box_here.getD 2 (0 : Int)) + (1 : Int))).getD 2 (0 : Int)))) * ((39373 : Int) + ((v_law_box_here.set (2 : Int).toNat ((v_law_box_here.getD 2 (0 : Int)) + (1 : Int))).getD 2 (0 : Int))))) (j := (2147483647 : Int)) (by first | decide | omega | (simp only [CMul, CDiv, List.length_set, hset] ; omega))) (ev_ct c_int c.b_int (ea_cons (ev_op (f_mul (i := (((v_law_box_here.set (2 : Int).toNat ((v_law_box_here.getD 2 (0 : Int)) + (1 : Int))).getD 1 (0 : Int)) + ((48271 : Int) * ((v_law_box_here.set (2 : Int).toNat ((v_law_box_here.getD 2 (0 : Int)) + (1 : Int))).getD 2 (0 : Int))))) (j := ((39373 : Int) + ((v_law_box_here.set (2 : Int).toNat ((v_law_box_here.getD 2 (0 : Int)) + (1 : Int))).getD 2 (0 : Int)))) (by first | decide | omega | (simp only [CMul, CDiv, List.length_set, hset] ; omega))) (ev_op f_add (ev_ixLD (xs := (v_law_box_here.set (2 : Int).toNat ((v_law_box_here.getD 2 (0 : Int)) + (1 : Int)))) (n := 1) (0 : Int) (ev_name 0) ev_int rfl rfl (by first | decide | omega | (simp only [CMul, CDiv, List.length_set, hset] ; omega))) (ev_op (f_mul (i := (48271 : Int)) (j := ((v_law_box_here.set (2 : Int).toNat ((v_law_box_here.getD 2 (0 : Int)) + (1 : Int))).getD 2 (0 : Int))) (by first | decide | omega | (simp only [CMul, CDiv, List.length_set, hset] ; omega))) ev_int (ev_ixLD (xs := (v_law_box_here.set (2 : Int).toNat ((v_law_box_here.getD 2 (0 : Int)) + (1 : Int)))) (n := 2) (0 : Int) (ev_name 0) ev_int rfl rfl (by first | decide | omega | (simp only [CMul, CDiv, List.length_set, hset] ; omega))))) (ev_op f_add ev_int (ev_ixLD (xs := (v_law_box_here.set (2 : Int).toNat ((v_law_box_here.getD 2 (0 : Int)) + (1 : Int)))) (n := 2) (0 : Int) (ev_name 0) ev_int rfl rfl (by first | decide | omega | (simp only [CMul, CDiv, List.length_set, hset] ; omega))))) ea_nil)) ev_int))
    (ss_cons (st_set c 4 (ev_op f_add (ev_op (f_mod (i := (((((v_law_box_here.set (2 : Int).toNat ((v_law_box_here.getD 2 (0 : Int)) + (1 : Int))).getD 1 (0 : Int)) + ((48271 : Int) * ((v_law_box_here.set (2 : Int).toNat ((v_law_box_here.getD 2 (0 : Int)) + (1 : Int))).getD 2 (0 : Int)))) * ((39373 : Int) + ((v_law_box_here.set (2 : Int).toNat ((v_law_box_here.getD 2 (0 : Int)) + (1 : Int))).getD 2 (0 : Int)))) % (2147483647 : Int))) (j := (40009 : Int)) (by first | decide | omega | (simp only [CMul, CDiv, List.length_set, hset] ; omega))) (ev_ct c_int c.b_int (ea_cons (ev_name 3) ea_nil)) ev_int) ev_int))
    (ss_cons (st_set c 5 (ev_op (f_mod (i := ((((((((v_law_box_here.set (2 : Int).toNat ((v_law_box_here.getD 2 (0 : Int)) + (1 : Int))).getD 1 (0 : Int)) + ((48271 : Int) * ((v_law_box_here.set (2 : Int).toNat ((v_law_box_here.getD 2 (0 : Int)) + (1 : Int))).getD 2 (0 : Int)))) * ((39373 : Int) + ((v_law_box_here.set (2 : Int).toNat ((v_law_box_here.getD 2 (0 : Int)) + (1 : Int))).getD 2 (0 : Int)))) % (2147483647 : Int)) + ((v_law_box_here.set (2 : Int).toNat ((v_law_box_here.getD 2 (0 : Int)) + (1 : Int))).getD 2 (0 : Int))) + (((v_law_box_here.set (2 : Int).toNat ((v_law_box_here.getD 2 (0 : Int)) + (1 : Int))).getD 1 (0 : Int)) / (1000003 : Int))) * (((((((v_law_box_here.set (2 : Int).toNat ((v_law_box_here.getD 2 (0 : Int)) + (1 : Int))).getD 1 (0 : Int)) + ((48271 : Int) * ((v_law_box_here.set (2 : Int).toNat ((v_law_box_here.getD 2 (0 : Int)) + (1 : Int))).getD 2 (0 : Int)))) * ((39373 : Int) + ((v_law_box_here.set (2 : Int).toNat ((v_law_box_here.getD 2 (0 : Int)) + (1 : Int))).getD 2 (0 : Int)))) % (2147483647 : Int)) % (40009 : Int)) + (7 : Int)))) (j := (2147483629 : Int)) (by first | decide | omega | (simp only [CMul, CDiv, List.length_set, hset] ; omega))) (ev_ct c_int c.b_int (ea_cons (ev_op (f_mul (i := (((((((v_law_box_here.set (2 : Int).toNat ((v_law_box_here.getD 2 (0 : Int)) + (1 : Int))).getD 1 (0 : Int)) + ((48271 : Int) * ((v_law_box_here.set (2 : Int).toNat ((v_law_box_here.getD 2 (0 : Int)) + (1 : Int))).getD 2 (0 : Int)))) * ((39373 : Int) + ((v_law_box_here.set (2 : Int).toNat ((v_law_box_here.getD 2 (0 : Int)) + (1 : Int))).getD 2 (0 : Int)))) % (2147483647 : Int)) + ((v_law_box_here.set (2 : Int).toNat ((v_law_box_here.getD 2 (0 : Int)) + (1 : Int))).getD 2 (0 : Int))) + (((v_law_box_here.set (2 : Int).toNat ((v_law_box_here.getD 2 (0 : Int)) + (1 : Int))).getD 1 (0 : Int)) / (1000003 : Int)))) (j := (((((((v_law_box_here.set (2 : Int).toNat ((v_law_box_here.getD 2 (0 : Int)) + (1 : Int))).getD 1 (0 : Int)) + ((48271 : Int) * ((v_law_box_here.set (2 : Int).toNat ((v_law_box_here.getD 2 (0 : Int)) + (1 : Int))).getD 2 (0 : Int)))) * ((39373 : Int) + ((v_law_box_here.set (2 : Int).toNat ((v_law_box_here.getD 2 (0 : Int)) + (1 : Int))).getD 2 (0 : Int)))) % (2147483647 : Int)) % (40009 : Int)) + (7 : Int))) (by first | decide | omega | (simp only [CMul, CDiv, List.length_set, hset] ; omega))) (ev_op f_add (ev_op f_add (ev_name 3) (ev_ixLD (xs := (v_law_box_here.set (2 : Int).toNat ((v_law_box_here.getD 2 (0 : Int)) + (1 : Int)))) (n := 2) (0 : Int) (ev_name 0) ev_int rfl rfl (by first | decide | omega | (simp only [CMul, CDiv, List.length_set, hset] ; omega)))) (ev_op (f_fdiv (i := ((v_law_box_here.set (2 : Int).toNat ((v_law_box_here.getD 2 (0 : Int)) + (1 : Int))).getD 1 (0 : Int))) (j := (1000003 : Int)) (by first | decide | omega | (simp only [CMul, CDiv, List.length_set, hset] ; omega))) (ev_ixLD (xs := (v_law_box_here.set (2 : Int).toNat ((v_law_box_here.getD 2 (0 : Int)) + (1 : Int)))) (n := 1) (0 : Int) (ev_name 0) ev_int rfl rfl (by first | decide | omega | (simp only [CMul, CDiv, List.length_set, hset] ; omega))) ev_int)) (ev_name 4)) ea_nil)) ev_int))
    (ss_end (st_ret (ev_op (f_mod (i := (((((((((((((v_law_box_here.set (2 : Int).toNat ((v_law_box_here.getD 2 (0 : Int)) + (1 : Int))).getD 1 (0 : Int)) + ((48271 : Int) * ((v_law_box_here.set (2 : Int).toNat ((v_law_box_here.getD 2 (0 : Int)) + (1 : Int))).getD 2 (0 : Int)))) * ((39373 : Int) + ((v_law_box_here.set (2 : Int).toNat ((v_law_box_here.getD 2 (0 : Int)) + (1 : Int))).getD 2 (0 : Int)))) % (2147483647 : Int)) + ((v_law_box_here.set (2 : Int).toNat ((v_law_box_here.getD 2 (0 : Int)) + (1 : Int))).getD 2 (0 : Int))) + (((v_law_box_here.set (2 : Int).toNat ((v_law_box_here.getD 2 (0 : Int)) + (1 : Int))).getD 1 (0 : Int)) / (1000003 : Int))) * (((((((v_law_box_here.set (2 : Int).toNat ((v_law_box_here.getD 2 (0 : Int)) + (1 : Int))).getD 1 (0 : Int)) + ((48271 : Int) * ((v_law_box_here.set (2 : Int).toNat ((v_law_box_here.getD 2 (0 : Int)) + (1 : Int))).getD 2 (0 : Int)))) * ((39373 : Int) + ((v_law_box_here.set (2 : Int).toNat ((v_law_box_here.getD 2 (0 : Int)) + (1 : Int))).getD 2 (0 : Int)))) % (2147483647 : Int)) % (40009 : Int)) + (7 : Int))) % (2147483629 : Int)) * (48271 : Int)) + (((((v_law_box_here.set (2 : Int).toNat ((v_law_box_here.getD 2 (0 : Int)) + (1 : Int))).getD 1 (0 : Int)) + ((48271 : Int) * ((v_law_box_here.set (2 : Int).toNat ((v_law_box_here.getD 2 (0 : Int)) + (1 : Int))).getD 2 (0 : Int)))) * ((39373 : Int) + ((v_law_box_here.set (2 : Int).toNat ((v_law_box_here.getD 2 (0 : Int)) + (1 : Int))).getD 2 (0 : Int)))) % (2147483647 : Int))) % (2147483587 : Int)) / (64 : Int))) (j := v_law_size_so) (by first | decide | omega | (simp only [CMul, CDiv, List.length_set, hset] ; omega))) (ev_ct c_int c.b_int (ea_cons (ev_op (f_fdiv (i := ((((((((((((v_law_box_here.set (2 : Int).toNat ((v_law_box_here.getD 2 (0 : Int)) + (1 : Int))).getD 1 (0 : Int)) + ((48271 : Int) * ((v_law_box_here.set (2 : Int).toNat ((v_law_box_here.getD 2 (0 : Int)) + (1 : Int))).getD 2 (0 : Int)))) * ((39373 : Int) + ((v_law_box_here.set (2 : Int).toNat ((v_law_box_here.getD 2 (0 : Int)) + (1 : Int))).getD 2 (0 : Int)))) % (2147483647 : Int)) + ((v_law_box_here.set (2 : Int).toNat ((v_law_box_here.getD 2 (0 : Int)) + (1 : Int))).getD 2 (0 : Int))) + (((v_law_box_here.set (2 : Int).toNat ((v_law_box_here.getD 2 (0 : Int)) + (1 : Int))).getD 1 (0 : Int)) / (1000003 : Int))) * (((((((v_law_box_here.set (2 : Int).toNat ((v_law_box_here.getD 2 (0 : Int)) + (1 : Int))).getD 1 (0 : Int)) + ((48271 : Int) * ((v_law_box_here.set (2 : Int).toNat ((v_law_box_here.getD 2 (0 : Int)) + (1 : Int))).getD 2 (0 : Int)))) * ((39373 : Int) + ((v_law_box_here.set (2 : Int).toNat ((v_law_box_here.getD 2 (0 : Int)) + (1 : Int))).getD 2 (0 : Int)))) % (2147483647 : Int)) % (40009 : Int)) + (7 : Int))) % (2147483629 : Int)) * (48271 : Int)) + (((((v_law_box_here.set (2 : Int).toNat ((v_law_box_here.getD 2 (0 : Int)) + (1 : Int))).getD 1 (0 : Int)) + ((48271 : Int) * ((v_law_box_here.set (2 : Int).toNat ((v_law_box_here.getD 2 (0 : Int)) + (1 : Int))).getD 2 (0 : Int)))) * ((39373 : Int) + ((v_law_box_here.set (2 : Int).toNat ((v_law_box_here.getD 2 (0 : Int)) + (1 : Int))).getD 2 (0 : Int)))) % (2147483647 : Int))) % (2147483587 : Int))) (j := (64 : Int)) (by first | decide | omega | (simp only [CMul, CDiv, List.length_set, hset] ; omega))) (ev_op (f_mod (i := (((((((((((v_law_box_here.set (2 : Int).toNat ((v_law_box_here.getD 2 (0 : Int)) + (1 : Int))).getD 1 (0 : Int)) + ((48271 : Int) * ((v_law_box_here.set (2 : Int).toNat ((v_law_box_here.getD 2 (0 : Int)) + (1 : Int))).getD 2 (0 : Int)))) * ((39373 : Int) + ((v_law_box_here.set (2 : Int).toNat ((v_law_box_here.getD 2 (0 : Int)) + (1 : Int))).getD 2 (0 : Int)))) % (2147483647 : Int)) + ((v_law_box_here.set (2 : Int).toNat ((v_law_box_here.getD 2 (0 : Int)) + (1 : Int))).getD 2 (0 : Int))) + (((v_law_box_here.set (2 : Int).toNat ((v_law_box_here.getD 2 (0 : Int)) + (1 : Int))).getD 1 (0 : Int)) / (1000003 : Int))) * (((((((v_law_box_here.set (2 : Int).toNat ((v_law_box_here.getD 2 (0 : Int)) + (1 : Int))).getD 1 (0 : Int)) + ((48271 : Int) * ((v_law_box_here.set (2 : Int).toNat ((v_law_box_here.getD 2 (0 : Int)) + (1 : Int))).getD 2 (0 : Int)))) * ((39373 : Int) + ((v_law_box_here.set (2 : Int).toNat ((v_law_box_here.getD 2 (0 : Int)) + (1 : Int))).getD 2 (0 : Int)))) % (2147483647 : Int)) % (40009 : Int)) + (7 : Int))) % (2147483629 : Int)) * (48271 : Int)) + (((((v_law_box_here.set (2 : Int).toNat ((v_law_box_here.getD 2 (0 : Int)) + (1 : Int))).getD 1 (0 : Int)) + ((48271 : Int) * ((v_law_box_here.set (2 : Int).toNat ((v_law_box_here.getD 2 (0 : Int)) + (1 : Int))).getD 2 (0 : Int)))) * ((39373 : Int) + ((v_law_box_here.set (2 : Int).toNat ((v_law_box_here.getD 2 (0 : Int)) + (1 : Int))).getD 2 (0 : Int)))) % (2147483647 : Int)))) (j := (2147483587 : Int)) (by first | decide | omega | (simp only [CMul, CDiv, List.length_set, hset] ; omega))) (ev_ct c_int c.b_int (ea_cons (ev_op f_add (ev_op (f_mul (i := (((((((((v_law_box_here.set (2 : Int).toNat ((v_law_box_here.getD 2 (0 : Int)) + (1 : Int))).getD 1 (0 : Int)) + ((48271 : Int) * ((v_law_box_here.set (2 : Int).toNat ((v_law_box_here.getD 2 (0 : Int)) + (1 : Int))).getD 2 (0 : Int)))) * ((39373 : Int) + ((v_law_box_here.set (2 : Int).toNat ((v_law_box_here.getD 2 (0 : Int)) + (1 : Int))).getD 2 (0 : Int)))) % (2147483647 : Int)) + ((v_law_box_here.set (2 : Int).toNat ((v_law_box_here.getD 2 (0 : Int)) + (1 : Int))).getD 2 (0 : Int))) + (((v_law_box_here.set (2 : Int).toNat ((v_law_box_here.getD 2 (0 : Int)) + (1 : Int))).getD 1 (0 : Int)) / (1000003 : Int))) * (((((((v_law_box_here.set (2 : Int).toNat ((v_law_box_here.getD 2 (0 : Int)) + (1 : Int))).getD 1 (0 : Int)) + ((48271 : Int) * ((v_law_box_here.set (2 : Int).toNat ((v_law_box_here.getD 2 (0 : Int)) + (1 : Int))).getD 2 (0 : Int)))) * ((39373 : Int) + ((v_law_box_here.set (2 : Int).toNat ((v_law_box_here.getD 2 (0 : Int)) + (1 : Int))).getD 2 (0 : Int)))) % (2147483647 : Int)) % (40009 : Int)) + (7 : Int))) % (2147483629 : Int))) (j := (48271 : Int)) (by first | decide | omega | (simp only [CMul, CDiv, List.length_set, hset] ; omega))) (ev_name 5) ev_int) (ev_name 3)) ea_nil)) ev_int) ev_int) ea_nil)) (ev_name 1)))))))))), .rt .dat⟩
/-! ### _law_of -/
def m_law_of (v_law_box_here : (List Int)) (v_law_goods_so : (List (List Str))) : (List Str) × List Int := ((v_law_goods_so.getD (m_law_take v_law_box_here (v_law_goods_so.length : Int)).1.toNat ([] : List Str)), (m_law_take v_law_box_here (v_law_goods_so.length : Int)).2)
def N_law_of : List Str := ["_law_box_here", "_law_goods_so"]
theorem sc_law_of : FnScope N_law_of ["_law_box_here", "_law_goods_so"] (defScope s__law_of) := ⟨rfl, rfl, rfl, by decide +kernel, rfl, by decide +kernel, by decide +kernel⟩
theorem tk_ok {n s : Int} {b : List Int} (h : BoxB n b) (hs : 0 < s) : 0 ≤ (m_law_take b s).1 ∧ (m_law_take b s).1 < s ∧ BoxB (n + 1) (m_law_take b s).2 := by
  obtain ⟨x, y, z, rfl, h1, h2⟩ := h
  unfold m_law_take
  split
  · exact ⟨Int.emod_nonneg _ (by omega), Int.emod_lt_of_pos _ hs, _, _, _, rfl, h1, by omega⟩
  · refine ⟨Int.emod_nonneg _ (by omega), Int.emod_lt_of_pos _ hs, _, _, _, rfl, ?_, ?_⟩
    · show 0 ≤ z + 1
      omega
    · show z + 1 ≤ n + 1
      omega
theorem of_pre {n : Int} {b : List Int} {α : Type} {xs : List α} (h : BoxB n b) (hx : xs ≠ [] ∧ xs.length ≤ 100) (hn : n ≤ 9999 := by decide) : BoxB 9999 b ∧ 0 < (xs.length : Int) ∧ (xs.length : Int) ≤ 1000 := by
  have a := ne_pos hx.1
  exact ⟨h.le hn, by omega, by omega⟩
theorem of_at {n : Int} {b : List Int} {α : Type} {xs : List α} (h : BoxB n b) (hx : xs ≠ [] ∧ xs.length ≤ 100) : (m_law_take b (xs.length : Int)).1 = ((m_law_take b (xs.length : Int)).1.toNat : Int) ∧ (m_law_take b (xs.length : Int)).1.toNat < xs.length := by
  have a := ne_pos hx.1
  have c := tk_ok (s := (xs.length : Int)) h (by omega)
  omega
abbrev R_law_of : Rel := B2 (fun (v_law_box_here : (List Int)) (v_law_goods_so : (List (List Str))) => BoxB 9998 v_law_box_here ∧ v_law_goods_so ≠ [] ∧ v_law_goods_so.length ≤ 100) (fun (v_law_box_here : (List Int)) (v_law_goods_so : (List (List Str))) => dd (m_law_of v_law_box_here v_law_goods_so).1) (fun (v_law_box_here : (List Int)) (v_law_goods_so : (List (List Str))) => (m_law_of v_law_box_here v_law_goods_so).2)
theorem h_law_of (W : Wld P w K mg base) : Has P w K mg base 2 "_law_of" R_law_of := by
  refine has_of (k := 1) W.g W.d_law_of sc_law_of (fun _ _ _ _ _ _ us hl => match us, hl with | [_, _], _ => rfl) (fun rs μ r μ' h => by obtain ⟨a0, a1, h⟩ := h; rw [h.2.1]; rfl) ?_
  rintro f cdv A outer s H E rs μ r μ' c ⟨v_law_box_here, v_law_goods_so, hp, rfl, rfl, rfl, rfl⟩
  exact ⟨_, (ss_end (st_ret (ev_ixLD (xs := v_law_goods_so) (n := (m_law_take v_law_box_here (v_law_goods_so.length : Int)).1.toNat) ([] : List Str) (ev_name 1) (ev_callBox (n := 0) (h_law_take W) c (ea_cons (ev_name 0) (ea_cons (ev_cb (c_lenL (xs := v_law_goods_so) rfl) c.b_len (ea_cons (ev_name 1) ea_nil)) ea_nil)) rfl (B2.go (of_pre hp.1 hp.2))) rfl (of_at hp.1 hp.2).1 (of_at hp.1 hp.2).2))), .rt .dat⟩
/-! ### _law_ofT -/
def m_law_ofT (v_law_box_here : (List Int)) (v_law_goods_so : (Tup Str)) : Str × List Int := ((v_law_goods_so.items.getD (m_law_take v_law_box_here (v_law_goods_so.items.length : Int)).1.toNat ("" : Str)), (m_law_take v_law_box_here (v_law_goods_so.items.length : Int)).2)
def N_law_ofT : List Str := ["_law_box_here", "_law_goods_so"]
theorem sc_law_ofT : FnScope N_law_ofT ["_law_box_here", "_law_goods_so"] (defScope s__law_of) := ⟨rfl, rfl, rfl, by decide +kernel, rfl, by decide +kernel, by decide +kernel⟩
abbrev R_law_ofT : Rel := B2 (fun (v_law_box_here : (List Int)) (v_law_goods_so : (Tup Str)) => BoxB 9998 v_law_box_here ∧ v_law_goods_so.items ≠ [] ∧ v_law_goods_so.items.length ≤ 100) (fun (v_law_box_here : (List Int)) (v_law_goods_so : (Tup Str)) => dd (m_law_ofT v_law_box_here v_law_goods_so).1) (fun (v_law_box_here : (List Int)) (v_law_goods_so : (Tup Str)) => (m_law_ofT v_law_box_here v_law_goods_so).2)
theorem h_law_ofT (W : Wld P w K mg base) : Has P w K mg base 2 "_law_of" R_law_ofT := by
  refine has_of (k := 1) W.g W.d_law_of sc_law_ofT (fun _ _ _ _ _ _ us hl => match us, hl with | [_, _], _ => rfl) (fun rs μ r μ' h => by obtain ⟨a0, a1, h⟩ := h; rw [h.2.1]; rfl) ?_
  rintro f cdv A outer s H E rs μ r μ' c ⟨v_law_box_here, v_law_goods_so, hp, rfl, rfl, rfl, rfl⟩
  exact ⟨_, (ss_end (st_ret (ev_ixTD (n := (m_law_take v_law_box_here (v_law_goods_so.items.length : Int)).1.toNat) ("" : Str) (ev_name 1) (ev_callBox (n := 0) (h_law_take W) c (ea_cons (ev_name 0) (ea_cons (ev_cb (c_lenT (t := v_law_goods_so) rfl) c.b_len (ea_cons (ev_name 1) ea_nil)) ea_nil)) rfl (B2.go (of_pre hp.1 hp.2))) (of_at hp.1 hp.2).1 (of_at hp.1 hp.2).2))), .rt .dat⟩
/-! ### _law_pick -/
def m_law_pick (v_law_box_here : (List Int)) (v_law_goods_so : (List Str)) (v_law_count_so : Int) : (List Str) × List Int := (((rangeI (min v_law_count_so (v_law_goods_so.length : Int)).toNat).foldl (fun (t1 : List Int × List Str × List Str) u1 => ((m_law_take t1.1 (t1.2.1.length : Int)).2, (t1.2.1.eraseIdx (m_law_take t1.1 (t1.2.1.length : Int)).1.toNat), (t1.2.2 ++ [(t1.2.1.getD (m_law_take t1.1 (t1.2.1.length : Int)).1.toNat ("" : Str))]))) (v_law_box_here, v_law_goods_so, ([] : List Str))).2.2, ((rangeI (min v_law_count_so (v_law_goods_so.length : Int)).toNat).foldl (fun (t1 : List Int × List Str × List Str) u1 => ((m_law_take t1.1 (t1.2.1.length : Int)).2, (t1.2.1.eraseIdx (m_law_take t1.1 (t1.2.1.length : Int)).1.toNat), (t1.2.2 ++ [(t1.2.1.getD (m_law_take t1.1 (t1.2.1.length : Int)).1.toNat ("" : Str))]))) (v_law_box_here, v_law_goods_so, ([] : List Str))).1)
def N_law_pick : List Str := ["_law_box_here", "_law_goods_so", "_law_count_so", "_law_pool_so", "_law_found", "_law_turn"]
theorem sc_law_pick : FnScope N_law_pick ["_law_box_here", "_law_goods_so", "_law_count_so"] (defScope s__law_pick) := ⟨rfl, rfl, rfl, by decide +kernel, rfl, by decide +kernel, by decide +kernel⟩
def PkI (gs : List Str) (i : Nat) (t : List Int × List Str × List Str) : Prop := BoxB (9900 + i) t.1 ∧ t.2.1.length + i = gs.length ∧ (t.2.2 ++ t.2.1).Perm gs
theorem pk_zero {b : List Int} {gs : List Str} (h : BoxB 9900 b) : PkI gs 0 (b, gs, ([] : List Str)) := ⟨h, rfl, List.Perm.refl _⟩
theorem pk_i {c : Int} {gs : List Str} {i : Nat} {u : Int} (hu : (rangeI (min c (gs.length : Int)).toNat)[i]? = some u) : i < gs.length := by
  have a := (List.getElem?_eq_some_iff.mp hu).1
  rw [rangeI_len] at a
  omega
theorem pk_ne {c : Int} {gs : List Str} {i : Nat} {t : List Int × List Str × List Str} {u : Int} (hl : gs.length ≤ 6) (h : PkI gs i t) (hu : (rangeI (min c (gs.length : Int)).toNat)[i]? = some u) : t.2.1 ≠ [] ∧ t.2.1.length ≤ 100 := by
  have a := pk_i hu
  have b := h.2.1
  refine ⟨fun e => ?_, by omega⟩
  rw [e] at b
  have b2 : 0 + i = gs.length := b
  omega
theorem pk_9 {c : Int} {gs : List Str} {i : Nat} {u : Int} (hl : gs.length ≤ 6) (hu : (rangeI (min c (gs.length : Int)).toNat)[i]? = some u) : (9900 + (i : Int)) ≤ 9999 := by
  have a := pk_i hu
  omega
theorem pk_app {c : Int} {gs : List Str} {i : Nat} {t : List Int × List Str × List Str} {u : Int} (hl : gs.length ≤ 6) (h : PkI gs i t) (hu : (rangeI (min c (gs.length : Int)).toNat)[i]? = some u) : t.2.2.length ≤ 100000 := by
  have a := h.2.2.length_eq
  rw [List.length_append] at a
  omega
theorem erase_perm {α : Type} (d : α) : ∀ (xs : List α) (j : Nat), j < xs.length → (xs.getD j d :: xs.eraseIdx j).Perm xs
  | [], j, h => absurd h (Nat.not_lt_zero _)
  | x :: xs, 0, _ => List.Perm.refl _
  | x :: xs, j + 1, h => by
    have ih := erase_perm d xs j (by simpa using h)
    show (xs.getD j d :: x :: xs.eraseIdx j).Perm (x :: xs)
    exact (List.Perm.swap _ _ _).trans (ih.cons x)
theorem pk_step {c : Int} {gs : List Str} {i : Nat} {t : List Int × List Str × List Str} {u : Int} (h : PkI gs i t) (hu : (rangeI (min c (gs.length : Int)).toNat)[i]? = some u) : PkI gs (i + 1) ((m_law_take t.1 (t.2.1.length : Int)).2, (t.2.1.eraseIdx (m_law_take t.1 (t.2.1.length : Int)).1.toNat), (t.2.2 ++ [(t.2.1.getD (m_law_take t.1 (t.2.1.length : Int)).1.toNat ("" : Str))])) := by
  have a := pk_i hu
  have b := h.2.1
  have e := tk_ok (s := (t.2.1.length : Int)) h.1 (by omega)
  have hj : (m_law_take t.1 (t.2.1.length : Int)).1.toNat < t.2.1.length := by omega
  refine ⟨e.2.2.le (by omega), ?_, ?_⟩
  · show (t.2.1.eraseIdx (m_law_take t.1 (t.2.1.length : Int)).1.toNat).length + (i + 1) = gs.length
    rw [List.length_eraseIdx_of_lt hj]
    omega
  · show ((t.2.2 ++ [_]) ++ _).Perm gs
    rw [List.append_assoc]
    exact ((erase_perm _ _ _ hj).append_left _).trans h.2.2
abbrev R_law_pick : Rel := B3 (fun (v_law_box_here : (List Int)) (v_law_goods_so : (List Str)) (v_law_count_so : Int) => BoxB 9900 v_law_box_here ∧ v_law_goods_so.length ≤ 6 ∧ 0 ≤ v_law_count_so) (fun (v_law_box_here : (List Int)) (v_law_goods_so : (List Str)) (v_law_count_so : Int) => fr (m_law_pick v_law_box_here v_law_goods_so v_law_count_so).1) (fun (v_law_box_here : (List Int)) (v_law_goods_so : (List Str)) (v_law_count_so : Int) => (m_law_pick v_law_box_here v_law_goods_so v_law_count_so).2)
theorem h_law_pick (W : Wld P w K mg base) : Has P w K mg base 2 "_law_pick" R_law_pick := by
  refine has_of (k := 1) W.g W.d_law_pick sc_law_pick (fun _ _ _ _ _ _ us hl => match us, hl with | [_, _, _], _ => rfl) (fun rs μ r μ' h => by obtain ⟨a0, a1, a2, h⟩ := h; rw [h.2.1]; rfl) ?_
  rintro f cdv A outer s H E rs μ r μ' c ⟨v_law_box_here, v_law_goods_so, v_law_count_so, hp, rfl, rfl, rfl, rfl⟩
  exact ⟨_, (ss_cons (st_par c 3 4 (en_cons (ev_ct (c_listL (ds := (v_law_goods_so).map Datum.toD) rfl) c.b_list (ea_cons (ev_name 1) ea_nil)) (en_cons (ev_lst0 (α := Str)) en_nil)) (.new (.new .nil)))
    (ss_cons (st_fold [5] (rangeI (min v_law_count_so (v_law_goods_so.length : Int)).toNat) (fun (t1 : List Int × List Str × List Str) u1 => ((m_law_take t1.1 (t1.2.1.length : Int)).2, (t1.2.1.eraseIdx (m_law_take t1.1 (t1.2.1.length : Int)).1.toNat), (t1.2.2 ++ [(t1.2.1.getD (m_law_take t1.1 (t1.2.1.length : Int)).1.toNat ("" : Str))]))) (v_law_box_here, v_law_goods_so, ([] : List Str)) (fun t1 => [.cel 0, dd v_law_goods_so, dd v_law_count_so, .cel 1, .cel 2, .un]) (fun t1 => [cl t1.1, cl t1.2.1, cl t1.2.2]) (PkI v_law_goods_so) c (ei_range c (ev_cb (c_min2 c) c.b_min (ea_cons (ev_ct c_int c.b_int (ea_cons (ev_name 2) ea_nil)) (ea_cons (ev_cb (c_lenL (xs := v_law_goods_so) rfl) c.b_len (ea_cons (ev_name 3) ea_nil)) ea_nil))) (by omega) (by omega)) (pk_zero hp.1) Fits.refl rfl (fun i t1 u1 hu1 hI1 => ⟨(pk_step hI1 hu1), _, _, eg_name c 5, (ss_cons (st_expr (ev_appendT (n := 2) (xs := t1.2.2) (ys := t1.2.2) (x := (t1.2.1.getD (m_law_take t1.1 (t1.2.1.length : Int)).1.toNat ("" : Str))) (ev_name 4) (ev_popAtT (n := 1) (j := (m_law_take t1.1 (t1.2.1.length : Int)).1.toNat) (xs := t1.2.1) (ys := t1.2.1) ("" : Str) (ev_name 3) (ev_callBox (n := 0) (h_law_take W) c (ea_cons (ev_name 0) (ea_cons (ev_cb (c_lenL (xs := t1.2.1) rfl) c.b_len (ea_cons (ev_name 3) ea_nil)) ea_nil)) rfl (B2.go (of_pre hI1.1 (pk_ne hp.2.1 hI1 hu1) (pk_9 hp.2.1 hu1)))) rfl rfl (of_at hI1.1 (pk_ne hp.2.1 hI1 hu1)).1 (of_at hI1.1 (pk_ne hp.2.1 hI1 hu1)).2 (by have h := (pk_ne hp.2.1 hI1 hu1).2; omega)) rfl rfl (pk_app hp.2.1 hI1 hu1)))
    ss_nil), .nx (.keep (.keep (.keep (.keep (.keep (.drop .nil))))))⟩))
    (ss_end (st_ret (ev_name 4))))), .rt (.cel (Nat.le_of_ble_eq_true rfl) rfl)⟩
end
end CL
end
section
set_option autoImplicit false
namespace CL
open PySem PySem.Spec PyProof.Rows L2 DL
open PySem.W (Datum Tup DatumOrd Holds HoldAll T3)
/-! Contracts 16: of the law, the draws. -/
section
variable {P : Program} {w : World} {K : PySem.W.Frag} {mg : Str → Option Value} {base : Heap}

/-! ### _law_box -/
def m_law_box (v_law_script : (List Int)) (v_law_k : Int) : (List Int) := [((if (if (decide (v_law_k < (v_law_script.length : Int))) = true then (v_law_script.getD v_law_k.toNat (0 : Int)) else (0 : Int)) < 0 then -(if (decide (v_law_k < (v_law_script.length : Int))) = true then (v_law_script.getD v_law_k.toNat (0 : Int)) else (0 : Int)) else (if (decide (v_law_k < (v_law_script.length : Int))) = true then (v_law_script.getD v_law_k.toNat (0 : Int)) else (0 : Int))) * (if (decide (((10 : Int) ^ (18 : Int).toNat) ≤ (if (if (decide (v_law_k < (v_law_script.length : Int))) = true then (v_law_script.getD v_law_k.toNat (0 : Int)) else (0 : Int)) < 0 then -(if (decide (v_law_k < (v_law_script.length : Int))) = true then (v_law_script.getD v_law_k.toNat (0 : Int)) else (0 : Int)) else (if (decide (v_law_k < (v_law_script.length : Int))) = true then (v_law_script.getD v_law_k.toNat (0 : Int)) else (0 : Int))))) = true then 1 else 0 : Int)), ((((if (decide (v_law_k < (v_law_script.length : Int))) = true then (v_law_script.getD v_law_k.toNat (0 : Int)) else (0 : Int)) % (2305843009213693951 : Int)) + ((39373 : Int) * v_law_k)) + (93564 : Int)), (0 : Int)]
def N_law_box : List Str := ["_law_script", "_law_k", "_law_cell"]
theorem sc_law_box : FnScope N_law_box ["_law_script", "_law_k"] (defScope s__law_box) := ⟨rfl, rfl, rfl, by decide +kernel, rfl, by decide +kernel, by decide +kernel⟩
theorem bx_mul {i : Int} {q : Bool} : CMul i (if q = true then 1 else 0 : Int) := by
  unfold CMul
  cases q <;> simp
abbrev R_law_box : Rel := P2 (fun (v_law_script : (List Int)) (v_law_k : Int) => 0 ≤ v_law_k) (fun (v_law_script : (List Int)) (v_law_k : Int) => fr (m_law_box v_law_script v_law_k))
theorem h_law_box (W : Wld P w K mg base) : Has P w K mg base 1 "_law_box" R_law_box := by
  refine has_of (k := 0) W.g W.d_law_box sc_law_box (fun _ _ _ _ _ _ us hl => match us, hl with | [_, _], _ => rfl) (fun rs μ r μ' h => by obtain ⟨a0, a1, h⟩ := h; rw [h.2.1]; rfl) ?_
  rintro f cdv A outer s H E rs μ r μ' c ⟨v_law_script, v_law_k, hp, rfl, rfl, rfl, rfl⟩
  exact ⟨_, (ss_cons (st_set c 2 (ev_ifD (et_cp f_lt (ev_name 1) (ev_cb (c_lenL (xs := v_law_script) rfl) c.b_len (ea_cons (ev_name 0) ea_nil))) (fun hif => (ev_ixLD (xs := v_law_script) (n := v_law_k.toNat) (0 : Int) (ev_name 0) (ev_name 1) rfl (by omega) (by have h := of_decide_eq_true hif; omega))) (fun hif => ev_int)))
    (ss_end (st_ret (ev_list (ds := [Datum.toD ((if (if (decide (v_law_k < (v_law_script.length : Int))) = true then (v_law_script.getD v_law_k.toNat (0 : Int)) else (0 : Int)) < 0 then -(if (decide (v_law_k < (v_law_script.length : Int))) = true then (v_law_script.getD v_law_k.toNat (0 : Int)) else (0 : Int)) else (if (decide (v_law_k < (v_law_script.length : Int))) = true then (v_law_script.getD v_law_k.toNat (0 : Int)) else (0 : Int))) * (if (decide (((10 : Int) ^ (18 : Int).toNat) ≤ (if (if (decide (v_law_k < (v_law_script.length : Int))) = true then (v_law_script.getD v_law_k.toNat (0 : Int)) else (0 : Int)) < 0 then -(if (decide (v_law_k < (v_law_script.length : Int))) = true then (v_law_script.getD v_law_k.toNat (0 : Int)) else (0 : Int)) else (if (decide (v_law_k < (v_law_script.length : Int))) = true then (v_law_script.getD v_law_k.toNat (0 : Int)) else (0 : Int))))) = true then 1 else 0 : Int)), Datum.toD ((((if (decide (v_law_k < (v_law_script.length : Int))) = true then (v_law_script.getD v_law_k.toNat (0 : Int)) else (0 : Int)) % (2305843009213693951 : Int)) + ((39373 : Int) * v_law_k)) + (93564 : Int)), Datum.toD (0 : Int)]) (ea_cons (ev_op (f_mul (i := (if (if (decide (v_law_k < (v_law_script.length : Int))) = true then (v_law_script.getD v_law_k.toNat (0 : Int)) else (0 : Int)) < 0 then -(if (decide (v_law_k < (v_law_script.length : Int))) = true then (v_law_script.getD v_law_k.toNat (0 : Int)) else (0 : Int)) else (if (decide (v_law_k < (v_law_script.length : Int))) = true then (v_law_script.getD v_law_k.toNat (0 : Int)) else (0 : Int)))) (j := (if (decide (((10 : Int) ^ (18 : Int).toNat) ≤ (if (if (decide (v_law_k < (v_law_script.length : Int))) = true then (v_law_script.getD v_law_k.toNat (0 : Int)) else (0 : Int)) < 0 then -(if (decide (v_law_k < (v_law_script.length : Int))) = true then (v_law_script.getD v_law_k.toNat (0 : Int)) else (0 : Int)) else (if (decide (v_law_k < (v_law_script.length : Int))) = true then (v_law_script.getD v_law_k.toNat (0 : Int)) else (0 : Int))))) = true then 1 else 0 : Int)) (bx_mul)) (ev_cb c_abs c.b_abs (ea_cons (ev_name 2) ea_nil)) (ev_ct c_intB c.b_int (ea_cons (ev_cp f_ge (ev_cb c_abs c.b_abs (ea_cons (ev_name 2) ea_nil)) (ev_op (f_pow (i := (10 : Int)) (j := (18 : Int)) (by unfold CPow; decide)) ev_int ev_int)) ea_nil))) (ea_cons (ev_op f_add (ev_op f_add (ev_op (f_mod (i := (if (decide (v_law_k < (v_law_script.length : Int))) = true then (v_law_script.getD v_law_k.toNat (0 : Int)) else (0 : Int))) (j := (2305843009213693951 : Int)) (by decide)) (ev_ct c_int c.b_int (ea_cons (ev_name 2) ea_nil)) ev_int) (ev_op (f_mul (i := (39373 : Int)) (j := v_law_k) (by unfold CMul; omega)) ev_int (ev_name 1))) ev_int) (ea_cons ev_int ea_nil))) (Nat.le_of_ble_eq_true rfl))))), .rt .fre⟩
/-! ### _law_cells -/
def m_law_cells (v_law_script : (List Int)) (v_law_top_so : Int) : (List Int) := ((enumL (gcut v_law_script (some v_law_top_so) (some (63 : Int)))).foldl (fun (t1 : List Int) u1 => (t1.set (u1.1 % v_law_top_so).toNat ((t1.getD (u1.1 % v_law_top_so).toNat (0 : Int)) + (u1.2 * (u1.1 + (2 : Int)))))) (if (gcut v_law_script none (some v_law_top_so)) = [] then [(0 : Int)] else (gcut v_law_script none (some v_law_top_so))))
def N_law_cells : List Str := ["_law_script", "_law_top_so", "_law_cells_so", "_law_k", "_law_cell", "_law_at_so"]
theorem sc_law_cells : FnScope N_law_cells ["_law_script", "_law_top_so"] (defScope s__law_cells) := ⟨rfl, rfl, rfl, by decide +kernel, rfl, by decide +kernel, by decide +kernel⟩
theorem cl_at {xs : List Int} {t : Int} {i : Nat} {u : Int × Int} (h : t = 3 ∧ xs.length ≤ 63) (hu : (enumL (gcut xs (some t) (some (63 : Int))))[i]? = some u) : 3 ≤ xs.length ∧ 0 ≤ u.1 ∧ u.1 ≤ 63 := by
  obtain ⟨rfl, hl⟩ := h
  have a := (List.getElem?_eq_some_iff.mp hu).1
  unfold enumL at a hu
  rw [List.length_map, List.length_zipIdx] at a
  have b := gcut_le xs (some 3) (some (63 : Int))
  rw [List.getElem?_map, List.getElem?_zipIdx] at hu
  obtain ⟨q, hq, rfl⟩ := Option.map_eq_some_iff.mp hu
  obtain ⟨z, hz, rfl⟩ := Option.map_eq_some_iff.mp hq
  have c : (gcut xs (some 3) (some (63 : Int))).length ≤ xs.length - 3 := by
    unfold gcut
    rw [List.length_take, List.length_drop, show (3 : Int) = ((3 : Nat) : Int) from rfl, HT.sIx_nat]
    omega
  refine ⟨by omega, ?_, ?_⟩
  · show (0 : Int) ≤ ((0 + i : Nat) : Int)
    omega
  · show ((0 + i : Nat) : Int) ≤ 63
    omega
theorem cl_zero {xs : List Int} {t : Int} (h : t = 3) : 3 ≤ xs.length → (if (gcut xs none (some t)) = [] then [(0 : Int)] else (gcut xs none (some t))).length = 3 := by
  subst h
  intro hl
  rw [show (3 : Int) = ((3 : Nat) : Int) from rfl, gcut_take]
  have a : (xs.take 3).length = 3 := by rw [List.length_take]; omega
  rw [if_neg (fun e => by rw [e] at a; cases a)]
  exact a
theorem cl_ix {xs ys : List Int} {t : Int} {i : Nat} {u : Int × Int} (h : t = 3 ∧ xs.length ≤ 63) (hu : (enumL (gcut xs (some t) (some (63 : Int))))[i]? = some u) (hy : ys.length = 3) : u.1 % t = ((u.1 % t).toNat : Int) ∧ (u.1 % t).toNat < ys.length := by
  have a := cl_at h hu
  obtain ⟨rfl, hl⟩ := h
  omega
theorem cl_mul {xs : List Int} {t : Int} {i : Nat} {u : Int × Int} {z : Int} (h : t = 3 ∧ xs.length ≤ 63) (hu : (enumL (gcut xs (some t) (some (63 : Int))))[i]? = some u) : CMul z (u.1 + 2) := by
  have a := cl_at h hu
  unfold CMul
  omega
abbrev R_law_cells : Rel := P2 (fun (v_law_script : (List Int)) (v_law_top_so : Int) => v_law_top_so = 3 ∧ v_law_script.length ≤ 63) (fun (v_law_script : (List Int)) (v_law_top_so : Int) => fr (m_law_cells v_law_script v_law_top_so))
theorem h_law_cells (W : Wld P w K mg base) : Has P w K mg base 1 "_law_cells" R_law_cells := by
  refine has_of (k := 0) W.g W.d_law_cells sc_law_cells (fun _ _ _ _ _ _ us hl => match us, hl with | [_, _], _ => rfl) (fun rs μ r μ' h => by obtain ⟨a0, a1, h⟩ := h; rw [h.2.1]; rfl) ?_
  rintro f cdv A outer s H E rs μ r μ' c ⟨v_law_script, v_law_top_so, hp, rfl, rfl, rfl, rfl⟩
  exact ⟨_, (ss_cons (st_new c 2 (ev_orLT (xs := (gcut v_law_script none (some v_law_top_so))) (ys := [(0 : Int)]) (ev_ct (c_listL (ds := ((gcut v_law_script none (some v_law_top_so))).map Datum.toD) rfl) c.b_list (ea_cons (ev_slLL (xs := v_law_script) (ev_name 0) eo_none (eo_some (ev_name 1)) rfl) ea_nil)) (fun _ => ev_one (ev_lst1 ev_int))))
    (ss_cons (st_fold [3, 4] (enumL (gcut v_law_script (some v_law_top_so) (some (63 : Int)))) (fun (t1 : List Int) u1 => (t1.set (u1.1 % v_law_top_so).toNat ((t1.getD (u1.1 % v_law_top_so).toNat (0 : Int)) + (u1.2 * (u1.1 + (2 : Int)))))) (if (gcut v_law_script none (some v_law_top_so)) = [] then [(0 : Int)] else (gcut v_law_script none (some v_law_top_so))) (fun t1 => [dd v_law_script, dd v_law_top_so, .cel 0, .un, .un, .un]) (fun t1 => [cl t1]) (fun _ (t : List Int) => 3 ≤ v_law_script.length → t.length = 3) c (EvI.cast (ei_enumL c (Ev.frz' (ev_slLL (xs := v_law_script) (ev_name 0) (eo_some (ev_name 1)) (eo_some ev_int) rfl))) (enumD_map _)) (cl_zero hp.1) Fits.refl rfl (fun i t1 u1 hu1 hI1 => ⟨(fun h => og_set (hI1 h)), _, _, eg_tup c (egs_cons (eg_name c 3) (egs_cons (eg_name c 4) egs_nil)), (ss_cons (st_set c 5 (ev_op (f_mod (i := u1.1) (j := v_law_top_so) (by omega)) (ev_ct c_int c.b_int (ea_cons (ev_name 3) ea_nil)) (ev_name 1)))
    (ss_cons (st_setixT (n := 0) (j := (u1.1 % v_law_top_so).toNat) (xs := t1) (x := ((t1.getD (u1.1 % v_law_top_so).toNat (0 : Int)) + (u1.2 * (u1.1 + (2 : Int))))) (ev_op f_add (ev_ixLD (xs := t1) (n := (u1.1 % v_law_top_so).toNat) (0 : Int) (ev_name 2) (ev_name 5) rfl (cl_ix hp hu1 (hI1 (cl_at hp hu1).1)).1 (cl_ix hp hu1 (hI1 (cl_at hp hu1).1)).2) (ev_op (f_mul (i := u1.2) (j := (u1.1 + (2 : Int))) (cl_mul hp hu1)) (ev_name 4) (ev_op f_add (ev_name 3) ev_int))) (ev_name 2) (ev_name 5) rfl (cl_ix hp hu1 (hI1 (cl_at hp hu1).1)).1 (cl_ix hp hu1 (hI1 (cl_at hp hu1).1)).2)
    ss_nil)), .nx (.keep (.keep (.keep (.drop (.drop (.drop .nil))))))⟩))
    (ss_end (st_ret (ev_name 2))))), .rt (.cel (Nat.le_of_ble_eq_true rfl) rfl)⟩
end
end CL
end
section
set_option autoImplicit false
namespace CL
open PySem PySem.Spec PyProof.Rows L2 DL
open PySem.W (Datum Tup DatumOrd Holds HoldAll T3)
/-! Contracts 17: of the law, drawn rules. -/
section
variable {P : Program} {w : World} {K : PySem.W.Frag} {mg : Str → Option Value} {base : Heap}

/-! ### _law_rules -/
def alaw_rules_tags (v_law_box_here : (List Int)) (v_law_most_so : Int) : (List Str) := (srt (m_law_pick (m_law_take (m_law_of v_law_box_here ([[("a" : Str), ("ab" : Str), ("b" : Str), ("c" : Str), ("s" : Str), ("y" : Str)], [("for" : Str), ("in" : Str), ("no" : Str), ("of" : Str), ("on" : Str), ("to" : Str)]] ++ [[("abcdefgh" : Str), ("abcdefgi" : Str), ("p" : Str), ("q" : Str), ("z" : Str), ("zz" : Str)]])).2 v_law_most_so).2 (m_law_of v_law_box_here ([[("a" : Str), ("ab" : Str), ("b" : Str), ("c" : Str), ("s" : Str), ("y" : Str)], [("for" : Str), ("in" : Str), ("no" : Str), ("of" : Str), ("on" : Str), ("to" : Str)]] ++ [[("abcdefgh" : Str), ("abcdefgi" : Str), ("p" : Str), ("q" : Str), ("z" : Str), ("zz" : Str)]])).1 ((1 : Int) + (m_law_take (m_law_of v_law_box_here ([[("a" : Str), ("ab" : Str), ("b" : Str), ("c" : Str), ("s" : Str), ("y" : Str)], [("for" : Str), ("in" : Str), ("no" : Str), ("of" : Str), ("on" : Str), ("to" : Str)]] ++ [[("abcdefgh" : Str), ("abcdefgi" : Str), ("p" : Str), ("q" : Str), ("z" : Str), ("zz" : Str)]])).2 v_law_most_so).1)).1)
def balaw_rules_tags (v_law_box_here : (List Int)) (v_law_most_so : Int) : List Int := (m_law_pick (m_law_take (m_law_of v_law_box_here ([[("a" : Str), ("ab" : Str), ("b" : Str), ("c" : Str), ("s" : Str), ("y" : Str)], [("for" : Str), ("in" : Str), ("no" : Str), ("of" : Str), ("on" : Str), ("to" : Str)]] ++ [[("abcdefgh" : Str), ("abcdefgi" : Str), ("p" : Str), ("q" : Str), ("z" : Str), ("zz" : Str)]])).2 v_law_most_so).2 (m_law_of v_law_box_here ([[("a" : Str), ("ab" : Str), ("b" : Str), ("c" : Str), ("s" : Str), ("y" : Str)], [("for" : Str), ("in" : Str), ("no" : Str), ("of" : Str), ("on" : Str), ("to" : Str)]] ++ [[("abcdefgh" : Str), ("abcdefgi" : Str), ("p" : Str), ("q" : Str), ("z" : Str), ("zz" : Str)]])).1 ((1 : Int) + (m_law_take (m_law_of v_law_box_here ([[("a" : Str), ("ab" : Str), ("b" : Str), ("c" : Str), ("s" : Str), ("y" : Str)], [("for" : Str), ("in" : Str), ("no" : Str), ("of" : Str), ("on" : Str), ("to" : Str)]] ++ [[("abcdefgh" : Str), ("abcdefgi" : Str), ("p" : Str), ("q" : Str), ("z" : Str), ("zz" : Str)]])).2 v_law_most_so).1)).2
def flaw_rules_1 (v_law_box_here : (List Int)) (v_law_most_so : Int) : List Int × List (Tup Str) := ((rangeI (m_law_take (balaw_rules_tags v_law_box_here v_law_most_so) (5 : Int)).1.toNat).foldl (fun (t1 : List Int × List (Tup Str)) u1 => ((m_law_pick (m_law_take t1.1 ((alaw_rules_tags v_law_box_here v_law_most_so).length : Int)).2 (alaw_rules_tags v_law_box_here v_law_most_so) ((1 : Int) + (m_law_take t1.1 ((alaw_rules_tags v_law_box_here v_law_most_so).length : Int)).1)).2, (if (decide ((Tup.mk (srt (m_law_pick (m_law_take t1.1 ((alaw_rules_tags v_law_box_here v_law_most_so).length : Int)).2 (alaw_rules_tags v_law_box_here v_law_most_so) ((1 : Int) + (m_law_take t1.1 ((alaw_rules_tags v_law_box_here v_law_most_so).length : Int)).1)).1)) ∉ t1.2)) = true then (t1.2 ++ [(Tup.mk (srt (m_law_pick (m_law_take t1.1 ((alaw_rules_tags v_law_box_here v_law_most_so).length : Int)).2 (alaw_rules_tags v_law_box_here v_law_most_so) ((1 : Int) + (m_law_take t1.1 ((alaw_rules_tags v_law_box_here v_law_most_so).length : Int)).1)).1))]) else t1.2))) ((m_law_take (balaw_rules_tags v_law_box_here v_law_most_so) (5 : Int)).2, ([] : List (Tup Str))))
def m_law_rules (v_law_box_here : (List Int)) (v_law_most_so : Int) : Rules × List Int := (((Tup.mk (alaw_rules_tags v_law_box_here v_law_most_so)), (Tup.mk (srt (flaw_rules_1 v_law_box_here v_law_most_so).2))), (flaw_rules_1 v_law_box_here v_law_most_so).1)
def N_law_rules : List Str := ["_law_box_here", "_law_most_so", "_law_pools", "_law_tags", "_law_groups_so", "_law_lap", "_law_some_so"]
theorem sc_law_rules : FnScope N_law_rules ["_law_box_here", "_law_most_so"] (defScope s__law_rules) := ⟨rfl, rfl, rfl, by decide +kernel, rfl, by decide +kernel, by decide +kernel⟩
theorem srt_S (xs : List Str) : PySem.W.Sortable (xs.map Datum.toD) := PySem.W.Sortable.others (fun b => ⟨fun e => (by cases e), fun ys e => (by cases e)⟩)
abbrev rlP : List (List Str) := ([[("a" : Str), ("ab" : Str), ("b" : Str), ("c" : Str), ("s" : Str), ("y" : Str)], [("for" : Str), ("in" : Str), ("no" : Str), ("of" : Str), ("on" : Str), ("to" : Str)]] ++ [[("abcdefgh" : Str), ("abcdefgi" : Str), ("p" : Str), ("q" : Str), ("z" : Str), ("zz" : Str)]])
theorem rlP_ok : ∀ p ∈ rlP, p.length = 6 ∧ p.Nodup := by decide +kernel
theorem of_ok {n : Int} {b : List Int} {xs : List (List Str)} (h : BoxB n b) (hx : xs ≠ []) : BoxB (n + 1) (m_law_of b xs).2 ∧ (m_law_of b xs).1 ∈ xs := by
  have a := ne_pos hx
  have c := tk_ok (s := (xs.length : Int)) h (by omega)
  refine ⟨c.2.2, ?_⟩
  show xs.getD _ _ ∈ xs
  rw [List.getD_eq_getElem?_getD, List.getElem?_eq_getElem (by omega)]
  exact List.getElem_mem _
theorem ofT_ok {n : Int} {b : List Int} {xs : Tup Str} (h : BoxB n b) (hx : xs.items ≠ []) : BoxB (n + 1) (m_law_ofT b xs).2 ∧ (m_law_ofT b xs).1 ∈ xs.items := by
  have a := ne_pos hx
  have c := tk_ok (s := (xs.items.length : Int)) h (by omega)
  refine ⟨c.2.2, ?_⟩
  show xs.items.getD _ _ ∈ xs.items
  rw [List.getD_eq_getElem?_getD, List.getElem?_eq_getElem (by omega)]
  exact List.getElem_mem _
def PkG (n : Int) (gs : List Str) (i : Nat) (t : List Int × List Str × List Str) : Prop := BoxB (n + i) t.1 ∧ t.2.1.length + i = gs.length ∧ (t.2.2 ++ t.2.1).Perm gs
theorem pick_ok {n c : Int} {b : List Int} {gs : List Str} (h : BoxB n b) (hl : gs.length ≤ 6) (hc : 0 ≤ c) (nd : gs.Nodup) : BoxB (n + 6) (m_law_pick b gs c).2 ∧ ((m_law_pick b gs c).1.length : Int) = min c (gs.length : Int) ∧ (m_law_pick b gs c).1.Nodup ∧ ∀ x ∈ (m_law_pick b gs c).1, x ∈ gs := by
  have a := fold_inv (I := PkG n gs) (t0 := (b, gs, ([] : List Str))) (step := fun (t1 : List Int × List Str × List Str) (u1 : Int) => ((m_law_take t1.1 (t1.2.1.length : Int)).2, (t1.2.1.eraseIdx (m_law_take t1.1 (t1.2.1.length : Int)).1.toNat), (t1.2.2 ++ [(t1.2.1.getD (m_law_take t1.1 (t1.2.1.length : Int)).1.toNat ("" : Str))]))) (rangeI (min c (gs.length : Int)).toNat) ⟨h.le (by omega), rfl, List.Perm.refl _⟩ (fun i t x hu hI => by
    have a := pk_i hu
    have b := hI.2.1
    have e := tk_ok (s := (t.2.1.length : Int)) hI.1 (by omega)
    have hj : (m_law_take t.1 (t.2.1.length : Int)).1.toNat < t.2.1.length := by omega
    refine ⟨e.2.2.le (by omega), ?_, ?_⟩
    · show (t.2.1.eraseIdx (m_law_take t.1 (t.2.1.length : Int)).1.toNat).length + (i + 1) = gs.length
      rw [List.length_eraseIdx_of_lt hj]
      omega
    · show ((t.2.2 ++ [_]) ++ _).Perm gs
      rw [List.append_assoc]
      exact ((erase_perm _ _ _ hj).append_left _).trans hI.2.2)
  rw [rangeI_len] at a
  have key : ∀ z : List Int × List Str × List Str, PkG n gs (min c (gs.length : Int)).toNat z → m_law_pick b gs c = (z.2.2, z.1) → BoxB (n + 6) (m_law_pick b gs c).2 ∧ ((m_law_pick b gs c).1.length : Int) = min c (gs.length : Int) ∧ (m_law_pick b gs c).1.Nodup ∧ ∀ x ∈ (m_law_pick b gs c).1, x ∈ gs := by
    rintro z ⟨a1, a2, a3⟩ e
    rw [e]
    refine ⟨a1.le (by omega), ?_, ?_, fun x hx => ?_⟩
    · have l := a3.length_eq
      rw [List.length_append] at l
      show (z.2.2.length : Int) = _
      omega
    · exact (List.nodup_append.mp (a3.nodup_iff.mpr nd)).1
    · exact a3.mem_iff.mp (List.mem_append_left _ hx)
  exact key _ a rfl
theorem rl_of {b : List Int} (h : BoxB 1000 b) : BoxB 9998 b ∧ rlP ≠ [] ∧ rlP.length ≤ 100 := ⟨h.le (by decide), by decide, by decide⟩
theorem rl_1 {n : Int} {b : List Int} (h : BoxB n b) : BoxB (n + 1) (m_law_of b rlP).2 ∧ (m_law_of b rlP).1.length = 6 ∧ (m_law_of b rlP).1.Nodup := by
  have a := of_ok (xs := rlP) h (by decide)
  exact ⟨a.1, rlP_ok _ a.2⟩
theorem rl_tk {b : List Int} {m : Int} (h : BoxB 1000 b) (hm : m = 4) : BoxB 9999 (m_law_of b rlP).2 ∧ 0 < m ∧ m ≤ 1000 := ⟨(rl_1 h).1.le (by decide), by omega, by omega⟩
theorem rl_2 {n : Int} {b : List Int} {m : Int} (h : BoxB n b) (hm : m = 4) : BoxB (n + 2) (m_law_take (m_law_of b rlP).2 m).2 ∧ 0 ≤ (m_law_take (m_law_of b rlP).2 m).1 ∧ (m_law_take (m_law_of b rlP).2 m).1 < 4 := by
  have a := tk_ok (s := m) (rl_1 h).1 (by omega)
  exact ⟨a.2.2.le (by omega), a.1, by omega⟩
theorem rl_pk {b : List Int} {m : Int} (h : BoxB 1000 b) (hm : m = 4) : BoxB 9900 (m_law_take (m_law_of b rlP).2 m).2 ∧ (m_law_of b rlP).1.length ≤ 6 ∧ 0 ≤ 1 + (m_law_take (m_law_of b rlP).2 m).1 := by
  have a := rl_2 h hm
  exact ⟨a.1.le (by decide), Nat.le_of_eq (rl_1 h).2.1, by omega⟩
theorem rl_3 {n : Int} {b : List Int} {m : Int} (h : BoxB n b) (hm : m = 4) : BoxB (n + 8) (balaw_rules_tags b m) ∧ (alaw_rules_tags b m).Nodup ∧ 1 ≤ (alaw_rules_tags b m).length ∧ (alaw_rules_tags b m).length ≤ 4 := by
  have a1 := rl_1 h
  have a2 := rl_2 h hm
  have a := pick_ok (gs := (m_law_of b rlP).1) (c := 1 + (m_law_take (m_law_of b rlP).2 m).1) a2.1 (Nat.le_of_eq a1.2.1) (by omega) a1.2.2
  have l : (alaw_rules_tags b m).length = (m_law_pick (m_law_take (m_law_of b rlP).2 m).2 (m_law_of b rlP).1 (1 + (m_law_take (m_law_of b rlP).2 m).1)).1.length := (srt_perm _).length_eq
  have a3 := a.2.1
  rw [a1.2.1] at a3
  refine ⟨a.1.le (by omega), (srt_perm _).nodup_iff.mpr a.2.2.1, by omega, by omega⟩
abbrev rlTags (b : List Int) (m : Int) : List Str := alaw_rules_tags b m
theorem rl_tags {b : List Int} {m : Int} (h : BoxB 1000 b) (hm : m = 4) : (rlTags b m).Nodup ∧ 1 ≤ (rlTags b m).length ∧ (rlTags b m).length ≤ 4 := (rl_3 h hm).2
theorem rl_lap {b : List Int} {m : Int} (h : BoxB 1000 b) (hm : m = 4) : BoxB 9999 (balaw_rules_tags b m) ∧ (0 : Int) < 5 ∧ (5 : Int) ≤ 1000 := ⟨(rl_3 h hm).1.le (by decide), by decide, by decide⟩
theorem rl_5 {b : List Int} {m : Int} (h : BoxB 1000 b) (hm : m = 4) : 0 ≤ (m_law_take (balaw_rules_tags b m) 5).1 ∧ (m_law_take (balaw_rules_tags b m) 5).1 < 5 := by
  have a := tk_ok (s := 5) (rl_3 h hm).1 (by decide)
  exact ⟨a.1, a.2.1⟩
def RlI (n : Int) (tags : List Str) (i : Nat) (t : List Int × List (Tup Str)) : Prop := BoxB (n + 7 * i) t.1 ∧ t.2.length ≤ i ∧ t.2.Nodup ∧ ∀ g ∈ t.2, g.items ≠ [] ∧ g.items.Nodup ∧ ∀ x ∈ g.items, x ∈ tags
theorem rl_i {z : Int × List Int} {i : Nat} {u : Int} (h : z.1 < 5) (hu : (rangeI z.1.toNat)[i]? = some u) : i < 4 := by
  have a := (List.getElem?_eq_some_iff.mp hu).1
  rw [rangeI_len] at a
  omega
theorem rl_zero {b : List Int} {m : Int} (h : BoxB 1000 b) (hm : m = 4) : RlI 1009 (rlTags b m) 0 ((m_law_take (balaw_rules_tags b m) 5).2, ([] : List (Tup Str))) := by
  have a := tk_ok (s := 5) (rl_3 h hm).1 (by decide)
  exact ⟨a.2.2.le (by decide), Nat.le_refl _, List.nodup_nil, fun g hg => absurd hg List.not_mem_nil⟩
theorem rl_t2 {n : Int} {tags : List Str} {i : Nat} {t : List Int × List (Tup Str)} (ht : tags.Nodup ∧ 1 ≤ tags.length ∧ tags.length ≤ 4) (hI : RlI n tags i t) (hi : i < 4) (hn : n ≤ 1100 := by decide) : BoxB 9999 t.1 ∧ 0 < (tags.length : Int) ∧ (tags.length : Int) ≤ 1000 := ⟨hI.1.le (by omega), by omega, by omega⟩
theorem rl_t3 {n : Int} {tags : List Str} {i : Nat} {t : List Int × List (Tup Str)} (ht : tags.Nodup ∧ 1 ≤ tags.length ∧ tags.length ≤ 4) (hI : RlI n tags i t) : 0 ≤ (m_law_take t.1 (tags.length : Int)).1 ∧ BoxB (n + 7 * i + 1) (m_law_take t.1 (tags.length : Int)).2 := by
  have a := tk_ok (s := (tags.length : Int)) hI.1 (by omega)
  exact ⟨a.1, a.2.2⟩
theorem rl_p2 {n : Int} {tags : List Str} {i : Nat} {t : List Int × List (Tup Str)} (ht : tags.Nodup ∧ 1 ≤ tags.length ∧ tags.length ≤ 4) (hI : RlI n tags i t) (hi : i < 4) (hn : n ≤ 1100 := by decide) : BoxB 9900 (m_law_take t.1 (tags.length : Int)).2 ∧ tags.length ≤ 6 ∧ 0 ≤ 1 + (m_law_take t.1 (tags.length : Int)).1 := by
  have a := rl_t3 ht hI
  exact ⟨a.2.le (by omega), by omega, by omega⟩
theorem rl_step {n : Int} {tags : List Str} {i : Nat} {t : List Int × List (Tup Str)} (ht : tags.Nodup ∧ 1 ≤ tags.length ∧ tags.length ≤ 4) (hI : RlI n tags i t) : RlI n tags (i + 1) ((m_law_pick (m_law_take t.1 (tags.length : Int)).2 tags ((1 : Int) + (m_law_take t.1 (tags.length : Int)).1)).2, (if (decide ((Tup.mk (srt (m_law_pick (m_law_take t.1 (tags.length : Int)).2 tags ((1 : Int) + (m_law_take t.1 (tags.length : Int)).1)).1)) ∉ t.2)) = true then (t.2 ++ [(Tup.mk (srt (m_law_pick (m_law_take t.1 (tags.length : Int)).2 tags ((1 : Int) + (m_law_take t.1 (tags.length : Int)).1)).1))]) else t.2)) := by
  have a := rl_t3 ht hI
  have p := pick_ok (gs := tags) (c := 1 + (m_law_take t.1 (tags.length : Int)).1) a.2 (by omega) (by omega) ht.1
  obtain ⟨h1, h2, h3, h4⟩ := hI
  refine ⟨p.1.le (by omega), ?_, ?_, ?_⟩
  · show (if _ then _ else _ : List (Tup Str)).length ≤ i + 1
    split
    · rw [List.length_append]; exact Nat.succ_le_succ h2
    · omega
  · show (if _ then _ else _ : List (Tup Str)).Nodup
    split
    · rename_i q
      have q' := of_decide_eq_true q
      refine List.nodup_append.mpr ⟨h3, List.nodup_cons.mpr ⟨List.not_mem_nil, List.nodup_nil⟩, fun x hx y hy e => ?_⟩
      rw [List.mem_singleton.mp hy] at e
      exact q' (e ▸ hx)
    · exact h3
  · intro g hg
    have hg' : g ∈ t.2 ∨ g = Tup.mk (srt (m_law_pick (m_law_take t.1 (tags.length : Int)).2 tags ((1 : Int) + (m_law_take t.1 (tags.length : Int)).1)).1) := by
      revert hg
      show g ∈ (if _ then _ else _ : List (Tup Str)) → _
      split
      · intro hm
        rcases List.mem_append.mp hm with m | m
        · exact .inl m
        · exact .inr (List.mem_singleton.mp m)
      · exact .inl
    rcases hg' with m | m
    · exact h4 g m
    · subst m
      refine ⟨fun e => ?_, (srt_perm _).nodup_iff.mpr p.2.2.1, fun x hx => p.2.2.2 x (mem_srt.mp hx)⟩
      have l := (srt_perm (m_law_pick (m_law_take t.1 (tags.length : Int)).2 tags ((1 : Int) + (m_law_take t.1 (tags.length : Int)).1)).1).length_eq
      have e' : srt (m_law_pick (m_law_take t.1 (tags.length : Int)).2 tags ((1 : Int) + (m_law_take t.1 (tags.length : Int)).1)).1 = [] := e
      rw [e'] at l
      have l2 := p.2.1
      rw [← l] at l2
      have l3 : (0 : Int) = min (1 + (m_law_take t.1 (tags.length : Int)).1) (tags.length : Int) := l2
      omega
theorem rl_few {n : Int} {tags : List Str} {i : Nat} {t : List Int × List (Tup Str)} (hI : RlI n tags i t) (hi : i < 4) : t.2.length ≤ 100000 := by
  have a := hI.2.1
  omega
theorem rl_end {n : Int} {b : List Int} {m : Int} (h : BoxB n b) (hm : m = 4) : RlI (n + 9) (rlTags b m) (m_law_take (balaw_rules_tags b m) 5).1.toNat (flaw_rules_1 b m) := by
  have a := fold_inv (I := RlI (n + 9) (rlTags b m)) (rangeI (m_law_take (balaw_rules_tags b m) 5).1.toNat) (t0 := ((m_law_take (balaw_rules_tags b m) 5).2, ([] : List (Tup Str)))) (step := fun t (_ : Int) => ((m_law_pick (m_law_take t.1 ((rlTags b m).length : Int)).2 (rlTags b m) ((1 : Int) + (m_law_take t.1 ((rlTags b m).length : Int)).1)).2, (if (decide ((Tup.mk (srt (m_law_pick (m_law_take t.1 ((rlTags b m).length : Int)).2 (rlTags b m) ((1 : Int) + (m_law_take t.1 ((rlTags b m).length : Int)).1)).1)) ∉ t.2)) = true then (t.2 ++ [(Tup.mk (srt (m_law_pick (m_law_take t.1 ((rlTags b m).length : Int)).2 (rlTags b m) ((1 : Int) + (m_law_take t.1 ((rlTags b m).length : Int)).1)).1))]) else t.2))) (by
    have a := tk_ok (s := 5) (rl_3 h hm).1 (by decide)
    exact ⟨a.2.2.le (by omega), Nat.le_refl _, List.nodup_nil, fun g hg => absurd hg List.not_mem_nil⟩) (fun i t x _ hI => rl_step (rl_3 h hm).2 hI)
  rw [rangeI_len] at a
  exact a
theorem rl_ne {b : List Int} {m : Int} (h : BoxB 1000 b) (hm : m = 4) : ∀ g ∈ (flaw_rules_1 b m).2, g.items ≠ [] := fun g hg => ((rl_end h hm).2.2.2 g hg).1
abbrev R_law_rules : Rel := B2 (fun (v_law_box_here : (List Int)) (v_law_most_so : Int) => BoxB 1000 v_law_box_here ∧ v_law_most_so = 4) (fun (v_law_box_here : (List Int)) (v_law_most_so : Int) => dd (m_law_rules v_law_box_here v_law_most_so).1) (fun (v_law_box_here : (List Int)) (v_law_most_so : Int) => (m_law_rules v_law_box_here v_law_most_so).2)
theorem h_law_rules (W : Wld P w K mg base) : Has P w K mg base 3 "_law_rules" R_law_rules := by
  refine has_of (k := 2) W.g W.d_law_rules sc_law_rules (fun _ _ _ _ _ _ us hl => match us, hl with | [_, _], _ => rfl) (fun rs μ r μ' h => by obtain ⟨a0, a1, h⟩ := h; rw [h.2.1]; rfl) ?_
  rintro f cdv A outer s H E rs μ r μ' c ⟨v_law_box_here, v_law_most_so, hp, rfl, rfl, rfl, rfl⟩
  exact ⟨_, (ss_cons (st_set c 2 (Ev.frz' (ev_list (ds := [Datum.toD [("a" : Str), ("ab" : Str), ("b" : Str), ("c" : Str), ("s" : Str), ("y" : Str)], Datum.toD [("for" : Str), ("in" : Str), ("no" : Str), ("of" : Str), ("on" : Str), ("to" : Str)]]) (ea_cons (Ev.frz' (ev_list (ds := [Datum.toD ("a" : Str), Datum.toD ("ab" : Str), Datum.toD ("b" : Str), Datum.toD ("c" : Str), Datum.toD ("s" : Str), Datum.toD ("y" : Str)]) (ea_cons ev_str (ea_cons ev_str (ea_cons ev_str (ea_cons ev_str (ea_cons ev_str (ea_cons ev_str ea_nil)))))) (Nat.le_of_ble_eq_true rfl))) (ea_cons (Ev.frz' (ev_list (ds := [Datum.toD ("for" : Str), Datum.toD ("in" : Str), Datum.toD ("no" : Str), Datum.toD ("of" : Str), Datum.toD ("on" : Str), Datum.toD ("to" : Str)]) (ea_cons ev_str (ea_cons ev_str (ea_cons ev_str (ea_cons ev_str (ea_cons ev_str (ea_cons ev_str ea_nil)))))) (Nat.le_of_ble_eq_true rfl))) ea_nil)) (Nat.le_of_ble_eq_true rfl))))
    (ss_cons (st_set c 2 (Ev.frz' (ev_op (f_catLL (xs := [[("a" : Str), ("ab" : Str), ("b" : Str), ("c" : Str), ("s" : Str), ("y" : Str)], [("for" : Str), ("in" : Str), ("no" : Str), ("of" : Str), ("on" : Str), ("to" : Str)]]) (ys := [[("abcdefgh" : Str), ("abcdefgi" : Str), ("p" : Str), ("q" : Str), ("z" : Str), ("zz" : Str)]]) rfl rfl (by decide)) (ev_name 2) (ev_lst1 (Ev.frz' (ev_list (ds := [Datum.toD ("abcdefgh" : Str), Datum.toD ("abcdefgi" : Str), Datum.toD ("p" : Str), Datum.toD ("q" : Str), Datum.toD ("z" : Str), Datum.toD ("zz" : Str)]) (ea_cons ev_str (ea_cons ev_str (ea_cons ev_str (ea_cons ev_str (ea_cons ev_str (ea_cons ev_str ea_nil)))))) (Nat.le_of_ble_eq_true rfl)))))))
    (ss_cons (st_set c 3 (Ev.frz' (ev_cb (c_sorted c (xs := (m_law_pick (m_law_take (m_law_of v_law_box_here ([[("a" : Str), ("ab" : Str), ("b" : Str), ("c" : Str), ("s" : Str), ("y" : Str)], [("for" : Str), ("in" : Str), ("no" : Str), ("of" : Str), ("on" : Str), ("to" : Str)]] ++ [[("abcdefgh" : Str), ("abcdefgi" : Str), ("p" : Str), ("q" : Str), ("z" : Str), ("zz" : Str)]])).2 v_law_most_so).2 (m_law_of v_law_box_here ([[("a" : Str), ("ab" : Str), ("b" : Str), ("c" : Str), ("s" : Str), ("y" : Str)], [("for" : Str), ("in" : Str), ("no" : Str), ("of" : Str), ("on" : Str), ("to" : Str)]] ++ [[("abcdefgh" : Str), ("abcdefgi" : Str), ("p" : Str), ("q" : Str), ("z" : Str), ("zz" : Str)]])).1 ((1 : Int) + (m_law_take (m_law_of v_law_box_here ([[("a" : Str), ("ab" : Str), ("b" : Str), ("c" : Str), ("s" : Str), ("y" : Str)], [("for" : Str), ("in" : Str), ("no" : Str), ("of" : Str), ("on" : Str), ("to" : Str)]] ++ [[("abcdefgh" : Str), ("abcdefgi" : Str), ("p" : Str), ("q" : Str), ("z" : Str), ("zz" : Str)]])).2 v_law_most_so).1)).1) rfl (srt_S _)) c.b_sorted (ea_cons (ev_callBox (n := 0) (h_law_pick W) c (ea_cons (ev_name 0) (ea_cons (ev_callBox (n := 0) (h_law_of W) c (ea_cons (ev_name 0) (ea_cons (ev_name 2) ea_nil)) rfl (B2.go (rl_of hp.1))) (ea_cons (ev_op f_add ev_int (ev_callBox (n := 0) (h_law_take W) c (ea_cons (ev_name 0) (ea_cons (ev_name 1) ea_nil)) rfl (B2.go (rl_tk hp.1 hp.2)))) ea_nil))) rfl (B3.go (rl_pk hp.1 hp.2))) ea_nil))))
    (ss_cons (st_new c 4 (ev_lst0 (α := (Tup Str))))
    (ss_cons (st_fold [5] (rangeI (m_law_take (balaw_rules_tags v_law_box_here v_law_most_so) (5 : Int)).1.toNat) (fun (t1 : List Int × List (Tup Str)) u1 => ((m_law_pick (m_law_take t1.1 ((alaw_rules_tags v_law_box_here v_law_most_so).length : Int)).2 (alaw_rules_tags v_law_box_here v_law_most_so) ((1 : Int) + (m_law_take t1.1 ((alaw_rules_tags v_law_box_here v_law_most_so).length : Int)).1)).2, (if (decide ((Tup.mk (srt (m_law_pick (m_law_take t1.1 ((alaw_rules_tags v_law_box_here v_law_most_so).length : Int)).2 (alaw_rules_tags v_law_box_here v_law_most_so) ((1 : Int) + (m_law_take t1.1 ((alaw_rules_tags v_law_box_here v_law_most_so).length : Int)).1)).1)) ∉ t1.2)) = true then (t1.2 ++ [(Tup.mk (srt (m_law_pick (m_law_take t1.1 ((alaw_rules_tags v_law_box_here v_law_most_so).length : Int)).2 (alaw_rules_tags v_law_box_here v_law_most_so) ((1 : Int) + (m_law_take t1.1 ((alaw_rules_tags v_law_box_here v_law_most_so).length : Int)).1)).1))]) else t1.2))) ((m_law_take (balaw_rules_tags v_law_box_here v_law_most_so) (5 : Int)).2, ([] : List (Tup Str))) (fun t1 => [.cel 0, dd v_law_most_so, dd ([[("a" : Str), ("ab" : Str), ("b" : Str), ("c" : Str), ("s" : Str), ("y" : Str)], [("for" : Str), ("in" : Str), ("no" : Str), ("of" : Str), ("on" : Str), ("to" : Str)]] ++ [[("abcdefgh" : Str), ("abcdefgi" : Str), ("p" : Str), ("q" : Str), ("z" : Str), ("zz" : Str)]]), dd (alaw_rules_tags v_law_box_here v_law_most_so), .cel 1, .un, .un]) (fun t1 => [cl t1.1, cl t1.2]) (fun i t => RlI 1009 (rlTags v_law_box_here v_law_most_so) i t) c (ei_range c (ev_callBox (n := 0) (h_law_take W) c (ea_cons (ev_name 0) (ea_cons ev_int ea_nil)) rfl (B2.go (rl_lap hp.1 hp.2))) (by have h := rl_5 hp.1 hp.2; omega) (by have h := rl_5 hp.1 hp.2; omega)) (rl_zero hp.1 hp.2) Fits.refl rfl (fun i t1 u1 hu1 hI1 => ⟨(rl_step (rl_tags hp.1 hp.2) hI1), _, _, eg_name c 5, (ss_cons (st_set c 6 (ev_ct (c_tuple (xs := (srt (m_law_pick (m_law_take t1.1 ((alaw_rules_tags v_law_box_here v_law_most_so).length : Int)).2 (alaw_rules_tags v_law_box_here v_law_most_so) ((1 : Int) + (m_law_take t1.1 ((alaw_rules_tags v_law_box_here v_law_most_so).length : Int)).1)).1)) rfl) c.b_tuple (ea_cons (ev_cb (c_sorted c (xs := (m_law_pick (m_law_take t1.1 ((alaw_rules_tags v_law_box_here v_law_most_so).length : Int)).2 (alaw_rules_tags v_law_box_here v_law_most_so) ((1 : Int) + (m_law_take t1.1 ((alaw_rules_tags v_law_box_here v_law_most_so).length : Int)).1)).1) rfl (srt_S _)) c.b_sorted (ea_cons (ev_callBox (n := 0) (h_law_pick W) c (ea_cons (ev_name 0) (ea_cons (ev_name 3) (ea_cons (ev_op f_add ev_int (ev_callBox (n := 0) (h_law_take W) c (ea_cons (ev_name 0) (ea_cons (ev_cb (c_lenL (xs := (alaw_rules_tags v_law_box_here v_law_most_so)) rfl) c.b_len (ea_cons (ev_name 3) ea_nil)) ea_nil)) rfl (B2.go (rl_t2 (rl_tags hp.1 hp.2) hI1 (rl_i (rl_5 hp.1 hp.2).2 hu1))))) ea_nil))) rfl (B3.go (rl_p2 (rl_tags hp.1 hp.2) hI1 (rl_i (rl_5 hp.1 hp.2).2 hu1)))) ea_nil)) ea_nil)))
    (ss_cons (st_ifC (n := 1) (xs := t1.2) (ys := (t1.2 ++ [(Tup.mk (srt (m_law_pick (m_law_take t1.1 ((alaw_rules_tags v_law_box_here v_law_most_so).length : Int)).2 (alaw_rules_tags v_law_box_here v_law_most_so) ((1 : Int) + (m_law_take t1.1 ((alaw_rules_tags v_law_box_here v_law_most_so).length : Int)).1)).1))])) (et_cp (f_ninL c (x := (Tup.mk (srt (m_law_pick (m_law_take t1.1 ((alaw_rules_tags v_law_box_here v_law_most_so).length : Int)).2 (alaw_rules_tags v_law_box_here v_law_most_so) ((1 : Int) + (m_law_take t1.1 ((alaw_rules_tags v_law_box_here v_law_most_so).length : Int)).1)).1))) (xs := t1.2) rfl rfl) (ev_name 6) (ev_name 4)) rfl (fun hif => (ss_cons (st_expr (ev_appendT (n := 1) (xs := t1.2) (ys := t1.2) (x := (Tup.mk (srt (m_law_pick (m_law_take t1.1 ((alaw_rules_tags v_law_box_here v_law_most_so).length : Int)).2 (alaw_rules_tags v_law_box_here v_law_most_so) ((1 : Int) + (m_law_take t1.1 ((alaw_rules_tags v_law_box_here v_law_most_so).length : Int)).1)).1))) (ev_name 4) (ev_name 6) rfl rfl (rl_few hI1 (rl_i (rl_5 hp.1 hp.2).2 hu1))))
    ss_nil)) (.keep (.keep (.keep (.keep (.keep (.keep (.keep .nil))))))))
    ss_nil)), .nx (.keep (.keep (.keep (.keep (.keep (.drop (.drop .nil)))))))⟩))
    (ss_end (st_ret (ev_pair (ev_ct (c_tuple (xs := (alaw_rules_tags v_law_box_here v_law_most_so)) rfl) c.b_tuple (ea_cons (ev_name 3) ea_nil)) (ev_ct (c_tuple (xs := (srt (flaw_rules_1 v_law_box_here v_law_most_so).2)) rfl) c.b_tuple (ea_cons (ev_cb (c_sorted c (xs := (flaw_rules_1 v_law_box_here v_law_most_so).2) rfl (srt_T (rl_ne hp.1 hp.2))) c.b_sorted (ea_cons (ev_name 4) ea_nil)) ea_nil)))))))))), .rt .dat⟩
end
end CL
end
section
set_option autoImplicit false
/-! Contracts 18: _law_same at equal data. -/
namespace CL
open PySem PySem.Spec PyProof.Rows L2 DL
open PySem.W (Datum Tup DatumOrd Holds HoldAll T3)
mutual
def sameT : Nat → PyData → Bool
  | _, .int _ => true
  | _, .bool _ => true
  | _, .str _ => true
  | _, .none => true
  | n + 1, .list xs => sameTs n xs
  | n + 1, .tuple xs => sameTs n xs
  | _, _ => false
def sameTs : Nat → List PyData → Bool
  | _, [] => true
  | n, x :: xs => sameT n x && sameTs n xs
end
theorem sameTs_get : ∀ {n : Nat} {xs : List PyData} {d : PyData}, sameTs n xs = true → d ∈ xs → sameT n d = true
  | n, [], d, _, h => absurd h List.not_mem_nil
  | n, x :: xs, d, h, hm => by
    unfold sameTs at h
    rw [Bool.and_eq_true] at h
    rcases List.mem_cons.mp hm with e | m
    · rw [e]; exact h.1
    · exact sameTs_get h.2 m
def R_same (n : Nat) : Rel := fun rs μ r μ' => ∃ d, sameT n d = true ∧ rs = [.dat d, .dat d] ∧ μ = [] ∧ r = dd true ∧ μ' = []
section
variable {X : Cx} {Γ : List Sl} {μ μ1 : Mu} {e : Expr}
theorem evq {q q' : Bool} (h : Ev X Γ μ e (dd q) μ1) (k : q = q') : Ev X Γ μ e (dd q') μ1 := k ▸ h
end
section
variable {P : Program} {w : World} {K : PySem.W.Frag} {mg : Str → Option Value} {base : Heap}
def N_same : List Str := ["_law_got", "_law_due", "_law_mine", "_law_its"]
theorem sc_same : FnScope N_same ["_law_got", "_law_due"] (defScope s__law_same) := ⟨rfl, rfl, rfl, by decide +kernel, rfl, by decide +kernel, by decide +kernel⟩
theorem zip_self_mem {ds : List PyData} {i : Nat} {d : PyData} (h : (zipD ds ds)[i]? = some d) : ∃ x ∈ ds, d = .tuple [x, x] := by
  unfold zipD at h
  rw [List.getElem?_map] at h
  obtain ⟨q, hq, rfl⟩ := Option.map_eq_some_iff.mp h
  obtain ⟨a, b⟩ := q
  rw [List.getElem?_zip_eq_some] at hq
  have e : a = b := Option.some.inj (hq.1.symm.trans hq.2)
  subst e
  exact ⟨a, List.mem_of_getElem? hq.1, rfl⟩
theorem all_true (n : Nat) : (List.replicate n true).all id = true := by
  induction n with
  | zero => rfl
  | succ n ih => rw [List.replicate_succ, List.all_cons, ih]; rfl
instance : Flat Unit := ⟨by decide⟩
def atomD : PyData → Bool
  | .int _ => true
  | .bool _ => true
  | .str _ => true
  | .none => true
  | _ => false
theorem same_atom {k : Nat} {f : Addr} {cdv : Value} {A : Around} {outer : List Env} {s : Shared} {H : Hp} {E : XK} (c : Cz k (BodyX P w K mg base N_same "_law_same" s__law_same f cdv A outer s H E)) {d : PyData} (hd : atomD d = true) :
    SsD (BodyX P w K mg base N_same "_law_same" s__law_same f cdv A outer s H E) [.dat d, .dat d, .un, .un] [] (defBody s__law_same) (.rt (dd true) []) := by
  cases d with
  | int i =>
    exact ss_cons (st_ifno (et_val (ev_is2 c (ev_name 1) rfl bt_list bt_tuple c.b_list c.b_tuple)) rfl)
      (ss_cons (st_ifno (et_w (ew_or (et_cp (f_isN (d := .int i) rfl) (ev_name 1) ev_non) (fun _ => ew_or1 (et_val (ev_is2 c (ev_name 1) rfl bt_bool bt_str c.b_bool c.b_str))))) rfl)
      (ss_end (st_ret (evq (ev_and (ev_is c (ev_name 0) rfl bt_int c.b_int) (fun _ => ev_and (ev_not (ev_is c (ev_name 0) rfl bt_bool c.b_bool)) (fun _ => ev_one (ev_cp (f_eq c (x := i) (y := i) rfl rfl) (ev_name 0) (ev_name 1))))) (by rw [decide_eq_true (rfl : i = i)]; rfl)))))
  | bool b =>
    exact ss_cons (st_ifno (et_val (ev_is2 c (ev_name 1) rfl bt_list bt_tuple c.b_list c.b_tuple)) rfl)
      (ss_end (st_if (et_w (ew_or (et_cp (f_isN (d := .bool b) rfl) (ev_name 1) ev_non) (fun _ => ew_or1 (et_val (ev_is2 c (ev_name 1) rfl bt_bool bt_str c.b_bool c.b_str)))))
        (fun _ => ss_end (st_ret (evq (ev_and (ev_cp (f_eq c (x := b) (y := b) rfl rfl) (ev_name 0) (ev_name 1)) (fun _ => ev_and (ev_cp (f_eq c (x := kitT (tyOf (.bool b)) "bool") (y := kitT (tyOf (.bool b)) "bool") rfl rfl) (ev_is c (ev_name 0) rfl bt_bool c.b_bool) (ev_is c (ev_name 1) rfl bt_bool c.b_bool)) (fun _ => ev_one (ev_cp (f_eq c (x := isNone (.bool b)) (y := isNone (.bool b)) rfl rfl) (ev_cp (f_isN (d := .bool b) rfl) (ev_name 0) ev_non) (ev_cp (f_isN (d := .bool b) rfl) (ev_name 1) ev_non))))) (by rw [decide_eq_true (rfl : b = b)]; rfl))))
        (fun h => by cases h)))
  | str b =>
    exact ss_cons (st_ifno (et_val (ev_is2 c (ev_name 1) rfl bt_list bt_tuple c.b_list c.b_tuple)) rfl)
      (ss_end (st_if (et_w (ew_or (et_cp (f_isN (d := .str b) rfl) (ev_name 1) ev_non) (fun _ => ew_or1 (et_val (ev_is2 c (ev_name 1) rfl bt_bool bt_str c.b_bool c.b_str)))))
        (fun _ => ss_end (st_ret (evq (ev_and (ev_cp (f_eq c (x := b) (y := b) rfl rfl) (ev_name 0) (ev_name 1)) (fun _ => ev_and (ev_cp (f_eq c (x := kitT (tyOf (.str b)) "bool") (y := kitT (tyOf (.str b)) "bool") rfl rfl) (ev_is c (ev_name 0) rfl bt_bool c.b_bool) (ev_is c (ev_name 1) rfl bt_bool c.b_bool)) (fun _ => ev_one (ev_cp (f_eq c (x := isNone (.str b)) (y := isNone (.str b)) rfl rfl) (ev_cp (f_isN (d := .str b) rfl) (ev_name 0) ev_non) (ev_cp (f_isN (d := .str b) rfl) (ev_name 1) ev_non))))) (by rw [decide_eq_true (rfl : b = b)]; rfl))))
        (fun h => by cases h)))
  | none =>
    exact ss_cons (st_ifno (et_val (ev_is2 c (ev_name 1) rfl bt_list bt_tuple c.b_list c.b_tuple)) rfl)
      (ss_end (st_if (et_w (ew_or (et_cp (f_isN (d := .none) rfl) (ev_name 1) ev_non) (fun h => by cases h) (q' := false)))
        (fun _ => ss_end (st_ret (evq (ev_and (ev_cp (f_eq c (x := ()) (y := ()) rfl rfl) (ev_name 0) (ev_name 1)) (fun _ => ev_and (ev_cp (f_eq c (x := kitT (tyOf .none) "bool") (y := kitT (tyOf .none) "bool") rfl rfl) (ev_is c (ev_name 0) rfl bt_bool c.b_bool) (ev_is c (ev_name 1) rfl bt_bool c.b_bool)) (fun _ => ev_one (ev_cp (f_eq c (x := isNone .none) (y := isNone .none) rfl rfl) (ev_cp (f_isN (d := .none) rfl) (ev_name 0) ev_non) (ev_cp (f_isN (d := .none) rfl) (ev_name 1) ev_non))))) (by rfl))))
        (fun h => by cases h)))
  | _ => cases hd
theorem same_len (ds : List PyData) : (decide ((ds.length : Int) = (ds.length : Int)) && (List.replicate ds.length true).all id) = true := by rw [decide_eq_true rfl, all_true]; rfl
theorem rep_map (n : Nat) : (List.replicate n true).map Datum.toD = List.replicate n (PyData.bool true) := by
  rw [List.map_replicate]
  rfl
theorem has_same (W : Wld P w K mg base) : ∀ n : Nat, Has P w K mg base (n + 1) "_law_same" (R_same n) := by
  intro n
  induction n with
  | zero =>
    refine has_of (k := 0) W.g W.d_law_same sc_same (fun _ _ _ _ _ _ us hl => match us, hl with | [_, _], _ => rfl) (fun rs μ r μ' h => by obtain ⟨a, _, h, _⟩ := h; rw [h]; rfl) ?_
    rintro f cdv A outer s H E rs μ r μ' c ⟨d, hp, rfl, rfl, rfl, rfl⟩
    exact ⟨_, same_atom c (by cases d <;> first | rfl | simp [sameT] at hp), .rt .dat⟩
  | succ n ih =>
    refine has_of (k := n + 1) W.g W.d_law_same sc_same (fun _ _ _ _ _ _ us hl => match us, hl with | [_, _], _ => rfl) (fun rs μ r μ' h => by obtain ⟨a, _, h, _⟩ := h; rw [h]; rfl) ?_
    rintro f cdv A outer s H E rs μ r μ' c ⟨d, hp, rfl, rfl, rfl, rfl⟩
    cases d with
    | list ds =>
      have hx : sameTs n ds = true := hp
      exact ⟨_, ss_end (st_if (et_val (ev_is2 c (ev_name 1) rfl bt_list bt_tuple c.b_list c.b_tuple)) (fun _ =>
        ss_cons (st_ifno (et_cp (f_ne c (x := kitT (tyOf (.list ds)) "list") (y := kitT (tyOf (.list ds)) "list") rfl rfl) (ev_is c (ev_name 0) rfl bt_list c.b_list) (ev_is c (ev_name 1) rfl bt_list c.b_list)) (by simp))
        (ss_cons (st_ifno (et_cp (f_ne c (x := kitT (tyOf (.list ds)) "tuple") (y := kitT (tyOf (.list ds)) "tuple") rfl rfl) (ev_is c (ev_name 0) rfl bt_tuple c.b_tuple) (ev_is c (ev_name 1) rfl bt_tuple c.b_tuple)) (by simp))
        (ss_end (st_ret (evq (ev_and (ev_cp (f_eq c (x := (ds.length : Int)) (y := (ds.length : Int)) rfl rfl) (ev_cb (c_lenD (ds := ds) rfl (.inl rfl)) c.b_len (ea_cons (ev_name 0) ea_nil)) (ev_cb (c_lenD (ds := ds) rfl (.inl rfl)) c.b_len (ea_cons (ev_name 1) ea_nil))) (fun _ => ev_one (ev_cb (c_all c (ra := .fre (List.replicate ds.length (PyData.bool true))) (xs := List.replicate ds.length true) (congrArg (fun z => some (PyData.list z)) (rep_map ds.length).symm)) c.b_all (ea_cons (EvB.pe (lcD [("_law_mine", 2), ("_law_its", 3)] (zipD ds ds) (List.replicate ds.length (PyData.bool true)) (by rw [List.length_replicate, zipD_len, Nat.min_self]) c (ei_zipL c (ev_name 0) (ev_name 1)) (blkOk_by (by kernel_rfl)) (fun i d y hd hy => by
          obtain ⟨x, hx2, rfl⟩ := zip_self_mem hd
          rw [List.getElem?_replicate] at hy
          split at hy
          · cases hy
            exact ⟨_, fun _ c => eg_tup c (egs_cons (eg_name c 2) (egs_cons (eg_name c 3) egs_nil)), fun _ c => ev_call ih c (ea_cons (ev_name 2) (ea_cons (ev_name 3) ea_nil)) ⟨x, sameTs_get hx hx2, rfl, rfl, rfl, rfl⟩ (hjk := Nat.le_refl _)⟩
          · cases hy))) ea_nil)))) (same_len ds))))) ) (fun h => by cases h)), .rt .dat⟩
    | tuple ds =>
      have hx : sameTs n ds = true := hp
      exact ⟨_, ss_end (st_if (et_val (ev_is2 c (ev_name 1) rfl bt_list bt_tuple c.b_list c.b_tuple)) (fun _ =>
        ss_cons (st_ifno (et_cp (f_ne c (x := kitT (tyOf (.tuple ds)) "list") (y := kitT (tyOf (.tuple ds)) "list") rfl rfl) (ev_is c (ev_name 0) rfl bt_list c.b_list) (ev_is c (ev_name 1) rfl bt_list c.b_list)) (by simp))
        (ss_cons (st_ifno (et_cp (f_ne c (x := kitT (tyOf (.tuple ds)) "tuple") (y := kitT (tyOf (.tuple ds)) "tuple") rfl rfl) (ev_is c (ev_name 0) rfl bt_tuple c.b_tuple) (ev_is c (ev_name 1) rfl bt_tuple c.b_tuple)) (by simp))
        (ss_end (st_ret (evq (ev_and (ev_cp (f_eq c (x := (ds.length : Int)) (y := (ds.length : Int)) rfl rfl) (ev_cb (c_lenD (ds := ds) rfl (.inr rfl)) c.b_len (ea_cons (ev_name 0) ea_nil)) (ev_cb (c_lenD (ds := ds) rfl (.inr rfl)) c.b_len (ea_cons (ev_name 1) ea_nil))) (fun _ => ev_one (ev_cb (c_all c (ra := .fre (List.replicate ds.length (PyData.bool true))) (xs := List.replicate ds.length true) (congrArg (fun z => some (PyData.list z)) (rep_map ds.length).symm)) c.b_all (ea_cons (EvB.pe (lcD [("_law_mine", 2), ("_law_its", 3)] (zipD ds ds) (List.replicate ds.length (PyData.bool true)) (by rw [List.length_replicate, zipD_len, Nat.min_self]) c (ei_zipT c (ev_name 0) (ev_name 1)) (blkOk_by (by kernel_rfl)) (fun i d y hd hy => by
          obtain ⟨x, hx2, rfl⟩ := zip_self_mem hd
          rw [List.getElem?_replicate] at hy
          split at hy
          · cases hy
            exact ⟨_, fun _ c => eg_tup c (egs_cons (eg_name c 2) (egs_cons (eg_name c 3) egs_nil)), fun _ c => ev_call ih c (ea_cons (ev_name 2) (ea_cons (ev_name 3) ea_nil)) ⟨x, sameTs_get hx hx2, rfl, rfl, rfl, rfl⟩ (hjk := Nat.le_refl _)⟩
          · cases hy))) ea_nil)))) (same_len ds))))) ) (fun h => by cases h)), .rt .dat⟩
    | int i => exact ⟨_, same_atom c rfl, .rt .dat⟩
    | bool i => exact ⟨_, same_atom c rfl, .rt .dat⟩
    | str i => exact ⟨_, same_atom c rfl, .rt .dat⟩
    | none => exact ⟨_, same_atom c rfl, .rt .dat⟩
    | _ => simp [sameT] at hp
end
end CL
end
section
set_option autoImplicit false
namespace CL
open PySem PySem.Spec PyProof.Rows L2 DL
open PySem.W (Datum Tup DatumOrd Holds HoldAll T3)
/-! Contracts 19: of the law. -/
section
variable {P : Program} {w : World} {K : PySem.W.Frag} {mg : Str → Option Value} {base : Heap}

/-! ### _law_factor_right -/
def alaw_factor_right_much_so (v_law_rules_so : Rules) (v_law_fewest_so : Int) (v_law_far : Int) : (List Int) := (v_law_rules_so.1.items.map fun x1 => (m_law_bare v_law_rules_so x1))
def alaw_factor_right_got (v_law_rules_so : Rules) (v_law_fewest_so : Int) (v_law_far : Int) : (List PyData) := ([(Datum.toD (m_factors v_law_rules_so)), (Datum.toD (m_factor v_law_rules_so)), (Datum.toD (v_law_rules_so.1.items.map fun x2 => (m_bare_number v_law_rules_so x2)))] : List PyData)
def alaw_factor_right_got1 (v_law_rules_so : Rules) (v_law_fewest_so : Int) (v_law_far : Int) : (List PyData) := ((alaw_factor_right_got v_law_rules_so v_law_fewest_so v_law_far) ++ ([(Datum.toD (m_crossing v_law_rules_so)), (Datum.toD (m_is_nested v_law_rules_so)), (Datum.toD (m_least_served v_law_rules_so (7 : Int))), (Datum.toD (m_greatest_most v_law_rules_so (3 : Int)))] : List PyData))
def alaw_factor_right_due (v_law_rules_so : Rules) (v_law_fewest_so : Int) (v_law_far : Int) : (List PyData) := ([(Datum.toD (Tup.mk (alaw_factor_right_much_so v_law_rules_so v_law_fewest_so v_law_far))), (Datum.toD (imax (alaw_factor_right_much_so v_law_rules_so v_law_fewest_so v_law_far))), (Datum.toD (alaw_factor_right_much_so v_law_rules_so v_law_fewest_so v_law_far)), (Datum.toD (m_law_crossing v_law_rules_so.2)), (Datum.toD (decide ((imax (alaw_factor_right_much_so v_law_rules_so v_law_fewest_so v_law_far)) = (1 : Int))))] : List PyData)
def m_law_factor_right (v_law_rules_so : Rules) (v_law_fewest_so : Int) (v_law_far : Int) : Bool := true
def N_law_factor_right : List Str := ["_law_rules_so", "_law_fewest_so", "_law_far", "_law_tags", "_law_groups_so", "_law_much_so", "_law_tag", "_law_got", "_law_due"]
theorem sc_law_factor_right : FnScope N_law_factor_right ["_law_rules_so", "_law_fewest_so", "_law_far"] (defScope s__law_factor_right) := ⟨rfl, rfl, rfl, by decide +kernel, rfl, by decide +kernel, by decide +kernel⟩
theorem R_same.go {n : Nat} {G D : List PyData} (hs : sameT n (.list G) = true) (he : G = D) : R_same n [.dat (.list G), .dat (.list D)] [] (dd true) [] := ⟨.list G, hs, congrArg (fun z => [Sl.dat (.list G), Sl.dat (.list z)]) he.symm, rfl, rfl, rfl⟩
theorem fr_ne {R : Rules} {a b : Int} (h : WR R) : alaw_factor_right_much_so R a b ≠ [] := fun e => h.k1 (List.map_eq_nil_iff.mp e)
/-- what _law_factor_right counts on -/
structure FrP (R : Rules) (fw far : Int) : Prop where
  wr : WR R
  sam : sameT 6 (.list (alaw_factor_right_got1 R fw far)) = true
  same : alaw_factor_right_got1 R fw far = alaw_factor_right_due R fw far ++ ([(Datum.toD (-((-(7 : Int)) / (imax (alaw_factor_right_much_so R fw far))))), (Datum.toD ((3 : Int) * (imax (alaw_factor_right_much_so R fw far))))] : List PyData)
  lo : 1 ≤ imax (alaw_factor_right_much_so R fw far)
  hi : imax (alaw_factor_right_much_so R fw far) ≤ 16
  ge : far ≤ fw * imax (alaw_factor_right_much_so R fw far)
  worst : m_law_worst_right R (imax (alaw_factor_right_much_so R fw far)) = true
theorem fr_mul {a b : Int} (h : 1 ≤ b) (k : b ≤ 16) : CMul a b := by
  unfold CMul
  omega
theorem fr_div {a b : Int} (h : 1 ≤ b) (k : b ≤ 16) : CDiv a b := by
  unfold CDiv
  omega
theorem fr_end {a b : Int} {q : Bool} (h : a ≤ b) (k : q = true) : (decide (a ≤ b) && q) = true := by rw [k, decide_eq_true h]; rfl
abbrev R_law_factor_right : Rel := P3 (fun (v_law_rules_so : Rules) (v_law_fewest_so : Int) (v_law_far : Int) => FrP v_law_rules_so v_law_fewest_so v_law_far) (fun (v_law_rules_so : Rules) (v_law_fewest_so : Int) (v_law_far : Int) => dd (m_law_factor_right v_law_rules_so v_law_fewest_so v_law_far))
theorem h_law_factor_right (W : Wld P w K mg base) : Has P w K mg base 15 "_law_factor_right" R_law_factor_right := by
  refine has_of (k := 14) W.g W.d_law_factor_right sc_law_factor_right (fun _ _ _ _ _ _ us hl => match us, hl with | [_, _, _], _ => rfl) (fun rs μ r μ' h => by obtain ⟨a0, a1, a2, h⟩ := h; rw [h.2.1]; rfl) ?_
  rintro f cdv A outer s H E rs μ r μ' c ⟨v_law_rules_so, v_law_fewest_so, v_law_far, hp, rfl, rfl, rfl, rfl⟩
  exact ⟨_, (ss_cons (st_unp c [3, 4] (ev_name 0) (eg_tup c (egs_cons (eg_name c 3) (egs_cons (eg_name c 4) egs_nil))))
    (ss_cons (st_setB c 5 (EvB.frz (lc0 [("_law_tag", 6)] v_law_rules_so.1.items (fun x1 => (m_law_bare v_law_rules_so x1)) c (ei_tup (ev_name 3)) (blkOk_by (by kernel_rfl)) (fun x1 hx1 => ⟨_, fun _ c => eg_name c 6, fun _ c => (ev_call (h_law_bare W) c (ea_cons (ev_name 0) (ea_cons (ev_name 6) ea_nil)) (P2.go hp.wr))⟩))) (sw_true rfl rfl rfl rfl))
    (ss_cons (st_set c 7 (Ev.frz (ev_list (ds := [(Datum.toD (m_factors v_law_rules_so)), (Datum.toD (m_factor v_law_rules_so)), (Datum.toD (v_law_rules_so.1.items.map fun x2 => (m_bare_number v_law_rules_so x2)))]) (ea_cons (ev_call (h_factors W) c (ea_cons (ev_name 0) ea_nil) (P1.go hp.wr)) (ea_cons (ev_call (h_factor W) c (ea_cons (ev_name 0) ea_nil) (P1.go hp.wr)) (ea_cons (Ev.frz' (EvB.pe (lc0 [("_law_tag", 6)] v_law_rules_so.1.items (fun x2 => (m_bare_number v_law_rules_so x2)) c (ei_tup (ev_name 3)) (blkOk_by (by kernel_rfl)) (fun x2 hx2 => ⟨_, fun _ c => eg_name c 6, fun _ c => (ev_call (h_bare_number W) c (ea_cons (ev_name 0) (ea_cons (ev_name 6) ea_nil)) (P2.go ⟨hp.wr, hx2⟩))⟩)))) ea_nil))) (Nat.le_of_ble_eq_true rfl))))
    (ss_cons (st_set c 7 (Ev.frz (ev_op (f_catL (ds := (alaw_factor_right_got v_law_rules_so v_law_fewest_so v_law_far)) (es := ([(Datum.toD (m_crossing v_law_rules_so)), (Datum.toD (m_is_nested v_law_rules_so)), (Datum.toD (m_least_served v_law_rules_so (7 : Int))), (Datum.toD (m_greatest_most v_law_rules_so (3 : Int)))] : List PyData)) rfl rfl (Nat.le_of_ble_eq_true rfl)) (ev_name 7) (ev_list (ds := [(Datum.toD (m_crossing v_law_rules_so)), (Datum.toD (m_is_nested v_law_rules_so)), (Datum.toD (m_least_served v_law_rules_so (7 : Int))), (Datum.toD (m_greatest_most v_law_rules_so (3 : Int)))]) (ea_cons (Ev.frz' (ev_call (h_crossing W) c (ea_cons (ev_name 0) ea_nil) (P1.go hp.wr))) (ea_cons (ev_call (h_is_nested W) c (ea_cons (ev_name 0) ea_nil) (P1.go hp.wr)) (ea_cons (ev_call (h_least_served W) c (ea_cons (ev_name 0) (ea_cons ev_int ea_nil)) (P2.go hp.wr)) (ea_cons (ev_call (h_greatest_most W) c (ea_cons (ev_name 0) (ea_cons ev_int ea_nil)) (P2.go ⟨hp.wr, by decide, by decide⟩)) ea_nil)))) (Nat.le_of_ble_eq_true rfl)))))
    (ss_cons (st_set c 8 (Ev.frz (ev_list (ds := [(Datum.toD (Tup.mk (alaw_factor_right_much_so v_law_rules_so v_law_fewest_so v_law_far))), (Datum.toD (imax (alaw_factor_right_much_so v_law_rules_so v_law_fewest_so v_law_far))), (Datum.toD (alaw_factor_right_much_so v_law_rules_so v_law_fewest_so v_law_far)), (Datum.toD (m_law_crossing v_law_rules_so.2)), (Datum.toD (decide ((imax (alaw_factor_right_much_so v_law_rules_so v_law_fewest_so v_law_far)) = (1 : Int))))]) (ea_cons (ev_ct (c_tuple (xs := (alaw_factor_right_much_so v_law_rules_so v_law_fewest_so v_law_far)) rfl) c.b_tuple (ea_cons (ev_name 5) ea_nil)) (ea_cons (ev_cb (c_maxL c (xs := (alaw_factor_right_much_so v_law_rules_so v_law_fewest_so v_law_far)) rfl (fr_ne hp.wr)) c.b_max (ea_cons (ev_name 5) ea_nil)) (ea_cons (ev_name 5) (ea_cons (Ev.frz' (ev_call (h_law_crossing W) c (ea_cons (ev_name 4) ea_nil) (P1.go hp.wr.gl))) (ea_cons (ev_cp (f_eq c (x := (imax (alaw_factor_right_much_so v_law_rules_so v_law_fewest_so v_law_far))) (y := (1 : Int)) rfl rfl) (ev_cb (c_maxL c (xs := (alaw_factor_right_much_so v_law_rules_so v_law_fewest_so v_law_far)) rfl (fr_ne hp.wr)) c.b_max (ea_cons (ev_name 5) ea_nil)) ev_int) ea_nil))))) (Nat.le_of_ble_eq_true rfl))))
    (ss_cons (st_ifno (et_not (et_val (ev_call (has_same W 6) c (ea_cons (ev_name 7) (ea_cons (Ev.frz (ev_op (f_catL (ds := (alaw_factor_right_due v_law_rules_so v_law_fewest_so v_law_far)) (es := ([(Datum.toD (-((-(7 : Int)) / (imax (alaw_factor_right_much_so v_law_rules_so v_law_fewest_so v_law_far))))), (Datum.toD ((3 : Int) * (imax (alaw_factor_right_much_so v_law_rules_so v_law_fewest_so v_law_far))))] : List PyData)) rfl rfl (Nat.le_of_ble_eq_true rfl)) (ev_name 8) (ev_list (ds := [(Datum.toD (-((-(7 : Int)) / (imax (alaw_factor_right_much_so v_law_rules_so v_law_fewest_so v_law_far))))), (Datum.toD ((3 : Int) * (imax (alaw_factor_right_much_so v_law_rules_so v_law_fewest_so v_law_far))))]) (ea_cons (ev_neg (ev_op (f_fdiv (i := (-(7 : Int))) (j := (imax (alaw_factor_right_much_so v_law_rules_so v_law_fewest_so v_law_far))) (fr_div hp.lo hp.hi)) (ev_neg ev_int) (ev_cb (c_maxL c (xs := (alaw_factor_right_much_so v_law_rules_so v_law_fewest_so v_law_far)) rfl (fr_ne hp.wr)) c.b_max (ea_cons (ev_name 5) ea_nil)))) (ea_cons (ev_op (f_mul (i := (3 : Int)) (j := (imax (alaw_factor_right_much_so v_law_rules_so v_law_fewest_so v_law_far))) (fr_mul hp.lo hp.hi)) ev_int (ev_cb (c_maxL c (xs := (alaw_factor_right_much_so v_law_rules_so v_law_fewest_so v_law_far)) rfl (fr_ne hp.wr)) c.b_max (ea_cons (ev_name 5) ea_nil))) ea_nil)) (Nat.le_of_ble_eq_true rfl)))) ea_nil)) (R_same.go (G := (alaw_factor_right_got1 v_law_rules_so v_law_fewest_so v_law_far)) (D := ((alaw_factor_right_due v_law_rules_so v_law_fewest_so v_law_far) ++ ([(Datum.toD (-((-(7 : Int)) / (imax (alaw_factor_right_much_so v_law_rules_so v_law_fewest_so v_law_far))))), (Datum.toD ((3 : Int) * (imax (alaw_factor_right_much_so v_law_rules_so v_law_fewest_so v_law_far))))] : List PyData))) hp.sam hp.same)))) rfl)
    (ss_end (st_ret (evq (ev_and (ev_cp f_ge (ev_op (f_mul (i := v_law_fewest_so) (j := (imax (alaw_factor_right_much_so v_law_rules_so v_law_fewest_so v_law_far))) (fr_mul hp.lo hp.hi)) (ev_name 1) (ev_cb (c_maxL c (xs := (alaw_factor_right_much_so v_law_rules_so v_law_fewest_so v_law_far)) rfl (fr_ne hp.wr)) c.b_max (ea_cons (ev_name 5) ea_nil))) (ev_name 2)) (fun hbo => (ev_one (ev_call (h_law_worst_right W) c (ea_cons (ev_name 0) (ea_cons (ev_cb (c_maxL c (xs := (alaw_factor_right_much_so v_law_rules_so v_law_fewest_so v_law_far)) rfl (fr_ne hp.wr)) c.b_max (ea_cons (ev_name 5) ea_nil)) ea_nil)) (P2.go ⟨hp.wr, Int.le_trans (by decide) hp.lo, Int.le_trans hp.hi (by decide)⟩))))) (fr_end hp.ge hp.worst)))))))))), .rt .dat⟩
end
end CL
end
section
set_option autoImplicit false
set_option maxHeartbeats 4000000
namespace CL
open PySem PySem.Spec PyProof.Rows L2 DL
open PySem.W (Datum Tup DatumOrd Holds HoldAll T3)
/-! Contracts 20: of the law. -/
section
variable {P : Program} {w : World} {K : PySem.W.Frag} {mg : Str → Option Value} {base : Heap}

/-! ### _law_all_right -/
def alaw_all_right_lots_so (v_law_rules_so : Rules) (v_law_tops_so : (Tup Int)) (v_law_many_so : (Tup Int)) (v_law_row_so : (Tup Str)) : (List (Tup Int)) := ((m_law_lots v_law_many_so).filter fun x1 => (m_law_keeps v_law_rules_so v_law_tops_so x1))
def alaw_all_right_ends_so (v_law_rules_so : Rules) (v_law_tops_so : (Tup Int)) (v_law_many_so : (Tup Int)) (v_law_row_so : (Tup Str)) : (List (Tup Int)) := (m_law_ends v_law_rules_so v_law_tops_so v_law_many_so)
def alaw_all_right_told_so (v_law_rules_so : Rules) (v_law_tops_so : (Tup Int)) (v_law_many_so : (Tup Int)) (v_law_row_so : (Tup Str)) : ((Tup Bool) × (Tup Int)) := (m_law_served v_law_rules_so v_law_tops_so v_law_row_so)
def alaw_all_right_far (v_law_rules_so : Rules) (v_law_tops_so : (Tup Int)) (v_law_many_so : (Tup Int)) (v_law_row_so : (Tup Str)) : Int := (imax ((alaw_all_right_lots_so v_law_rules_so v_law_tops_so v_law_many_so v_law_row_so).map fun (x2 : Tup Int) => x2.items.sum))
def alaw_all_right_got (v_law_rules_so : Rules) (v_law_tops_so : (Tup Int)) (v_law_many_so : (Tup Int)) (v_law_row_so : (Tup Str)) : (List PyData) := ([(Datum.toD (m_all_lots v_law_rules_so v_law_tops_so v_law_many_so)), (Datum.toD (m_all_ends v_law_rules_so v_law_tops_so v_law_many_so))] : List PyData)
def alaw_all_right_got1 (v_law_rules_so : Rules) (v_law_tops_so : (Tup Int)) (v_law_many_so : (Tup Int)) (v_law_row_so : (Tup Str)) : (List PyData) := ((alaw_all_right_got v_law_rules_so v_law_tops_so v_law_many_so v_law_row_so) ++ ([(Datum.toD (m_most v_law_rules_so v_law_tops_so v_law_many_so)), (Datum.toD (m_served v_law_rules_so v_law_tops_so v_law_row_so)), (Datum.toD (m_end_of v_law_rules_so v_law_tops_so v_law_row_so))] : List PyData))
def alaw_all_right_got2 (v_law_rules_so : Rules) (v_law_tops_so : (Tup Int)) (v_law_many_so : (Tup Int)) (v_law_row_so : (Tup Str)) : (List PyData) := ((alaw_all_right_got1 v_law_rules_so v_law_tops_so v_law_many_so v_law_row_so) ++ ([(Datum.toD (m_end_sizes v_law_rules_so v_law_tops_so v_law_many_so).items), (Datum.toD (m_spans_of v_law_rules_so v_law_tops_so v_law_many_so))] : List PyData))
def flaw_all_right_1 (v_law_rules_so : Rules) (v_law_tops_so : (Tup Int)) (v_law_many_so : (Tup Int)) (v_law_row_so : (Tup Str)) : List (T3 Str Int Int) := ((enumL v_law_rules_so.1.items).foldl (fun (t1 : List (T3 Str Int Int)) u1 => (t1 ++ [(⟨u1.2, (imin ((alaw_all_right_ends_so v_law_rules_so v_law_tops_so v_law_many_so v_law_row_so).map fun (x4 : Tup Int) => (x4.items.getD u1.1.toNat (0 : Int)))), (imax ((alaw_all_right_ends_so v_law_rules_so v_law_tops_so v_law_many_so v_law_row_so).map fun (x5 : Tup Int) => (x5.items.getD u1.1.toNat (0 : Int))))⟩ : (T3 Str Int Int))])) ([] : List (T3 Str Int Int)))
def alaw_all_right_fits (v_law_rules_so : Rules) (v_law_tops_so : (Tup Int)) (v_law_many_so : (Tup Int)) (v_law_row_so : (Tup Str)) : Bool := (m_law_keeps v_law_rules_so v_law_tops_so v_law_many_so)
def alaw_all_right_got3 (v_law_rules_so : Rules) (v_law_tops_so : (Tup Int)) (v_law_many_so : (Tup Int)) (v_law_row_so : (Tup Str)) : (List PyData) := ((alaw_all_right_got2 v_law_rules_so v_law_tops_so v_law_many_so v_law_row_so) ++ ([(Datum.toD (m_all_sure v_law_rules_so v_law_tops_so v_law_many_so)), (Datum.toD (m_keeps v_law_rules_so v_law_tops_so v_law_many_so)), (Datum.toD (m_loads v_law_rules_so v_law_many_so))] : List PyData))
def alaw_all_right_got4 (v_law_rules_so : Rules) (v_law_tops_so : (Tup Int)) (v_law_many_so : (Tup Int)) (v_law_row_so : (Tup Str)) : (List PyData) := ((alaw_all_right_got3 v_law_rules_so v_law_tops_so v_law_many_so v_law_row_so) ++ ([(Datum.toD (((alaw_all_right_ends_so v_law_rules_so v_law_tops_so v_law_many_so v_law_row_so).map fun (x7 : Tup Int) => (m_is_end v_law_rules_so v_law_tops_so v_law_many_so x7)).all id))] : List PyData))
def alaw_all_right_got5 (v_law_rules_so : Rules) (v_law_tops_so : (Tup Int)) (v_law_many_so : (Tup Int)) (v_law_row_so : (Tup Str)) : (List PyData) := ((alaw_all_right_got4 v_law_rules_so v_law_tops_so v_law_many_so v_law_row_so) ++ ([(Datum.toD (m_full_groups v_law_rules_so v_law_tops_so (alaw_all_right_told_so v_law_rules_so v_law_tops_so v_law_many_so v_law_row_so).2).items)] : List PyData))
def flaw_all_right_2 (v_law_rules_so : Rules) (v_law_tops_so : (Tup Int)) (v_law_many_so : (Tup Int)) (v_law_row_so : (Tup Str)) : (List (Tup Str)) := ((v_law_rules_so.2.items.zip v_law_tops_so.items).foldl (fun (t2 : (List (Tup Str))) u2 => (t2 ++ (if (decide (u2.2 ≤ (m_law_load v_law_rules_so (alaw_all_right_told_so v_law_rules_so v_law_tops_so v_law_many_so v_law_row_so).2 u2.1))) = true then [u2.1] else ([] : List (Tup Str))))) ([] : List (Tup Str)))
def m_law_all_right (v_law_rules_so : Rules) (v_law_tops_so : (Tup Int)) (v_law_many_so : (Tup Int)) (v_law_row_so : (Tup Str)) : Bool := true
def N_law_all_right : List Str := ["_law_rules_so", "_law_tops_so", "_law_many_so", "_law_row_so", "_law_tags", "_law_groups_so", "_law_lots_so", "_law_own", "_law_ends_so", "_law_told_so", "_law_far", "_law_got", "_law_due", "_law_spans_so", "_law_k", "_law_tag", "_law_fits", "_law_full_so", "_law_group_so", "_law_top_so"]
theorem sc_law_all_right : FnScope N_law_all_right ["_law_rules_so", "_law_tops_so", "_law_many_so", "_law_row_so"] (defScope s__law_all_right) := ⟨rfl, rfl, rfl, by decide +kernel, rfl, by decide +kernel, by decide +kernel⟩
abbrev arDue (v_law_rules_so : Rules) (v_law_tops_so : (Tup Int)) (v_law_many_so : (Tup Int)) (v_law_row_so : (Tup Str)) : List PyData := ((((([(Datum.toD (alaw_all_right_lots_so v_law_rules_so v_law_tops_so v_law_many_so v_law_row_so)), (Datum.toD (alaw_all_right_ends_so v_law_rules_so v_law_tops_so v_law_many_so v_law_row_so)), (Datum.toD (alaw_all_right_far v_law_rules_so v_law_tops_so v_law_many_so v_law_row_so)), (Datum.toD (alaw_all_right_told_so v_law_rules_so v_law_tops_so v_law_many_so v_law_row_so).1), (Datum.toD (alaw_all_right_told_so v_law_rules_so v_law_tops_so v_law_many_so v_law_row_so).2)] : List PyData) ++ [(Datum.toD (setAsc ((alaw_all_right_ends_so v_law_rules_so v_law_tops_so v_law_many_so v_law_row_so).map fun (x3 : Tup Int) => x3.items.sum)))]) ++ [(Datum.toD (Tup.mk (flaw_all_right_1 v_law_rules_so v_law_tops_so v_law_many_so v_law_row_so)))]) ++ ([(Datum.toD (alaw_all_right_fits v_law_rules_so v_law_tops_so v_law_many_so v_law_row_so)), (Datum.toD (alaw_all_right_fits v_law_rules_so v_law_tops_so v_law_many_so v_law_row_so)), (Datum.toD (Tup.mk (v_law_rules_so.2.items.map fun (x6 : Tup Str) => (m_law_load v_law_rules_so v_law_many_so x6))))] : List PyData)) ++ ([(Datum.toD true), (Datum.toD (flaw_all_right_2 v_law_rules_so v_law_tops_so v_law_many_so v_law_row_so))] : List PyData))
/-- what _law_all_right counts on -/
structure ArP (R : Rules) (L D : Tup Int) (row : Tup Str) : Prop where
  wr : WR R
  wg : WG R L
  wd : WD R D
  wl : row.items.length ≤ 8
  lone : alaw_all_right_lots_so R L D row ≠ []
  mlots : m_all_lots R L D ≠ []
  mends : m_all_ends R L D ≠ []
  mbd : ∀ lot ∈ m_all_ends R L D, 0 ≤ lot.items.sum ∧ lot.items.sum ≤ 12
  ene : alaw_all_right_ends_so R L D row ≠ []
  ebd : ∀ lot ∈ alaw_all_right_ends_so R L D row, 0 ≤ lot.items.sum ∧ lot.items.sum ≤ 12
  ewk : ∀ lot ∈ alaw_all_right_ends_so R L D row, WK R lot
  efew : (alaw_all_right_ends_so R L D row).length ≤ 4000
  twk : WK R (alaw_all_right_told_so R L D row).2
  sam : sameT 6 (.list (alaw_all_right_got5 R L D row)) = true
  same : alaw_all_right_got5 R L D row = arDue R L D row
  lb : alaw_all_right_far R L D row ≤ m_least_bound R L D
  fr : FrP R (imin ((alaw_all_right_ends_so R L D row).map fun (x8 : Tup Int) => x8.items.sum)) (alaw_all_right_far R L D row)
theorem map_ne {α β : Type} {f : α → β} {xs : List α} (h : xs ≠ []) : xs.map f ≠ [] := fun e => h (List.map_eq_nil_iff.mp e)
theorem ar_set {f : Tup Int → Int} {xs : List (Tup Int)} (h : ∀ x ∈ xs, 0 ≤ f x ∧ f x ≤ 12) : ∀ z ∈ xs.map f, 0 ≤ z ∧ z < 63 := fun z hz => by
  obtain ⟨x, hx, rfl⟩ := List.mem_map.mp hz
  have a := h x hx
  omega
theorem ar_ix {R : Rules} {lot : Tup Int} {i : Nat} {u : Int × Str} (h : WK R lot) (hu : (enumL R.1.items)[i]? = some u) : u.1.toNat < lot.items.length := by
  have a := (en_ix hu).2
  unfold WK at h
  omega
theorem ar_app {R : Rules} {i : Nat} {t : List (T3 Str Int Int)} {u : Int × Str} (r : WR R) (hI : t.length ≤ i) (hu : (enumL R.1.items)[i]? = some u) : t.length ≤ 100000 := by
  have a := (List.getElem?_eq_some_iff.mp hu).1
  unfold enumL at a
  rw [List.length_map, List.length_zipIdx] at a
  have b := r.kl
  omega
theorem ar_one {q : Bool} {g : Tup Str} : (if q = true then [g] else ([] : List (Tup Str))).length ≤ 1 := by
  cases q
  · exact Nat.zero_le _
  · exact Nat.le_refl _
theorem ar_st {i : Nat} {t : List (Tup Str)} {q : Bool} {g : Tup Str} (h : t.length ≤ i) : (t ++ (if q = true then [g] else ([] : List (Tup Str)))).length ≤ i + 1 := by
  have a := ar_one (q := q) (g := g)
  rw [List.length_append]
  omega
theorem ar_cat {R : Rules} {L : Tup Int} {i : Nat} {t : List (Tup Str)} {q : Bool} {g : Tup Str} {u : Tup Str × Int} (r : WR R) (h : t.length ≤ i) (hu : (R.2.items.zip L.items)[i]? = some u) : t.length + (if q = true then [g] else ([] : List (Tup Str))).length ≤ 100000 := by
  have a := ar_one (q := q) (g := g)
  have b := (List.getElem?_eq_some_iff.mp hu).1
  rw [List.length_zip] at b
  have c := r.gl
  omega
theorem ar_no {a b : Int} (h : a ≤ b) : ((!true) || decide (b < a)) = false := by
  rw [decide_eq_false (by omega)]
  rfl
abbrev R_law_all_right : Rel := P4 (fun (v_law_rules_so : Rules) (v_law_tops_so : (Tup Int)) (v_law_many_so : (Tup Int)) (v_law_row_so : (Tup Str)) => ArP v_law_rules_so v_law_tops_so v_law_many_so v_law_row_so) (fun (v_law_rules_so : Rules) (v_law_tops_so : (Tup Int)) (v_law_many_so : (Tup Int)) (v_law_row_so : (Tup Str)) => dd (m_law_all_right v_law_rules_so v_law_tops_so v_law_many_so v_law_row_so))
theorem h_law_all_right (W : Wld P w K mg base) : Has P w K mg base 16 "_law_all_right" R_law_all_right := by
  refine has_of (k := 15) W.g W.d_law_all_right sc_law_all_right (fun _ _ _ _ _ _ us hl => match us, hl with | [_, _, _, _], _ => rfl) (fun rs μ r μ' h => by obtain ⟨a0, a1, a2, a3, h⟩ := h; rw [h.2.1]; rfl) ?_
  rintro f cdv A outer s H E rs μ r μ' c ⟨v_law_rules_so, v_law_tops_so, v_law_many_so, v_law_row_so, hp, rfl, rfl, rfl, rfl⟩
  exact ⟨_, (ss_cons (st_unp c [4, 5] (ev_name 0) (eg_tup c (egs_cons (eg_name c 4) (egs_cons (eg_name c 5) egs_nil))))
    (ss_cons (st_setB c 6 (EvB.frz (lcf [("_law_own", 7)] (m_law_lots v_law_many_so) (fun x1 => (m_law_keeps v_law_rules_so v_law_tops_so x1)) c (ei_list (ev_call (h_law_lots W) c (ea_cons (ev_name 2) ea_nil) (P1.go ⟨al_dl hp.wr hp.wd, fun d hd => ⟨hp.wd.lo d hd, hp.wd.hi d hd⟩⟩))) (blkOk_by (by kernel_rfl)) (fun x1 hx1 => ⟨_, fun _ c => eg_name c 7, fun _ c => (et_val (ev_call (h_law_keeps W) c (ea_cons (ev_name 0) (ea_cons (ev_name 1) (ea_cons (ev_name 7) ea_nil))) (P3.go trivial))), fun hif _ c => (ev_name 7)⟩))) (sw_true rfl rfl rfl rfl))
    (ss_cons (st_par c 8 9 (en_cons (ev_call (h_law_ends W) c (ea_cons (ev_name 0) (ea_cons (ev_name 1) (ea_cons (ev_name 2) ea_nil))) (P3.go ⟨hp.wr, hp.wd⟩)) (en_cons (ev_call (h_law_served W) c (ea_cons (ev_name 0) (ea_cons (ev_name 1) (ea_cons (ev_name 3) ea_nil))) (P3.go ⟨hp.wr, hp.wl⟩)) en_nil)) (.frz (.sta rfl .nil)))
    (ss_cons (st_set c 10 (ev_cb (c_maxL c (xs := ((alaw_all_right_lots_so v_law_rules_so v_law_tops_so v_law_many_so v_law_row_so).map fun (x2 : Tup Int) => x2.items.sum)) rfl (map_ne hp.lone)) c.b_max (ea_cons (EvB.pe (lc0 [("_law_own", 7)] (alaw_all_right_lots_so v_law_rules_so v_law_tops_so v_law_many_so v_law_row_so) (fun x2 => x2.items.sum) c (ei_list (ev_name 6)) (blkOk_by (by kernel_rfl)) (fun x2 hx2 => ⟨_, fun _ c => eg_name c 7, fun _ c => (ev_cb (c_sumT c (xs := x2) rfl) c.b_sum (ea_cons (ev_name 7) ea_nil))⟩))) ea_nil)))
    (ss_cons (st_set c 11 (Ev.frz (ev_list (ds := [(Datum.toD (m_all_lots v_law_rules_so v_law_tops_so v_law_many_so)), (Datum.toD (m_all_ends v_law_rules_so v_law_tops_so v_law_many_so))]) (ea_cons (ev_call (h_all_lots W) c (ea_cons (ev_name 0) (ea_cons (ev_name 1) (ea_cons (ev_name 2) ea_nil))) (P3.go ⟨hp.wr, hp.wd⟩)) (ea_cons (Ev.frz' (ev_call (h_all_ends W) c (ea_cons (ev_name 0) (ea_cons (ev_name 1) (ea_cons (ev_name 2) ea_nil))) (P3.go ⟨hp.wr, hp.wd⟩))) ea_nil)) (Nat.le_of_ble_eq_true rfl))))
    (ss_cons (st_set c 11 (Ev.frz (ev_op (f_catL (ds := (alaw_all_right_got v_law_rules_so v_law_tops_so v_law_many_so v_law_row_so)) (es := ([(Datum.toD (m_most v_law_rules_so v_law_tops_so v_law_many_so)), (Datum.toD (m_served v_law_rules_so v_law_tops_so v_law_row_so)), (Datum.toD (m_end_of v_law_rules_so v_law_tops_so v_law_row_so))] : List PyData)) rfl rfl (Nat.le_of_ble_eq_true rfl)) (ev_name 11) (ev_list (ds := [(Datum.toD (m_most v_law_rules_so v_law_tops_so v_law_many_so)), (Datum.toD (m_served v_law_rules_so v_law_tops_so v_law_row_so)), (Datum.toD (m_end_of v_law_rules_so v_law_tops_so v_law_row_so))]) (ea_cons (ev_call (h_most W) c (ea_cons (ev_name 0) (ea_cons (ev_name 1) (ea_cons (ev_name 2) ea_nil))) (P3.go ⟨⟨hp.wr, hp.wd⟩, hp.mlots⟩)) (ea_cons (ev_call (h_served W) c (ea_cons (ev_name 0) (ea_cons (ev_name 1) (ea_cons (ev_name 3) ea_nil))) (P3.go ⟨hp.wr, hp.wg, hp.wl⟩)) (ea_cons (ev_call (h_end_of W) c (ea_cons (ev_name 0) (ea_cons (ev_name 1) (ea_cons (ev_name 3) ea_nil))) (P3.go ⟨hp.wr, hp.wg, hp.wl⟩)) ea_nil))) (Nat.le_of_ble_eq_true rfl)))))
    (ss_cons (st_new c 12 (ev_list (ds := [(Datum.toD (alaw_all_right_lots_so v_law_rules_so v_law_tops_so v_law_many_so v_law_row_so)), (Datum.toD (alaw_all_right_ends_so v_law_rules_so v_law_tops_so v_law_many_so v_law_row_so)), (Datum.toD (alaw_all_right_far v_law_rules_so v_law_tops_so v_law_many_so v_law_row_so)), (Datum.toD (alaw_all_right_told_so v_law_rules_so v_law_tops_so v_law_many_so v_law_row_so).1), (Datum.toD (alaw_all_right_told_so v_law_rules_so v_law_tops_so v_law_many_so v_law_row_so).2)]) (ea_cons (ev_name 6) (ea_cons (ev_name 8) (ea_cons (ev_name 10) (ea_cons (ev_fst (q := (alaw_all_right_told_so v_law_rules_so v_law_tops_so v_law_many_so v_law_row_so)) (ev_name 9)) (ea_cons (ev_snd (q := (alaw_all_right_told_so v_law_rules_so v_law_tops_so v_law_many_so v_law_row_so)) (ev_name 9)) ea_nil))))) (Nat.le_of_ble_eq_true rfl)))
    (ss_cons (st_set c 11 (Ev.frz (ev_op (f_catL (ds := (alaw_all_right_got1 v_law_rules_so v_law_tops_so v_law_many_so v_law_row_so)) (es := ([(Datum.toD (m_end_sizes v_law_rules_so v_law_tops_so v_law_many_so).items), (Datum.toD (m_spans_of v_law_rules_so v_law_tops_so v_law_many_so))] : List PyData)) rfl rfl (Nat.le_of_ble_eq_true rfl)) (ev_name 11) (ev_list (ds := [(Datum.toD (m_end_sizes v_law_rules_so v_law_tops_so v_law_many_so).items), (Datum.toD (m_spans_of v_law_rules_so v_law_tops_so v_law_many_so))]) (ea_cons (Ev.frz' (ev_ct (c_listT (ds := ((m_end_sizes v_law_rules_so v_law_tops_so v_law_many_so).items).map Datum.toD) rfl) c.b_list (ea_cons (ev_call (h_end_sizes W) c (ea_cons (ev_name 0) (ea_cons (ev_name 1) (ea_cons (ev_name 2) ea_nil))) (P3.go ⟨⟨hp.wr, hp.wd⟩, hp.mends, hp.mbd⟩)) ea_nil))) (ea_cons (ev_call (h_spans_of W) c (ea_cons (ev_name 0) (ea_cons (ev_name 1) (ea_cons (ev_name 2) ea_nil))) (P3.go ⟨hp.wr, hp.wd, hp.wg⟩)) ea_nil)) (Nat.le_of_ble_eq_true rfl)))))
    (ss_cons (st_expr (ev_append (n := 0) (xs := ([(Datum.toD (alaw_all_right_lots_so v_law_rules_so v_law_tops_so v_law_many_so v_law_row_so)), (Datum.toD (alaw_all_right_ends_so v_law_rules_so v_law_tops_so v_law_many_so v_law_row_so)), (Datum.toD (alaw_all_right_far v_law_rules_so v_law_tops_so v_law_many_so v_law_row_so)), (Datum.toD (alaw_all_right_told_so v_law_rules_so v_law_tops_so v_law_many_so v_law_row_so).1), (Datum.toD (alaw_all_right_told_so v_law_rules_so v_law_tops_so v_law_many_so v_law_row_so).2)] : List PyData)) (ev_name 12) (Ev.frz' (ev_sortedSet (xs := ((alaw_all_right_ends_so v_law_rules_so v_law_tops_so v_law_many_so v_law_row_so).map fun (x3 : Tup Int) => x3.items.sum)) c (EvB.pe (lc0 [("_law_own", 7)] (alaw_all_right_ends_so v_law_rules_so v_law_tops_so v_law_many_so v_law_row_so) (fun x3 => x3.items.sum) c (ei_list (ev_name 8)) (blkOk_by (by kernel_rfl)) (fun x3 hx3 => ⟨_, fun _ c => eg_name c 7, fun _ c => (ev_cb (c_sumT c (xs := x3) rfl) c.b_sum (ea_cons (ev_name 7) ea_nil))⟩))) rfl (by rw [List.length_map]; exact hp.efew) (ar_set hp.ebd))) ⟨_, rfl⟩ rfl (Nat.le_of_ble_eq_true rfl)))
    (ss_cons (st_new c 13 (ev_lst0 (α := (T3 Str Int Int))))
    (ss_cons (st_fold [14, 15] (enumL v_law_rules_so.1.items) (fun (t1 : List (T3 Str Int Int)) u1 => (t1 ++ [(⟨u1.2, (imin ((alaw_all_right_ends_so v_law_rules_so v_law_tops_so v_law_many_so v_law_row_so).map fun (x4 : Tup Int) => (x4.items.getD u1.1.toNat (0 : Int)))), (imax ((alaw_all_right_ends_so v_law_rules_so v_law_tops_so v_law_many_so v_law_row_so).map fun (x5 : Tup Int) => (x5.items.getD u1.1.toNat (0 : Int))))⟩ : (T3 Str Int Int))])) ([] : List (T3 Str Int Int)) (fun t1 => [dd v_law_rules_so, dd v_law_tops_so, dd v_law_many_so, dd v_law_row_so, dd v_law_rules_so.1, dd v_law_rules_so.2, dd (alaw_all_right_lots_so v_law_rules_so v_law_tops_so v_law_many_so v_law_row_so), .un, dd (alaw_all_right_ends_so v_law_rules_so v_law_tops_so v_law_many_so v_law_row_so), dd (alaw_all_right_told_so v_law_rules_so v_law_tops_so v_law_many_so v_law_row_so), dd (alaw_all_right_far v_law_rules_so v_law_tops_so v_law_many_so v_law_row_so), .dat (.list (alaw_all_right_got2 v_law_rules_so v_law_tops_so v_law_many_so v_law_row_so)), .cel 0, .cel 1, .un, .un, .un, .un, .un, .un]) (fun t1 => [some (([(Datum.toD (alaw_all_right_lots_so v_law_rules_so v_law_tops_so v_law_many_so v_law_row_so)), (Datum.toD (alaw_all_right_ends_so v_law_rules_so v_law_tops_so v_law_many_so v_law_row_so)), (Datum.toD (alaw_all_right_far v_law_rules_so v_law_tops_so v_law_many_so v_law_row_so)), (Datum.toD (alaw_all_right_told_so v_law_rules_so v_law_tops_so v_law_many_so v_law_row_so).1), (Datum.toD (alaw_all_right_told_so v_law_rules_so v_law_tops_so v_law_many_so v_law_row_so).2)] : List PyData) ++ [(Datum.toD (setAsc ((alaw_all_right_ends_so v_law_rules_so v_law_tops_so v_law_many_so v_law_row_so).map fun (x3 : Tup Int) => x3.items.sum)))]), cl t1]) (fun i (t : List (T3 Str Int Int)) => t.length ≤ i) c (EvI.cast (ei_enumT c (ev_name 4)) (enumD_map _)) (Nat.le_refl _) Fits.refl rfl (fun i t1 u1 hu1 hI1 => ⟨(sp_step hI1), _, _, eg_tup c (egs_cons (eg_name c 14) (egs_cons (eg_name c 15) egs_nil)), (ss_cons (st_expr (ev_appendT (n := 1) (xs := t1) (ys := t1) (x := (⟨u1.2, (imin ((alaw_all_right_ends_so v_law_rules_so v_law_tops_so v_law_many_so v_law_row_so).map fun (x4 : Tup Int) => (x4.items.getD u1.1.toNat (0 : Int)))), (imax ((alaw_all_right_ends_so v_law_rules_so v_law_tops_so v_law_many_so v_law_row_so).map fun (x5 : Tup Int) => (x5.items.getD u1.1.toNat (0 : Int))))⟩ : (T3 Str Int Int))) (ev_name 13) (ev_trip (ev_name 15) (ev_cb (c_minL c (xs := ((alaw_all_right_ends_so v_law_rules_so v_law_tops_so v_law_many_so v_law_row_so).map fun (x4 : Tup Int) => (x4.items.getD u1.1.toNat (0 : Int)))) rfl (map_ne hp.ene)) c.b_min (ea_cons (EvB.pe (lc0 [("_law_own", 7)] (alaw_all_right_ends_so v_law_rules_so v_law_tops_so v_law_many_so v_law_row_so) (fun x4 => (x4.items.getD u1.1.toNat (0 : Int))) c (ei_list (ev_name 8)) (blkOk_by (by kernel_rfl)) (fun x4 hx4 => ⟨_, fun _ c => eg_name c 7, fun _ c => (ev_ixTD (n := u1.1.toNat) (0 : Int) (ev_name 7) (ev_name 14) (en_ix hu1).1 (ar_ix (hp.ewk _ hx4) hu1))⟩))) ea_nil)) (ev_cb (c_maxL c (xs := ((alaw_all_right_ends_so v_law_rules_so v_law_tops_so v_law_many_so v_law_row_so).map fun (x5 : Tup Int) => (x5.items.getD u1.1.toNat (0 : Int)))) rfl (map_ne hp.ene)) c.b_max (ea_cons (EvB.pe (lc0 [("_law_own", 7)] (alaw_all_right_ends_so v_law_rules_so v_law_tops_so v_law_many_so v_law_row_so) (fun x5 => (x5.items.getD u1.1.toNat (0 : Int))) c (ei_list (ev_name 8)) (blkOk_by (by kernel_rfl)) (fun x5 hx5 => ⟨_, fun _ c => eg_name c 7, fun _ c => (ev_ixTD (n := u1.1.toNat) (0 : Int) (ev_name 7) (ev_name 14) (en_ix hu1).1 (ar_ix (hp.ewk _ hx5) hu1))⟩))) ea_nil))) rfl rfl (ar_app hp.wr hI1 hu1)))
    ss_nil), .nx (.keep (.keep (.keep (.keep (.keep (.keep (.keep (.keep (.keep (.keep (.keep (.keep (.keep (.keep (.drop (.drop (.keep (.keep (.keep (.keep .nil))))))))))))))))))))⟩))
    (ss_cons (st_expr (ev_append (n := 0) (xs := (([(Datum.toD (alaw_all_right_lots_so v_law_rules_so v_law_tops_so v_law_many_so v_law_row_so)), (Datum.toD (alaw_all_right_ends_so v_law_rules_so v_law_tops_so v_law_many_so v_law_row_so)), (Datum.toD (alaw_all_right_far v_law_rules_so v_law_tops_so v_law_many_so v_law_row_so)), (Datum.toD (alaw_all_right_told_so v_law_rules_so v_law_tops_so v_law_many_so v_law_row_so).1), (Datum.toD (alaw_all_right_told_so v_law_rules_so v_law_tops_so v_law_many_so v_law_row_so).2)] : List PyData) ++ [(Datum.toD (setAsc ((alaw_all_right_ends_so v_law_rules_so v_law_tops_so v_law_many_so v_law_row_so).map fun (x3 : Tup Int) => x3.items.sum)))])) (ev_name 12) (ev_ct (c_tuple (xs := (flaw_all_right_1 v_law_rules_so v_law_tops_so v_law_many_so v_law_row_so)) rfl) c.b_tuple (ea_cons (ev_name 13) ea_nil)) ⟨_, rfl⟩ rfl (Nat.le_of_ble_eq_true rfl)))
    (ss_cons (st_set c 16 (ev_call (h_law_keeps W) c (ea_cons (ev_name 0) (ea_cons (ev_name 1) (ea_cons (ev_name 2) ea_nil))) (P3.go trivial)))
    (ss_cons (st_set c 11 (Ev.frz (ev_op (f_catL (ds := (alaw_all_right_got2 v_law_rules_so v_law_tops_so v_law_many_so v_law_row_so)) (es := ([(Datum.toD (m_all_sure v_law_rules_so v_law_tops_so v_law_many_so)), (Datum.toD (m_keeps v_law_rules_so v_law_tops_so v_law_many_so)), (Datum.toD (m_loads v_law_rules_so v_law_many_so))] : List PyData)) rfl rfl (Nat.le_of_ble_eq_true rfl)) (ev_name 11) (ev_list (ds := [(Datum.toD (m_all_sure v_law_rules_so v_law_tops_so v_law_many_so)), (Datum.toD (m_keeps v_law_rules_so v_law_tops_so v_law_many_so)), (Datum.toD (m_loads v_law_rules_so v_law_many_so))]) (ea_cons (ev_call (h_all_sure W) c (ea_cons (ev_name 0) (ea_cons (ev_name 1) (ea_cons (ev_name 2) ea_nil))) (P3.go ⟨hp.wr, hp.wd.len⟩)) (ea_cons (ev_call (h_keeps W) c (ea_cons (ev_name 0) (ea_cons (ev_name 1) (ea_cons (ev_name 2) ea_nil))) (P3.go ⟨hp.wr, hp.wd.len⟩)) (ea_cons (ev_call (h_loads W) c (ea_cons (ev_name 0) (ea_cons (ev_name 2) ea_nil)) (P2.go ⟨hp.wr, hp.wd.len⟩)) ea_nil))) (Nat.le_of_ble_eq_true rfl)))))
    (ss_cons (st_new c 12 (ev_op (f_catL (ds := ((([(Datum.toD (alaw_all_right_lots_so v_law_rules_so v_law_tops_so v_law_many_so v_law_row_so)), (Datum.toD (alaw_all_right_ends_so v_law_rules_so v_law_tops_so v_law_many_so v_law_row_so)), (Datum.toD (alaw_all_right_far v_law_rules_so v_law_tops_so v_law_many_so v_law_row_so)), (Datum.toD (alaw_all_right_told_so v_law_rules_so v_law_tops_so v_law_many_so v_law_row_so).1), (Datum.toD (alaw_all_right_told_so v_law_rules_so v_law_tops_so v_law_many_so v_law_row_so).2)] : List PyData) ++ [(Datum.toD (setAsc ((alaw_all_right_ends_so v_law_rules_so v_law_tops_so v_law_many_so v_law_row_so).map fun (x3 : Tup Int) => x3.items.sum)))]) ++ [(Datum.toD (Tup.mk (flaw_all_right_1 v_law_rules_so v_law_tops_so v_law_many_so v_law_row_so)))])) (es := ([(Datum.toD (alaw_all_right_fits v_law_rules_so v_law_tops_so v_law_many_so v_law_row_so)), (Datum.toD (alaw_all_right_fits v_law_rules_so v_law_tops_so v_law_many_so v_law_row_so)), (Datum.toD (Tup.mk (v_law_rules_so.2.items.map fun (x6 : Tup Str) => (m_law_load v_law_rules_so v_law_many_so x6))))] : List PyData)) rfl rfl (Nat.le_of_ble_eq_true rfl)) (ev_name 12) (ev_list (ds := [(Datum.toD (alaw_all_right_fits v_law_rules_so v_law_tops_so v_law_many_so v_law_row_so)), (Datum.toD (alaw_all_right_fits v_law_rules_so v_law_tops_so v_law_many_so v_law_row_so)), (Datum.toD (Tup.mk (v_law_rules_so.2.items.map fun (x6 : Tup Str) => (m_law_load v_law_rules_so v_law_many_so x6))))]) (ea_cons (ev_name 16) (ea_cons (ev_name 16) (ea_cons (ev_ct (c_tuple (xs := (v_law_rules_so.2.items.map fun (x6 : Tup Str) => (m_law_load v_law_rules_so v_law_many_so x6))) rfl) c.b_tuple (ea_cons (EvB.pe (lc0 [("_law_own", 7)] v_law_rules_so.2.items (fun x6 => (m_law_load v_law_rules_so v_law_many_so x6)) c (ei_tup (ev_name 5)) (blkOk_by (by kernel_rfl)) (fun x6 hx6 => ⟨_, fun _ c => eg_name c 7, fun _ c => (ev_call (h_law_load W) c (ea_cons (ev_name 0) (ea_cons (ev_name 2) (ea_cons (ev_name 7) ea_nil))) (P3.go trivial))⟩))) ea_nil)) ea_nil))) (Nat.le_of_ble_eq_true rfl))))
    (ss_cons (st_set c 11 (Ev.frz (ev_op (f_catL (ds := (alaw_all_right_got3 v_law_rules_so v_law_tops_so v_law_many_so v_law_row_so)) (es := ([(Datum.toD (((alaw_all_right_ends_so v_law_rules_so v_law_tops_so v_law_many_so v_law_row_so).map fun (x7 : Tup Int) => (m_is_end v_law_rules_so v_law_tops_so v_law_many_so x7)).all id))] : List PyData)) rfl rfl (Nat.le_of_ble_eq_true rfl)) (ev_name 11) (ev_list (ds := [(Datum.toD (((alaw_all_right_ends_so v_law_rules_so v_law_tops_so v_law_many_so v_law_row_so).map fun (x7 : Tup Int) => (m_is_end v_law_rules_so v_law_tops_so v_law_many_so x7)).all id))]) (ea_cons (ev_cb (c_all c (xs := ((alaw_all_right_ends_so v_law_rules_so v_law_tops_so v_law_many_so v_law_row_so).map fun (x7 : Tup Int) => (m_is_end v_law_rules_so v_law_tops_so v_law_many_so x7))) rfl) c.b_all (ea_cons (EvB.pe (lc0 [("_law_own", 7)] (alaw_all_right_ends_so v_law_rules_so v_law_tops_so v_law_many_so v_law_row_so) (fun x7 => (m_is_end v_law_rules_so v_law_tops_so v_law_many_so x7)) c (ei_list (ev_name 8)) (blkOk_by (by kernel_rfl)) (fun x7 hx7 => ⟨_, fun _ c => eg_name c 7, fun _ c => (ev_call (h_is_end W) c (ea_cons (ev_name 0) (ea_cons (ev_name 1) (ea_cons (ev_name 2) (ea_cons (ev_name 7) ea_nil)))) (P4.go ⟨hp.wr, hp.ewk _ hx7⟩))⟩))) ea_nil)) ea_nil) (Nat.le_of_ble_eq_true rfl)))))
    (ss_cons (st_set c 11 (Ev.frz (ev_op (f_catL (ds := (alaw_all_right_got4 v_law_rules_so v_law_tops_so v_law_many_so v_law_row_so)) (es := ([(Datum.toD (m_full_groups v_law_rules_so v_law_tops_so (alaw_all_right_told_so v_law_rules_so v_law_tops_so v_law_many_so v_law_row_so).2).items)] : List PyData)) rfl rfl (Nat.le_of_ble_eq_true rfl)) (ev_name 11) (ev_list (ds := [(Datum.toD (m_full_groups v_law_rules_so v_law_tops_so (alaw_all_right_told_so v_law_rules_so v_law_tops_so v_law_many_so v_law_row_so).2).items)]) (ea_cons (Ev.frz' (ev_ct (c_listT (ds := ((m_full_groups v_law_rules_so v_law_tops_so (alaw_all_right_told_so v_law_rules_so v_law_tops_so v_law_many_so v_law_row_so).2).items).map Datum.toD) rfl) c.b_list (ea_cons (ev_call (h_full_groups W) c (ea_cons (ev_name 0) (ea_cons (ev_name 1) (ea_cons (ev_snd (q := (alaw_all_right_told_so v_law_rules_so v_law_tops_so v_law_many_so v_law_row_so)) (ev_name 9)) ea_nil))) (P3.go ⟨hp.wr, hp.twk⟩)) ea_nil))) ea_nil) (Nat.le_of_ble_eq_true rfl)))))
    (ss_cons (st_set c 17 (Ev.frz' (ev_lst0 (α := (Tup Str)))))
    (ss_cons (st_fold [18, 19] (v_law_rules_so.2.items.zip v_law_tops_so.items) (fun (t2 : (List (Tup Str))) u2 => (t2 ++ (if (decide (u2.2 ≤ (m_law_load v_law_rules_so (alaw_all_right_told_so v_law_rules_so v_law_tops_so v_law_many_so v_law_row_so).2 u2.1))) = true then [u2.1] else ([] : List (Tup Str))))) ([] : List (Tup Str)) (fun t2 => [dd v_law_rules_so, dd v_law_tops_so, dd v_law_many_so, dd v_law_row_so, dd v_law_rules_so.1, dd v_law_rules_so.2, dd (alaw_all_right_lots_so v_law_rules_so v_law_tops_so v_law_many_so v_law_row_so), .un, dd (alaw_all_right_ends_so v_law_rules_so v_law_tops_so v_law_many_so v_law_row_so), dd (alaw_all_right_told_so v_law_rules_so v_law_tops_so v_law_many_so v_law_row_so), dd (alaw_all_right_far v_law_rules_so v_law_tops_so v_law_many_so v_law_row_so), .dat (.list (alaw_all_right_got5 v_law_rules_so v_law_tops_so v_law_many_so v_law_row_so)), .cel 2, .cel 1, .un, .un, dd (alaw_all_right_fits v_law_rules_so v_law_tops_so v_law_many_so v_law_row_so), dd t2, .un, .un]) (fun t2 => [some ((([(Datum.toD (alaw_all_right_lots_so v_law_rules_so v_law_tops_so v_law_many_so v_law_row_so)), (Datum.toD (alaw_all_right_ends_so v_law_rules_so v_law_tops_so v_law_many_so v_law_row_so)), (Datum.toD (alaw_all_right_far v_law_rules_so v_law_tops_so v_law_many_so v_law_row_so)), (Datum.toD (alaw_all_right_told_so v_law_rules_so v_law_tops_so v_law_many_so v_law_row_so).1), (Datum.toD (alaw_all_right_told_so v_law_rules_so v_law_tops_so v_law_many_so v_law_row_so).2)] : List PyData) ++ [(Datum.toD (setAsc ((alaw_all_right_ends_so v_law_rules_so v_law_tops_so v_law_many_so v_law_row_so).map fun (x3 : Tup Int) => x3.items.sum)))]) ++ [(Datum.toD (Tup.mk (flaw_all_right_1 v_law_rules_so v_law_tops_so v_law_many_so v_law_row_so)))]), cl (flaw_all_right_1 v_law_rules_so v_law_tops_so v_law_many_so v_law_row_so), some (((([(Datum.toD (alaw_all_right_lots_so v_law_rules_so v_law_tops_so v_law_many_so v_law_row_so)), (Datum.toD (alaw_all_right_ends_so v_law_rules_so v_law_tops_so v_law_many_so v_law_row_so)), (Datum.toD (alaw_all_right_far v_law_rules_so v_law_tops_so v_law_many_so v_law_row_so)), (Datum.toD (alaw_all_right_told_so v_law_rules_so v_law_tops_so v_law_many_so v_law_row_so).1), (Datum.toD (alaw_all_right_told_so v_law_rules_so v_law_tops_so v_law_many_so v_law_row_so).2)] : List PyData) ++ [(Datum.toD (setAsc ((alaw_all_right_ends_so v_law_rules_so v_law_tops_so v_law_many_so v_law_row_so).map fun (x3 : Tup Int) => x3.items.sum)))]) ++ [(Datum.toD (Tup.mk (flaw_all_right_1 v_law_rules_so v_law_tops_so v_law_many_so v_law_row_so)))]) ++ ([(Datum.toD (alaw_all_right_fits v_law_rules_so v_law_tops_so v_law_many_so v_law_row_so)), (Datum.toD (alaw_all_right_fits v_law_rules_so v_law_tops_so v_law_many_so v_law_row_so)), (Datum.toD (Tup.mk (v_law_rules_so.2.items.map fun (x6 : Tup Str) => (m_law_load v_law_rules_so v_law_many_so x6))))] : List PyData))]) (fun i (t : List (Tup Str)) => t.length ≤ i) c (EvI.cast (ei_zipT c (ev_name 5) (ev_name 1)) (zipD_map _ _)) (Nat.le_refl _) Fits.refl rfl (fun i t2 u2 hu2 hI2 => ⟨(ar_st hI2), _, _, eg_tup c (egs_cons (eg_name c 18) (egs_cons (eg_name c 19) egs_nil)), (ss_cons (st_set c 17 (Ev.frz' (ev_op (f_catLL (xs := t2) (ys := (if (decide (u2.2 ≤ (m_law_load v_law_rules_so (alaw_all_right_told_so v_law_rules_so v_law_tops_so v_law_many_so v_law_row_so).2 u2.1))) = true then [u2.1] else ([] : List (Tup Str)))) rfl rfl (ar_cat hp.wr hI2 hu2)) (ev_name 17) (ev_ifF (et_cp f_ge (ev_call (h_law_load W) c (ea_cons (ev_name 0) (ea_cons (ev_snd (q := (alaw_all_right_told_so v_law_rules_so v_law_tops_so v_law_many_so v_law_row_so)) (ev_name 9)) (ea_cons (ev_name 18) ea_nil))) (P3.go trivial)) (ev_name 19)) (fun _ => (ev_lst1 (ev_name 18))) (fun _ => (ev_lst0 (α := (Tup Str))))))))
    ss_nil), .nx (.keep (.keep (.keep (.keep (.keep (.keep (.keep (.keep (.keep (.keep (.keep (.keep (.keep (.keep (.keep (.keep (.keep (.keep (.drop (.drop .nil))))))))))))))))))))⟩))
    (ss_cons (st_ifno (et_w (ew_or (et_not (et_val (ev_call (has_same W 6) c (ea_cons (ev_name 11) (ea_cons (Ev.frz (ev_op (f_catL (ds := (((([(Datum.toD (alaw_all_right_lots_so v_law_rules_so v_law_tops_so v_law_many_so v_law_row_so)), (Datum.toD (alaw_all_right_ends_so v_law_rules_so v_law_tops_so v_law_many_so v_law_row_so)), (Datum.toD (alaw_all_right_far v_law_rules_so v_law_tops_so v_law_many_so v_law_row_so)), (Datum.toD (alaw_all_right_told_so v_law_rules_so v_law_tops_so v_law_many_so v_law_row_so).1), (Datum.toD (alaw_all_right_told_so v_law_rules_so v_law_tops_so v_law_many_so v_law_row_so).2)] : List PyData) ++ [(Datum.toD (setAsc ((alaw_all_right_ends_so v_law_rules_so v_law_tops_so v_law_many_so v_law_row_so).map fun (x3 : Tup Int) => x3.items.sum)))]) ++ [(Datum.toD (Tup.mk (flaw_all_right_1 v_law_rules_so v_law_tops_so v_law_many_so v_law_row_so)))]) ++ ([(Datum.toD (alaw_all_right_fits v_law_rules_so v_law_tops_so v_law_many_so v_law_row_so)), (Datum.toD (alaw_all_right_fits v_law_rules_so v_law_tops_so v_law_many_so v_law_row_so)), (Datum.toD (Tup.mk (v_law_rules_so.2.items.map fun (x6 : Tup Str) => (m_law_load v_law_rules_so v_law_many_so x6))))] : List PyData))) (es := ([(Datum.toD true), (Datum.toD (flaw_all_right_2 v_law_rules_so v_law_tops_so v_law_many_so v_law_row_so))] : List PyData)) rfl rfl (Nat.le_of_ble_eq_true rfl)) (ev_name 12) (ev_list (ds := [(Datum.toD true), (Datum.toD (flaw_all_right_2 v_law_rules_so v_law_tops_so v_law_many_so v_law_row_so))]) (ea_cons ev_bl (ea_cons (ev_name 17) ea_nil)) (Nat.le_of_ble_eq_true rfl)))) ea_nil)) (R_same.go (G := (alaw_all_right_got5 v_law_rules_so v_law_tops_so v_law_many_so v_law_row_so)) (D := ((((([(Datum.toD (alaw_all_right_lots_so v_law_rules_so v_law_tops_so v_law_many_so v_law_row_so)), (Datum.toD (alaw_all_right_ends_so v_law_rules_so v_law_tops_so v_law_many_so v_law_row_so)), (Datum.toD (alaw_all_right_far v_law_rules_so v_law_tops_so v_law_many_so v_law_row_so)), (Datum.toD (alaw_all_right_told_so v_law_rules_so v_law_tops_so v_law_many_so v_law_row_so).1), (Datum.toD (alaw_all_right_told_so v_law_rules_so v_law_tops_so v_law_many_so v_law_row_so).2)] : List PyData) ++ [(Datum.toD (setAsc ((alaw_all_right_ends_so v_law_rules_so v_law_tops_so v_law_many_so v_law_row_so).map fun (x3 : Tup Int) => x3.items.sum)))]) ++ [(Datum.toD (Tup.mk (flaw_all_right_1 v_law_rules_so v_law_tops_so v_law_many_so v_law_row_so)))]) ++ ([(Datum.toD (alaw_all_right_fits v_law_rules_so v_law_tops_so v_law_many_so v_law_row_so)), (Datum.toD (alaw_all_right_fits v_law_rules_so v_law_tops_so v_law_many_so v_law_row_so)), (Datum.toD (Tup.mk (v_law_rules_so.2.items.map fun (x6 : Tup Str) => (m_law_load v_law_rules_so v_law_many_so x6))))] : List PyData)) ++ ([(Datum.toD true), (Datum.toD (flaw_all_right_2 v_law_rules_so v_law_tops_so v_law_many_so v_law_row_so))] : List PyData))) hp.sam hp.same)))) (fun hbo => (ew_or1 (et_cp f_lt (ev_call (h_least_bound W) c (ea_cons (ev_name 0) (ea_cons (ev_name 1) (ea_cons (ev_name 2) ea_nil))) (P3.go ⟨hp.wr, hp.wg⟩)) (ev_name 10)))))) (ar_no hp.lb))
    (ss_end (st_ret (evq (ev_call (h_law_factor_right W) c (ea_cons (ev_name 0) (ea_cons (ev_cb (c_minL c (xs := ((alaw_all_right_ends_so v_law_rules_so v_law_tops_so v_law_many_so v_law_row_so).map fun (x8 : Tup Int) => x8.items.sum)) rfl (map_ne hp.ene)) c.b_min (ea_cons (EvB.pe (lc0 [("_law_own", 7)] (alaw_all_right_ends_so v_law_rules_so v_law_tops_so v_law_many_so v_law_row_so) (fun x8 => x8.items.sum) c (ei_list (ev_name 8)) (blkOk_by (by kernel_rfl)) (fun x8 hx8 => ⟨_, fun _ c => eg_name c 7, fun _ c => (ev_cb (c_sumT c (xs := x8) rfl) c.b_sum (ea_cons (ev_name 7) ea_nil))⟩))) ea_nil)) (ea_cons (ev_name 10) ea_nil))) (P3.go hp.fr)) rfl))))))))))))))))))))))), .rt .dat⟩
end
end CL
end
section
set_option autoImplicit false
/-! Plain law 8: the lists of spans; weak duality. -/
namespace CL
open PySem PySem.Spec PyProof.Rows L2 DL
open PySem.W (Datum Tup DatumOrd Holds HoldAll T3)
theorem fold_app {α β : Type} {f : α → β} : ∀ (xs : List α) (t : List β), xs.foldl (fun t u => t ++ [f u]) t = t ++ xs.map f
  | [], t => (List.append_nil _).symm
  | x :: xs, t => by rw [List.foldl_cons, fold_app xs, List.append_assoc]; rfl
theorem enum_map {β : Type} {ks : List Str} {F : Int × Str → β} {G : Str → β} (h : ∀ u ∈ enumL ks, F u = G u.2) : (enumL ks).map F = ks.map G := by
  rw [List.map_congr_left h]
  have b := enum_snd ks
  conv => rhs; rw [← b]
  rw [List.map_map]
  rfl
theorem ends_ne {R : Rules} {L D : Tup Int} (r : WR R) (h : WD R D) (lp : ∀ l ∈ L.items, 0 ≤ l) : m_law_ends R L D ≠ [] := by
  obtain ⟨e, he, _⟩ := grows r (zero_lot r h lp)
  exact List.ne_nil_of_mem ((law_ends_mem r h lp).mpr he)
theorem spans_same {R : Rules} {L D : Tup Int} {row : Tup Str} (r : WR R) (wg : WG R L) (h : WD R D) (lp : ∀ l ∈ L.items, 0 ≤ l) : m_spans_of R L D = Tup.mk (flaw_all_right_1 R L D row) := by
  unfold m_spans_of flaw_all_right_1
  rw [fold_app, fold_app, List.nil_append, List.nil_append]
  congr 1
  have e := enum_map (ks := R.1.items) (F := fun u1 : Int × Str => (⟨u1.2, (imin ((alaw_all_right_ends_so R L D row).map fun x4 => (x4.items.getD u1.1.toNat (0 : Int)))), (imax ((alaw_all_right_ends_so R L D row).map fun x5 => (x5.items.getD u1.1.toNat (0 : Int))))⟩ : (T3 Str Int Int))) (G := fun n => ⟨n, m_sure_in R L D n, m_most_in R L D n⟩) (fun u hu => by
    obtain ⟨k, e1, e2⟩ := enum_mem hu
    have hn := List.mem_of_getElem? e2
    have em : (alaw_all_right_ends_so R L D row).map (fun x4 => (x4.items.getD u.1.toNat (0 : Int))) = (m_law_ends R L D).map fun e => val R e u.2 := by
      show (m_law_ends R L D).map _ = _
      refine List.map_congr_left fun e he => ?_
      rw [e1, Int.toNat_natCast]
      exact val_at r ((law_ends_mem r h lp).mp he).1.1.1 e2
    have s := sure_is r h lp hn
    have m := most_is r wg h lp hn
    show (⟨u.2, imin _, imax _⟩ : T3 Str Int Int) = ⟨u.2, _, _⟩
    rw [em]
    congr 1
    · obtain ⟨⟨e, he, ev⟩, lo⟩ := s
      refine imin_eq (List.mem_map.mpr ⟨e, (law_ends_mem r h lp).mpr he, ev⟩) fun x hx => ?_
      obtain ⟨e2, he2, rfl⟩ := List.mem_map.mp hx
      exact lo e2 ((law_ends_mem r h lp).mp he2)
    · obtain ⟨⟨e, he, ev⟩, up⟩ := m
      refine imax_eq (List.mem_map.mpr ⟨e, (law_ends_mem r h lp).mpr he, ev⟩) fun x hx => ?_
      obtain ⟨e2, he2, rfl⟩ := List.mem_map.mp hx
      exact up e2 ((law_ends_mem r h lp).mp he2))
  exact e.symm
end CL
end
section
set_option autoImplicit false
/-! Plain law 9: weak duality. -/
namespace CL
open PySem PySem.Spec PyProof.Rows L2 DL
open PySem.W (Datum Tup DatumOrd Holds HoldAll T3)
/-- the numbers of the kinds in none of some groups -/
abbrev outK (R : Rules) (gs : List (Tup Str)) : List Str := R.1.items.filter fun n => !((gs.map fun g => decide (n ∈ g.items)).any id)
theorem out_iff {gs : List (Tup Str)} {n : Str} : (!((gs.map fun g => decide (n ∈ g.items)).any id)) = true ↔ ∀ g ∈ gs, n ∉ g.items := by
  rw [Bool.not_eq_true', List.any_eq_false]
  constructor
  · intro a g hg hn
    exact a _ (List.mem_map.mpr ⟨g, hg, rfl⟩) (decide_eq_true hn)
  · intro a x hx
    obtain ⟨g, hg, rfl⟩ := List.mem_map.mp hx
    show ¬ decide (n ∈ g.items) = true
    rw [decide_eq_true_iff]
    exact a g hg
theorem sum_filter_le {f : Str → Int} {p q : Str → Bool} : ∀ {xs : List Str}, (∀ x ∈ xs, 0 ≤ f x) → (∀ x ∈ xs, p x = true → q x = true) → ((xs.filter p).map f).sum ≤ ((xs.filter q).map f).sum
  | [], _, _ => Int.le_refl _
  | x :: xs, h, k => by
    have ih := sum_filter_le (xs := xs) (fun y hy => h y (List.mem_cons_of_mem _ hy)) (fun y hy => k y (List.mem_cons_of_mem _ hy))
    have f0 := h x List.mem_cons_self
    cases e : p x with
    | true =>
      rw [List.filter_cons_of_pos e, List.filter_cons_of_pos (k x List.mem_cons_self e), List.map_cons, List.map_cons, List.sum_cons, List.sum_cons]
      omega
    | false =>
      rw [List.filter_cons_of_neg (by rw [e]; decide)]
      cases e2 : q x with
      | true => rw [List.filter_cons_of_pos e2, List.map_cons, List.sum_cons]; omega
      | false => rw [List.filter_cons_of_neg (by rw [e2]; decide)]; exact ih
theorem sum_split {f : Str → Int} {p : Str → Bool} : ∀ xs : List Str, (xs.map f).sum = ((xs.filter p).map f).sum + ((xs.filter fun x => !p x).map f).sum
  | [] => rfl
  | x :: xs => by
    have ih := sum_split (f := f) (p := p) xs
    rw [List.map_cons, List.sum_cons, ih]
    cases e : p x with
    | true =>
      rw [List.filter_cons_of_pos e, List.filter_cons_of_neg (by rw [e]; decide), List.map_cons, List.sum_cons]
      omega
    | false =>
      rw [List.filter_cons_of_neg (by rw [e]; decide), List.filter_cons_of_pos (by rw [e]; rfl), List.map_cons, List.sum_cons]
      omega
theorem ld_filter {R : Rules} {lot : Tup Int} (r : WR R) {g : Tup Str} (hg : g ∈ R.2.items) : ld R lot g = ((R.1.items.filter fun n => decide (n ∈ g.items)).map (val R lot)).sum := (sum_perm ((grp_perm r hg).map _)).symm
/-- a sum of all kinds is at most the loads of some groups and the kinds in none of them -/
theorem cover_le {R : Rules} {lot : Tup Int} (r : WR R) (nn : ∀ n ∈ R.1.items, 0 ≤ val R lot n) : ∀ (gs : List (Tup Str)), (∀ g ∈ gs, g ∈ R.2.items) → (R.1.items.map (val R lot)).sum ≤ (gs.map (ld R lot)).sum + ((outK R gs).map (val R lot)).sum
  | [], _ => by
    have e : outK R [] = R.1.items := List.filter_eq_self.mpr fun n _ => rfl
    rw [e]
    show _ ≤ 0 + _
    omega
  | g :: gs, h => by
    have ih := cover_le r nn gs (fun x hx => h x (List.mem_cons_of_mem _ hx))
    have hg := h g List.mem_cons_self
    rw [List.map_cons, List.sum_cons]
    have s := sum_split (f := val R lot) (p := fun n => decide (n ∈ g.items)) (outK R gs)
    have a : (((outK R gs).filter fun n => decide (n ∈ g.items)).map (val R lot)).sum ≤ ld R lot g := by
      rw [ld_filter r hg]
      unfold outK
      rw [List.filter_filter]
      exact sum_filter_le nn fun x _ hx => by
        rw [Bool.and_eq_true] at hx
        exact hx.1
    have b : (((outK R gs).filter fun n => !decide (n ∈ g.items)).map (val R lot)).sum ≤ ((outK R (g :: gs)).map (val R lot)).sum := by
      unfold outK
      rw [List.filter_filter]
      refine sum_filter_le nn fun x _ hx => ?_
      rw [Bool.and_eq_true] at hx
      rw [out_iff]
      intro z hz
      rcases List.mem_cons.mp hz with e | m
      · rw [e]
        have q := hx.1
        rw [Bool.not_eq_true', decide_eq_false_iff_not] at q
        exact q
      · exact out_iff.mp hx.2 z m
    omega
end CL
end
section
set_option autoImplicit false
/-! Plain law 10: no lot is above the least bound. -/
namespace CL
open PySem PySem.Spec PyProof.Rows L2 DL
open PySem.W (Datum Tup DatumOrd Holds HoldAll T3)
theorem table_lim {R : Rules} {L : Tup Int} (wg : WG R L) {g : Tup Str} (hg : g ∈ R.2.items) : ∃ q ∈ R.2.items.zip L.items, q.1 = g ∧ (dval (m_table_of R L) (g.items.map .inr)).getD 0 = q.2 := by
  have a := dval_kvG (gs := R.2.items) (vs := L.items) hg (Nat.le_of_eq wg.symm)
  have a2 : dval (m_table_of R L) (g.items.map .inr) = some ((dval (m_table_of R L) (g.items.map .inr)).getD 0) := a
  unfold dval at a2 ⊢
  cases hf : (m_table_of R L).find? fun kv => decide (kv.1 = g.items.map .inr) with
  | none => rw [hf] at a2; cases a2
  | some kv =>
    have m := List.mem_of_find?_eq_some hf
    have p := List.find?_some hf
    have m2 : kv ∈ (R.2.items.zip L.items).map fun q => (q.1.items.map (Sum.inr : Str → Key), q.2) := m
    obtain ⟨q, hq, rfl⟩ := List.mem_map.mp m2
    have p2 : q.1.items.map (Sum.inr : Str → Key) = g.items.map .inr := of_decide_eq_true p
    exact ⟨q, hq, keyG_inj p2, rfl⟩
theorem bound_ge {R : Rules} {L D lot : Tup Int} (r : WR R) (wg : WG R L) (h : WD R D) (k : KLot R L D lot) (gs : Tup (Tup Str)) (hs : ∀ g ∈ gs.items, g ∈ R.2.items) : lot.items.sum ≤ m_bound_by R L D gs := by
  have a := cover_le r (fun n hn => (k.1.2 n hn).1) gs.items hs
  have b : (gs.items.map (ld R lot)).sum ≤ (gs.items.map fun x3 => ((dval (m_table_of R L) (x3.items.map .inr)).getD 0)).sum := sum_le fun g hg => by
    obtain ⟨q, hq, e1, e2⟩ := table_lim wg (hs g hg)
    rw [e2, ← e1]
    exact k.2 q hq
  have c : (((R.1.items.zip D.items).filter fun x1 => (!((gs.items.map fun x2 => (decide (x1.1 ∈ x2.items))).any id))).map fun x1 => x1.2) = (outK R gs.items).map (val R D) := by
    rw [zip_lot r h.len]
    exact filter_map_fst (val R D) (fun n => !((gs.items.map fun x2 => (decide (n ∈ x2.items))).any id)) R.1.items
  have d : ((outK R gs.items).map (val R lot)).sum ≤ ((outK R gs.items).map (val R D)).sum := sum_le fun n hn => (k.1.2 n (List.mem_filter.mp hn).1).2
  unfold m_bound_by
  rw [c, sum_val r k.1.1]
  omega
theorem least_ge {R : Rules} {L D lot : Tup Int} (r : WR R) (wg : WG R L) (h : WD R D) (k : KLot R L D lot) : lot.items.sum ≤ m_least_bound R L D := bound_ge r wg h k _ fun g hg => (bg_mem r).subset hg
end CL
end
section
set_option autoImplicit false
/-! Plain law 11: open sets, by the program and by the law. -/
namespace CL
open PySem PySem.Spec PyProof.Rows L2 DL
open PySem.W (Datum Tup DatumOrd Holds HoldAll T3)
def OpenP (gs : List (Tup Str)) : Prop := ∀ g ∈ gs, ∃ n ∈ g.items, ∀ h ∈ gs, n ∈ h.items → h = g
theorem count_one {α : Type} {p : α → Bool} : ∀ {xs : List α} {g : α}, xs.Nodup → g ∈ xs → p g = true → (xs.countP p = 1 ↔ ∀ x ∈ xs, p x = true → x = g)
  | [], _, _, h, _ => absurd h List.not_mem_nil
  | y :: xs, g, nd, hg, pg => by
    rw [List.nodup_cons] at nd
    rcases List.mem_cons.mp hg with e | m
    · subst e
      rw [List.countP_cons_of_pos pg]
      constructor
      · intro h x hx px
        have z : xs.countP p = 0 := by omega
        rcases List.mem_cons.mp hx with q | q
        · exact q
        · rw [List.countP_eq_zero] at z
          exact absurd px (z x q)
      · intro h
        have z : xs.countP p = 0 := by
          rw [List.countP_eq_zero]
          intro x hx px
          have e := h x (List.mem_cons_of_mem _ hx) px
          exact nd.1 (e ▸ hx)
        omega
    · have ih := count_one nd.2 m pg
      have pos : 0 < xs.countP p := List.countP_pos_iff.mpr ⟨g, m, pg⟩
      by_cases py : p y = true
      · rw [List.countP_cons_of_pos py]
        constructor
        · intro h; omega
        · intro h
          have e := h y List.mem_cons_self py
          exact absurd (e ▸ m) nd.1
      · rw [List.countP_cons_of_neg py, ih]
        constructor
        · intro h x hx px
          rcases List.mem_cons.mp hx with q | q
          · rw [q] at px; exact absurd px py
          · exact h x q px
        · exact fun h x hx => h x (List.mem_cons_of_mem _ hx)
theorem own_iff {gs : List (Tup Str)} (nd : gs.Nodup) {g : Tup Str} (hg : g ∈ gs) {n : Str} (hn : n ∈ g.items) : (((gs.map fun x3 => (decide (n ∈ x3.items))).countP fun u => decide (u = true) : Nat) : Int) = 1 ↔ ∀ h ∈ gs, n ∈ h.items → h = g := by
  have e : ((gs.map fun x3 => (decide (n ∈ x3.items))).countP fun u => decide (u = true)) = gs.countP fun x3 => decide (n ∈ x3.items) := by
    rw [List.countP_map]
    congr 1
    funext x
    show decide (decide (n ∈ x.items) = true) = decide (n ∈ x.items)
    rw [Bool.decide_eq_true]
  rw [e]
  have c := count_one (p := fun x3 : Tup Str => decide (n ∈ x3.items)) nd hg (decide_eq_true hn)
  constructor
  · intro h x hx nx
    exact (c.mp (by omega)) x hx (decide_eq_true nx)
  · intro h
    have d := c.mpr fun x hx px => h x hx (of_decide_eq_true px)
    omega
theorem opn_iff {own : Tup (Tup Str)} (nd : own.items.Nodup) : opn own = true ↔ OpenP own.items := by
  unfold opn m_own_kinds OpenP
  rw [List.all_eq_true]
  constructor
  · intro a g hg
    have b := a _ (List.mem_map.mpr ⟨_, List.mem_map.mpr ⟨g, hg, rfl⟩, rfl⟩)
    have c := of_decide_eq_true b
    have d : (g.items.filter fun x2 => (decide ((((own.items.map fun x3 => (decide (x2 ∈ x3.items))).countP fun u => decide (u = true) : Nat) : Int) = (1 : Int)))) ≠ [] := fun q => by
      have c2 : (0 : Int) < ((g.items.filter fun x2 => (decide ((((own.items.map fun x3 => (decide (x2 ∈ x3.items))).countP fun u => decide (u = true) : Nat) : Int) = (1 : Int)))).length : Int) := c
      rw [q] at c2
      exact absurd c2 (by decide)
    obtain ⟨n, hn⟩ := List.exists_mem_of_ne_nil _ d
    obtain ⟨h1, h2⟩ := List.mem_filter.mp hn
    exact ⟨n, h1, (own_iff nd hg h1).mp (of_decide_eq_true h2)⟩
  · intro a x hx
    obtain ⟨t, ht, rfl⟩ := List.mem_map.mp hx
    obtain ⟨g, hg, rfl⟩ := List.mem_map.mp ht
    obtain ⟨n, hn, u⟩ := a g hg
    have m : n ∈ (g.items.filter fun x2 => (decide ((((own.items.map fun x3 => (decide (x2 ∈ x3.items))).countP fun u => decide (u = true) : Nat) : Int) = (1 : Int)))) := List.mem_filter.mpr ⟨hn, decide_eq_true ((own_iff nd hg hn).mpr u)⟩
    show decide ((0 : Int) < ((g.items.filter fun x2 => (decide ((((own.items.map fun x3 => (decide (x2 ∈ x3.items))).countP fun u => decide (u = true) : Nat) : Int) = (1 : Int)))).length : Int)) = true
    rw [decide_eq_true_iff]
    have l := List.length_pos_iff.mpr (List.ne_nil_of_mem m)
    omega
end CL
end
section
set_option autoImplicit false
/-! Plain law 12: the law's open sets. -/
namespace CL
open PySem PySem.Spec PyProof.Rows L2 DL
open PySem.W (Datum Tup DatumOrd Holds HoldAll T3)
theorem rest_mem {g : Tup Str} {n : Str} : ∀ (gs : List (Tup Str)) (t : List Str), n ∈ gs.foldl (fun (t2 : (List Str)) u2 => (t2 ++ (if (decide (u2 ≠ g)) = true then u2.items else ([] : List Str)))) t ↔ n ∈ t ∨ ∃ h ∈ gs, h ≠ g ∧ n ∈ h.items
  | [], t => by simp
  | x :: gs, t => by
    rw [List.foldl_cons, rest_mem gs]
    by_cases e : x = g
    · rw [if_neg (by rw [decide_eq_true_iff]; exact fun z => z e), List.append_nil]
      constructor
      · rintro (h | ⟨y, hy, k⟩)
        · exact .inl h
        · exact .inr ⟨y, List.mem_cons_of_mem _ hy, k⟩
      · rintro (h | ⟨y, hy, k1, k2⟩)
        · exact .inl h
        · rcases List.mem_cons.mp hy with q | q
          · exact absurd (q.trans e) k1
          · exact .inr ⟨y, q, k1, k2⟩
    · rw [if_pos (decide_eq_true e), List.mem_append]
      constructor
      · rintro ((h | h) | ⟨y, hy, k⟩)
        · exact .inl h
        · exact .inr ⟨x, List.mem_cons_self, e, h⟩
        · exact .inr ⟨y, List.mem_cons_of_mem _ hy, k⟩
      · rintro (h | ⟨y, hy, k1, k2⟩)
        · exact .inl (.inl h)
        · rcases List.mem_cons.mp hy with q | q
          · exact .inl (.inr (q ▸ k2))
          · exact .inr ⟨y, q, k1, k2⟩
theorem law_open_iff {own : Tup (Tup Str)} : m_law_open own = true ↔ OpenP own.items := by
  unfold m_law_open OpenP
  rw [ite_ft, Bool.not_eq_true', List.any_eq_false]
  constructor
  · intro a g hg
    have b := a g hg
    rw [decide_eq_true_iff] at b
    obtain ⟨n, hn⟩ := List.exists_mem_of_ne_nil _ b
    obtain ⟨h1, h2⟩ := List.mem_filter.mp hn
    have h3 := of_decide_eq_true h2
    refine ⟨n, h1, fun h hh hn2 => Classical.byContradiction fun ne => h3 ((rest_mem _ _).mpr (.inr ⟨h, hh, ne, hn2⟩))⟩
  · intro a g hg
    rw [decide_eq_true_iff]
    obtain ⟨n, hn, u⟩ := a g hg
    refine List.ne_nil_of_mem (List.mem_filter.mpr ⟨hn, decide_eq_true fun z => ?_⟩)
    rcases (rest_mem _ _).mp z with z | ⟨h, hh, ne, hn2⟩
    · exact absurd z List.not_mem_nil
    · exact ne (u h hh hn2)
end CL
end
section
set_option autoImplicit false
/-! Plain law 13: bare numbers. -/
namespace CL
open PySem PySem.Spec PyProof.Rows L2 DL
open PySem.W (Datum Tup DatumOrd Holds HoldAll T3)
abbrev snoc (x1 : Tup (Tup Str)) (u1 : Tup Str) : Tup (Tup Str) := Tup.mk (x1.items ++ [u1])
theorem opn_down {x : Tup (Tup Str)} {u : Tup Str} (h : opn (snoc x u) = true) : opn x = true := by
  unfold opn at h ⊢
  rw [List.all_eq_true] at h ⊢
  intro b hb
  obtain ⟨t, ht, rfl⟩ := List.mem_map.mp hb
  obtain ⟨g, hg, rfl⟩ := List.mem_map.mp ht
  have a := h _ (List.mem_map.mpr ⟨_, List.mem_map.mpr ⟨g, List.mem_append_left _ hg, rfl⟩, rfl⟩)
  have a2 : (0 : Int) < ((g.items.filter fun x2 => (decide (((((x.items ++ [u]).map fun x3 => (decide (x2 ∈ x3.items))).countP fun u => decide (u = true) : Nat) : Int) = (1 : Int)))).length : Int) := of_decide_eq_true a
  show decide ((0 : Int) < ((g.items.filter fun x2 => (decide ((((x.items.map fun x3 => (decide (x2 ∈ x3.items))).countP fun u => decide (u = true) : Nat) : Int) = (1 : Int)))).length : Int)) = true
  rw [decide_eq_true_iff]
  have ne : (g.items.filter fun x2 => (decide (((((x.items ++ [u]).map fun x3 => (decide (x2 ∈ x3.items))).countP fun u => decide (u = true) : Nat) : Int) = (1 : Int)))) ≠ [] := fun q => by rw [q] at a2; exact absurd a2 (by decide)
  obtain ⟨n, hn⟩ := List.exists_mem_of_ne_nil _ ne
  obtain ⟨h1, h2⟩ := List.mem_filter.mp hn
  have h3 := of_decide_eq_true h2
  rw [List.map_append, List.countP_append] at h3
  have pos : 0 < (x.items.map fun x3 => (decide (n ∈ x3.items))).countP fun u => decide (u = true) := List.countP_pos_iff.mpr ⟨_, List.mem_map.mpr ⟨g, hg, rfl⟩, by rw [decide_eq_true_iff, decide_eq_true_iff]; exact h1⟩
  have m : n ∈ (g.items.filter fun x2 => (decide ((((x.items.map fun x3 => (decide (x2 ∈ x3.items))).countP fun u => decide (u = true) : Nat) : Int) = (1 : Int)))) := List.mem_filter.mpr ⟨h1, by rw [decide_eq_true_iff]; omega⟩
  have l := List.length_pos_iff.mpr (List.ne_nil_of_mem m)
  omega
theorem os_filter : ∀ (gs : List (Tup Str)) (X : List (Tup (Tup Str))), gs.foldl (fun t1 u1 => t1 ++ ((t1.map fun x1 => snoc x1 u1).filter fun x2 => opn x2)) (X.filter fun x => opn x) = (gs.foldl (fun t1 u1 => t1 ++ (t1.map fun x1 => snoc x1 u1)) X).filter fun x => opn x
  | [], X => rfl
  | g :: gs, X => by
    rw [List.foldl_cons, List.foldl_cons, ← os_filter gs]
    congr 1
    rw [List.filter_append]
    congr 1
    induction X with
    | nil => rfl
    | cons x X ih =>
      cases e : opn x with
      | true => rw [List.filter_cons_of_pos e, List.map_cons, List.map_cons, List.filter_cons, List.filter_cons, ih]
      | false =>
        rw [List.filter_cons_of_neg (by rw [e]; decide), List.map_cons, List.filter_cons_of_neg (fun z => by
          rw [opn_down z] at e
          cases e), ih]
theorem open_sets_eq (gs : List (Tup Str)) : m_open_sets gs = (m_law_sets gs).filter fun x => opn x := by
  have a := os_filter gs [Tup.mk []]
  exact a
theorem bare_same {R : Rules} (r : WR R) (n : Str) : m_bare_number R n = m_law_bare R n := by
  obtain ⟨gs, hgs⟩ : ∃ gs, gs = m_with_name R n := ⟨_, rfl⟩
  have nd : gs.Nodup := by rw [hgs]; exact r.gn.filter _
  have om : ∀ own, own ∈ m_open_sets gs ↔ own ∈ (m_law_sets gs).filter fun x2 => m_law_open x2 := fun own => by
    rw [open_sets_eq, List.mem_filter, List.mem_filter]
    constructor
    · rintro ⟨h1, h2⟩
      exact ⟨h1, law_open_iff.mpr ((opn_iff ((ls_mem h1).nodup nd)).mp h2)⟩
    · rintro ⟨h1, h2⟩
      exact ⟨h1, (opn_iff ((ls_mem h1).nodup nd)).mpr (law_open_iff.mp h2)⟩
  have lb : m_law_bare R n = imax ([(1 : Int)] ++ ((m_law_sets gs).filter fun x2 => m_law_open x2).map fun x2 => (x2.items.length : Int)) := by rw [hgs]; rfl
  have ab : ∀ own, own ∈ m_all_bare R n ↔ own ∈ m_open_sets gs ∧ 0 < own.items.length := fun own => by
    rw [hgs]
    unfold m_all_bare
    rw [mem_srt, List.mem_filter, decide_eq_true_iff]
    constructor
    · rintro ⟨h1, h2⟩; exact ⟨h1, by omega⟩
    · rintro ⟨h1, h2⟩; exact ⟨h1, by omega⟩
  symm
  rw [lb]
  have gb : ∀ own ∈ m_all_bare R n, own.items.length ≤ (m_greatest_bare R n).items.length ∧ m_greatest_bare R n ∈ m_all_bare R n := fun own ho => by
    have ne : (m_all_bare R n).map (fun x1 => (x1.items.length : Int)) ≠ [] := fun q => by
      rw [List.map_eq_nil_iff.mp q] at ho
      exact absurd ho List.not_mem_nil
    have mx := imax_mem ne
    have ne2 : ((m_all_bare R n).filter fun x2 => (decide ((x2.items.length : Int) = (maxD (0 : Int) ((m_all_bare R n).map fun x1 => (x1.items.length : Int)))))) ≠ [] := by
      rw [maxD_cons ne]
      obtain ⟨y, hy, e⟩ := List.mem_map.mp mx
      exact List.ne_nil_of_mem (List.mem_filter.mpr ⟨hy, decide_eq_true e⟩)
    have m : m_greatest_bare R n ∈ ((m_all_bare R n).filter fun x2 => (decide ((x2.items.length : Int) = (maxD (0 : Int) ((m_all_bare R n).map fun x1 => (x1.items.length : Int)))))) := minD_mem (d := Tup.mk ([] : List (Tup Str))) ne2
    obtain ⟨m1, m2⟩ := List.mem_filter.mp m
    have m3 := of_decide_eq_true m2
    rw [maxD_cons ne] at m3
    have le := imax_ge (xs := (m_all_bare R n).map fun x1 => (x1.items.length : Int)) (List.mem_map.mpr ⟨own, ho, rfl⟩)
    exact ⟨by omega, m1⟩
  refine imax_eq ?_ fun x hx => ?_
  · unfold m_bare_number
    by_cases z : (m_greatest_bare R n).items = []
    · rw [z]
      exact List.mem_append_left _ (List.mem_singleton.mpr (by decide))
    · have l := List.length_pos_iff.mpr z
      have e : max (1 : Int) ((m_greatest_bare R n).items.length : Int) = ((m_greatest_bare R n).items.length : Int) := by omega
      rw [e]
      refine List.mem_append_right _ (List.mem_map.mpr ⟨m_greatest_bare R n, ?_, rfl⟩)
      have own := gb_open R n
      have : m_greatest_bare R n ∈ m_all_bare R n := by
        by_cases q : m_all_bare R n = []
        · exfalso
          apply z
          unfold m_greatest_bare
          rw [q]
          rfl
        · obtain ⟨y, hy⟩ := List.exists_mem_of_ne_nil _ q
          exact (gb y hy).2
      exact (om _).mp ((ab _).mp this).1
  · unfold m_bare_number
    rcases List.mem_append.mp hx with m | m
    · rw [List.mem_singleton.mp m]; omega
    · obtain ⟨own, ho, rfl⟩ := List.mem_map.mp m
      by_cases z : own.items.length = 0
      · rw [z]; omega
      · have a := (gb own ((ab own).mpr ⟨(om own).mpr ho, by omega⟩)).1
        omega
end CL
end
section
set_option autoImplicit false
/-! Plain law 14: crossing groups. -/
namespace CL
open PySem PySem.Spec PyProof.Rows L2 DL
open PySem.W (Datum Tup DatumOrd Holds HoldAll T3)
abbrev lcQ (a b : Tup Str) : Bool := ((decide ((a.items.filter fun x1 => (decide (x1 ∈ b.items))) ≠ ([] : List Str))) && ((decide (((a.items.filter fun x1 => (decide (x1 ∈ b.items))).length : Int) < (a.items.length : Int))) && (decide (((a.items.filter fun x1 => (decide (x1 ∈ b.items))).length : Int) < (b.items.length : Int)))))
theorem cross_q (a b : Tup Str) : m_do_cross a b = lcQ a b := by
  unfold m_do_cross lcQ
  generalize (a.items.filter fun x1 => (decide (x1 ∈ b.items))) = xs
  rw [Bool.eq_iff_iff]
  simp only [Bool.and_eq_true, decide_eq_true_iff]
  constructor
  · rintro ⟨h1, h2⟩
    refine ⟨fun e => ?_, by omega, by omega⟩
    rw [e] at h1
    exact absurd h1 (by decide)
  · rintro ⟨h1, h2, h3⟩
    have l := List.length_pos_iff.mpr h1
    omega
theorem fold_flat {α β : Type} {F : α → List β} : ∀ (xs : List α) (t : List β), xs.foldl (fun t u => t ++ F u) t = t ++ xs.flatMap F
  | [], t => (List.append_nil _).symm
  | x :: xs, t => by rw [List.foldl_cons, fold_flat xs, List.flatMap_cons, List.append_assoc]
abbrev AscG (gs : List (Tup Str)) : Prop := gs.Pairwise fun a b => DatumOrd.lt a b = true
theorem later_eq {x : Tup Str} {pre rest : List (Tup Str)} (h : AscG (pre ++ x :: rest)) : ((pre ++ x :: rest).filter fun x2 => ((PySem.W.DatumOrd.lt x x2) && (m_do_cross x x2))) = rest.filter fun x2 => lcQ x x2 := by
  rw [List.filter_append]
  have hp := List.pairwise_append.mp h
  have hc := List.pairwise_cons.mp hp.2.1
  have e1 : (pre.filter fun x2 => ((PySem.W.DatumOrd.lt x x2) && (m_do_cross x x2))) = [] := by
    rw [List.filter_eq_nil_iff]
    intro a ha
    have b := hp.2.2 a ha x List.mem_cons_self
    rw [lt_asy b]
    simp
  have e2 : DatumOrd.lt x x = false := lt_irr x
  rw [e1, List.nil_append, List.filter_cons_of_neg (by rw [e2]; simp)]
  refine List.filter_congr fun a ha => ?_
  rw [hc.1 a ha, Bool.true_and, cross_q]
theorem cross_go {gs : List (Tup Str)} (h : AscG gs) : ∀ (rest pre : List (Tup Str)), gs = pre ++ rest → (rest.flatMap fun x1 => (gs.filter fun x2 => ((PySem.W.DatumOrd.lt x1 x2) && (m_do_cross x1 x2))).map fun x2 => (x1, x2)) = ((rest.zipIdx pre.length).map fun q => ((q.2 : Int), q.1)).flatMap fun u1 => ((gcut gs (some (u1.1 + (1 : Int))) none).filter fun u2 => lcQ u1.2 u2).map fun u2 => (u1.2, u2)
  | [], pre, _ => rfl
  | x :: rest, pre, e => by
    have ih := cross_go h rest (pre ++ [x]) (by rw [e, List.append_assoc]; rfl)
    rw [List.flatMap_cons, List.zipIdx_cons, List.map_cons, List.flatMap_cons, ih, List.length_append]
    congr 1
    show (gs.filter fun x2 => ((PySem.W.DatumOrd.lt x x2) && (m_do_cross x x2))).map _ = ((gcut gs (some ((pre.length : Int) + 1)) none).filter fun u2 => lcQ x u2).map _
    rw [gcut_drop]
    have d : gs.drop (pre.length + 1) = rest := by
      rw [e, show pre ++ x :: rest = (pre ++ [x]) ++ rest by simp, List.drop_left' (by simp)]
    rw [d]
    have g := later_eq (x := x) (pre := pre) (rest := rest) (e ▸ h)
    rw [← e] at g
    rw [g]
theorem crossing_same {R : Rules} (h : AscG R.2.items) : m_crossing R = m_law_crossing R.2 := by
  have e : m_law_crossing R.2 = (enumL R.2.items).foldl (fun t1 u1 => t1 ++ ((gcut R.2.items (some (u1.1 + (1 : Int))) none).filter fun u2 => lcQ u1.2 u2).map fun u2 => (u1.2, u2)) [] := by
    unfold m_law_crossing
    congr 1
    funext t1 u1
    exact fold_if _ _
  rw [e, fold_flat, List.nil_append]
  exact cross_go h R.2.items [] rfl
end CL
end
section
set_option autoImplicit false
/-! Plain law 15: bare sets told, nested rules. -/
namespace CL
open PySem PySem.Spec PyProof.Rows L2 DL
open PySem.W (Datum Tup DatumOrd Holds HoldAll T3)
theorem sets_go : ∀ (gs : List (Tup Str)) (X : List (Tup (Tup Str))) (a : Tup (Tup Str)) (s : List (Tup Str)), a ∈ X → s.Sublist gs → Tup.mk (a.items ++ s) ∈ gs.foldl (fun t1 u1 => t1 ++ (t1.map fun x1 => snoc x1 u1)) X
  | [], X, a, s, ha, hs => by
    rw [List.sublist_nil.mp hs, List.append_nil]
    exact ha
  | g :: gs, X, a, s, ha, hs => by
    rw [List.foldl_cons]
    cases hs with
    | cons _ h => exact sets_go gs _ a s (List.mem_append_left _ ha) h
    | cons_cons _ h =>
      rename_i s
      have b := sets_go gs (X ++ X.map fun x1 => snoc x1 g) (snoc a g) s (List.mem_append_right _ (List.mem_map.mpr ⟨a, ha, rfl⟩)) h
      have e : (snoc a g).items ++ s = a.items ++ (g :: s) := by
        show (a.items ++ [g]) ++ s = _
        rw [List.append_assoc]
        rfl
      rw [e] at b
      exact b
theorem ls_all {gs s : List (Tup Str)} (h : s.Sublist gs) : Tup.mk s ∈ m_law_sets gs := sets_go gs [Tup.mk []] (Tup.mk []) s List.mem_cons_self h
/-- a bare set on a kind -/
def BareP (R : Rules) (n : Str) (gs : List (Tup Str)) : Prop := gs.Sublist R.2.items ∧ OpenP gs ∧ ∀ g ∈ gs, n ∈ g.items
theorem bare_ge {R : Rules} (r : WR R) {n : Str} {gs : List (Tup Str)} (h : BareP R n gs) : (gs.length : Int) ≤ m_bare_number R n := by
  rw [bare_same r]
  have s : gs.Sublist (R.2.items.filter fun x1 => decide (n ∈ x1.items)) := by
    have a := h.1.filter fun x1 => decide (n ∈ x1.items)
    rw [List.filter_eq_self.mpr (fun g hg => decide_eq_true (h.2.2 g hg))] at a
    exact a
  exact imax_ge (List.mem_append_right _ (List.mem_map.mpr ⟨Tup.mk gs, List.mem_filter.mpr ⟨ls_all s, law_open_iff.mpr h.2.1⟩, rfl⟩))
theorem bare_one {R : Rules} (r : WR R) (n : Str) : m_bare_number R n = 1 ∨ ∃ gs, BareP R n gs ∧ (gs.length : Int) = m_bare_number R n := by
  have m : m_law_bare R n ∈ [(1 : Int)] ++ (((m_law_sets (R.2.items.filter fun x1 => (decide (n ∈ x1.items)))).filter fun x2 => (m_law_open x2)).map fun x2 => (x2.items.length : Int)) := imax_mem (by simp)
  rw [bare_same r]
  rcases List.mem_append.mp m with q | q
  · exact .inl (List.mem_singleton.mp q)
  · obtain ⟨own, ho, e⟩ := List.mem_map.mp q
    obtain ⟨h1, h2⟩ := List.mem_filter.mp ho
    have s := ls_mem h1
    exact .inr ⟨own.items, ⟨s.trans List.filter_sublist, law_open_iff.mp h2, fun g hg => of_decide_eq_true (List.mem_filter.mp (s.subset hg)).2⟩, e⟩
theorem factor_ge {R : Rules} (r : WR R) {n : Str} (hn : n ∈ R.1.items) : m_bare_number R n ≤ m_factor R := imax_ge (List.mem_map.mpr ⟨n, hn, rfl⟩)
theorem factor_is {R : Rules} (r : WR R) : ∃ n ∈ R.1.items, m_bare_number R n = m_factor R := by
  obtain ⟨n, hn, e⟩ := List.mem_map.mp (imax_mem (fac_ne r))
  exact ⟨n, hn, e⟩
end CL
end
section
set_option autoImplicit false
/-! Plain law 16: nested rules have factor 1, and no others. -/
namespace CL
open PySem PySem.Spec PyProof.Rows L2 DL
open PySem.W (Datum Tup DatumOrd Holds HoldAll T3)
abbrev both (a b : Tup Str) : List Str := a.items.filter fun x1 => (decide (x1 ∈ b.items))
theorem both_mem {a b : Tup Str} {n : Str} : n ∈ both a b ↔ n ∈ a.items ∧ n ∈ b.items := by
  unfold both
  rw [List.mem_filter, decide_eq_true_iff]
theorem both_lta {a b : Tup Str} {n : Str} (na : n ∈ a.items) (nb : n ∉ b.items) : (both a b).length < a.items.length := by
  rcases Nat.lt_or_ge (both a b).length a.items.length with h | h
  · exact h
  · exfalso
    have e : both a b = a.items := List.filter_sublist.eq_of_length_le h
    have m : n ∈ both a b := e ▸ na
    exact nb (both_mem.mp m).2
theorem both_ltb {a b : Tup Str} {n : Str} (nd : a.items.Nodup) (nb : n ∈ b.items) (na : n ∉ a.items) : (both a b).length < b.items.length := by
  have d : (n :: both a b).Nodup := List.nodup_cons.mpr ⟨fun m => na (both_mem.mp m).1, nd.filter _⟩
  have l := d.length_le_of_subset (l₂ := b.items) fun x hx => by
    rcases List.mem_cons.mp hx with e | m
    · rw [e]; exact nb
    · exact (both_mem.mp m).2
  rw [List.length_cons] at l
  omega
theorem lt_both_a {a b : Tup Str} (h : (both a b).length < a.items.length) : ∃ n ∈ a.items, n ∉ b.items := by
  by_cases q : ∃ n ∈ a.items, n ∉ b.items
  · exact q
  · exfalso
    have e : both a b = a.items := List.filter_eq_self.mpr fun n hn => decide_eq_true (by
      by_cases z : n ∈ b.items
      · exact z
      · exact absurd ⟨n, hn, z⟩ q)
    rw [e] at h
    omega
theorem lt_both_b {a b : Tup Str} (nd : b.items.Nodup) (h : (both a b).length < b.items.length) : ∃ n ∈ b.items, n ∉ a.items := by
  by_cases q : ∃ n ∈ b.items, n ∉ a.items
  · exact q
  · exfalso
    have l := nd.length_le_of_subset (l₂ := both a b) fun n hn => both_mem.mpr ⟨by
      by_cases z : n ∈ a.items
      · exact z
      · exact absurd ⟨n, hn, z⟩ q, hn⟩
    omega
def CrossP (a b : Tup Str) : Prop := (∃ n ∈ a.items, n ∈ b.items) ∧ (∃ n ∈ a.items, n ∉ b.items) ∧ ∃ n ∈ b.items, n ∉ a.items
theorem cross_iff {a b : Tup Str} (na : a.items.Nodup) (nb : b.items.Nodup) : m_do_cross a b = true ↔ CrossP a b := by
  rw [cross_q]
  unfold lcQ CrossP
  simp only [Bool.and_eq_true, decide_eq_true_iff]
  constructor
  · rintro ⟨h1, h2, h3⟩
    obtain ⟨n, hn⟩ := List.exists_mem_of_ne_nil _ h1
    exact ⟨⟨n, both_mem.mp hn⟩, lt_both_a (by have c : ((both a b).length : Int) < (a.items.length : Int) := h2; omega), lt_both_b nb (by have c : ((both a b).length : Int) < (b.items.length : Int) := h3; omega)⟩
  · rintro ⟨⟨n, h1⟩, ⟨x, h2, h3⟩, y, h4, h5⟩
    refine ⟨List.ne_nil_of_mem (both_mem.mpr h1), ?_, ?_⟩
    · show ((both a b).length : Int) < (a.items.length : Int)
      have c := both_lta h2 h3
      omega
    · show ((both a b).length : Int) < (b.items.length : Int)
      have c := both_ltb na h4 h5
      omega
theorem cross_mem {R : Rules} {a b : Tup Str} : (a, b) ∈ m_crossing R ↔ a ∈ R.2.items ∧ b ∈ R.2.items ∧ DatumOrd.lt a b = true ∧ m_do_cross a b = true := by
  unfold m_crossing
  rw [List.mem_flatMap]
  constructor
  · rintro ⟨x, hx, hm⟩
    obtain ⟨y, hy, e⟩ := List.mem_map.mp hm
    obtain ⟨h1, h2⟩ := List.mem_filter.mp hy
    rw [Bool.and_eq_true] at h2
    cases e
    exact ⟨hx, h1, h2.1, h2.2⟩
  · rintro ⟨h1, h2, h3, h4⟩
    refine ⟨a, h1, List.mem_map.mpr ⟨b, List.mem_filter.mpr ⟨h2, ?_⟩, rfl⟩⟩
    rw [Bool.and_eq_true]
    exact ⟨h3, h4⟩
theorem two_sub {gs : List (Tup Str)} (h : AscG gs) {a b : Tup Str} (ha : a ∈ gs) (hb : b ∈ gs) (l : DatumOrd.lt a b = true) : [a, b].Sublist gs := by
  induction gs with
  | nil => exact absurd ha List.not_mem_nil
  | cons g gs ih =>
    have p := List.pairwise_cons.mp h
    rcases List.mem_cons.mp ha with e | m
    · subst e
      rcases List.mem_cons.mp hb with e2 | m2
      · rw [e2, lt_irr] at l; cases l
      · exact List.Sublist.cons_cons _ (List.singleton_sublist.mpr m2)
    · rcases List.mem_cons.mp hb with e2 | m2
      · have q := lt_asy (p.1 a m)
        rw [← e2, l] at q
        cases q
      · exact (ih p.2 m m2).cons _
theorem nested_iff {R : Rules} (r : WR R) (h : AscG R.2.items) : m_is_nested R = decide (m_factor R = 1) := by
  unfold m_is_nested
  rw [decide_eq_decide]
  constructor
  · intro z
    have z2 : m_crossing R = [] := List.length_eq_zero_iff.mp (by omega)
    obtain ⟨n, hn, e⟩ := factor_is r
    have lo := (fac_le r).1
    rcases bare_one r n with q | ⟨gs, hb, l⟩
    · omega
    · match gs, hb, l with
      | [], _, l => exact absurd l (by rw [List.length_nil]; omega)
      | [g], _, l => rw [List.length_singleton] at l; omega
      | a :: b :: gs, hb, l =>
        exfalso
        have asc := h.sublist hb.1
        have lt : DatumOrd.lt a b = true := (List.pairwise_cons.mp asc).1 b List.mem_cons_self
        have ne : a ≠ b := fun q => by rw [q, lt_irr] at lt; cases lt
        have ia : a ∈ a :: b :: gs := List.mem_cons_self
        have ib : b ∈ a :: b :: gs := List.mem_cons_of_mem _ List.mem_cons_self
        obtain ⟨x, hx, ux⟩ := hb.2.1 a ia
        obtain ⟨y, hy, uy⟩ := hb.2.1 b ib
        have c : m_do_cross a b = true := (cross_iff (r.nd a (hb.1.subset ia)) (r.nd b (hb.1.subset ib))).mpr ⟨⟨n, hb.2.2 a ia, hb.2.2 b ib⟩, ⟨x, hx, fun m => ne (ux b ib m).symm⟩, y, hy, fun m => ne (uy a ia m)⟩
        have m := cross_mem.mpr ⟨hb.1.subset ia, hb.1.subset ib, lt, c⟩
        rw [z2] at m
        exact absurd m List.not_mem_nil
  · intro z
    have z2 : m_crossing R = [] := by
      cases e : m_crossing R with
      | nil => rfl
      | cons q qs =>
        exfalso
        obtain ⟨a, b⟩ := q
        have m : (a, b) ∈ m_crossing R := e ▸ List.mem_cons_self
        obtain ⟨ha, hb, lt, c⟩ := cross_mem.mp m
        obtain ⟨⟨n, na, nb⟩, ⟨x, xa, xb⟩, y, yb, ya⟩ := (cross_iff (r.nd a ha) (r.nd b hb)).mp c
        have bp : BareP R n [a, b] := ⟨two_sub h ha hb lt, fun g hg => by
          rcases List.mem_cons.mp hg with e | m
          · subst e
            refine ⟨x, xa, fun u hu xu => ?_⟩
            rcases List.mem_cons.mp hu with e | m
            · exact e
            · rw [List.mem_singleton.mp m] at xu; exact absurd xu xb
          · rw [List.mem_singleton.mp m]
            refine ⟨y, yb, fun u hu yu => ?_⟩
            rcases List.mem_cons.mp hu with e | m
            · rw [e] at yu; exact absurd yu ya
            · exact List.mem_singleton.mp m, fun g hg => by
          rcases List.mem_cons.mp hg with e | m
          · rw [e]; exact na
          · rw [List.mem_singleton.mp m]; exact nb⟩
        have g := bare_ge r bp
        have f := factor_ge r (r.gs a ha n na)
        rw [show ([a, b].length : Int) = 2 from rfl] at g
        omega
    rw [z2]
    rfl
end CL
end
section
set_option autoImplicit false
/-! Plain law 17: each end is at least one part in the factor of each lot. -/
namespace CL
open PySem PySem.Spec PyProof.Rows L2 DL
open PySem.W (Datum Tup DatumOrd Holds HoldAll T3)
/-- some groups meet all kinds asked -/
def Cov (U : Str → Prop) (gs : List (Tup Str)) : Prop := ∀ n, U n → ∃ g ∈ gs, n ∈ g.items
theorem min_cover {U : Str → Prop} : ∀ (k : Nat) (gs : List (Tup Str)), gs.length ≤ k → gs.Nodup → Cov U gs → ∃ cs : List (Tup Str), cs.Sublist gs ∧ Cov U cs ∧ OpenP cs
  | 0, gs, hk, _, hc => by
    have e : gs = [] := List.length_eq_zero_iff.mp (by omega)
    subst e
    exact ⟨[], List.Sublist.refl _, hc, fun g hg => absurd hg List.not_mem_nil⟩
  | k + 1, gs, hk, nd, hc => by
    by_cases q : ∃ g ∈ gs, Cov U (gs.erase g)
    · obtain ⟨g, hg, c⟩ := q
      obtain ⟨cs, h1, h2, h3⟩ := min_cover k (gs.erase g) (by rw [List.length_erase_of_mem hg]; omega) (nd.erase g) c
      exact ⟨cs, h1.trans List.erase_sublist, h2, h3⟩
    · refine ⟨gs, List.Sublist.refl _, hc, fun g hg => ?_⟩
      have nc : ¬ Cov U (gs.erase g) := fun c => q ⟨g, hg, c⟩
      have ex : ∃ n, U n ∧ ∀ h ∈ gs.erase g, n ∉ h.items := by
        by_cases z : ∃ n, U n ∧ ∀ h ∈ gs.erase g, n ∉ h.items
        · exact z
        · exact absurd (fun n hn => by
            by_cases y : ∃ h ∈ gs.erase g, n ∈ h.items
            · exact y
            · exact absurd ⟨n, hn, fun h hh m => y ⟨h, hh, m⟩⟩ z) nc
      obtain ⟨n, hu, hn⟩ := ex
      have only : ∀ h ∈ gs, n ∈ h.items → h = g := fun h hh m => by
        by_cases e : h = g
        · exact e
        · exact absurd m (hn h ((List.mem_erase_of_ne e).mpr hh))
      obtain ⟨h, hh, m⟩ := hc n hu
      exact ⟨n, only h hh m ▸ m, only⟩
theorem sum_mul {f : Str → Int} {c : Int} : ∀ xs : List Str, (xs.map fun n => f n * c).sum = (xs.map f).sum * c
  | [] => by rw [List.map_nil, List.map_nil, List.sum_nil, Int.zero_mul]
  | x :: xs => by rw [List.map_cons, List.map_cons, List.sum_cons, List.sum_cons, sum_mul xs, Int.add_mul]
theorem sum_add {f g : Str → Int} : ∀ xs : List Str, (xs.map fun n => f n + g n).sum = (xs.map f).sum + (xs.map g).sum
  | [] => rfl
  | x :: xs => by rw [List.map_cons, List.map_cons, List.map_cons, List.sum_cons, List.sum_cons, List.sum_cons, sum_add xs]; omega
/-- a load told over all kinds -/
theorem sum_in {f : Str → Int} {p : Str → Bool} : ∀ xs : List Str, ((xs.filter p).map f).sum = (xs.map fun n => if p n = true then f n else 0).sum
  | [] => rfl
  | x :: xs => by
    rw [List.map_cons, List.sum_cons]
    cases e : p x with
    | true => rw [List.filter_cons_of_pos e, List.map_cons, List.sum_cons, sum_in xs, if_pos rfl]
    | false =>
      rw [List.filter_cons_of_neg (by rw [e]; decide), sum_in xs, if_neg (by decide)]
      omega
/-- how many of some groups have a kind -/
abbrev hasN (gs : List (Tup Str)) (n : Str) : Int := ((gs.filter fun g => decide (n ∈ g.items)).length : Int)
theorem loads_sum {R : Rules} {lot : Tup Int} (r : WR R) : ∀ gs : List (Tup Str), (∀ g ∈ gs, g ∈ R.2.items) → (gs.map (ld R lot)).sum = (R.1.items.map fun n => val R lot n * hasN gs n).sum
  | [], _ => by
    have e := sum_mul (f := val R lot) (c := 0) R.1.items
    rw [Int.mul_zero] at e
    exact e.symm
  | g :: gs, h => by
    rw [List.map_cons, List.sum_cons, loads_sum r gs (fun x hx => h x (List.mem_cons_of_mem _ hx)), ld_filter r (h g List.mem_cons_self), sum_in, ← sum_add]
    congr 1
    refine List.map_congr_left fun n _ => ?_
    by_cases q : n ∈ g.items
    · have e : hasN (g :: gs) n = hasN gs n + 1 := by
        show (((g :: gs).filter fun g => decide (n ∈ g.items)).length : Int) = _
        rw [List.filter_cons, if_pos (decide_eq_true q), List.length_cons, Int.natCast_add]
        rfl
      rw [if_pos (decide_eq_true q), e, Int.mul_add, Int.mul_one, Int.add_comm]
    · have e : hasN (g :: gs) n = hasN gs n := by
        show (((g :: gs).filter fun g => decide (n ∈ g.items)).length : Int) = _
        rw [List.filter_cons, if_neg (by rw [decide_eq_true_iff]; exact q)]
      rw [if_neg (by rw [decide_eq_true_iff]; exact q), e, Int.zero_add]
theorem open_sub {gs cs : List (Tup Str)} (h : OpenP gs) (s : cs.Sublist gs) : OpenP cs := fun g hg => by
  obtain ⟨n, hn, u⟩ := h g (s.subset hg)
  exact ⟨n, hn, fun x hx => u x (s.subset hx)⟩
theorem has_le {R : Rules} (r : WR R) {gs : List (Tup Str)} (s : gs.Sublist R.2.items) (o : OpenP gs) {n : Str} (hn : n ∈ R.1.items) : hasN gs n ≤ m_factor R := by
  have b : BareP R n (gs.filter fun g => decide (n ∈ g.items)) := ⟨List.filter_sublist.trans s, open_sub o List.filter_sublist, fun g hg => of_decide_eq_true (List.mem_filter.mp hg).2⟩
  have a := bare_ge r b
  have c := factor_ge r hn
  show ((gs.filter fun g => decide (n ∈ g.items)).length : Int) ≤ _
  omega
theorem factor_cover {R : Rules} {L D e k : Tup Int} (r : WR R) (he : EndP R L D e) (hk : KLot R L D k) : k.items.sum ≤ e.items.sum * m_factor R := by
  obtain ⟨fg, hfg⟩ : ∃ fg, fg = R.2.items.filter fun g => decide (∃ q ∈ R.2.items.zip L.items, q.1 = g ∧ q.2 ≤ ld R e q.1) := ⟨_, rfl⟩
  have fm : ∀ g ∈ fg, g ∈ R.2.items ∧ ∃ q ∈ R.2.items.zip L.items, q.1 = g ∧ q.2 ≤ ld R e q.1 := fun g hg => by
    rw [hfg] at hg
    obtain ⟨h1, h2⟩ := List.mem_filter.mp hg
    exact ⟨h1, of_decide_eq_true h2⟩
  have cov : Cov (fun n => n ∈ R.1.items ∧ val R e n < val R D n) fg := fun n hn => by
    obtain ⟨q, hq, h1, h2⟩ := he.2 n hn.1 hn.2
    refine ⟨q.1, ?_, h1⟩
    rw [hfg]
    exact List.mem_filter.mpr ⟨zip_fst hq, decide_eq_true ⟨q, hq, rfl, h2⟩⟩
  obtain ⟨cs, hs, hc, ho⟩ := min_cover fg.length fg (Nat.le_refl _) (by rw [hfg]; exact r.gn.filter _) cov
  have sR : cs.Sublist R.2.items := hs.trans (by rw [hfg]; exact List.filter_sublist)
  have inR : ∀ g ∈ cs, g ∈ R.2.items := fun g hg => sR.subset hg
  have nnK : ∀ n ∈ R.1.items, 0 ≤ val R k n := fun n hn => (hk.1.2 n hn).1
  have nnE : ∀ n ∈ R.1.items, 0 ≤ val R e n := fun n hn => (he.1.1.2 n hn).1
  have a := cover_le r nnK cs inR
  have b : (cs.map (ld R k)).sum ≤ (cs.map (ld R e)).sum := by
    have go : ∀ xs : List (Tup Str), (∀ g ∈ xs, g ∈ cs) → (xs.map (ld R k)).sum ≤ (xs.map (ld R e)).sum := by
      intro xs
      induction xs with
      | nil => intro _; exact Int.le_refl _
      | cons g xs ih =>
        intro h
        rw [List.map_cons, List.map_cons, List.sum_cons, List.sum_cons]
        have i := ih fun x hx => h x (List.mem_cons_of_mem _ hx)
        obtain ⟨_, q, hq, e1, e2⟩ := fm g (hs.subset (h g List.mem_cons_self))
        have c := hk.2 q hq
        rw [e1] at c e2
        omega
    exact go cs fun g hg => hg
  have d : ((outK R cs).map (val R k)).sum ≤ ((outK R cs).map (val R e)).sum := sum_le fun n hn => by
    obtain ⟨h1, h2⟩ := List.mem_filter.mp hn
    have o := out_iff.mp h2
    have ub := (hk.1.2 n h1).2
    have nl : ¬ val R e n < val R D n := fun lt => by
      obtain ⟨g, hg, m⟩ := hc n ⟨h1, lt⟩
      exact o g hg m
    omega
  have f := loads_sum (lot := e) r cs inR
  have g := sum_in (f := val R e) (p := fun n => !((cs.map fun g => decide (n ∈ g.items)).any id)) R.1.items
  have t : (cs.map (ld R e)).sum + ((outK R cs).map (val R e)).sum ≤ (R.1.items.map fun n => val R e n * m_factor R).sum := by
    rw [f]
    show _ + ((R.1.items.filter fun n => !((cs.map fun g => decide (n ∈ g.items)).any id)).map (val R e)).sum ≤ _
    rw [g, ← sum_add]
    refine sum_le fun n hn => ?_
    have e0 := nnE n hn
    by_cases q : (!((cs.map fun g => decide (n ∈ g.items)).any id)) = true
    · rw [if_pos q]
      have z : hasN cs n = 0 := by
        have o := out_iff.mp q
        show ((cs.filter fun g => decide (n ∈ g.items)).length : Int) = 0
        rw [List.filter_eq_nil_iff.mpr fun g hg => by rw [decide_eq_true_iff]; exact o g hg]
        rfl
      rw [z, Int.mul_zero]
      have m := Int.mul_le_mul_of_nonneg_left (fac_le r).1 e0
      omega
    · rw [if_neg q]
      have m := Int.mul_le_mul_of_nonneg_left (has_le r sR ho hn) e0
      omega
  rw [sum_mul] at t
  rw [sum_val r hk.1.1, sum_val r he.1.1.1]
  omega
end CL
end
section
set_option autoImplicit false
/-! Plain law 18: the worst case shows the factor. -/
namespace CL
open PySem PySem.Spec PyProof.Rows L2 DL
open PySem.W (Datum Tup DatumOrd Holds HoldAll T3)
/-- the first own kind of a group among some -/
abbrev oK (gs : List (Tup Str)) (g : Tup Str) : Str := (g.items.filter fun x2 => (decide ((((gs.map fun x3 => (decide (x2 ∈ x3.items))).countP fun u => decide (u = true) : Nat) : Int) = (1 : Int)))).getD 0 ("" : Str)
theorem own_firsts (gs : Tup (Tup Str)) : ((m_own_kinds gs).items.map fun x2 => (x2.items.getD 0 ("" : Str))) = gs.items.map (oK gs.items) := by
  unfold m_own_kinds
  show ((gs.items.map _).map _) = _
  rw [List.map_map]
  rfl
theorem oK_is {gs : Tup (Tup Str)} (nd : gs.items.Nodup) (h : opn gs = true) {g : Tup Str} (hg : g ∈ gs.items) : oK gs.items g ∈ g.items ∧ ∀ x ∈ gs.items, oK gs.items g ∈ x.items → x = g := by
  have ne := opn_own h (Tup.mk (g.items.filter fun x2 => (decide ((((gs.items.map fun x3 => (decide (x2 ∈ x3.items))).countP fun u => decide (u = true) : Nat) : Int) = (1 : Int))))) (List.mem_map.mpr ⟨g, hg, rfl⟩)
  have m := getD_mem (d := ("" : Str)) ne
  obtain ⟨h1, h2⟩ := List.mem_filter.mp m
  exact ⟨h1, (own_iff nd hg h1).mp (of_decide_eq_true h2)⟩
theorem sum_ind (p : Str → Bool) : ∀ xs : List Str, (xs.map fun n => (if p n = true then 1 else 0 : Int)).sum = ((xs.filter p).length : Int)
  | [] => rfl
  | x :: xs => by
    rw [List.map_cons, List.sum_cons, sum_ind p xs]
    cases e : p x with
    | true => rw [List.filter_cons_of_pos e, if_pos rfl, List.length_cons]; omega
    | false => rw [List.filter_cons_of_neg (by rw [e]; decide), if_neg (by decide)]; omega
/-- the kind on which the worst case stands, its greatest bare set -/
abbrev wN (R : Rules) : Str := (m_worst_kinds R).items.getD 0 ("" : Str)
abbrev wS (R : Rules) : Tup (Tup Str) := m_greatest_bare R (wN R)
abbrev wF (R : Rules) : List Str := if (decide ((0 : Int) < ((wS R).items.length : Int))) = true then ((m_own_kinds (wS R)).items.map fun x2 => (x2.items.getD 0 ("" : Str))) else [wN R]
abbrev wLim (R : Rules) (g : Tup Str) : Int := if (decide (g ∈ (wS R).items)) = true then (1 : Int) else (m_factor R)
abbrev wTail (R : Rules) : List Str := ((m_own_kinds (wS R)).items.filter fun x1 => (decide ((x1.items.getD 0 ("" : Str)) ≠ (wN R)))).map fun x1 => (x1.items.getD 0 ("" : Str))
theorem wc_a (R : Rules) : (m_worst_case R).a = Tup.mk (R.2.items.map (wLim R)) := rfl
theorem wc_b (R : Rules) : (m_worst_case R).b = Tup.mk (wN R :: wTail R) := rfl
theorem wc_c (R : Rules) : (m_worst_case R).c = lotOf R fun n => if (decide (n ∈ wF R)) = true then 1 else 0 := rfl
theorem wn_mem {R : Rules} (r : WR R) : wN R ∈ R.1.items ∧ m_bare_number R (wN R) = m_factor R := (wk_mem _).mp (getD_mem (wk_ne r))
theorem ws_sub {R : Rules} : (wS R).items.Sublist R.2.items := (gb_open R (wN R)).2.trans List.filter_sublist
theorem ws_nd {R : Rules} (r : WR R) : (wS R).items.Nodup := ws_sub.nodup r.gn
theorem ws_has {R : Rules} {g : Tup Str} (h : g ∈ (wS R).items) : wN R ∈ g.items := of_decide_eq_true (List.mem_filter.mp ((gb_open R (wN R)).2.subset h)).2
theorem ws_one {R : Rules} (r : WR R) {g : Tup Str} (h : g ∈ (wS R).items) : oK (wS R).items g ∈ g.items ∧ ∀ x ∈ (wS R).items, oK (wS R).items g ∈ x.items → x = g := oK_is (ws_nd r) (gb_open R (wN R)).1 h
theorem ws_len {R : Rules} (r : WR R) : max (1 : Int) ((wS R).items.length : Int) = m_factor R := (wn_mem r).2
theorem wf_none {R : Rules} (h : (wS R).items = []) : wF R = [wN R] := by
  unfold wF
  rw [h]
  rfl
theorem wf_some {R : Rules} (h : (wS R).items ≠ []) : wF R = (wS R).items.map (oK (wS R).items) := by
  have l := List.length_pos_iff.mpr h
  unfold wF
  rw [if_pos (decide_eq_true (by omega)), own_firsts]
theorem wf_nd {R : Rules} (r : WR R) : (wF R).Nodup := by
  by_cases h : (wS R).items = []
  · rw [wf_none h]
    exact List.nodup_cons.mpr ⟨List.not_mem_nil, List.nodup_nil⟩
  · rw [wf_some h]
    refine List.pairwise_map.mpr ((ws_nd r).imp_of_mem fun {a b} ha hb ne e => ne ?_)
    have oa := ws_one r ha
    have ob := ws_one r hb
    exact ob.2 a ha (e ▸ oa.1)
theorem wf_in {R : Rules} (r : WR R) {n : Str} (h : n ∈ wF R) : n ∈ R.1.items := by
  by_cases q : (wS R).items = []
  · rw [wf_none q, List.mem_singleton] at h
    rw [h]
    exact (wn_mem r).1
  · rw [wf_some q] at h
    obtain ⟨g, hg, rfl⟩ := List.mem_map.mp h
    exact r.gs g (ws_sub.subset hg) _ (ws_one r hg).1
theorem wf_len {R : Rules} (r : WR R) : ((wF R).length : Int) = m_factor R := by
  have l := ws_len r
  by_cases q : (wS R).items = []
  · rw [wf_none q]
    rw [q] at l
    exact l
  · have p := List.length_pos_iff.mpr q
    rw [wf_some q, List.length_map]
    omega
theorem wf_row {R : Rules} {n : Str} (h : n ∈ wF R) : n ∈ wN R :: wTail R := by
  by_cases e : n = wN R
  · rw [e]; exact List.mem_cons_self
  · refine List.mem_cons_of_mem _ ?_
    by_cases q : (wS R).items = []
    · rw [wf_none q, List.mem_singleton] at h
      exact absurd h e
    · have l := List.length_pos_iff.mpr q
      have h2 : n ∈ ((m_own_kinds (wS R)).items.map fun x2 => (x2.items.getD 0 ("" : Str))) := by
        rw [own_firsts, ← wf_some q]
        exact h
      obtain ⟨o, ho, rfl⟩ := List.mem_map.mp h2
      exact List.mem_map.mpr ⟨o, List.mem_filter.mpr ⟨ho, decide_eq_true e⟩, rfl⟩
theorem wt_is {R : Rules} {n : Str} (h : n ∈ wTail R) : ∃ g ∈ (wS R).items, n = oK (wS R).items g := by
  obtain ⟨o, ho, rfl⟩ := List.mem_map.mp h
  have m : (o.items.getD 0 ("" : Str)) ∈ ((m_own_kinds (wS R)).items.map fun x2 => (x2.items.getD 0 ("" : Str))) := List.mem_map.mpr ⟨o, (List.mem_filter.mp ho).1, rfl⟩
  rw [own_firsts] at m
  obtain ⟨g, hg, e⟩ := List.mem_map.mp m
  exact ⟨g, hg, e.symm⟩
theorem wlim_zip {R : Rules} {q : Tup Str × Int} (h : q ∈ R.2.items.zip (Tup.mk (R.2.items.map (wLim R))).items) : q.1 ∈ R.2.items ∧ q.2 = wLim R q.1 := by
  rw [show (Tup.mk (R.2.items.map (wLim R))).items = R.2.items.map (wLim R) from rfl, zip_map_self] at h
  obtain ⟨g, hg, rfl⟩ := List.mem_map.mp h
  exact ⟨hg, rfl⟩
theorem wlim_lo {R : Rules} (r : WR R) (g : Tup Str) : 1 ≤ wLim R g := by
  have a := (fac_le r).1
  unfold wLim
  split
  · exact Int.le_refl _
  · exact a
theorem wc_keeps {R : Rules} (r : WR R) : KeepsP R (m_worst_case R).a (m_worst_case R).c := fun q hq => by
  rw [wc_a] at hq
  obtain ⟨h1, h2⟩ := wlim_zip hq
  rw [h2, wc_c]
  have e : ld R (lotOf R fun n => if (decide (n ∈ wF R)) = true then 1 else 0) q.1 = ((q.1.items.filter fun n => decide (n ∈ wF R)).length : Int) := by
    unfold ld
    rw [← sum_ind]
    congr 1
    exact List.map_congr_left fun n hn => val_lotOf (r.gs _ h1 n hn)
  rw [e]
  have nd : (q.1.items.filter fun n => decide (n ∈ wF R)).Nodup := (r.nd _ h1).filter _
  unfold wLim
  by_cases m : q.1 ∈ (wS R).items
  · rw [if_pos (decide_eq_true m)]
    have l := nd.length_le_of_subset (l₂ := [oK (wS R).items q.1]) fun n hn => by
      obtain ⟨n1, n2⟩ := List.mem_filter.mp hn
      have n3 := of_decide_eq_true n2
      rw [wf_some (List.ne_nil_of_mem m)] at n3
      obtain ⟨g, hg, rfl⟩ := List.mem_map.mp n3
      rw [(ws_one r hg).2 q.1 m n1]
      exact List.mem_singleton.mpr rfl
    rw [List.length_singleton] at l
    omega
  · rw [if_neg (by rw [decide_eq_true_iff]; exact m), ← wf_len r]
    have l := nd.length_le_of_subset (l₂ := wF R) fun n hn => of_decide_eq_true (List.mem_filter.mp hn).2
    omega
theorem wc_sum {R : Rules} (r : WR R) : (m_worst_case R).c.items.sum = m_factor R := by
  have e : (m_worst_case R).c.items.sum = (R.1.items.map fun n => (if (decide (n ∈ wF R)) = true then 1 else 0 : Int)).sum := rfl
  rw [e, sum_ind, ← wf_len r]
  have p : (R.1.items.filter fun n => decide (n ∈ wF R)).Perm (wF R) := by
    rw [List.perm_ext_iff_of_nodup (r.kn.filter _) (wf_nd r)]
    intro a
    rw [List.mem_filter, decide_eq_true_iff]
    exact ⟨fun h => h.2, fun h => ⟨wf_in r h, h⟩⟩
  rw [p.length_eq]
theorem stay {R : Rules} {L lot : Tup Int} : ∀ (us : List Str) (marks : List Bool), (∀ u ∈ us, m_law_shut R L lot u = true) → (us.foldl (svStep R L) (lot, marks)).1 = lot
  | [], _, _ => rfl
  | u :: us, marks, h => by
    have e : svStep R L (lot, marks) u = (lot, marks ++ [false]) := by
      have s := h u List.mem_cons_self
      show ((if ((marks ++ [(!(m_law_shut R L lot u))]).getLastD false) = true then (m_law_more R lot u) else lot), (marks ++ [(!(m_law_shut R L lot u))])) = _
      rw [s, last_app]
      rfl
    rw [List.foldl_cons, e]
    exact stay us _ fun v hv => h v (List.mem_cons_of_mem _ hv)
theorem wc_served {R : Rules} (r : WR R) : (m_law_served R (m_worst_case R).a (m_worst_case R).b).2.items.sum = 1 := by
  have z0 : ∀ g ∈ R.2.items, ld R (lotOf R fun _ => 0) g = 0 := fun g hg => by
    unfold ld
    rw [List.map_congr_left (g := fun _ => (0 : Int)) fun n hn => val_lotOf (r.gs g hg n hn)]
    exact sum_eq0 fun _ _ => rfl
  have ns : m_law_shut R (m_worst_case R).a (lotOf R fun _ => 0) (wN R) = false := by
    cases e : m_law_shut R (m_worst_case R).a (lotOf R fun _ => 0) (wN R) with
    | false => rfl
    | true =>
      obtain ⟨q, hq, h1, h2⟩ := (law_shut_iff r (lotOf_wk _ _)).mp e
      rw [wc_a] at hq
      obtain ⟨h3, h4⟩ := wlim_zip hq
      rw [z0 _ h3, h4] at h2
      have a := wlim_lo r q.1
      omega
  have wk1 : WK R (m_law_more R (lotOf R fun _ => 0) (wN R)) := more_wk r (lotOf_wk _ _) _
  rw [sv_eq, wc_b]
  show (((wN R :: wTail R).foldl (svStep R (m_worst_case R).a) (sv0 R)).1).items.sum = 1
  have e : svStep R (m_worst_case R).a (sv0 R) (wN R) = (m_law_more R (lotOf R fun _ => 0) (wN R), [true]) := by
    show ((if ((([] : List Bool) ++ [(!(m_law_shut R (m_worst_case R).a (Tup.mk (List.replicate R.1.items.length (0 : Int))) (wN R)))]).getLastD false) = true then (m_law_more R (Tup.mk (List.replicate R.1.items.length (0 : Int))) (wN R)) else (Tup.mk (List.replicate R.1.items.length (0 : Int)))), (([] : List Bool) ++ [(!(m_law_shut R (m_worst_case R).a (Tup.mk (List.replicate R.1.items.length (0 : Int))) (wN R)))])) = _
    rw [zeros_eq, ns]
    rfl
  rw [List.foldl_cons, e, stay]
  · rw [sum_val r wk1, List.map_congr_left (g := fun n => 0 + if n = wN R then 1 else 0) fun n hn => by rw [more_val r (lotOf_wk _ _) hn, val_lotOf hn]]
    rw [sum_if (f := fun _ => 0) r.kn, if_pos (wn_mem r).1, sum_eq0 fun _ _ => rfl]
    rfl
  · intro u hu
    obtain ⟨g, hg, rfl⟩ := wt_is hu
    have gR := ws_sub.subset hg
    refine (law_shut_iff r wk1).mpr ⟨(g, wLim R g), ?_, (ws_one r hg).1, ?_⟩
    · rw [wc_a]
      show _ ∈ R.2.items.zip (R.2.items.map (wLim R))
      rw [zip_map_self]
      exact List.mem_map.mpr ⟨g, gR, rfl⟩
    · show wLim R g ≤ ld R _ g
      rw [ld_more r (lotOf_wk _ _) _ gR, z0 g gR, if_pos (ws_has hg)]
      unfold wLim
      rw [if_pos (decide_eq_true hg)]
      decide
theorem worst_ok {R : Rules} (r : WR R) : m_law_worst_right R (m_factor R) = true := by
  unfold m_law_worst_right
  simp only [Bool.and_eq_true, decide_eq_true_iff]
  have s := wc_served r
  refine ⟨?_, ⟨⟨?_, ?_⟩, (law_keeps_iff r (by rw [wc_c]; exact lotOf_wk _ _)).mpr (wc_keeps r)⟩, ?_, ?_⟩
  · rw [List.map_eq_nil_iff, List.filter_eq_nil_iff]
    intro q hq
    rw [wc_c] at hq
    have hq2 : q ∈ R.1.items.zip (R.1.items.map fun n => (if (decide (n ∈ wF R)) = true then 1 else 0 : Int)) := hq
    rw [zip_map_self] at hq2
    obtain ⟨n, hn, rfl⟩ := List.mem_map.mp hq2
    rw [decide_eq_true_iff, wc_b]
    show ¬ ((((wN R :: wTail R).countP fun u => decide (u = n) : Nat) : Int) < if (decide (n ∈ wF R)) = true then 1 else 0)
    by_cases m : n ∈ wF R
    · rw [if_pos (decide_eq_true m)]
      have c : 0 < (wN R :: wTail R).countP fun u => decide (u = n) := List.countP_pos_iff.mpr ⟨n, wf_row m, decide_eq_true rfl⟩
      omega
    · rw [if_neg (by rw [decide_eq_true_iff]; exact m)]
      omega
  · rw [wc_c]
    show ((R.1.items.map _).length : Int) = _
    rw [List.length_map]
  · rw [wc_a]
    show ((R.2.items.map _).length : Int) = _
    rw [List.length_map]
  · rw [s]; decide
  · rw [s, wc_sum r, Int.mul_one]
end CL
end
section
set_option autoImplicit false
/-! Plain law 19: data is the same as itself; what _law_factor_right counts on. -/
namespace CL
open PySem PySem.Spec PyProof.Rows L2 DL
open PySem.W (Datum Tup DatumOrd Holds HoldAll T3)
theorem sTs_nil {n : Nat} : sameTs n [] = true := by unfold sameTs; rfl
theorem sTs_cons {n : Nat} {x : PyData} {xs : List PyData} (h : sameT n x = true) (k : sameTs n xs = true) : sameTs n (x :: xs) = true := by
  unfold sameTs
  rw [h, k]
  rfl
theorem sT_list {n : Nat} {xs : List PyData} (h : sameTs n xs = true) : sameT (n + 1) (.list xs) = true := by
  unfold sameT
  exact h
theorem sT_tuple {n : Nat} {xs : List PyData} (h : sameTs n xs = true) : sameT (n + 1) (.tuple xs) = true := by
  unfold sameT
  exact h
/-- data of a type, n deep at most -/
class SmD (n : Nat) (α : Type) [DecidableEq α] [Datum α] : Prop where
  sm : ∀ x : α, sameT n (Datum.toD x) = true
section
variable {α β γ : Type} [DecidableEq α] [Datum α] [DecidableEq β] [Datum β] [DecidableEq γ] [Datum γ] {n : Nat}
theorem sTs_map [SmD n α] : ∀ xs : List α, sameTs n (xs.map Datum.toD) = true
  | [] => sTs_nil
  | x :: xs => sTs_cons (SmD.sm x) (sTs_map xs)
instance : SmD n Int := ⟨fun x => by show sameT n (.int x) = true; unfold sameT; rfl⟩
instance : SmD n Bool := ⟨fun x => by show sameT n (.bool x) = true; unfold sameT; rfl⟩
instance : SmD n Str := ⟨fun x => by show sameT n (.str x) = true; unfold sameT; rfl⟩
instance [SmD n α] : SmD (n + 1) (List α) := ⟨fun xs => sT_list (sTs_map xs)⟩
instance [SmD n α] : SmD (n + 1) (Tup α) := ⟨fun xs => sT_tuple (sTs_map xs.items)⟩
instance [SmD n α] [SmD n β] : SmD (n + 1) (α × β) := ⟨fun q => sT_tuple (sTs_cons (SmD.sm q.1) (sTs_cons (SmD.sm q.2) sTs_nil))⟩
instance [SmD n α] [SmD n β] [SmD n γ] : SmD (n + 1) (T3 α β γ) := ⟨fun q => sT_tuple (sTs_cons (SmD.sm q.a) (sTs_cons (SmD.sm q.b) (sTs_cons (SmD.sm q.c) sTs_nil)))⟩
end
theorem much_eq {R : Rules} {fw far : Int} (r : WR R) : alaw_factor_right_much_so R fw far = (m_factors R).items := by
  unfold alaw_factor_right_much_so m_factors
  exact List.map_congr_left fun n _ => (bare_same r n).symm
theorem least_eq {R : Rules} (r : WR R) : m_least_served R 7 = -((-(7 : Int)) / (m_factor R)) := by
  unfold m_least_served
  have a := fac_le r
  generalize m_factor R = f at a
  have c : f = 1 ∨ f = 2 ∨ f = 3 ∨ f = 4 := by omega
  rcases c with e | e | e | e
  · rw [e]; decide
  · rw [e]; decide
  · rw [e]; decide
  · rw [e]; decide
theorem fr_ok {R : Rules} {fw far : Int} (r : WR R) (h : AscG R.2.items) (ge : far ≤ fw * m_factor R) : FrP R fw far := by
  have m : alaw_factor_right_much_so R fw far = (m_factors R).items := much_eq r
  have mf : imax (alaw_factor_right_much_so R fw far) = m_factor R := by rw [m]; rfl
  have f := fac_le r
  refine ⟨r, ?_, ?_, ?_, ?_, ?_, ?_⟩
  · exact sT_list (sTs_cons (SmD.sm (m_factors R)) (sTs_cons (SmD.sm (m_factor R)) (sTs_cons (SmD.sm (R.1.items.map fun x2 => (m_bare_number R x2))) (sTs_cons (SmD.sm (m_crossing R)) (sTs_cons (SmD.sm (m_is_nested R)) (sTs_cons (SmD.sm (m_least_served R (7 : Int))) (sTs_cons (SmD.sm (m_greatest_most R (3 : Int))) sTs_nil)))))))
  · rw [mf]
    unfold alaw_factor_right_got1 alaw_factor_right_got alaw_factor_right_due
    rw [mf, m, crossing_same h, nested_iff r h, least_eq r]
    rfl
  · rw [mf]; exact f.1
  · rw [mf]; omega
  · rw [mf]; exact ge
  · rw [mf]; exact worst_ok r
end CL
end
section
set_option autoImplicit false
/-! D-layer 21: a comprehension that writes at lists, told turn by turn. -/
namespace DL
open PySem PySem.Spec PyProof.Rows L2
open PySem.W (Datum Tup DatumOrd Holds HoldAll T3)
section
variable {X : Cx} {k : Nat} {Γ Γ1 Γ2 : List Sl} {μ μ1 μ2 μ3 : Mu} {e a b tg : Expr} {es rest : List Expr} {r ra rb rc : Sl} {pos p p2 pos2 : Pos} {ds ys : List PyData}
variable {α β γ : Type} [DecidableEq α] [Datum α] [DecidableEq β] [Datum β] [DecidableEq γ] [Datum γ]
theorem lcMi {τ : Type} {elt iter : Expr} {scope : Scope} (own : List (Str × Nat)) (xs : List α) (M : τ → Mu) (st : τ → α → β × τ) (t0 : τ) (I : Nat → τ → Prop) (c : Cz k X) (hi : EvI X Γ μ tg iter (xs.map Datum.toD) (M t0)) (ok : BlkOk X.N X.env.scope scope own) (i0 : I 0 t0)
    (turns : ∀ (i : Nat) (t : τ) (x : α), xs[i]? = some x → I i t → I (i + 1) (st t x).2 ∧ ∃ Γ1, AllB X k scope (fun Z => EvG Z (own.map (·.2)) (wipeG Γ (own.map (·.2))) tg (Datum.toD x) Γ1) ∧ AllB X k scope (fun Z => Ev Z Γ1 (M t) elt (dd (st t x).1) (M (st t x).2))) (hs : ∀ x, foldedSetIterable iter X.env x = pure x := by intro _; rfl) :
    EvB X (.ListComp elt [⟨tg, iter, [], 0⟩] scope pos) (tD X.K Γ μ (fr (runM st t0 xs).1) (M (runM st t0 xs).2)) := by
  have g0 : (runM st t0 (xs.take 0)).2 = t0 := by simp [runM]
  have hI : ∀ n, n ≤ xs.length → I n (runM st t0 (xs.take n)).2 := fun n => by
    induction n with
    | zero => intro _; rw [g0]; exact i0
    | succ n ih =>
      intro hn
      have q : xs[n]? = some xs[n] := List.getElem?_eq_getElem hn
      rw [(runM_take st xs t0 n xs[n] q).1]
      exact (turns n _ _ q (ih (by omega))).1
  have h := ev_lcG (pos := pos) (elt := elt) (ifs := []) own (fun n => M (runM st t0 (xs.take n)).2) (fun n => ((runM st t0 xs).1[n]?).map Datum.toD) c (by simpa [runM] using hi) ok (fun i d hd => ?_) hs
  · rw [List.length_map, List.take_length] at h
    have key : ∀ (zs : List β) (n : Nat), n ≤ zs.length → outs (fun n => (zs[n]?).map Datum.toD) n = (zs.take n).map Datum.toD := fun zs n => by
      induction n with
      | zero => intro _; rfl
      | succ n ih =>
        intro hn
        rw [outs_succ, ih (by omega), List.take_succ, List.getElem?_eq_getElem hn, List.map_append]
        rfl
    have e := key (runM st t0 xs).1 xs.length (by rw [runM_len]; exact Nat.le_refl _)
    rw [List.take_of_length_le (by rw [runM_len]; exact Nat.le_refl _)] at e
    rw [e] at h
    exact h
  · rw [List.getElem?_map] at hd
    cases hx : xs[i]? with
    | none => rw [hx] at hd; cases hd
    | some x =>
      rw [hx] at hd
      cases hd
      have hlt : i < xs.length := (List.getElem?_eq_some_iff.mp hx).1
      have e := runM_take st xs t0 i x hx
      obtain ⟨_, Γ1, h1, h2⟩ := turns i _ x hx (hI i (by omega))
      refine ⟨Γ1, true, _, h1.at c, fun _ _ _ _ _ => ts_nil, fun h => (by cases h), fun _ => ⟨_, (by rw [e.2]; rfl), ?_⟩⟩
      rw [e.1]
      exact h2.at c
/-- what holds behind the turns -/
theorem runM_inv {τ α β : Type} {st : τ → α → β × τ} {I : Nat → τ → Prop} {Q : β → Prop} : ∀ (xs : List α) (n : Nat) (t : τ), I n t → (∀ i t x, x ∈ xs → i < n + xs.length → I i t → I (i + 1) (st t x).2 ∧ Q (st t x).1) → I (n + xs.length) (runM st t xs).2 ∧ ∀ y ∈ (runM st t xs).1, Q y
  | [], n, t, h, _ => ⟨h, fun y hy => absurd hy List.not_mem_nil⟩
  | x :: xs, n, t, h, hs => by
    have a := hs n t x List.mem_cons_self (by rw [List.length_cons]; omega) h
    have b := runM_inv xs (n + 1) (st t x).2 a.1 (fun i t z hz hi hI => hs i t z (List.mem_cons_of_mem _ hz) (by rw [List.length_cons]; omega) hI)
    refine ⟨?_, fun y hy => ?_⟩
    · have e : n + (x :: xs).length = n + 1 + xs.length := by rw [List.length_cons]; omega
      rw [e]
      exact b.1
    · rcases List.mem_cons.mp hy with e | m
      · rw [e]; exact a.2
      · exact b.2 y m
end
end DL
end
section
set_option autoImplicit false
namespace CL
open PySem PySem.Spec PyProof.Rows L2 DL
open PySem.W (Datum Tup DatumOrd Holds HoldAll T3)
/-! Contracts 21: of the law. -/
section
variable {P : Program} {w : World} {K : PySem.W.Frag} {mg : Str → Option Value} {base : Heap}

/-! ### _law_case_right -/
def alaw_case_right_rules_so (v_law_box_here : (List Int)) : Rules := (m_law_rules v_law_box_here (4 : Int)).1
def balaw_case_right_rules_so (v_law_box_here : (List Int)) : List Int := (m_law_rules v_law_box_here (4 : Int)).2
def alaw_case_right_tops_so (v_law_box_here : (List Int)) : (Tup Int) := (Tup.mk (runM (fun (b1 : List Int) x1 => ((m_law_take b1 (5 : Int)).1, (m_law_take b1 (5 : Int)).2)) (balaw_case_right_rules_so v_law_box_here) (alaw_case_right_rules_so v_law_box_here).2.items).1)
def balaw_case_right_tops_so (v_law_box_here : (List Int)) : List Int := (runM (fun (b1 : List Int) x1 => ((m_law_take b1 (5 : Int)).1, (m_law_take b1 (5 : Int)).2)) (balaw_case_right_rules_so v_law_box_here) (alaw_case_right_rules_so v_law_box_here).2.items).2
def flaw_case_right_1 (v_law_box_here : (List Int)) : Int × List Int × List Int := ((alaw_case_right_rules_so v_law_box_here).1.items.foldl (fun (t1 : Int × List Int × List Int) u1 => ((t1.1 - ((t1.2.2 ++ [(min t1.1 (m_law_take t1.2.1 (4 : Int)).1)]).getLastD (0 : Int))), (m_law_take t1.2.1 (4 : Int)).2, (t1.2.2 ++ [(min t1.1 (m_law_take t1.2.1 (4 : Int)).1)]))) ((7 : Int), (balaw_case_right_tops_so v_law_box_here), ([] : List Int)))
def alaw_case_right_row_so (v_law_box_here : (List Int)) : (Tup Str) := (Tup.mk (runM (fun (b2 : List Int) x2 => ((m_law_ofT b2 (alaw_case_right_rules_so v_law_box_here).1).1, (m_law_ofT b2 (alaw_case_right_rules_so v_law_box_here).1).2)) (m_law_take (flaw_case_right_1 v_law_box_here).2.1 (9 : Int)).2 (rangeI (m_law_take (flaw_case_right_1 v_law_box_here).2.1 (9 : Int)).1.toNat)).1)
def balaw_case_right_row_so (v_law_box_here : (List Int)) : List Int := (runM (fun (b2 : List Int) x2 => ((m_law_ofT b2 (alaw_case_right_rules_so v_law_box_here).1).1, (m_law_ofT b2 (alaw_case_right_rules_so v_law_box_here).1).2)) (m_law_take (flaw_case_right_1 v_law_box_here).2.1 (9 : Int)).2 (rangeI (m_law_take (flaw_case_right_1 v_law_box_here).2.1 (9 : Int)).1.toNat)).2
def m_law_case_right (v_law_box_here : (List Int)) : Bool × List Int := (true, (balaw_case_right_row_so v_law_box_here))
def N_law_case_right : List Str := ["_law_box_here", "_law_rules_so", "_law_tops_so", "_law_own", "_law_many_so", "_law_room_so", "_law_tag", "_law_row_so", "_law_turn"]
theorem sc_law_case_right : FnScope N_law_case_right ["_law_box_here"] (defScope s__law_case_right) := ⟨rfl, rfl, rfl, by decide +kernel, rfl, by decide +kernel, by decide +kernel⟩
/-- a case as it is drawn -/
structure Good (R : Rules) (L D : Tup Int) (row : Tup Str) : Prop where
  wr : WR R
  asc : R.2.items.Pairwise fun a b => DatumOrd.lt a b = true
  wg : WG R L
  lp : ∀ l ∈ L.items, 0 ≤ l
  wd : WD R D
  rk : ∀ n ∈ row.items, n ∈ R.1.items
  rl : row.items.length ≤ 8
def AllAr : Prop := ∀ R L D row, Good R L D row → ArP R L D row
theorem cr_rules {n : Int} {b : List Int} (h : BoxB n b) : WR (alaw_case_right_rules_so b) ∧ (alaw_case_right_rules_so b).2.items.Pairwise (fun a b => DatumOrd.lt a b = true) ∧ BoxB (n + 37) (balaw_case_right_rules_so b) := by
  have t := rl_3 (m := 4) h rfl
  have e := rl_end (m := 4) h rfl
  have l := tk_ok (s := 5) t.1 (by decide)
  obtain ⟨e1, e2, e3, e4⟩ := e
  have g2 : ∀ g, g ∈ (alaw_case_right_rules_so b).2.items ↔ g ∈ (flaw_rules_1 b 4).2 := fun g => mem_srt
  have gl : (alaw_case_right_rules_so b).2.items.length = (flaw_rules_1 b 4).2.length := (srt_perm _).length_eq
  refine ⟨⟨t.2.1, ?_, t.2.2.2, (srt_perm _).nodup_iff.mpr e3, ?_, ?_, ?_, ?_⟩, srt_asc e3, ?_⟩
  · intro q
    have a := t.2.2.1
    rw [show alaw_rules_tags b 4 = [] from q] at a
    exact absurd a (by decide)
  · have a := e2
    omega
  · exact fun g hg x hx => (e4 g ((g2 g).mp hg)).2.2 x hx
  · exact fun g hg => (e4 g ((g2 g).mp hg)).1
  · exact fun g hg => (e4 g ((g2 g).mp hg)).2.1
  · exact e1.le (by omega)
abbrev crT : List Int → Str → Int × List Int := fun _ _ => (0, [])
theorem cr_tops {n : Int} {b : List Int} (h : BoxB n b) : WG (alaw_case_right_rules_so b) (alaw_case_right_tops_so b) ∧ (∀ l ∈ (alaw_case_right_tops_so b).items, 0 ≤ l) ∧ BoxB (n + 41) (balaw_case_right_tops_so b) := by
  have r := cr_rules h
  have a := runM_inv (st := fun (b1 : List Int) (x1 : Tup Str) => ((m_law_take b1 (5 : Int)).1, (m_law_take b1 (5 : Int)).2)) (I := fun i t => BoxB (n + 37 + i) t) (Q := fun y => 0 ≤ y) (alaw_case_right_rules_so b).2.items 0 (balaw_case_right_rules_so b) (r.2.2.le (by omega)) (fun i t x _ _ hI => by
    have q := tk_ok (s := 5) hI (by decide)
    exact ⟨q.2.2.le (by omega), q.1⟩)
  refine ⟨?_, a.2, a.1.le (by have q := r.1.gl; omega)⟩
  show (runM _ _ _).1.length = _
  rw [runM_len]
def CrI (n : Int) (i : Nat) (t : Int × List Int × List Int) : Prop := 0 ≤ t.1 ∧ BoxB (n + i) t.2.1 ∧ t.2.2.length = i ∧ ∀ d ∈ t.2.2, 0 ≤ d ∧ d ≤ 3
theorem cr_step {n : Int} {i : Nat} {t : Int × List Int × List Int} (h : CrI n i t) : CrI n (i + 1) ((t.1 - ((t.2.2 ++ [(min t.1 (m_law_take t.2.1 (4 : Int)).1)]).getLastD (0 : Int))), (m_law_take t.2.1 (4 : Int)).2, (t.2.2 ++ [(min t.1 (m_law_take t.2.1 (4 : Int)).1)])) := by
  obtain ⟨h1, h2, h3, h4⟩ := h
  have q := tk_ok (s := 4) h2 (by decide)
  have e : (t.2.2 ++ [(min t.1 (m_law_take t.2.1 (4 : Int)).1)]).getLastD (0 : Int) = min t.1 (m_law_take t.2.1 (4 : Int)).1 := by simp
  refine ⟨?_, q.2.2.le (by omega), ?_, fun d hd => ?_⟩
  · show 0 ≤ t.1 - _
    rw [e]
    omega
  · show (t.2.2 ++ [_]).length = i + 1
    rw [List.length_append, h3]
    rfl
  · rcases List.mem_append.mp hd with m | m
    · exact h4 d m
    · rw [List.mem_singleton.mp m]
      omega
theorem cr_zero {n : Int} {b : List Int} (h : BoxB n b) : CrI (n + 41) 0 ((7 : Int), (balaw_case_right_tops_so b), ([] : List Int)) := ⟨by show (0 : Int) ≤ 7; decide, (cr_tops h).2.2.le (by omega), rfl, fun d hd => absurd hd List.not_mem_nil⟩
theorem cr_loop {n : Int} {b : List Int} (h : BoxB n b) : CrI (n + 41) (alaw_case_right_rules_so b).1.items.length (flaw_case_right_1 b) := by
  have a := fold_inv (I := CrI (n + 41)) (alaw_case_right_rules_so b).1.items (cr_zero h) (step := fun (t : Int × List Int × List Int) (_ : Str) => ((t.1 - ((t.2.2 ++ [(min t.1 (m_law_take t.2.1 (4 : Int)).1)]).getLastD (0 : Int))), (m_law_take t.2.1 (4 : Int)).2, (t.2.2 ++ [(min t.1 (m_law_take t.2.1 (4 : Int)).1)]))) (fun i t x _ hI => cr_step hI)
  exact a
theorem cr_wd {n : Int} {b : List Int} (h : BoxB n b) : WD (alaw_case_right_rules_so b) (Tup.mk (flaw_case_right_1 b).2.2) := by
  have a := cr_loop h
  exact ⟨a.2.2.1, fun d hd => (a.2.2.2 d hd).1, fun d hd => (a.2.2.2 d hd).2⟩
theorem cr_b9 {n : Int} {b : List Int} (h : BoxB n b) : BoxB (n + 45) (flaw_case_right_1 b).2.1 := (cr_loop h).2.1.le (by have q := (cr_rules h).1.kl; omega)
theorem cr_9 {n : Int} {b : List Int} (h : BoxB n b) : 0 ≤ (m_law_take (flaw_case_right_1 b).2.1 (9 : Int)).1 ∧ (m_law_take (flaw_case_right_1 b).2.1 (9 : Int)).1 < 9 ∧ BoxB (n + 46) (m_law_take (flaw_case_right_1 b).2.1 (9 : Int)).2 := by
  have q := tk_ok (s := 9) (cr_b9 h) (by decide)
  exact ⟨q.1, q.2.1, q.2.2.le (by omega)⟩
theorem cr_row {n : Int} {b : List Int} (h : BoxB n b) : (∀ x ∈ (alaw_case_right_row_so b).items, x ∈ (alaw_case_right_rules_so b).1.items) ∧ (alaw_case_right_row_so b).items.length ≤ 8 ∧ BoxB (n + 60) (balaw_case_right_row_so b) := by
  have r := cr_rules h
  have t := cr_9 h
  have a := runM_inv (st := fun (b2 : List Int) (x2 : Int) => ((m_law_ofT b2 (alaw_case_right_rules_so b).1).1, (m_law_ofT b2 (alaw_case_right_rules_so b).1).2)) (I := fun i t => BoxB (n + 46 + i) t) (Q := fun y => y ∈ (alaw_case_right_rules_so b).1.items) (rangeI (m_law_take (flaw_case_right_1 b).2.1 (9 : Int)).1.toNat) 0 _ (t.2.2.le (by omega)) (fun i t x _ _ hI => by
    have q := ofT_ok hI r.1.k1
    exact ⟨q.1.le (by omega), q.2⟩)
  rw [rangeI_len] at a
  refine ⟨a.2, ?_, a.1.le (by omega)⟩
  show (runM _ _ _).1.length ≤ 8
  rw [runM_len, rangeI_len]
  omega
theorem cr_good {n : Int} {b : List Int} (h : BoxB n b) : Good (alaw_case_right_rules_so b) (alaw_case_right_tops_so b) (Tup.mk (flaw_case_right_1 b).2.2) (alaw_case_right_row_so b) :=
  ⟨(cr_rules h).1, (cr_rules h).2.1, (cr_tops h).1, (cr_tops h).2.1, cr_wd h, (cr_row h).1, (cr_row h).2.1⟩
theorem cr_i {α : Type} {xs : List α} {i : Nat} {x : α} {m : Nat} (hx : xs[i]? = some x) (hl : xs.length ≤ m) : i < m := by
  have a := (List.getElem?_eq_some_iff.mp hx).1
  omega
abbrev R_law_case_right : Rel := B1 (fun (v_law_box_here : (List Int)) => BoxB 900 v_law_box_here) (fun (v_law_box_here : (List Int)) => dd (m_law_case_right v_law_box_here).1) (fun (v_law_box_here : (List Int)) => (m_law_case_right v_law_box_here).2)
theorem h_law_case_right (W : Wld P w K mg base) (AR : AllAr) : Has P w K mg base 17 "_law_case_right" R_law_case_right := by
  refine has_of (k := 16) W.g W.d_law_case_right sc_law_case_right (fun _ _ _ _ _ _ us hl => match us, hl with | [_], _ => rfl) (fun rs μ r μ' h => by obtain ⟨a0, h⟩ := h; rw [h.2.1]; rfl) ?_
  rintro f cdv A outer s H E rs μ r μ' c ⟨v_law_box_here, hp, rfl, rfl, rfl, rfl⟩
  exact ⟨_, (ss_cons (st_set c 1 (ev_callBox (n := 0) (h_law_rules W) c (ea_cons (ev_name 0) (ea_cons ev_int ea_nil)) rfl (B2.go ⟨hp.le (by decide), rfl⟩)))
    (ss_cons (st_set c 2 (ev_ct (c_tuple (xs := (runM (fun (b1 : List Int) x1 => ((m_law_take b1 (5 : Int)).1, (m_law_take b1 (5 : Int)).2)) (balaw_case_right_rules_so v_law_box_here) (alaw_case_right_rules_so v_law_box_here).2.items).1) rfl) c.b_tuple (ea_cons (EvB.pe (lcMi [("_law_own", 3)] (alaw_case_right_rules_so v_law_box_here).2.items (fun (b1 : List Int) => [cl b1]) (fun (b1 : List Int) x1 => ((m_law_take b1 (5 : Int)).1, (m_law_take b1 (5 : Int)).2)) (balaw_case_right_rules_so v_law_box_here) (fun i (t : List Int) => BoxB (937 + i) t) c (ei_tup (ev_snd (q := (alaw_case_right_rules_so v_law_box_here)) (ev_name 1))) (blkOk_by (by kernel_rfl)) ((cr_rules hp).2.2.le (by decide)) (fun i b1 x1 hx1 hIx1 => ⟨((tk_ok (s := 5) hIx1 (by decide)).2.2.le (by omega)), _, fun _ c => eg_name c 3, fun _ c => (ev_callBox (n := 0) (h_law_take W) c (ea_cons (ev_name 0) (ea_cons ev_int ea_nil)) rfl (B2.go ⟨hIx1.le (by have h := cr_i hx1 (cr_rules hp).1.gl; omega), by decide, by decide⟩))⟩))) ea_nil)))
    (ss_cons (st_par c 4 5 (en_cons (ev_lst0 (α := Int)) (en_cons ev_int en_nil)) (.new (.sta rfl .nil)))
    (ss_cons (st_fold [6] (alaw_case_right_rules_so v_law_box_here).1.items (fun (t1 : Int × List Int × List Int) u1 => ((t1.1 - ((t1.2.2 ++ [(min t1.1 (m_law_take t1.2.1 (4 : Int)).1)]).getLastD (0 : Int))), (m_law_take t1.2.1 (4 : Int)).2, (t1.2.2 ++ [(min t1.1 (m_law_take t1.2.1 (4 : Int)).1)]))) ((7 : Int), (balaw_case_right_tops_so v_law_box_here), ([] : List Int)) (fun t1 => [.cel 0, dd (alaw_case_right_rules_so v_law_box_here), dd (alaw_case_right_tops_so v_law_box_here), .un, .cel 1, dd t1.1, .un, .un, .un]) (fun t1 => [cl t1.2.1, cl t1.2.2]) (CrI 941) c (ei_tup (ev_fst (q := (alaw_case_right_rules_so v_law_box_here)) (ev_name 1))) (cr_zero hp) Fits.refl rfl (fun i t1 u1 hu1 hI1 => ⟨(cr_step hI1), _, _, eg_name c 6, (ss_cons (st_expr (ev_appendT (n := 1) (xs := t1.2.2) (ys := t1.2.2) (x := (min t1.1 (m_law_take t1.2.1 (4 : Int)).1)) (ev_name 4) (ev_cb (c_min2 c) c.b_min (ea_cons (ev_name 5) (ea_cons (ev_callBox (n := 0) (h_law_take W) c (ea_cons (ev_name 0) (ea_cons ev_int ea_nil)) rfl (B2.go ⟨hI1.2.1.le (by have h := cr_i hu1 (cr_rules hp).1.kl; omega), by decide, by decide⟩)) ea_nil))) rfl rfl (by have h := cr_i hu1 (cr_rules hp).1.kl; have h2 := hI1.2.2.1; omega)))
    (ss_cons (st_set c 5 (ev_op f_sub (ev_name 5) (ev_lastD (xs := (t1.2.2 ++ [(min t1.1 (m_law_take t1.2.1 (4 : Int)).1)])) (0 : Int) (ev_name 4) (ev_neg ev_int) rfl rfl (by simp))))
    ss_nil)), .nx (.keep (.keep (.keep (.keep (.keep (.keep (.drop (.keep (.keep .nil)))))))))⟩))
    (ss_cons (st_set c 7 (ev_ct (c_tuple (xs := (runM (fun (b2 : List Int) x2 => ((m_law_ofT b2 (alaw_case_right_rules_so v_law_box_here).1).1, (m_law_ofT b2 (alaw_case_right_rules_so v_law_box_here).1).2)) (m_law_take (flaw_case_right_1 v_law_box_here).2.1 (9 : Int)).2 (rangeI (m_law_take (flaw_case_right_1 v_law_box_here).2.1 (9 : Int)).1.toNat)).1) rfl) c.b_tuple (ea_cons (EvB.pe (lcMi [("_law_turn", 8)] (rangeI (m_law_take (flaw_case_right_1 v_law_box_here).2.1 (9 : Int)).1.toNat) (fun (b2 : List Int) => [cl b2, cl (flaw_case_right_1 v_law_box_here).2.2]) (fun (b2 : List Int) x2 => ((m_law_ofT b2 (alaw_case_right_rules_so v_law_box_here).1).1, (m_law_ofT b2 (alaw_case_right_rules_so v_law_box_here).1).2)) (m_law_take (flaw_case_right_1 v_law_box_here).2.1 (9 : Int)).2 (fun i (t : List Int) => BoxB (946 + i) t) c (ei_range c (ev_callBox (n := 0) (h_law_take W) c (ea_cons (ev_name 0) (ea_cons ev_int ea_nil)) rfl (B2.go ⟨(cr_b9 hp).le (by decide), by decide, by decide⟩)) (by have h := cr_9 hp; omega) (by have h := cr_9 hp; omega)) (blkOk_by (by kernel_rfl)) ((cr_9 hp).2.2.le (by decide)) (fun i b2 x2 hx2 hIx2 => ⟨((ofT_ok hIx2 (cr_rules hp).1.k1).1.le (by omega)), _, fun _ c => eg_name c 8, fun _ c => (ev_callBox (n := 0) (h_law_ofT W) c (ea_cons (ev_name 0) (ea_cons (ev_fst (q := (alaw_case_right_rules_so v_law_box_here)) (ev_name 1)) ea_nil)) rfl (B2.go ⟨hIx2.le (by have h := cr_i hx2 (Nat.le_of_eq (rangeI_len _)); have h2 := cr_9 hp; omega), (cr_rules hp).1.k1, Nat.le_trans (cr_rules hp).1.kl (by decide)⟩))⟩))) ea_nil)))
    (ss_end (st_ret (evq (ev_call (h_law_all_right W) c (ea_cons (ev_name 1) (ea_cons (ev_name 2) (ea_cons (ev_ct (c_tuple (xs := (flaw_case_right_1 v_law_box_here).2.2) rfl) c.b_tuple (ea_cons (ev_name 4) ea_nil)) (ea_cons (ev_name 7) ea_nil)))) (P4.go (AR _ _ _ _ (cr_good hp)))) rfl)))))))), .rt .dat⟩
end
end CL
end
section
set_option autoImplicit false
/-! Plain law 20: what _law_all_right counts on, of each good case. -/
namespace CL
open PySem PySem.Spec PyProof.Rows L2 DL
open PySem.W (Datum Tup DatumOrd Holds HoldAll T3)
theorem more_len (u : Int) (h : u ≤ 3) : ∀ X : List (Tup Int), (alMore X u).length ≤ X.length * 4
  | [] => Nat.zero_le _
  | x :: X => by
    have hc : alMore (x :: X) u = llMore x u ++ alMore X u := List.flatMap_cons ..
    have ih := more_len u h X
    have l : (llMore x u).length ≤ 4 := by
      show ((rangeI (u + 1).toNat).map _).length ≤ 4
      rw [List.length_map, rangeI_len]
      omega
    rw [hc, List.length_append, List.length_cons]
    omega
theorem fold_len : ∀ (us : List Int) (X : List (Tup Int)), (∀ u ∈ us, u ≤ 3) → (us.foldl (fun t u => alMore t u) X).length ≤ X.length * 4 ^ us.length
  | [], X, _ => by rw [List.length_nil, Nat.pow_zero, Nat.mul_one]; exact Nat.le_refl _
  | u :: us, X, h => by
    rw [List.foldl_cons]
    have a := fold_len us (alMore X u) fun v hv => h v (List.mem_cons_of_mem _ hv)
    have b := more_len u (h u List.mem_cons_self) X
    rw [List.length_cons, Nat.pow_succ, Nat.mul_comm (4 ^ us.length) 4, ← Nat.mul_assoc]
    exact Nat.le_trans a (Nat.mul_le_mul_right _ b)
theorem lots_few {R : Rules} {D : Tup Int} (r : WR R) (h : WD R D) : (m_law_lots D).length ≤ 256 := by
  rw [law_lots_eq]
  have a := fold_len D.items [Tup.mk ([] : List Int)] h.hi
  have l : D.items.length ≤ 4 := by
    have b : D.items.length = R.1.items.length := h.len
    have c := r.kl
    omega
  have p : 4 ^ D.items.length ≤ 4 ^ 4 := Nat.pow_le_pow_right (by decide) l
  rw [List.length_singleton, Nat.one_mul] at a
  exact Nat.le_trans a (Nat.le_trans p (by decide))
theorem sum_const (c : Int) : ∀ xs : List Str, (xs.map fun _ => c).sum = (xs.length : Int) * c
  | [] => by rw [List.map_nil, List.sum_nil, List.length_nil]; omega
  | x :: xs => by
    rw [List.map_cons, List.sum_cons, sum_const c xs, List.length_cons, Int.natCast_add, Int.add_mul]
    omega
theorem val_hi {R : Rules} {D : Tup Int} (r : WR R) (h : WD R D) {n : Str} (hn : n ∈ R.1.items) : val R D n ≤ 3 := h.hi _ (by
  rw [lot_items r h.len]
  exact List.mem_map.mpr ⟨n, hn, rfl⟩)
theorem ofd_sum {R : Rules} {D lot : Tup Int} (r : WR R) (h : WD R D) (k : OfD R D lot) : 0 ≤ lot.items.sum ∧ lot.items.sum ≤ 12 := by
  rw [sum_val r k.1]
  refine ⟨sum_nn fun n hn => (k.2 n hn).1, ?_⟩
  have a := sum_le (f := val R lot) (g := fun _ => (3 : Int)) (xs := R.1.items) fun n hn => Int.le_trans (k.2 n hn).2 (val_hi r h hn)
  rw [sum_const] at a
  have c := r.kl
  omega
theorem ofd_dem {R : Rules} {D lot : Tup Int} (r : WR R) (k : OfD R D lot) : m_is_demands R lot = true := by
  have w : lot.items.length = R.1.items.length := k.1
  unfold m_is_demands m_are_numbers
  have e : ((!(kitT (tyOf (Datum.toD lot)) "tuple")) || (decide ((lot.items.length : Int) ≠ (R.1.items.length : Int)))) = false := by
    rw [w, show kitT (tyOf (Datum.toD lot)) "tuple" = true from rfl, decide_eq_false (fun z => z rfl)]
    rfl
  rw [e, if_neg (by decide), List.all_eq_true]
  intro b hb
  obtain ⟨x, hx, rfl⟩ := List.mem_map.mp hb
  have x0 : 0 ≤ x := by
    rw [lot_items r k.1] at hx
    obtain ⟨n, hn, rfl⟩ := List.mem_map.mp hx
    exact (k.2 n hn).1
  show (m_is_number x && decide (0 ≤ x)) = true
  rw [decide_eq_true x0]
  rfl
theorem zip_two (f g : Str → Int) : ∀ ks : List Str, (ks.map f).zip (ks.map g) = ks.map fun n => (f n, g n)
  | [] => rfl
  | k :: ks => by rw [List.map_cons, List.map_cons, List.zip_cons_cons, zip_two f g ks]; rfl
theorem end_ok {R : Rules} {L D lot : Tup Int} (r : WR R) (h : WD R D) (k : EndP R L D lot) : m_is_end R L D lot = true := by
  unfold m_is_end
  have d := ofd_dem r k.1.1
  have a : (((lot.items.zip D.items).map fun x1 => (decide (x1.2 < x1.1))).any id) = false := by
    rw [lot_items r k.1.1.1, lot_items r h.len, zip_two, List.any_eq_false]
    intro b hb
    obtain ⟨q, hq, rfl⟩ := List.mem_map.mp hb
    obtain ⟨n, hn, rfl⟩ := List.mem_map.mp hq
    have z := (k.1.1.2 n hn).2
    show ¬ decide (val R D n < val R lot n) = true
    rw [decide_eq_true_iff]
    omega
  rw [d, a, if_neg (by decide), keeps_iff.mpr k.1.2, (is_shut_iff r h.len k.1.1.1).mpr k.2]
  rfl
theorem full_same {R : Rules} {L lot : Tup Int} (r : WR R) (w : WK R lot) : (m_full_groups R L lot).items = (R.2.items.zip L.items).foldl (fun (t2 : (List (Tup Str))) u2 => (t2 ++ (if (decide (u2.2 ≤ (m_law_load R lot u2.1))) = true then [u2.1] else ([] : List (Tup Str))))) ([] : List (Tup Str)) := by
  rw [fold_flat, List.nil_append, full_eq]
  show ((R.2.items.zip L.items).filter fun q => decide (q.2 ≤ ld R lot q.1)).map (fun q => q.1) = _
  have go : ∀ qs : List (Tup Str × Int), (∀ q ∈ qs, q.1 ∈ R.2.items) → (qs.filter fun q => decide (q.2 ≤ ld R lot q.1)).map (fun q => q.1) = qs.flatMap fun u2 => (if (decide (u2.2 ≤ (m_law_load R lot u2.1))) = true then [u2.1] else ([] : List (Tup Str))) := by
    intro qs
    induction qs with
    | nil => intro _; rfl
    | cons q qs ih =>
      intro hq
      rw [List.flatMap_cons, ← ih fun x hx => hq x (List.mem_cons_of_mem _ hx), law_load_eq r w (hq q List.mem_cons_self)]
      by_cases c : q.2 ≤ ld R lot q.1
      · rw [List.filter_cons, if_pos (decide_eq_true c), if_pos (decide_eq_true c)]
        rfl
      · rw [List.filter_cons, if_neg (by rw [decide_eq_true_iff]; exact c), if_neg (by rw [decide_eq_true_iff]; exact c)]
        rfl
  exact go _ fun q hq => zip_fst hq
theorem all_id {α : Type} {f : α → Bool} {xs : List α} (h : ∀ x ∈ xs, f x = true) : (xs.map f).all id = true := by
  rw [List.all_eq_true]
  intro b hb
  obtain ⟨x, hx, rfl⟩ := List.mem_map.mp hb
  exact h x hx
theorem ar_same {R : Rules} {L D : Tup Int} {row : Tup Str} (g : Good R L D row) : alaw_all_right_got5 R L D row = arDue R L D row := by
  have r := g.wr
  have lots : m_all_lots R L D = alaw_all_right_lots_so R L D row := law_lots_same r g.wd g.lp
  have ends : m_all_ends R L D = alaw_all_right_ends_so R L D row := ends_same r g.wd g.lp
  have most : m_most R L D = alaw_all_right_far R L D row := by
    unfold m_most alaw_all_right_far
    rw [lots]
  have sv : m_served R L row = (alaw_all_right_told_so R L D row).1 := served_same r g.wg
  have eo : m_end_of R L row = (alaw_all_right_told_so R L D row).2 := end_of_same r g.wg
  have sz : (m_end_sizes R L D).items = setAsc ((alaw_all_right_ends_so R L D row).map fun x3 => x3.items.sum) := by
    unfold m_end_sizes
    rw [ends]
    rfl
  have sp : m_spans_of R L D = Tup.mk (flaw_all_right_1 R L D row) := spans_same r g.wg g.wd g.lp
  have kp : m_keeps R L D = alaw_all_right_fits R L D row := by
    rw [Bool.eq_iff_iff, keeps_iff]
    exact (law_keeps_iff r g.wd.len).symm
  have su : m_all_sure R L D = alaw_all_right_fits R L D row := kp
  have lo : m_loads R D = Tup.mk (R.2.items.map fun (x6 : Tup Str) => (m_law_load R D x6)) := by
    rw [loads_eq]
    congr 1
    exact List.map_congr_left fun x hx => (law_load_eq r g.wd.len hx).symm
  have ie : (((alaw_all_right_ends_so R L D row).map fun x7 => (m_is_end R L D x7)).all id) = true := all_id fun x hx => end_ok r g.wd ((law_ends_mem r g.wd g.lp).mp hx)
  have fu : (m_full_groups R L (alaw_all_right_told_so R L D row).2).items = flaw_all_right_2 R L D row := full_same r (served_wk r)
  unfold alaw_all_right_got5 alaw_all_right_got4 alaw_all_right_got3 alaw_all_right_got2 alaw_all_right_got1 alaw_all_right_got arDue
  rw [lots, ends, most, sv, eo, sz, sp, su, kp, lo, ie, fu]
  rfl
theorem ar_sam (R : Rules) (L D : Tup Int) (row : Tup Str) : sameT 6 (.list (alaw_all_right_got5 R L D row)) = true :=
  sT_list (sTs_cons (SmD.sm (m_all_lots R L D)) (sTs_cons (SmD.sm (m_all_ends R L D)) (sTs_cons (SmD.sm (m_most R L D)) (sTs_cons (SmD.sm (m_served R L row)) (sTs_cons (SmD.sm (m_end_of R L row)) (sTs_cons (SmD.sm (m_end_sizes R L D).items) (sTs_cons (SmD.sm (m_spans_of R L D)) (sTs_cons (SmD.sm (m_all_sure R L D)) (sTs_cons (SmD.sm (m_keeps R L D)) (sTs_cons (SmD.sm (m_loads R D)) (sTs_cons (SmD.sm (((alaw_all_right_ends_so R L D row).map fun (x7 : Tup Int) => (m_is_end R L D x7)).all id)) (sTs_cons (SmD.sm (m_full_groups R L (alaw_all_right_told_so R L D row).2).items) sTs_nil))))))))))))
theorem all_ar : AllAr := fun R L D row g => by
  have r := g.wr
  have lots : m_all_lots R L D = alaw_all_right_lots_so R L D row := law_lots_same r g.wd g.lp
  have ends : m_all_ends R L D = alaw_all_right_ends_so R L D row := ends_same r g.wd g.lp
  have em : ∀ lot, lot ∈ alaw_all_right_ends_so R L D row ↔ EndP R L D lot := fun lot => law_ends_mem r g.wd g.lp
  have lm : ∀ lot, lot ∈ alaw_all_right_lots_so R L D row ↔ KLot R L D lot := fun lot => by rw [← lots]; exact all_lots_mem r g.wd g.lp
  have ln : alaw_all_right_lots_so R L D row ≠ [] := List.ne_nil_of_mem ((lm _).mpr (zero_lot r g.wd g.lp))
  have en : alaw_all_right_ends_so R L D row ≠ [] := ends_ne r g.wd g.lp
  have bd : ∀ lot ∈ alaw_all_right_ends_so R L D row, 0 ≤ lot.items.sum ∧ lot.items.sum ≤ 12 := fun lot hl => ofd_sum r g.wd ((em lot).mp hl).1.1
  obtain ⟨k, hk, ek⟩ := List.mem_map.mp (imax_mem (map_ne (f := fun (x2 : Tup Int) => x2.items.sum) ln))
  obtain ⟨e, he, ee⟩ := List.mem_map.mp (imin_mem (map_ne (f := fun (x8 : Tup Int) => x8.items.sum) en))
  have fe : k.items.sum = alaw_all_right_far R L D row := ek
  refine ⟨r, g.wg, g.wd, g.rl, ln, ?_, ?_, ?_, en, bd, fun lot hl => ((em lot).mp hl).1.1.1, ?_, served_wk r, ar_sam R L D row, ar_same g, ?_, ?_⟩
  · rw [lots]; exact ln
  · rw [ends]; exact en
  · rw [ends]; exact bd
  · rw [← ends]
    have a : (m_all_ends R L D).length ≤ (m_law_lots D).length := by
      unfold m_all_ends
      rw [all_lots_is r g.wd g.lp]
      exact Nat.le_trans (List.length_filter_le _ _) (List.length_filter_le _ _)
    have b := lots_few r g.wd
    omega
  · rw [← fe]
    exact least_ge r g.wg g.wd ((lm k).mp hk)
  · refine fr_ok r g.asc ?_
    rw [← fe, ← ee]
    exact factor_cover r ((em e).mp he) ((lm k).mp hk)
end CL
end
section
set_option autoImplicit false
/-! D-layer 22: the promise of a def at a function object that is told. -/
namespace DL
open PySem PySem.Spec PyProof.Rows L2
open PySem.W (Datum Tup DatumOrd Holds HoldAll T3)
section
variable {P : Program} {w : World} {K : PySem.W.Frag} {mg : Str → Option Value} {base : Heap} {k : Nat} {x : Str} {st : Stmt} {N ps : List Str} {R : Rel} {f : Addr} {fd : FuncData}
theorem fok_of (g : Glb mg) (F : FnP K x st f fd) (S : FnScope N ps (defScope st)) (hl : ∀ rs μ r μ', R rs μ r μ' → rs.length = ps.length)
    (body : ∀ f cdv A outer s H E rs μ r μ', Cz k (BodyX P w K mg base N x st f cdv A outer s H E) → R rs μ r μ' → ∃ o, SsD (BodyX P w K mg base N x st f cdv A outer s H E) (rs ++ List.replicate (N.length - rs.length) .un) μ (defBody st) o ∧ EndsAs μ.length o r μ') :
    FnOk P w K mg base CX0 (k + 1) f fd ps (spD K R) := by
  refine F.ok S (fun vs H Q E h => ?_) (fun cdv A outer s H vs Q E hr h => ?_)
  · obtain ⟨F0, as, μ, rs, r, μ', hR, _, hv, _⟩ := h
    rw [← hl rs μ r μ' hR]
    exact Paired.length hv
  · obtain ⟨F0, as, μ, rs, r, μ', hR, c, hv, kk⟩ := h
    obtain ⟨o, hB, hk⟩ := body f cdv A outer s H E rs μ r μ' (g.cz hr S.nd) hR
    refine ⟨_, PSs.nox hB, F0, as, c, start_sls hv, ?_⟩
    rw [← c.len] at hk
    cases hk with
    | rt hk =>
      intro v F' H' as' st' c' hv' hn
      obtain ⟨s1, ext, rfl, fx⟩ := st'
      obtain ⟨q1, q2, q3⟩ := hk.ok c' hv' fx hn
      exact kk v F' H' s1 q1 q2 q3
    | nx =>
      intro σ' F' H' as' st' c' sl'
      obtain ⟨s1, ext, rfl, fx⟩ := st'
      exact kk .non F' H' s1 (clz_take c') .non trivial
end
end DL
end
section
set_option autoImplicit false
namespace CL
open PySem PySem.Spec PyProof.Rows L2 DL
open PySem.W (Datum Tup DatumOrd Holds HoldAll T3)
/-! Contracts 22: of the law. -/
section
variable {P : Program} {w : World} {K : PySem.W.Frag} {mg : Str → Option Value} {base : Heap}

/-! ### _law_by_hand_right -/
def alaw_by_hand_right_two_so  : Rules := (((Tup.mk [("a" : Str), ("b" : Str), ("c" : Str)] : (Tup Str)), (Tup.mk [(Tup.mk [("a" : Str), ("b" : Str)] : (Tup Str)), (Tup.mk [("b" : Str), ("c" : Str)] : (Tup Str))] : (Tup (Tup Str)))) : Rules)
def alaw_by_hand_right_star_so  : Rules := (((Tup.mk [("a" : Str), ("b" : Str), ("c" : Str), ("d" : Str)] : (Tup Str)), (Tup.mk [(Tup.mk [("a" : Str), ("d" : Str)] : (Tup Str)), (Tup.mk [("b" : Str), ("d" : Str)] : (Tup Str)), (Tup.mk [("c" : Str), ("d" : Str)] : (Tup Str))] : (Tup (Tup Str)))) : Rules)
def alaw_by_hand_right_got  : (List PyData) := ([(Datum.toD (m_factor (alaw_by_hand_right_two_so ))), (Datum.toD (m_factors (alaw_by_hand_right_star_so )))] : List PyData)
def alaw_by_hand_right_got1  : (List PyData) := ((alaw_by_hand_right_got ) ++ ([(Datum.toD (m_served (alaw_by_hand_right_two_so ) (Tup.mk [(1 : Int), (1 : Int)] : (Tup Int)) (Tup.mk [("b" : Str), ("a" : Str), ("c" : Str)] : (Tup Str)))), (Datum.toD (m_most (alaw_by_hand_right_two_so ) (Tup.mk [(1 : Int), (1 : Int)] : (Tup Int)) (Tup.mk [(1 : Int), (1 : Int), (1 : Int)] : (Tup Int))))] : List PyData))
def alaw_by_hand_right_got2  : (List PyData) := ((alaw_by_hand_right_got1 ) ++ ([(Datum.toD (m_all_ends (alaw_by_hand_right_two_so ) (Tup.mk [(1 : Int), (1 : Int)] : (Tup Int)) (Tup.mk [(1 : Int), (1 : Int), (1 : Int)] : (Tup Int)))), (Datum.toD (m_is_nested (((Tup.mk [("a" : Str), ("b" : Str)] : (Tup Str)), (Tup.mk [(Tup.mk [("a" : Str)] : (Tup Str)), (Tup.mk [("a" : Str), ("b" : Str)] : (Tup Str))] : (Tup (Tup Str)))) : Rules)))] : List PyData))
def alaw_by_hand_right_got3  : (List PyData) := ((alaw_by_hand_right_got2 ) ++ ([(Datum.toD (m_least_served (alaw_by_hand_right_star_so ) (7 : Int)))] : List PyData))
def alaw_by_hand_right_got4  : (List PyData) := ((alaw_by_hand_right_got3 ) ++ ([(Datum.toD (m_spans_of (alaw_by_hand_right_two_so ) (Tup.mk [(1 : Int), (1 : Int)] : (Tup Int)) (Tup.mk [(1 : Int), (1 : Int), (1 : Int)] : (Tup Int)))), (Datum.toD (m_factor (((Tup.mk [("a" : Str)] : (Tup Str)), (Tup.mk ([] : List (Tup Str)))) : Rules)))] : List PyData))
def alaw_by_hand_right_got5  : (List PyData) := ((alaw_by_hand_right_got4 ) ++ ([(Datum.toD (m_all_ends (((Tup.mk [("a" : Str)] : (Tup Str)), (Tup.mk ([] : List (Tup Str)))) : Rules) (Tup.mk ([] : List Int)) (Tup.mk [(3 : Int)] : (Tup Int))))] : List PyData))
def alaw_by_hand_right_due  : (List PyData) := ([(Datum.toD (2 : Int)), (Datum.toD (Tup.mk [(1 : Int), (1 : Int), (1 : Int), (3 : Int)] : (Tup Int))), (Datum.toD (⟨true, false, false⟩ : (T3 Bool Bool Bool))), (Datum.toD (2 : Int)), (Datum.toD [(⟨(0 : Int), (1 : Int), (0 : Int)⟩ : (T3 Int Int Int)), (⟨(1 : Int), (0 : Int), (1 : Int)⟩ : (T3 Int Int Int))]), (Datum.toD true), (Datum.toD (3 : Int))] : List PyData)
def alaw_by_hand_right_due1  : (List PyData) := ((alaw_by_hand_right_due ) ++ ([(Datum.toD (⟨(⟨("a" : Str), (0 : Int), (1 : Int)⟩ : (T3 Str Int Int)), (⟨("b" : Str), (0 : Int), (1 : Int)⟩ : (T3 Str Int Int)), (⟨("c" : Str), (0 : Int), (1 : Int)⟩ : (T3 Str Int Int))⟩ : (T3 (T3 Str Int Int) (T3 Str Int Int) (T3 Str Int Int)))), (Datum.toD (1 : Int)), (Datum.toD [(Tup.mk [(3 : Int)])])] : List PyData))
def m_law_by_hand_right  : Bool := true
def N_law_by_hand_right : List Str := ["_law_two_so", "_law_star_so", "_law_got", "_law_due"]
theorem sc_law_by_hand_right : FnScope N_law_by_hand_right [] (defScope s__law_by_hand_right) := ⟨rfl, rfl, rfl, by decide +kernel, rfl, by decide +kernel, by decide +kernel⟩
abbrev hTwo : Rules := alaw_by_hand_right_two_so
abbrev hStar : Rules := alaw_by_hand_right_star_so
abbrev hNest : Rules := (Tup.mk [("a" : Str), ("b" : Str)], Tup.mk [Tup.mk [("a" : Str)], Tup.mk [("a" : Str), ("b" : Str)]])
abbrev hAb : Rules := (Tup.mk [("a" : Str), ("b" : Str)], Tup.mk [Tup.mk [("a" : Str), ("b" : Str)]])
abbrev hOne : Rules := (Tup.mk [("a" : Str)], Tup.mk ([] : List (Tup Str)))
theorem wr_two : WR hTwo := ⟨by decide +kernel, by decide +kernel, by decide +kernel, by decide +kernel, by decide +kernel, by decide +kernel, by decide +kernel, by decide +kernel⟩
theorem wr_star : WR hStar := ⟨by decide +kernel, by decide +kernel, by decide +kernel, by decide +kernel, by decide +kernel, by decide +kernel, by decide +kernel, by decide +kernel⟩
theorem wr_nest : WR hNest := ⟨by decide +kernel, by decide +kernel, by decide +kernel, by decide +kernel, by decide +kernel, by decide +kernel, by decide +kernel, by decide +kernel⟩
theorem wr_ab : WR hAb := ⟨by decide +kernel, by decide +kernel, by decide +kernel, by decide +kernel, by decide +kernel, by decide +kernel, by decide +kernel, by decide +kernel⟩
theorem wr_one : WR hOne := ⟨by decide +kernel, by decide +kernel, by decide +kernel, by decide +kernel, by decide +kernel, by decide +kernel, by decide +kernel, by decide +kernel⟩
theorem wd_two : WD hTwo (Tup.mk [1, 1, 1]) := ⟨rfl, by decide +kernel, by decide +kernel⟩
theorem wd_one : WD hOne (Tup.mk [3]) := ⟨rfl, by decide +kernel, by decide +kernel⟩
theorem good_two : Good hTwo (Tup.mk [1, 1]) (Tup.mk [1, 1, 1]) (Tup.mk [("b" : Str), ("a" : Str), ("c" : Str)]) := ⟨wr_two, by decide +kernel, rfl, by decide +kernel, wd_two, by decide +kernel, by decide +kernel⟩
theorem good_star : Good hStar (Tup.mk [1, 2, 1]) (Tup.mk [1, 1, 2, 2]) (Tup.mk [("d" : Str), ("a" : Str), ("d" : Str), ("c" : Str), ("c" : Str)]) := ⟨wr_star, by decide +kernel, rfl, by decide +kernel, ⟨rfl, by decide +kernel, by decide +kernel⟩, by decide +kernel, by decide +kernel⟩
theorem good_ab : Good hAb (Tup.mk [0]) (Tup.mk [0, 2]) (Tup.mk [("b" : Str)]) := ⟨wr_ab, by decide +kernel, rfl, by decide +kernel, ⟨rfl, by decide +kernel, by decide +kernel⟩, by decide +kernel, by decide +kernel⟩
theorem good_one : Good hOne (Tup.mk ([] : List Int)) (Tup.mk [3]) (Tup.mk [("a" : Str), ("a" : Str)]) := ⟨wr_one, by decide +kernel, rfl, by decide +kernel, wd_one, by decide +kernel, by decide +kernel⟩
/-- what is computed by hand -/
structure ByH : Prop where
  sam : sameT 6 (.list alaw_by_hand_right_got5) = true
  same : alaw_by_hand_right_got5 = alaw_by_hand_right_due1
  lots : m_all_lots hTwo (Tup.mk [1, 1]) (Tup.mk [1, 1, 1]) ≠ []
abbrev R_law_by_hand_right : Rel := fun rs μ r μ' => rs = [] ∧ μ = [] ∧ r = dd m_law_by_hand_right ∧ μ' = []
theorem h_law_by_hand_right (W : Wld P w K mg base) (AR : AllAr) (BH : ByH) : Has P w K mg base 17 "_law_by_hand_right" R_law_by_hand_right := by
  refine has_of (k := 16) W.g W.d_law_by_hand_right sc_law_by_hand_right (fun _ _ _ _ _ _ us hl => match us, hl with | [], _ => rfl) (fun rs μ r μ' h => by rw [h.1]; rfl) ?_
  rintro f cdv A outer s H E rs μ r μ' c ⟨rfl, rfl, rfl, rfl⟩
  exact ⟨_, (ss_cons (st_set c 0 (ev_pair (ev_tuple (ds := [(Datum.toD ("a" : Str)), (Datum.toD ("b" : Str)), (Datum.toD ("c" : Str))]) (ea_cons ev_str (ea_cons ev_str (ea_cons ev_str ea_nil))) (Nat.le_of_ble_eq_true rfl)) (ev_tuple (ds := [(Datum.toD (Tup.mk [("a" : Str), ("b" : Str)] : (Tup Str))), (Datum.toD (Tup.mk [("b" : Str), ("c" : Str)] : (Tup Str)))]) (ea_cons (ev_tuple (ds := [(Datum.toD ("a" : Str)), (Datum.toD ("b" : Str))]) (ea_cons ev_str (ea_cons ev_str ea_nil)) (Nat.le_of_ble_eq_true rfl)) (ea_cons (ev_tuple (ds := [(Datum.toD ("b" : Str)), (Datum.toD ("c" : Str))]) (ea_cons ev_str (ea_cons ev_str ea_nil)) (Nat.le_of_ble_eq_true rfl)) ea_nil)) (Nat.le_of_ble_eq_true rfl))))
    (ss_cons (st_set c 1 (ev_pair (ev_tuple (ds := [(Datum.toD ("a" : Str)), (Datum.toD ("b" : Str)), (Datum.toD ("c" : Str)), (Datum.toD ("d" : Str))]) (ea_cons ev_str (ea_cons ev_str (ea_cons ev_str (ea_cons ev_str ea_nil)))) (Nat.le_of_ble_eq_true rfl)) (ev_tuple (ds := [(Datum.toD (Tup.mk [("a" : Str), ("d" : Str)] : (Tup Str))), (Datum.toD (Tup.mk [("b" : Str), ("d" : Str)] : (Tup Str))), (Datum.toD (Tup.mk [("c" : Str), ("d" : Str)] : (Tup Str)))]) (ea_cons (ev_tuple (ds := [(Datum.toD ("a" : Str)), (Datum.toD ("d" : Str))]) (ea_cons ev_str (ea_cons ev_str ea_nil)) (Nat.le_of_ble_eq_true rfl)) (ea_cons (ev_tuple (ds := [(Datum.toD ("b" : Str)), (Datum.toD ("d" : Str))]) (ea_cons ev_str (ea_cons ev_str ea_nil)) (Nat.le_of_ble_eq_true rfl)) (ea_cons (ev_tuple (ds := [(Datum.toD ("c" : Str)), (Datum.toD ("d" : Str))]) (ea_cons ev_str (ea_cons ev_str ea_nil)) (Nat.le_of_ble_eq_true rfl)) ea_nil))) (Nat.le_of_ble_eq_true rfl))))
    (ss_cons (st_set c 2 (Ev.frz (ev_list (ds := [(Datum.toD (m_factor (alaw_by_hand_right_two_so ))), (Datum.toD (m_factors (alaw_by_hand_right_star_so )))]) (ea_cons (ev_call (h_factor W) c (ea_cons (ev_name 0) ea_nil) (P1.go wr_two)) (ea_cons (ev_call (h_factors W) c (ea_cons (ev_name 1) ea_nil) (P1.go wr_star)) ea_nil)) (Nat.le_of_ble_eq_true rfl))))
    (ss_cons (st_set c 2 (Ev.frz (ev_op (f_catL (ds := (alaw_by_hand_right_got )) (es := ([(Datum.toD (m_served (alaw_by_hand_right_two_so ) (Tup.mk [(1 : Int), (1 : Int)] : (Tup Int)) (Tup.mk [("b" : Str), ("a" : Str), ("c" : Str)] : (Tup Str)))), (Datum.toD (m_most (alaw_by_hand_right_two_so ) (Tup.mk [(1 : Int), (1 : Int)] : (Tup Int)) (Tup.mk [(1 : Int), (1 : Int), (1 : Int)] : (Tup Int))))] : List PyData)) rfl rfl (Nat.le_of_ble_eq_true rfl)) (ev_name 2) (ev_list (ds := [(Datum.toD (m_served (alaw_by_hand_right_two_so ) (Tup.mk [(1 : Int), (1 : Int)] : (Tup Int)) (Tup.mk [("b" : Str), ("a" : Str), ("c" : Str)] : (Tup Str)))), (Datum.toD (m_most (alaw_by_hand_right_two_so ) (Tup.mk [(1 : Int), (1 : Int)] : (Tup Int)) (Tup.mk [(1 : Int), (1 : Int), (1 : Int)] : (Tup Int))))]) (ea_cons (ev_call (h_served W) c (ea_cons (ev_name 0) (ea_cons (ev_tuple (ds := [(Datum.toD (1 : Int)), (Datum.toD (1 : Int))]) (ea_cons ev_int (ea_cons ev_int ea_nil)) (Nat.le_of_ble_eq_true rfl)) (ea_cons (ev_tuple (ds := [(Datum.toD ("b" : Str)), (Datum.toD ("a" : Str)), (Datum.toD ("c" : Str))]) (ea_cons ev_str (ea_cons ev_str (ea_cons ev_str ea_nil))) (Nat.le_of_ble_eq_true rfl)) ea_nil))) (P3.go (a := (alaw_by_hand_right_two_so )) (b := (Tup.mk [(1 : Int), (1 : Int)] : (Tup Int))) (c := (Tup.mk [("b" : Str), ("a" : Str), ("c" : Str)] : (Tup Str))) (by exact ⟨wr_two, rfl, by decide⟩))) (ea_cons (ev_call (h_most W) c (ea_cons (ev_name 0) (ea_cons (ev_tuple (ds := [(Datum.toD (1 : Int)), (Datum.toD (1 : Int))]) (ea_cons ev_int (ea_cons ev_int ea_nil)) (Nat.le_of_ble_eq_true rfl)) (ea_cons (ev_tuple (ds := [(Datum.toD (1 : Int)), (Datum.toD (1 : Int)), (Datum.toD (1 : Int))]) (ea_cons ev_int (ea_cons ev_int (ea_cons ev_int ea_nil))) (Nat.le_of_ble_eq_true rfl)) ea_nil))) (P3.go (a := (alaw_by_hand_right_two_so )) (b := (Tup.mk [(1 : Int), (1 : Int)] : (Tup Int))) (c := (Tup.mk [(1 : Int), (1 : Int), (1 : Int)] : (Tup Int))) (by exact ⟨⟨wr_two, wd_two⟩, BH.lots⟩))) ea_nil)) (Nat.le_of_ble_eq_true rfl)))))
    (ss_cons (st_set c 2 (Ev.frz (ev_op (f_catL (ds := (alaw_by_hand_right_got1 )) (es := ([(Datum.toD (m_all_ends (alaw_by_hand_right_two_so ) (Tup.mk [(1 : Int), (1 : Int)] : (Tup Int)) (Tup.mk [(1 : Int), (1 : Int), (1 : Int)] : (Tup Int)))), (Datum.toD (m_is_nested (((Tup.mk [("a" : Str), ("b" : Str)] : (Tup Str)), (Tup.mk [(Tup.mk [("a" : Str)] : (Tup Str)), (Tup.mk [("a" : Str), ("b" : Str)] : (Tup Str))] : (Tup (Tup Str)))) : Rules)))] : List PyData)) rfl rfl (Nat.le_of_ble_eq_true rfl)) (ev_name 2) (ev_list (ds := [(Datum.toD (m_all_ends (alaw_by_hand_right_two_so ) (Tup.mk [(1 : Int), (1 : Int)] : (Tup Int)) (Tup.mk [(1 : Int), (1 : Int), (1 : Int)] : (Tup Int)))), (Datum.toD (m_is_nested (((Tup.mk [("a" : Str), ("b" : Str)] : (Tup Str)), (Tup.mk [(Tup.mk [("a" : Str)] : (Tup Str)), (Tup.mk [("a" : Str), ("b" : Str)] : (Tup Str))] : (Tup (Tup Str)))) : Rules)))]) (ea_cons (Ev.frz' (ev_call (h_all_ends W) c (ea_cons (ev_name 0) (ea_cons (ev_tuple (ds := [(Datum.toD (1 : Int)), (Datum.toD (1 : Int))]) (ea_cons ev_int (ea_cons ev_int ea_nil)) (Nat.le_of_ble_eq_true rfl)) (ea_cons (ev_tuple (ds := [(Datum.toD (1 : Int)), (Datum.toD (1 : Int)), (Datum.toD (1 : Int))]) (ea_cons ev_int (ea_cons ev_int (ea_cons ev_int ea_nil))) (Nat.le_of_ble_eq_true rfl)) ea_nil))) (P3.go (a := (alaw_by_hand_right_two_so )) (b := (Tup.mk [(1 : Int), (1 : Int)] : (Tup Int))) (c := (Tup.mk [(1 : Int), (1 : Int), (1 : Int)] : (Tup Int))) (by exact ⟨wr_two, wd_two⟩)))) (ea_cons (ev_call (h_is_nested W) c (ea_cons (ev_pair (ev_tuple (ds := [(Datum.toD ("a" : Str)), (Datum.toD ("b" : Str))]) (ea_cons ev_str (ea_cons ev_str ea_nil)) (Nat.le_of_ble_eq_true rfl)) (ev_tuple (ds := [(Datum.toD (Tup.mk [("a" : Str)] : (Tup Str))), (Datum.toD (Tup.mk [("a" : Str), ("b" : Str)] : (Tup Str)))]) (ea_cons (ev_tuple (ds := [(Datum.toD ("a" : Str))]) (ea_cons ev_str ea_nil) (Nat.le_of_ble_eq_true rfl)) (ea_cons (ev_tuple (ds := [(Datum.toD ("a" : Str)), (Datum.toD ("b" : Str))]) (ea_cons ev_str (ea_cons ev_str ea_nil)) (Nat.le_of_ble_eq_true rfl)) ea_nil)) (Nat.le_of_ble_eq_true rfl))) ea_nil) (P1.go (a := (((Tup.mk [("a" : Str), ("b" : Str)] : (Tup Str)), (Tup.mk [(Tup.mk [("a" : Str)] : (Tup Str)), (Tup.mk [("a" : Str), ("b" : Str)] : (Tup Str))] : (Tup (Tup Str)))) : Rules)) wr_nest)) ea_nil)) (Nat.le_of_ble_eq_true rfl)))))
    (ss_cons (st_set c 2 (Ev.frz (ev_op (f_catL (ds := (alaw_by_hand_right_got2 )) (es := ([(Datum.toD (m_least_served (alaw_by_hand_right_star_so ) (7 : Int)))] : List PyData)) rfl rfl (Nat.le_of_ble_eq_true rfl)) (ev_name 2) (ev_list (ds := [(Datum.toD (m_least_served (alaw_by_hand_right_star_so ) (7 : Int)))]) (ea_cons (ev_call (h_least_served W) c (ea_cons (ev_name 1) (ea_cons ev_int ea_nil)) (P2.go wr_star)) ea_nil) (Nat.le_of_ble_eq_true rfl)))))
    (ss_cons (st_set c 2 (Ev.frz (ev_op (f_catL (ds := (alaw_by_hand_right_got3 )) (es := ([(Datum.toD (m_spans_of (alaw_by_hand_right_two_so ) (Tup.mk [(1 : Int), (1 : Int)] : (Tup Int)) (Tup.mk [(1 : Int), (1 : Int), (1 : Int)] : (Tup Int)))), (Datum.toD (m_factor (((Tup.mk [("a" : Str)] : (Tup Str)), (Tup.mk ([] : List (Tup Str)))) : Rules)))] : List PyData)) rfl rfl (Nat.le_of_ble_eq_true rfl)) (ev_name 2) (ev_list (ds := [(Datum.toD (m_spans_of (alaw_by_hand_right_two_so ) (Tup.mk [(1 : Int), (1 : Int)] : (Tup Int)) (Tup.mk [(1 : Int), (1 : Int), (1 : Int)] : (Tup Int)))), (Datum.toD (m_factor (((Tup.mk [("a" : Str)] : (Tup Str)), (Tup.mk ([] : List (Tup Str)))) : Rules)))]) (ea_cons (ev_call (h_spans_of W) c (ea_cons (ev_name 0) (ea_cons (ev_tuple (ds := [(Datum.toD (1 : Int)), (Datum.toD (1 : Int))]) (ea_cons ev_int (ea_cons ev_int ea_nil)) (Nat.le_of_ble_eq_true rfl)) (ea_cons (ev_tuple (ds := [(Datum.toD (1 : Int)), (Datum.toD (1 : Int)), (Datum.toD (1 : Int))]) (ea_cons ev_int (ea_cons ev_int (ea_cons ev_int ea_nil))) (Nat.le_of_ble_eq_true rfl)) ea_nil))) (P3.go (a := (alaw_by_hand_right_two_so )) (b := (Tup.mk [(1 : Int), (1 : Int)] : (Tup Int))) (c := (Tup.mk [(1 : Int), (1 : Int), (1 : Int)] : (Tup Int))) (by exact ⟨wr_two, wd_two, rfl⟩))) (ea_cons (ev_call (h_factor W) c (ea_cons (ev_pair (ev_tuple (ds := [(Datum.toD ("a" : Str))]) (ea_cons ev_str ea_nil) (Nat.le_of_ble_eq_true rfl)) (ev_tup0 (α := (Tup Str)))) ea_nil) (P1.go (a := (((Tup.mk [("a" : Str)] : (Tup Str)), (Tup.mk ([] : List (Tup Str)))) : Rules)) wr_one)) ea_nil)) (Nat.le_of_ble_eq_true rfl)))))
    (ss_cons (st_set c 2 (Ev.frz (ev_op (f_catL (ds := (alaw_by_hand_right_got4 )) (es := ([(Datum.toD (m_all_ends (((Tup.mk [("a" : Str)] : (Tup Str)), (Tup.mk ([] : List (Tup Str)))) : Rules) (Tup.mk ([] : List Int)) (Tup.mk [(3 : Int)] : (Tup Int))))] : List PyData)) rfl rfl (Nat.le_of_ble_eq_true rfl)) (ev_name 2) (ev_list (ds := [(Datum.toD (m_all_ends (((Tup.mk [("a" : Str)] : (Tup Str)), (Tup.mk ([] : List (Tup Str)))) : Rules) (Tup.mk ([] : List Int)) (Tup.mk [(3 : Int)] : (Tup Int))))]) (ea_cons (Ev.frz' (ev_call (h_all_ends W) c (ea_cons (ev_pair (ev_tuple (ds := [(Datum.toD ("a" : Str))]) (ea_cons ev_str ea_nil) (Nat.le_of_ble_eq_true rfl)) (ev_tup0 (α := (Tup Str)))) (ea_cons (ev_tup0 (α := Int)) (ea_cons (ev_tuple (ds := [(Datum.toD (3 : Int))]) (ea_cons ev_int ea_nil) (Nat.le_of_ble_eq_true rfl)) ea_nil))) (P3.go (a := (((Tup.mk [("a" : Str)] : (Tup Str)), (Tup.mk ([] : List (Tup Str)))) : Rules)) (b := (Tup.mk ([] : List Int))) (c := (Tup.mk [(3 : Int)] : (Tup Int))) (by exact ⟨wr_one, wd_one⟩)))) ea_nil) (Nat.le_of_ble_eq_true rfl)))))
    (ss_cons (st_set c 3 (Ev.frz (ev_list (ds := [(Datum.toD (2 : Int)), (Datum.toD (Tup.mk [(1 : Int), (1 : Int), (1 : Int), (3 : Int)] : (Tup Int))), (Datum.toD (⟨true, false, false⟩ : (T3 Bool Bool Bool))), (Datum.toD (2 : Int)), (Datum.toD [(⟨(0 : Int), (1 : Int), (0 : Int)⟩ : (T3 Int Int Int)), (⟨(1 : Int), (0 : Int), (1 : Int)⟩ : (T3 Int Int Int))]), (Datum.toD true), (Datum.toD (3 : Int))]) (ea_cons ev_int (ea_cons (ev_tuple (ds := [(Datum.toD (1 : Int)), (Datum.toD (1 : Int)), (Datum.toD (1 : Int)), (Datum.toD (3 : Int))]) (ea_cons ev_int (ea_cons ev_int (ea_cons ev_int (ea_cons ev_int ea_nil)))) (Nat.le_of_ble_eq_true rfl)) (ea_cons (ev_trip ev_bl ev_bl ev_bl) (ea_cons ev_int (ea_cons (Ev.frz' (ev_list (ds := [Datum.toD (⟨(0 : Int), (1 : Int), (0 : Int)⟩ : (T3 Int Int Int)), Datum.toD (⟨(1 : Int), (0 : Int), (1 : Int)⟩ : (T3 Int Int Int))]) (ea_cons (ev_trip ev_int ev_int ev_int) (ea_cons (ev_trip ev_int ev_int ev_int) ea_nil)) (Nat.le_of_ble_eq_true rfl))) (ea_cons ev_bl (ea_cons ev_int ea_nil))))))) (Nat.le_of_ble_eq_true rfl))))
    (ss_cons (st_set c 3 (Ev.frz (ev_op (f_catL (ds := (alaw_by_hand_right_due )) (es := ([(Datum.toD (⟨(⟨("a" : Str), (0 : Int), (1 : Int)⟩ : (T3 Str Int Int)), (⟨("b" : Str), (0 : Int), (1 : Int)⟩ : (T3 Str Int Int)), (⟨("c" : Str), (0 : Int), (1 : Int)⟩ : (T3 Str Int Int))⟩ : (T3 (T3 Str Int Int) (T3 Str Int Int) (T3 Str Int Int)))), (Datum.toD (1 : Int)), (Datum.toD [(Tup.mk [(3 : Int)])])] : List PyData)) rfl rfl (Nat.le_of_ble_eq_true rfl)) (ev_name 3) (ev_list (ds := [(Datum.toD (⟨(⟨("a" : Str), (0 : Int), (1 : Int)⟩ : (T3 Str Int Int)), (⟨("b" : Str), (0 : Int), (1 : Int)⟩ : (T3 Str Int Int)), (⟨("c" : Str), (0 : Int), (1 : Int)⟩ : (T3 Str Int Int))⟩ : (T3 (T3 Str Int Int) (T3 Str Int Int) (T3 Str Int Int)))), (Datum.toD (1 : Int)), (Datum.toD [(Tup.mk [(3 : Int)])])]) (ea_cons (ev_trip (ev_trip ev_str ev_int ev_int) (ev_trip ev_str ev_int ev_int) (ev_trip ev_str ev_int ev_int)) (ea_cons ev_int (ea_cons (Ev.frz' (ev_lst1 (ev_tup1 ev_int))) ea_nil))) (Nat.le_of_ble_eq_true rfl)))))
    (ss_cons (st_ifno (et_w (ew_or (et_not (et_val (ev_call (has_same W 6) c (ea_cons (ev_name 2) (ea_cons (ev_name 3) ea_nil)) (R_same.go (G := (alaw_by_hand_right_got5 )) (D := (alaw_by_hand_right_due1 )) BH.sam BH.same)))) (fun hbo => (ew_or1 (et_not (et_val (ev_call (h_law_all_right W) c (ea_cons (ev_name 0) (ea_cons (ev_tuple (ds := [(Datum.toD (1 : Int)), (Datum.toD (1 : Int))]) (ea_cons ev_int (ea_cons ev_int ea_nil)) (Nat.le_of_ble_eq_true rfl)) (ea_cons (ev_tuple (ds := [(Datum.toD (1 : Int)), (Datum.toD (1 : Int)), (Datum.toD (1 : Int))]) (ea_cons ev_int (ea_cons ev_int (ea_cons ev_int ea_nil))) (Nat.le_of_ble_eq_true rfl)) (ea_cons (ev_tuple (ds := [(Datum.toD ("b" : Str)), (Datum.toD ("a" : Str)), (Datum.toD ("c" : Str))]) (ea_cons ev_str (ea_cons ev_str (ea_cons ev_str ea_nil))) (Nat.le_of_ble_eq_true rfl)) ea_nil)))) (P4.go (a := (alaw_by_hand_right_two_so )) (b := (Tup.mk [(1 : Int), (1 : Int)] : (Tup Int))) (c := (Tup.mk [(1 : Int), (1 : Int), (1 : Int)] : (Tup Int))) (d := (Tup.mk [("b" : Str), ("a" : Str), ("c" : Str)] : (Tup Str))) (AR _ _ _ _ good_two))))))))) rfl)
    (ss_cons (st_ifno (et_not (et_val (ev_call (h_law_all_right W) c (ea_cons (ev_name 1) (ea_cons (ev_tuple (ds := [(Datum.toD (1 : Int)), (Datum.toD (2 : Int)), (Datum.toD (1 : Int))]) (ea_cons ev_int (ea_cons ev_int (ea_cons ev_int ea_nil))) (Nat.le_of_ble_eq_true rfl)) (ea_cons (ev_tuple (ds := [(Datum.toD (1 : Int)), (Datum.toD (1 : Int)), (Datum.toD (2 : Int)), (Datum.toD (2 : Int))]) (ea_cons ev_int (ea_cons ev_int (ea_cons ev_int (ea_cons ev_int ea_nil)))) (Nat.le_of_ble_eq_true rfl)) (ea_cons (ev_tuple (ds := [(Datum.toD ("d" : Str)), (Datum.toD ("a" : Str)), (Datum.toD ("d" : Str)), (Datum.toD ("c" : Str)), (Datum.toD ("c" : Str))]) (ea_cons ev_str (ea_cons ev_str (ea_cons ev_str (ea_cons ev_str (ea_cons ev_str ea_nil))))) (Nat.le_of_ble_eq_true rfl)) ea_nil)))) (P4.go (a := (alaw_by_hand_right_star_so )) (b := (Tup.mk [(1 : Int), (2 : Int), (1 : Int)] : (Tup Int))) (c := (Tup.mk [(1 : Int), (1 : Int), (2 : Int), (2 : Int)] : (Tup Int))) (d := (Tup.mk [("d" : Str), ("a" : Str), ("d" : Str), ("c" : Str), ("c" : Str)] : (Tup Str))) (AR _ _ _ _ good_star))))) rfl)
    (ss_cons (st_ifno (et_not (et_val (ev_call (h_law_all_right W) c (ea_cons (ev_pair (ev_tuple (ds := [(Datum.toD ("a" : Str)), (Datum.toD ("b" : Str))]) (ea_cons ev_str (ea_cons ev_str ea_nil)) (Nat.le_of_ble_eq_true rfl)) (ev_tuple (ds := [(Datum.toD (Tup.mk [("a" : Str), ("b" : Str)] : (Tup Str)))]) (ea_cons (ev_tuple (ds := [(Datum.toD ("a" : Str)), (Datum.toD ("b" : Str))]) (ea_cons ev_str (ea_cons ev_str ea_nil)) (Nat.le_of_ble_eq_true rfl)) ea_nil) (Nat.le_of_ble_eq_true rfl))) (ea_cons (ev_tuple (ds := [(Datum.toD (0 : Int))]) (ea_cons ev_int ea_nil) (Nat.le_of_ble_eq_true rfl)) (ea_cons (ev_tuple (ds := [(Datum.toD (0 : Int)), (Datum.toD (2 : Int))]) (ea_cons ev_int (ea_cons ev_int ea_nil)) (Nat.le_of_ble_eq_true rfl)) (ea_cons (ev_tuple (ds := [(Datum.toD ("b" : Str))]) (ea_cons ev_str ea_nil) (Nat.le_of_ble_eq_true rfl)) ea_nil)))) (P4.go (a := (((Tup.mk [("a" : Str), ("b" : Str)] : (Tup Str)), (Tup.mk [(Tup.mk [("a" : Str), ("b" : Str)] : (Tup Str))] : (Tup (Tup Str)))) : Rules)) (b := (Tup.mk [(0 : Int)] : (Tup Int))) (c := (Tup.mk [(0 : Int), (2 : Int)] : (Tup Int))) (d := (Tup.mk [("b" : Str)] : (Tup Str))) (AR _ _ _ _ good_ab))))) rfl)
    (ss_end (st_ret (evq (ev_call (h_law_all_right W) c (ea_cons (ev_pair (ev_tuple (ds := [(Datum.toD ("a" : Str))]) (ea_cons ev_str ea_nil) (Nat.le_of_ble_eq_true rfl)) (ev_tup0 (α := (Tup Str)))) (ea_cons (ev_tup0 (α := Int)) (ea_cons (ev_tuple (ds := [(Datum.toD (3 : Int))]) (ea_cons ev_int ea_nil) (Nat.le_of_ble_eq_true rfl)) (ea_cons (ev_tuple (ds := [(Datum.toD ("a" : Str)), (Datum.toD ("a" : Str))]) (ea_cons ev_str (ea_cons ev_str ea_nil)) (Nat.le_of_ble_eq_true rfl)) ea_nil)))) (P4.go (a := (((Tup.mk [("a" : Str)] : (Tup Str)), (Tup.mk ([] : List (Tup Str)))) : Rules)) (b := (Tup.mk ([] : List Int))) (c := (Tup.mk [(3 : Int)] : (Tup Int))) (d := (Tup.mk [("a" : Str), ("a" : Str)] : (Tup Str))) (AR _ _ _ _ good_one))) rfl)))))))))))))))), .rt .dat⟩
/-! ### _law_right -/
def m_law_right (v_law_box_here : (List Int)) : Bool × List Int := (true, (runM (fun (b1 : List Int) x1 => ((m_law_case_right b1).1, (m_law_case_right b1).2)) v_law_box_here (rangeI (2 : Int).toNat)).2)
def N_law_right : List Str := ["_law_box_here", "_law_turn"]
theorem sc_law_right : FnScope N_law_right ["_law_box_here"] (defScope s__law_right) := ⟨rfl, rfl, rfl, by decide +kernel, rfl, by decide +kernel, by decide +kernel⟩
abbrev R_law_right : Rel := B1 (fun (v_law_box_here : (List Int)) => BoxB 0 v_law_box_here) (fun (v_law_box_here : (List Int)) => dd (m_law_right v_law_box_here).1) (fun (v_law_box_here : (List Int)) => (m_law_right v_law_box_here).2)
theorem h_law_right (W : Wld P w K mg base) (AR : AllAr) : Has P w K mg base 18 "_law_right" R_law_right := by
  refine has_of (k := 17) W.g W.d_law_right sc_law_right (fun _ _ _ _ _ _ us hl => match us, hl with | [_], _ => rfl) (fun rs μ r μ' h => by obtain ⟨a0, h⟩ := h; rw [h.2.1]; rfl) ?_
  rintro f cdv A outer s H E rs μ r μ' c ⟨v_law_box_here, hp, rfl, rfl, rfl, rfl⟩
  exact ⟨_, (ss_end (st_ret (evq (ev_cb (c_all c (xs := (runM (fun (b1 : List Int) x1 => ((m_law_case_right b1).1, (m_law_case_right b1).2)) v_law_box_here (rangeI (2 : Int).toNat)).1) rfl) c.b_all (ea_cons (EvB.pe (lcMi [("_law_turn", 1)] (rangeI (2 : Int).toNat) (fun (b1 : List Int) => [cl b1]) (fun (b1 : List Int) x1 => ((m_law_case_right b1).1, (m_law_case_right b1).2)) v_law_box_here (fun i (t : List Int) => BoxB (60 * i) t) c (ei_range c ev_int (by decide) (by decide)) (blkOk_by (by kernel_rfl)) (hp.le (by decide)) (fun i b1 x1 hx1 hIx1 => ⟨((cr_row hIx1).2.2.le (by omega)), _, fun _ c => eg_name c 1, fun _ c => (ev_callBox (n := 0) (h_law_case_right W AR) c (ea_cons (ev_name 0) ea_nil) rfl (B1.go (hIx1.le (by have h := cr_i hx1 (Nat.le_of_eq (rangeI_len _)); omega))))⟩))) ea_nil)) rfl))), .rt .dat⟩
/-! ### law -/
def m_law (v_law_script : (List Int)) : Bool := true
def N_law : List Str := ["_law_script", "_law_cells_here", "_law_k"]
theorem sc_law : FnScope N_law ["_law_script"] (defScope s_law) := ⟨rfl, rfl, rfl, by decide +kernel, rfl, by decide +kernel, by decide +kernel⟩
theorem lw_k {n : Nat} {x : Int} (h : x ∈ rangeI n) : 0 ≤ x := (rangeI_mem.mp h).1
theorem lw_b (xs : List Int) (k : Int) : BoxB 0 (m_law_box xs k) := ⟨_, _, _, rfl, Int.le_refl _, Int.le_refl _⟩
theorem lw_all (xs : List Int) : (true && (xs.map fun _ => true).all id) = true := by
  rw [Bool.true_and]
  induction xs with
  | nil => rfl
  | cons x xs ih => exact ih
theorem lw_n : ∀ (ys : List (Int × Int)) (n : Nat) (t : List Int) (f : List Int → Int × Int → List Int), (∀ t u, (f t u).length = t.length) → t.length = n → (ys.foldl f t).length = n
  | [], n, t, f, _, h => h
  | y :: ys, n, t, f, hf, h => lw_n ys n (f t y) f hf ((hf t y).trans h)
theorem lw_len {xs : List Int} (h : xs.length ≤ 63) : ((m_law_cells xs 3).length : Int) ≤ 100000 := by
  have a := lw_n (enumL (gcut xs (some 3) (some (63 : Int)))) _ (if (gcut xs none (some 3)) = [] then [(0 : Int)] else (gcut xs none (some 3))) (fun (t1 : List Int) u1 => (t1.set (u1.1 % 3).toNat ((t1.getD (u1.1 % 3).toNat (0 : Int)) + (u1.2 * (u1.1 + (2 : Int)))))) (fun t u => List.length_set) rfl
  have b : (m_law_cells xs 3).length = (if (gcut xs none (some 3)) = [] then [(0 : Int)] else (gcut xs none (some 3))).length := a
  have c : (if (gcut xs none (some 3)) = [] then [(0 : Int)] else (gcut xs none (some 3))).length ≤ 64 := by
    split
    · decide
    · exact Nat.le_trans (gcut_le _ _ _) (by omega)
  omega
theorem lw_len0 (xs : List Int) : -100000 ≤ ((m_law_cells xs 3).length : Int) := by omega
abbrev R_law : Rel := P1 (fun (v_law_script : (List Int)) => v_law_script.length ≤ 63) (fun (v_law_script : (List Int)) => dd (m_law v_law_script))
theorem ok_law (W : Wld P w K mg base) (AR : AllAr) (BH : ByH) {fl : Addr} {fdl : FuncData} (F : FnP K "law" s_law fl fdl) : FnOk P w K mg base CX0 19 fl fdl ["_law_script"] (spD K R_law) := by
  refine fok_of (k := 18) W.g F sc_law (fun rs μ r μ' h => by obtain ⟨a0, h⟩ := h; rw [h.2.1]; rfl) ?_
  rintro f cdv A outer s H E rs μ r μ' c ⟨v_law_script, hp, rfl, rfl, rfl, rfl⟩
  exact ⟨_, (ss_cons (st_set c 1 (Ev.frz' (ev_call (h_law_cells W) c (ea_cons (ev_name 0) (ea_cons ev_int ea_nil)) (P2.go ⟨rfl, hp⟩))))
    (ss_end (st_ret (evq (ev_and (ev_call0 (h_law_by_hand_right W AR BH) c ⟨rfl, rfl, rfl, rfl⟩) (fun hbo => (ev_one (ev_cb (c_all c (xs := ((rangeI ((m_law_cells v_law_script (3 : Int)).length : Int).toNat).map fun x1 => (m_law_right (m_law_box (m_law_cells v_law_script (3 : Int)) x1)).1)) rfl) c.b_all (ea_cons (EvB.pe (lc0 [("_law_k", 2)] (rangeI ((m_law_cells v_law_script (3 : Int)).length : Int).toNat) (fun x1 => (m_law_right (m_law_box (m_law_cells v_law_script (3 : Int)) x1)).1) c (ei_range c (ev_cb (c_lenL (xs := (m_law_cells v_law_script (3 : Int))) rfl) c.b_len (ea_cons (ev_name 1) ea_nil)) (lw_len hp) (lw_len0 _)) (blkOk_by (by kernel_rfl)) (fun x1 hx1 => ⟨_, fun _ c => eg_name c 2, fun _ c => (ev_callFre (h_law_right W AR) c (en_cons (ev_call (h_law_box W) c (ea_cons (ev_name 1) (ea_cons (ev_name 2) ea_nil)) (P2.go (lw_k hx1))) en_nil) (B1.go (lw_b _ _)))⟩))) ea_nil))))) (lw_all _))))), .rt .dat⟩
end
end CL
end
section
set_option autoImplicit false
/-! Plain law 21: what is computed by hand. -/
namespace CL
open PySem PySem.Spec PyProof.Rows L2 DL
open PySem.W (Datum Tup DatumOrd Holds HoldAll T3)
theorem facs_law {R : Rules} (r : WR R) : m_factors R = Tup.mk (R.1.items.map fun x1 => m_law_bare R x1) := by
  unfold m_factors
  exact congrArg Tup.mk (List.map_congr_left fun n _ => bare_same r n)
theorem fac_law {R : Rules} (r : WR R) : m_factor R = imax (R.1.items.map fun x1 => m_law_bare R x1) := by
  unfold m_factor
  rw [facs_law r]
theorem bh_1 : m_factor hTwo = 2 := by
  rw [fac_law wr_two]
  decide +kernel
theorem bh_2 : m_factors hStar = Tup.mk [1, 1, 1, 3] := by
  rw [facs_law wr_star]
  decide +kernel
theorem bh_3 : m_served hTwo (Tup.mk [1, 1]) (Tup.mk [("b" : Str), ("a" : Str), ("c" : Str)]) = Tup.mk [true, false, false] := by decide +kernel
theorem bh_4 : m_most hTwo (Tup.mk [1, 1]) (Tup.mk [1, 1, 1]) = 2 := by decide +kernel
theorem bh_5 : m_all_ends hTwo (Tup.mk [1, 1]) (Tup.mk [1, 1, 1]) = [Tup.mk [0, 1, 0], Tup.mk [1, 0, 1]] := by decide +kernel
theorem bh_6 : m_is_nested hNest = true := by decide +kernel
theorem bh_7 : m_least_served hStar 7 = 3 := by
  unfold m_least_served
  rw [fac_law wr_star]
  decide +kernel
theorem bh_8 : m_spans_of hTwo (Tup.mk [1, 1]) (Tup.mk [1, 1, 1]) = Tup.mk [⟨("a" : Str), 0, 1⟩, ⟨("b" : Str), 0, 1⟩, ⟨("c" : Str), 0, 1⟩] := by
  have e : m_law_ends hTwo (Tup.mk [1, 1]) (Tup.mk [1, 1, 1]) = [Tup.mk [0, 1, 0], Tup.mk [1, 0, 1]] := (ends_same wr_two wd_two (by decide +kernel)).symm.trans bh_5
  rw [spans_same (L := Tup.mk [1, 1]) (row := Tup.mk []) wr_two rfl wd_two (by decide +kernel)]
  unfold flaw_all_right_1 alaw_all_right_ends_so
  rw [e]
  decide +kernel
theorem bh_9 : m_factor hOne = 1 := by
  rw [fac_law wr_one]
  decide +kernel
theorem bh_10 : m_all_ends hOne (Tup.mk ([] : List Int)) (Tup.mk [3]) = [Tup.mk [3]] := by decide +kernel
theorem by_h : ByH := by
  refine ⟨?_, ?_, ?_⟩
  · exact sT_list (sTs_cons (SmD.sm (m_factor hTwo)) (sTs_cons (SmD.sm (m_factors hStar)) (sTs_cons (SmD.sm (m_served hTwo (Tup.mk [(1 : Int), 1]) (Tup.mk [("b" : Str), ("a" : Str), ("c" : Str)]))) (sTs_cons (SmD.sm (m_most hTwo (Tup.mk [(1 : Int), 1]) (Tup.mk [(1 : Int), 1, 1]))) (sTs_cons (SmD.sm (m_all_ends hTwo (Tup.mk [(1 : Int), 1]) (Tup.mk [(1 : Int), 1, 1]))) (sTs_cons (SmD.sm (m_is_nested hNest)) (sTs_cons (SmD.sm (m_least_served hStar 7)) (sTs_cons (SmD.sm (m_spans_of hTwo (Tup.mk [(1 : Int), 1]) (Tup.mk [(1 : Int), 1, 1]))) (sTs_cons (SmD.sm (m_factor hOne)) (sTs_cons (SmD.sm (m_all_ends hOne (Tup.mk ([] : List Int)) (Tup.mk [(3 : Int)]))) sTs_nil))))))))))
  · show ([Datum.toD (m_factor hTwo), Datum.toD (m_factors hStar), Datum.toD (m_served hTwo (Tup.mk [(1 : Int), 1]) (Tup.mk [("b" : Str), ("a" : Str), ("c" : Str)])), Datum.toD (m_most hTwo (Tup.mk [(1 : Int), 1]) (Tup.mk [(1 : Int), 1, 1])), Datum.toD (m_all_ends hTwo (Tup.mk [(1 : Int), 1]) (Tup.mk [(1 : Int), 1, 1])), Datum.toD (m_is_nested hNest), Datum.toD (m_least_served hStar 7), Datum.toD (m_spans_of hTwo (Tup.mk [(1 : Int), 1]) (Tup.mk [(1 : Int), 1, 1])), Datum.toD (m_factor hOne), Datum.toD (m_all_ends hOne (Tup.mk ([] : List Int)) (Tup.mk [(3 : Int)]))] : List PyData) = _
    rw [bh_1, bh_2, bh_3, bh_4, bh_5, bh_6, bh_7, bh_8, bh_9, bh_10]
    rfl
  · rw [all_lots_is wr_two wd_two (by decide +kernel)]
    decide +kernel
end CL
end
section
set_option maxHeartbeats 0
namespace CL
open PySem PySem.Spec PyProof.Rows L2 DL
def d_is_number : He.DefD := ⟨("is_number", none), "is_number", "is_number", defArgs s_is_number, defBody s_is_number, defScope s_is_number, [], []⟩
def d_tupled : He.DefD := ⟨("tupled", none), "tupled", "tupled", defArgs s_tupled, defBody s_tupled, defScope s_tupled, [], []⟩
def d_are_numbers : He.DefD := ⟨("are_numbers", none), "are_numbers", "are_numbers", defArgs s_are_numbers, defBody s_are_numbers, defScope s_are_numbers, [], []⟩
def d_is_demands : He.DefD := ⟨("is_demands", none), "is_demands", "is_demands", defArgs s_is_demands, defBody s_is_demands, defScope s_is_demands, [], []⟩
def d_check_kind : He.DefD := ⟨("check_kind", none), "check_kind", "check_kind", defArgs s_check_kind, defBody s_check_kind, defScope s_check_kind, [], []⟩
def d_check_group : He.DefD := ⟨("check_group", none), "check_group", "check_group", defArgs s_check_group, defBody s_check_group, defScope s_check_group, [], []⟩
def d_groups_with : He.DefD := ⟨("groups_with", none), "groups_with", "groups_with", defArgs s_groups_with, defBody s_groups_with, defScope s_groups_with, [], []⟩
def d_place_of : He.DefD := ⟨("place_of", none), "place_of", "place_of", defArgs s_place_of, defBody s_place_of, defScope s_place_of, [], []⟩
def d_limit_of : He.DefD := ⟨("limit_of", none), "limit_of", "limit_of", defArgs s_limit_of, defBody s_limit_of, defScope s_limit_of, [], []⟩
def d_own_kinds : He.DefD := ⟨("own_kinds", none), "own_kinds", "own_kinds", defArgs s_own_kinds, defBody s_own_kinds, defScope s_own_kinds, [], []⟩
def d_open_sets : He.DefD := ⟨("open_sets", none), "open_sets", "open_sets", defArgs s_open_sets, defBody s_open_sets, defScope s_open_sets, [], []⟩
def d_with_name : He.DefD := ⟨("with_name", none), "with_name", "with_name", defArgs s_with_name, defBody s_with_name, defScope s_with_name, [], []⟩
def d_all_bare : He.DefD := ⟨("all_bare", none), "all_bare", "all_bare", defArgs s_all_bare, defBody s_all_bare, defScope s_all_bare, [], []⟩
def d_greatest_bare : He.DefD := ⟨("greatest_bare", none), "greatest_bare", "greatest_bare", defArgs s_greatest_bare, defBody s_greatest_bare, defScope s_greatest_bare, [], []⟩
def d_bare_number : He.DefD := ⟨("bare_number", none), "bare_number", "bare_number", defArgs s_bare_number, defBody s_bare_number, defScope s_bare_number, [], []⟩
def d_factors : He.DefD := ⟨("factors", none), "factors", "factors", defArgs s_factors, defBody s_factors, defScope s_factors, [], []⟩
def d_factor : He.DefD := ⟨("factor", none), "factor", "factor", defArgs s_factor, defBody s_factor, defScope s_factor, [], []⟩
def d_worst_kinds : He.DefD := ⟨("worst_kinds", none), "worst_kinds", "worst_kinds", defArgs s_worst_kinds, defBody s_worst_kinds, defScope s_worst_kinds, [], []⟩
def d_worst_case : He.DefD := ⟨("worst_case", none), "worst_case", "worst_case", defArgs s_worst_case, defBody s_worst_case, defScope s_worst_case, [], []⟩
def d_least_served : He.DefD := ⟨("least_served", none), "least_served", "least_served", defArgs s_least_served, defBody s_least_served, defScope s_least_served, [], []⟩
def d_greatest_most : He.DefD := ⟨("greatest_most", none), "greatest_most", "greatest_most", defArgs s_greatest_most, defBody s_greatest_most, defScope s_greatest_most, [], []⟩
def d_loads : He.DefD := ⟨("loads", none), "loads", "loads", defArgs s_loads, defBody s_loads, defScope s_loads, [], []⟩
def d_left_in : He.DefD := ⟨("left_in", none), "left_in", "left_in", defArgs s_left_in, defBody s_left_in, defScope s_left_in, [], []⟩
def d_keeps : He.DefD := ⟨("keeps", none), "keeps", "keeps", defArgs s_keeps, defBody s_keeps, defScope s_keeps, [], []⟩
def d_full_groups : He.DefD := ⟨("full_groups", none), "full_groups", "full_groups", defArgs s_full_groups, defBody s_full_groups, defScope s_full_groups, [], []⟩
def d_size_of : He.DefD := ⟨("size_of", none), "size_of", "size_of", defArgs s_size_of, defBody s_size_of, defScope s_size_of, [], []⟩
def d_all_lots : He.DefD := ⟨("all_lots", none), "all_lots", "all_lots", defArgs s_all_lots, defBody s_all_lots, defScope s_all_lots, [], []⟩
def d_open_groups : He.DefD := ⟨("open_groups", none), "open_groups", "open_groups", defArgs s_open_groups, defBody s_open_groups, defScope s_open_groups, [], []⟩
def d_served : He.DefD := ⟨("served", none), "served", "served", defArgs s_served, defBody s_served, defScope s_served, [], []⟩
def d_end_of : He.DefD := ⟨("end_of", none), "end_of", "end_of", defArgs s_end_of, defBody s_end_of, defScope s_end_of, [], []⟩
def d_is_shut : He.DefD := ⟨("is_shut", none), "is_shut", "is_shut", defArgs s_is_shut, defBody s_is_shut, defScope s_is_shut, [], []⟩
def d_is_end : He.DefD := ⟨("is_end", none), "is_end", "is_end", defArgs s_is_end, defBody s_is_end, defScope s_is_end, [], []⟩
def d_all_ends : He.DefD := ⟨("all_ends", none), "all_ends", "all_ends", defArgs s_all_ends, defBody s_all_ends, defScope s_all_ends, [], []⟩
def d_end_sizes : He.DefD := ⟨("end_sizes", none), "end_sizes", "end_sizes", defArgs s_end_sizes, defBody s_end_sizes, defScope s_end_sizes, [], []⟩
def d_most : He.DefD := ⟨("most", none), "most", "most", defArgs s_most, defBody s_most, defScope s_most, [], []⟩
def d_table_of : He.DefD := ⟨("table_of", none), "table_of", "table_of", defArgs s_table_of, defBody s_table_of, defScope s_table_of, [], []⟩
def d_bound_by : He.DefD := ⟨("bound_by", none), "bound_by", "bound_by", defArgs s_bound_by, defBody s_bound_by, defScope s_bound_by, [], []⟩
def d_sets_of : He.DefD := ⟨("sets_of", none), "sets_of", "sets_of", defArgs s_sets_of, defBody s_sets_of, defScope s_sets_of, [], []⟩
def d_bound_groups : He.DefD := ⟨("bound_groups", none), "bound_groups", "bound_groups", defArgs s_bound_groups, defBody s_bound_groups, defScope s_bound_groups, [], []⟩
def d_least_bound : He.DefD := ⟨("least_bound", none), "least_bound", "least_bound", defArgs s_least_bound, defBody s_least_bound, defScope s_least_bound, [], []⟩
def d_do_cross : He.DefD := ⟨("do_cross", none), "do_cross", "do_cross", defArgs s_do_cross, defBody s_do_cross, defScope s_do_cross, [], []⟩
def d_crossing : He.DefD := ⟨("crossing", none), "crossing", "crossing", defArgs s_crossing, defBody s_crossing, defScope s_crossing, [], []⟩
def d_is_nested : He.DefD := ⟨("is_nested", none), "is_nested", "is_nested", defArgs s_is_nested, defBody s_is_nested, defScope s_is_nested, [], []⟩
def d_all_sure : He.DefD := ⟨("all_sure", none), "all_sure", "all_sure", defArgs s_all_sure, defBody s_all_sure, defScope s_all_sure, [], []⟩
def d_demand_of : He.DefD := ⟨("demand_of", none), "demand_of", "demand_of", defArgs s_demand_of, defBody s_demand_of, defScope s_demand_of, [], []⟩
def d_is_barred_by : He.DefD := ⟨("is_barred_by", none), "is_barred_by", "is_barred_by", defArgs s_is_barred_by, defBody s_is_barred_by, defScope s_is_barred_by, [], []⟩
def d_barring_lots : He.DefD := ⟨("barring_lots", none), "barring_lots", "barring_lots", defArgs s_barring_lots, defBody s_barring_lots, defScope s_barring_lots, [], []⟩
def d_sure_in : He.DefD := ⟨("sure_in", none), "sure_in", "sure_in", defArgs s_sure_in, defBody s_sure_in, defScope s_sure_in, [], []⟩
def d_most_in : He.DefD := ⟨("most_in", none), "most_in", "most_in", defArgs s_most_in, defBody s_most_in, defScope s_most_in, [], []⟩
def d_spans_of : He.DefD := ⟨("spans_of", none), "spans_of", "spans_of", defArgs s_spans_of, defBody s_spans_of, defScope s_spans_of, [], []⟩
def d__law_box : He.DefD := ⟨("_law_box", none), "_law_box", "_law_box", defArgs s__law_box, defBody s__law_box, defScope s__law_box, [], []⟩
def d__law_take : He.DefD := ⟨("_law_take", none), "_law_take", "_law_take", defArgs s__law_take, defBody s__law_take, defScope s__law_take, [], []⟩
def d__law_cells : He.DefD := ⟨("_law_cells", none), "_law_cells", "_law_cells", defArgs s__law_cells, defBody s__law_cells, defScope s__law_cells, [], []⟩
def d__law_of : He.DefD := ⟨("_law_of", none), "_law_of", "_law_of", defArgs s__law_of, defBody s__law_of, defScope s__law_of, [], []⟩
def d__law_pick : He.DefD := ⟨("_law_pick", none), "_law_pick", "_law_pick", defArgs s__law_pick, defBody s__law_pick, defScope s__law_pick, [], []⟩
def d__law_same : He.DefD := ⟨("_law_same", none), "_law_same", "_law_same", defArgs s__law_same, defBody s__law_same, defScope s__law_same, [], []⟩
def d__law_rules : He.DefD := ⟨("_law_rules", none), "_law_rules", "_law_rules", defArgs s__law_rules, defBody s__law_rules, defScope s__law_rules, [], []⟩
def d__law_load : He.DefD := ⟨("_law_load", none), "_law_load", "_law_load", defArgs s__law_load, defBody s__law_load, defScope s__law_load, [], []⟩
def d__law_shut : He.DefD := ⟨("_law_shut", none), "_law_shut", "_law_shut", defArgs s__law_shut, defBody s__law_shut, defScope s__law_shut, [], []⟩
def d__law_more : He.DefD := ⟨("_law_more", none), "_law_more", "_law_more", defArgs s__law_more, defBody s__law_more, defScope s__law_more, [], []⟩
def d__law_keeps : He.DefD := ⟨("_law_keeps", none), "_law_keeps", "_law_keeps", defArgs s__law_keeps, defBody s__law_keeps, defScope s__law_keeps, [], []⟩
def d__law_served : He.DefD := ⟨("_law_served", none), "_law_served", "_law_served", defArgs s__law_served, defBody s__law_served, defScope s__law_served, [], []⟩
def d__law_lots : He.DefD := ⟨("_law_lots", none), "_law_lots", "_law_lots", defArgs s__law_lots, defBody s__law_lots, defScope s__law_lots, [], []⟩
def d__law_ends : He.DefD := ⟨("_law_ends", none), "_law_ends", "_law_ends", defArgs s__law_ends, defBody s__law_ends, defScope s__law_ends, [], []⟩
def d__law_sets : He.DefD := ⟨("_law_sets", none), "_law_sets", "_law_sets", defArgs s__law_sets, defBody s__law_sets, defScope s__law_sets, [], []⟩
def d__law_open : He.DefD := ⟨("_law_open", none), "_law_open", "_law_open", defArgs s__law_open, defBody s__law_open, defScope s__law_open, [], []⟩
def d__law_bare : He.DefD := ⟨("_law_bare", none), "_law_bare", "_law_bare", defArgs s__law_bare, defBody s__law_bare, defScope s__law_bare, [], []⟩
def d__law_crossing : He.DefD := ⟨("_law_crossing", none), "_law_crossing", "_law_crossing", defArgs s__law_crossing, defBody s__law_crossing, defScope s__law_crossing, [], []⟩
def d__law_worst_right : He.DefD := ⟨("_law_worst_right", none), "_law_worst_right", "_law_worst_right", defArgs s__law_worst_right, defBody s__law_worst_right, defScope s__law_worst_right, [], []⟩
def d__law_all_right : He.DefD := ⟨("_law_all_right", none), "_law_all_right", "_law_all_right", defArgs s__law_all_right, defBody s__law_all_right, defScope s__law_all_right, [], []⟩
def d__law_factor_right : He.DefD := ⟨("_law_factor_right", none), "_law_factor_right", "_law_factor_right", defArgs s__law_factor_right, defBody s__law_factor_right, defScope s__law_factor_right, [], []⟩
def d__law_by_hand_right : He.DefD := ⟨("_law_by_hand_right", none), "_law_by_hand_right", "_law_by_hand_right", defArgs s__law_by_hand_right, defBody s__law_by_hand_right, defScope s__law_by_hand_right, [], []⟩
def d__law_case_right : He.DefD := ⟨("_law_case_right", none), "_law_case_right", "_law_case_right", defArgs s__law_case_right, defBody s__law_case_right, defScope s__law_case_right, [], []⟩
def d__law_right : He.DefD := ⟨("_law_right", none), "_law_right", "_law_right", defArgs s__law_right, defBody s__law_right, defScope s__law_right, [], []⟩
def d_law : He.DefD := ⟨("law", none), "law", "law", defArgs s_law, defBody s_law, defScope s_law, [], []⟩
def fn0 : List He.DefD := [d_is_number, d_tupled, d_are_numbers, d_is_demands, d_check_kind, d_check_group, d_groups_with, d_place_of, d_limit_of, d_own_kinds, d_open_sets, d_with_name, d_all_bare, d_greatest_bare, d_bare_number, d_factors, d_factor, d_worst_kinds, d_worst_case, d_least_served]
def fn1 : List He.DefD := [d_greatest_most, d_loads, d_left_in, d_keeps, d_full_groups, d_size_of, d_all_lots, d_open_groups, d_served, d_end_of, d_is_shut, d_is_end, d_all_ends, d_end_sizes, d_most, d_table_of, d_bound_by, d_sets_of, d_bound_groups, d_least_bound]
def fn2 : List He.DefD := [d_do_cross, d_crossing, d_is_nested, d_all_sure, d_demand_of, d_is_barred_by, d_barring_lots, d_sure_in, d_most_in, d_spans_of, d__law_box, d__law_take, d__law_cells, d__law_of, d__law_pick, d__law_same, d__law_rules, d__law_load, d__law_shut, d__law_more]
def fn3 : List He.DefD := [d__law_keeps, d__law_served, d__law_lots, d__law_ends, d__law_sets, d__law_open, d__law_bare, d__law_crossing, d__law_worst_right, d__law_all_right, d__law_factor_right, d__law_by_hand_right, d__law_case_right, d__law_right, d_law]
def fn : List He.DefD := fn0 ++ fn1 ++ fn2 ++ fn3
def fa0 : List He.Fa := [.glo "is_number", .glo "tupled", .glo "are_numbers", .glo "is_demands", .glo "check_kind", .glo "check_group", .glo "groups_with", .glo "place_of", .glo "limit_of", .glo "own_kinds", .glo "open_sets", .glo "with_name", .glo "all_bare", .glo "greatest_bare", .glo "bare_number", .glo "factors", .glo "factor", .glo "worst_kinds", .glo "worst_case", .glo "least_served"]
def fa1 : List He.Fa := [.glo "greatest_most", .glo "loads", .glo "left_in", .glo "keeps", .glo "full_groups", .glo "size_of", .glo "all_lots", .glo "open_groups", .glo "served", .glo "end_of", .glo "is_shut", .glo "is_end", .glo "all_ends", .glo "end_sizes", .glo "most", .glo "table_of", .glo "bound_by", .glo "sets_of", .glo "bound_groups", .glo "least_bound"]
def fa2 : List He.Fa := [.glo "do_cross", .glo "crossing", .glo "is_nested", .glo "all_sure", .glo "demand_of", .glo "is_barred_by", .glo "barring_lots", .glo "sure_in", .glo "most_in", .glo "spans_of", .glo "_law_box", .glo "_law_take", .glo "_law_cells", .glo "_law_of", .glo "_law_pick", .glo "_law_same", .glo "_law_rules", .glo "_law_load", .glo "_law_shut", .glo "_law_more"]
def fa3 : List He.Fa := [.glo "_law_keeps", .glo "_law_served", .glo "_law_lots", .glo "_law_ends", .glo "_law_sets", .glo "_law_open", .glo "_law_bare", .glo "_law_crossing", .glo "_law_worst_right", .glo "_law_all_right", .glo "_law_factor_right", .glo "_law_by_hand_right", .glo "_law_case_right", .glo "_law_right", .glo "law", .free "abs", .free "all", .free "any", .free "bool", .free "dict"]
def fa4 : List He.Fa := [.free "enumerate", .free "int", .free "isinstance", .free "len", .free "list", .free "max", .free "min", .free "range", .free "set", .free "sorted", .free "str", .free "sum", .free "tuple", .free "zip"]
def fa : List He.Fa := fa0 ++ fa1 ++ fa2 ++ fa3 ++ fa4
def nm0 : List PySem.Str := ["is_number", "tupled", "LimitError", "NoKind", "NoGroup", "are_numbers", "is_demands", "check_kind", "check_group", "groups_with", "place_of", "limit_of", "own_kinds", "open_sets", "with_name", "all_bare", "greatest_bare", "bare_number", "factors", "factor"]
def nm1 : List PySem.Str := ["worst_kinds", "worst_case", "least_served", "greatest_most", "loads", "left_in", "keeps", "full_groups", "size_of", "all_lots", "open_groups", "served", "end_of", "is_shut", "is_end", "all_ends", "end_sizes", "most", "table_of", "bound_by"]
def nm2 : List PySem.Str := ["bound_groups", "least_bound", "do_cross", "crossing", "is_nested", "all_sure", "demand_of", "is_barred_by", "barring_lots", "sure_in", "most_in", "spans_of", "_law_box", "_law_take", "_law_cells", "_law_of", "_law_pick", "_law_same", "_law_rules"]
def nm3 : List PySem.Str := ["_law_load", "_law_shut", "_law_more", "_law_keeps", "_law_served", "_law_lots", "_law_ends", "_law_sets", "_law_open", "_law_bare", "_law_crossing", "_law_worst_right", "_law_all_right", "_law_factor_right", "_law_by_hand_right", "_law_case_right", "_law_right"]
def names : List PySem.Str := nm0 ++ nm1 ++ nm2 ++ nm3
-- law index: [89] blt: ['abs', 'all', 'any', 'bool', 'dict', 'enumerate', 'int', 'isinstance', 'len', 'list', 'max', 'min', 'range', 'set', 'sorted', 'str', 'sum', 'tuple', 'zip']
abbrev lawRow : PySem.W.OpenRow := PySem.W.OpenLaw.row PySem.Challenge.rw_crosslimits_k64_whole_all_orders_of_smal
abbrev lawView : Program := PySem.W.view lawRow.prog [49, 89]
/-- besides the facts: where the code object of sets_of and its table stand; the table is not held -/
abbrev AlN : Type := Bool × He.AlD
def obsN (K : PySem.W.Frag) : AlN := (decide (PySem.W.tabIn K "sets_of" = some (codeOf K, tabOf K)) && (K.lookup (tabOf K)).isNone, He.obsD fa fn K)
def SaysN (K : PySem.W.Frag) : Prop := obsN K = (true, He.valD fn)
def obsNG (n : Nat) (g : Addr → Option Obj) : AlN := obsN (He.frG g (He.asD g n))
def hookN (n : Nat) : PySem.W.Hook where
  α := AlN
  obs := fun s => obsNG n s.heap.get?
  val := fun _ => (true, He.valD fn)
  says := fun _ h => ∃ K : PySem.W.Frag, K.In h ∧ SaysN K
  of := fun _ _ e => ⟨_, He.frG_in, e⟩
  keeps := fun _ _ _ ⟨K, hK, c⟩ k => ⟨K, PySem.W.Frag.In.keeps hK k, c⟩
theorem SaysN.tab {K : PySem.W.Frag} (c : SaysN K) : PySem.W.tabIn K "sets_of" = some (codeOf K, tabOf K) ∧ K.lookup (tabOf K) = none := by
  have a : (decide (PySem.W.tabIn K "sets_of" = some (codeOf K, tabOf K)) && (K.lookup (tabOf K)).isNone) = true := congrArg (fun z : AlN => z.1) c
  rw [Bool.and_eq_true] at a
  exact ⟨of_decide_eq_true a.1, Option.isNone_iff_eq_none.mp a.2⟩
theorem SaysN.facts {K : PySem.W.Frag} (c : SaysN K) : He.SaysD fa fn K := congrArg (fun z : AlN => z.2) c
abbrev hk : PySem.W.Hook := hookN 2
def ob (s : PySem.W.SharedT) : AlN := obsNG 2 (HandSHeadRun.getT s)
theorem ob_eq (s : PySem.W.SharedT) : ob s = hk.obs s.abs := by
  have e : HandSHeadRun.getT s = s.abs.heap.get? := funext fun a => HandSHeadRun.getT_eq s a
  show obsNG 2 _ = obsNG 2 _
  rw [e]
theorem run (w : World) : HandSHeadRun.RunEq lawRow lawView hk ob 6000 names w := by
  intro os
  kernel_rfl
end CL
end
section
set_option maxHeartbeats 0
/-! The end: the head's facts, the law. -/
namespace CL
open PySem PySem.Spec PyProof.Rows L2 DL
open PySem.W (Datum Tup DatumOrd Holds HoldAll T3)
section
variable {K : PySem.W.Frag} {h base : Heap} {mg : Str → Option Value}
theorem def_ok (X : K.In h) (G : h.Ns mainGlobals mg) (c : He.SaysD fa fn K) (i : Nat) {x : Str} {st : Stmt} (h1 : fn[i]? = some ⟨(x, none), x, x, defArgs st, defBody st, defScope st, [], []⟩) (h2 : fa[i]? = some (.glo x)) : Def K mg x st := by
  obtain ⟨fd, F⟩ := c.def_ i h1
  exact ⟨_, fd, F, He.glo_ok X G (c.fact i h2)⟩
theorem free_is (X : K.In h) (G : h.Ns mainGlobals mg) (c : He.SaysD fa fn K) (i : Nat) {x : Str} (h2 : fa[i]? = some (.free x)) : mg x = none := He.free_ok X G (c.fact i h2)
theorem glb_ok (X : K.In h) (G : h.Ns mainGlobals mg) (c : He.SaysD fa fn K) : Glb mg where
  b_abs := free_is X G c 75 rfl
  b_all := free_is X G c 76 rfl
  b_any := free_is X G c 77 rfl
  b_bool := free_is X G c 78 rfl
  b_dict := free_is X G c 79 rfl
  b_enumerate := free_is X G c 80 rfl
  b_int := free_is X G c 81 rfl
  b_isinstance := free_is X G c 82 rfl
  b_len := free_is X G c 83 rfl
  b_list := free_is X G c 84 rfl
  b_max := free_is X G c 85 rfl
  b_min := free_is X G c 86 rfl
  b_range := free_is X G c 87 rfl
  b_set := free_is X G c 88 rfl
  b_sorted := free_is X G c 89 rfl
  b_str := free_is X G c 90 rfl
  b_sum := free_is X G c 91 rfl
  b_tuple := free_is X G c 92 rfl
  b_zip := free_is X G c 93 rfl
theorem wld_ok {P : Program} {w : World} (X : K.In h) (G : h.Ns mainGlobals mg) (c : He.SaysD fa fn K) (tab : LamX.TabB base mg (codeOf K) (tabOf K)) : Wld P w K mg base where
  g := glb_ok X G c
  d_is_number := def_ok X G c 0 rfl rfl
  d_tupled := def_ok X G c 1 rfl rfl
  d_are_numbers := def_ok X G c 2 rfl rfl
  d_is_demands := def_ok X G c 3 rfl rfl
  d_check_kind := def_ok X G c 4 rfl rfl
  d_check_group := def_ok X G c 5 rfl rfl
  d_groups_with := def_ok X G c 6 rfl rfl
  d_place_of := def_ok X G c 7 rfl rfl
  d_limit_of := def_ok X G c 8 rfl rfl
  d_own_kinds := def_ok X G c 9 rfl rfl
  d_open_sets := def_ok X G c 10 rfl rfl
  d_with_name := def_ok X G c 11 rfl rfl
  d_all_bare := def_ok X G c 12 rfl rfl
  d_greatest_bare := def_ok X G c 13 rfl rfl
  d_bare_number := def_ok X G c 14 rfl rfl
  d_factors := def_ok X G c 15 rfl rfl
  d_factor := def_ok X G c 16 rfl rfl
  d_worst_kinds := def_ok X G c 17 rfl rfl
  d_worst_case := def_ok X G c 18 rfl rfl
  d_least_served := def_ok X G c 19 rfl rfl
  d_greatest_most := def_ok X G c 20 rfl rfl
  d_loads := def_ok X G c 21 rfl rfl
  d_left_in := def_ok X G c 22 rfl rfl
  d_keeps := def_ok X G c 23 rfl rfl
  d_full_groups := def_ok X G c 24 rfl rfl
  d_size_of := def_ok X G c 25 rfl rfl
  d_all_lots := def_ok X G c 26 rfl rfl
  d_open_groups := def_ok X G c 27 rfl rfl
  d_served := def_ok X G c 28 rfl rfl
  d_end_of := def_ok X G c 29 rfl rfl
  d_is_shut := def_ok X G c 30 rfl rfl
  d_is_end := def_ok X G c 31 rfl rfl
  d_all_ends := def_ok X G c 32 rfl rfl
  d_end_sizes := def_ok X G c 33 rfl rfl
  d_most := def_ok X G c 34 rfl rfl
  d_table_of := def_ok X G c 35 rfl rfl
  d_bound_by := def_ok X G c 36 rfl rfl
  d_sets_of := def_ok X G c 37 rfl rfl
  d_bound_groups := def_ok X G c 38 rfl rfl
  d_least_bound := def_ok X G c 39 rfl rfl
  d_do_cross := def_ok X G c 40 rfl rfl
  d_crossing := def_ok X G c 41 rfl rfl
  d_is_nested := def_ok X G c 42 rfl rfl
  d_all_sure := def_ok X G c 43 rfl rfl
  d_demand_of := def_ok X G c 44 rfl rfl
  d_is_barred_by := def_ok X G c 45 rfl rfl
  d_barring_lots := def_ok X G c 46 rfl rfl
  d_sure_in := def_ok X G c 47 rfl rfl
  d_most_in := def_ok X G c 48 rfl rfl
  d_spans_of := def_ok X G c 49 rfl rfl
  d_law_box := def_ok X G c 50 rfl rfl
  d_law_take := def_ok X G c 51 rfl rfl
  d_law_cells := def_ok X G c 52 rfl rfl
  d_law_of := def_ok X G c 53 rfl rfl
  d_law_pick := def_ok X G c 54 rfl rfl
  d_law_same := def_ok X G c 55 rfl rfl
  d_law_rules := def_ok X G c 56 rfl rfl
  d_law_load := def_ok X G c 57 rfl rfl
  d_law_shut := def_ok X G c 58 rfl rfl
  d_law_more := def_ok X G c 59 rfl rfl
  d_law_keeps := def_ok X G c 60 rfl rfl
  d_law_served := def_ok X G c 61 rfl rfl
  d_law_lots := def_ok X G c 62 rfl rfl
  d_law_ends := def_ok X G c 63 rfl rfl
  d_law_sets := def_ok X G c 64 rfl rfl
  d_law_open := def_ok X G c 65 rfl rfl
  d_law_bare := def_ok X G c 66 rfl rfl
  d_law_crossing := def_ok X G c 67 rfl rfl
  d_law_worst_right := def_ok X G c 68 rfl rfl
  d_law_all_right := def_ok X G c 69 rfl rfl
  d_law_factor_right := def_ok X G c 70 rfl rfl
  d_law_by_hand_right := def_ok X G c 71 rfl rfl
  d_law_case_right := def_ok X G c 72 rfl rfl
  d_law_right := def_ok X G c 73 rfl rfl
  d_law := def_ok X G c 74 rfl rfl
  tab := tab
  adr := by
    obtain ⟨fd, F⟩ := c.def_ 37 (d := d_sets_of) rfl
    exact ⟨fd, F, He.glo_ok X G (c.fact 37 (f := .glo "sets_of") rfl)⟩
end
theorem ints_dp {K : PySem.W.Frag} {H : Hp} : ∀ ns : List Int, DpAll K H (ns.map V.int) (ns.map Datum.toD)
  | [] => .nil
  | n :: ns => .cons (.int n) (ints_dp ns)
/-- one object of a heap -/
def onlyA (H : Hp) (a : Addr) : Hp := fun b => if b = a then H a else none
theorem onlyA_same (H : Hp) (a : Addr) : onlyA H a a = H a := if_pos rfl
theorem onlyA_of {H : Hp} {a b : Addr} {o : HO} (h : onlyA H a b = some o) : b = a ∧ H a = some o := by
  unfold onlyA at h
  by_cases z : b = a
  · rw [if_pos z] at h
    exact ⟨z, h⟩
  · rw [if_neg z] at h
    cases h
def noneH : Hp := fun _ => none
theorem script_at {K : PySem.W.Frag} {H : Hp} {a : Addr} {xs : List V} (hs : SqL K H a xs) : ∃ F : Hp, Ex F H ∧ (∀ b ps, F b ≠ some (.tbl ps)) ∧ SqL K F a xs := by
  rcases hs with q | q
  · refine ⟨onlyA H a, fun b o hb => ?_, fun b ps hb => ?_, .inl ?_⟩
    · obtain ⟨e, h⟩ := onlyA_of hb
      rw [e]
      exact h
    · obtain ⟨e, h⟩ := onlyA_of hb
      rcases q with q | ⟨o, q⟩
      · rw [q] at h; cases h
      · rw [q] at h; cases h
    · rcases q with q | ⟨o, q⟩
      · exact .inl ((onlyA_same H a).trans q)
      · exact .inr ⟨o, (onlyA_same H a).trans q⟩
  · exact ⟨noneH, fun b o hb => (by cases hb), fun b ps hb => (by cases hb), .inr q⟩
/-- the law's promise at the script and the empty table -/
theorem law_sp {K : PySem.W.Frag} {H : Hp} {a : Addr} {ns : List Int} (hl : ns.length ≤ 63) (ht : H (tabOf K) = some (.tbl #[])) (hs : SqL K H a (ns.map V.int)) : spD K R_law [.ref a] H (fun v _ => v = .bl true) fun _ _ _ => False := by
  obtain ⟨F, e, n, s⟩ := script_at hs
  refine ⟨F, [], [], [dd ns], dd true, [], ⟨ns, hl, rfl, rfl, rfl, rfl⟩, ⟨e, .nil, rfl, fun k xs hk => by simp at hk, fun b hb => (by cases hb), fun p hp => ?_, n⟩, .cons (.lst s (ints_dp ns)) .nil, fun v F' H' _ _ hv _ => ?_⟩
  · rw [List.mem_singleton.mp hp]
    exact .nil ht
  · have hv2 : Dp K F' v (.bool true) := hv
    cases hv2
    rfl
theorem law_call0 {w : World} {K : PySem.W.Frag} {h : Heap} {mg : Str → Option Value} {f : Addr} (X : K.In h) (G : h.Ns mainGlobals mg) (hfa : mg ("law" : Str) = some (.ref f)) (c : He.SaysD fa fn K) :
    ∃ fd : FuncData, (∀ (s : Shared) (v : Value), BindsTo s fd ⟨[v], []⟩ [("_law_script", v)]) ∧ ∀ base : Heap, K.In base → base.Ns mainGlobals mg → LamX.TabB base mg (codeOf K) (tabOf K) → FnOk (PySem.Challenge.rw_crosslimits_k64_whole_all_orders_of_smal).prog w K mg base CX0 19 f fd ["_law_script"] (spD K R_law) := by
  obtain ⟨fd, F⟩ := c.def_ 74 (d := d_law) rfl
  have e := hfa.symm.trans (He.glo_ok X G (c.fact 74 (f := .glo "law") rfl))
  cases e
  have b := FunD.bindsA (ps := ["_law_script"]) F fun _ _ _ _ _ _ us hl => match us, hl with | [_], _ => rfl
  exact ⟨fd, fun s v => b s [v] rfl, fun base _ _ T => ok_law (wld_ok X G c T) all_ar by_h F⟩
end CL
open PySem PySem.W PySem.Calls PyProof.Rows
theorem PySem.Challenge.cw_crosslimits_k64_whole_all_orders_of_smal_holds : PySem.Challenge.rw_crosslimits_k64_whole_all_orders_of_smal.Holds := by
  w_on; o_law
  refine HandSHeadRun.head_any (r := CL.lawRow) (q := CL.lawView) (H := CL.hk) (ob := CL.ob) (M := 6000) (loose := CL.names) (d := HandSHeadRun.topDef CL.lawRow.prog 89) (kwd := []) CL.ob_eq
    (by kernel_rfl) (fun s => by kernel_rfl) CL.run (by kernel_rfl) (by kernel_rfl) (by kernel_rfl) (by rfl) (by first | assumption | decide +kernel) (by decide +kernel) ⟨rfl, rfl, rfl, rfl, rfl, by decide +kernel⟩ ?hw ?hc
  case hw => w_witness2
  case hc =>
    refine Att.attach_callB (l := PySem.Challenge.rw_crosslimits_k64_whole_all_orders_of_smal) (n := 63) rfl (by kernel_rfl) ?_
    intro w s0 s1 mg mb fa o pm cd doc a vs ns G Y ho hd hcd hmg0 hobj hints hlen hbits hg
    obtain ⟨K, X, c⟩ := Y
    have hmg : mg ("law" : PySem.Str) = some (.ref fa) := by
      have e : (HandSHeadRun.topDef CL.lawRow.prog 89).name = ("law" : PySem.Str) := by kernel_rfl
      rw [← e]
      exact hmg0
    have t := tab_of (x := "sets_of") (d := HandSHeadRun.topDef CL.lawRow.prog 49) G.T X (by kernel_rfl) c.tab.1
    obtain ⟨fd, hb, hF⟩ := CL.law_call0 (w := w) X G.T.g hmg c.facts
    exact LamX.law_callTs (cs := [(DL.codeOf K, DL.tabOf K)]) (k := 19) (CX := L2.CX0) X G.T.g G.T.b G.T.builtins G.T.nolimit hg (fun p hp => by rw [List.mem_singleton.mp hp]; exact t.2) (fun p hp => by rw [List.mem_singleton.mp hp]; exact c.tab.2) (fun p hp => by rw [List.mem_singleton.mp hp]; exact t.1)
      G.T.bmain hobj hints (Nat.le_trans hlen (by decide)) ⟨rfl, by decide, by decide⟩ (fun base k1 k2 k3 => hF base k1 k2 (k3 _ List.mem_cons_self)) hb (fun H hH hS => CL.law_sp hlen (hH _ List.mem_cons_self) hS) (fun _ _ _ z => z)
end
