import PyProof.Rows.All
import Wide.All
import OpenK.AllK
import Wide.FinOn
import KE.KStateDown
import Lean
import HandS.ForMost
import HandS.ForExc
import KE.KDictKeyed
import KE.DataCmp
import KE.DataEq
import KE.DataFind
import KE.DataIsa
import KE.SortData
import HandS.TupAny
import HandS.TupLen
import HandS.Conv
import HandS.IsInst
import HandS.Text
import HandS.Sort
import HandS.More
import HandS.Zip
import HandS.Style
import KE.GoesEnum
import KE.GoesZip
import KE.GoesMore
import KE.KDictDisplayH
import PyProof.ReprRoads
import HandS.SetFor
import HandS.Strs
import HandS.Set
import KE.KDictPairs
import HandS.ListItems
import HandS.Codes
import HandS.HeadHook1
import HandS.HeadHook2
import KE.KDictZip
import PyProof.InstSpecial
import PyProof.AutoSeq1
import PyProof.NeKinds
import HandS.FStr
import HandS.TupMul
import HandS.RaiseMore
import KE.KCallOwn
import HandS.ClsMeth
import KE.GoesEnumKw
import HandS.Replace
import HandS.Star
import HandS.Deep
import KE.KDictSum
import HandS.TupSets
import KE.KDictWalk
import HandS.NoneIn
import HandS.DictComp
import PyProof.Rows.RowHeap
import HandS.ExcSuper
import HandS.ExcOwn
import HandS.ExcIs
import HandS.ExcField
import KE.KExcMake
import KE.KSuper
import HandS.ExcInit
import KE.KExcIs
import PySem.Challenge.RW_pacehouse_k03_texts_that_are_no_rules
import HandS.Head0
import HandS.Base
import HandS.Call
import HandS.Ends
import HandS.Words
import HandS.WordsExc
import HandS.Defaults
import HandS.Head1
import HandS.Head2
import HandS.HeadEnd
import HandS.HeadNt
import KE.DatumOrd
import PyProof.Rows.StrRev
import KE.KDictList
import PyProof.DictValues
import PyProof.CollectStr
import PyProof.ListStr
import PyProof.StrLawsFirst
import PyProof.StrWalks
import PyProof.FactsAll.subtypes_3
import HandS.Property
section
set_option Elab.async false
set_option linter.all false
set_option maxRecDepth 100000
set_option maxHeartbeats 4000000
namespace DL
open PySem PySem.Spec PyProof.Rows L2
inductive D where
  | non | bl (b : Bool) | int (i : Int) | str (x : Str) | ty (n : String)
  | tup (xs : List D) | lst (xs : List D)
  | dK (kvs : List (Key × D)) | dT (kvs : List (List Key × D))
  | obj (C : Addr) (fs : List (Str × D))
  | rf (a : Addr)
  | scr (ns : List Int)
  | kup (xs : List D)
def Ex (F F' : Hp) : Prop := ∀ a o, F a = some o → F' a = some o
theorem Ex.refl (F : Hp) : Ex F F := fun _ _ h => h
theorem Ex.trans {F F1 F2 : Hp} (a : Ex F F1) (b : Ex F1 F2) : Ex F F2 := fun x o h => b x o (a x o h)
theorem Ex.new {F : Hp} {p : Addr} {o : HO} (h : F p = none) : Ex F (upd F p o) := fun a u e => by
  by_cases q : a = p
  · subst q; rw [h] at e; cases e
  · rw [upd_ne q]; exact e
theorem Ex.nope {F H : Hp} (e : Ex F H) {p : Addr} (h : H p = none) : F p = none := by
  cases q : F p with
  | none => rfl
  | some o => rw [e p o q] at h; cases h
theorem Ex.upds {F H : Hp} (e : Ex F H) {p : Addr} (o : HO) : Ex (upd F p o) (upd H p o) := fun a u h => by
  by_cases q : a = p
  · subst q; rw [upd_same] at h ⊢; exact h
  · rw [upd_ne q] at h ⊢; exact e a u h
theorem Ex.updR {F H : Hp} (e : Ex F H) {p : Addr} {o : HO} (h : F p = none) : Ex F (upd H p o) := fun a u z => by
  by_cases q : a = p
  · subst q; rw [h] at z; cases z
  · rw [upd_ne q]; exact e a u z
theorem Ex.rd {F F' : Hp} {a : Addr} {u : HO} (e : Ex F F') (h : Rd F a u) : Rd F' a u := by
  rcases h with h | ⟨o, h⟩
  · exact .inl (e _ _ h)
  · exact .inr ⟨o, e _ _ h⟩
theorem Ex.sql {K : PySem.W.Frag} {F F' : Hp} {a : Addr} {xs : List V} (e : Ex F F') (h : SqL K F a xs) : SqL K F' a xs := by
  rcases h with h | h
  · exact .inl (e.rd h)
  · exact .inr h
theorem Ex.sqt {K : PySem.W.Frag} {F F' : Hp} {a : Addr} {xs : List V} (e : Ex F F') (h : SqT K F a xs) : SqT K F' a xs := by
  rcases h with h | h
  · exact .inl (e.rd h)
  · exact .inr h
mutual
inductive Rep (K : PySem.W.Frag) (F : Hp) : V → D → Prop
  | non : Rep K F .non .non
  | bl (b : Bool) : Rep K F (.bl b) (.bl b)
  | int (i : Int) : Rep K F (.int i) (.int i)
  | str (x : Str) : Rep K F (.str x) (.str x)
  | ty (n : String) : Rep K F (.ty n) (.ty n)
  | tup {a : Addr} {vs : List V} {ds : List D} : F a = some (.tup vs) → Reps K F vs ds → Rep K F (.ref a) (.tup ds)
  | lst {a : Addr} {vs : List V} {ds : List D} : F a = some (.lst vs) → Reps K F vs ds → Rep K F (.ref a) (.lst ds)
  | dK {a : Addr} {kvs : List (Key × V)} {kds : List (Key × D)} : F a = some (.dK kvs) → kvs.map (·.1) = kds.map (·.1) → Reps K F (kvs.map (·.2)) (kds.map (·.2)) → Rep K F (.ref a) (.dK kds)
  | dT {a : Addr} {kvs : List (List Key × V)} {kds : List (List Key × D)} : F a = some (.dT kvs) → kvs.map (·.1) = kds.map (·.1) → Reps K F (kvs.map (·.2)) (kds.map (·.2)) → Rep K F (.ref a) (.dT kds)
  | obj {a C dx : Addr} {kvs : List (Str × V)} {kds : List (Str × D)} : F a = some (.ins C dx kvs) → kvs.map (·.1) = kds.map (·.1) → Reps K F (kvs.map (·.2)) (kds.map (·.2)) → Rep K F (.ref a) (.obj C kds)
  | rf (a : Addr) : Rep K F (.ref a) (.rf a)
  | scr {a : Addr} {ns : List Int} : SqL K F a (ns.map V.int) → Rep K F (.ref a) (.scr ns)
  | kup {a : Addr} {vs : List V} {ds : List D} : SqT K F a vs → Reps K F vs ds → Rep K F (.ref a) (.kup ds)
inductive Reps (K : PySem.W.Frag) (F : Hp) : List V → List D → Prop
  | nil : Reps K F [] []
  | cons {v : V} {vs : List V} {d : D} {ds : List D} : Rep K F v d → Reps K F vs ds → Reps K F (v :: vs) (d :: ds)
end
mutual
theorem Rep.mono {K : PySem.W.Frag} {F F' : Hp} (e : Ex F F') : ∀ {v : V} {d : D}, Rep K F v d → Rep K F' v d
  | _, _, .non => .non
  | _, _, .bl b => .bl b
  | _, _, .int i => .int i
  | _, _, .str x => .str x
  | _, _, .ty n => .ty n
  | _, _, .tup h r => .tup (e _ _ h) (Reps.mono e r)
  | _, _, .lst h r => .lst (e _ _ h) (Reps.mono e r)
  | _, _, .dK h l r => .dK (e _ _ h) l (Reps.mono e r)
  | _, _, .dT h l r => .dT (e _ _ h) l (Reps.mono e r)
  | _, _, .obj h l r => .obj (e _ _ h) l (Reps.mono e r)
  | _, _, .rf a => .rf a
  | _, _, .scr h => .scr (e.sql h)
  | _, _, .kup h r => .kup (e.sqt h) (Reps.mono e r)
theorem Reps.mono {K : PySem.W.Frag} {F F' : Hp} (e : Ex F F') : ∀ {vs : List V} {ds : List D}, Reps K F vs ds → Reps K F' vs ds
  | _, _, .nil => .nil
  | _, _, .cons h t => .cons (Rep.mono e h) (Reps.mono e t)
end
section
variable {K : PySem.W.Frag} {F : Hp}
theorem Reps.length : ∀ {vs : List V} {ds : List D}, Reps K F vs ds → vs.length = ds.length
  | _, _, .nil => rfl
  | _, _, .cons _ t => congrArg (· + 1) (Reps.length t)
theorem Reps.get : ∀ {vs : List V} {ds : List D} {i : Nat} {d : D}, Reps K F vs ds → ds[i]? = some d → ∃ v, vs[i]? = some v ∧ Rep K F v d
  | _, _, _, _, .nil, e => by simp at e
  | _, _, 0, _, .cons r _, e => by simp at e; subst e; exact ⟨_, rfl, r⟩
  | _, _, i + 1, _, .cons _ t, e => by
    obtain ⟨v, h1, h2⟩ := Reps.get (i := i) t (by simpa using e)
    exact ⟨v, by simpa using h1, h2⟩
theorem Reps.get' : ∀ {vs : List V} {ds : List D} {i : Nat} {v : V}, Reps K F vs ds → vs[i]? = some v → ∃ d, ds[i]? = some d ∧ Rep K F v d
  | _, _, _, _, .nil, e => by simp at e
  | _, _, 0, _, .cons r _, e => by simp at e; subst e; exact ⟨_, rfl, r⟩
  | _, _, i + 1, _, .cons _ t, e => by
    obtain ⟨v, h1, h2⟩ := Reps.get' (i := i) t (by simpa using e)
    exact ⟨v, by simpa using h1, h2⟩
theorem Reps.append : ∀ {vs vs' : List V} {ds ds' : List D}, Reps K F vs ds → Reps K F vs' ds' → Reps K F (vs ++ vs') (ds ++ ds')
  | _, _, _, _, .nil, s => s
  | _, _, _, _, .cons r t, s => .cons r (Reps.append t s)
theorem Reps.one {v : V} {d : D} (h : Rep K F v d) : Reps K F [v] [d] := .cons h .nil
theorem Reps.set {v : V} {d : D} (h : Rep K F v d) : ∀ {vs : List V} {ds : List D} (i : Nat), Reps K F vs ds → Reps K F (vs.set i v) (ds.set i d)
  | _, _, _, .nil => .nil
  | _, _, 0, .cons _ t => .cons h t
  | _, _, i + 1, .cons r t => .cons r (Reps.set h i t)
theorem Reps.take : ∀ {vs : List V} {ds : List D} (n : Nat), Reps K F vs ds → Reps K F (vs.take n) (ds.take n)
  | _, _, 0, _ => .nil
  | _, _, _ + 1, .nil => .nil
  | _, _, n + 1, .cons r t => .cons r (Reps.take n t)
theorem Reps.drop : ∀ {vs : List V} {ds : List D} (n : Nat), Reps K F vs ds → Reps K F (vs.drop n) (ds.drop n)
  | _, _, 0, r => r
  | _, _, _ + 1, .nil => .nil
  | _, _, n + 1, .cons _ t => Reps.drop n t
theorem Reps.reverse {vs : List V} {ds : List D} (r : Reps K F vs ds) : Reps K F vs.reverse ds.reverse := by
  induction vs generalizing ds with
  | nil => cases r; exact .nil
  | cons v vs ih =>
    cases r with
    | cons h t =>
      rw [List.reverse_cons, List.reverse_cons]
      exact (ih t).append (.one h)
end
inductive MO where
  | lst (xs : List D) | dK (kvs : List (Key × D)) | dT (kvs : List (List Key × D))
  | ins (C : Addr) (fs : List (Str × D))
  | deck (k1 k2 k3 : Str) (n : Nat)
  | dcell
  | lkT (o : Obj) (kvs : List (List Key × V)) (kds : List (List Key × D))
  | lkK (o : Obj) (kvs : List (Key × V)) (kds : List (Key × D))
  | dN (w : World) (kds : List (NestedKey × D))
  | lkN (w : World) (o : Obj) (xs : List (NestedKey × Addr × Value)) (kds : List (NestedKey × D))
  | dU (w : World) (kds : List (NestedKey × D))
  | lkU (w : World) (o : Obj) (xs : List (NestedKey × Addr × Value)) (kds : List (NestedKey × D))
  | tupU (o : Obj) (vs : List V) (ds : List D)
abbrev GH := Addr → Option MO
def gput (G : GH) (a : Addr) (o : MO) : GH := fun b => if b = a then some o else G b
def gdel (G : GH) (a : Addr) : GH := fun b => if b = a then none else G b
theorem gput_same {G : GH} {a : Addr} {o : MO} : gput G a o a = some o := by unfold gput; rw [if_pos rfl]
theorem gput_ne {G : GH} {a b : Addr} {o : MO} (h : b ≠ a) : gput G a o b = G b := by unfold gput; rw [if_neg h]
theorem gput_gput {G : GH} {a : Addr} {o o' : MO} : gput (gput G a o) a o' = gput G a o' := by
  funext b
  by_cases h : b = a
  · subst h; rw [gput_same, gput_same]
  · rw [gput_ne h, gput_ne h, gput_ne h]
theorem gput_self {G : GH} {a : Addr} {o : MO} (h : G a = some o) : gput G a o = G := by
  funext b
  by_cases q : b = a
  · subst q; rw [gput_same, h]
  · rw [gput_ne q]
def deckOk (F H : Hp) (G : GH) (a : Addr) (k1 k2 k3 : Str) (n : Nat) : Prop :=
  ∃ (c : Addr) (g t : Int) (ns : List Int), H a = some (.dK [(.inr k1, .ref c), (.inr k2, .int g), (.inr k3, .int t)]) ∧ H c = some (.lst (ns.map V.int)) ∧ G c = some .dcell ∧
    0 ≤ t ∧ t + n ≤ 1099511627776 ∧ 0 ≤ g ∧ g < 4294967296 ∧ ns.length ≤ 63
/-- a dict whose keys are tuples of any depth: what stands at its own place -/
def RawN (w : World) (a : Addr) (xs : List (NestedKey × Addr × Value)) (h : Heap) : Prop :=
  (a == sysModules) = false ∧ ∃ o es ep, h.get? a = some o ∧ o.ExactDict ∧ o.data = .dict es ep ∧ es.toList = xs.map (fun x => ({ hash := x.1.hash w, key := .ref x.2.1, val := x.2.2 } : DictEntry)) ∧ (xs.map (·.1)).Nodup
mutual
/-- data as a key -/
def D.nkey : D → Option NestedKey
  | .non => some .none
  | .int i => some (.num i)
  | .str x => some (.text x)
  | .tup ds => (D.nkeys ds).map .tup
  | _ => none
def D.nkeys : List D → Option (List NestedKey)
  | [] => some []
  | d :: ds => match d.nkey, D.nkeys ds with
    | some k, some ks => some (k :: ks)
    | _, _ => none
end
def KN (K : PySem.W.Frag) (F : Hp) : List (NestedKey × D) → List (NestedKey × Addr × Value) → Prop := Paired fun p q => p.1 = q.1 ∧ (∃ d : D, d.nkey = some p.1 ∧ p.1.depth ≤ 8 ∧ Rep K F (.ref q.2.1) d) ∧ ∃ v, RelV v q.2.2 ∧ Rep K F v p.2
mutual
/-- a key as data, by tuples that may be the module's own -/
def kToU : NestedKey → D
  | .none => .non
  | .num i => .int i
  | .text x => .str x
  | .tup ks => .kup (ksToU ks)
def ksToU : List NestedKey → List D
  | [] => []
  | k :: ks => kToU k :: ksToU ks
end
def KU (K : PySem.W.Frag) (F : Hp) : List (NestedKey × D) → List (NestedKey × Addr × Value) → Prop := Paired fun p q => p.1 = q.1 ∧ p.1.depth ≤ 8 ∧ Rep K F (.ref q.2.1) (kToU p.1) ∧ ∃ v, RelV v q.2.2 ∧ Rep K F v p.2
def MRep (K : PySem.W.Frag) (F H : Hp) (G : GH) (a : Addr) : MO → Prop
  | .lst ds => ∃ vs, H a = some (.lst vs) ∧ Reps K F vs ds
  | .dK kds => ∃ kvs, H a = some (.dK kvs) ∧ kvs.map (·.1) = kds.map (·.1) ∧ Reps K F (kvs.map (·.2)) (kds.map (·.2))
  | .dT kds => ∃ kvs, H a = some (.dT kvs) ∧ kvs.map (·.1) = kds.map (·.1) ∧ Reps K F (kvs.map (·.2)) (kds.map (·.2))
  | .ins C kds => ∃ dx kvs, H a = some (.ins C dx kvs) ∧ kvs.map (·.1) = kds.map (·.1) ∧ Reps K F (kvs.map (·.2)) (kds.map (·.2))
  | .deck k1 k2 k3 n => deckOk F H G a k1 k2 k3 n
  | .dcell => ∃ xs, H a = some (.lst xs)
  | .lkT o kvs kds => H a = some (.frz o (.dT kvs)) ∧ kvs.map (·.1) = kds.map (·.1) ∧ Reps K F (kvs.map (·.2)) (kds.map (·.2))
  | .lkK o kvs kds => H a = some (.frz o (.dK kvs)) ∧ kvs.map (·.1) = kds.map (·.1) ∧ Reps K F (kvs.map (·.2)) (kds.map (·.2))
  | .dN w kds => ∃ xs, H a = some (.ext (RawN w a xs)) ∧ kds.length ≤ sizeLine ∧ KN K F kds xs
  | .lkN w o xs kds => H a = some (.frz o (.ext (RawN w a xs))) ∧ kds.length ≤ sizeLine ∧ KN K F kds xs
  | .dU w kds => ∃ xs, H a = some (.ext (RawN w a xs)) ∧ kds.length ≤ sizeLine ∧ KU K F kds xs
  | .lkU w o xs kds => H a = some (.frz o (.ext (RawN w a xs))) ∧ kds.length ≤ sizeLine ∧ KU K F kds xs
  | .tupU o vs ds => H a = some (.frz o (.tup vs)) ∧ o.dict = none ∧ o.cls = .type "tuple" ∧ Reps K F vs ds
structure Gok (K : PySem.W.Frag) (F H : Hp) (G : GH) : Prop where
  ex : Ex F H
  at_ : ∀ a o, G a = some o → F a = none ∧ MRep K F H G a o
  one : ∀ a b k1 k2 k3 n j1 j2 j3 m, G a = some (.deck k1 k2 k3 n) → G b = some (.deck j1 j2 j3 m) → a = b
section
variable {K : PySem.W.Frag} {F H : Hp} {G : GH}
theorem MRep.isAt {a : Addr} {o : MO} (h : MRep K F H G a o) : ∃ u, H a = some u := by
  cases o with
  | lst xs => obtain ⟨vs, e, _⟩ := h; exact ⟨_, e⟩
  | dK kds => obtain ⟨vs, e, _⟩ := h; exact ⟨_, e⟩
  | dT kds => obtain ⟨vs, e, _⟩ := h; exact ⟨_, e⟩
  | ins C kds => obtain ⟨dx, vs, e, _⟩ := h; exact ⟨_, e⟩
  | deck k1 k2 k3 n => obtain ⟨c, g, t, ns, e, _⟩ := h; exact ⟨_, e⟩
  | dcell => obtain ⟨xs, e⟩ := h; exact ⟨_, e⟩
  | lkT o kvs kds => exact ⟨_, h.1⟩
  | lkK o kvs kds => exact ⟨_, h.1⟩
  | dN w kds => obtain ⟨xs, e, _⟩ := h; exact ⟨_, e⟩
  | lkN w o xs kds => exact ⟨_, h.1⟩
  | dU w kds => obtain ⟨xs, e, _⟩ := h; exact ⟨_, e⟩
  | lkU w o xs kds => exact ⟨_, h.1⟩
  | tupU o vs ds => exact ⟨_, h.1⟩
theorem Gok.free (g : Gok K F H G) {p : Addr} (h : H p = none) : G p = none := by
  cases q : G p with
  | none => rfl
  | some o =>
    obtain ⟨u, e⟩ := (g.at_ p o q).2.isAt
    rw [e] at h; cases h
theorem MRep.move {F' H' : Hp} {G' : GH} {a : Addr} {o : MO} (h : MRep K F H G a o) (e : Ex F F') (k : ∀ b u, H b = some u → (b = a ∨ G b = some .dcell) → H' b = some u) (g : ∀ c, G c = some .dcell → G' c = some .dcell) : MRep K F' H' G' a o := by
  cases o with
  | lst xs =>
    obtain ⟨vs, e1, r⟩ := h
    exact ⟨vs, k _ _ e1 (.inl rfl), r.mono e⟩
  | dK kds =>
    obtain ⟨vs, e1, l, r⟩ := h
    exact ⟨vs, k _ _ e1 (.inl rfl), l, r.mono e⟩
  | dT kds =>
    obtain ⟨vs, e1, l, r⟩ := h
    exact ⟨vs, k _ _ e1 (.inl rfl), l, r.mono e⟩
  | ins C kds =>
    obtain ⟨dx, vs, e1, l, r⟩ := h
    exact ⟨dx, vs, k _ _ e1 (.inl rfl), l, r.mono e⟩
  | deck k1 k2 k3 n =>
    obtain ⟨c, g0, t, ns, e1, e2, gc, hz⟩ := h
    exact ⟨c, g0, t, ns, k _ _ e1 (.inl rfl), k _ _ e2 (.inr gc), g c gc, hz⟩
  | dcell =>
    obtain ⟨xs, e1⟩ := h
    exact ⟨xs, k _ _ e1 (.inl rfl)⟩
  | lkT o kvs kds => exact ⟨k _ _ h.1 (.inl rfl), h.2.1, h.2.2.mono e⟩
  | lkK o kvs kds => exact ⟨k _ _ h.1 (.inl rfl), h.2.1, h.2.2.mono e⟩
  | dN w kds =>
    obtain ⟨xs, e1, hz, r⟩ := h
    exact ⟨xs, k _ _ e1 (.inl rfl), hz, Paired.mapP r fun _ _ ⟨z1, ⟨d, z2, zd, z3⟩, v, z4, z5⟩ => ⟨z1, ⟨d, z2, zd, z3.mono e⟩, v, z4, z5.mono e⟩⟩
  | lkN w o xs kds =>
    obtain ⟨e1, hz, r⟩ := h
    exact ⟨k _ _ e1 (.inl rfl), hz, Paired.mapP r fun _ _ ⟨z1, ⟨d, z2, zd, z3⟩, v, z4, z5⟩ => ⟨z1, ⟨d, z2, zd, z3.mono e⟩, v, z4, z5.mono e⟩⟩
  | dU w kds =>
    obtain ⟨xs, e1, hz, r⟩ := h
    exact ⟨xs, k _ _ e1 (.inl rfl), hz, Paired.mapP r fun _ _ ⟨z1, z2, z3, v, z4, z5⟩ => ⟨z1, z2, z3.mono e, v, z4, z5.mono e⟩⟩
  | lkU w o xs kds =>
    obtain ⟨e1, hz, r⟩ := h
    exact ⟨k _ _ e1 (.inl rfl), hz, Paired.mapP r fun _ _ ⟨z1, z2, z3, v, z4, z5⟩ => ⟨z1, z2, z3.mono e, v, z4, z5.mono e⟩⟩
  | tupU o vs ds => exact ⟨k _ _ h.1 (.inl rfl), h.2.1, h.2.2.1, h.2.2.2.mono e⟩
/-- the heap grows, frozen things with it -/
structure Gr (F H F' H' : Hp) : Prop where
  ff : Ex F F'
  fh : Ex F' H'
  hh : Ex H H'
  no : ∀ a u, H a = some u → F a = none → F' a = none
theorem Gok.grow (g : Gok K F H G) {F' H' : Hp} (r : Gr F H F' H') : Gok K F' H' G where
  ex := r.fh
  at_ := fun a o e => by
    obtain ⟨f, m⟩ := g.at_ a o e
    obtain ⟨u, hu⟩ := m.isAt
    exact ⟨r.no a u hu f, m.move r.ff (fun b u q _ => r.hh b u q) (fun c z => z)⟩
  one := g.one
theorem Gr.new (e : Ex F H) {p : Addr} {u : HO} (h : H p = none) : Gr F H (upd F p u) (upd H p u) where
  ff := Ex.new (e.nope h)
  fh := e.upds u
  hh := Ex.new h
  no := fun a w ha fa => by
    have q : a ≠ p := fun q => by rw [q, h] at ha; cases ha
    rw [upd_ne q]; exact fa
theorem Gr.only (e : Ex F H) {p : Addr} {u : HO} (h : H p = none) : Gr F H F (upd H p u) where
  ff := Ex.refl F
  fh := e.updR (e.nope h)
  hh := Ex.new h
  no := fun a w ha fa => fa
theorem Gr.refl (e : Ex F H) : Gr F H F H := ⟨Ex.refl F, e, Ex.refl H, fun _ _ _ z => z⟩
/-- fewer things that may change -/
structure Sub (G' G : GH) : Prop where
  le : ∀ a o, G' a = some o → G a = some o
  dc : ∀ c, G c = some .dcell → G' c = some .dcell
theorem Sub.refl (G : GH) : Sub G G := ⟨fun _ _ z => z, fun _ z => z⟩
theorem Sub.trans {G1 G2 G3 : GH} (a : Sub G1 G2) (b : Sub G2 G3) : Sub G1 G3 := ⟨fun x o z => b.le x o (a.le x o z), fun c z => a.dc c (b.dc c z)⟩
theorem Gok.sub (g : Gok K F H G) {G' : GH} (h : Sub G' G) : Gok K F H G' where
  ex := g.ex
  at_ := fun a o e => by
    obtain ⟨f, m⟩ := g.at_ a o (h.le a o e)
    exact ⟨f, m.move (Ex.refl F) (fun b u q _ => q) h.dc⟩
  one := fun a b k1 k2 k3 n j1 j2 j3 m e1 e2 => g.one a b k1 k2 k3 n j1 j2 j3 m (h.le _ _ e1) (h.le _ _ e2)
def MO.isDeck : MO → Bool
  | .deck _ _ _ _ => true
  | .dcell => true
  | _ => false
theorem sub_new {p : Addr} {o : MO} (h : G p = none) (hd : o.isDeck = false) : Sub G (gput G p o) := by
  refine ⟨fun a w z => ?_, fun c z => ?_⟩
  · have q : a ≠ p := fun y => by rw [y, h] at z; cases z
    rw [gput_ne q]; exact z
  · by_cases q : c = p
    · subst q; rw [gput_same] at z; cases z; cases hd
    · rw [gput_ne q] at z; exact z
theorem Sub.put {G' : GH} (s : Sub G' G) (p : Addr) (o : MO) : Sub (gput G' p o) (gput G p o) := by
  refine ⟨fun a w z => ?_, fun c z => ?_⟩
  · by_cases q : a = p
    · subst q; rw [gput_same] at z ⊢; exact z
    · rw [gput_ne q] at z ⊢; exact s.le a w z
  · by_cases q : c = p
    · subst q; rw [gput_same] at z ⊢; exact z
    · rw [gput_ne q] at z ⊢; exact s.dc c z
theorem upd_none {H : Hp} {p b : Addr} {u : HO} (h : upd H p u b = none) : H b = none := by
  by_cases q : b = p
  · subst q; rw [upd_same] at h; cases h
  · rw [upd_ne q] at h; exact h
/-- from one moment to a later one -/
structure Go (F H : Hp) (G : GH) (F' H' : Hp) (G' : GH) : Prop where
  ex : Ex F F'
  fr : ∀ b u, H b = some u → G b = none → H' b = some u ∧ G' b = none
  no : ∀ b u, H b = some u → G b = none → F b = none → (∀ vs, u ≠ .tup vs) → F' b = none
  st : ∀ b, H' b = none → H b = none
theorem Go.refl : Go F H G F H G := ⟨Ex.refl F, fun _ _ h g => ⟨h, g⟩, fun _ _ _ _ f _ => f, fun _ z => z⟩
theorem Go.trans {F1 H1 F2 H2 : Hp} {G1 G2 : GH} (a : Go F H G F1 H1 G1) (b : Go F1 H1 G1 F2 H2 G2) : Go F H G F2 H2 G2 := by
  refine ⟨a.ex.trans b.ex, fun c u h g => ?_, fun c u h g f t => ?_, fun c z => a.st c (b.st c z)⟩
  · obtain ⟨h1, g1⟩ := a.fr c u h g
    exact b.fr c u h1 g1
  · obtain ⟨h1, g1⟩ := a.fr c u h g
    exact b.no c u h1 g1 (a.no c u h g f t) t
theorem Gr.go {F' H' : Hp} (r : Gr F H F' H') : Go F H G F' H' G := ⟨r.ff, fun b u h g => ⟨r.hh b u h, g⟩, fun b u h _ f _ => r.no b u h f, fun b z => r.hh.nope z⟩
theorem Go.sub {F' H' : Hp} {G' G0 : GH} (a : Go F H G F' H' G') (s : Sub G0 G') : Go F H G F' H' G0 := by
  refine ⟨a.ex, fun b u h g => ?_, a.no, a.st⟩
  obtain ⟨h1, g1⟩ := a.fr b u h g
  refine ⟨h1, ?_⟩
  cases q : G0 b with
  | none => rfl
  | some o => rw [s.le b o q] at g1; cases g1
theorem Go.alloc {p : Addr} {u : HO} {o : MO} (h : H p = none) : Go F H G F (upd H p u) (gput G p o) := by
  refine ⟨Ex.refl F, fun b w hb g => ?_, fun _ _ _ _ f _ => f, fun b z => upd_none z⟩
  have q : b ≠ p := fun y => by rw [y, h] at hb; cases hb
  exact ⟨by rw [upd_ne q]; exact hb, by rw [gput_ne q]; exact g⟩
theorem Go.put {p : Addr} {u : HO} {o o0 : MO} (h : G p = some o0) : Go F H G F (upd H p u) (gput G p o) := by
  refine ⟨Ex.refl F, fun b w hb g => ?_, fun _ _ _ _ f _ => f, fun b z => upd_none z⟩
  have q : b ≠ p := fun y => by rw [y, h] at g; cases g
  exact ⟨by rw [upd_ne q]; exact hb, by rw [gput_ne q]; exact g⟩
/-- a new thing that may change -/
theorem Gok.alloc (g : Gok K F H G) {p : Addr} {u : HO} {o : MO} (h : H p = none) (hd : o.isDeck = false) (r : MRep K F (upd H p u) (gput G p o) p o) : Gok K F (upd H p u) (gput G p o) where
  ex := g.ex.updR (g.ex.nope h)
  at_ := fun a w e => by
    by_cases q : a = p
    · subst q
      rw [gput_same] at e; cases e
      exact ⟨g.ex.nope h, r⟩
    · rw [gput_ne q] at e
      obtain ⟨f, m⟩ := g.at_ a w e
      refine ⟨f, m.move (Ex.refl F) (fun b z qb _ => (Ex.new h) b z qb) fun c z => ?_⟩
      have : c ≠ p := fun y => by rw [y, g.free h] at z; cases z
      rw [gput_ne this]; exact z
  one := fun a b k1 k2 k3 n j1 j2 j3 m e1 e2 => by
    have ha : a ≠ p := fun y => by rw [y, gput_same] at e1; cases e1; cases hd
    have hb : b ≠ p := fun y => by rw [y, gput_same] at e2; cases e2; cases hd
    rw [gput_ne ha] at e1; rw [gput_ne hb] at e2
    exact g.one a b k1 k2 k3 n j1 j2 j3 m e1 e2
/-- a thing changes -/
theorem Gok.put (g : Gok K F H G) {p : Addr} {u : HO} {o o0 : MO} (h : G p = some o0) (h0 : o0.isDeck = false) (hd : o.isDeck = false) (r : MRep K F (upd H p u) (gput G p o) p o) : Gok K F (upd H p u) (gput G p o) where
  ex := g.ex.updR (g.at_ p o0 h).1
  at_ := fun a w e => by
    by_cases q : a = p
    · subst q
      rw [gput_same] at e; cases e
      exact ⟨(g.at_ a o0 h).1, r⟩
    · rw [gput_ne q] at e
      obtain ⟨f, m⟩ := g.at_ a w e
      have np : ∀ c, (c = a ∨ G c = some .dcell) → c ≠ p := fun c hc y => by
        rcases hc with hc | hc
        · exact q (hc ▸ y)
        · rw [y, h] at hc; cases hc; cases h0
      refine ⟨f, m.move (Ex.refl F) (fun b z qb hb => by rw [upd_ne (np b hb)]; exact qb) fun c z => by rw [gput_ne (np c (.inr z))]; exact z⟩
  one := fun a b k1 k2 k3 n j1 j2 j3 m e1 e2 => by
    have ha : a ≠ p := fun y => by rw [y, gput_same] at e1; cases e1; cases hd
    have hb : b ≠ p := fun y => by rw [y, gput_same] at e2; cases e2; cases hd
    rw [gput_ne ha] at e1; rw [gput_ne hb] at e2
    exact g.one a b k1 k2 k3 n j1 j2 j3 m e1 e2
theorem gdel_sub {G : GH} {p : Addr} : ∀ a o, gdel G p a = some o → G a = some o := fun a o e => by
  unfold gdel at e
  by_cases q : a = p
  · rw [if_pos q] at e; cases e
  · rw [if_neg q] at e; exact e
theorem gdel_same {G : GH} {p : Addr} : gdel G p p = none := by unfold gdel; rw [if_pos rfl]
theorem gdel_ne {G : GH} {p a : Addr} (h : a ≠ p) : gdel G p a = G a := by unfold gdel; rw [if_neg h]
theorem gdel_gput {G : GH} {p : Addr} {o : MO} (h : G p = none) : gdel (gput G p o) p = G := by
  funext b
  by_cases q : b = p
  · subst q; rw [gdel_same, h]
  · rw [gdel_ne q, gput_ne q]
/-- a thing changes no more -/
theorem Gok.freeze (g : Gok K F H G) {p : Addr} {u : HO} {o0 : MO} (h : G p = some o0) (h0 : o0.isDeck = false) (hu : H p = some u) : Gok K (upd F p u) H (gdel G p) ∧ Go F H G (upd F p u) H (gdel G p) := by
  have fp := (g.at_ p o0 h).1
  have eF : Ex F (upd F p u) := Ex.new fp
  refine ⟨⟨fun a w z => ?_, fun a w e => ?_, ?_⟩, eF, fun b w hb gb => ⟨hb, ?_⟩, fun b w hb gb fb _ => ?_, fun _ z => z⟩
  · by_cases q : a = p
    · subst q; rw [upd_same] at z; cases z; exact hu
    · rw [upd_ne q] at z; exact g.ex a w z
  · have q : a ≠ p := fun y => by rw [y, gdel_same] at e; cases e
    rw [gdel_ne q] at e
    obtain ⟨f, m⟩ := g.at_ a w e
    refine ⟨by rw [upd_ne q]; exact f, m.move eF (fun b w hb _ => hb) fun c z => ?_⟩
    have nq : c ≠ p := fun y => by rw [y, h] at z; cases z; cases h0
    rw [gdel_ne nq]; exact z
  · exact fun a b k1 k2 k3 n j1 j2 j3 m e1 e2 => g.one a b k1 k2 k3 n j1 j2 j3 m (gdel_sub _ _ e1) (gdel_sub _ _ e2)
  · have q : b ≠ p := fun y => by rw [y, h] at gb; cases gb
    rw [gdel_ne q]; exact gb
  · have q : b ≠ p := fun y => by rw [y, h] at gb; cases gb
    rw [upd_ne q]; exact fb
end
abbrev DS := List (Option D)
inductive Slots (K : PySem.W.Frag) (F : Hp) : L2.St → DS → Prop
  | nil : Slots K F [] []
  | any {v : Option V} {σ : L2.St} {S : DS} : Slots K F σ S → Slots K F (v :: σ) (none :: S)
  | val {v : V} {d : D} {σ : L2.St} {S : DS} : Rep K F v d → Slots K F σ S → Slots K F (some v :: σ) (some d :: S)
section
variable {K : PySem.W.Frag} {F : Hp}
theorem Slots.mono {F' : Hp} (e : Ex F F') : ∀ {σ : L2.St} {S : DS}, Slots K F σ S → Slots K F' σ S
  | _, _, .nil => .nil
  | _, _, .any t => .any (Slots.mono e t)
  | _, _, .val h t => .val (h.mono e) (Slots.mono e t)
theorem Slots.get : ∀ {σ : L2.St} {S : DS} {i : Nat} {d : D}, Slots K F σ S → S[i]? = some (some d) → ∃ v, σ[i]? = some (some v) ∧ Rep K F v d
  | _, _, _, _, .nil, e => by simp at e
  | _, _, 0, _, .any _, e => by simp at e
  | _, _, 0, _, .val r _, e => by simp at e; subst e; exact ⟨_, rfl, r⟩
  | _, _, i + 1, _, .any t, e => by
    obtain ⟨v, h1, h2⟩ := Slots.get (i := i) t (by simpa using e)
    exact ⟨v, by simpa using h1, h2⟩
  | _, _, i + 1, _, .val _ t, e => by
    obtain ⟨v, h1, h2⟩ := Slots.get (i := i) t (by simpa using e)
    exact ⟨v, by simpa using h1, h2⟩
theorem Slots.set {v : V} {d : D} (h : Rep K F v d) : ∀ {σ : L2.St} {S : DS} (i : Nat), Slots K F σ S → Slots K F (σ.set i (some v)) (S.set i (some d))
  | _, _, _, .nil => .nil
  | _, _, 0, .any t => .val h t
  | _, _, 0, .val _ t => .val h t
  | _, _, i + 1, .any t => .any (Slots.set h i t)
  | _, _, i + 1, .val r t => .val r (Slots.set h i t)
theorem Slots.setN (o : Option V) : ∀ {σ : L2.St} {S : DS} (i : Nat), Slots K F σ S → Slots K F (σ.set i o) (S.set i none)
  | _, _, _, .nil => .nil
  | _, _, 0, .any t => .any t
  | _, _, 0, .val _ t => .any t
  | _, _, i + 1, .any t => .any (Slots.setN o i t)
  | _, _, i + 1, .val r t => .val r (Slots.setN o i t)
def dstart (N : List Str) (ds : List D) : DS := ds.map some ++ List.replicate (N.length - ds.length) none
theorem slots_none : ∀ (n : Nat), Slots K F (List.replicate n none) (List.replicate n none)
  | 0 => .nil
  | n + 1 => .any (slots_none n)
theorem slots_append : ∀ {vs : List V} {ds : List D} {σ : L2.St} {S : DS}, Reps K F vs ds → Slots K F σ S → Slots K F (vs.map some ++ σ) (ds.map some ++ S)
  | _, _, _, _, .nil, s => s
  | _, _, _, _, .cons h t, s => .val h (slots_append t s)
theorem Reps.start {N : List Str} {vs : List V} {ds : List D} (r : Reps K F vs ds) : Slots K F (start N vs) (dstart N ds) := by
  have e := r.length
  unfold L2.start dstart
  rw [e]
  exact slots_append r (slots_none _)
end
structure Ok (K : PySem.W.Frag) (F H : Hp) (σ : L2.St) (S : DS) (G : GH) : Prop where
  g : Gok K F H G
  s : Slots K F σ S
end DL
end
section
set_option Elab.async false
set_option linter.all false
set_option maxRecDepth 100000
set_option maxHeartbeats 4000000
namespace DL
open PySem PySem.Spec PyProof.Rows L2
abbrev DQ := D → GH → Prop
abbrev DTE := DS → GH → DQ → Prop
abbrev DTT := DS → GH → (Bool → GH → Prop) → Prop
abbrev DTA := DS → GH → (List D → GH → Prop) → Prop
structure DEnds where
  nx : DS → GH → Prop
  rt : DQ
  bk : DS → GH → Prop := fun _ _ => False
  ct : DS → GH → Prop := fun _ _ => False
abbrev DTS := DEnds → DS → GH → Prop
def KpE (K : PySem.W.Frag) (F H : Hp) (G : GH) (Q' : DQ) (Q : VK) : Prop := ∀ F' H' v d G', Go F H G F' H' G' → Gok K F' H' G' → Rep K F' v d → Q' d G' → Q v H'
def KpT (K : PySem.W.Frag) (F H : Hp) (G : GH) (Q' : Bool → GH → Prop) (Q : Bool → Hp → Prop) : Prop := ∀ F' H' b G', Go F H G F' H' G' → Gok K F' H' G' → Q' b G' → Q b H'
def KpA (K : PySem.W.Frag) (F H : Hp) (G : GH) (Q' : List D → GH → Prop) (Q : List V → Hp → Prop) : Prop := ∀ F' H' vs ds G', Go F H G F' H' G' → Gok K F' H' G' → Reps K F' vs ds → Q' ds G' → Q vs H'
def KpN (K : PySem.W.Frag) (F H : Hp) (G : GH) (Q' : DS → GH → Prop) (Q : L2.St → Hp → Prop) : Prop := ∀ F' H' σ S G', Go F H G F' H' G' → Ok K F' H' σ S G' → Q' S G' → Q σ H'
structure KpS (K : PySem.W.Frag) (F H : Hp) (G : GH) (D' : DEnds) (D0 : Ends) : Prop where
  nx : KpN K F H G D'.nx D0.nx
  rt : KpE K F H G D'.rt D0.rt
  bk : KpN K F H G D'.bk D0.bk
  ct : KpN K F H G D'.ct D0.ct
section
variable {K : PySem.W.Frag} {F H F1 H1 : Hp} {G G1 : GH}
theorem KpE.mono {Q' : DQ} {Q : VK} (e : Go F H G F1 H1 G1) (h : KpE K F H G Q' Q) : KpE K F1 H1 G1 Q' Q := fun F' H' v d G' a b c q => h F' H' v d G' (e.trans a) b c q
theorem KpT.mono {Q' : Bool → GH → Prop} {Q : Bool → Hp → Prop} (e : Go F H G F1 H1 G1) (h : KpT K F H G Q' Q) : KpT K F1 H1 G1 Q' Q := fun F' H' v G' a b q => h F' H' v G' (e.trans a) b q
theorem KpN.mono {Q' : DS → GH → Prop} {Q : L2.St → Hp → Prop} (e : Go F H G F1 H1 G1) (h : KpN K F H G Q' Q) : KpN K F1 H1 G1 Q' Q := fun F' H' σ S G' a b q => h F' H' σ S G' (e.trans a) b q
theorem KpS.mono {D' : DEnds} {D0 : Ends} (e : Go F H G F1 H1 G1) (h : KpS K F H G D' D0) : KpS K F1 H1 G1 D' D0 := ⟨h.nx.mono e, h.rt.mono e, h.bk.mono e, h.ct.mono e⟩
end
structure DE (X : Cx) (e : Expr) (t' : DTE) : Prop where
  ex : ∃ t, PE X e t ∧ ∀ F H σ S G, Ok X.K F H σ S G → ∀ Q', t' S G Q' → ∀ Q, KpE X.K F H G Q' Q → t σ H Q
structure DT (X : Cx) (e : Expr) (t' : DTT) : Prop where
  ex : ∃ t, PT X e t ∧ ∀ F H σ S G, Ok X.K F H σ S G → ∀ Q', t' S G Q' → ∀ Q, KpT X.K F H G Q' Q → t σ H Q
structure DW (X : Cx) (e : Expr) (t' : DTT) : Prop where
  ex : ∃ t, PW X e t ∧ ∀ F H σ S G, Ok X.K F H σ S G → ∀ Q', t' S G Q' → ∀ Q, KpT X.K F H G Q' Q → t σ H Q
structure DA (X : Cx) (es : List Expr) (t' : DTA) : Prop where
  ex : ∃ t, PA X es t ∧ ∀ F H σ S G, Ok X.K F H σ S G → ∀ Q', t' S G Q' → ∀ Q, KpA X.K F H G Q' Q → t σ H Q
structure DP (X : Cx) (st : Stmt) (t' : DTS) : Prop where
  ex : ∃ t, PS X st t ∧ ∀ F H σ S G, Ok X.K F H σ S G → ∀ D', t' D' S G → ∀ D0, KpS X.K F H G D' D0 → t D0 σ H
structure DPs (X : Cx) (st : List Stmt) (t' : DTS) : Prop where
  ex : ∃ t, PSs X st t ∧ ∀ F H σ S G, Ok X.K F H σ S G → ∀ D', t' D' S G → ∀ D0, KpS X.K F H G D' D0 → t D0 σ H
section
variable {X : Cx} {pos : Pos}
theorem Ok.go {K : PySem.W.Frag} {F H F' H' : Hp} {σ : L2.St} {S : DS} {G G' : GH} (o : Ok K F H σ S G) (e : Go F H G F' H' G') (g : Gok K F' H' G') : Ok K F' H' σ S G' := ⟨g, o.s.mono e.ex⟩
def dVar (i : Nat) : DTE := fun S G Q => match S[i]? with
  | some (some d) => Q d G
  | _ => False
def dC (d : D) : DTE := fun _ G Q => Q d G
theorem de_var (i : Nat) {x : Str} (hN : X.N[i]? = some x := by rfl) (hv : Vis X.env.scope x := by first | exact Or.inl rfl | exact Or.inr (Or.inl rfl) | exact Or.inr (Or.inr rfl)) (hd : (x == ("__debug__" : Str)) = false := by decide)
    (hcd : (x == ("__classdict__" : Str)) = false := by decide) : DE X (.Name x pos) (dVar i) := by
  refine ⟨_, pe_var hN hv hd hcd, fun F H σ S G o Q' h Q k => ?_⟩
  unfold dVar at h
  split at h
  · rename_i d e
    obtain ⟨v, e1, r⟩ := o.s.get e
    exact ⟨v, e1, k F H v d G Go.refl o.g r h⟩
  · exact h.elim
theorem dc_of {e : Expr} {v : V} {d : D} (h : PE X e (tC v)) (r : ∀ F, Rep X.K F v d) : DE X e (dC d) :=
  ⟨_, h, fun F H σ S G o Q' h Q k => k F H v d G Go.refl o.g (r F) h⟩
theorem de_int {i : Int} {j} : DE X (.Constant (.int i) j pos) (dC (.int i)) := dc_of pe_int fun _ => .int i
theorem de_bl {b : Bool} {j} : DE X (.Constant (.bool b) j pos) (dC (.bl b)) := dc_of pe_bl fun _ => .bl b
theorem de_non {j} : DE X (.Constant .none j pos) (dC .non) := dc_of pe_non fun _ => .non
theorem de_str {x : Str} {j} : DE X (.Constant (.str x) j pos) (dC (.str x)) := dc_of pe_str fun _ => .str x
theorem de_gint {x : Str} {i : Int} (hg : Gl X x) (hm : ∃ t, X.mg x = some (.int i t)) (hd : (x == ("__debug__" : Str)) = false := by decide) : DE X (.Name x pos) (dC (.int i)) := by
  obtain ⟨t, hm⟩ := hm
  exact dc_of (pe_glob (v := .int i) hg hm ⟨t, rfl⟩ hd) fun _ => .int i
theorem de_gstr {x z : Str} (hg : Gl X x) (hm : ∃ t, X.mg x = some (.str z t)) (hd : (x == ("__debug__" : Str)) = false := by decide) : DE X (.Name x pos) (dC (.str z)) := by
  obtain ⟨t, hm⟩ := hm
  exact dc_of (pe_glob (v := .str z) hg hm ⟨t, rfl⟩ hd) fun _ => .str z
def dNil : DTA := fun _ G Q => Q [] G
def dCons (ta : DTE) (tr : DTA) : DTA := fun S G Q => ta S G fun d G1 => tr S G1 fun ds G2 => Q (d :: ds) G2
theorem da_nil : DA X [] dNil := ⟨_, pa_nil, fun F H σ S G o Q' h Q k => k F H [] [] G Go.refl o.g .nil h⟩
theorem da_cons {e : Expr} {es : List Expr} {ta : DTE} {tr : DTA} (ha : DE X e ta) (hr : DA X es tr) (hs : starEach (e :: es) X.env = (false, eval e X.env) :: starEach es X.env := by rfl) : DA X (e :: es) (dCons ta tr) := by
  obtain ⟨t1, p1, r1⟩ := ha.ex
  obtain ⟨t2, p2, r2⟩ := hr.ex
  refine ⟨_, pa_cons p1 p2 hs, fun F H σ S G o Q' h Q k => ?_⟩
  refine r1 F H σ S G o _ h _ fun F1 H1 v d G1 e1 g1 q1 h1 => ?_
  refine r2 F1 H1 σ S G1 (o.go e1 g1) _ h1 _ fun F2 H2 vs ds G2 e2 g2 q2 h2 => ?_
  exact k F2 H2 _ _ G2 (e1.trans e2) g2 (.cons (q1.mono e2.ex) q2) h2
def dTup (ta : DTA) : DTE := fun S G Q => ta S G fun ds G1 => ds.length ≤ sizeLine ∧ Q (.tup ds) G1
theorem de_tup {es : List Expr} {ta : DTA} {x1} (h : DA X es ta) : DE X (.Tuple es x1 pos) (dTup ta) := by
  obtain ⟨t, p, r⟩ := h.ex
  refine ⟨_, pe_tup p, fun F H σ S G o Q' h Q k => ?_⟩
  refine r F H σ S G o _ h _ fun F1 H1 vs ds G1 e1 g1 q1 h1 => ?_
  refine ⟨q1.length ▸ h1.1, fun p hp => ?_⟩
  have gr : Gr F1 H1 (upd F1 p (.tup vs)) (upd H1 p (.tup vs)) := Gr.new g1.ex hp
  exact k _ _ _ _ G1 (e1.trans gr.go) (g1.grow gr) (.tup upd_same (q1.mono gr.ff)) h1.2
/-- a list as it is written: frozen -/
def dLst (ta : DTA) : DTE := fun S G Q => ta S G fun ds G1 => ds.length ≤ sizeLine ∧ Q (.lst ds) G1
theorem de_lst {es : List Expr} {ta : DTA} (h : DA X es ta) : DE X (.List es pos) (dLst ta) := by
  obtain ⟨t, p, r⟩ := h.ex
  refine ⟨_, pe_lst p, fun F H σ S G o Q' h Q k => ?_⟩
  refine r F H σ S G o _ h _ fun F1 H1 vs ds G1 e1 g1 q1 h1 => ?_
  refine ⟨q1.length ▸ h1.1, fun p hp => ?_⟩
  have gr : Gr F1 H1 (upd F1 p (.lst vs)) (upd H1 p (.lst vs)) := Gr.new g1.ex hp
  exact k _ _ _ _ G1 (e1.trans gr.go) (g1.grow gr) (.lst upd_same (q1.mono gr.ff)) h1.2
/-- .. that may change -/
def dLstM (ta : DTA) : DTE := fun S G Q => ta S G fun ds G1 => ds.length ≤ sizeLine ∧ ∀ p, G1 p = none → Q (.rf p) (gput G1 p (.lst ds))
theorem de_lstM {es : List Expr} {ta : DTA} (h : DA X es ta) : DE X (.List es pos) (dLstM ta) := by
  obtain ⟨t, p, r⟩ := h.ex
  refine ⟨_, pe_lst p, fun F H σ S G o Q' h Q k => ?_⟩
  refine r F H σ S G o _ h _ fun F1 H1 vs ds G1 e1 g1 q1 h1 => ?_
  refine ⟨q1.length ▸ h1.1, fun p hp => ?_⟩
  exact k _ _ _ _ _ (e1.trans (Go.alloc hp)) (g1.alloc (o := .lst ds) hp rfl ⟨vs, upd_same, q1⟩) (.rf p) (h1.2 p (g1.free hp))
def MO.cold : MO → Option D
  | .lst xs => some (.lst xs)
  | .dK kds => some (.dK kds)
  | .dT kds => some (.dT kds)
  | .ins C kds => some (.obj C kds)
  | .deck _ _ _ _ => none
  | .dcell => none
  | .lkT _ _ _ => none
  | .lkK _ _ _ => none
  | .dN _ _ => none
  | .lkN _ _ _ _ => none
  | .dU _ _ => none
  | .lkU _ _ _ _ => none
  | .tupU _ _ _ => none
theorem Gok.cold {K : PySem.W.Frag} {F H : Hp} {G : GH} (g : Gok K F H G) {p : Addr} {o : MO} {d : D} (h : G p = some o) (hc : o.cold = some d) : ∃ F', Go F H G F' H (gdel G p) ∧ Gok K F' H (gdel G p) ∧ Rep K F' (.ref p) d := by
  obtain ⟨fp, m⟩ := g.at_ p o h
  cases o with
  | lst xs =>
    obtain ⟨vs, e, r⟩ := m
    obtain ⟨g', ef⟩ := g.freeze h rfl e
    cases hc
    exact ⟨_, ef, g', .lst upd_same (r.mono ef.ex)⟩
  | dK kds =>
    obtain ⟨vs, e, l, r⟩ := m
    obtain ⟨g', ef⟩ := g.freeze h rfl e
    cases hc
    exact ⟨_, ef, g', .dK upd_same l (r.mono ef.ex)⟩
  | dT kds =>
    obtain ⟨vs, e, l, r⟩ := m
    obtain ⟨g', ef⟩ := g.freeze h rfl e
    cases hc
    exact ⟨_, ef, g', .dT upd_same l (r.mono ef.ex)⟩
  | ins C kds =>
    obtain ⟨dx, vs, e, l, r⟩ := m
    obtain ⟨g', ef⟩ := g.freeze h rfl e
    cases hc
    exact ⟨_, ef, g', .obj upd_same l (r.mono ef.ex)⟩
  | deck k1 k2 k3 n => cases hc
  | dcell => cases hc
  | lkT o kvs kds => cases hc
  | lkK o kvs kds => cases hc
  | dN w kds => cases hc
  | lkN w o xs kds => cases hc
  | dU w kds => cases hc
  | lkU w o xs kds => cases hc
  | tupU o vs ds => cases hc
/-- the value, frozen from here on -/
def dCold (ta : DTE) : DTE := fun S G Q => ta S G fun d G1 => match d with
  | .rf a => (match G1 a with
    | some o => (match o.cold with
      | some d => Q d (gdel G1 a)
      | none => False)
    | none => False)
  | d => Q d G1
theorem de_cold {e : Expr} {ta : DTE} (h : DE X e ta) : DE X e (dCold ta) := by
  obtain ⟨t, p, r⟩ := h.ex
  refine ⟨t, p, fun F H σ S G o Q' h Q k => ?_⟩
  refine r F H σ S G o _ h _ fun F1 H1 v d G1 e1 g1 q1 h1 => ?_
  dsimp only at h1
  split at h1
  · rename_i a
    split at h1
    · rename_i o eo
      split at h1
      · rename_i d ed
        obtain ⟨F2, e2, g2, r2⟩ := g1.cold eo ed
        cases q1
        exact k F2 H1 _ _ _ (e1.trans e2) g2 r2 h1
      · exact h1.elim
    · exact h1.elim
  · exact k F1 H1 v _ G1 e1 g1 q1 h1
end
end DL
end
section
set_option Elab.async false
set_option linter.all false
set_option maxRecDepth 100000
set_option maxHeartbeats 4000000
namespace DL
open PySem PySem.Spec PyProof.Rows L2
structure FnG (P : Program) (w : World) (K : PySem.W.Frag) (mg : Str → Option Value) (base : Heap) (CX : CXT) (k : Nat) (f : Addr) (fd : FuncData) (ps : List Str) (sp : Sp) : Prop where
  many : ∀ vs H Q E, sp vs H Q E → vs.length = ps.length
  goes : ∀ (A : Around) (outer : List Env) (s : Shared) (H : Hp) (args : Args) (us : List Value) (vs : List V) (Q : VK) (E : XK),
    A.guards = some [] → Room k A → Env0 P w K mg base A outer s H → BindsTo s fd args (ps.zip us) → Vals vs us → sp vs H Q E →
      codeAny (model P w) A (.call (.ref f) args) (CR CX outer P w H s Q E) s
theorem deeper_guards {A : Around} {env : Env} (h : A.guards = some []) : (A.deeper env).guards = some [] := by
  first
  | exact h
  | simpa [Around.deeper] using h
section
variable {P : Program} {w : World} {K : PySem.W.Frag} {mg : Str → Option Value} {base : Heap} {CX : CXT}
/-- a def keeps its promise: by its body -/
theorem fng_of {k : Nat} {f : Addr} {name qual : Str} {params : Arguments} {body : List Stmt} {scope : Scope} {dV kV doc pm cdv ct oc : Value} {an od : Option Addr} {osl : Array (Option Value)} {N ps : List Str} {sp : Sp}
    (lk : K.lookup f = some ⟨oc, od, .func (PySem.W.fnOf name qual params body scope dV kV doc pm an cdv ct), osl⟩)
    (hcd : PySem.W.codeIn K cdv qual = true) (S : FnScope N ps scope) (len : ∀ vs H Q E, sp vs H Q E → vs.length = ps.length)
    (hb : ∀ (A : Around) (outer : List Env) (s : Shared) (H : Hp) (vs : List V) (Q : VK) (E : XK), A.guards = some [] → Room k (A.deeper (envOfC qual scope s.heap.objs.size f cdv)) → sp vs H Q E →
      ∃ t, PSs (cxOf CX P w K mg base N qual scope f cdv A outer s H E) body t ∧ t ⟨fun _ H' => Q .non H', Q, fun _ _ => False, fun _ _ => False⟩ (start N vs) H) :
    FnG P w K mg base CX (k + 1) f (PySem.W.fnOf name qual params body scope dV kV doc pm an cdv ct) ps sp := by
  refine ⟨len, fun A outer s H args us vs Q E hg hr e0 bd r hsp => ?_⟩
  have many := len vs H Q E hsp
  have inn : K.In s.heap := e0.mod.kin.keeps fun a u z => (e0.bs a u z).1
  have nol : s.heap.NoLimit := e0.mod.nolimit.keeps fun a u z => (e0.bs a u z).1
  have kinds : ∀ y ∈ ps.zip us, scope.names.lookup y.1 = some .local ∨ (scope.names.lookup y.1 = some .cell ∧ ((cellsFrom (s.heap.objs.size + 1) scope.names []).lookup y.1).isSome = true) := by
    rintro ⟨n, v⟩ hy
    have hm := (List.of_mem_zip hy).1
    rcases S.par n hm with z | z
    · left; exact z
    · right; exact ⟨z, PySem.W.cellsFrom_some _ _ _ (Or.inl z)⟩
  refine codeAny_call_function hr.depth (inn _ _ lk) rfl S.co S.gen rfl (PySem.W.codeRec_of inn hcd) (bd _ _ _ _ ?_)
  refine wpAny_newFunctionEnv_cells S.kind kinds ?_
  rintro env rfl s1 x
  refine ⟨nol.keeps x.toInCall.keep, codeAny_func ?_⟩
  obtain ⟨t, ht, q⟩ := hb A outer s H vs Q E hg (hr.deeper _) hsp
  have J : Inv (cxOf CX P w K mg base N qual scope f cdv A outer s H E) [] (start N vs) H s1 := inv_start S hr.hd e0 many r x
  refine wpAny_mono (ht.run [] s1 (start N vs) H _ J q) ?_ (fun e s' z => z)
  intro fl s' z
  cases fl with
  | ret u =>
    obtain ⟨v, σ', H', J', rv, q'⟩ := z
    exact ⟨v, H', J'.os, J'.bare, J'.base, J'.hok, rv, q'⟩
  | next =>
    obtain ⟨σ', H', J', q'⟩ := z
    exact ⟨V.non, H', J'.os, J'.bare, J'.base, J'.hok, rfl, q'⟩
  | brk =>
    obtain ⟨_, _, _, q'⟩ := z
    exact q'.elim
  | cont =>
    obtain ⟨_, _, _, q'⟩ := z
    exact q'.elim
end
section
variable {X : Cx} {CX : CXT} {k : Nat} {f C : Addr} {fd : FuncData} {ps ks : List Str} {sp : Sp} {E : XK} {x m : Str} {p pos apos : Pos} {e o : Expr} {es : List Expr} {kws : List Keyword} {ta : TE} {t tk : TA}
  {dvs : List V} {ds : List Value} {g : List Value → List Value → List Value} {gV : List V → List V → List V}
theorem goes_fn {pins : List (Addr × Obj)} {σ : L2.St} {H : Hp} {s : Shared} {Q : VK} {us ws : List Value} {zs : List V} (F : FnG X.prog X.w X.K X.mg X.base CX k f fd ps sp) (hA : X.A.guards = some []) (hr : Room k X.A)
    (kw : List (Str × Value)) (bd : ∀ s : Shared, X.K.In s.heap → ws.length = ps.length → BindsTo s fd ⟨us, kw⟩ (ps.zip ws)) (hx : Passes CX X E)
    (I : Inv X pins σ H s) (r : Vals zs ws) (h : sp zs H Q E) : wpAny (model X.prog X.w) X.A (call (.ref f) us kw) (EP X pins σ Q) X.xe s := by
  have many : ws.length = ps.length := r.length ▸ F.many zs H Q E h
  refine wpAny_call (codeAny_mono (F.goes X.A X.stack s H ⟨us, kw⟩ ws zs Q E hA hr I.env0 (bd s I.kIn many) r h) ?_)
  intro res s' z
  match res, z with
  | .error er, z => exact hx pins σ H s er s' I z
  | .ok (.ret u), z => exact I.after z
  | .ok .next, z => exact z.elim
  | .ok .brk, z => exact z.elim
  | .ok .cont, z => exact z.elim
theorem pg_call (F : FnG X.prog X.w X.K X.mg X.base CX k f fd ps sp) (hA : X.A.guards = some []) (hr : Room k X.A) (hg : Gl X x) (hm : X.mg x = some (.ref f)) (hk : PySem.W.keepIn X.K (.ref f) = true) (hb : Binds X.K fd ps ds) (hd : Vals dvs ds) (hx : Passes CX X E)
    (ha : PA X (e :: es) t) (hdb : (x == ("__debug__" : Str)) = false) (he : starEach (e :: es) X.env = (false, eval e X.env) :: starEach es X.env) (hpl : (backTo pos (starEach es X.env)).any (·.1) = false) :
    PE X (.Call (.Name x p) (e :: es) [] pos) (tCall sp dvs E t) := by
  constructor
  intro pins s σ H Q I h
  apply wpAny_Call_Name_kw
  refine ld_glob I hg hm ?_ hdb
  refine PySem.W.callWith_K (h₀ := X.base) I.ok.mod.kin hk (thn (ha.run pos pins s σ H _ I h) ?_) he hpl
  rintro us s1 ⟨vs, H1, I1, r, q⟩
  exact ⟨I1.kIn, goes_fn F hA hr [] (fun s2 i l => hb s2 us i l) hx I1 (r.append hd) q⟩
theorem under_guards {A : Around} {us : List Value} {kw : List (Str × Value)} (h : A.guards = some []) : (A.under (.builtin "type.__call__" ⟨.ref C :: us, kw⟩)).guards = some [] := by
  simp [Around.under, Code.guards, Code.isGuard, guardIds, pushGuards, h]
theorem goes_make {pins : List (Addr × Obj)} {σ : L2.St} {H : Hp} {s : Shared} {Q : VK} {us : List Value} {vs : List V} (M : Mk X.K C f) (F : FnG X.prog X.w X.K X.mg X.base CX k f fd ps sp) (hA : X.A.guards = some []) (hr : Room (k + 1) X.A) (hb : Binds X.K fd ps ds) (hd : Vals dvs ds)
    (hx : Passes CX X E) (I : Inv X pins σ H s) (r : Vals vs us)
    (h : ∀ y dy, H y = none → H dy = none → dy ≠ y → sp (.ref y :: (vs ++ dvs)) (upd (upd H dy (.own y)) y (.ins C dy [])) (fun v H2 => v = .non ∧ Q (.ref y) H2) E) :
    wpAny (model X.prog X.w) X.A (call (.ref C) us) (EP X pins σ Q) X.xe s := by
  have nw : H (s.heap.objs.size + 1) = none := I.hok.fresh (Nat.le_succ _)
  have nd : H s.heap.objs.size = none := I.hok.fresh (Nat.le_refl _)
  have q0 := h (s.heap.objs.size + 1) s.heap.objs.size nw nd (Nat.ne_of_lt (Nat.lt_succ_self _))
  have J := Inv.made (C := C) I
  have r2 : Vals (V.ref (s.heap.objs.size + 1) :: (vs ++ dvs)) (Value.ref (s.heap.objs.size + 1) :: (us ++ ds)) := Paired.cons rfl (r.append hd)
  have lg : (Value.ref (s.heap.objs.size + 1) :: us ++ ds).length = ps.length := by
    have z := r2.length
    rw [F.many _ _ _ _ q0] at z
    exact z.symm
  refine wpAny_call (make_map (f := f) I.kIn M.makes M.init (beq_iff_eq.mp M.fn) (codeAny_mono (F.goes _ X.stack _ _ ⟨Value.ref (s.heap.objs.size + 1) :: us, []⟩ (Value.ref (s.heap.objs.size + 1) :: (us ++ ds)) _ _ E (under_guards hA) (hr.make C us [])
    (J.env0.make C us []) (hb _ (Value.ref (s.heap.objs.size + 1) :: us) J.kIn lg) r2 q0) ?_))
  intro res s' z
  match res, z with
  | .error er, z => exact hx pins σ _ _ er s' J z
  | .ok (.ret u), z =>
    obtain ⟨v, H', J', rv, ev, q3⟩ := J.after z
    subst ev
    exact ⟨rv, ⟨V.ref (s.heap.objs.size + 1), H', J', rfl, q3⟩⟩
  | .ok .next, z => exact z.elim
  | .ok .brk, z => exact z.elim
  | .ok .cont, z => exact z.elim
end
end DL
end
section
set_option Elab.async false
set_option linter.all false
set_option maxRecDepth 100000
set_option maxHeartbeats 4000000
namespace DL
open PySem PySem.Spec PyProof.Rows L2
section
variable {X : Cx} {pos : Pos}
abbrev DR2 := D → D → GH → DQ → Prop
abbrev DR1 := D → GH → DQ → Prop
structure OpD (X : Cx) (f : Value → Value → Sem Value) (r' : DR2) : Prop where
  ex : ∃ r, OpR X f r ∧ ∀ F H G x y dx dy, Gok X.K F H G → Rep X.K F x dx → Rep X.K F y dy → ∀ Q', r' dx dy G Q' → ∀ Q, KpE X.K F H G Q' Q → r x y H Q
structure UnD (X : Cx) (f : Value → Sem Value) (r' : DR1) : Prop where
  ex : ∃ r, UnR X f r ∧ ∀ F H G x dx, Gok X.K F H G → Rep X.K F x dx → ∀ Q', r' dx G Q' → ∀ Q, KpE X.K F H G Q' Q → r x H Q
structure CallD (X : Cx) (f : Value) (r' : List D → GH → DQ → Prop) : Prop where
  ex : ∃ r, CallR X f r ∧ ∀ F H G vs ds, Gok X.K F H G → Reps X.K F vs ds → ∀ Q', r' ds G Q' → ∀ Q, KpE X.K F H G Q' Q → r vs H Q
def dOp (r : DR2) (ta tb : DTE) : DTE := fun S G Q => ta S G fun x G1 => tb S G1 fun y G2 => r x y G2 Q
def dUn (r : DR1) (ta : DTE) : DTE := fun S G Q => ta S G fun x G1 => r x G1 Q
theorem dop_of {a b : Expr} {ta tb : DTE} {r : R2} {r' : DR2} (hr : ∀ F H G x y dx dy, Gok X.K F H G → Rep X.K F x dx → Rep X.K F y dy → ∀ Q', r' dx dy G Q' → ∀ Q, KpE X.K F H G Q' Q → r x y H Q)
    {t1 t2 : TE} (r1 : ∀ F H σ S G, Ok X.K F H σ S G → ∀ Q', ta S G Q' → ∀ Q, KpE X.K F H G Q' Q → t1 σ H Q) (r2 : ∀ F H σ S G, Ok X.K F H σ S G → ∀ Q', tb S G Q' → ∀ Q, KpE X.K F H G Q' Q → t2 σ H Q) :
    ∀ F H σ S G, Ok X.K F H σ S G → ∀ Q', dOp r' ta tb S G Q' → ∀ Q, KpE X.K F H G Q' Q → tOp r t1 t2 σ H Q := fun F H σ S G o Q' h Q k => by
  refine r1 F H σ S G o _ h _ fun F1 H1 v d G1 e1 g1 q1 h1 => ?_
  refine r2 F1 H1 σ S G1 (o.go e1 g1) _ h1 _ fun F2 H2 u d2 G2 e2 g2 q2 h2 => ?_
  exact hr F2 H2 G2 v u d d2 g2 (q1.mono e2.ex) q2 Q' h2 Q (k.mono (e1.trans e2))
theorem de_op {op : Operator} {r' : DR2} {a b : Expr} {ta tb : DTE} (ho : OpD X (binaryOp op) r') (ha : DE X a ta) (hb : DE X b tb) : DE X (.BinOp a op b pos) (dOp r' ta tb) := by
  obtain ⟨r, p, hr⟩ := ho.ex
  obtain ⟨t1, p1, r1⟩ := ha.ex
  obtain ⟨t2, p2, r2⟩ := hb.ex
  exact ⟨_, pe_op p p1 p2, dop_of (a := a) (b := b) hr r1 r2⟩
theorem de_cmp {op : CmpOp} {r' : DR2} {a b : Expr} {ta tb : DTE} (ho : OpD X (compareOp op) r') (ha : DE X a ta) (hb : DE X b tb) (hm : behindInMarks op b = false) : DE X (.Compare a [op] [b] pos) (dOp r' ta tb) := by
  obtain ⟨r, p, hr⟩ := ho.ex
  obtain ⟨t1, p1, r1⟩ := ha.ex
  obtain ⟨t2, p2, r2⟩ := hb.ex
  exact ⟨_, pe_cmpR p p1 p2 hm, dop_of (a := a) (b := b) hr r1 r2⟩
theorem de_un {op : UnaryOp} {r' : DR1} {a : Expr} {ta : DTE} (ho : UnD X (unaryOp op) r') (ha : DE X a ta) : DE X (.UnaryOp op a pos) (dUn r' ta) := by
  obtain ⟨r, p, hr⟩ := ho.ex
  obtain ⟨t1, p1, r1⟩ := ha.ex
  refine ⟨_, pe_un p p1, fun F H σ S G o Q' h Q k => ?_⟩
  refine r1 F H σ S G o _ h _ fun F1 H1 v d G1 e1 g1 q1 h1 => ?_
  exact hr F1 H1 G1 v d g1 q1 Q' h1 Q (k.mono e1)
/-- a value that is a bool, as a test -/
def dTest (ta : DTE) : DTT := fun S G Q => ta S G fun d G1 => match d with
  | .bl b => Q b G1
  | _ => False
theorem dt_cmp {op : CmpOp} {r' : DR2} {a b : Expr} {ta tb : DTE} (ho : OpD X (compareOp op) r') (ha : DE X a ta) (hb : DE X b tb) (hm : behindInMarks op b = false) : DT X (.Compare a [op] [b] pos) (dTest (dOp r' ta tb)) := by
  obtain ⟨r, p, hr⟩ := ho.ex
  obtain ⟨t1, p1, r1⟩ := ha.ex
  obtain ⟨t2, p2, r2⟩ := hb.ex
  refine ⟨_, pt_cmpR p p1 p2 hm, fun F H σ S G o Q' h Q k => ?_⟩
  refine dop_of (a := a) (b := b) hr r1 r2 F H σ S G o _ h _ fun F1 H1 v d G1 e1 g1 q1 h1 => ?_
  dsimp only at h1
  split at h1
  · cases q1
    exact ⟨_, rfl, k F1 H1 _ G1 e1 g1 h1⟩
  · exact h1.elim
theorem dt_val {e : Expr} {ta : DTE} (h : DE X e ta) (he : ∀ whole, isTrue e X.env whole = (do let v ← whole; standAt e.pos; holding [v] (truthy v)) := by intro _; rfl) : DT X e (dTest ta) := by
  obtain ⟨t1, p1, r1⟩ := h.ex
  refine ⟨_, pt_val p1 he, fun F H σ S G o Q' h Q k => ?_⟩
  refine r1 F H σ S G o _ h _ fun F1 H1 v d G1 e1 g1 q1 h1 => ?_
  dsimp only at h1
  split at h1
  · cases q1
    exact ⟨_, rfl, k F1 H1 _ G1 e1 g1 h1⟩
  · exact h1.elim
def dNot (t : DTT) : DTT := fun S G Q => t S G fun b G1 => Q (!b) G1
theorem dt_not {a : Expr} {t' : DTT} (h : DT X a t') : DT X (.UnaryOp .Not a pos) (dNot t') := by
  obtain ⟨t1, p1, r1⟩ := h.ex
  exact ⟨_, pt_not p1, fun F H σ S G o Q' h Q k => r1 F H σ S G o _ h _ fun F1 H1 b G1 e1 g1 h1 => k F1 H1 _ G1 e1 g1 h1⟩
theorem DW.dt {e : Expr} {t' : DTT} (h : DW X e t') : DT X e t' := by
  obtain ⟨t1, p1, r1⟩ := h.ex
  exact ⟨_, p1.pt, r1⟩
def dAnd (t u : DTT) : DTT := fun S G Q => t S G fun b G1 => if b = true then u S G1 Q else Q false G1
def dOr (t u : DTT) : DTT := fun S G Q => t S G fun b G1 => if b = true then Q true G1 else u S G1 Q
theorem dw_and1 {a : Expr} {t' : DTT} (h : DT X a t') : DW X (.BoolOp .And [a] pos) t' := by
  obtain ⟨t1, p1, r1⟩ := h.ex
  exact ⟨_, pw_and1 p1, r1⟩
theorem dw_or1 {a : Expr} {t' : DTT} (h : DT X a t') : DW X (.BoolOp .Or [a] pos) t' := by
  obtain ⟨t1, p1, r1⟩ := h.ex
  exact ⟨_, pw_or1 p1, r1⟩
theorem dw_and {a b : Expr} {rest : List Expr} {t' u' : DTT} (h : DT X a t') (h2 : DW X (.BoolOp .And (b :: rest) pos) u') : DW X (.BoolOp .And (a :: b :: rest) pos) (dAnd t' u') := by
  obtain ⟨t1, p1, r1⟩ := h.ex
  obtain ⟨t2, p2, r2⟩ := h2.ex
  refine ⟨_, pw_and p1 p2, fun F H σ S G o Q' h Q k => ?_⟩
  refine r1 F H σ S G o _ h _ fun F1 H1 b G1 e1 g1 h1 => ?_
  cases b with
  | true =>
    rw [if_pos rfl] at h1 ⊢
    exact r2 F1 H1 σ S G1 (o.go e1 g1) _ h1 _ (k.mono e1)
  | false =>
    rw [if_neg Bool.false_ne_true] at h1 ⊢
    exact k F1 H1 _ G1 e1 g1 h1
theorem dw_or {a b : Expr} {rest : List Expr} {t' u' : DTT} (h : DT X a t') (h2 : DW X (.BoolOp .Or (b :: rest) pos) u') : DW X (.BoolOp .Or (a :: b :: rest) pos) (dOr t' u') := by
  obtain ⟨t1, p1, r1⟩ := h.ex
  obtain ⟨t2, p2, r2⟩ := h2.ex
  refine ⟨_, pw_or p1 p2, fun F H σ S G o Q' h Q k => ?_⟩
  refine r1 F H σ S G o _ h _ fun F1 H1 b G1 e1 g1 h1 => ?_
  cases b with
  | true =>
    rw [if_pos rfl] at h1 ⊢
    exact k F1 H1 _ G1 e1 g1 h1
  | false =>
    rw [if_neg Bool.false_ne_true] at h1 ⊢
    exact r2 F1 H1 σ S G1 (o.go e1 g1) _ h1 _ (k.mono e1)
def dIf (t : DTT) (ta tb : DTE) : DTE := fun S G Q => t S G fun b G1 => if b = true then ta S G1 Q else tb S G1 Q
theorem de_if {c a b : Expr} {t' : DTT} {ta tb : DTE} (hc : DT X c t') (ha : DE X a ta) (hb : DE X b tb) : DE X (.IfExp c a b pos) (dIf t' ta tb) := by
  obtain ⟨t0, p0, r0⟩ := hc.ex
  obtain ⟨t1, p1, r1⟩ := ha.ex
  obtain ⟨t2, p2, r2⟩ := hb.ex
  refine ⟨_, pe_ifExp p0 p1 p2, fun F H σ S G o Q' h Q k => ?_⟩
  refine r0 F H σ S G o _ h _ fun F1 H1 b G1 e1 g1 h1 => ?_
  cases b with
  | true =>
    rw [if_pos rfl] at h1 ⊢
    exact r1 F1 H1 σ S G1 (o.go e1 g1) _ h1 _ (k.mono e1)
  | false =>
    rw [if_neg Bool.false_ne_true] at h1 ⊢
    exact r2 F1 H1 σ S G1 (o.go e1 g1) _ h1 _ (k.mono e1)
/-- and, or, not as values: bools -/
def dAndV (ta tb : DTE) : DTE := fun S G Q => ta S G fun d G1 => match d with
  | .bl b => if b = true then tb S G1 Q else Q (.bl false) G1
  | _ => False
def dOrV (ta tb : DTE) : DTE := fun S G Q => ta S G fun d G1 => match d with
  | .bl b => if b = true then Q (.bl true) G1 else tb S G1 Q
  | _ => False
def dNotV (ta : DTE) : DTE := fun S G Q => ta S G fun d G1 => match d with
  | .bl b => Q (.bl (!b)) G1
  | _ => False
theorem de_one {op} {a : Expr} {ta : DTE} (h : DE X a ta) : DE X (.BoolOp op [a] pos) ta := by
  obtain ⟨t1, p1, r1⟩ := h.ex
  exact ⟨_, pe_one p1, r1⟩
theorem de_and {a b : Expr} {rest : List Expr} {ta tb : DTE} (ha : DE X a ta) (hb : DE X (.BoolOp .And (b :: rest) pos) tb) : DE X (.BoolOp .And (a :: b :: rest) pos) (dAndV ta tb) := by
  obtain ⟨t1, p1, r1⟩ := ha.ex
  obtain ⟨t2, p2, r2⟩ := hb.ex
  refine ⟨_, pe_and p1 p2, fun F H σ S G o Q' h Q k => ?_⟩
  refine r1 F H σ S G o _ h _ fun F1 H1 v d G1 e1 g1 q1 h1 => ?_
  dsimp only at h1
  split at h1
  · rename_i b0
    cases q1
    refine ⟨b0, rfl, ?_⟩
    cases b0 with
    | true =>
      rw [if_pos rfl] at h1 ⊢
      exact r2 F1 H1 σ S G1 (o.go e1 g1) _ h1 _ (k.mono e1)
    | false =>
      rw [if_neg Bool.false_ne_true] at h1 ⊢
      exact k F1 H1 _ _ G1 e1 g1 (.bl _) h1
  · exact h1.elim
theorem de_not {a : Expr} {ta : DTE} (ha : DE X a ta) : DE X (.UnaryOp .Not a pos) (dNotV ta) := by
  obtain ⟨t1, p1, r1⟩ := ha.ex
  refine ⟨_, pe_not p1, fun F H σ S G o Q' h Q k => ?_⟩
  refine r1 F H σ S G o _ h _ fun F1 H1 v d G1 e1 g1 q1 h1 => ?_
  dsimp only at h1
  split at h1
  · rename_i b0
    cases q1
    exact ⟨b0, rfl, k F1 H1 _ _ G1 e1 g1 (.bl _) h1⟩
  · exact h1.elim
abbrev DTG := D → DS → GH → (DS → GH → Prop) → Prop
abbrev DTGs := List D → DS → GH → (DS → GH → Prop) → Prop
structure DG (X : Cx) (tg : Expr) (g' : DTG) : Prop where
  ex : ∃ g, PG X tg g ∧ ∀ F H σ S G v d, Ok X.K F H σ S G → Rep X.K F v d → ∀ Q', g' d S G Q' → ∀ Q, KpN X.K F H G Q' Q → g v σ H Q
structure DGs (X : Cx) (tgs : List Expr) (g' : DTGs) : Prop where
  ex : ∃ g, PGs X tgs g ∧ ∀ F H σ S G vs ds, Ok X.K F H σ S G → Reps X.K F vs ds → ∀ Q', g' ds S G Q' → ∀ Q, KpN X.K F H G Q' Q → g vs σ H Q
def dgName (i : Nat) : DTG := fun d S G Q => Q (S.set i (some d)) G
theorem dg_name (i : Nat) {x : Str} (hN : X.N.Nodup) (hi : X.N[i]? = some x := by rfl) (hx : Loc X.env.scope x := by first | exact Or.inl rfl | exact Or.inr rfl) (hf : X.fn x = true ∨ X.env.scope.names.lookup x = some .local := by first | exact .inl rfl | exact .inr rfl | assumption) : DG X (.Name x pos) (dgName i) :=
  ⟨_, pg_name (i := i) hN hi hx hf, fun F H σ S G v d o r Q' h Q k => k F H _ _ G Go.refl ⟨o.g, o.s.set r i⟩ h⟩
def dgNil : DTGs := fun ds S G Q => match ds with
  | [] => Q S G
  | _ => False
def dgCons (t : DTG) (u : DTGs) : DTGs := fun ds S G Q => match ds with
  | d :: r => t d S G fun S1 G1 => u r S1 G1 Q
  | _ => False
theorem dgs_nil : DGs X [] dgNil := ⟨_, pgs_nil, fun F H σ S G vs ds o r Q' h Q k => by
  cases r with
  | nil => exact ⟨rfl, k F H σ S G Go.refl o h⟩
  | cons a b => exact h.elim⟩
theorem dgs_cons {e : Expr} {es : List Expr} {t : DTG} {u : DTGs} (h1 : DG X e t) (h2 : DGs X es u) (hs : (assignEach (e :: es) X.env).map (·.2) = assign e X.env :: (assignEach es X.env).map (·.2) := by rfl) : DGs X (e :: es) (dgCons t u) := by
  obtain ⟨t1, p1, r1⟩ := h1.ex
  obtain ⟨t2, p2, r2⟩ := h2.ex
  refine ⟨_, pgs_cons p1 p2 hs, fun F H σ S G vs ds o r Q' h Q k => ?_⟩
  cases r with
  | nil => exact h.elim
  | cons a b =>
    refine ⟨_, _, rfl, r1 F H σ S G _ _ o a _ h _ fun F1 H1 σ1 S1 G1 e1 o1 h1 => ?_⟩
    exact r2 F1 H1 σ1 S1 G1 _ _ o1 (b.mono e1.ex) _ h1 _ (k.mono e1)
def dgTup (n : Nat) (u : DTGs) : DTG := fun d S G Q => match d with
  | .tup ds => ds.length = n ∧ u ds S G Q
  | .kup ds => ds.length = n ∧ u ds S G Q
  | _ => False
theorem dg_tup {es : List Expr} {k : Nat} {u : DTGs} {n : Nat} (hc : X.calm = true) (h : DGs X es u) (hn : (assignEach es X.env).length = n := by rfl) (hst : (assignEach es X.env).findIdx? (·.1) = none := by rfl) : DG X (.Tuple es k pos) (dgTup n u) := by
  obtain ⟨t1, p1, r1⟩ := h.ex
  refine ⟨_, pg_tup hc p1 hn hst, fun F H σ S G v d o r Q' h Q k => ?_⟩
  cases r with
  | tup hs hr =>
    refine ⟨_, _, rfl, .inl (.inl (o.g.ex _ _ hs)), by rw [hr.length]; exact h.1, ?_⟩
    exact r1 F H σ S G _ _ o hr _ h.2 _ k
  | kup hs hr =>
    refine ⟨_, _, rfl, o.g.ex.sqt hs, by rw [hr.length]; exact h.1, ?_⟩
    exact r1 F H σ S G _ _ o hr _ h.2 _ k
  | _ => exact h.elim
def dNext : DTS := fun D' S G => D'.nx S G
def dSeq (t u : DTS) : DTS := fun D' S G => t { D' with nx := u D' } S G
def dAsg (te : DTE) (g : DTG) : DTS := fun D' S G => te S G fun d G1 => g d S G1 D'.nx
def dDrop (te : DTE) : DTS := fun D' S G => te S G fun _ G1 => D'.nx S G1
def dRet (te : DTE) : DTS := fun D' S G => te S G D'.rt
def dRetN : DTS := fun D' _ G => D'.rt .non G
def dIfS (c : DTT) (t u : DTS) : DTS := fun D' S G => c S G fun b G1 => if b = true then t D' S G1 else u D' S G1
def dNever : DTS := fun _ _ _ => False
def dBreak : DTS := fun D' S G => D'.bk S G
def dCont : DTS := fun D' S G => D'.ct S G
theorem dps_nil : DPs X [] dNext := ⟨_, pss_nil, fun F H σ S G o D' h D0 k => k.nx F H σ S G Go.refl o h⟩
theorem dps_cons {st : Stmt} {rest : List Stmt} {t u : DTS} (h1 : DP X st t) (h2 : DPs X rest u) : DPs X (st :: rest) (dSeq t u) := by
  obtain ⟨t1, p1, r1⟩ := h1.ex
  obtain ⟨t2, p2, r2⟩ := h2.ex
  refine ⟨_, pss_cons p1 p2, fun F H σ S G o D' h D0 k => ?_⟩
  exact r1 F H σ S G o _ h _ ⟨fun F1 H1 σ1 S1 G1 e1 o1 h1 => r2 F1 H1 σ1 S1 G1 o1 _ h1 _ (k.mono e1), k.rt, k.bk, k.ct⟩
theorem dps_one {st : Stmt} {t : DTS} (h1 : DP X st t) : DPs X [st] t := by
  obtain ⟨t1, p1, r1⟩ := h1.ex
  exact ⟨_, pss_one p1, r1⟩
theorem dp_asg {tg e : Expr} {te : DTE} {g : DTG} (he : DE X e te) (hg : DG X tg g) (hs : swapsWithSole [tg] e pos.line X.env = pure false := by rfl) (hw : swappedStores [tg] e X.env = pure none := by rfl)
    (h1 : (assignEach [tg] X.env).map (·.2) = [assign tg X.env] := by rfl) : DP X (.Assign [tg] e pos) (dAsg te g) := by
  obtain ⟨t1, p1, r1⟩ := he.ex
  obtain ⟨t2, p2, r2⟩ := hg.ex
  refine ⟨_, ps_asg p1 p2 hs hw h1, fun F H σ S G o D' h D0 k => ?_⟩
  refine r1 F H σ S G o _ h _ fun F1 H1 v d G1 e1 g1 q1 h1 => ?_
  exact r2 F1 H1 σ S G1 v d (o.go e1 g1) q1 _ h1 _ (k.nx.mono e1)
theorem dp_expr {e : Expr} {te : DTE} (he : DE X e te) (hs : swapsWith e none pos.line X.env = pure false := by rfl) : DP X (.Expr e pos) (dDrop te) := by
  obtain ⟨t1, p1, r1⟩ := he.ex
  refine ⟨_, ps_expr p1 hs, fun F H σ S G o D' h D0 k => ?_⟩
  exact r1 F H σ S G o _ h _ fun F1 H1 v d G1 e1 g1 q1 h1 => k.nx F1 H1 σ S G1 e1 (o.go e1 g1) h1
theorem dp_ret {e : Expr} {te : DTE} (he : DE X e te) : DP X (.Return (some e) pos) (dRet te) := by
  obtain ⟨t1, p1, r1⟩ := he.ex
  exact ⟨_, ps_ret p1, fun F H σ S G o D' h D0 k => r1 F H σ S G o _ h _ k.rt⟩
theorem dp_if {c : Expr} {a b : List Stmt} {tc : DTT} {t u : DTS} (hc : DT X c tc) (ha : DPs X a t) (hb : DPs X b u) : DP X (.If c a b pos) (dIfS tc t u) := by
  obtain ⟨t0, p0, r0⟩ := hc.ex
  obtain ⟨t1, p1, r1⟩ := ha.ex
  obtain ⟨t2, p2, r2⟩ := hb.ex
  refine ⟨_, ps_if p0 p1 p2, fun F H σ S G o D' h D0 k => ?_⟩
  refine r0 F H σ S G o _ h _ fun F1 H1 b G1 e1 g1 h1 => ?_
  cases b with
  | true =>
    rw [if_pos rfl] at h1 ⊢
    exact r1 F1 H1 σ S G1 (o.go e1 g1) _ h1 _ (k.mono e1)
  | false =>
    rw [if_neg Bool.false_ne_true] at h1 ⊢
    exact r2 F1 H1 σ S G1 (o.go e1 g1) _ h1 _ (k.mono e1)
theorem dp_never {st : Stmt} : DP X st dNever := ⟨_, ps_never, fun F H σ S G o D' h D0 k => h.elim⟩
def dWhile (c : DTT) (tb : DTS) : DTS := fun D' S G => ∃ W : Nat → DS → GH → Prop, (∃ m, W m S G) ∧ ∀ m S G, W m S G →
  c S G fun b G1 => if b = true then tb { D' with nx := fun S' G' => ∃ m', m' < m ∧ W m' S' G', ct := fun S' G' => ∃ m', m' < m ∧ W m' S' G', bk := D'.nx } S G1 else D'.nx S G1
structure ItOk (K : PySem.W.Frag) (F : Hp) (J : It) (ds : List D) (gd : GH → Prop) : Prop where
  go : ∀ F1 H1 G1 (i : Nat) d, Ex F F1 → Gok K F1 H1 G1 → gd G1 → ds[i]? = some d → J.go i H1 ∧ ∀ x H2, J.yld i H1 x H2 → ∃ F2, Go F1 H1 G1 F2 H2 G1 ∧ Gok K F2 H2 G1 ∧ Rep K F2 x d
  stop : ∀ F1 H1 G1, Ex F F1 → Gok K F1 H1 G1 → gd G1 → J.stop ds.length H1
abbrev DTI := DS → GH → (List D → (GH → Prop) → GH → Prop) → Prop
structure DI (X : Cx) (tg iter : Expr) (wi' : DTI) : Prop where
  ex : ∃ wi, PI X tg iter wi ∧ ∀ F H σ S G, Ok X.K F H σ S G → ∀ R', wi' S G R' → ∀ R : It → Hp → Prop, (∀ F1 H1 G1 J ds gd, Go F H G F1 H1 G1 → Gok X.K F1 H1 G1 → ItOk X.K F1 J ds gd → R' ds gd G1 → R J H1) → wi σ H R
def dFor (wi : DTI) (g : DTG) (tb : DTS) : DTS := fun D' S G => wi S G fun ds gd G1 => ∃ W : Nat → DS → GH → Prop, W 0 S G1 ∧ (∀ i S G, W i S G → gd G) ∧
  (∀ i S G d, W i S G → ds[i]? = some d → g d S G fun S2 G2 => tb { D' with nx := W (i + 1), ct := W (i + 1), bk := D'.nx } S2 G2) ∧ (∀ S G, W ds.length S G → D'.nx S G)
theorem dp_for {tg iter : Expr} {body : List Stmt} {wi : DTI} {g : DTG} {tb : DTS} (hp : PassesOwn (model X.prog X.w) X.A X.env X.xe) (hc : X.calm = true) (hi : DI X tg iter wi) (hg : DG X tg g) (hb : DPs X body tb)
    (hs : ∀ x, foldedSetIterable iter X.env x = pure x := by intro _; rfl) : DP X (.For tg iter body [] pos) (dFor wi g tb) := by
  obtain ⟨t0, p0, r0⟩ := hi.ex
  obtain ⟨t1, p1, r1⟩ := hg.ex
  obtain ⟨t2, p2, r2⟩ := hb.ex
  refine ⟨_, ps_for hp hc p0 p1 p2 hs, fun F H σ S G o D' h D0 k => ?_⟩
  refine r0 F H σ S G o _ h _ fun F1 H1 G1 J ds gd e1 g1 it h1 => ?_
  obtain ⟨W, w0, wg, turn, done⟩ := h1
  refine ⟨fun i m σ2 H2 => i + m = ds.length ∧ ∃ F2 S2 G2, Go F1 H1 G1 F2 H2 G2 ∧ Ok X.K F2 H2 σ2 S2 G2 ∧ W i S2 G2, ⟨ds.length, Nat.zero_add _, F1, S, G1, Go.refl, o.go e1 g1, w0⟩, ?_⟩
  rintro i m σ2 H2 ⟨him, F2, S2, G2, e2, o2, w2⟩
  have gg := wg i S2 G2 w2
  cases m with
  | zero =>
    have hi : i = ds.length := him
    refine .inl ⟨hi ▸ it.stop F2 H2 G2 e2.ex o2.g gg, k.nx F2 H2 σ2 S2 G2 (e1.trans e2) o2 (done S2 G2 (hi ▸ w2))⟩
  | succ m =>
    have hlt : i < ds.length := by omega
    have hd : ds[i]? = some ds[i] := List.getElem?_eq_getElem hlt
    obtain ⟨ig, iy⟩ := it.go F2 H2 G2 i _ e2.ex o2.g gg hd
    refine .inr ⟨ig, fun σ3 H3 => ∃ F3 S3 G3, Go F1 H1 G1 F3 H3 G3 ∧ Ok X.K F3 H3 σ3 S3 G3 ∧ W (i + 1) S3 G3, fun σ3 H3 z => ⟨m, Nat.lt_succ_self m, by omega, z⟩, fun x H3 hy => ?_⟩
    obtain ⟨F3, e3, g3, q3⟩ := iy x H3 hy
    refine r1 F3 H3 σ2 S2 G2 x _ (o2.go e3 g3) q3 _ (turn i S2 G2 _ w2 hd) _ fun F4 H4 σ4 S4 G4 e4 o4 h4 => ?_
    have kk := k.mono (((e1.trans e2).trans e3).trans e4)
    have nn : KpN X.K F4 H4 G4 (W (i + 1)) (fun σ3 H3 => ∃ F3 S3 G3, Go F1 H1 G1 F3 H3 G3 ∧ Ok X.K F3 H3 σ3 S3 G3 ∧ W (i + 1) S3 G3) := fun F5 H5 σ5 S5 G5 e5 o5 w5 => ⟨F5, S5, G5, ((e2.trans e3).trans e4).trans e5, o5, w5⟩
    exact r2 F4 H4 σ4 S4 G4 o4 _ h4 _ ⟨nn, kk.rt, kk.nx, nn⟩
abbrev SpD := List D → GH → DQ → Prop
def SpOf (K : PySem.W.Frag) (sp : SpD) : Sp := fun vs H Q _ => ∃ F G ds Q', Gok K F H G ∧ Reps K F vs ds ∧ sp ds G Q' ∧ KpE K F H G Q' Q
def dCall (sp : SpD) (ta : DTA) : DTE := fun S G Q => ta S G fun ds G1 => sp ds G1 Q
theorem de_call {k : Nat} {f : Addr} {fd : FuncData} {ps : List Str} {sp : SpD} {x : Str} {p : Pos} {e : Expr} {es : List Expr} {ta : DTA} (Fn : FnG X.prog X.w X.K X.mg X.base CX0 k f fd ps (SpOf X.K sp)) (hA : X.A.guards = some []) (hr : Room k X.A) (hg : Gl X x) (hm : X.mg x = some (.ref f)) (hk : PySem.W.keepIn X.K (.ref f) = true) (hb : Binds X.K fd ps [])
    (ha : DA X (e :: es) ta) (hdb : (x == ("__debug__" : Str)) = false := by decide) (he : starEach (e :: es) X.env = (false, eval e X.env) :: starEach es X.env := by rfl) (hpl : (backTo pos (starEach es X.env)).any (·.1) = false := by rfl) :
    DE X (.Call (.Name x p) (e :: es) [] pos) (dCall sp ta) := by
  obtain ⟨t1, p1, r1⟩ := ha.ex
  refine ⟨_, pg_call Fn hA hr hg hm hk hb .nil pass0 p1 hdb he hpl, fun F H σ S G o Q' h Q k => ?_⟩
  refine r1 F H σ S G o _ h _ fun F1 H1 vs ds G1 e1 g1 q1 h1 => ?_
  rw [List.append_nil]
  exact ⟨F1, G1, ds, Q', g1, q1, h1, k.mono e1⟩
end
/-- what is wanted at a def's end: its own things may be forgotten -/
def fin (Q : DQ) : DEnds := { nx := fun _ G' => ∃ G0, Sub G0 G' ∧ Q .non G0, rt := fun d G' => ∃ G0, Sub G0 G' ∧ Q d G0 }
theorem fn_mk {P : Program} {w : World} {K : PySem.W.Frag} {mg : Str → Option Value} {base : Heap} {x qual : Str} {st : Stmt} {f : Addr} {fd : FuncData} {N ps : List Str} {k : Nat} {sp : SpD} (Fu : Fun K x qual st f fd) (sc : FnScope N ps (defScope st))
    (len : ∀ ds G Q, sp ds G Q → ds.length = ps.length)
    (hb : ∀ (cdv : Value) (A : Around) (outer : List Env) (s : Shared) (H : Hp) (E : XK), A.guards = some [] → Room k (A.deeper (envOfC qual (defScope st) s.heap.objs.size f cdv)) →
      ∃ t', DPs (cxOf CX0 P w K mg base N qual (defScope st) f cdv A outer s H E).nox (defBody st) t' ∧ ∀ ds G Q, sp ds G Q → t' (fin Q) (dstart N ds) G) : FnG P w K mg base CX0 (k + 1) f fd ps (SpOf K sp) := by
  obtain ⟨oc, od, kV, doc, pm, an, cdv, ct, osl, rfl, lk, hcd⟩ := Fu.ex
  refine fng_of lk hcd sc (fun vs H Q E h => ?_) (fun A outer s H vs Q E hg hr h => ?_)
  · obtain ⟨F, G, ds, Q', g, r, h, _⟩ := h
    rw [r.length]
    exact len ds G Q' h
  · obtain ⟨F, G, ds, Q', g, r, h, kk⟩ := h
    obtain ⟨t', d, rd⟩ := hb cdv A outer s H E hg hr
    obtain ⟨t, p, rf⟩ := d.ex
    refine ⟨t, p.nox, rf F H _ _ G ⟨g, r.start⟩ _ (rd ds G Q' h) _ ⟨fun F1 H1 σ1 S1 G1 e1 o1 h1 => ?_, fun F1 H1 v d G1 e1 g1 r1 h1 => ?_, fun _ _ _ _ _ _ _ z => z.elim, fun _ _ _ _ _ _ _ z => z.elim⟩⟩
    · obtain ⟨G0, sb, h1⟩ := h1
      exact kk F1 H1 _ _ G0 (e1.sub sb) (o1.g.sub sb) .non h1
    · obtain ⟨G0, sb, h1⟩ := h1
      exact kk F1 H1 v d G0 (e1.sub sb) (g1.sub sb) r1 h1
end DL
end
section
set_option Elab.async false
set_option linter.all false
set_option maxRecDepth 100000
set_option maxHeartbeats 4000000
namespace DL
open PySem PySem.Spec PyProof.Rows L2
mutual
def D.py : D → PyData
  | .non => .none
  | .bl b => .bool b
  | .int i => .int i
  | .str x => .str x
  | .tup xs | .kup xs => .tuple (D.pys xs)
  | .lst xs => .list (D.pys xs)
  | _ => .none
def D.pys : List D → List PyData
  | [] => []
  | x :: xs => D.py x :: D.pys xs
end
mutual
def D.pl : D → Bool
  | .non | .bl _ | .int _ | .str _ => true
  | .tup xs | .lst xs | .kup xs => D.pls xs
  | _ => false
def D.pls : List D → Bool
  | [] => true
  | x :: xs => D.pl x && D.pls xs
end
mutual
theorem D.py_plain : ∀ d : D, d.pl = true → d.py.plain = true
  | .non, _ => rfl
  | .bl _, _ => rfl
  | .int _, _ => rfl
  | .str _, _ => rfl
  | .tup xs, h => D.pys_plain xs h
  | .lst xs, h => D.pys_plain xs h
  | .kup xs, h => D.pys_plain xs h
  | .ty _, h => by cases h
  | .dK _, h => by cases h
  | .dT _, h => by cases h
  | .obj _ _, h => by cases h
  | .rf _, h => by cases h
  | .scr _, h => by cases h
theorem D.pys_plain : ∀ xs : List D, D.pls xs = true → PyData.plainAll (D.pys xs) = true
  | [], _ => rfl
  | x :: xs, h => by
    have h' : x.pl = true ∧ D.pls xs = true := by simpa [D.pls] using h
    simp only [D.pys, PyData.plainAll, D.py_plain x h'.1, D.pys_plain xs h'.2, Bool.and_self]
end
mutual
theorem Rep.dp {K : PySem.W.Frag} {F : Hp} : ∀ (d : D) {v : V}, Rep K F v d → d.pl = true → Dp K F v d.py
  | .non, _, .non, _ => .non
  | .bl _, _, .bl b, _ => .bl b
  | .int _, _, .int i, _ => .int i
  | .str _, _, .str x, _ => .str x
  | .tup xs, _, .tup h r, p => .tup (.inl (.inl h)) (Reps.dp xs r p)
  | .lst xs, _, .lst h r, p => .lst (.inl (.inl h)) (Reps.dp xs r p)
  | .kup xs, _, .kup h r, p => .tup h (Reps.dp xs r p)
theorem Reps.dp {K : PySem.W.Frag} {F : Hp} : ∀ (ds : List D) {vs : List V}, Reps K F vs ds → D.pls ds = true → DpAll K F vs (D.pys ds)
  | [], _, .nil, _ => .nil
  | d :: ds, _, .cons h t, p => by
    have p' : d.pl = true ∧ D.pls ds = true := by simpa [D.pls] using p
    exact .cons (Rep.dp d h p'.1) (Reps.dp ds t p'.2)
end
mutual
theorem Dp.mono' {K : PySem.W.Frag} {F F' : Hp} (e : Ex F F') : ∀ (d : PyData) {v : V}, Dp K F v d → Dp K F' v d
  | .none, _, .non => .non
  | .bool _, _, .bl b => .bl b
  | .int _, _, .int i => .int i
  | .str _, _, .str x => .str x
  | .list ds, _, .lst h r => .lst (e.sql h) (DpAll.mono' e ds r)
  | .tuple ds, _, .tup h r => .tup (e.sqt h) (DpAll.mono' e ds r)
theorem DpAll.mono' {K : PySem.W.Frag} {F F' : Hp} (e : Ex F F') : ∀ (ds : List PyData) {vs : List V}, DpAll K F vs ds → DpAll K F' vs ds
  | [], _, .nil => .nil
  | d :: ds, _, .cons h t => .cons (Dp.mono' e d h) (DpAll.mono' e ds t)
end
/-- what stands there now: a list that changes, as it is -/
def D.cur (G : GH) : D → D
  | .rf a => (match G a with
    | some (.lst xs) => .lst xs
    | some (.dK kds) => .dK kds
    | some (.dT kds) => .dT kds
    | some (.ins C kds) => .obj C kds
    | _ => .rf a)
  | d => d
theorem D.cur_rf {G : GH} {a : Addr} {xs : List D} (h : G a = some (.lst xs)) : D.cur G (.rf a) = .lst xs := by simp [D.cur, h]
theorem cur_dp {K : PySem.W.Frag} {F H : Hp} {G : GH} {v : V} {d : D} (g : Gok K F H G) (r : Rep K F v d) (p : (d.cur G).pl = true) : Dp K H v (d.cur G).py := by
  cases d with
  | rf a =>
    cases r
    unfold D.cur at p ⊢
    cases q : G a with
    | none => simp only [q] at p; cases p
    | some o =>
      cases o with
      | lst xs =>
        simp only [q] at p ⊢
        obtain ⟨vs, e, rs⟩ := (g.at_ a _ q).2
        exact .lst (.inl (.inl e)) (DpAll.mono' g.ex _ (Reps.dp xs rs p))
      | _ => simp only [q] at p; cases p
  | _ => exact Dp.mono' g.ex _ (Rep.dp _ r p)
theorem cur_list {K : PySem.W.Frag} {F H : Hp} {G : GH} {v : V} {d : D} {ds : List D} (g : Gok K F H G) (r : Rep K F v d) (p : d.cur G = .lst ds) : ∃ a vs, v = .ref a ∧ H a = some (.lst vs) ∧ Reps K F vs ds := by
  cases d with
  | rf a =>
    cases r
    unfold D.cur at p
    cases q : G a with
    | none => simp only [q] at p; cases p
    | some o =>
      cases o with
      | lst xs =>
        simp only [q] at p; cases p
        obtain ⟨vs, e, rs⟩ := (g.at_ a _ q).2
        exact ⟨a, vs, rfl, e, rs⟩
      | dK kds => simp only [q] at p; cases p
      | dT kds => simp only [q] at p; cases p
      | ins C kds => simp only [q] at p; cases p
      | deck k1 k2 k3 n => simp only [q] at p; cases p
      | dcell => simp only [q] at p; cases p
      | lkT o kvs kds => simp only [q] at p; cases p
      | lkK o kvs kds => simp only [q] at p; cases p
      | dN w kds => simp only [q] at p; cases p
      | lkN w o xs kds => simp only [q] at p; cases p
      | dU w kds => simp only [q] at p; cases p
      | lkU w o xs kds => simp only [q] at p; cases p
      | tupU o vs ds => simp only [q] at p; cases p
  | lst xs =>
    cases p
    cases r with
    | lst h rs => exact ⟨_, _, rfl, g.ex _ _ h, rs⟩
  | _ => cases p
def okE (x y : D) : Bool := x.pl && y.pl && decide (min x.py.depth y.py.depth ≤ 60)
def D.eqv (x y : D) : Bool := PyData.eqv x.py y.py
section
variable {X : Cx} {pos : Pos}
def rCmpP (K : PySem.W.Frag) (C : PyData → PyData → Bool) (f : PyData → PyData → Bool) : R2 := fun x y H Q => ∃ d e, Dp K H x d ∧ Dp K H y e ∧ min d.depth e.depth ≤ 60 ∧ C d e = true ∧ Q (.bl (f d e)) H
theorem cmpP_of {op : CmpOp} {C f : PyData → PyData → Bool} (hu : X.A.units + 100 < cLine)
    (rule : ∀ {prog : Program} {w : World} {A : Around} {E : Value → Shared → Prop} {s : Shared} {a b : Value} {da db : PyData} {as bs : List Addr} {Q : Value → Shared → Prop}, Reads s.heap a da as → Reads s.heap b db bs → C da db = true → A.units + min da.depth db.depth < cLine → Q (.bool (f da db)) s → wpAny (model prog w) A (compareOp op a b) Q E s) :
    OpR X (compareOp op) (rCmpP X.K C f) := by
  intro pins s σ H x y v u Q I rx ry h
  obtain ⟨d, e, hd, he, hm, hc, q⟩ := h
  obtain ⟨as, r1⟩ := Dp.reads I d x v hd rx
  obtain ⟨bs, r2⟩ := Dp.reads I e y u he ry
  exact rule r1 r2 hc (by omega) ⟨.bl _, H, I, rfl, q⟩
theorem opd_cmp {op : CmpOp} {C f : PyData → PyData → Bool} {C' f' : D → D → Bool} (ho : OpR X (compareOp op) (rCmpP X.K C f)) (hc : ∀ x y : D, C' x y = true → x.pl = true ∧ y.pl = true ∧ min x.py.depth y.py.depth ≤ 60 ∧ C x.py y.py = true) (hf : ∀ x y : D, f' x y = f x.py y.py) :
    OpD X (compareOp op) (fun x y G Q => C' (x.cur G) (y.cur G) = true ∧ Q (.bl (f' (x.cur G) (y.cur G))) G) := by
  refine ⟨_, ho, fun F H G x y dx dy g rx ry Q' h Q k => ?_⟩
  obtain ⟨c, q⟩ := h
  obtain ⟨p1, p2, m, c2⟩ := hc _ _ c
  refine ⟨_, _, cur_dp g rx p1, cur_dp g ry p2, m, c2, ?_⟩
  rw [hf] at q
  exact k F H _ _ G Go.refl g (.bl _) q
theorem okE_of {x y : D} (h : okE x y = true) : x.pl = true ∧ y.pl = true ∧ min x.py.depth y.py.depth ≤ 60 := by
  unfold okE at h
  simp only [Bool.and_eq_true, decide_eq_true_eq] at h
  exact ⟨h.1.1, h.1.2, h.2⟩
theorem od_eq (hu : X.A.units + 100 < cLine) : OpD X (compareOp .Eq) (fun x y G Q => okE (x.cur G) (y.cur G) = true ∧ Q (.bl (D.eqv (x.cur G) (y.cur G))) G) :=
  opd_cmp (C := fun d e => d.plain && e.plain) (f := PyData.eqv) (cmpP_of hu fun r1 r2 c hu' q => by
    simp only [Bool.and_eq_true] at c
    exact SeqAt.eq_plain r1 r2 c.1 c.2 hu' q) (fun x y h => by
    obtain ⟨h1, h2, h3⟩ := okE_of h
    exact ⟨h1, h2, h3, by simp [D.py_plain _ h1, D.py_plain _ h2]⟩) fun _ _ => rfl
theorem od_ne (hu : X.A.units + 100 < cLine) : OpD X (compareOp .NotEq) (fun x y G Q => okE (x.cur G) (y.cur G) = true ∧ Q (.bl (!D.eqv (x.cur G) (y.cur G))) G) :=
  opd_cmp (C := fun d e => d.plain && e.plain) (f := fun d e => !PyData.eqv d e) (f' := fun x y => !D.eqv x y) (cmpP_of hu fun r1 r2 c hu' q => by
    simp only [Bool.and_eq_true] at c
    exact SeqAt.ne_plain r1 r2 c.1 c.2 hu' q) (fun x y h => by
    obtain ⟨h1, h2, h3⟩ := okE_of h
    exact ⟨h1, h2, h3, by simp [D.py_plain _ h1, D.py_plain _ h2]⟩) fun _ _ => rfl
def okL (x y : D) : Bool := okE x y && PySem.W.alike x.py y.py && (match x with | .non => false | _ => true)
def D.lt (x y : D) : Bool := PySem.W.dataLt x.py y.py
def notNone : PyData → Bool
  | .none => false
  | _ => true
theorem notNone_ne {d : PyData} (h : notNone d = true) : d ≠ .none := fun e => by rw [e] at h; cases h
theorem okL_of {x y : D} (h : okL x y = true) : x.pl = true ∧ y.pl = true ∧ min x.py.depth y.py.depth ≤ 60 ∧ (PySem.W.alike x.py y.py && notNone x.py) = true := by
  unfold okL at h
  simp only [Bool.and_eq_true] at h
  obtain ⟨⟨h1, h2⟩, h3⟩ := h
  obtain ⟨p1, p2, p3⟩ := okE_of h1
  refine ⟨p1, p2, p3, ?_⟩
  rw [h2, Bool.true_and]
  cases x <;> first | rfl | (simp [D.pl] at p1; done) | (simp at h3; done)
theorem od_lt (hu : X.A.units + 100 < cLine) : OpD X (compareOp .Lt) (fun x y G Q => okL (x.cur G) (y.cur G) = true ∧ Q (.bl (D.lt (x.cur G) (y.cur G))) G) :=
  opd_cmp (C := fun d e => PySem.W.alike d e && notNone d) (f := PySem.W.dataLt) (cmpP_of hu fun r1 r2 c hu' q => by
    simp only [Bool.and_eq_true] at c
    exact PySem.W.lt_data r1 r2 c.1 (notNone_ne c.2) hu' q) (fun x y h => okL_of h) fun _ _ => rfl
theorem od_gt (hu : X.A.units + 100 < cLine) : OpD X (compareOp .Gt) (fun x y G Q => okL (x.cur G) (y.cur G) = true ∧ Q (.bl (D.lt (y.cur G) (x.cur G))) G) :=
  opd_cmp (C := fun d e => PySem.W.alike d e && notNone d) (f := fun d e => PySem.W.dataLt e d) (f' := fun x y => D.lt y x) (cmpP_of hu fun r1 r2 c hu' q => by
    simp only [Bool.and_eq_true] at c
    exact PySem.W.gt_data r1 r2 c.1 (notNone_ne c.2) hu' q) (fun x y h => okL_of h) fun _ _ => rfl
theorem od_le (hu : X.A.units + 100 < cLine) : OpD X (compareOp .LtE) (fun x y G Q => okL (x.cur G) (y.cur G) = true ∧ Q (.bl (!D.lt (y.cur G) (x.cur G))) G) :=
  opd_cmp (C := fun d e => PySem.W.alike d e && notNone d) (f := fun d e => !PySem.W.dataLt e d) (f' := fun x y => !D.lt y x) (cmpP_of hu fun r1 r2 c hu' q => by
    simp only [Bool.and_eq_true] at c
    exact PySem.W.le_data r1 r2 c.1 (notNone_ne c.2) hu' q) (fun x y h => okL_of h) fun _ _ => rfl
theorem od_ge (hu : X.A.units + 100 < cLine) : OpD X (compareOp .GtE) (fun x y G Q => okL (x.cur G) (y.cur G) = true ∧ Q (.bl (!D.lt (x.cur G) (y.cur G))) G) :=
  opd_cmp (C := fun d e => PySem.W.alike d e && notNone d) (f := fun d e => !PySem.W.dataLt d e) (f' := fun x y => !D.lt x y) (cmpP_of hu fun r1 r2 c hu' q => by
    simp only [Bool.and_eq_true] at c
    exact PySem.W.ge_data r1 r2 c.1 (notNone_ne c.2) hu' q) (fun x y h => okL_of h) fun _ _ => rfl
end
end DL
end
section
set_option Elab.async false
set_option linter.all false
set_option maxRecDepth 100000
set_option maxHeartbeats 4000000
namespace DL
open PySem PySem.Spec PyProof.Rows L2
def valD {κ : Type} [DecidableEq κ] (kds : List (κ × D)) (k : κ) : Option D := (kds.find? fun kv => decide (kv.1 = k)).map (·.2)
def putD {κ : Type} [DecidableEq κ] (kds : List (κ × D)) (k : κ) (d : D) : List (κ × D) :=
  if (kds.any fun kv => decide (kv.1 = k)) = true then kds.map (fun kv => if kv.1 = k then (kv.1, d) else kv) else kds ++ [(k, d)]
structure KR {κ : Type} (K : PySem.W.Frag) (F : Hp) (kvs : List (κ × V)) (kds : List (κ × D)) : Prop where
  ks : kvs.map (·.1) = kds.map (·.1)
  vs : Reps K F (kvs.map (·.2)) (kds.map (·.2))
section
variable {κ : Type} [DecidableEq κ] {K : PySem.W.Frag} {F : Hp}
theorem KR.nil : KR K F ([] : List (κ × V)) [] := ⟨rfl, .nil⟩
theorem KR.cons {k : κ} {v : V} {d : D} {kvs : List (κ × V)} {kds : List (κ × D)} (h : Rep K F v d) (t : KR K F kvs kds) : KR K F ((k, v) :: kvs) ((k, d) :: kds) := ⟨by simp [t.ks], .cons h t.vs⟩
theorem KR.uncons {kvs : List (κ × V)} {k : κ} {d : D} {kds : List (κ × D)} (h : KR K F kvs ((k, d) :: kds)) : ∃ v r, kvs = (k, v) :: r ∧ Rep K F v d ∧ KR K F r kds := by
  obtain ⟨h1, h2⟩ := h
  cases kvs with
  | nil => simp at h1
  | cons p r =>
    obtain ⟨k', v⟩ := p
    simp only [List.map_cons, List.cons.injEq] at h1
    obtain ⟨rfl, h1⟩ := h1
    cases h2 with
    | cons a b => exact ⟨v, r, rfl, a, h1, b⟩
theorem KR.unnil {kvs : List (κ × V)} (h : KR K F kvs []) : kvs = [] := by
  have := h.ks
  simpa using this
theorem KR.mono {F' : Hp} (e : Ex F F') {kvs : List (κ × V)} {kds : List (κ × D)} (h : KR K F kvs kds) : KR K F' kvs kds := ⟨h.ks, h.vs.mono e⟩
theorem KR.append {a b : List (κ × V)} {c d : List (κ × D)} (h : KR K F a c) (h' : KR K F b d) : KR K F (a ++ b) (c ++ d) := ⟨by simp [h.ks, h'.ks], by simpa using h.vs.append h'.vs⟩
theorem KR.len {kvs : List (κ × V)} {kds : List (κ × D)} (h : KR K F kvs kds) : kvs.length = kds.length := by
  have := congrArg List.length h.ks
  simpa using this
theorem KR.val {k : κ} : ∀ {kds : List (κ × D)} {kvs : List (κ × V)}, KR K F kvs kds → (∀ d, valD kds k = some d → ∃ v, valV kvs k = some v ∧ Rep K F v d) ∧ (valD kds k = none → valV kvs k = none)
  | [], kvs, h => by
    obtain rfl := h.unnil
    exact ⟨fun d z => (by cases z), fun _ => rfl⟩
  | (k', d') :: kds, kvs, h => by
    obtain ⟨v, r, rfl, rv, t⟩ := h.uncons
    by_cases e : k' = k
    · have e1 : valD ((k', d') :: kds) k = some d' := by simp [valD, e]
      have e2 : valV ((k', v) :: r) k = some v := valV_pos e
      rw [e1, e2]
      exact ⟨fun d z => (by cases z; exact ⟨v, rfl, rv⟩), fun z => (by cases z)⟩
    · have e1 : valD ((k', d') :: kds) k = valD kds k := by simp [valD, List.find?_cons, e]
      have e2 : valV ((k', v) :: r) k = valV r k := valV_neg e
      rw [e1, e2]
      exact KR.val t
theorem KR.any {k : κ} {kds : List (κ × D)} {kvs : List (κ × V)} (h : KR K F kvs kds) : (kvs.any fun kv => decide (kv.1 = k)) = kds.any fun kv => decide (kv.1 = k) := by
  have e1 : (kvs.any fun kv => decide (kv.1 = k)) = (kvs.map (·.1)).any fun x => decide (x = k) := by simp [List.any_map, Function.comp_def]
  have e2 : (kds.any fun kv => decide (kv.1 = k)) = (kds.map (·.1)).any fun x => decide (x = k) := by simp [List.any_map, Function.comp_def]
  rw [e1, e2, h.ks]
theorem KR.mapd {k : κ} {v : V} {d : D} (r : Rep K F v d) : ∀ {kds : List (κ × D)} {kvs : List (κ × V)}, KR K F kvs kds → KR K F (kvs.map fun kv => if kv.1 = k then (kv.1, v) else kv) (kds.map fun kv => if kv.1 = k then (kv.1, d) else kv)
  | [], kvs, h => by
    obtain rfl := h.unnil
    exact .nil
  | (k', d') :: kds, kvs, h => by
    obtain ⟨v', r', rfl, rv, t⟩ := h.uncons
    simp only [List.map_cons]
    by_cases e : k' = k
    · rw [if_pos e, if_pos e]; exact .cons r (KR.mapd r t)
    · rw [if_neg e, if_neg e]; exact .cons rv (KR.mapd r t)
theorem KR.put {k : κ} {v : V} {d : D} {kds : List (κ × D)} {kvs : List (κ × V)} (h : KR K F kvs kds) (r : Rep K F v d) : KR K F (putK kvs k v) (putD kds k d) := by
  unfold putK putD
  rw [h.any]
  by_cases e : (kds.any fun kv => decide (kv.1 = k)) = true
  · rw [if_pos e, if_pos e]; exact KR.mapd r h
  · rw [if_neg e, if_neg e]; exact h.append (.cons r .nil)
end
def D.key : D → Option Key
  | .int i => some (.inl i)
  | .str x => some (.inr x)
  | _ => none
def D.keys : List D → Option (List Key)
  | [] => some []
  | d :: ds => match d.key, D.keys ds with
    | some k, some ks => some (k :: ks)
    | _, _ => none
theorem Rep.key {K : PySem.W.Frag} {F : Hp} {v : V} {d : D} {k : Key} (r : Rep K F v d) (h : d.key = some k) : v = kV k := by
  cases r <;> first | (cases h; rfl) | cases h
theorem Reps.keys {K : PySem.W.Frag} {F : Hp} : ∀ {vs : List V} {ds : List D} {ks : List Key}, Reps K F vs ds → D.keys ds = some ks → vs = ks.map kV
  | _, _, _, .nil, h => by cases h; rfl
  | _, _, ks, .cons (v := v) (d := d) (ds := ds) a b, h => by
    unfold D.keys at h
    cases e1 : d.key with
    | none => simp [e1] at h
    | some k =>
      cases e2 : D.keys ds with
      | none => simp [e1, e2] at h
      | some r =>
        simp only [e1, e2] at h
        cases h
        rw [a.key e1, b.keys e2]
        rfl
/-- the value at a key, of a dict as it stands: none: no such lookup; some none: not there -/
def D.look (x y : D) : Option (Option D) := match x with
  | .dK kds => y.key.map (valD kds)
  | .dT kds => (match y with
    | .tup ds => (D.keys ds).map (valD kds)
    | _ => none)
  | _ => none
theorem cur_dK {K : PySem.W.Frag} {F H : Hp} {G : GH} {v : V} {d : D} {kds : List (Key × D)} (g : Gok K F H G) (r : Rep K F v d) (p : d.cur G = .dK kds) : ∃ a kvs, v = .ref a ∧ H a = some (.dK kvs) ∧ KR K F kvs kds := by
  cases d with
  | rf a =>
    cases r
    unfold D.cur at p
    cases q : G a with
    | none => simp only [q] at p; cases p
    | some o =>
      cases o with
      | dK kd =>
        simp only [q] at p; cases p
        obtain ⟨kvs, e, h1, h2⟩ := (g.at_ a _ q).2
        exact ⟨a, kvs, rfl, e, h1, h2⟩
      | lst xs => simp only [q] at p; cases p
      | dT kd => simp only [q] at p; cases p
      | ins C kd => simp only [q] at p; cases p
      | deck k1 k2 k3 n => simp only [q] at p; cases p
      | dcell => simp only [q] at p; cases p
      | lkT o kvs kds => simp only [q] at p; cases p
      | lkK o kvs kds => simp only [q] at p; cases p
      | dN w kds => simp only [q] at p; cases p
      | lkN w o xs kds => simp only [q] at p; cases p
      | dU w kds => simp only [q] at p; cases p
      | lkU w o xs kds => simp only [q] at p; cases p
      | tupU o vs ds => simp only [q] at p; cases p
  | dK kd =>
    cases p
    cases r with
    | dK h h1 h2 => exact ⟨_, _, rfl, g.ex _ _ h, h1, h2⟩
  | _ => cases p
theorem cur_dT {K : PySem.W.Frag} {F H : Hp} {G : GH} {v : V} {d : D} {kds : List (List Key × D)} (g : Gok K F H G) (r : Rep K F v d) (p : d.cur G = .dT kds) : ∃ a kvs, v = .ref a ∧ H a = some (.dT kvs) ∧ KR K F kvs kds := by
  cases d with
  | rf a =>
    cases r
    unfold D.cur at p
    cases q : G a with
    | none => simp only [q] at p; cases p
    | some o =>
      cases o with
      | dT kd =>
        simp only [q] at p; cases p
        obtain ⟨kvs, e, h1, h2⟩ := (g.at_ a _ q).2
        exact ⟨a, kvs, rfl, e, h1, h2⟩
      | lst xs => simp only [q] at p; cases p
      | dK kd => simp only [q] at p; cases p
      | ins C kd => simp only [q] at p; cases p
      | deck k1 k2 k3 n => simp only [q] at p; cases p
      | dcell => simp only [q] at p; cases p
      | lkT o kvs kds => simp only [q] at p; cases p
      | lkK o kvs kds => simp only [q] at p; cases p
      | dN w kds => simp only [q] at p; cases p
      | lkN w o xs kds => simp only [q] at p; cases p
      | dU w kds => simp only [q] at p; cases p
      | lkU w o xs kds => simp only [q] at p; cases p
      | tupU o vs ds => simp only [q] at p; cases p
  | dT kd =>
    cases p
    cases r with
    | dT h h1 h2 => exact ⟨_, _, rfl, g.ex _ _ h, h1, h2⟩
  | _ => cases p
theorem look_get {K : PySem.W.Frag} {F H : Hp} {G : GH} {v u : V} {x y : D} {o : Option D} (g : Gok K F H G) (r : Rep K F v x) (ry : Rep K F u y) (h : (x.cur G).look y = some o) :
    ∃ a o', v = .ref a ∧ DGet H a u o' ∧ (∀ d, o = some d → ∃ z, o' = some z ∧ Rep K F z d) ∧ (o = none → o' = none) := by
  unfold D.look at h
  cases e : x.cur G with
  | dK kds =>
    simp only [e] at h
    obtain ⟨a, kvs, rfl, ha, kr⟩ := cur_dK g r e
    cases ek : y.key with
    | none => simp [ek] at h
    | some k =>
      simp only [ek, Option.map_some, Option.some.injEq] at h
      rw [ry.key ek]
      refine ⟨a, _, rfl, DGet.k (k := k) ha, fun d z => ?_, fun z => ?_⟩
      · obtain ⟨v, h1, h2⟩ := kr.val.1 d (h.trans z)
        exact ⟨v, h1, h2⟩
      · exact kr.val.2 (h.trans z)
  | dT kds =>
    simp only [e] at h
    obtain ⟨a, kvs, rfl, ha, kr⟩ := cur_dT g r e
    cases ry with
    | tup hb rs =>
      simp only at h
      rename_i ds
      cases ek : D.keys ds with
      | none => simp [ek] at h
      | some k =>
        simp only [ek, Option.map_some, Option.some.injEq] at h
        have eb := rs.keys ek
        subst eb
        refine ⟨a, _, rfl, DGet.t (k := k) ha (g.ex _ _ hb), fun d z => ?_, fun z => ?_⟩
        · obtain ⟨v, h1, h2⟩ := kr.val.1 d (h.trans z)
          exact ⟨v, h1, h2⟩
        · exact kr.val.2 (h.trans z)
    | _ => simp at h
  | _ => simp [e] at h
section
variable {X : Cx} {pos : Pos}
def rAddD : DR2 := fun x y G Q => match x.cur G, y.cur G with
  | .int i, .int j => Q (.int (i + j)) G
  | .str a, .str b => a.length + b.length ≤ sizeLine ∧ Q (.str (a ++ b)) G
  | .tup a, .tup b => a.length + b.length ≤ sizeLine ∧ Q (.tup (a ++ b)) G
  | .lst a, .lst b => a.length + b.length ≤ sizeLine ∧ Q (.lst (a ++ b)) G
  | _, _ => False
theorem cur_int {K : PySem.W.Frag} {F : Hp} {G : GH} {v : V} {d : D} {i : Int} (r : Rep K F v d) (h : d.cur G = .int i) : v = .int i := by
  cases d with
  | rf a =>
    unfold D.cur at h
    cases q : G a with
    | none => simp only [q] at h; cases h
    | some o => cases o <;> (simp only [q] at h; cases h)
  | int j => cases h; cases r; rfl
  | _ => cases h
theorem cur_str {K : PySem.W.Frag} {F : Hp} {G : GH} {v : V} {d : D} {i : Str} (r : Rep K F v d) (h : d.cur G = .str i) : v = .str i := by
  cases d with
  | rf a =>
    unfold D.cur at h
    cases q : G a with
    | none => simp only [q] at h; cases h
    | some o => cases o <;> (simp only [q] at h; cases h)
  | str j => cases h; cases r; rfl
  | _ => cases h
theorem cur_tup {K : PySem.W.Frag} {F : Hp} {G : GH} {v : V} {d : D} {ds : List D} (r : Rep K F v d) (h : d.cur G = .tup ds) : ∃ a vs, v = .ref a ∧ F a = some (.tup vs) ∧ Reps K F vs ds := by
  cases d with
  | rf a =>
    unfold D.cur at h
    cases q : G a with
    | none => simp only [q] at h; cases h
    | some o => cases o <;> (simp only [q] at h; cases h)
  | tup j =>
    cases h
    cases r with
    | tup ha rs => exact ⟨_, _, rfl, ha, rs⟩
  | _ => cases h
theorem cur_kup {K : PySem.W.Frag} {F : Hp} {G : GH} {v : V} {d : D} {ds : List D} (r : Rep K F v d) (h : d.cur G = .kup ds) : ∃ a vs, v = .ref a ∧ SqT K F a vs ∧ Reps K F vs ds := by
  cases d with
  | rf a =>
    unfold D.cur at h
    cases q : G a with
    | none => simp only [q] at h; cases h
    | some o => cases o <;> (simp only [q] at h; cases h)
  | kup j =>
    cases h
    cases r with
    | kup ha rs => exact ⟨_, _, rfl, ha, rs⟩
  | _ => cases h
theorem od_add : OpD X (binaryOp .Add) rAddD := by
  refine ⟨_, op_add.or (op_add_str.or (op_catA.or op_cat)), fun F H G x y dx dy g rx ry Q' h Q k => ?_⟩
  unfold rAddD at h
  split at h
  · rename_i i j e1 e2
    exact .inl ⟨i, j, cur_int rx e1, cur_int ry e2, k F H _ _ G Go.refl g (.int _) h⟩
  · rename_i a b e1 e2
    exact .inr (.inl ⟨a, b, cur_str rx e1, cur_str ry e2, h.1, k F H _ _ G Go.refl g (.str _) h.2⟩)
  · rename_i a b e1 e2
    obtain ⟨p, xs, rfl, hp, r1⟩ := cur_tup rx e1
    obtain ⟨q, ys, rfl, hq, r2⟩ := cur_tup ry e2
    refine .inr (.inr (.inl ⟨p, q, xs, ys, rfl, rfl, .inl (.inl (g.ex _ _ hp)), .inl (.inl (g.ex _ _ hq)), by rw [r1.length, r2.length]; exact h.1, fun z => ?_, fun z1 z2 => ?_, fun z1 z2 p' hp' => ?_⟩))
    · subst z
      cases r1
      exact k F H _ _ G Go.refl g (.tup hq r2) h.2
    · subst z2
      cases r2
      have h2 := h.2
      rw [List.append_nil] at h2
      exact k F H _ _ G Go.refl g (.tup hp r1) h2
    · have gr : Gr F H (upd F p' (.tup (xs ++ ys))) (upd H p' (.tup (xs ++ ys))) := Gr.new g.ex hp'
      exact k _ _ _ _ G gr.go (g.grow gr) (.tup upd_same ((r1.append r2).mono gr.ff)) h.2
  · rename_i a b e1 e2
    obtain ⟨p, xs, rfl, hp, r1⟩ := cur_list g rx e1
    obtain ⟨q, ys, rfl, hq, r2⟩ := cur_list g ry e2
    refine .inr (.inr (.inr ⟨p, q, xs, ys, rfl, rfl, hp, hq, by rw [r1.length, r2.length]; exact h.1, fun p' hp' => ?_⟩))
    have gr : Gr F H (upd F p' (.lst (xs ++ ys))) (upd H p' (.lst (xs ++ ys))) := Gr.new g.ex hp'
    exact k _ _ _ _ G gr.go (g.grow gr) (.lst upd_same ((r1.append r2).mono gr.ff)) h.2
  · exact h.elim
def rIntD (C : Int → Int → Prop) (f : Int → Int → Int) : DR2 := fun x y G Q => match x, y with
  | .int i, .int j => C i j ∧ Q (.int (f i j)) G
  | _, _ => False
theorem od_int {op : Operator} {C : Int → Int → Prop} {f : Int → Int → Int} (h : OpR X (binaryOp op) (rI C fun i j => .int (f i j))) : OpD X (binaryOp op) (rIntD C f) := by
  refine ⟨_, h, fun F H G x y dx dy g rx ry Q' h Q k => ?_⟩
  unfold rIntD at h
  split at h
  · cases rx; cases ry
    exact ⟨_, _, rfl, rfl, h.1, k F H _ _ G Go.refl g (.int _) h.2⟩
  · exact h.elim
theorem od_sub : OpD X (binaryOp .Sub) (rIntD (fun _ _ => True) fun i j => i - j) := by
  refine ⟨_, op_sub, fun F H G x y dx dy g rx ry Q' h Q k => ?_⟩
  unfold rIntD at h
  split at h
  · cases rx; cases ry
    exact ⟨_, _, rfl, rfl, k F H _ _ G Go.refl g (.int _) h.2⟩
  · exact h.elim
theorem od_fdiv : OpD X (binaryOp .FloorDiv) (rIntD CDiv fun i j => i / j) := od_int op_fdiv
theorem od_mod : OpD X (binaryOp .Mod) (rIntD (fun _ j => 0 < j) fun i j => i % j) := od_int op_mod
theorem od_pow : OpD X (binaryOp .Pow) (rIntD CPow fun i j => i ^ j.toNat) := od_int op_pow
def rMulD : DR2 := fun x y G Q => match x.cur G, y.cur G with
  | .int i, .int j => CMul i j ∧ Q (.int (i * j)) G
  | .lst a, .int j => -(2 ^ 63) ≤ j ∧ j < 2 ^ 63 ∧ a.length * j.toNat ≤ sizeLine ∧ Q (.lst (List.replicate j.toNat a).flatten) G
  | _, _ => False
theorem Reps.rep {K : PySem.W.Frag} {F : Hp} {vs : List V} {ds : List D} (r : Reps K F vs ds) : ∀ n : Nat, Reps K F (List.replicate n vs).flatten (List.replicate n ds).flatten
  | 0 => .nil
  | n + 1 => by
    rw [List.replicate_succ, List.replicate_succ, List.flatten_cons, List.flatten_cons]
    exact r.append (Reps.rep r n)
theorem od_mul : OpD X (binaryOp .Mult) rMulD := by
  refine ⟨_, op_mul.or op_rep, fun F H G x y dx dy g rx ry Q' h Q k => ?_⟩
  unfold rMulD at h
  split at h
  · rename_i i j e1 e2
    exact .inl ⟨i, j, cur_int rx e1, cur_int ry e2, h.1, k F H _ _ G Go.refl g (.int _) h.2⟩
  · rename_i a j e1 e2
    obtain ⟨p, xs, rfl, hp, r1⟩ := cur_list g rx e1
    obtain ⟨h1, h2, h3, h4⟩ := h
    refine .inr ⟨p, j, xs, rfl, cur_int ry e2, hp, h1, h2, by rw [r1.length]; exact h3, fun p' hp' => ?_⟩
    have gr := Gr.new (u := .lst (List.replicate j.toNat xs).flatten) g.ex hp'
    exact k _ _ _ _ G gr.go (g.grow gr) (.lst upd_same ((r1.rep _).mono gr.ff)) h4
  · exact h.elim
def rNegD : DR1 := fun x G Q => match x with
  | .int i => Q (.int (-i)) G
  | _ => False
theorem ud_neg : UnD X (unaryOp .USub) rNegD := by
  refine ⟨_, un_neg, fun F H G x dx g rx Q' h Q k => ?_⟩
  unfold rNegD at h
  split at h
  · cases rx
    exact ⟨_, rfl, k F H _ _ G Go.refl g (.int _) h⟩
  · exact h.elim
def D.isNon : D → Bool
  | .non => true
  | _ => false
theorem Rep.isNon {K : PySem.W.Frag} {F : Hp} {v : V} {d : D} (r : Rep K F v d) : decide (v = .non) = d.isNon := by
  cases r <;> first | rfl | exact decide_eq_false (by intro h; cases h)
theorem od_isN : OpD X (compareOp .Is) (fun x y G Q => match y with | .non => Q (.bl x.isNon) G | _ => False) := by
  refine ⟨_, op_isN, fun F H G x y dx dy g rx ry Q' h Q k => ?_⟩
  split at h
  · cases ry
    refine ⟨rfl, ?_⟩
    rw [rx.isNon]
    exact k F H _ _ G Go.refl g (.bl _) h
  · exact h.elim
theorem od_notN : OpD X (compareOp .IsNot) (fun x y G Q => match y with | .non => Q (.bl (!x.isNon)) G | _ => False) := by
  refine ⟨_, op_notN, fun F H G x y dx dy g rx ry Q' h Q k => ?_⟩
  split at h
  · cases ry
    refine ⟨rfl, ?_⟩
    rw [rx.isNon]
    exact k F H _ _ G Go.refl g (.bl _) h
  · exact h.elim
def strIn (x z : Str) : Bool := !(Builtin.Str.occurrences z x 0 z.length 1).isEmpty
def okI (x : D) (ys : List D) : Bool := x.pl && D.pls ys && decide (min (PyData.depthAll (D.pys ys)) x.py.depth ≤ 60)
def D.isIn (x : D) (ys : List D) : Bool := (D.pys ys).any fun z => PyData.eqv z x.py
/-- x in y: none where it is not served -/
def D.inn (x y : D) : Option Bool := match y with
  | .str z => (match x with
    | .str w => some (strIn w z)
    | _ => none)
  | .lst ys => if okI x ys = true then some (x.isIn ys) else none
  | .tup ys => if okI x ys = true then some (x.isIn ys) else none
  | y => (y.look x).map Option.isSome
def rInP (K : PySem.W.Frag) (neg : Bool) : R2 := fun x y H Q => ∃ d ds b, Dp K H x d ∧ (Dp K H y (.list ds) ∨ Dp K H y (.tuple ds)) ∧ d.plain = true ∧ PyData.plainAll ds = true ∧ min (PyData.depthAll ds) d.depth ≤ 60 ∧ b = (if neg then !(ds.any fun z => PyData.eqv z d) else ds.any fun z => PyData.eqv z d) ∧ Q (.bl b) H
def rInDict (neg : Bool) : R2 := fun x y H Q => ∃ a o, y = .ref a ∧ DGet H a x o ∧ Q (.bl (if neg then !o.isSome else o.isSome)) H
theorem op_inP (hu : X.A.units + 100 < cLine) : OpR X (compareOp .In) (rInP X.K false) := by
  intro pins s σ H x y v u Q I rx ry h
  obtain ⟨d, ds, b, hd, hy, p1, p2, hm, rfl, q⟩ := h
  obtain ⟨as, r1⟩ := Dp.reads I d x v hd rx
  rcases hy with hy | hy
  · obtain ⟨bs, r2⟩ := Dp.reads I _ y u hy ry
    exact SeqAt.in_list_data r2 r1 p2 p1 (by omega) ⟨.bl _, H, I, rfl, q⟩
  · obtain ⟨bs, r2⟩ := Dp.reads I _ y u hy ry
    exact SeqAt.in_tuple_data r2 r1 p2 p1 (by omega) ⟨.bl _, H, I, rfl, q⟩
theorem op_notInP (hu : X.A.units + 100 < cLine) : OpR X (compareOp .NotIn) (rInP X.K true) := by
  intro pins s σ H x y v u Q I rx ry h
  obtain ⟨d, ds, b, hd, hy, p1, p2, hm, rfl, q⟩ := h
  obtain ⟨as, r1⟩ := Dp.reads I d x v hd rx
  rcases hy with hy | hy
  · obtain ⟨bs, r2⟩ := Dp.reads I _ y u hy ry
    exact SeqAt.notIn_list_data r2 r1 p2 p1 (by omega) ⟨.bl _, H, I, rfl, q⟩
  · obtain ⟨bs, r2⟩ := Dp.reads I _ y u hy ry
    exact SeqAt.notIn_tuple_data r2 r1 p2 p1 (by omega) ⟨.bl _, H, I, rfl, q⟩
theorem op_inDict (hu : X.A.units + 100 < cLine) : OpR X (compareOp .In) (rInDict false) := by
  intro pins s σ H x y v u Q I rx ry h
  obtain ⟨a, o, rfl, g, q⟩ := h
  obtain rfl : u = Value.ref a := ry
  exact d_in (by omega) I g rx fun s' I' => ⟨.bl _, H, I', rfl, q⟩
theorem op_notInDict (hu : X.A.units + 100 < cLine) : OpR X (compareOp .NotIn) (rInDict true) := by
  intro pins s σ H x y v u Q I rx ry h
  obtain ⟨a, o, rfl, g, q⟩ := h
  obtain rfl : u = Value.ref a := ry
  exact d_notIn (by omega) I g rx fun s' I' => ⟨.bl _, H, I', rfl, q⟩
theorem in_core {neg : Bool} {r : R2} (hs : ∀ x y H Q, (∃ i j, x = V.str i ∧ y = V.str j ∧ Q (.bl (if neg then !(strIn i j) else strIn i j)) H) → r x y H Q) (hl : ∀ x y H Q, rInP X.K neg x y H Q → r x y H Q) (hd : ∀ x y H Q, rInDict neg x y H Q → r x y H Q)
    {F H : Hp} {G : GH} {x y : V} {dx dy : D} (g : Gok X.K F H G) (rx : Rep X.K F x dx) (ry : Rep X.K F y dy) {Q' : DQ} {b : Bool} (h : D.inn dx (dy.cur G) = some b) (q : Q' (.bl (if neg then !b else b)) G) {Q : VK} (k : KpE X.K F H G Q' Q) : r x y H Q := by
  have fin : Q (.bl (if neg then !b else b)) H := k F H _ _ G Go.refl g (.bl _) q
  unfold D.inn at h
  have seqs : ∀ (ys : List D), okI dx ys = true → dx.isIn ys = b → (Dp X.K H y (.list (D.pys ys)) ∨ Dp X.K H y (.tuple (D.pys ys))) → r x y H Q := by
    intro ys ok e hy
    unfold okI at ok
    simp only [Bool.and_eq_true, decide_eq_true_eq] at ok
    obtain ⟨⟨p1, p2⟩, p3⟩ := ok
    refine hl _ _ _ _ ⟨dx.py, D.pys ys, _, ?_, hy, D.py_plain _ p1, D.pys_plain _ p2, p3, rfl, ?_⟩
    · exact Dp.mono' g.ex _ (Rep.dp _ rx p1)
    · unfold D.isIn at e
      rw [e]
      exact fin
  split at h
  · rename_i z e
    split at h
    · cases h
      cases rx
      exact hs _ _ _ _ ⟨_, _, rfl, cur_str ry e, fin⟩
    · cases h
  · rename_i ys e
    split at h
    · rename_i ok
      cases h
      obtain ⟨a, vs, rfl, ha, rs⟩ := cur_list g ry e
      unfold okI at ok
      simp only [Bool.and_eq_true, decide_eq_true_eq] at ok
      refine seqs ys (by unfold okI; simp [ok]) rfl (.inl (.lst (.inl (.inl ha)) (DpAll.mono' g.ex _ (Reps.dp _ rs ok.1.2))))
    · cases h
  · rename_i ys e
    split at h
    · rename_i ok
      cases h
      obtain ⟨a, vs, rfl, ha, rs⟩ := cur_tup ry e
      unfold okI at ok
      simp only [Bool.and_eq_true, decide_eq_true_eq] at ok
      refine seqs ys (by unfold okI; simp [ok]) rfl (.inr (.tup (.inl (.inl (g.ex _ _ ha))) (DpAll.mono' g.ex _ (Reps.dp _ rs ok.1.2))))
    · cases h
  · cases e : (dy.cur G).look dx with
    | none => rw [e] at h; cases h
    | some o =>
      rw [e] at h
      cases h
      obtain ⟨a, o', rfl, dg, h1, h2⟩ := look_get g ry rx e
      refine hd _ _ _ _ ⟨a, o', rfl, dg, ?_⟩
      have eo : o'.isSome = o.isSome := by
        cases o with
        | none => simp [h2 rfl]
        | some d =>
          obtain ⟨z, ez, _⟩ := h1 d rfl
          rw [ez]; rfl
      rw [eo]
      exact fin
theorem od_in (hu : X.A.units + 100 < cLine) : OpD X (compareOp .In) (fun x y G Q => match D.inn x (y.cur G) with | some b => Q (.bl b) G | none => False) := by
  refine ⟨_, op_in_str.or ((op_inP hu).or (op_inDict hu)), fun F H G x y dx dy g rx ry Q' h Q k => ?_⟩
  split at h
  · rename_i b e
    exact in_core (neg := false) (r := fun x y H Q => (∃ i j, x = .str i ∧ y = .str j ∧ Q (.bl (!(Builtin.Str.occurrences j i 0 j.length 1).isEmpty)) H) ∨ rInP X.K false x y H Q ∨ rInDict false x y H Q) (fun x y H Q h => .inl h) (fun x y H Q h => .inr (.inl h)) (fun x y H Q h => .inr (.inr h)) g rx ry e h k
  · exact h.elim
theorem od_notIn (hu : X.A.units + 100 < cLine) : OpD X (compareOp .NotIn) (fun x y G Q => match D.inn x (y.cur G) with | some b => Q (.bl (!b)) G | none => False) := by
  refine ⟨_, op_notin_str.or ((op_notInP hu).or (op_notInDict hu)), fun F H G x y dx dy g rx ry Q' h Q k => ?_⟩
  split at h
  · rename_i b e
    exact in_core (neg := true) (r := fun x y H Q => (∃ i j, x = .str i ∧ y = .str j ∧ Q (.bl (!(!(Builtin.Str.occurrences j i 0 j.length 1).isEmpty))) H) ∨ rInP X.K true x y H Q ∨ rInDict true x y H Q) (fun x y H Q h => .inl h) (fun x y H Q h => .inr (.inl h)) (fun x y H Q h => .inr (.inr h)) g rx ry e h k
  · exact h.elim
end
end DL
end
section
set_option Elab.async false
set_option linter.all false
set_option maxRecDepth 100000
set_option maxHeartbeats 4000000
namespace DL
open PySem PySem.Spec PyProof.Rows L2
theorem atI_rep {K : PySem.W.Frag} {F : Hp} {vs : List V} {ds : List D} {i : Int} {d : D} (r : Reps K F vs ds) (h : atI ds i = some d) : ∃ v, atI vs i = some v ∧ Rep K F v d := by
  unfold atI at h ⊢
  rw [r.length]
  cases e : ixN ds.length i with
  | none => rw [e] at h; cases h
  | some j =>
    rw [e] at h
    exact r.get h
def D.item (x y : D) : Option D := match x with
  | .tup xs => (match y with
    | .int i => atI xs i
    | _ => none)
  | .lst xs => (match y with
    | .int i => atI xs i
    | _ => none)
  | .str z => (match y with
    | .int i => if z.length ≤ sizeLine then (atI z.cps.toList i).map fun c => .str ⟨#[c]⟩ else none
    | _ => none)
  | .kup xs => (match y with
    | .int i => atI xs i
    | _ => none)
  | x => (x.look y).join
def cutD {α : Type} (xs : List α) (lo hi : Option Int) : List α := (xs.drop (HT.sIx xs.length 0 lo)).take (HT.sIx xs.length xs.length hi - HT.sIx xs.length 0 lo)
theorem Reps.cut {K : PySem.W.Frag} {F : Hp} {vs : List V} {ds : List D} (r : Reps K F vs ds) (lo hi : Option Int) : Reps K F (cutV vs lo hi) (cutD ds lo hi) := by
  unfold cutV cutD
  rw [r.length]
  exact (r.drop _).take _
def putFD (f : Str) (d : D) : List (Str × D) → List (Str × D)
  | [] => [(f, d)]
  | p :: r => if p.1 = f then (f, d) :: r else p :: putFD f d r
theorem KR.look {K : PySem.W.Frag} {F : Hp} {f : Str} : ∀ {kds : List (Str × D)} {kvs : List (Str × V)}, KR K F kvs kds → (∀ d, kds.lookup f = some d → ∃ v, kvs.lookup f = some v ∧ Rep K F v d) ∧ (kds.lookup f = none → kvs.lookup f = none)
  | [], kvs, h => by
    obtain rfl := h.unnil
    exact ⟨fun d z => (by cases z), fun _ => rfl⟩
  | (k', d') :: kds, kvs, h => by
    obtain ⟨v, r, rfl, rv, t⟩ := h.uncons
    by_cases e : f = k'
    · subst e
      simp only [List.lookup_cons, beq_self_eq_true]
      exact ⟨fun d z => (by cases z; exact ⟨v, rfl, rv⟩), fun z => (by cases z)⟩
    · have e' : (f == k') = false := by simpa using e
      simp only [List.lookup_cons, e']
      exact KR.look t
theorem KR.putF {K : PySem.W.Frag} {F : Hp} {f : Str} {v : V} {d : D} (rv : Rep K F v d) : ∀ {kds : List (Str × D)} {kvs : List (Str × V)}, KR K F kvs kds → KR K F (L2.putF f v kvs) (putFD f d kds)
  | [], kvs, h => by
    obtain rfl := h.unnil
    exact .cons rv .nil
  | (k', d') :: kds, kvs, h => by
    obtain ⟨v', r, rfl, rv', t⟩ := h.uncons
    unfold L2.putF putFD
    by_cases e : k' = f
    · subst e
      simp only [if_pos]
      exact .cons rv t
    · simp only [if_neg e]
      exact .cons rv' (KR.putF rv t)
theorem cur_obj {K : PySem.W.Frag} {F H : Hp} {G : GH} {v : V} {d : D} {C : Addr} {kds : List (Str × D)} (g : Gok K F H G) (r : Rep K F v d) (p : d.cur G = .obj C kds) : ∃ a dx kvs, v = .ref a ∧ H a = some (.ins C dx kvs) ∧ KR K F kvs kds := by
  cases d with
  | rf a =>
    cases r
    unfold D.cur at p
    cases q : G a with
    | none => simp only [q] at p; cases p
    | some o =>
      cases o with
      | ins C' kd =>
        simp only [q] at p; cases p
        obtain ⟨dx, kvs, e, h1, h2⟩ := (g.at_ a _ q).2
        exact ⟨a, dx, kvs, rfl, e, h1, h2⟩
      | lst xs => simp only [q] at p; cases p
      | dK kd => simp only [q] at p; cases p
      | dT kd => simp only [q] at p; cases p
      | deck k1 k2 k3 n => simp only [q] at p; cases p
      | dcell => simp only [q] at p; cases p
      | lkT o kvs kds => simp only [q] at p; cases p
      | lkK o kvs kds => simp only [q] at p; cases p
      | dN w kds => simp only [q] at p; cases p
      | lkN w o xs kds => simp only [q] at p; cases p
      | dU w kds => simp only [q] at p; cases p
      | lkU w o xs kds => simp only [q] at p; cases p
      | tupU o vs ds => simp only [q] at p; cases p
  | obj C' kd =>
    cases p
    cases r with
    | obj h h1 h2 => exact ⟨_, _, _, rfl, g.ex _ _ h, h1, h2⟩
  | _ => cases p
section
variable {X : Cx} {pos : Pos}
def rIxDict : R2 := fun x y H Q => ∃ a v, x = .ref a ∧ DGet H a y (some v) ∧ Q v H
theorem ix_dict (hu : X.A.units + 100 < cLine) : IxR X rIxDict := by
  intro value slice pins s σ H x y v u Q I rx ry h hs
  obtain ⟨a, z, rfl, g, q⟩ := h
  obtain rfl : v = Value.ref a := rx
  exact tail_any (dict_typeIs I g) PySem.F.slot_dict_getitem.lookup (d_getItem (by omega) I g ry fun w' s' I' r' => ⟨z, H, I', r', q⟩) hs
def rItem : DR2 := fun x y G Q => match D.item (x.cur G) y with
  | some d => Q d G
  | none => False
theorem de_ix {a b : Expr} {ta tb : DTE} (hu : X.A.units + 100 < cLine) (ha : DE X a ta) (hb : DE X b tb) (hs : PlainIx b := by intro _ _; rfl) : DE X (.Subscript a b pos) (dOp rItem ta tb) := by
  obtain ⟨t1, p1, r1⟩ := ha.ex
  obtain ⟨t2, p2, r2⟩ := hb.ex
  refine ⟨_, pe_ix ((ix_seq (X := X)).or (ix_dict hu)) p1 p2 hs, dop_of (a := a) (b := b) ?_ r1 r2⟩
  intro F H G x y dx dy g rx ry Q' h Q k
  unfold rItem at h
  split at h
  · rename_i d e
    have fin : ∀ v, Rep X.K F v d → Q v H := fun v r => k F H _ _ G Go.refl g r h
    unfold D.item at e
    split at e
    · rename_i xs ex
      split at e
      · cases ry
        obtain ⟨p, vs, rfl, hp, rs⟩ := cur_tup rx ex
        obtain ⟨v, hv, rv⟩ := atI_rep rs e
        exact .inl (.inr (.inl ⟨p, vs, _, v, rfl, rfl, .inl (.inl (g.ex _ _ hp)), hv, fin v rv⟩))
      · cases e
    · rename_i xs ex
      split at e
      · cases ry
        obtain ⟨p, vs, rfl, hp, rs⟩ := cur_list g rx ex
        obtain ⟨v, hv, rv⟩ := atI_rep rs e
        exact .inl (.inl ⟨p, vs, _, v, rfl, rfl, .inl (.inl hp), hv, fin v rv⟩)
      · cases e
    · rename_i z ex
      split at e
      · cases ry
        split at e
        · rename_i hz
          rename_i i
          cases ec : atI z.cps.toList i with
          | none => rw [ec] at e; cases e
          | some c =>
            rw [ec] at e
            cases e
            exact .inl (.inr (.inr ⟨z, _, c, cur_str rx ex, rfl, hz, ec, fin _ (.str _)⟩))
        · cases e
      · cases e
    · rename_i xs ex
      split at e
      · cases ry
        obtain ⟨p, vs, rfl, hp, rs⟩ := cur_kup rx ex
        obtain ⟨v, hv, rv⟩ := atI_rep rs e
        exact .inl (.inr (.inl ⟨p, vs, _, v, rfl, rfl, g.ex.sqt hp, hv, fin v rv⟩))
      · cases e
    · cases el : (dx.cur G).look dy with
      | none => rw [el] at e; cases e
      | some o =>
        rw [el] at e
        have e' : o = some d := e
        obtain ⟨a', o', rfl, dg, h1, _⟩ := look_get g rx ry el
        obtain ⟨z, rfl, rz⟩ := h1 d e'
        exact .inr ⟨a', z, rfl, dg, fin z rz⟩
  · exact h.elim
abbrev DTO := DS → GH → (Option Int → GH → Prop) → Prop
structure DO (X : Cx) (e : Option Expr) (t' : DTO) : Prop where
  ex : ∃ t, PO X e t ∧ ∀ F H σ S G, Ok X.K F H σ S G → ∀ Q', t' S G Q' → ∀ Q : Option Int → Hp → Prop, (∀ F' H' o G', Go F H G F' H' G' → Gok X.K F' H' G' → Q' o G' → Q o H') → t σ H Q
def dNoPart : DTO := fun _ G Q => Q none G
def dPart (ta : DTE) : DTO := fun S G Q => ta S G fun d G1 => match d with
  | .int i => Q (some i) G1
  | _ => False
theorem do_none : DO X none dNoPart := ⟨_, po_none, fun F H σ S G o Q' h Q k => k F H none G Go.refl o.g h⟩
theorem do_some {e : Expr} {ta : DTE} (h : DE X e ta) : DO X (some e) (dPart ta) := by
  obtain ⟨t1, p1, r1⟩ := h.ex
  refine ⟨_, po_some p1, fun F H σ S G o Q' h Q k => ?_⟩
  refine r1 F H σ S G o _ h _ fun F1 H1 v d G1 e1 g1 q1 h1 => ?_
  dsimp only at h1
  split at h1
  · cases q1
    exact ⟨_, rfl, k F1 H1 _ G1 e1 g1 h1⟩
  · exact h1.elim
def rSlice (x : D) (lo hi : Option Int) (G : GH) (Q : DQ) : Prop := match x.cur G with
  | .tup xs => Q (.tup (cutD xs lo hi)) G
  | .lst xs => Q (.lst (cutD xs lo hi)) G
  | .str z => z.length ≤ sizeLine ∧ Q (.str (cutS z lo hi)) G
  | .scr ns => Q (.lst ((cutD ns lo hi).map .int)) G
  | .kup xs => if HT.sIx xs.length 0 lo = 0 ∧ HT.sIx xs.length xs.length hi = xs.length then Q (.kup xs) G else Q (.tup (cutD xs lo hi)) G
  | _ => False
def dSlice (ta : DTE) (tl th : DTO) : DTE := fun S G Q => ta S G fun x G1 => tl S G1 fun lo G2 => th S G2 fun hi G3 => rSlice x lo hi G3 Q
theorem Reps.ints {K : PySem.W.Frag} {F : Hp} : ∀ (ns : List Int), Reps K F (ns.map V.int) (ns.map D.int)
  | [] => .nil
  | n :: ns => .cons (.int n) (Reps.ints ns)
theorem de_slice {e : Expr} {lo hi : Option Expr} {ta : DTE} {tl th : DTO} {p2 : Pos} (he : DE X e ta) (hl : DO X lo tl) (hh : DO X hi th) : DE X (.Subscript e (.Slice lo hi none p2) pos) (dSlice ta tl th) := by
  obtain ⟨t1, p1, r1⟩ := he.ex
  obtain ⟨t2, p2', r2⟩ := hl.ex
  obtain ⟨t3, p3, r3⟩ := hh.ex
  refine ⟨_, pe_slice ((sl_tupA (X := X)).or ((sl_list (X := X)).or (sl_str (X := X)))) p1 p2' p3, fun F H σ S G o Q' h Q k => ?_⟩
  refine r1 F H σ S G o _ h _ fun F1 H1 v d G1 e1 g1 q1 h1 => ?_
  refine r2 F1 H1 σ S G1 (o.go e1 g1) _ h1 _ fun F2 H2 lo G2 e2 g2 h2 => ?_
  refine r3 F2 H2 σ S G2 ((o.go e1 g1).go e2 g2) _ h2 _ fun F3 H3 hi G3 e3 g3 h3 => ?_
  have r := (q1.mono e2.ex).mono e3.ex
  have kk := k.mono ((e1.trans e2).trans e3)
  unfold rSlice at h3
  split at h3
  · rename_i xs ex
    obtain ⟨p, vs, rfl, hp, rs⟩ := cur_tup r ex
    refine .inl ⟨p, vs, rfl, .inl (.inl (g3.ex _ _ hp)), fun z => ?_, fun _ p' hp' => ?_⟩
    · have ec : cutD xs lo hi = xs := by
        unfold cutD
        rw [rs.length] at z
        rw [z.1, z.2]
        simp
      rw [ec] at h3
      exact kk F3 H3 _ _ G3 Go.refl g3 (.tup hp rs) h3
    · have gr := Gr.new (u := .tup (cutV vs lo hi)) g3.ex hp'
      exact kk _ _ _ _ G3 gr.go (g3.grow gr) (.tup upd_same ((rs.cut lo hi).mono gr.ff)) h3
  · rename_i xs ex
    obtain ⟨p, vs, rfl, hp, rs⟩ := cur_list g3 r ex
    refine .inr (.inl ⟨p, vs, rfl, .inl (.inl hp), fun p' hp' => ?_⟩)
    have gr := Gr.new (u := .lst (cutV vs lo hi)) g3.ex hp'
    exact kk _ _ _ _ G3 gr.go (g3.grow gr) (.lst upd_same ((rs.cut lo hi).mono gr.ff)) h3
  · rename_i z ex
    exact .inr (.inr ⟨z, cur_str r ex, h3.1, kk F3 H3 _ _ G3 Go.refl g3 (.str _) h3.2⟩)
  · rename_i ns ex
    have hd : d = .scr ns := by
      cases d with
      | rf a =>
        unfold D.cur at ex
        cases q : G3 a with
        | none => simp only [q] at ex; cases ex
        | some o => cases o <;> (simp only [q] at ex; cases ex)
      | _ => exact ex
    subst hd
    cases r with
    | scr hs =>
      refine .inr (.inl ⟨_, ns.map V.int, rfl, g3.ex.sql hs, fun p' hp' => ?_⟩)
      have gr := Gr.new (u := .lst (cutV (ns.map V.int) lo hi)) g3.ex hp'
      have rc : Reps X.K F3 (cutV (ns.map V.int) lo hi) ((cutD ns lo hi).map .int) := by
        have := (Reps.ints (K := X.K) (F := F3) ns).cut lo hi
        have e : cutD (ns.map D.int) lo hi = (cutD ns lo hi).map .int := by
          unfold cutD
          simp [List.map_take, List.map_drop]
        rw [e] at this
        exact this
      exact kk _ _ _ _ G3 gr.go (g3.grow gr) (.lst upd_same (rc.mono gr.ff)) h3
  · rename_i xs ex
    obtain ⟨p, vs, rfl, hp, rs⟩ := cur_kup r ex
    refine .inl ⟨p, vs, rfl, g3.ex.sqt hp, fun z => ?_, fun z p' hp' => ?_⟩
    · rw [rs.length] at z
      rw [if_pos z] at h3
      exact kk F3 H3 _ _ G3 Go.refl g3 (.kup hp rs) h3
    · rw [rs.length] at z
      rw [if_neg z] at h3
      have gr := Gr.new (u := .tup (cutV vs lo hi)) g3.ex hp'
      exact kk _ _ _ _ G3 gr.go (g3.grow gr) (.tup upd_same ((rs.cut lo hi).mono gr.ff)) h3
  · exact h3.elim
def dFld (C : Addr) (f : Str) (ta : DTE) : DTE := fun S G Q => ta S G fun d G1 => match d.cur G1 with
  | .obj C' fs => C' = C ∧ (match fs.lookup f with
    | some v => Q v G1
    | none => False)
  | _ => False
theorem de_fld {e : Expr} {f : Str} {C : Addr} {ta : DTE} (c : Cls X.K C) (na : NoAttr X.K C f) (he : DE X e ta) (hb : attributeBase e f X.env (eval e X.env) = eval e X.env := by rfl) : DE X (.Attribute e f pos) (dFld C f ta) := by
  obtain ⟨t1, p1, r1⟩ := he.ex
  refine ⟨_, pe_fld p1 hb, fun F H σ S G o Q' h Q k => ?_⟩
  refine r1 F H σ S G o _ h _ fun F1 H1 v d G1 e1 g1 q1 h1 => ?_
  dsimp only at h1
  split at h1
  · rename_i C' fs ex
    obtain ⟨rfl, h1⟩ := h1
    obtain ⟨a, dx, kvs, rfl, ha, kr⟩ := cur_obj g1 q1 ex
    split at h1
    · rename_i z ez
      obtain ⟨y, hy, ry⟩ := kr.look.1 _ ez
      exact ⟨a, C', dx, kvs, y, rfl, ha, c, na, hy, k F1 H1 _ _ G1 e1 g1 ry h1⟩
    · exact h1.elim
  · exact h1.elim
def dSetFld (C : Addr) (f : Str) (ta tv : DTE) : DTS := fun D' S G => tv S G fun y G1 => ta S G1 fun x G2 => match x with
  | .rf a => (match G2 a with
    | some (.ins C' fs) => C' = C ∧ fs.length < 1000 ∧ D'.nx S (gput G2 a (.ins C (putFD f y fs)))
    | _ => False)
  | _ => False
theorem dp_setFld {e value : Expr} {f : Str} {C : Addr} {ta tv : DTE} {pos' : Pos} (c : Cls X.K C) (na : NoAttr X.K C f) (he : DE X e ta) (hv : DE X value tv) (hs : swapsWith value (some (.Attribute e f pos')) pos.line X.env = pure false := by rfl) :
    DP X (.Assign [.Attribute e f pos'] value pos) (dSetFld C f ta tv) := by
  obtain ⟨t1, p1, r1⟩ := he.ex
  obtain ⟨t2, p2, r2⟩ := hv.ex
  refine ⟨_, ps_fld p1 p2 hs, fun F H σ S G o D' h D0 k => ?_⟩
  refine r2 F H σ S G o _ h _ fun F1 H1 v d G1 e1 g1 q1 h1 => ?_
  refine r1 F1 H1 σ S G1 (o.go e1 g1) _ h1 _ fun F2 H2 u d2 G2 e2 g2 q2 h2 => ?_
  dsimp only at h2
  split at h2
  · rename_i a
    split at h2
    · rename_i C' fs eg
      obtain ⟨rfl, hl, h2⟩ := h2
      cases q2
      obtain ⟨fa, dx, kvs, ha, h3, h4⟩ := g2.at_ a _ eg
      have kr : KR X.K F2 kvs fs := ⟨h3, h4⟩
      have kr2 := kr.putF (f := f) (q1.mono e2.ex)
      refine ⟨a, C', dx, kvs, rfl, ha, c, na, by rw [kr.len]; exact hl, ?_⟩
      have g3 := g2.put (u := .ins C' dx (L2.putF f v kvs)) (o := .ins C' (putFD f d fs)) eg rfl rfl ⟨dx, _, upd_same, kr2.ks, kr2.vs⟩
      exact k.nx F2 _ σ S _ ((e1.trans e2).trans (Go.put eg)) ⟨g3, (o.s.mono e1.ex).mono e2.ex⟩ h2
    · exact h2.elim
  · exact h2.elim
def dSetSub (to ti : DTE) : DTG := fun v S G Q => to S G fun x G1 => ti S G1 fun i G2 => match x with
  | .rf a => (match G2 a with
    | some (.lst xs) => (match i with
      | .int j => (match ixN xs.length j with
        | some n => Q S (gput G2 a (.lst (xs.set n v)))
        | none => False)
      | _ => False)
    | some (.dK kds) => (match i.key with
      | some k => kds.length < sizeLine ∧ Q S (gput G2 a (.dK (putD kds k v)))
      | none => False)
    | some (.dT kds) => (match i with
      | .tup ds => (match D.keys ds with
        | some k => kds.length < sizeLine ∧ Q S (gput G2 a (.dT (putD kds k v)))
        | none => False)
      | _ => False)
    | _ => False)
  | _ => False
def rSetD : V → V → V → Hp → (Hp → Prop) → Prop := fun o i v H Q => ∃ a H', o = .ref a ∧ DPut H a i v H' ∧ Q H'
theorem set_dict (hu : X.A.units + 100 < cLine) : PSet X rSetD := by
  intro pins s σ H o i v ov iv u Q I ro ri rv h
  obtain ⟨a, H', rfl, g, q⟩ := h
  obtain rfl : ov = Value.ref a := ro
  exact d_setItem (by omega) I g ri rv fun s' I' => ⟨H', I', q⟩
theorem PSet.or {r r' : TSet} (h : PSet X r) (h' : PSet X r') : PSet X (fun o i v H Q => r o i v H Q ∨ r' o i v H Q) := by
  intro pins s σ H o i v ov iv u Q I ro ri rv q
  rcases q with q | q
  · exact h pins s σ H o i v ov iv u Q I ro ri rv q
  · exact h' pins s σ H o i v ov iv u Q I ro ri rv q
theorem dg_sub {o i : Expr} {to ti : DTE} (hu : X.A.units + 100 < cLine) (ho : DE X o to) (hi : DE X i ti)
    (ha : ∀ v, assign (.Subscript o i pos) X.env v = (do let ov ← holding [v] (eval o X.env); let iv ← holding [v, ov] (eval i X.env); standAt pos; holding [v, ov, iv] (setItem ov iv v); release [v, ov, iv] []) := by intro _; rfl) : DG X (.Subscript o i pos) (dSetSub to ti) := by
  obtain ⟨t1, p1, r1⟩ := ho.ex
  obtain ⟨t2, p2, r2⟩ := hi.ex
  refine ⟨_, pg_sub p1 p2 (PSet.or set_list (set_dict hu)) ha, fun F H σ S G v d o' r Q' h Q k => ?_⟩
  refine r1 F H σ S G o' _ h _ fun F1 H1 x dx G1 e1 g1 q1 h1 => ?_
  refine r2 F1 H1 σ S G1 (o'.go e1 g1) _ h1 _ fun F2 H2 y dy G2 e2 g2 q2 h2 => ?_
  have rv := (r.mono e1.ex).mono e2.ex
  dsimp only at h2
  split at h2
  · rename_i a
    cases q1
    split at h2
    · rename_i xs eg
      split at h2
      · rename_i j
        cases q2
        split at h2
        · rename_i n en
          obtain ⟨fa, vs, ha, rs⟩ := g2.at_ a _ eg
          refine .inl ⟨a, vs, j, n, rfl, rfl, ha, by rw [rs.length]; exact en, ?_⟩
          have g3 := g2.put (u := .lst (vs.set n v)) (o := .lst (xs.set n d)) eg rfl rfl ⟨_, upd_same, rs.set rv n⟩
          exact k F2 _ σ S _ ((e1.trans e2).trans (Go.put eg)) ⟨g3, (o'.s.mono e1.ex).mono e2.ex⟩ h2
        · exact h2.elim
      · exact h2.elim
    · rename_i kds eg
      split at h2
      · rename_i kk ek
        obtain ⟨hl, h2⟩ := h2
        obtain ⟨fa, kvs, ha, h3, h4⟩ := g2.at_ a _ eg
        have kr : KR X.K F2 kvs kds := ⟨h3, h4⟩
        have kr2 := kr.put (k := kk) rv
        have ey := q2.key ek
        subst ey
        refine .inr ⟨a, _, rfl, DPut.k (k := kk) ha (by rw [kr.len]; exact hl), ?_⟩
        have g3 := g2.put (u := .dK (putK kvs kk v)) (o := .dK (putD kds kk d)) eg rfl rfl ⟨_, upd_same, kr2.ks, kr2.vs⟩
        exact k F2 _ σ S _ ((e1.trans e2).trans (Go.put eg)) ⟨g3, (o'.s.mono e1.ex).mono e2.ex⟩ h2
      · exact h2.elim
    · rename_i kds eg
      split at h2
      · rename_i ds
        split at h2
        · rename_i kk ek
          obtain ⟨hl, h2⟩ := h2
          obtain ⟨fa, kvs, ha, h3, h4⟩ := g2.at_ a _ eg
          have kr : KR X.K F2 kvs kds := ⟨h3, h4⟩
          have kr2 := kr.put (k := kk) rv
          cases q2 with
          | tup hb rs =>
            have eb := rs.keys ek
            subst eb
            refine .inr ⟨a, _, rfl, DPut.t (k := kk) ha (g2.ex _ _ hb) (by rw [kr.len]; exact hl), ?_⟩
            have g3 := g2.put (u := .dT (putK kvs kk v)) (o := .dT (putD kds kk d)) eg rfl rfl ⟨_, upd_same, kr2.ks, kr2.vs⟩
            exact k F2 _ σ S _ ((e1.trans e2).trans (Go.put eg)) ⟨g3, (o'.s.mono e1.ex).mono e2.ex⟩ h2
        · exact h2.elim
      · exact h2.elim
    · exact h2.elim
  · exact h2.elim
def dMeth (C : Addr) (m : Str) (sp : SpD) (ta : DTE) (tr : DTA) : DTE := fun S G Q => ta S G fun d G1 => match d.cur G1 with
  | .obj C' fs => C' = C ∧ fs.lookup m = none ∧ tr S G1 fun ds G2 => sp (d :: ds) G2 Q
  | _ => False
def dMake (C : Addr) (sp : SpD) (tr : DTA) : DTE := fun S G Q => tr S G fun ds G1 => ∀ y, G1 y = none → sp (.rf y :: ds) (gput G1 y (.ins C [])) fun d G2 => match d with
  | .non => Q (.rf y) G2
  | _ => False
end
end DL
end
section
set_option Elab.async false
set_option linter.all false
set_option maxRecDepth 100000
set_option maxHeartbeats 4000000
namespace DL
open PySem PySem.Spec PyProof.Rows L2
section
variable {X : Cx} {pos : Pos} {tg : Expr}
def dNoGuard : GH → Prop := fun _ => True
def diTup (te : DTE) : DTI := fun S G R => te S G fun d G1 => match d with
  | .tup ds => R ds dNoGuard G1
  | .kup ds => R ds dNoGuard G1
  | _ => False
theorem di_tup {e : Expr} {te : DTE} (h : DE X e te) : DI X tg e (diTup te) := by
  obtain ⟨t, p, r⟩ := h.ex
  refine ⟨_, pi_tup p, fun F H σ S G o R' h R k => ?_⟩
  refine r F H σ S G o _ h _ fun F1 H1 v d G1 e1 g1 q1 h1 => ?_
  dsimp only at h1
  split at h1
  · cases q1 with
    | tup ha rs =>
      rename_i a vs
      refine ⟨a, rfl, ⟨vs, .inl (.inl (g1.ex _ _ ha))⟩, k F1 H1 G1 _ _ _ e1 g1 ⟨fun F2 H2 G2 i d e2 g2 _ hd => ?_, fun F2 H2 G2 e2 g2 _ => ?_⟩ h1⟩
      · have hs : SqT X.K H2 a vs := .inl (.inl (g2.ex _ _ (e2 _ _ ha)))
        obtain ⟨v, hv, rv⟩ := rs.get hd
        refine ⟨⟨vs, v, hs, hv⟩, fun x H3 hy => ?_⟩
        obtain ⟨rfl, hx⟩ := hy
        have := hx vs hs
        rw [hv] at this
        cases this
        exact ⟨F2, Go.refl, g2, rv.mono e2⟩
      · exact ⟨vs, .inl (.inl (g2.ex _ _ (e2 _ _ ha))), by rw [rs.length]; exact Nat.le_refl _⟩
  · cases q1 with
    | kup ha rs =>
      rename_i a vs
      refine ⟨a, rfl, ⟨vs, g1.ex.sqt ha⟩, k F1 H1 G1 _ _ _ e1 g1 ⟨fun F2 H2 G2 i d e2 g2 _ hd => ?_, fun F2 H2 G2 e2 g2 _ => ?_⟩ h1⟩
      · have hs : SqT X.K H2 a vs := g2.ex.sqt (e2.sqt ha)
        obtain ⟨v, hv, rv⟩ := rs.get hd
        refine ⟨⟨vs, v, hs, hv⟩, fun x H3 hy => ?_⟩
        obtain ⟨rfl, hx⟩ := hy
        have := hx vs hs
        rw [hv] at this
        cases this
        exact ⟨F2, Go.refl, g2, rv.mono e2⟩
      · exact ⟨vs, g2.ex.sqt (e2.sqt ha), by rw [rs.length]; exact Nat.le_refl _⟩
  · exact h1.elim
def diList (te : DTE) : DTI := fun S G R => te S G fun d G1 => match d with
  | .lst ds => R ds dNoGuard G1
  | .rf a => (match G1 a with
    | some (.lst ds) => R ds (fun G => G a = some (.lst ds)) G1
    | _ => False)
  | _ => False
theorem di_list {e : Expr} {te : DTE} (h : DE X e te) : DI X tg e (diList te) := by
  obtain ⟨t, p, r⟩ := h.ex
  refine ⟨_, pi_list p, fun F H σ S G o R' h R k => ?_⟩
  refine r F H σ S G o _ h _ fun F1 H1 v d G1 e1 g1 q1 h1 => ?_
  dsimp only at h1
  split at h1
  · cases q1 with
    | lst ha rs =>
      rename_i a vs
      refine ⟨a, rfl, ⟨vs, .inl (.inl (g1.ex _ _ ha))⟩, k F1 H1 G1 _ _ _ e1 g1 ⟨fun F2 H2 G2 i d e2 g2 _ hd => ?_, fun F2 H2 G2 e2 g2 _ => ?_⟩ h1⟩
      · have hs : SqL X.K H2 a vs := .inl (.inl (g2.ex _ _ (e2 _ _ ha)))
        obtain ⟨v, hv, rv⟩ := rs.get hd
        refine ⟨⟨vs, v, hs, hv⟩, fun x H3 hy => ?_⟩
        obtain ⟨rfl, hx⟩ := hy
        have := hx vs hs
        rw [hv] at this
        cases this
        exact ⟨F2, Go.refl, g2, rv.mono e2⟩
      · exact ⟨vs, .inl (.inl (g2.ex _ _ (e2 _ _ ha))), by rw [rs.length]; exact Nat.le_refl _⟩
  · rename_i a
    split at h1
    · rename_i ds eg
      cases q1
      obtain ⟨fa, vs0, ha0, rs0⟩ := g1.at_ a _ eg
      refine ⟨a, rfl, ⟨vs0, .inl (.inl ha0)⟩, k F1 H1 G1 _ _ _ e1 g1 ⟨fun F2 H2 G2 i d e2 g2 gd hd => ?_, fun F2 H2 G2 e2 g2 gd => ?_⟩ h1⟩
      · obtain ⟨fa2, vs, ha, rs⟩ := g2.at_ a _ gd
        have hs : SqL X.K H2 a vs := .inl (.inl ha)
        obtain ⟨v, hv, rv⟩ := rs.get hd
        refine ⟨⟨vs, v, hs, hv⟩, fun x H3 hy => ?_⟩
        obtain ⟨rfl, hx⟩ := hy
        have := hx vs hs
        rw [hv] at this
        cases this
        exact ⟨F2, Go.refl, g2, rv⟩
      · obtain ⟨fa2, vs, ha, rs⟩ := g2.at_ a _ gd
        exact ⟨vs, .inl (.inl ha), by rw [rs.length]; exact Nat.le_refl _⟩
    · exact h1.elim
  · exact h1.elim
def signs (x : Str) : List D := x.cps.toList.map fun c => .str ⟨#[c]⟩
def diStr (te : DTE) : DTI := fun S G R => te S G fun d G1 => match d with
  | .str x => R (signs x) dNoGuard G1
  | _ => False
theorem di_str {e : Expr} {te : DTE} (h : DE X e te) : DI X tg e (diStr te) := by
  obtain ⟨t, p, r⟩ := h.ex
  refine ⟨_, pi_str p, fun F H σ S G o R' h R k => ?_⟩
  refine r F H σ S G o _ h _ fun F1 H1 v d G1 e1 g1 q1 h1 => ?_
  dsimp only at h1
  split at h1
  · rename_i x
    cases q1
    refine ⟨x, rfl, k F1 H1 G1 _ _ _ e1 g1 ⟨fun F2 H2 G2 i d e2 g2 _ hd => ?_, fun F2 H2 G2 e2 g2 _ => ?_⟩ h1⟩
    · unfold signs at hd
      rw [List.getElem?_map] at hd
      cases ec : x.cps.toList[i]? with
      | none => rw [ec] at hd; cases hd
      | some c =>
        rw [ec] at hd
        cases hd
        have hl : i < x.cps.size := by
          have := (List.getElem?_eq_some_iff.mp ec).1
          simpa using this
        refine ⟨hl, fun y H3 hy => ?_⟩
        obtain ⟨rfl, c', hc', rfl⟩ := hy
        have e2' : x.cps[i]? = some c := by rw [← ec]; simp
        rw [e2'] at hc'
        cases hc'
        exact ⟨F2, Go.refl, g2, .str _⟩
    · show x.cps.size ≤ (signs x).length
      simp [signs]
  · exact h1.elim
def diRange1 (ta : DTA) : DTI := fun S G R => ta S G fun ds G1 => match ds with
  | [.int n] => -(2 ^ 62) ≤ n ∧ n < 2 ^ 62 ∧ R ((List.range n.toNat).map fun i => .int (i : Nat)) dNoGuard G1
  | _ => False
theorem itr_ok {K : PySem.W.Frag} {F : Hp} (lo : Int) (n : Nat) : ItOk K F (Itr lo n) ((List.range n).map fun i => .int (lo + (i : Nat))) dNoGuard := by
  refine ⟨fun F2 H2 G2 i d e2 g2 _ hd => ?_, fun F2 H2 G2 e2 g2 _ => ?_⟩
  · rw [List.getElem?_map] at hd
    cases ec : (List.range n)[i]? with
    | none => rw [ec] at hd; cases hd
    | some c =>
      rw [ec] at hd
      cases hd
      have hl := (List.getElem?_eq_some_iff.mp ec)
      obtain ⟨h1, h2⟩ := hl
      rw [List.length_range] at h1
      rw [List.getElem_range] at h2
      subst h2
      refine ⟨h1, fun y H3 hy => ?_⟩
      obtain ⟨rfl, rfl⟩ := hy
      exact ⟨F2, Go.refl, g2, .int _⟩
  · show n ≤ _
    simp
theorem di_range1 {a : Expr} {ta : DTA} {p : Pos} (hg : Gl X "range") (hm : X.mg "range" = none) (ha : DA X [a] ta) (hs : starEach [a] X.env = [(false, eval a X.env)] := by rfl) : DI X tg (.Call (.Name "range" p) [a] [] pos) (diRange1 ta) := by
  obtain ⟨t, p1, r⟩ := ha.ex
  refine ⟨_, pi_range1 hg hm p1 hs, fun F H σ S G o R' h R k => ?_⟩
  refine r F H σ S G o _ h _ fun F1 H1 vs ds G1 e1 g1 q1 h1 => ?_
  dsimp only at h1
  split at h1
  · rename_i n
    cases q1 with
    | cons a b =>
      cases a; cases b
      obtain ⟨h2, h3, h4⟩ := h1
      refine ⟨n, rfl, h2, h3, k F1 H1 G1 _ _ _ e1 g1 (itr_ok 0 n.toNat) ?_⟩
      have e : ((List.range n.toNat).map fun i => D.int (0 + ((i : Nat) : Int))) = (List.range n.toNat).map fun i => D.int ((i : Nat) : Int) := by
        congr 1
        funext i
        rw [Int.zero_add]
      rw [e]
      exact h4
  · exact h1.elim
def diRange2 (ta : DTA) : DTI := fun S G R => ta S G fun ds G1 => match ds with
  | [.int m, .int n] => (-(2 ^ 62) ≤ m ∧ m < 2 ^ 62 ∧ -(2 ^ 62) ≤ n ∧ n < 2 ^ 62) ∧ R ((List.range (n - m).toNat).map fun i => .int (m + (i : Nat))) dNoGuard G1
  | _ => False
def dCB (r : List D → GH → DQ → Prop) (ta : DTA) : DTE := fun S G Q => ta S G fun ds G1 => r ds G1 Q
theorem de_callB {id : String} {r' : List D → GH → DQ → Prop} {x : Str} {e : Expr} {es : List Expr} {ta : DTA} {p : Pos} (hc : CallD X (.builtin id) r') (hg : Gl X x) (hm : X.mg x = none) (hv : bootBuiltins x = some (.builtin id)) (ha : DA X (e :: es) ta) (hn : x ≠ "__name__" := by decide) (hdb : (x == ("__debug__" : Str)) = false := by decide)
    (he : starEach (e :: es) X.env = (false, eval e X.env) :: starEach es X.env := by rfl) (hpl : (backTo pos (starEach es X.env)).any (·.1) = false := by rfl) : DE X (.Call (.Name x p) (e :: es) [] pos) (dCB r' ta) := by
  obtain ⟨r, hr, rr⟩ := hc.ex
  obtain ⟨t, p1, r1⟩ := ha.ex
  refine ⟨_, pe_callB hr hg hm hv p1 hn hdb he hpl, fun F H σ S G o Q' h Q k => ?_⟩
  refine r1 F H σ S G o _ h _ fun F1 H1 vs ds G1 e1 g1 q1 h1 => ?_
  exact rr F1 H1 G1 vs ds g1 q1 Q' h1 Q (k.mono e1)
theorem de_callTy {T : String} {r' : List D → GH → DQ → Prop} {x : Str} {e : Expr} {es : List Expr} {ta : DTA} {p : Pos} (hc : CallD X (.type T) r') (hg : Gl X x) (hm : X.mg x = none) (hv : bootBuiltins x = some (.type T)) (ha : DA X (e :: es) ta) (hn : x ≠ "__name__" := by decide) (hdb : (x == ("__debug__" : Str)) = false := by decide)
    (he : starEach (e :: es) X.env = (false, eval e X.env) :: starEach es X.env := by rfl) (hpl : (backTo pos (starEach es X.env)).any (·.1) = false := by rfl) : DE X (.Call (.Name x p) (e :: es) [] pos) (dCB r' ta) := by
  obtain ⟨r, hr, rr⟩ := hc.ex
  obtain ⟨t, p1, r1⟩ := ha.ex
  refine ⟨_, pe_callTy hr hg hm hv p1 hn hdb he hpl, fun F H σ S G o Q' h Q k => ?_⟩
  refine r1 F H σ S G o _ h _ fun F1 H1 vs ds G1 e1 g1 q1 h1 => ?_
  exact rr F1 H1 G1 vs ds g1 q1 Q' h1 Q (k.mono e1)
theorem CallR.or {f : Value} {r r' : List V → Hp → VK → Prop} (h : CallR X f r) (h' : CallR X f r') : CallR X f (fun xs H Q => r xs H Q ∨ r' xs H Q) := by
  intro pins s σ H xs us Q I rx q
  rcases q with q | q
  · exact h pins s σ H xs us Q I rx q
  · exact h' pins s σ H xs us Q I rx q
/-- len -/
def D.len : D → Option Nat
  | .tup xs => some xs.length
  | .lst xs => some xs.length
  | .str z => if z.length ≤ sizeLine then some z.length else none
  | .dK kds => some kds.length
  | .dT kds => some kds.length
  | .kup xs => some xs.length
  | _ => none
def rLenD (ds : List D) (G : GH) (Q : DQ) : Prop := match ds with
  | [d] => (match (d.cur G).len with
    | some n => Q (.int (n : Nat)) G
    | none => False)
  | _ => False
theorem cd_len : CallD X (.builtin "len") rLenD := by
  refine ⟨_, CallR.or call_len (CallR.or call_lenD call_len_dT), fun F H G vs ds g rs Q' h Q k => ?_⟩
  unfold rLenD at h
  split at h
  · rename_i d
    cases rs with
    | cons r b =>
      cases b
      split at h
      · rename_i n en
        have fin : Q (.int (n : Nat)) H := k F H _ _ G Go.refl g (.int _) h
        unfold D.len at en
        split at en
        · rename_i xs ex
          cases en
          obtain ⟨a, vs, rfl, ha, rs⟩ := cur_tup r ex
          exact .inl ⟨_, _, rfl, .inr ⟨vs, .inl (.inl (g.ex _ _ ha)), rs.length.symm⟩, fin⟩
        · rename_i xs ex
          cases en
          obtain ⟨a, vs, rfl, ha, rs⟩ := cur_list g r ex
          exact .inl ⟨_, _, rfl, .inl ⟨vs, .inl (.inl ha), rs.length.symm⟩, fin⟩
        · rename_i z ex
          split at en
          · rename_i hz
            cases en
            have := cur_str r ex
            subst this
            exact .inl ⟨_, _, rfl, ⟨hz, rfl⟩, fin⟩
          · cases en
        · rename_i kds ex
          cases en
          obtain ⟨a, kvs, rfl, ha, kr⟩ := cur_dK g r ex
          exact .inr (.inl ⟨a, kvs, rfl, ha, by rw [kr.len]; exact fin⟩)
        · rename_i kds ex
          cases en
          obtain ⟨a, kvs, rfl, ha, kr⟩ := cur_dT g r ex
          exact .inr (.inr ⟨a, kvs, rfl, ha, by rw [kr.len]; exact fin⟩)
        · rename_i xs ex
          cases en
          obtain ⟨a, vs, rfl, ha, rs⟩ := cur_kup r ex
          exact .inl ⟨_, _, rfl, .inr ⟨vs, g.ex.sqt ha, rs.length.symm⟩, fin⟩
        · cases en
      · exact h.elim
  · exact h.elim
/-- tuple(x) of a list, a tuple -/
def rTupleD (ds : List D) (G : GH) (Q : DQ) : Prop := match ds with
  | [d] => (match d.cur G with
    | .tup xs => Q (.tup xs) G
    | .lst xs => Q (.tup xs) G
    | _ => False)
  | _ => False
theorem cd_tuple : CallD X (.type "tuple") rTupleD := by
  refine ⟨_, call_tuple_of, fun F H G vs ds g rs Q' h Q k => ?_⟩
  unfold rTupleD at h
  split at h
  · rename_i d
    cases rs with
    | cons r b =>
      cases b
      split at h
      · rename_i xs ex
        obtain ⟨a, vs, rfl, ha, rs⟩ := cur_tup r ex
        exact ⟨a, vs, rfl, .inr ⟨.inl (.inl (g.ex _ _ ha)), k F H _ _ G Go.refl g (.tup ha rs) h⟩⟩
      · rename_i xs ex
        obtain ⟨a, vs, rfl, ha, rs⟩ := cur_list g r ex
        refine ⟨a, vs, rfl, .inl ⟨.inl (.inl ha), fun l hl => ?_⟩⟩
        have gr := Gr.new (u := .tup vs) g.ex hl
        exact k _ _ _ _ G gr.go (g.grow gr) (.tup upd_same (rs.mono gr.ff)) h
      · exact h.elim
  · exact h.elim
/-- list(x) of a list, a tuple: frozen -/
def rListD (ds : List D) (G : GH) (Q : DQ) : Prop := match ds with
  | [d] => (match d.cur G with
    | .tup xs => Q (.lst xs) G
    | .lst xs => Q (.lst xs) G
    | _ => False)
  | _ => False
theorem cd_list : CallD X (.type "list") rListD := by
  refine ⟨_, call_list_of, fun F H G vs ds g rs Q' h Q k => ?_⟩
  unfold rListD at h
  split at h
  · rename_i d
    cases rs with
    | cons r b =>
      cases b
      split at h
      · rename_i xs ex
        obtain ⟨a, vs, rfl, ha, rs⟩ := cur_tup r ex
        refine ⟨a, vs, rfl, .inr (.inl (.inl (g.ex _ _ ha))), fun l hl => ?_⟩
        have gr := Gr.new (u := .lst vs) g.ex hl
        exact k _ _ _ _ G gr.go (g.grow gr) (.lst upd_same (rs.mono gr.ff)) h
      · rename_i xs ex
        obtain ⟨a, vs, rfl, ha, rs⟩ := cur_list g r ex
        refine ⟨a, vs, rfl, .inl (.inl (.inl ha)), fun l hl => ?_⟩
        have gr := Gr.new (u := .lst vs) g.ex hl
        exact k _ _ _ _ G gr.go (g.grow gr) (.lst upd_same (rs.mono gr.ff)) h
      · exact h.elim
  · exact h.elim
/-- {}: a dict that will change -/
def dNewK : DTE := fun _ G Q => ∀ p, G p = none → Q (.rf p) (gput G p (.dK []))
def dNewT : DTE := fun _ G Q => ∀ p, G p = none → Q (.rf p) (gput G p (.dT []))
theorem de_newK : DE X (.Dict [] [] pos) dNewK := by
  refine ⟨_, pe_dnewK, fun F H σ S G o Q' h Q k => ?_⟩
  intro p hp
  exact k _ _ _ _ _ (Go.alloc hp) (o.g.alloc (o := .dK []) hp rfl ⟨[], upd_same, rfl, .nil⟩) (.rf p) (h p (o.g.free hp))
end
end DL
end
section
set_option Elab.async false
set_option linter.all false
set_option maxRecDepth 100000
set_option maxHeartbeats 4000000
namespace DL
open PySem PySem.Spec PyProof.Rows L2
def hatE (K : PySem.W.Frag) (t' : DTE) : TE := fun σ H Q => ∃ F S G Q', Ok K F H σ S G ∧ t' S G Q' ∧ KpE K F H G Q' Q
def hatT (K : PySem.W.Frag) (t' : DTT) : TT := fun σ H Q => ∃ F S G Q', Ok K F H σ S G ∧ t' S G Q' ∧ KpT K F H G Q' Q
theorem DE.hat {X : Cx} {e : Expr} {t' : DTE} (h : DE X e t') : PE X e (hatE X.K t') := by
  obtain ⟨t, p, r⟩ := h.ex
  exact ⟨fun pins s σ H Q I ⟨F, S, G, Q', o, h1, k⟩ => p.run pins s σ H Q I (r F H σ S G o Q' h1 Q k)⟩
theorem DT.hat {X : Cx} {e : Expr} {t' : DTT} (h : DT X e t') : PT X e (hatT X.K t') := by
  obtain ⟨t, p, r⟩ := h.ex
  exact ⟨fun pins s σ H Q I ⟨F, S, G, Q', o, h1, k⟩ => p.run pins s σ H Q I (r F H σ S G o Q' h1 Q k)⟩
/-- the tests of a comprehension -/
structure DTs (X : Cx) (ifs : List Expr) (t' : DTT) : Prop where
  pt : PTs X ifs (hatT X.K t')
def dYes : DTT := fun _ G Q => Q true G
theorem dts_nil {X : Cx} : DTs X [] dYes := ⟨⟨fun pins s σ H Q I ⟨F, S, G, Q', o, h1, k⟩ => (pts_nil (X := X)).run pins s σ H Q I (k F H true G Go.refl o.g h1)⟩⟩
theorem dts_one {X : Cx} {c : Expr} {t' : DTT} (h : DT X c t') : DTs X [c] t' := ⟨pts_one h.hat⟩
inductive Pat where
  | nm (i : Nat) | tp (is : List Nat) | tn (i : Nat) (is : List Nat) | nt (is : List Nat) (j : Nat) | nn (is js : List Nat)
def gNames : List Nat → TGs
  | [] => gNil
  | i :: is => gCons (gName i) (gNames is)
def Pat.g (K : PySem.W.Frag) : Pat → TG
  | .nm i => gName i
  | .tp is => gTup K is.length (gNames is)
  | .tn i is => gTup K 2 (gCons (gName i) (gCons (gTup K is.length (gNames is)) gNil))
  | .nt is j => gTup K 2 (gCons (gTup K is.length (gNames is)) (gCons (gName j) gNil))
  | .nn is js => gTup K 2 (gCons (gTup K is.length (gNames is)) (gCons (gTup K js.length (gNames js)) gNil))
def Pat.at_ : Pat → List Nat
  | .nm i => [i]
  | .tp is => is
  | .tn i is => i :: is
  | .nt is j => is ++ [j]
  | .nn is js => is ++ js
def D.parts : D → Option (List D)
  | .tup ds => some ds
  | .kup ds => some ds
  | _ => none
theorem Rep.parts {K : PySem.W.Frag} {F : Hp} {v : V} {d : D} {ds : List D} (r : Rep K F v d) (h : d.parts = some ds) : ∃ a vs, v = .ref a ∧ SqT K F a vs ∧ Reps K F vs ds := by
  cases r with
  | tup ha rs => cases h; exact ⟨_, _, rfl, .inl (.inl ha), rs⟩
  | kup ha rs => cases h; exact ⟨_, _, rfl, ha, rs⟩
  | _ => cases h
def setAll : List Nat → List D → DS → Option DS
  | [], [], S => some S
  | i :: is, d :: ds, S => setAll is ds (S.set i (some d))
  | _, _, _ => none
def Pat.put (p : Pat) (d : D) (S : DS) : Option DS := match p with
  | .nm i => some (S.set i (some d))
  | .tp is => (match d with
    | .tup ds => setAll is ds S
    | .kup ds => setAll is ds S
    | _ => none)
  | .tn i is => (match d with
    | .tup [x, .tup ds] => setAll is ds (S.set i (some x))
    | _ => none)
  | .nt is j => (match d with
    | .tup [x, y] => (match x.parts with
      | some ds => (setAll is ds S).map fun S2 => S2.set j (some y)
      | none => none)
    | _ => none)
  | .nn is js => (match d with
    | .tup [x, y] => (match x.parts, y.parts with
      | some ds, some es => (match setAll is ds S with
        | some S2 => setAll js es S2
        | none => none)
      | _, _ => none)
    | _ => none)
def dwipe (S : DS) : List Nat → DS
  | [] => S
  | v :: vs => (dwipe S vs).set v none
theorem wipe_slots {K : PySem.W.Frag} {F : Hp} {σ : L2.St} {S : DS} (h : Slots K F σ S) : ∀ vs : List Nat, Slots K F (wipe σ vs) (dwipe S vs)
  | [] => h
  | v :: vs => (wipe_slots h vs).setN none v
theorem wipe_set {σ : L2.St} {i : Nat} {x : Option V} : ∀ {vs : List Nat}, i ∈ vs → wipe (σ.set i x) vs = wipe σ vs
  | [], h => by simp at h
  | v :: vs, h => by
    unfold wipe
    by_cases e : i ∈ vs
    · rw [wipe_set e]
    · have iv : i = v := by
        rcases List.mem_cons.mp h with h | h
        · exact h
        · exact absurd h e
      subst iv
      have aux : ∀ us : List Nat, i ∉ us → wipe (σ.set i x) us = (wipe σ us).set i x := by
        intro us
        induction us with
        | nil => intro _; rfl
        | cons u us ih =>
          intro hu
          rw [List.mem_cons, not_or] at hu
          unfold wipe
          rw [ih hu.2, List.set_comm _ _ hu.1]
      rw [aux vs e, List.set_set]
theorem wipe_wipe {σ : L2.St} {vs : List Nat} : wipe (wipe σ vs) vs = wipe σ vs := by
  have aux : ∀ us : List Nat, (∀ u ∈ us, u ∈ vs) → wipe (wipe σ us) vs = wipe σ vs := by
    intro us
    induction us with
    | nil => intro _; rfl
    | cons u us ih =>
      intro hu
      show wipe ((wipe σ us).set u none) vs = _
      rw [wipe_set (hu u (by simp)), ih fun w hw => hu w (by simp [hw])]
  exact aux vs fun _ h => h
theorem names_ok {K : PySem.W.Frag} {F H : Hp} {G : GH} {vs0 : List Nat} : ∀ {is : List Nat} {ds : List D} {vs : List V} {σ : L2.St} {S S2 : DS} {Q : L2.St → Hp → Prop}, (∀ i ∈ is, i ∈ vs0) → Ok K F H σ S G → Reps K F vs ds → setAll is ds S = some S2 →
    (∀ σ2, wipe σ2 vs0 = wipe σ vs0 → Ok K F H σ2 S2 G → Q σ2 H) → gNames is vs σ H Q
  | [], [], vs, σ, S, S2, Q, _, o, r, h, k => by
    cases r
    cases h
    exact ⟨rfl, k σ rfl o⟩
  | i :: is, d :: ds, vs, σ, S, S2, Q, hi, o, r, h, k => by
    cases r with
    | cons a b =>
      refine ⟨_, _, rfl, ?_⟩
      show gNames is _ _ H Q
      refine names_ok (S := S.set i (some d)) (fun j hj => hi j (by simp [hj])) ⟨o.g, o.s.set a i⟩ b h fun σ2 e o2 => k σ2 ?_ o2
      rw [e, wipe_set (hi i (by simp))]
  | [], _ :: _, _, _, _, _, _, _, _, _, h, _ => by cases h
  | _ :: _, [], _, _, _, _, _, _, _, _, h, _ => by cases h
theorem setAll_len : ∀ {is : List Nat} {ds : List D} {S S2 : DS}, setAll is ds S = some S2 → ds.length = is.length
  | [], [], _, _, _ => rfl
  | [], _ :: _, _, _, h => by cases h
  | _ :: _, [], _, _, h => by cases h
  | i :: is, d :: ds, S, S2, h => by
    have := setAll_len (is := is) (ds := ds) (S := S.set i (some d)) h
    simp [this]
theorem put_tn {i : Nat} {is : List Nat} {d : D} {S S2 : DS} (h : (Pat.tn i is).put d S = some S2) : ∃ x ds, d = .tup [x, .tup ds] ∧ setAll is ds (S.set i (some x)) = some S2 := by
  unfold Pat.put at h
  simp only at h
  split at h
  · exact ⟨_, _, rfl, h⟩
  · cases h
theorem pat_ok {K : PySem.W.Frag} {F H : Hp} {G : GH} {vs0 : List Nat} {p : Pat} {d : D} {v : V} {σ : L2.St} {S S2 : DS} {Q : L2.St → Hp → Prop} (hp : ∀ i ∈ p.at_, i ∈ vs0) (o : Ok K F H σ S G) (r : Rep K F v d) (h : p.put d S = some S2)
    (k : ∀ σ2, wipe σ2 vs0 = wipe σ vs0 → Ok K F H σ2 S2 G → Q σ2 H) : p.g K v σ H Q := by
  cases p with
  | nm i =>
    cases h
    exact k _ (wipe_set (hp i (by simp [Pat.at_]))) ⟨o.g, o.s.set r i⟩
  | tp is =>
    unfold Pat.put at h
    cases d with
    | tup ds =>
      simp only at h
      cases r with
      | tup ha rs =>
        have hl : ds.length = is.length := by
          clear ha rs o k hp
          induction is generalizing ds S with
          | nil => cases ds with
            | nil => rfl
            | cons a b => cases h
          | cons i is ih => cases ds with
            | nil => cases h
            | cons a b => simpa using ih _ h
        exact ⟨_, _, rfl, .inl (.inl (o.g.ex _ _ ha)), by rw [rs.length]; exact hl, names_ok hp o rs h k⟩
    | kup ds =>
      simp only at h
      cases r with
      | kup ha rs => exact ⟨_, _, rfl, o.g.ex.sqt ha, by rw [rs.length]; exact setAll_len h, names_ok hp o rs h k⟩
    | _ => cases h
  | tn i is =>
    obtain ⟨x, ds, rfl, h⟩ := put_tn h
    cases r with
    | tup ha rs =>
      cases rs with
      | cons rx rs =>
        cases rs with
        | cons ry rs =>
          cases rs
          cases ry with
          | tup hb ts =>
            have hl : ds.length = is.length := setAll_len h
            refine ⟨_, _, rfl, .inl (.inl (o.g.ex _ _ ha)), rfl, _, _, rfl, ?_⟩
            refine ⟨_, _, rfl, ?_⟩
            refine ⟨_, _, rfl, .inl (.inl (o.g.ex _ _ hb)), by rw [ts.length]; exact hl, ?_⟩
            refine names_ok (S := S.set i (some x)) (fun j hj => hp j (by simp [Pat.at_, hj])) ⟨o.g, o.s.set rx i⟩ ts h fun σ2 e o2 => ⟨rfl, k σ2 ?_ o2⟩
            rw [e, wipe_set (hp i (by simp [Pat.at_]))]
  | nt is j =>
    unfold Pat.put at h
    simp only at h
    split at h
    · rename_i x y
      split at h
      · rename_i ds ex
        cases e2 : setAll is ds S with
        | none => rw [e2] at h; cases h
        | some S3 =>
          rw [e2] at h
          cases h
          cases r with
          | tup ha rs =>
            cases rs with
            | cons rx rs =>
              cases rs with
              | cons ry rs =>
                cases rs
                obtain ⟨a, vs, rfl, hb, ts⟩ := rx.parts ex
                have hl := setAll_len e2
                refine ⟨_, _, rfl, .inl (.inl (o.g.ex _ _ ha)), rfl, _, _, rfl, ?_⟩
                refine ⟨_, _, rfl, o.g.ex.sqt hb, by rw [ts.length]; exact hl, ?_⟩
                refine names_ok (fun i hi => hp i (by simp [Pat.at_, hi])) o ts e2 fun σ2 e o2 => ⟨_, _, rfl, rfl, k _ ?_ ⟨o2.g, o2.s.set ry j⟩⟩
                rw [wipe_set (hp j (by simp [Pat.at_])), e]
      · cases h
    · cases h
  | nn is js =>
    unfold Pat.put at h
    simp only at h
    split at h
    · rename_i x y
      split at h
      · rename_i ds es ex ey
        cases e2 : setAll is ds S with
        | none => rw [e2] at h; cases h
        | some S3 =>
          rw [e2] at h
          cases r with
          | tup ha rs =>
            cases rs with
            | cons rx rs =>
              cases rs with
              | cons ry rs =>
                cases rs
                obtain ⟨a, vs, rfl, hb, ts⟩ := rx.parts ex
                obtain ⟨a', vs', rfl, hb', ts'⟩ := ry.parts ey
                refine ⟨_, _, rfl, .inl (.inl (o.g.ex _ _ ha)), rfl, _, _, rfl, ?_⟩
                refine ⟨_, _, rfl, o.g.ex.sqt hb, by rw [ts.length]; exact setAll_len e2, ?_⟩
                refine names_ok (fun i hi => hp i (by simp [Pat.at_, hi])) o ts e2 fun σ2 e o2 => ⟨_, _, rfl, ?_⟩
                refine ⟨_, _, rfl, o2.g.ex.sqt hb', by rw [ts'.length]; exact setAll_len h, ?_⟩
                refine names_ok (fun i hi => hp i (by simp [Pat.at_, hi])) o2 ts' h fun σ4 e4 o4 => ⟨rfl, k σ4 ?_ o4⟩
                rw [e4, e]
      · cases h
    · cases h
section
variable {X : Cx} {pos : Pos}
/-- [e for p in .. if t] -/
def dLc (wi : DTI) (p : Pat) (tt : DTT) (te : DTE) (vs : List Nat) : DTE := fun S G Q => wi S G fun ds gd G1 => ds.length ≤ sizeLine ∧ ∃ W : Nat → List D → GH → Prop, W 0 [] G1 ∧ (∀ i acc G, W i acc G → gd G) ∧
  (∀ i acc G d, W i acc G → ds[i]? = some d → ∃ S2, p.put d (dwipe S vs) = some S2 ∧ tt S2 G fun b G2 => if b = true then te S2 G2 fun y G3 => W (i + 1) (acc ++ [y]) G3 else W (i + 1) acc G2) ∧
  ∀ acc G, W ds.length acc G → Q (.lst acc) G
/-- the same, the list may change later -/
def dLcM (wi : DTI) (p : Pat) (tt : DTT) (te : DTE) (vs : List Nat) : DTE := fun S G Q => dLc wi p tt te vs S G fun d G' => match d with
  | .lst acc => ∀ a, G' a = none → Q (.rf a) (gput G' a (.lst acc))
  | _ => False
theorem lc_refine {wi : DTI} {p : Pat} {tt : DTT} {te : DTE} {vs : List Nat} {tw : TI} (hp : ∀ i ∈ p.at_, i ∈ vs)
    (r0 : ∀ F H σ S G, Ok X.K F H σ S G → ∀ R', wi S G R' → ∀ R : It → Hp → Prop, (∀ F1 H1 G1 J ds gd, Go F H G F1 H1 G1 → Gok X.K F1 H1 G1 → ItOk X.K F1 J ds gd → R' ds gd G1 → R J H1) → tw σ H R)
    {F H : Hp} {σ : L2.St} {S : DS} {G : GH} (o : Ok X.K F H σ S G) {Q' : List D → GH → Prop} {Q : VK}
    (h : wi S G fun ds gd G1 => ds.length ≤ sizeLine ∧ ∃ W : Nat → List D → GH → Prop, W 0 [] G1 ∧ (∀ i acc G, W i acc G → gd G) ∧
      (∀ i acc G d, W i acc G → ds[i]? = some d → ∃ S2, p.put d (dwipe S vs) = some S2 ∧ tt S2 G fun b G2 => if b = true then te S2 G2 fun y G3 => W (i + 1) (acc ++ [y]) G3 else W (i + 1) acc G2) ∧ ∀ acc G, W ds.length acc G → Q' acc G)
    (k : ∀ F' H' G' D accV acc, H D = none → Go F H G F' H' G' → Gok X.K F' H' G' → H' D = some (.lst accV) → Reps X.K F' accV acc → F' D = none → G' D = none → Q' acc G' → Q (.ref D) H') :
    tLc tw (p.g X.K) (hatT X.K tt) (hatE X.K te) vs σ H Q := by
  refine r0 F H σ S G o _ h _ fun F1 H1 G1 J ds gd e1 g1 it h1 => ?_
  obtain ⟨hz, W, w0, wg, turn, done⟩ := h1
  intro D hD
  have gD : G1 D = none := g1.free hD
  have fD : F1 D = none := g1.ex.nope hD
  have go0 : Go F1 H1 G1 F1 (upd H1 D (.lst [])) G1 := by
    have := (Gr.only (u := .lst []) g1.ex hD).go (G := G1)
    exact this
  have g0 : Gok X.K F1 (upd H1 D (.lst [])) G1 := g1.grow (Gr.only g1.ex hD)
  refine ⟨fun i m H2 => i + m = ds.length ∧ ∃ F2 G2 accV acc, Go F1 H1 G1 F2 H2 G2 ∧ Gok X.K F2 H2 G2 ∧ H2 D = some (.lst accV) ∧ Reps X.K F2 accV acc ∧ F2 D = none ∧ G2 D = none ∧ acc.length ≤ i ∧ W i acc G2,
    ⟨ds.length, Nat.zero_add _, F1, G1, [], [], go0, g0, upd_same, .nil, fD, gD, Nat.le_refl _, w0⟩, ?_⟩
  rintro i m H2 ⟨him, F2, G2, accV, acc, e2, g2, hd2, rs2, fd2, gd2, hl2, w2⟩
  have gg := wg i acc G2 w2
  cases m with
  | zero =>
    have hi : i = ds.length := him
    refine .inl ⟨hi ▸ it.stop F2 H2 G2 e2.ex g2 gg, ?_⟩
    exact k F2 H2 G2 D accV acc (e1.st D hD) (e1.trans e2) g2 hd2 rs2 fd2 gd2 (done acc G2 (hi ▸ w2))
  | succ m =>
    have hlt : i < ds.length := by omega
    have hd : ds[i]? = some ds[i] := List.getElem?_eq_getElem hlt
    obtain ⟨ig, iy⟩ := it.go F2 H2 G2 i _ e2.ex g2 gg hd
    refine .inr ⟨ig, fun H3 => ∃ F3 G3 accV acc, Go F1 H1 G1 F3 H3 G3 ∧ Gok X.K F3 H3 G3 ∧ H3 D = some (.lst accV) ∧ Reps X.K F3 accV acc ∧ F3 D = none ∧ G3 D = none ∧ acc.length ≤ i + 1 ∧ W (i + 1) acc G3,
      fun H3 z => ⟨m, Nat.lt_succ_self m, by omega, z⟩, fun x H3 hy => ?_⟩
    obtain ⟨F3, e3, g3, q3⟩ := iy x H3 hy
    obtain ⟨S2, hS2, body⟩ := turn i acc G2 _ w2 hd
    have o3 : Ok X.K F3 H3 (wipe σ vs) (dwipe S vs) G2 := ⟨g3, wipe_slots (((o.s.mono e1.ex).mono e2.ex).mono e3.ex) vs⟩
    have hd3 : H3 D = some (.lst accV) := (e3.fr D _ hd2 gd2).1
    have fd3 : F3 D = none := e3.no D _ hd2 gd2 fd2 (fun _ z => nomatch z)
    refine pat_ok hp o3 q3 hS2 fun σ2 ew o4 => ⟨by rw [ew, wipe_wipe], ?_⟩
    refine ⟨F3, S2, G2, _, o4, body, fun F5 H5 b G5 e5 g5 h5 => ?_⟩
    have hd5 := e5.fr D _ hd3 gd2
    have fd5 := e5.no D _ hd3 gd2 fd3 (fun _ z => nomatch z)
    cases b with
    | true =>
      dsimp only
      rw [if_pos rfl] at h5 ⊢
      refine ⟨F5, S2, G5, _, o4.go e5 g5, h5, fun F6 H6 y dy G6 e6 g6 r6 h6 => ?_⟩
      have hd6 := e6.fr D _ hd5.1 hd5.2
      have fd6 := e6.no D _ hd5.1 hd5.2 fd5 (fun _ z => nomatch z)
      have r6' := ((rs2.mono e3.ex).mono e5.ex).mono e6.ex
      refine ⟨accV, hd6.1, by rw [rs2.length]; omega, F6, G6, accV ++ [y], acc ++ [dy], ?_, ?_, upd_same, r6'.append (.one r6), fd6, hd6.2, by simp; omega, h6⟩
      · have ea := (((e2.trans e3).trans e5).trans e6)
        refine ⟨ea.ex, fun b u hb gb => ?_, ea.no, fun b z => ea.st b (upd_none z)⟩
        have q : b ≠ D := fun z => by rw [z, hD] at hb; cases hb
        rw [upd_ne q]
        exact ea.fr b u hb gb
      · refine ⟨g6.ex.updR fd6, fun a w ha => ?_, g6.one⟩
        have q : a ≠ D := fun z => by rw [z, hd6.2] at ha; cases ha
        obtain ⟨fa, ma⟩ := g6.at_ a w ha
        refine ⟨fa, ma.move (Ex.refl F6) (fun b u hb hc => ?_) fun c z => z⟩
        have q2 : b ≠ D := fun z => by
          rcases hc with hc | hc
          · exact q (hc ▸ z)
          · rw [z, hd6.2] at hc; cases hc
        rw [upd_ne q2]; exact hb
    | false =>
      dsimp only
      rw [if_neg Bool.false_ne_true] at h5 ⊢
      exact ⟨F5, G5, accV, acc, (e2.trans e3).trans e5, g5, hd5.1, (rs2.mono e3.ex).mono e5.ex, fd5, hd5.2, by omega, h5⟩
/-- freeze what is in no one's hands -/
theorem hold_freeze {K : PySem.W.Frag} {F H : Hp} {G : GH} {D : Addr} {u : HO} (g : Gok K F H G) (hd : H D = some u) (fd : F D = none) (gd : G D = none) : Gok K (upd F D u) H G := by
  refine ⟨fun a w z => ?_, fun a w e => ?_, g.one⟩
  · by_cases q : a = D
    · subst q; rw [upd_same] at z; cases z; exact hd
    · rw [upd_ne q] at z; exact g.ex a w z
  · have q : a ≠ D := fun y => by rw [y, gd] at e; cases e
    obtain ⟨f, m⟩ := g.at_ a w e
    exact ⟨by rw [upd_ne q]; exact f, m.move (Ex.new fd) (fun b w hb _ => hb) fun c z => z⟩
theorem hold_own {K : PySem.W.Frag} {F H : Hp} {G : GH} {D : Addr} {vs : List V} {ds : List DL.D} (g : Gok K F H G) (hd : H D = some (.lst vs)) (fd : F D = none) (gd : G D = none) (r : Reps K F vs ds) : Gok K F H (gput G D (.lst ds)) := by
  refine ⟨g.ex, fun a w e => ?_, fun a b k1 k2 k3 n j1 j2 j3 m e1 e2 => ?_⟩
  · by_cases q : a = D
    · subst q
      rw [gput_same] at e; cases e
      exact ⟨fd, vs, hd, r⟩
    · rw [gput_ne q] at e
      obtain ⟨f, m⟩ := g.at_ a w e
      refine ⟨f, m.move (Ex.refl F) (fun b w hb _ => hb) fun c z => ?_⟩
      have q2 : c ≠ D := fun y => by rw [y, gd] at z; cases z
      rw [gput_ne q2]; exact z
  · have ha : a ≠ D := fun y => by rw [y, gput_same] at e1; cases e1
    have hb : b ≠ D := fun y => by rw [y, gput_same] at e2; cases e2
    rw [gput_ne ha] at e1; rw [gput_ne hb] at e2
    exact g.one a b k1 k2 k3 n j1 j2 j3 m e1 e2
theorem go_hold {F H F' H' : Hp} {G G' : GH} {D : Addr} {u : HO} (h : H D = none) (go : Go F H G F' H' G') (fd : F' D = none) : Go F H G (upd F' D u) H' G' := by
  refine ⟨go.ex.trans (Ex.new fd), go.fr, fun b w hb gb fb t => ?_, go.st⟩
  have q : b ≠ D := fun z => by rw [z, h] at hb; cases hb
  rw [upd_ne q]; exact go.no b w hb gb fb t
theorem go_own {F H F' H' : Hp} {G G' : GH} {D : Addr} {o : MO} (h : H D = none) (go : Go F H G F' H' G') : Go F H G F' H' (gput G' D o) := by
  refine ⟨go.ex, fun b w hb gb => ?_, go.no, go.st⟩
  have q : b ≠ D := fun z => by rw [z, h] at hb; cases hb
  rw [gput_ne q]; exact go.fr b w hb gb
theorem de_lc {elt tg iter : Expr} {ifs : List Expr} {scope : Scope} {own : List (Str × Nat)} {wi : DTI} {p : Pat} {tt : DTT} {te : DTE} (hc : X.calm = true) (hN : X.N.Nodup) (hi : DI X tg iter wi) (ok : BlkOk X.N X.env.scope scope own) (hp : ∀ i ∈ p.at_, i ∈ own.map (·.2))
    (hg : ∀ (s : Shared) (H : Hp) (C : Addr) (cl : List (Str × Addr)) (fp : List Addr), PG (X.blk s H scope (compEnvC scope cl C X.env) fp) tg (p.g X.K)) (ht : ∀ (s : Shared) (H : Hp) (C : Addr) (cl : List (Str × Addr)) (fp : List Addr), DTs (X.blk s H scope (compEnvC scope cl C X.env) fp) ifs tt)
    (he : ∀ (s : Shared) (H : Hp) (C : Addr) (cl : List (Str × Addr)) (fp : List Addr), DE (X.blk s H scope (compEnvC scope cl C X.env) fp) elt te) (hs : ∀ x, foldedSetIterable iter X.env x = pure x := by intro _; rfl) :
    DE X (.ListComp elt [⟨tg, iter, ifs, 0⟩] scope pos) (dLc wi p tt te (own.map (·.2))) := by
  obtain ⟨tw, p0, r0⟩ := hi.ex
  refine ⟨_, pe_lc (tt := hatT X.K tt) (te := hatE X.K te) hc hN p0 ok hg (fun s H C cl fp => (ht s H C cl fp).pt) (fun s H C cl fp => (he s H C cl fp).hat) hs, fun F H σ S G o Q' h Q k => ?_⟩
  refine lc_refine hp r0 o (Q' := fun acc G' => Q' (.lst acc) G') h fun F' H' G' D accV acc hD go g hd rs fd gd q => ?_
  exact k _ H' _ _ G' (go_hold hD go fd) (hold_freeze g hd fd gd) (.lst upd_same (rs.mono (Ex.new fd))) q
theorem de_lcM {elt tg iter : Expr} {ifs : List Expr} {scope : Scope} {own : List (Str × Nat)} {wi : DTI} {p : Pat} {tt : DTT} {te : DTE} (hc : X.calm = true) (hN : X.N.Nodup) (hi : DI X tg iter wi) (ok : BlkOk X.N X.env.scope scope own) (hp : ∀ i ∈ p.at_, i ∈ own.map (·.2))
    (hg : ∀ (s : Shared) (H : Hp) (C : Addr) (cl : List (Str × Addr)) (fp : List Addr), PG (X.blk s H scope (compEnvC scope cl C X.env) fp) tg (p.g X.K)) (ht : ∀ (s : Shared) (H : Hp) (C : Addr) (cl : List (Str × Addr)) (fp : List Addr), DTs (X.blk s H scope (compEnvC scope cl C X.env) fp) ifs tt)
    (he : ∀ (s : Shared) (H : Hp) (C : Addr) (cl : List (Str × Addr)) (fp : List Addr), DE (X.blk s H scope (compEnvC scope cl C X.env) fp) elt te) (hs : ∀ x, foldedSetIterable iter X.env x = pure x := by intro _; rfl) :
    DE X (.ListComp elt [⟨tg, iter, ifs, 0⟩] scope pos) (dLcM wi p tt te (own.map (·.2))) := by
  obtain ⟨tw, p0, r0⟩ := hi.ex
  refine ⟨_, pe_lc (tt := hatT X.K tt) (te := hatE X.K te) hc hN p0 ok hg (fun s H C cl fp => (ht s H C cl fp).pt) (fun s H C cl fp => (he s H C cl fp).hat) hs, fun F H σ S G o Q' h Q k => ?_⟩
  refine lc_refine hp r0 o (Q' := fun acc G' => ∀ a, G' a = none → Q' (.rf a) (gput G' a (.lst acc))) h fun F' H' G' D accV acc hD go g hd rs fd gd q => ?_
  exact k F' H' _ _ _ (go_own hD go) (hold_own g hd fd gd rs) (.rf D) (q D gd)
/-- name = [..] on one line -/
theorem dp_setLc {i : Nat} {y : Str} {py spos : Pos} {elt tg iter : Expr} {ifs : List Expr} {scope : Scope} {own : List (Str × Nat)} {wi : DTI} {p : Pat} {tt : DTT} {te : DTE} (hc : X.calm = true) (hN : X.N.Nodup) (hy : X.N[i]? = some y) (hyl : X.env.scope.names.lookup y = some .local)
    (hsw : swapsWith (.ListComp elt [⟨tg, iter, ifs, 0⟩] scope pos) (some (.Name y py)) spos.line X.env = pure true) (hi : DI X tg iter wi) (ok : BlkOk X.N X.env.scope scope own) (hp : ∀ i ∈ p.at_, i ∈ own.map (·.2))
    (hg : ∀ (s : Shared) (H : Hp) (C : Addr) (cl : List (Str × Addr)) (fp : List Addr), PG (X.blk s H scope (compEnvC scope cl C X.env) fp) tg (p.g X.K)) (ht : ∀ (s : Shared) (H : Hp) (C : Addr) (cl : List (Str × Addr)) (fp : List Addr), DTs (X.blk s H scope (compEnvC scope cl C X.env) fp) ifs tt)
    (he : ∀ (s : Shared) (H : Hp) (C : Addr) (cl : List (Str × Addr)) (fp : List Addr), DE (X.blk s H scope (compEnvC scope cl C X.env) fp) elt te) (hs : ∀ x, foldedSetIterable iter X.env x = pure x := by intro _; rfl) :
    DP X (.Assign [.Name y py] (.ListComp elt [⟨tg, iter, ifs, 0⟩] scope pos) spos) (dAsg (dLc wi p tt te (own.map (·.2))) (dgName i)) := by
  obtain ⟨tw, p0, r0⟩ := hi.ex
  refine ⟨_, ps_setLc (tt := hatT X.K tt) (te := hatE X.K te) hc hN hy hyl hsw p0 ok hg (fun s H C cl fp => (ht s H C cl fp).pt) (fun s H C cl fp => (he s H C cl fp).hat) hs, fun F H σ S G o D' h D0 k => ?_⟩
  refine lc_refine hp r0 o (Q' := fun acc G' => D'.nx (S.set i (some (.lst acc))) G') h fun F' H' G' D accV acc hD go g hd rs fd gd q => ?_
  have go2 := go_hold (u := .lst accV) hD go fd
  exact k.nx _ H' _ _ G' go2 ⟨hold_freeze g hd fd gd, (o.s.mono go2.ex).set (.lst upd_same (rs.mono (Ex.new fd))) i⟩ q
theorem dp_setLcM {i : Nat} {y : Str} {py spos : Pos} {elt tg iter : Expr} {ifs : List Expr} {scope : Scope} {own : List (Str × Nat)} {wi : DTI} {p : Pat} {tt : DTT} {te : DTE} (hc : X.calm = true) (hN : X.N.Nodup) (hy : X.N[i]? = some y) (hyl : X.env.scope.names.lookup y = some .local)
    (hsw : swapsWith (.ListComp elt [⟨tg, iter, ifs, 0⟩] scope pos) (some (.Name y py)) spos.line X.env = pure true) (hi : DI X tg iter wi) (ok : BlkOk X.N X.env.scope scope own) (hp : ∀ i ∈ p.at_, i ∈ own.map (·.2))
    (hg : ∀ (s : Shared) (H : Hp) (C : Addr) (cl : List (Str × Addr)) (fp : List Addr), PG (X.blk s H scope (compEnvC scope cl C X.env) fp) tg (p.g X.K)) (ht : ∀ (s : Shared) (H : Hp) (C : Addr) (cl : List (Str × Addr)) (fp : List Addr), DTs (X.blk s H scope (compEnvC scope cl C X.env) fp) ifs tt)
    (he : ∀ (s : Shared) (H : Hp) (C : Addr) (cl : List (Str × Addr)) (fp : List Addr), DE (X.blk s H scope (compEnvC scope cl C X.env) fp) elt te) (hs : ∀ x, foldedSetIterable iter X.env x = pure x := by intro _; rfl) :
    DP X (.Assign [.Name y py] (.ListComp elt [⟨tg, iter, ifs, 0⟩] scope pos) spos) (dAsg (dLcM wi p tt te (own.map (·.2))) (dgName i)) := by
  obtain ⟨tw, p0, r0⟩ := hi.ex
  refine ⟨_, ps_setLc (tt := hatT X.K tt) (te := hatE X.K te) hc hN hy hyl hsw p0 ok hg (fun s H C cl fp => (ht s H C cl fp).pt) (fun s H C cl fp => (he s H C cl fp).hat) hs, fun F H σ S G o D' h D0 k => ?_⟩
  refine lc_refine hp r0 o (Q' := fun acc G' => ∀ a, G' a = none → D'.nx (S.set i (some (.rf a))) (gput G' a (.lst acc))) h fun F' H' G' D accV acc hD go g hd rs fd gd q => ?_
  have go2 := go_own (o := .lst acc) hD go
  exact k.nx _ H' _ _ _ go2 ⟨hold_own g hd fd gd rs, (o.s.mono go2.ex).set (.rf D) i⟩ (q D gd)
end
end DL
end
section
set_option Elab.async false
set_option linter.all false
set_option maxRecDepth 100000
set_option maxHeartbeats 4000000
namespace DL
open PySem PySem.Spec PyProof.Rows L2
def D.hasTy (T : String) : D → Bool
  | .lst _ => T == "list"
  | .str _ => T == "str"
  | .dK _ => T == "dict"
  | .dT _ => T == "dict"
  | _ => false
section
variable {X : Cx} {pos : Pos}
structure MtD (X : Cx) (id : String) (r' : D → List D → GH → DQ → Prop) : Prop where
  ex : ∃ r, MtR X id r ∧ ∀ F H G x dx vs ds, Gok X.K F H G → Rep X.K F x dx → Reps X.K F vs ds → ∀ Q', r' dx ds G Q' → ∀ Q, KpE X.K F H G Q' Q → r x vs H Q
theorem hasTy_tyV {F H : Hp} {G : GH} {v : V} {d : D} {T : String} (g : Gok X.K F H G) (r : Rep X.K F v d) (h : D.hasTy T (d.cur G) = true) : tyV X.K T v H := by
  cases e : d.cur G with
  | lst xs =>
    rw [e] at h
    obtain ⟨a, vs, rfl, ha, _⟩ := cur_list g r e
    exact .inl ⟨by simpa [D.hasTy] using h, vs, .inl (.inl ha)⟩
  | str z =>
    rw [e] at h
    rw [cur_str r e]
    show T = "str"
    simpa [D.hasTy] using h
  | dK kds =>
    rw [e] at h
    obtain ⟨a, kvs, rfl, ha, _⟩ := cur_dK g r e
    exact .inr (.inr (.inl ⟨by simpa [D.hasTy] using h, .inl ⟨kvs, ha⟩⟩))
  | dT kds =>
    rw [e] at h
    obtain ⟨a, kvs, rfl, ha, _⟩ := cur_dT g r e
    exact .inr (.inr (.inl ⟨by simpa [D.hasTy] using h, .inr ⟨kvs, ha⟩⟩))
  | _ => rw [e] at h; cases h
def dBM (T : String) (r : D → List D → GH → DQ → Prop) (to : DTE) (ta : DTA) : DTE := fun S G Q => to S G fun x G1 => D.hasTy T (x.cur G1) = true ∧ ta S G1 fun ds G2 => r x ds G2 Q
theorem de_bm {T id : String} {name : Str} {o e : Expr} {es : List Expr} {r' : D → List D → GH → DQ → Prop} {to : DTE} {ta : DTA} {apos : Pos} (pa : PlainAttrs T) (slot : Slot T name id) (hty : typeOf (.builtin id) = pure (.type "method_descriptor")) (hm : MtD X id r') (ho : DE X o to) (ha : DA X (e :: es) ta)
    (hbase : attributeBase o name X.env (eval o X.env) = eval o X.env := by rfl)
    (hfew : ((backTo pos (starEach (e :: es) X.env)).all (fun x => !x.1) && (backToKw pos (keywordEach [] X.env)).all (fun x => x.1.isSome) && decide ((e :: es).length + ([] : List Keyword).length + (if ([] : List Keyword).isEmpty then 0 else 1) < 30)) = true := by rfl)
    (hline : (apos.endLine == pos.line) = true := by rfl) (hs : starEach (e :: es) X.env = (false, eval e X.env) :: starEach es X.env := by rfl) (hplain : (backTo pos (starEach es X.env)).any (·.1) = false := by rfl) :
    DE X (.Call (.Attribute o name apos) (e :: es) [] pos) (dBM T r' to ta) := by
  obtain ⟨r, hr, rr⟩ := hm.ex
  obtain ⟨t1, p1, r1⟩ := ho.ex
  obtain ⟨t2, p2, r2⟩ := ha.ex
  refine ⟨_, pe_bm pa slot hty hr p1 p2 hbase hfew hline hs hplain, fun F H σ S G o Q' h Q k => ?_⟩
  refine r1 F H σ S G o _ h _ fun F1 H1 v d G1 e1 g1 q1 h1 => ?_
  refine ⟨hasTy_tyV g1 q1 h1.1, ?_⟩
  refine r2 F1 H1 σ S G1 (o.go e1 g1) _ h1.2 _ fun F2 H2 vs ds G2 e2 g2 q2 h2 => ?_
  exact rr F2 H2 G2 v d vs ds g2 (q1.mono e2.ex) q2 Q' h2 Q (k.mono (e1.trans e2))
def dBM0 (T : String) (r : D → List D → GH → DQ → Prop) (to : DTE) : DTE := fun S G Q => to S G fun x G1 => D.hasTy T (x.cur G1) = true ∧ r x [] G1 Q
theorem de_bm0 {T id : String} {name : Str} {o : Expr} {r' : D → List D → GH → DQ → Prop} {to : DTE} {apos : Pos} (pa : PlainAttrs T) (slot : Slot T name id) (hty : typeOf (.builtin id) = pure (.type "method_descriptor")) (hm : MtD X id r') (ho : DE X o to)
    (hbase : attributeBase o name X.env (eval o X.env) = eval o X.env := by rfl) (hline : (apos.endLine == pos.line) = true := by rfl) :
    DE X (.Call (.Attribute o name apos) [] [] pos) (dBM0 T r' to) := by
  obtain ⟨r, hr, rr⟩ := hm.ex
  obtain ⟨t1, p1, r1⟩ := ho.ex
  refine ⟨_, pe_bm0 pa slot hty hr p1 hbase hline, fun F H σ S G o Q' h Q k => ?_⟩
  refine r1 F H σ S G o _ h _ fun F1 H1 v d G1 e1 g1 q1 h1 => ?_
  exact ⟨hasTy_tyV g1 q1 h1.1, rr F1 H1 G1 v d [] [] g1 q1 .nil Q' h1.2 Q (k.mono e1)⟩
/-- l.append(e) -/
def rAppendD (x : D) (ds : List D) (G : GH) (Q : DQ) : Prop := match x, ds with
  | .rf a, [d] => (match G a with
    | some (.lst xs) => xs.length < sizeLine ∧ Q .non (gput G a (.lst (xs ++ [d])))
    | _ => False)
  | _, _ => False
theorem md_append : MtD X "list.append" rAppendD := by
  refine ⟨_, mt_append, fun F H G x dx vs ds g rx rs Q' h Q k => ?_⟩
  unfold rAppendD at h
  split at h
  · rename_i a d
    split at h
    · rename_i xs eg
      cases rx
      cases rs with
      | cons r b =>
        cases b
        obtain ⟨fa, ws, ha, rw'⟩ := g.at_ a _ eg
        refine ⟨a, ws, _, rfl, rfl, ha, by rw [rw'.length]; exact h.1, ?_⟩
        exact k F _ _ _ _ (Go.put eg) (g.put (o := .lst (xs ++ [d])) eg rfl rfl ⟨_, upd_same, rw'.append (.one r)⟩) .non h.2
    · exact h.elim
  · exact h.elim
/-- l.extend(m) -/
def rExtendD (x : D) (ds : List D) (G : GH) (Q : DQ) : Prop := match x, ds with
  | .rf a, [d] => (match G a, d.cur G with
    | some (.lst xs), .lst ys => xs.length + ys.length ≤ sizeLine ∧ Q .non (gput G a (.lst (xs ++ ys)))
    | _, _ => False)
  | _, _ => False
theorem md_extend : MtD X "list.extend" rExtendD := by
  refine ⟨_, mt_extend, fun F H G x dx vs ds g rx rs Q' h Q k => ?_⟩
  unfold rExtendD at h
  split at h
  · rename_i a d
    split at h
    · rename_i xs ys eg ey
      cases rx
      cases rs with
      | cons r b =>
        cases b
        obtain ⟨fa, ws, ha, rw'⟩ := g.at_ a _ eg
        obtain ⟨b, zs, rfl, hb, rz⟩ := cur_list g r ey
        refine ⟨a, b, ws, zs, rfl, rfl, ha, hb, by rw [rw'.length, rz.length]; exact h.1, ?_⟩
        exact k F _ _ _ _ (Go.put eg) (g.put (o := .lst (xs ++ ys)) eg rfl rfl ⟨_, upd_same, rw'.append rz⟩) .non h.2
    · exact h.elim
  · exact h.elim
/-- l.pop() -/
def rPopD (x : D) (ds : List D) (G : GH) (Q : DQ) : Prop := match x, ds with
  | .rf a, [] => (match G a with
    | some (.lst xs) => (match xs[xs.length - 1]? with
      | some d => Q d (gput G a (.lst xs.dropLast))
      | none => False)
    | _ => False)
  | _, _ => False
theorem Reps.dropLast {K : PySem.W.Frag} {F : Hp} {vs : List V} {ds : List D} (r : Reps K F vs ds) : Reps K F vs.dropLast ds.dropLast := by
  rw [List.dropLast_eq_take, List.dropLast_eq_take, r.length]
  exact r.take _
theorem md_pop : MtD X "list.pop" rPopD := by
  refine ⟨_, mt_pop, fun F H G x dx vs ds g rx rs Q' h Q k => ?_⟩
  unfold rPopD at h
  split at h
  · rename_i a
    split at h
    · rename_i xs eg
      split at h
      · rename_i d ed
        cases rx
        cases rs
        obtain ⟨fa, ws, ha, rw'⟩ := g.at_ a _ eg
        obtain ⟨v, hv, rv⟩ := rw'.get ed
        refine ⟨a, ws, v, rfl, rfl, ha, by rw [rw'.length]; exact hv, ?_⟩
        exact k F _ _ _ _ (Go.put eg) (g.put (o := .lst xs.dropLast) eg rfl rfl ⟨_, upd_same, rw'.dropLast⟩) rv h
      · exact h.elim
    · exact h.elim
  · exact h.elim
/-- sep.join(texts) -/
def texts : List D → Option (List Str)
  | [] => some []
  | .str x :: r => (texts r).map (x :: ·)
  | _ :: _ => none
theorem texts_rep {K : PySem.W.Frag} {F : Hp} : ∀ {ds : List D} {xs : List Str} {vs : List V}, texts ds = some xs → Reps K F vs ds → vs = xs.map V.str
  | [], xs, _, h, .nil => by cases h; rfl
  | .str x :: r, xs, _, h, .cons a b => by
    unfold texts at h
    cases e : texts r with
    | none => rw [e] at h; cases h
    | some m =>
      rw [e] at h
      cases h
      cases a
      simp [texts_rep e b]
  | .non :: _, _, _, h, _ => by cases h
  | .bl _ :: _, _, _, h, _ => by cases h
  | .int _ :: _, _, _, h, _ => by cases h
  | .ty _ :: _, _, _, h, _ => by cases h
  | .tup _ :: _, _, _, h, _ => by cases h
  | .lst _ :: _, _, _, h, _ => by cases h
  | .dK _ :: _, _, _, h, _ => by cases h
  | .dT _ :: _, _, _, h, _ => by cases h
  | .obj _ _ :: _, _, _, h, _ => by cases h
  | .rf _ :: _, _, _, h, _ => by cases h
  | .scr _ :: _, _, _, h, _ => by cases h
  | .kup _ :: _, _, _, h, _ => by cases h
def rJoinD (x : D) (ds : List D) (G : GH) (Q : DQ) : Prop := match x, ds with
  | .str a, [d] => (match d.cur G with
    | .lst ys => (match texts ys with
      | some zs => (zs.map (·.length)).sum + zs.length * a.length ≤ 16777216 ∧ Q (.str (Txt.join a zs)) G
      | none => False)
    | .tup ys => (match texts ys with
      | some zs => (zs.map (·.length)).sum + zs.length * a.length ≤ 16777216 ∧ Q (.str (Txt.join a zs)) G
      | none => False)
    | _ => False)
  | _, _ => False
theorem md_join : MtD X "str.join" rJoinD := by
  refine ⟨_, mt_join, fun F H G x dx vs ds g rx rs Q' h Q k => ?_⟩
  unfold rJoinD at h
  split at h
  · rename_i a d
    cases rx
    cases rs with
    | cons r b =>
      cases b
      split at h
      · rename_i ys ey
        split at h
        · rename_i zs ez
          obtain ⟨p, ws, rfl, hp, rw'⟩ := cur_list g r ey
          have := texts_rep ez rw'
          subst this
          exact ⟨a, p, zs, rfl, rfl, .inl (.inl (.inl hp)), h.1, k F H _ _ G Go.refl g (.str _) h.2⟩
        · exact h.elim
      · rename_i ys ey
        split at h
        · rename_i zs ez
          obtain ⟨p, ws, rfl, hp, rw'⟩ := cur_tup r ey
          have := texts_rep ez rw'
          subst this
          exact ⟨a, p, zs, rfl, rfl, .inr (.inl (.inl (g.ex _ _ hp))), h.1, k F H _ _ G Go.refl g (.str _) h.2⟩
        · exact h.elim
      · exact h.elim
  · exact h.elim
def dGet1 (td ty : DTE) : DTE := fun S G Q => td S G fun x G1 => D.hasTy "dict" (x.cur G1) = true ∧ ty S G1 fun y G2 => match (x.cur G2).look y with
  | some o => Q (o.getD .non) G2
  | none => False
def dGet2 (td ty tx : DTE) : DTE := fun S G Q => td S G fun x G1 => D.hasTy "dict" (x.cur G1) = true ∧ ty S G1 fun y G2 => tx S G2 fun z G3 => match (x.cur G3).look y with
  | some o => Q (o.getD z) G3
  | none => False
theorem de_ty {x : Str} {T : String} (hg : Gl X x) (hm : X.mg x = none) (hv : bootBuiltins x = some (.type T)) (hn : x ≠ "__name__" := by decide) (hd : (x == ("__debug__" : Str)) = false := by decide) : DE X (.Name x pos) (dC (.ty T)) :=
  dc_of (pe_bltn (v := .ty T) hg hm hv rfl hn hd) fun _ => .ty T
def D.tyN : D → Option String
  | .non => some "NoneType"
  | .bl _ => some "bool"
  | .int _ => some "int"
  | .str _ => some "str"
  | .tup _ => some "tuple"
  | .lst _ => some "list"
  | .dK _ => some "dict"
  | .dT _ => some "dict"
  | _ => none
theorem tyN_of {F H : Hp} {G : GH} {v : V} {d : D} {n : String} (g : Gok X.K F H G) (r : Rep X.K F v d) (h : (d.cur G).tyN = some n) : TyOf X.K H v (.type n) := by
  cases e : d.cur G with
  | lst xs =>
    rw [e] at h; cases h
    obtain ⟨a, vs, rfl, ha, _⟩ := cur_list g r e
    exact .lst ha
  | tup xs =>
    rw [e] at h; cases h
    obtain ⟨a, vs, rfl, ha, _⟩ := cur_tup r e
    exact .tup (g.ex _ _ ha)
  | dK kds =>
    rw [e] at h; cases h
    obtain ⟨a, kvs, rfl, ha, _⟩ := cur_dK g r e
    exact .dK ha
  | dT kds =>
    rw [e] at h; cases h
    obtain ⟨a, kvs, rfl, ha, _⟩ := cur_dT g r e
    exact .dT ha
  | str z => rw [e] at h; cases h; rw [cur_str r e]; exact .str z
  | int z => rw [e] at h; cases h; rw [cur_int r e]; exact .int z
  | non =>
    rw [e] at h; cases h
    cases d <;> first | (cases r; exact .non) | (exfalso; simp [D.cur] at e; done) | skip
    · rename_i a
      exfalso
      unfold D.cur at e
      cases q : G a with
      | none => simp only [q] at e; cases e
      | some o => cases o <;> (simp only [q] at e; cases e)
  | bl b =>
    rw [e] at h; cases h
    cases d <;> first | (cases e; cases r; exact .bl _) | (exfalso; simp [D.cur] at e; done) | skip
    · rename_i a
      exfalso
      unfold D.cur at e
      cases q : G a with
      | none => simp only [q] at e; cases e
      | some o => cases o <;> (simp only [q] at e; cases e)
  | _ => rw [e] at h; cases h
def rIsiD (ds : List D) (G : GH) (Q : DQ) : Prop := match ds with
  | [d, .ty T] => (match (d.cur G).tyN with
    | some n => (match kitB n T with
      | some b => Q (.bl b) G
      | none => False)
    | none => False)
  | _ => False
theorem cd_isi : CallD X (.builtin "isinstance") rIsiD := by
  refine ⟨_, call_isi, fun F H G vs ds g rs Q' h Q k => ?_⟩
  unfold rIsiD at h
  split at h
  · rename_i d T
    split at h
    · rename_i n en
      split at h
      · rename_i b eb
        cases rs with
        | cons r rest =>
          cases rest with
          | cons r2 rest2 =>
            cases rest2
            cases r2
            exact ⟨_, _, .type n, .type T, b, rfl, .ty T, .base (tyN_of g r en), kit_ty eb, k F H _ _ G Go.refl g (.bl _) h⟩
      · exact h.elim
    · exact h.elim
  · exact h.elim
def bools : List D → Option (List Bool)
  | [] => some []
  | .bl x :: r => (bools r).map (x :: ·)
  | _ :: _ => none
theorem bools_rep {K : PySem.W.Frag} {F : Hp} : ∀ {ds : List D} {xs : List Bool} {vs : List V}, bools ds = some xs → Reps K F vs ds → vs = xs.map V.bl
  | [], xs, _, h, .nil => by cases h; rfl
  | .bl x :: r, xs, _, h, .cons a b => by
    unfold bools at h
    cases e : bools r with
    | none => rw [e] at h; cases h
    | some m =>
      rw [e] at h
      cases h
      cases a
      simp [bools_rep e b]
  | .non :: _, _, _, h, _ => by cases h
  | .str _ :: _, _, _, h, _ => by cases h
  | .int _ :: _, _, _, h, _ => by cases h
  | .ty _ :: _, _, _, h, _ => by cases h
  | .tup _ :: _, _, _, h, _ => by cases h
  | .lst _ :: _, _, _, h, _ => by cases h
  | .dK _ :: _, _, _, h, _ => by cases h
  | .dT _ :: _, _, _, h, _ => by cases h
  | .obj _ _ :: _, _, _, h, _ => by cases h
  | .rf _ :: _, _, _, h, _ => by cases h
  | .scr _ :: _, _, _, h, _ => by cases h
  | .kup _ :: _, _, _, h, _ => by cases h
theorem bools_map (bs : List Bool) : bools (bs.map D.bl) = some bs := by
  induction bs with
  | nil => rfl
  | cons b bs ih => simp [bools, ih]
theorem texts_map (bs : List Str) : texts (bs.map D.str) = some bs := by
  induction bs with
  | nil => rfl
  | cons b bs ih => simp [texts, ih]
def rAllD (ds : List D) (G : GH) (Q : DQ) : Prop := match ds with
  | [d] => (match d.cur G with
    | .lst ys => (match bools ys with
      | some bs => Q (.bl (bs.all id)) G
      | none => False)
    | _ => False)
  | _ => False
theorem cd_all (hc : X.calm = true) : CallD X (.builtin "all") rAllD := by
  refine ⟨_, cr_all hc, fun F H G vs ds g rs Q' h Q k => ?_⟩
  unfold rAllD at h
  split at h
  · rename_i d
    cases rs with
    | cons r b =>
      cases b
      split at h
      · rename_i ys ey
        split at h
        · rename_i bs eb
          obtain ⟨p, ws, rfl, hp, rw'⟩ := cur_list g r ey
          have := bools_rep eb rw'
          subst this
          exact ⟨p, bs, rfl, .inl (.inl hp), k F H _ _ G Go.refl g (.bl _) h⟩
        · exact h.elim
      · exact h.elim
  · exact h.elim
end
end DL
end
section
set_option Elab.async false
set_option linter.all false
set_option maxRecDepth 100000
set_option maxHeartbeats 4000000
namespace DL
open PySem PySem.Spec PyProof.Rows L2
def D.le (x y : D) : Bool := PySem.W.dataLe false D.py x y
section
variable {X : Cx} {pos : Pos}
def dChain (r r' : DR2) (ta tb tc : DTE) : DTE := fun S G Q => ta S G fun x G1 => tb S G1 fun y G2 => r x y G2 fun z G3 => match z with
  | .bl k => if k = true then tc S G3 fun w G4 => r' y w G4 Q else Q (.bl false) G3
  | _ => False
theorem chain_core {op op' : CmpOp} {r r' : DR2} {a b c : Expr} {ta tb tc : DTE} (ho : OpD X (compareOp op) r) (ho' : OpD X (compareOp op') r') (ha : DE X a ta) (hb : DE X b tb) (hc : DE X c tc) :
    ∃ (q q' : R2) (t1 t2 t3 : TE), OpR X (compareOp op) q ∧ OpR X (compareOp op') q' ∧ PE X a t1 ∧ PE X b t2 ∧ PE X c t3 ∧ ∀ F H σ S G, Ok X.K F H σ S G → ∀ Q', dChain r r' ta tb tc S G Q' → ∀ Q, KpE X.K F H G Q' Q → tChain q q' t1 t2 t3 σ H Q := by
  obtain ⟨q, hq, rq⟩ := ho.ex
  obtain ⟨q', hq', rq'⟩ := ho'.ex
  obtain ⟨t1, p1, r1⟩ := ha.ex
  obtain ⟨t2, p2, r2⟩ := hb.ex
  obtain ⟨t3, p3, r3⟩ := hc.ex
  refine ⟨q, q', t1, t2, t3, hq, hq', p1, p2, p3, fun F H σ S G o Q' h Q k => ?_⟩
  refine r1 F H σ S G o _ h _ fun F1 H1 v d G1 e1 g1 q1 h1 => ?_
  refine r2 F1 H1 σ S G1 (o.go e1 g1) _ h1 _ fun F2 H2 u d2 G2 e2 g2 q2 h2 => ?_
  refine rq F2 H2 G2 v u d d2 g2 (q1.mono e2.ex) q2 _ h2 _ fun F3 H3 z d3 G3 e3 g3 q3 h3 => ?_
  dsimp only at h3
  split at h3
  · rename_i kb
    cases q3
    refine ⟨kb, rfl, ?_⟩
    cases kb with
    | true =>
      rw [if_pos rfl] at h3 ⊢
      refine r3 F3 H3 σ S G3 (((o.go e1 g1).go e2 g2).go e3 g3) _ h3 _ fun F4 H4 w d4 G4 e4 g4 q4 h4 => ?_
      exact rq' F4 H4 G4 u w d2 d4 g4 ((q2.mono e3.ex).mono e4.ex) q4 Q' h4 Q (k.mono (((e1.trans e2).trans e3).trans e4))
    | false =>
      rw [if_neg Bool.false_ne_true] at h3 ⊢
      exact k F3 H3 _ _ G3 ((e1.trans e2).trans e3) g3 (.bl _) h3
  · exact h3.elim
theorem dt_chain {op op' : CmpOp} {r r' : DR2} {a b c : Expr} {ta tb tc : DTE} (ho : OpD X (compareOp op) r) (ho' : OpD X (compareOp op') r') (ha : DE X a ta) (hb : DE X b tb) (hc : DE X c tc) (hm : lastMarks [op, op'] [b, c] = false := by with_unfolding_all rfl) : DT X (.Compare a [op, op'] [b, c] pos) (dTest (dChain r r' ta tb tc)) := by
  obtain ⟨q, q', t1, t2, t3, hq, hq', p1, p2, p3, rr⟩ := chain_core ho ho' ha hb hc
  refine ⟨_, pt_chain hq hq' p1 p2 p3 hm, fun F H σ S G o Q' h Q k => ?_⟩
  refine rr F H σ S G o _ h _ fun F1 H1 v d G1 e1 g1 q1 h1 => ?_
  dsimp only at h1
  split at h1
  · cases q1
    exact ⟨_, rfl, k F1 H1 _ G1 e1 g1 h1⟩
  · exact h1.elim
theorem de_chain {op op' : CmpOp} {r r' : DR2} {a b c : Expr} {ta tb tc : DTE} (ho : OpD X (compareOp op) r) (ho' : OpD X (compareOp op') r') (ha : DE X a ta) (hb : DE X b tb) (hc : DE X c tc) (hm : lastMarks [op, op'] [b, c] = false := by with_unfolding_all rfl) : DE X (.Compare a [op, op'] [b, c] pos) (dChain r r' ta tb tc) := by
  obtain ⟨q, q', t1, t2, t3, hq, hq', p1, p2, p3, rr⟩ := chain_core ho ho' ha hb hc
  exact ⟨_, pe_chain hq hq' p1 p2 p3 hm, rr⟩
def dPar (i j : Nat) (ta : DTA) : DTS := fun D' S G => ta S G fun ds G1 => match ds with
  | [x, y] => D'.nx ((S.set i (some x)).set j (some y)) G1
  | _ => False
end
end DL
end
section
set_option Elab.async false
set_option linter.all false
set_option maxRecDepth 100000
set_option maxHeartbeats 4000000
namespace DL
open PySem PySem.Spec PyProof.Rows L2
theorem sqt_at {K : PySem.W.Frag} {H : Hp} {a : Addr} {xs : List V} (h : SqT K H a xs) : (∃ u, H a = some u) ∨ ∃ o, K.lookup a = some o := by
  rcases h with (h | ⟨o, h⟩) | ⟨o, _, _, h, _⟩
  · exact .inl ⟨_, h⟩
  · exact .inl ⟨_, h⟩
  · exact .inr ⟨o, h⟩
theorem fp_noK {X : Cx} {pins : List (Addr × Obj)} {σ : L2.St} {H : Hp} {s : Shared} (I : Inv X pins σ H s) {e b : Addr} (hf : FpOk X pins H e) (h : (∃ u, H b = some u) ∨ ∃ o, X.K.lookup b = some o) : e ≠ b := by
  rintro rfl
  rcases h with ⟨u, h⟩ | ⟨o, h⟩
  · rw [hf.1] at h; cases h
  · have hb := I.mod.kin _ _ h
    rcases hf.2.2.2.1 with z | z
    · exact I.ok.noex _ _ hb z
    · exact absurd (Nat.lt_of_lt_of_le (Heap.lt_size (I.ok.bs _ _ hb).1) z) (Nat.lt_irrefl _)
theorem sqt_lt {X : Cx} {pins : List (Addr × Obj)} {σ : L2.St} {H : Hp} {s : Shared} (I : Inv X pins σ H s) {a : Addr} {xs : List V} (h : SqT X.K H a xs) : a < s.heap.objs.size := by
  obtain ⟨_, _, p, _⟩ := I.tuple h
  exact p.lt
def ItE (xs : List V) (ok : Hp → Prop) : It :=
  ⟨fun i H => ok H ∧ i < xs.length, fun i H v H' => ∃ T x, v = .ref T ∧ H T = none ∧ H' = upd H T (.tup [.int (i : Nat), x]) ∧ xs[i]? = some x, fun i H => ok H ∧ i = xs.length⟩
theorem turn_enumOf {P : Program} {w : World} {K : PySem.W.Frag} {elts : List Expr} {kk : Nat} {tpos : Pos} {xs : List V} {ok : Hp → Prop} {e it : Addr} {Si : Nat → Heap → Prop}
    (live : ∀ i h, Si i h → ∃ o, h.get? it = some o ∧ ∀ v, o.data ≠ .cell v) (keep : ∀ i h h', Si i h → (∀ o, h.get? it = some o → h'.get? it = some o) → Si i h')
    (dr : ∀ (X : Cx) (pins : List (Addr × Obj)) (σ : L2.St) (H : Hp) (s : Shared), X.prog = P → X.w = w → X.K = K → X.A.handled = none → Inv X pins σ H s → ok H → ∃ (fp : List Addr) (Pv : Nat → Value → Prop) (St : Nat → Heap → Prop), it ∈ fp ∧ (∀ b ∈ fp, b ≠ it → (∃ u, H b = some u) ∨ ∃ o, X.K.lookup b = some o) ∧ Draws P w X.A.in1 it fp xs.length Pv St ∧
      (∀ i, Si i s.heap → St i s.heap) ∧ (∀ i h, St i h → Si i h) ∧ ∀ i u x, Pv i u → xs[i]? = some x → RelV x u) :
    Turn P w K (.Tuple elts kk tpos) (ItE xs ok) [e, it] e (fun i h => (∃ old, IsEnum h e it ((i : Nat) : Int) old) ∧ Si i h ∧ e ≠ it) where
  mem := by simp
  obj := by
    intro i h st b hb
    obtain ⟨⟨old, he⟩, hs, _⟩ := st
    have q : b = e ∨ b = it := by simpa using hb
    rcases q with q | q
    · subst q; exact ⟨_, he, fun v z => nomatch z⟩
    · subst q; exact live i h hs
  keep := by
    intro i h h' st k
    obtain ⟨⟨old, he⟩, hs, ne⟩ := st
    exact ⟨⟨old, k e (by simp) _ he⟩, keep i h h' hs fun o z => k it (by simp) o z, ne⟩
  item := by
    intro X hP hw hK hc i pins s σ H E I hf st hg
    obtain ⟨⟨old, he⟩, hs, ne⟩ := st
    obtain ⟨hok, hi⟩ := hg
    obtain ⟨fp, Pv, St, m0, mt, Dr, s1, s2, rel⟩ := dr X pins σ H s hP hw hK (I.ok.hd hc) I hok
    subst hP hw hK
    have el : e < s.heap.objs.size := Heap.lt_size he
    have il : it < s.heap.objs.size := by
      obtain ⟨o, z, _⟩ := live i _ hs
      exact Heap.lt_size z
    have ef : e ∉ fp := by
      intro z
      exact fp_noK I (hf e (by simp)) (mt e z ne) rfl
    refine wpAny_pyNext_enum_itemC Dr he (s1 i hs) hi ne ef ?_
    intro x h' tk px ho hst hT hsz hk
    refine ⟨_, rfl, wpAny_letOwnedTupleGo_enum (s := { s with heap := h', toks := tk + 1 }) ho ?_⟩
    intro h'' he' sb
    have hx : xs[i]? = some xs[i] := List.getElem?_eq_getElem hi
    have rx := rel i x _ px hx
    have hT2 := (sb.2 _ (Nat.ne_of_gt el)).trans hT
    have nw : ObjOk X.prog X.w (upd H s.heap.objs.size (.tup [.int (i : Nat), xs[i]])) h'' s.heap.objs.size (.tup [.int (i : Nat), xs[i]]) :=
      ⟨(by decide : 2 ≤ sizeLine), [.int i tk, x], .cons ⟨_, rfl⟩ (.cons rx .nil), ⟨_, hT2, rfl, _, rfl⟩⟩
    have J : Inv X pins σ (upd H s.heap.objs.size (.tup [.int (i : Nat), xs[i]])) { s with heap := h'', toks := tk + 1 } := by
      refine I.turnedNew (ch := [e, it]) ?_ hf (Nat.le_refl _) nw
      intro b ob hb q
      have b1 : b ≠ e := fun z => hb (by simp [z])
      have b2 : b ≠ it := fun z => hb (by simp [z])
      exact (sb.2 b b1).trans (hk b ob b1 b2 q)
    refine ⟨.ref s.heap.objs.size, _, J, rfl, ⟨_, _, rfl, I.hok.fresh (Nat.le_refl _), rfl, hx⟩, ⟨⟨x, ?_⟩, ?_, ne⟩, ?_⟩
    · have z : ((i + 1 : Nat) : Int) = (i : Int) + 1 := by omega
      rw [z]; exact he'
    · exact keep _ _ _ (s2 _ _ hst) fun o q => (sb.2 it (Ne.symm ne)).trans q
    · intro b hb
      have q : b = e ∨ b = it := by simpa using hb
      have lt : b < s.heap.objs.size := by rcases q with q | q <;> (rw [q]; assumption)
      rw [upd_ne (Nat.ne_of_lt lt)]
      exact (hf b hb).1
  done := by
    intro X hP hw hK hc i pins s σ H E I hf st hg
    obtain ⟨⟨old, he⟩, hs, ne⟩ := st
    obtain ⟨hok, hi⟩ := hg
    obtain ⟨fp, Pv, St, m0, mt, Dr, s1, s2, rel⟩ := dr X pins σ H s hP hw hK (I.ok.hd hc) I hok
    subst hP hw hK
    subst hi
    refine wpAny_pyNext_enum_endD Dr he (s1 _ hs) ?_
    intro h' eb
    refine ⟨rfl, I.turnedL (t' := s.toks) (ch := [e, it]) ?_ hf⟩
    intro b o hb q
    exact eb b o (fun z => hb (by simp [z])) q
  self := fun A i s Q E st h => let ⟨⟨_, he⟩, _⟩ := st; wpAny_pyIter_enum he h
set_option maxHeartbeats 4000000 in
theorem meets_enumB {v : Value} {o : Obj} {Hh : Heap → Prop} (B : Begins v o Hh) :
    Meets (Builtin.«enumerate.__new__» ⟨[.type "enumerate", v], []⟩) (fun _ R s => Hh s.heap ∧
      R (.ok (.ret (.ref (s.heap.push o).objs.size))) { s with heap := (s.heap.push o).push { cls := .type "enumerate", data := .fields #[.none, .bool false, .ref s.heap.objs.size, rawInt 0, .none, .none] } }) := by
  refine Meets.of_wp fun prog w A R s h => ?_
  obtain ⟨hp, g, d, tk, os⟩ := s
  obtain ⟨h1, h⟩ := h
  have hsub := PySem.sub_enumerate
  have q1 : ∀ {A' : Around} {E : Value → Shared → Prop} {Q : Value → Shared → Prop}, Q (.ref hp.objs.size) ⟨hp.push o, g, d, tk, os⟩ → wpAny (model prog w) A' (pyIter v) Q E ⟨hp, g, d, tk, os⟩ := by
    intro A' E Q q
    exact B.iter prog w _ _ ⟨hp, g, d, tk, os⟩ _ h1 q
  wp_walk using q1
  refine wpAny_stack_any fun st => wpAny_pure ?_
  split
  · rename_i c _ _ _ _ _
    cases (c == Value.type "enumerate") <;> (wp_walk using q1; exact ⟨_, rfl, h⟩)
  · wp_walk using q1
    exact ⟨_, rfl, h⟩
theorem call_enumB {prog : Program} {w : World} {A : Around} {E : Value → Shared → Prop} {s : Shared} {v : Value} {o : Obj} {Hh : Heap → Prop} {Q : Value → Shared → Prop} (B : Begins v o Hh) (h1 : Hh s.heap)
    (h : ∀ h', IsEnum h' (s.heap.objs.size + 1) s.heap.objs.size 0 .none → h'.get? s.heap.objs.size = some o → h'.objs.size = s.heap.objs.size + 2 → (∀ b o, s.heap.get? b = some o → h'.get? b = some o) → Q (.ref (s.heap.objs.size + 1)) { s with heap := h' }) :
    wpAny (model prog w) A (call (.type "enumerate") [v]) Q E s := by
  refine callType_new F.called_enumerate (by decide) (F.typeCall_enumerate_1 _) (F.newCall_enumerate_1 _) (fun obj => F.args_object_init_2 obj _) F.entry_enumerate_new (meets_enumB B) ⟨h1, ?_⟩
  have z1 : (s.heap.push o).objs.size = s.heap.objs.size + 1 := Heap.size_push ..
  show _ ∧ _
  rw [z1]
  have he : IsEnum ((s.heap.push o).push { cls := .type "enumerate", data := .fields #[.none, .bool false, .ref s.heap.objs.size, rawInt 0, .none, .none] }) (s.heap.objs.size + 1) s.heap.objs.size 0 .none := by
    have z2 := Heap.get?_push_size (s.heap.push o) (o := { cls := .type "enumerate", data := .fields #[.none, .bool false, .ref s.heap.objs.size, rawInt 0, .none, .none] }) rfl
    rw [z1] at z2
    exact z2
  refine ⟨⟨_, he, rfl⟩, h _ he (Heap.get?_push_of_some _ (Heap.get?_push_size _ B.free)) (by rw [Heap.size_push, z1]) ?_⟩
  intro b ob x
  exact Heap.get?_push_of_some _ (Heap.get?_push_of_some _ x)
def iEnumT (K : PySem.W.Frag) (ta : TA) : TI := fun σ H R => ta σ H fun vs H1 => ∃ a xs, vs = [.ref a] ∧ SqT K H1 a xs ∧ R (ItE xs fun H => SqT K H a xs) H1
theorem fresh_fp {X : Cx} {pins : List (Addr × Obj)} {σ : L2.St} {H : Hp} {s : Shared} (I : Inv X pins σ H s) {l : List Addr} (h : ∀ b ∈ l, s.heap.objs.size ≤ b) : ∀ b ∈ l, FpOk X pins H b := fun b hb => I.fpOk (h b hb) (I.hok.fresh (h b hb))
theorem vals_getD {xs : List V} {us : List Value} (r : Vals xs us) {i : Nat} {u : Value} {x : V} (hu : us[i]? = some u) (hx : xs[i]? = some x) : RelV x u := by
  obtain ⟨w, hw, rw'⟩ := r.get hx
  rw [hu] at hw
  cases hw
  exact rw'
theorem pi_enumT {X : Cx} {e : Expr} {ta : TA} {p pos tpos : Pos} {elts : List Expr} {kk : Nat} (hg : Gl X "enumerate") (hm : X.mg "enumerate" = none) (ha : PA X [e] ta) (hs : starEach [e] X.env = [(false, eval e X.env)] := by rfl) :
    PI X (.Tuple elts kk tpos) (.Call (.Name "enumerate" p) [e] [] pos) (iEnumT X.K ta) := by
  constructor
  intro pins s σ H R I h
  refine Call_ (ld_blt I hg hm boot_enumerate (PyProof.Rows.callWith_type1 (thn (ha.run pos pins s σ H _ I h) ?_) hs rfl))
  rintro us s1 ⟨vs, H1, I1, r1, a, xs, rfl, hq, q⟩
  cases r1 with
  | cons r rr =>
    cases rr
    cases r
    obtain ⟨its, rv, tu, hz⟩ := I1.tuple (xs := xs) (a := a) hq
    have hl := rv.length
    refine call_enumB (begins_tuple a its.toArray) tu ?_
    intro h' he hit hsz hk
    refine wpAny_pyIter_enum he ?_
    have J : Inv X pins σ H1 { s1 with heap := h' } := I1.kept (t' := s1.toks) hk
    refine ⟨s1.heap.objs.size + 1, [s1.heap.objs.size + 1, s1.heap.objs.size], _, _, H1, rfl, J, turn_enumOf (Si := fun i h => h.IsTupleIter s1.heap.objs.size a i) ?_ ?_ ?_, ⟨⟨.none, he⟩, ⟨_, hit, rfl, rfl⟩, Nat.succ_ne_self _⟩, ?_, q⟩
    · rintro i h ⟨o, z, c, d⟩
      exact ⟨o, z, fun v y => by rw [d] at y; cases y⟩
    · rintro i h h' ⟨o, z, c⟩ k
      exact ⟨o, k o z, c⟩
    · intro X2 pins2 σ2 H2 s2 hP hw hK hh I2 hok
      have hne : a ≠ s1.heap.objs.size := Nat.ne_of_lt (sqt_lt I1 hq)
      rw [← hK] at hok
      obtain ⟨its2, rv2, tu2, hz2⟩ := I2.tuple (xs := xs) (a := a) hok
      have hl2 := rv2.length
      refine ⟨[s1.heap.objs.size, a], fun i v => its2.toArray[i]? = some v, fun i h => h.IsTupleIter s1.heap.objs.size a i ∧ h.IsTuple a its2.toArray, by simp, fun b hb hb2 => ?_, ?_, fun i z => ⟨z, tu2⟩, fun i h z => z.1, fun i u x pu hx => ?_⟩
      · have : b = a := by
          have q : b = s1.heap.objs.size ∨ b = a := by simpa using hb
          rcases q with q | q
          · exact absurd q hb2
          · exact q
        subst this
        exact sqt_at hok
      · have := Draws.tuple (prog := X.prog) (w := X.w) (A := X2.A.in1) hh s1.heap.objs.size a hne its2.toArray
        have ez : its2.toArray.size = xs.length := by rw [hl2]; simp
        rw [ez] at this
        exact this
      · refine vals_getD rv2 ?_ hx
        simpa using pu
    · refine fresh_fp I1 fun b hb => ?_
      have q : b = s1.heap.objs.size + 1 ∨ b = s1.heap.objs.size := by simpa using hb
      rcases q with q | q
      · rw [q]; exact Nat.le_add_right _ _
      · rw [q]; exact Nat.le_refl _
section
variable {X : Cx} {pos : Pos}
/-- for i, x in enumerate(t), t a tuple -/
def diEnumT (ta : DTA) : DTI := fun S G R => ta S G fun ds G1 => match ds with
  | [.tup xs] => R (xs.mapIdx fun i x => .tup [.int (i : Nat), x]) dNoGuard G1
  | [.kup xs] => R (xs.mapIdx fun i x => .tup [.int (i : Nat), x]) dNoGuard G1
  | _ => False
theorem di_enumT {e : Expr} {ta : DTA} {p tpos : Pos} {elts : List Expr} {kk : Nat} (hg : Gl X "enumerate") (hm : X.mg "enumerate" = none) (ha : DA X [e] ta) (hs : starEach [e] X.env = [(false, eval e X.env)] := by rfl) :
    DI X (.Tuple elts kk tpos) (.Call (.Name "enumerate" p) [e] [] pos) (diEnumT ta) := by
  obtain ⟨t, p1, r⟩ := ha.ex
  refine ⟨_, pi_enumT hg hm p1 hs, fun F H σ S G o R' h R k => ?_⟩
  refine r F H σ S G o _ h _ fun F1 H1 vs ds G1 e1 g1 q1 h1 => ?_
  dsimp only at h1
  split at h1
  · rename_i xs
    cases q1 with
    | cons q rest =>
      cases rest
      cases q with
      | tup hq rs =>
        rename_i a ws
        refine ⟨a, ws, rfl, g1.ex.sqt (.inl (.inl hq)), k F1 H1 G1 _ _ _ e1 g1 ⟨fun F2 H2 G2 i d e2 g2 _ hd => ?_, fun F2 H2 G2 e2 g2 _ => ?_⟩ h1⟩
        · rw [List.getElem?_mapIdx] at hd
          cases ex : xs[i]? with
          | none => rw [ex] at hd; cases hd
          | some x =>
            rw [ex] at hd
            cases hd
            have hi : i < ws.length := by
              rw [rs.length]
              exact (List.getElem?_eq_some_iff.mp ex).1
            refine ⟨⟨g2.ex.sqt (e2.sqt (.inl (.inl hq))), hi⟩, fun y H3 hy => ?_⟩
            obtain ⟨T, z, rfl, hT, rfl, hz⟩ := hy
            obtain ⟨x', hx', rx'⟩ := rs.get' hz
            rw [ex] at hx'
            cases hx'
            have gr := Gr.new (u := .tup [.int (i : Nat), z]) g2.ex hT
            exact ⟨_, gr.go, g2.grow gr, .tup upd_same (.cons (.int _) (.cons ((rx'.mono e2).mono gr.ff) .nil))⟩
        · refine ⟨g2.ex.sqt (e2.sqt (.inl (.inl hq))), ?_⟩
          rw [List.length_mapIdx, rs.length]
  · rename_i xs
    cases q1 with
    | cons q rest =>
      cases rest
      cases q with
      | kup hq rs =>
        rename_i a ws
        refine ⟨a, ws, rfl, g1.ex.sqt hq, k F1 H1 G1 _ _ _ e1 g1 ⟨fun F2 H2 G2 i d e2 g2 _ hd => ?_, fun F2 H2 G2 e2 g2 _ => ?_⟩ h1⟩
        · rw [List.getElem?_mapIdx] at hd
          cases ex : xs[i]? with
          | none => rw [ex] at hd; cases hd
          | some x =>
            rw [ex] at hd
            cases hd
            have hi : i < ws.length := by
              rw [rs.length]
              exact (List.getElem?_eq_some_iff.mp ex).1
            refine ⟨⟨g2.ex.sqt (e2.sqt hq), hi⟩, fun y H3 hy => ?_⟩
            obtain ⟨T, z, rfl, hT, rfl, hz⟩ := hy
            obtain ⟨x', hx', rx'⟩ := rs.get' hz
            rw [ex] at hx'
            cases hx'
            have gr := Gr.new (u := .tup [.int (i : Nat), z]) g2.ex hT
            exact ⟨_, gr.go, g2.grow gr, .tup upd_same (.cons (.int _) (.cons ((rx'.mono e2).mono gr.ff) .nil))⟩
        · refine ⟨g2.ex.sqt (e2.sqt hq), ?_⟩
          rw [List.length_mapIdx, rs.length]
  · exact h1.elim
end
end DL
end
section
set_option Elab.async false
set_option linter.all false
set_option maxRecDepth 100000
set_option maxHeartbeats 4000000
namespace DL
open PySem PySem.Spec PyProof.Rows L2
def sgn (c : Nat) : Str := ⟨#[c]⟩
def ItZ (x y : Str) : It :=
  ⟨fun i _ => i < min x.cps.size y.cps.size, fun i H v H' => ∃ T a b, v = .ref T ∧ H T = none ∧ H' = upd H T (.tup [.str (sgn a), .str (sgn b)]) ∧ x.cps[i]? = some a ∧ y.cps[i]? = some b, fun i _ => i = min x.cps.size y.cps.size⟩
theorem turn_zipS {P : Program} {w : World} {K : PySem.W.Frag} {elts : List Expr} {kk : Nat} {tpos : Pos} {x y : Str} {t1 t2 : Tok} {z TI TO i1 i2 : Addr} (Sp : ZipSep2 z TI TO i1 i2 [i1] [i2]) :
    Turn P w K (.Tuple elts kk tpos) (ItZ x y) [z, TI, TO, i1, i2] z (fun i h => IsZip h z TI TO .none ∧ IsTupOf2 h TI (.ref i1) (.ref i2) ∧ (∃ a b, IsTupOf2 h TO a b) ∧ h.IsStrIter i1 (strIterType x) x t1 i ∧ h.IsStrIter i2 (strIterType y) y t2 i) where
  mem := by simp
  obj := by
    rintro i h ⟨hz, hTI, ⟨a, b, hTO⟩, ⟨o1, z1, _, d1⟩, ⟨o2, z2, _, d2⟩⟩ c hc
    have q : c = z ∨ c = TI ∨ c = TO ∨ c = i1 ∨ c = i2 := by simpa using hc
    rcases q with q | q | q | q | q <;> subst q
    · exact ⟨_, hz, fun v y => nomatch y⟩
    · exact ⟨_, hTI, fun v y => nomatch y⟩
    · exact ⟨_, hTO, fun v y => nomatch y⟩
    · exact ⟨o1, z1, fun v y => by rw [d1] at y; cases y⟩
    · exact ⟨o2, z2, fun v y => by rw [d2] at y; cases y⟩
  keep := by
    rintro i h h' ⟨hz, hTI, ⟨a, b, hTO⟩, ⟨o1, z1, r1⟩, ⟨o2, z2, r2⟩⟩ k
    exact ⟨k z (by simp) _ hz, k TI (by simp) _ hTI, ⟨a, b, k TO (by simp) _ hTO⟩, ⟨o1, k i1 (by simp) _ z1, r1⟩, ⟨o2, k i2 (by simp) _ z2, r2⟩⟩
  item := by
    intro X hP hw hK hc i pins s σ H E I hf st hg
    subst hP hw hK
    obtain ⟨hz, hTI, ⟨a0, b0, hTO⟩, s1, s2⟩ := st
    have hg' : i < min x.cps.size y.cps.size := hg
    have g1 : i < x.cps.size := by omega
    have g2 : i < y.cps.size := by omega
    have hh := I.ok.hd hc
    have zl : z < s.heap.objs.size := Heap.lt_size hz
    refine wpAny_pyNext_zipD2_item Sp (Draws.text (A := X.A.in1) hh i1 x t1) (Draws.text (A := X.A.in1) hh i2 y t2) hz hTI hTO s1 s2 g1 g2 ?_
    rintro u1 u2 h' tk ⟨c1, k1, e1, rfl⟩ ⟨c2, k2, e2, rfl⟩ hz' hTO' s1' s2' hT hsz hk
    refine ⟨_, rfl, wpAny_letOwnedTupleGo_zip (s := { s with heap := h', toks := tk }) hz' ?_⟩
    intro h'' hz'' sb
    have hT2 := (sb.2 _ (Nat.ne_of_gt zl)).trans hT
    have nw : ObjOk X.prog X.w (upd H s.heap.objs.size (.tup [.str (sgn c1), .str (sgn c2)])) h'' s.heap.objs.size (.tup [.str (sgn c1), .str (sgn c2)]) :=
      ⟨(by decide : 2 ≤ sizeLine), [.str (sgn c1) k1, .str (sgn c2) k2], .cons ⟨_, rfl⟩ (.cons ⟨_, rfl⟩ .nil), ⟨_, hT2, rfl, _, rfl⟩⟩
    have J : Inv X pins σ (upd H s.heap.objs.size (.tup [.str (sgn c1), .str (sgn c2)])) { s with heap := h'', toks := tk } := by
      refine I.turnedNew (ch := [z, TI, TO, i1, i2]) ?_ hf (Nat.le_refl _) nw
      intro c o hb q
      have b1 : c ≠ z := fun w => hb (by simp [w])
      have b3 : c ≠ TO := fun w => hb (by simp [w])
      have b4 : c ≠ i1 := fun w => hb (by simp [w])
      have b5 : c ≠ i2 := fun w => hb (by simp [w])
      exact (sb.2 c b1).trans (hk c o b1 b3 b4 b5 q)
    refine ⟨.ref s.heap.objs.size, _, J, rfl, ⟨_, c1, c2, rfl, I.hok.fresh (Nat.le_refl _), rfl, e1, e2⟩, ⟨hz'', ?_, ⟨.str (sgn c1) k1, .str (sgn c2) k2, ?_⟩, ?_, ?_⟩, ?_⟩
    · exact (sb.2 _ Sp.TIz).trans (hk _ _ Sp.TIz Sp.TITO Sp.TIi1 Sp.TIi2 hTI)
    · exact (sb.2 _ Sp.TOz).trans hTO'
    · obtain ⟨o, q, r⟩ := s1'
      exact ⟨o, (sb.2 _ (Ne.symm Sp.zi1)).trans q, r⟩
    · obtain ⟨o, q, r⟩ := s2'
      exact ⟨o, (sb.2 _ (Ne.symm Sp.zi2)).trans q, r⟩
    · intro c hcm
      have lt : c < s.heap.objs.size := by
        have q : c = z ∨ c = TI ∨ c = TO ∨ c = i1 ∨ c = i2 := by simpa using hcm
        rcases q with q | q | q | q | q
        · rw [q]; exact zl
        · rw [q]; exact Heap.lt_size hTI
        · rw [q]; exact Heap.lt_size hTO
        · rw [q]; obtain ⟨_, w, _⟩ := s1; exact Heap.lt_size w
        · rw [q]; obtain ⟨_, w, _⟩ := s2; exact Heap.lt_size w
      rw [upd_ne (Nat.ne_of_lt lt)]
      exact (hf c hcm).1
  done := by
    intro X hP hw hK hc i pins s σ H E I hf st hg
    subst hP hw hK
    obtain ⟨hz, hTI, ⟨a0, b0, hTO⟩, s1, s2⟩ := st
    have hg' : i = min x.cps.size y.cps.size := hg
    have hh := I.ok.hd hc
    refine wpAny_pyNext_zipD2_end Sp (Draws.text (A := X.A.in1) hh i1 x t1) (Draws.text (A := X.A.in1) hh i2 y t2) hz hTI hTO s1 s2 (by omega) (by omega) (by omega) ?_
    intro h' tk hk
    refine ⟨rfl, I.turnedL (t' := tk) (ch := [z, TI, TO, i1, i2]) ?_ hf⟩
    intro c o hb q
    exact hk c o (fun w => hb (by simp [w])) (fun w => hb (by simp [w])) (fun w => hb (by simp [w])) (fun w => hb (by simp [w])) q
  self := fun A i s Q E st h => wpAny_pyIter_zip st.1 h
def iZipS (ta : TA) : TI := fun σ H R => ta σ H fun vs H1 => ∃ x y, vs = [.str x, .str y] ∧ R (ItZ x y) H1
theorem pi_zipS {X : Cx} {e e2 : Expr} {ta : TA} {p pos tpos : Pos} {elts : List Expr} {kk : Nat} (hg : Gl X "zip") (hm : X.mg "zip" = none) (ha : PA X [e, e2] ta)
    (hs : starEach [e, e2] X.env = (false, eval e X.env) :: starEach [e2] X.env := by rfl) (hpl : (backTo pos (starEach [e2] X.env)).any (·.1) = false := by rfl) :
    PI X (.Tuple elts kk tpos) (.Call (.Name "zip" p) [e, e2] [] pos) (iZipS ta) := by
  constructor
  intro pins s σ H R I h
  refine Call_ (ld_blt I hg hm PyProof.Rows.boot_zip (PyProof.Rows.callWith_type1 (thn (ha.run pos pins s σ H _ I h) ?_) hs hpl))
  rintro us s1 ⟨vs, H1, I1, r1, x, y, rfl, q⟩
  cases r1 with
  | cons r rr =>
    cases rr with
    | cons r' rr =>
      cases rr
      obtain ⟨t1, rfl⟩ := r
      obtain ⟨t2, rfl⟩ := r'
      refine zip_begins2 (begins_text x t1) (begins_text y t2) trivial trivial ?_
      intro h' hz hTI hTO h1 h2 hsz hk
      refine wpAny_pyIter_zip hz ?_
      have J : Inv X pins σ H1 { s1 with heap := h' } := I1.kept (t' := s1.toks) hk
      have sep : ZipSep2 (s1.heap.objs.size + 4) (s1.heap.objs.size + 2) (s1.heap.objs.size + 3) s1.heap.objs.size (s1.heap.objs.size + 1) [s1.heap.objs.size] [s1.heap.objs.size + 1] := zip_sep2 (N := s1.heap.objs.size) (fp1 := []) (fp2 := []) (by simp) (by simp)
      refine ⟨s1.heap.objs.size + 4, [s1.heap.objs.size + 4, s1.heap.objs.size + 2, s1.heap.objs.size + 3, s1.heap.objs.size, s1.heap.objs.size + 1], _, _, H1, rfl, J, turn_zipS (x := x) (y := y) (t1 := t1) (t2 := t2) sep, ⟨hz, hTI, ⟨_, _, hTO⟩, ⟨_, h1, rfl, rfl⟩, ⟨_, h2, rfl, rfl⟩⟩, ?_, q⟩
      refine fresh_fp I1 fun b hb => ?_
      have z : b = s1.heap.objs.size + 4 ∨ b = s1.heap.objs.size + 2 ∨ b = s1.heap.objs.size + 3 ∨ b = s1.heap.objs.size ∨ b = s1.heap.objs.size + 1 := by simpa using hb
      rcases z with z | z | z | z | z
      · rw [z]; exact Nat.le_add_right _ _
      · rw [z]; exact Nat.le_add_right _ _
      · rw [z]; exact Nat.le_add_right _ _
      · rw [z]; exact Nat.le_refl _
      · rw [z]; exact Nat.le_add_right _ _
section
variable {X : Cx} {pos : Pos}
def diZipS (ta : DTA) : DTI := fun S G R => ta S G fun ds G1 => match ds with
  | [.str x, .str y] => R (List.zipWith (fun a b => .tup [.str (sgn a), .str (sgn b)]) x.cps.toList y.cps.toList) dNoGuard G1
  | _ => False
theorem di_zipS {e e2 : Expr} {ta : DTA} {p tpos : Pos} {elts : List Expr} {kk : Nat} (hg : Gl X "zip") (hm : X.mg "zip" = none) (ha : DA X [e, e2] ta)
    (hs : starEach [e, e2] X.env = (false, eval e X.env) :: starEach [e2] X.env := by rfl) (hpl : (backTo pos (starEach [e2] X.env)).any (·.1) = false := by rfl) : DI X (.Tuple elts kk tpos) (.Call (.Name "zip" p) [e, e2] [] pos) (diZipS ta) := by
  obtain ⟨t, p1, r⟩ := ha.ex
  refine ⟨_, pi_zipS hg hm p1 hs hpl, fun F H σ S G o R' h R k => ?_⟩
  refine r F H σ S G o _ h _ fun F1 H1 vs ds G1 e1 g1 q1 h1 => ?_
  dsimp only at h1
  split at h1
  · rename_i x y
    cases q1 with
    | cons a b =>
      cases a
      cases b with
      | cons c d =>
        cases c; cases d
        refine ⟨x, y, rfl, k F1 H1 G1 _ _ _ e1 g1 ⟨fun F2 H2 G2 i d e2 g2 _ hd => ?_, fun F2 H2 G2 e2 g2 _ => ?_⟩ h1⟩
        · rw [List.getElem?_zipWith] at hd
          cases ea : x.cps.toList[i]? with
          | none => simp [ea] at hd
          | some a =>
            cases eb : y.cps.toList[i]? with
            | none => simp [ea, eb] at hd
            | some b =>
              simp only [ea, eb] at hd
              cases hd
              have la := (List.getElem?_eq_some_iff.mp ea).1
              have lb := (List.getElem?_eq_some_iff.mp eb).1
              rw [Array.length_toList] at la lb
              refine ⟨by show i < min _ _; omega, fun v H3 hy => ?_⟩
              obtain ⟨T, a', b', rfl, hT, rfl, ha', hb'⟩ := hy
              have za : x.cps[i]? = some a := by rw [← ea]; simp
              have zb : y.cps[i]? = some b := by rw [← eb]; simp
              rw [za] at ha'; rw [zb] at hb'
              cases ha'; cases hb'
              have gr := Gr.new (u := .tup [.str (sgn a), .str (sgn b)]) g2.ex hT
              exact ⟨_, gr.go, g2.grow gr, .tup upd_same (.cons (.str _) (.cons (.str _) .nil))⟩
        · show _ = min _ _
          simp
  · exact h1.elim
/-- zip of two tuples -/
def diZipT (ta : DTA) : DTI := fun S G R => ta S G fun ds G1 => match ds with
  | [.tup xs, .tup ys] => R (List.zipWith (fun a b => .tup [a, b]) xs ys) dNoGuard G1
  | _ => False
theorem di_zipT {e e2 : Expr} {ta : DTA} {p tpos : Pos} {elts : List Expr} {kk : Nat} (hg : Gl X "zip") (hm : X.mg "zip" = none) (ha : DA X [e, e2] ta)
    (hs : starEach [e, e2] X.env = (false, eval e X.env) :: starEach [e2] X.env := by rfl) (hpl : (backTo pos (starEach [e2] X.env)).any (·.1) = false := by rfl) : DI X (.Tuple elts kk tpos) (.Call (.Name "zip" p) [e, e2] [] pos) (diZipT ta) := by
  obtain ⟨t, p1, r⟩ := ha.ex
  refine ⟨_, RZ.pi_zipA hg hm p1 hs hpl, fun F H σ S G o R' h R k => ?_⟩
  refine r F H σ S G o _ h _ fun F1 H1 vs ds G1 e1 g1 q1 h1 => ?_
  dsimp only at h1
  split at h1
  · rename_i xs ys
    cases q1 with
    | cons a b =>
      cases b with
      | cons c d =>
        cases d
        cases a with
        | tup ha ra =>
          cases c with
          | tup hb rb =>
            rename_i pa va pb vb
            refine ⟨pa, pb, va, vb, rfl, .inr ⟨.inl (.inl (g1.ex _ _ ha)), .inl (.inl (g1.ex _ _ hb)), k F1 H1 G1 _ _ _ e1 g1 ⟨fun F2 H2 G2 i d e2 g2 _ hd => ?_, fun F2 H2 G2 e2 g2 _ => ?_⟩ h1⟩⟩
            · have sa : SqT X.K H2 pa va := .inl (.inl (g2.ex _ _ (e2 _ _ ha)))
              have sb : SqT X.K H2 pb vb := .inl (.inl (g2.ex _ _ (e2 _ _ hb)))
              rw [List.getElem?_zipWith] at hd
              cases ea : xs[i]? with
              | none => simp [ea] at hd
              | some a =>
                cases eb : ys[i]? with
                | none => simp [ea, eb] at hd
                | some b =>
                  simp only [ea, eb] at hd
                  cases hd
                  obtain ⟨u, hu, ru⟩ := ra.get ea
                  obtain ⟨w, hw, rw'⟩ := rb.get eb
                  refine ⟨⟨va, vb, u, w, sa, sb, hu, hw⟩, fun v H3 hy => ?_⟩
                  obtain ⟨T, u', w', rfl, hT, rfl, h3, h4⟩ := hy
                  have z1 := h3 va sa
                  have z2 := h4 vb sb
                  rw [hu] at z1; rw [hw] at z2
                  cases z1; cases z2
                  have gr := Gr.new (u := .tup [u, w]) g2.ex hT
                  exact ⟨_, gr.go, g2.grow gr, .tup upd_same (.cons ((ru.mono e2).mono gr.ff) (.cons ((rw'.mono e2).mono gr.ff) .nil))⟩
            · refine ⟨va, vb, .inl (.inl (g2.ex _ _ (e2 _ _ ha))), .inl (.inl (g2.ex _ _ (e2 _ _ hb))), ?_⟩
              rw [ra.length, rb.length, List.length_zipWith]
              omega
  · exact h1.elim
end
end DL
end
section
set_option Elab.async false
set_option linter.all false
set_option maxRecDepth 100000
set_option maxHeartbeats 4000000
namespace DL
open PySem PySem.Spec PyProof.Rows L2
section
variable {X : Cx} {pos : Pos}
theorem dp_par {i j : Nat} {x y : Str} {a b : Expr} {ta : DTA} {px py pt : Pos} {kt k2 pt2} (hc : X.calm = true) (hN : X.N.Nodup) (hi : X.N[i]? = some x := by rfl) (hj : X.N[j]? = some y := by rfl) (hij : i ≠ j := by decide)
    (hx : X.env.scope.names.lookup x = some .local := by rfl) (hy : X.env.scope.names.lookup y = some .local := by rfl) (ha : DA X [a, b] ta)
    (hw : swappedStores [.Tuple [.Name x px, .Name y py] kt pt] (.Tuple [a, b] k2 pt2) X.env = pure (some [x, y]) := by rfl)
    (hs : swapsWithSole [.Tuple [.Name x px, .Name y py] kt pt] (.Tuple [a, b] k2 pt2) pos.line X.env = pure false := by rfl) :
    DP X (.Assign [.Tuple [.Name x px, .Name y py] kt pt] (.Tuple [a, b] k2 pt2) pos) (dPar i j ta) := by
  obtain ⟨t, p, r⟩ := ha.ex
  refine ⟨_, ps_par hc hN hi hj hij hx hy p hw hs, fun F H σ S G o D' h D0 k => ?_⟩
  refine r F H σ S G o _ h _ fun F1 H1 vs ds G1 e1 g1 q1 h1 => ?_
  dsimp only at h1
  split at h1
  · cases q1 with
    | cons a1 b1 =>
      cases b1 with
      | cons a2 b2 =>
        cases b2
        exact ⟨_, _, rfl, k.nx F1 H1 _ _ G1 e1 ⟨g1, (((o.s.mono e1.ex).set a1 i).set a2 j)⟩ h1⟩
  · exact h1.elim
def dPar3 (i j l : Nat) (ta : DTA) : DTS := fun D' S G => ta S G fun ds G1 => match ds with
  | [x, y, z] => D'.nx (((S.set i (some x)).set j (some y)).set l (some z)) G1
  | _ => False
theorem dp_par3 {i j l : Nat} {x y z : Str} {a b c : Expr} {ta : DTA} {px py pz pt : Pos} {kt k2 pt2} (hc : X.calm = true) (hN : X.N.Nodup) (hi : X.N[i]? = some x := by rfl) (hj : X.N[j]? = some y := by rfl) (hl : X.N[l]? = some z := by rfl) (hij : i ≠ j := by decide) (hil : i ≠ l := by decide) (hjl : j ≠ l := by decide)
    (hx : X.env.scope.names.lookup x = some .local := by rfl) (hy : X.env.scope.names.lookup y = some .local := by rfl) (hz : X.env.scope.names.lookup z = some .local := by rfl) (ha : DA X [a, b, c] ta)
    (hw : swappedStores [.Tuple [.Name x px, .Name y py, .Name z pz] kt pt] (.Tuple [a, b, c] k2 pt2) X.env = pure (some [x, y, z]) := by rfl)
    (hs : swapsWithSole [.Tuple [.Name x px, .Name y py, .Name z pz] kt pt] (.Tuple [a, b, c] k2 pt2) pos.line X.env = pure false := by rfl) :
    DP X (.Assign [.Tuple [.Name x px, .Name y py, .Name z pz] kt pt] (.Tuple [a, b, c] k2 pt2) pos) (dPar3 i j l ta) := by
  obtain ⟨t, p, r⟩ := ha.ex
  refine ⟨_, ps_par3 hc hN hi hj hl hij hil hjl hx hy hz p hw hs, fun F H σ S G o D' h D0 k => ?_⟩
  refine r F H σ S G o _ h _ fun F1 H1 vs ds G1 e1 g1 q1 h1 => ?_
  dsimp only at h1
  split at h1
  · cases q1 with
    | cons a1 b1 =>
      cases b1 with
      | cons a2 b2 =>
        cases b2 with
        | cons a3 b3 =>
          cases b3
          exact ⟨_, _, _, rfl, k.nx F1 H1 _ _ G1 e1 ⟨g1, ((((o.s.mono e1.ex).set a1 i).set a2 j).set a3 l)⟩ h1⟩
  · exact h1.elim
/-- x += e, whole numbers -/
def dAug (i : Nat) (te : DTE) (f : Int → Int → Int) : DTS := fun D' S G => match S[i]? with
  | some (some (.int a)) => te S G fun d G1 => (match d with
    | .int b => D'.nx (S.set i (some (.int (f a b)))) G1
    | _ => False)
  | _ => False
def dRevL (te : DTE) : DTE := fun S G Q => te S G fun d G1 => match d.cur G1 with
  | .lst xs => Q (.lst xs.reverse) G1
  | _ => False
def dRevLM (te : DTE) : DTE := fun S G Q => te S G fun d G1 => match d.cur G1 with
  | .lst xs => ∀ p, G1 p = none → Q (.rf p) (gput G1 p (.lst xs.reverse))
  | _ => False
theorem de_revLM {e : Expr} {te : DTE} {k : Nat} {p1 p2 p3 : Pos} (he : DE X e te) : DE X (.Subscript e (.Slice none none (some (.UnaryOp .USub (.Constant (.int 1) k p1) p2)) p3) pos) (dRevLM te) := by
  obtain ⟨t, p, r⟩ := he.ex
  refine ⟨_, pe_revL p, fun F H σ S G o Q' h Q kk => ?_⟩
  refine r F H σ S G o _ h _ fun F1 H1 v d G1 e1 g1 q1 h1 => ?_
  dsimp only at h1
  split at h1
  · rename_i xs ex
    obtain ⟨a, vs, rfl, ha, rs⟩ := cur_list g1 q1 ex
    refine ⟨a, vs, rfl, .inl (.inl ha), fun p hp => ?_⟩
    exact kk _ _ _ _ _ (e1.trans (Go.alloc hp)) (g1.alloc (o := .lst xs.reverse) hp rfl ⟨_, upd_same, rs.reverse⟩) (.rf p) (h1 p (g1.free hp))
  · exact h1.elim
abbrev DTP := DS → GH → (List (D × D) → GH → Prop) → Prop
inductive RepP (K : PySem.W.Frag) (F : Hp) : List (V × V) → List (D × D) → Prop
  | nil : RepP K F [] []
  | cons {a b : V} {c d : D} {ps : List (V × V)} {qs : List (D × D)} : Rep K F a c → Rep K F b d → RepP K F ps qs → RepP K F ((a, b) :: ps) ((c, d) :: qs)
theorem RepP.mono {K : PySem.W.Frag} {F F' : Hp} (e : Ex F F') : ∀ {ps : List (V × V)} {qs : List (D × D)}, RepP K F ps qs → RepP K F' ps qs
  | _, _, .nil => .nil
  | _, _, .cons a b t => .cons (a.mono e) (b.mono e) (RepP.mono e t)
structure DPp (X : Cx) (pos : Pos) (keys : List (Option Expr)) (values : List Expr) (t' : DTP) : Prop where
  ex : ∃ trs, PPs X pos keys values trs ∧ ∀ F H σ S G, Ok X.K F H σ S G → ∀ Q', t' S G Q' → ∀ Q : List (V × V) → Hp → Prop, (∀ F' H' ps qs G', Go F H G F' H' G' → Gok X.K F' H' G' → RepP X.K F' ps qs → Q' qs G' → Q ps H') → tPairs trs σ H Q
def dpNil : DTP := fun _ G Q => Q [] G
def dpCons (tk tv : DTE) (tr : DTP) : DTP := fun S G Q => tk S G fun k G1 => tv S G1 fun v G2 => tr S G2 fun qs G3 => Q ((k, v) :: qs) G3
theorem dpp_nil : DPp X pos [] [] dpNil := ⟨_, pps_nil, fun F H σ S G o Q' h Q k => k F H [] [] G Go.refl o.g .nil h⟩
theorem dpp_cons {k v : Expr} {ks : List (Option Expr)} {vs : List Expr} {tk tv : DTE} {tr : DTP} (hk : DE X k tk) (hv : DE X v tv) (hr : DPp X pos ks vs tr) : DPp X pos (some k :: ks) (v :: vs) (dpCons tk tv tr) := by
  obtain ⟨t1, p1, r1⟩ := hk.ex
  obtain ⟨t2, p2, r2⟩ := hv.ex
  obtain ⟨t3, p3, r3⟩ := hr.ex
  refine ⟨_, pps_cons p1 p2 p3, fun F H σ S G o Q' h Q kk => ?_⟩
  refine r1 F H σ S G o _ h _ fun F1 H1 v1 d1 G1 e1 g1 q1 h1 => ?_
  refine r2 F1 H1 σ S G1 (o.go e1 g1) _ h1 _ fun F2 H2 v2 d2 G2 e2 g2 q2 h2 => ?_
  refine r3 F2 H2 σ S G2 ((o.go e1 g1).go e2 g2) _ h2 _ fun F3 H3 ps qs G3 e3 g3 q3 h3 => ?_
  exact kk F3 H3 _ _ G3 ((e1.trans e2).trans e3) g3 (.cons ((q1.mono e2.ex).mono e3.ex) (q2.mono e3.ex) q3) h3
def keyed : List (D × D) → Option (List (Key × D))
  | [] => some []
  | (k, v) :: r => match k.key, keyed r with
    | some k, some r => some ((k, v) :: r)
    | _, _ => none
theorem keyed_rep {K : PySem.W.Frag} {F : Hp} : ∀ {ps : List (V × V)} {qs : List (D × D)} {kds : List (Key × D)}, RepP K F ps qs → keyed qs = some kds → ∃ kvs : List (Key × V), ps = kvs.map (fun kv => (kV kv.1, kv.2)) ∧ KR K F kvs kds
  | _, _, _, .nil, h => by cases h; exact ⟨[], rfl, .nil⟩
  | _, _, kds, .cons (c := c) (d := d) (qs := qs) a b t, h => by
    unfold keyed at h
    cases e1 : c.key with
    | none => simp [e1] at h
    | some k =>
      cases e2 : keyed qs with
      | none => simp [e1, e2] at h
      | some r =>
        simp only [e1, e2] at h
        cases h
        obtain ⟨kvs, rfl, kr⟩ := keyed_rep t e2
        have := a.key e1
        subst this
        exact ⟨(k, _) :: kvs, rfl, .cons b kr⟩
def mergeD (kds more : List (Key × D)) : List (Key × D) := more.foldl (fun acc kv => putD acc kv.1 kv.2) kds
theorem KR.merge {K : PySem.W.Frag} {F : Hp} : ∀ {more : List (Key × D)} {mv : List (Key × V)} {kds : List (Key × D)} {kvs : List (Key × V)}, KR K F mv more → KR K F kvs kds → KR K F (mergeK kvs mv) (mergeD kds more)
  | [], mv, kds, kvs, h, r => by
    obtain rfl := h.unnil
    exact r
  | (k, d) :: more, mv, kds, kvs, h, r => by
    obtain ⟨v, mv', rfl, rv, t⟩ := h.uncons
    show KR K F (mergeK (putK kvs k v) mv') (mergeD (putD kds k d) more)
    exact KR.merge t (r.put rv)
def dDisp (tp : DTP) : DTE := fun S G Q => tp S G fun qs G1 => match keyed qs with
  | some kds => kds.length ≤ 15 ∧ Q (.dK (mergeD [] kds)) G1
  | none => False
theorem disp_core {keys : List (Option Expr)} {values : List Expr} {tp : DTP} (h : DPp X pos keys values tp) (hall : keys.all (·.isSome) = true) (hl : keys.length = values.length) (h0 : keys ≠ []) (h15 : keys.length ≤ 15) :
    ∃ t, PE X (.Dict keys values pos) t ∧ ∀ F H σ S G, Ok X.K F H σ S G → ∀ Q' : List (Key × D) → GH → Prop, (tp S G fun qs G1 => match keyed qs with | some kds => kds.length ≤ 15 ∧ Q' (mergeD [] kds) G1 | none => False) → ∀ Q : VK,
      (∀ F' H' G' p kvs kds, H p = none → Go F H G F' H' G' → Gok X.K F' H' G' → F' p = none → G' p = none → KR X.K F' kvs kds → Q' kds G' → H' p = some (.dK []) → Q (.ref p) (upd H' p (.dK kvs))) → t σ H Q := by
  obtain ⟨trs, p1, r⟩ := h.ex
  refine ⟨_, pe_disp p1 hall hl h0 h15, fun F H σ S G o Q' h Q k => ?_⟩
  intro p hp
  have gp : G p = none := o.g.free hp
  have fp : F p = none := o.g.ex.nope hp
  have gr : Gr F H F (upd H p (.dK [])) := Gr.only o.g.ex hp
  refine r F _ σ S G ⟨o.g.grow gr, o.s⟩ _ h _ fun F1 H1 ps qs G1 e1 g1 q1 h1 => ?_
  split at h1
  · rename_i kds ek
    obtain ⟨kvs, rfl, kr⟩ := keyed_rep q1 ek
    have fr := e1.fr p _ upd_same gp
    refine ⟨fr.1, kvs, rfl, by rw [kr.len]; exact h1.1, ?_⟩
    exact k F1 H1 G1 p _ _ hp ((gr.go (G := G)).trans e1) g1 (e1.no p _ upd_same gp fp (fun _ z => nomatch z)) fr.2 (KR.merge kr .nil) h1.2 fr.1
  · exact h1.elim
theorem de_disp {keys : List (Option Expr)} {values : List Expr} {tp : DTP} (h : DPp X pos keys values tp) (hall : keys.all (·.isSome) = true := by rfl) (hl : keys.length = values.length := by rfl) (h0 : keys ≠ [] := by intro z; cases z) (h15 : keys.length ≤ 15 := by decide) : DE X (.Dict keys values pos) (dDisp tp) := by
  obtain ⟨t, p1, r⟩ := disp_core h hall hl h0 h15
  refine ⟨t, p1, fun F H σ S G o Q' h Q k => ?_⟩
  refine r F H σ S G o (fun kds G' => Q' (.dK kds) G') h Q fun F' H' G' p kvs kds hp go g fp gp kr q hd => ?_
  have g2 : Gok X.K (upd F' p (.dK kvs)) (upd H' p (.dK kvs)) G' := by
    refine ⟨g.ex.upds _, fun a w e => ?_, g.one⟩
    have nq : a ≠ p := fun y => by rw [y, gp] at e; cases e
    obtain ⟨f, m⟩ := g.at_ a w e
    refine ⟨by rw [upd_ne nq]; exact f, m.move (Ex.new fp) (fun b u hb hc => ?_) fun c z => z⟩
    have n2 : b ≠ p := fun z => by
      rcases hc with hc | hc
      · exact nq (hc ▸ z)
      · rw [z, gp] at hc; cases hc
    rw [upd_ne n2]; exact hb
  have go2 : Go F H G (upd F' p (.dK kvs)) (upd H' p (.dK kvs)) G' := by
    refine ⟨go.ex.trans (Ex.new fp), fun b u hb gb => ?_, fun b u hb gb fb t => ?_, fun b z => go.st b (upd_none z)⟩
    · have n2 : b ≠ p := fun z => by rw [z, hp] at hb; cases hb
      rw [upd_ne n2]; exact go.fr b u hb gb
    · have n2 : b ≠ p := fun z => by rw [z, hp] at hb; cases hb
      rw [upd_ne n2]; exact go.no b u hb gb fb t
  have kr2 := kr.mono (Ex.new (o := .dK kvs) fp)
  exact k _ _ _ _ G' go2 g2 (.dK upd_same kr2.ks kr2.vs) q
def dDispM (tp : DTP) : DTE := fun S G Q => tp S G fun qs G1 => match keyed qs with
  | some kds => kds.length ≤ 15 ∧ ∀ p, G1 p = none → Q (.rf p) (gput G1 p (.dK (mergeD [] kds)))
  | none => False
theorem de_dispM {keys : List (Option Expr)} {values : List Expr} {tp : DTP} (h : DPp X pos keys values tp) (hall : keys.all (·.isSome) = true := by rfl) (hl : keys.length = values.length := by rfl) (h0 : keys ≠ [] := by intro z; cases z) (h15 : keys.length ≤ 15 := by decide) : DE X (.Dict keys values pos) (dDispM tp) := by
  obtain ⟨t, p1, r⟩ := disp_core h hall hl h0 h15
  refine ⟨t, p1, fun F H σ S G o Q' h Q k => ?_⟩
  refine r F H σ S G o (fun kds G' => ∀ p, G' p = none → Q' (.rf p) (gput G' p (.dK kds))) h Q fun F' H' G' p kvs kds hp go g fp gp kr q hd => ?_
  have g2 : Gok X.K F' (upd H' p (.dK kvs)) (gput G' p (.dK kds)) := by
    refine ⟨g.ex.updR fp, fun a w e => ?_, fun a b k1 k2 k3 n j1 j2 j3 m e1 e2 => ?_⟩
    · by_cases nq : a = p
      · subst nq
        rw [gput_same] at e; cases e
        exact ⟨fp, _, upd_same, kr.ks, kr.vs⟩
      · rw [gput_ne nq] at e
        obtain ⟨f, m⟩ := g.at_ a w e
        refine ⟨f, m.move (Ex.refl F') (fun b u hb hc => ?_) fun c z => ?_⟩
        · have n2 : b ≠ p := fun z => by
            rcases hc with hc | hc
            · exact nq (hc ▸ z)
            · rw [z, gp] at hc; cases hc
          rw [upd_ne n2]; exact hb
        · have n2 : c ≠ p := fun y => by rw [y, gp] at z; cases z
          rw [gput_ne n2]; exact z
    · have ha : a ≠ p := fun y => by rw [y, gput_same] at e1; cases e1
      have hb : b ≠ p := fun y => by rw [y, gput_same] at e2; cases e2
      rw [gput_ne ha] at e1; rw [gput_ne hb] at e2
      exact g.one a b k1 k2 k3 n j1 j2 j3 m e1 e2
  have go2 : Go F H G F' (upd H' p (.dK kvs)) (gput G' p (.dK kds)) := by
    refine ⟨go.ex, fun b u hb gb => ?_, go.no, fun b z => go.st b (upd_none z)⟩
    have n2 : b ≠ p := fun z => by rw [z, hp] at hb; cases hb
    rw [upd_ne n2, gput_ne n2]; exact go.fr b u hb gb
  exact k _ _ _ _ _ go2 g2 (.rf p) (q p gp)
def D.shown (d : D) : Str := d.py.shown
structure Cal (P : Program) (w : World) (K : PySem.W.Frag) (mg : Str → Option Value) (base : Heap) (x : Str) (k : Nat) (ps : List Str) (sp : SpD) : Prop where
  ex : ∃ f fd, FnG P w K mg base CX0 k f fd ps (SpOf K sp) ∧ mg x = some (.ref f) ∧ PySem.W.keepIn K (.ref f) = true ∧ Binds K fd ps []
theorem de_cal {x : Str} {k : Nat} {ps : List Str} {sp : SpD} {p : Pos} {e : Expr} {es : List Expr} {ta : DTA} (c : Cal X.prog X.w X.K X.mg X.base x k ps sp) (hA : X.A.guards = some []) (hr : Room k X.A) (ha : DA X (e :: es) ta) (hg : Gl X x := by rfl) (hdb : (x == ("__debug__" : Str)) = false := by decide)
    (he : starEach (e :: es) X.env = (false, eval e X.env) :: starEach es X.env := by rfl) (hpl : (backTo pos (starEach es X.env)).any (·.1) = false := by rfl) : DE X (.Call (.Name x p) (e :: es) [] pos) (dCall sp ta) := by
  obtain ⟨f, fd, Fn, hm, hk, hb⟩ := c.ex
  exact de_call Fn hA hr hg hm hk hb ha hdb he hpl
end
structure Def (K : PySem.W.Frag) (mg : Str → Option Value) (x : Str) (st : Stmt) : Prop where
  ex : ∃ f fd, Fun K x x st f fd ∧ mg x = some (.ref f)
theorem cal_mk {P : Program} {w : World} {K : PySem.W.Frag} {mg : Str → Option Value} {base : Heap} {x : Str} {st : Stmt} {N ps : List Str} {k : Nat} {sp : SpD} (d : Def K mg x st) (sc : FnScope N ps (defScope st)) (len : ∀ ds G Q, sp ds G Q → ds.length = ps.length)
    (bi : ∀ (kV doc pm : Value) (an : Option Addr) (cdv ct : Value) (us : List Value), us.length = ps.length → bindArgs (PySem.W.fnOf x x (defArgs st) (defBody st) (defScope st) .none kV doc pm an cdv ct) ⟨us, []⟩ = pure (ps.zip us))
    (hb : ∀ (f : Addr) (cdv : Value) (A : Around) (outer : List Env) (s : Shared) (H : Hp) (E : XK), A.guards = some [] → Room k (A.deeper (envOfC x (defScope st) s.heap.objs.size f cdv)) →
      ∃ t', DPs (cxOf CX0 P w K mg base N x (defScope st) f cdv A outer s H E).nox (defBody st) t' ∧ ∀ ds G Q, sp ds G Q → t' (fin Q) (dstart N ds) G) : Cal P w K mg base x (k + 1) ps sp := by
  obtain ⟨f, fd, Fu, hm⟩ := d.ex
  exact ⟨f, fd, fn_mk Fu sc len (hb f), hm, Fu.kp, Fu.binds bi⟩
end DL
end
section
set_option Elab.async false
set_option linter.all false
set_option maxRecDepth 100000
namespace DL
open PySem PySem.Spec PyProof.Rows L2
/-- the loop of a for over what is known -/
def ForB (ds : List D) (gd : GH → Prop) (g : DTG) (tb : DTS) (D' : DEnds) (S : DS) (G1 : GH) : Prop := ∃ W : Nat → DS → GH → Prop, W 0 S G1 ∧ (∀ i S G, W i S G → gd G) ∧
  (∀ i S G d, W i S G → ds[i]? = some d → g d S G fun S2 G2 => tb { D' with nx := W (i + 1), ct := W (i + 1), bk := D'.nx } S2 G2) ∧ (∀ S G, W ds.length S G → D'.nx S G)
def WhB (c : DTT) (tb : DTS) (D' : DEnds) (S : DS) (G : GH) : Prop := ∃ W : Nat → DS → GH → Prop, (∃ m, W m S G) ∧ ∀ m S G, W m S G →
  c S G fun b G1 => if b = true then tb { D' with nx := fun S' G' => ∃ m', m' < m ∧ W m' S' G', ct := fun S' G' => ∃ m', m' < m ∧ W m' S' G', bk := D'.nx } S G1 else D'.nx S G1
def LcB (ds : List D) (gd : GH → Prop) (p : Pat) (tt : DTT) (te : DTE) (vs : List Nat) (S : DS) (G1 : GH) (Q : DQ) : Prop := ds.length ≤ sizeLine ∧ ∃ W : Nat → List D → GH → Prop, W 0 [] G1 ∧ (∀ i acc G, W i acc G → gd G) ∧
  (∀ i acc G d, W i acc G → ds[i]? = some d → ∃ S2, p.put d (dwipe S vs) = some S2 ∧ tt S2 G fun b G2 => if b = true then te S2 G2 fun y G3 => W (i + 1) (acc ++ [y]) G3 else W (i + 1) acc G2) ∧
  ∀ acc G, W ds.length acc G → Q (.lst acc) G
theorem x_var (i : Nat) (S : DS) (G : GH) (Q : DQ) : dVar i S G Q = (match S[i]? with | some (some d) => Q d G | _ => False) := rfl
theorem x_C (d : D) (S : DS) (G : GH) (Q : DQ) : dC d S G Q = Q d G := rfl
theorem x_nil (S : DS) (G : GH) (Q : List D → GH → Prop) : dNil S G Q = Q [] G := rfl
theorem x_cons (ta : DTE) (tr : DTA) (S : DS) (G : GH) (Q : List D → GH → Prop) : dCons ta tr S G Q = (ta S G fun d G1 => tr S G1 fun ds G2 => Q (d :: ds) G2) := rfl
theorem x_tup (ta : DTA) (S : DS) (G : GH) (Q : DQ) : dTup ta S G Q = (ta S G fun ds G1 => ds.length ≤ sizeLine ∧ Q (.tup ds) G1) := rfl
theorem x_lst (ta : DTA) (S : DS) (G : GH) (Q : DQ) : dLst ta S G Q = (ta S G fun ds G1 => ds.length ≤ sizeLine ∧ Q (.lst ds) G1) := rfl
theorem x_lstM (ta : DTA) (S : DS) (G : GH) (Q : DQ) : dLstM ta S G Q = (ta S G fun ds G1 => ds.length ≤ sizeLine ∧ ∀ p, G1 p = none → Q (.rf p) (gput G1 p (.lst ds))) := rfl
theorem x_op (r : DR2) (ta tb : DTE) (S : DS) (G : GH) (Q : DQ) : dOp r ta tb S G Q = (ta S G fun x G1 => tb S G1 fun y G2 => r x y G2 Q) := rfl
theorem x_un (r : DR1) (ta : DTE) (S : DS) (G : GH) (Q : DQ) : dUn r ta S G Q = (ta S G fun x G1 => r x G1 Q) := rfl
theorem x_test (ta : DTE) (S : DS) (G : GH) (Q : Bool → GH → Prop) : dTest ta S G Q = (ta S G fun d G1 => match d with | .bl b => Q b G1 | _ => False) := rfl
theorem x_not (t : DTT) (S : DS) (G : GH) (Q : Bool → GH → Prop) : dNot t S G Q = (t S G fun b G1 => Q (!b) G1) := rfl
theorem x_and (t u : DTT) (S : DS) (G : GH) (Q : Bool → GH → Prop) : dAnd t u S G Q = (t S G fun b G1 => if b = true then u S G1 Q else Q false G1) := rfl
theorem x_or (t u : DTT) (S : DS) (G : GH) (Q : Bool → GH → Prop) : dOr t u S G Q = (t S G fun b G1 => if b = true then Q true G1 else u S G1 Q) := rfl
theorem x_if (t : DTT) (ta tb : DTE) (S : DS) (G : GH) (Q : DQ) : dIf t ta tb S G Q = (t S G fun b G1 => if b = true then ta S G1 Q else tb S G1 Q) := rfl
theorem x_andV (ta tb : DTE) (S : DS) (G : GH) (Q : DQ) : dAndV ta tb S G Q = (ta S G fun d G1 => match d with | .bl b => if b = true then tb S G1 Q else Q (.bl false) G1 | _ => False) := rfl
theorem x_orV (ta tb : DTE) (S : DS) (G : GH) (Q : DQ) : dOrV ta tb S G Q = (ta S G fun d G1 => match d with | .bl b => if b = true then Q (.bl true) G1 else tb S G1 Q | _ => False) := rfl
theorem x_notV (ta : DTE) (S : DS) (G : GH) (Q : DQ) : dNotV ta S G Q = (ta S G fun d G1 => match d with | .bl b => Q (.bl (!b)) G1 | _ => False) := rfl
theorem x_gname (i : Nat) (d : D) (S : DS) (G : GH) (Q : DS → GH → Prop) : dgName i d S G Q = Q (S.set i (some d)) G := rfl
theorem x_gkup (n : Nat) (u : DTGs) (ds : List D) (S : DS) (G : GH) (Q : DS → GH → Prop) : dgTup n u (.kup ds) S G Q = (ds.length = n ∧ u ds S G Q) := rfl
theorem x_gtup (n : Nat) (u : DTGs) (ds : List D) (S : DS) (G : GH) (Q : DS → GH → Prop) : dgTup n u (.tup ds) S G Q = (ds.length = n ∧ u ds S G Q) := rfl
theorem x_gnil (S : DS) (G : GH) (Q : DS → GH → Prop) : dgNil [] S G Q = Q S G := rfl
theorem x_gcons (t : DTG) (u : DTGs) (d : D) (ds : List D) (S : DS) (G : GH) (Q : DS → GH → Prop) : dgCons t u (d :: ds) S G Q = (t d S G fun S1 G1 => u ds S1 G1 Q) := rfl
theorem x_next (D' : DEnds) (S : DS) (G : GH) : dNext D' S G = D'.nx S G := rfl
theorem x_seq (t u : DTS) (D' : DEnds) (S : DS) (G : GH) : dSeq t u D' S G = t { D' with nx := u D' } S G := rfl
theorem x_asg (te : DTE) (g : DTG) (D' : DEnds) (S : DS) (G : GH) : dAsg te g D' S G = (te S G fun d G1 => g d S G1 D'.nx) := rfl
theorem x_drop (te : DTE) (D' : DEnds) (S : DS) (G : GH) : dDrop te D' S G = (te S G fun _ G1 => D'.nx S G1) := rfl
theorem x_ret (te : DTE) (D' : DEnds) (S : DS) (G : GH) : dRet te D' S G = te S G D'.rt := rfl
theorem x_retN (D' : DEnds) (S : DS) (G : GH) : dRetN D' S G = D'.rt .non G := rfl
theorem x_ifS (c : DTT) (t u : DTS) (D' : DEnds) (S : DS) (G : GH) : dIfS c t u D' S G = (c S G fun b G1 => if b = true then t D' S G1 else u D' S G1) := rfl
theorem x_never (D' : DEnds) (S : DS) (G : GH) : dNever D' S G = False := rfl
theorem x_break (D' : DEnds) (S : DS) (G : GH) : dBreak D' S G = D'.bk S G := rfl
theorem x_cont (D' : DEnds) (S : DS) (G : GH) : dCont D' S G = D'.ct S G := rfl
theorem x_call (sp : SpD) (ta : DTA) (S : DS) (G : GH) (Q : DQ) : dCall sp ta S G Q = (ta S G fun ds G1 => sp ds G1 Q) := rfl
theorem x_cb (r : List D → GH → DQ → Prop) (ta : DTA) (S : DS) (G : GH) (Q : DQ) : dCB r ta S G Q = (ta S G fun ds G1 => r ds G1 Q) := rfl
theorem x_bm (T : String) (r : D → List D → GH → DQ → Prop) (to : DTE) (ta : DTA) (S : DS) (G : GH) (Q : DQ) : dBM T r to ta S G Q = (to S G fun x G1 => D.hasTy T (x.cur G1) = true ∧ ta S G1 fun ds G2 => r x ds G2 Q) := rfl
theorem x_bm0 (T : String) (r : D → List D → GH → DQ → Prop) (to : DTE) (S : DS) (G : GH) (Q : DQ) : dBM0 T r to S G Q = (to S G fun x G1 => D.hasTy T (x.cur G1) = true ∧ r x [] G1 Q) := rfl
theorem x_nopart (S : DS) (G : GH) (Q : Option Int → GH → Prop) : dNoPart S G Q = Q none G := rfl
theorem x_part (ta : DTE) (S : DS) (G : GH) (Q : Option Int → GH → Prop) : dPart ta S G Q = (ta S G fun d G1 => match d with | .int i => Q (some i) G1 | _ => False) := rfl
theorem x_slice (ta : DTE) (tl th : DTO) (S : DS) (G : GH) (Q : DQ) : dSlice ta tl th S G Q = (ta S G fun x G1 => tl S G1 fun lo G2 => th S G2 fun hi G3 => rSlice x lo hi G3 Q) := rfl
theorem x_newK (S : DS) (G : GH) (Q : DQ) : dNewK S G Q = (∀ p, G p = none → Q (.rf p) (gput G p (.dK []))) := rfl
theorem x_newT (S : DS) (G : GH) (Q : DQ) : dNewT S G Q = (∀ p, G p = none → Q (.rf p) (gput G p (.dT []))) := rfl
theorem x_yes (S : DS) (G : GH) (Q : Bool → GH → Prop) : dYes S G Q = Q true G := rfl
theorem x_pnil (S : DS) (G : GH) (Q : List (D × D) → GH → Prop) : dpNil S G Q = Q [] G := rfl
theorem x_pcons (tk tv : DTE) (tr : DTP) (S : DS) (G : GH) (Q : List (D × D) → GH → Prop) : dpCons tk tv tr S G Q = (tk S G fun k G1 => tv S G1 fun v G2 => tr S G2 fun qs G3 => Q ((k, v) :: qs) G3) := rfl
theorem x_dCold (ta : DTE) (S : DS) (G : GH) (Q : DQ) : dCold ta S G Q = (ta S G fun d G1 => match d with
  | .rf a => (match G1 a with
    | some o => (match o.cold with
      | some d => Q d (gdel G1 a)
      | none => False)
    | none => False)
  | d => Q d G1) := rfl
theorem x_dFld (C : Addr) (f : Str) (ta : DTE) (S : DS) (G : GH) (Q : DQ) : dFld C f ta S G Q = (ta S G fun d G1 => match d.cur G1 with
  | .obj C' fs => C' = C ∧ (match fs.lookup f with
    | some v => Q v G1
    | none => False)
  | _ => False) := rfl
theorem x_dSetFld (C : Addr) (f : Str) (ta tv : DTE) (D' : DEnds) (S : DS) (G : GH) : dSetFld C f ta tv D' S G = (tv S G fun y G1 => ta S G1 fun x G2 => match x with
  | .rf a => (match G2 a with
    | some (.ins C' fs) => C' = C ∧ fs.length < 1000 ∧ D'.nx S (gput G2 a (.ins C (putFD f y fs)))
    | _ => False)
  | _ => False) := rfl
theorem x_dSetSub (to ti : DTE) (v : D) (S : DS) (G : GH) (Q : DS → GH → Prop) : dSetSub to ti v S G Q = (to S G fun x G1 => ti S G1 fun i G2 => match x with
  | .rf a => (match G2 a with
    | some (.lst xs) => (match i with
      | .int j => (match ixN xs.length j with
        | some n => Q S (gput G2 a (.lst (xs.set n v)))
        | none => False)
      | _ => False)
    | some (.dK kds) => (match i.key with
      | some k => kds.length < sizeLine ∧ Q S (gput G2 a (.dK (putD kds k v)))
      | none => False)
    | some (.dT kds) => (match i with
      | .tup ds => (match D.keys ds with
        | some k => kds.length < sizeLine ∧ Q S (gput G2 a (.dT (putD kds k v)))
        | none => False)
      | _ => False)
    | _ => False)
  | _ => False) := rfl
theorem x_dMeth (C : Addr) (m : Str) (sp : SpD) (ta : DTE) (tr : DTA) (S : DS) (G : GH) (Q : DQ) : dMeth C m sp ta tr S G Q = (ta S G fun d G1 => match d.cur G1 with
  | .obj C' fs => C' = C ∧ fs.lookup m = none ∧ tr S G1 fun ds G2 => sp (d :: ds) G2 Q
  | _ => False) := rfl
theorem x_dMake (C : Addr) (sp : SpD) (tr : DTA) (S : DS) (G : GH) (Q : DQ) : dMake C sp tr S G Q = (tr S G fun ds G1 => ∀ y, G1 y = none → sp (.rf y :: ds) (gput G1 y (.ins C [])) fun d G2 => match d with
  | .non => Q (.rf y) G2
  | _ => False) := rfl
theorem x_diTup (te : DTE) (S : DS) (G : GH) (R : List D → (GH → Prop) → GH → Prop) : diTup te S G R = (te S G fun d G1 => match d with
  | .tup ds => R ds dNoGuard G1
  | .kup ds => R ds dNoGuard G1
  | _ => False) := rfl
theorem x_diList (te : DTE) (S : DS) (G : GH) (R : List D → (GH → Prop) → GH → Prop) : diList te S G R = (te S G fun d G1 => match d with
  | .lst ds => R ds dNoGuard G1
  | .rf a => (match G1 a with
    | some (.lst ds) => R ds (fun G => G a = some (.lst ds)) G1
    | _ => False)
  | _ => False) := rfl
theorem x_diStr (te : DTE) (S : DS) (G : GH) (R : List D → (GH → Prop) → GH → Prop) : diStr te S G R = (te S G fun d G1 => match d with
  | .str x => R (signs x) dNoGuard G1
  | _ => False) := rfl
theorem x_diRange1 (ta : DTA) (S : DS) (G : GH) (R : List D → (GH → Prop) → GH → Prop) : diRange1 ta S G R = (ta S G fun ds G1 => match ds with
  | [.int n] => -(2 ^ 62) ≤ n ∧ n < 2 ^ 62 ∧ R ((List.range n.toNat).map fun i => .int (i : Nat)) dNoGuard G1
  | _ => False) := rfl
theorem x_diRange2 (ta : DTA) (S : DS) (G : GH) (R : List D → (GH → Prop) → GH → Prop) : diRange2 ta S G R = (ta S G fun ds G1 => match ds with
  | [.int m, .int n] => (-(2 ^ 62) ≤ m ∧ m < 2 ^ 62 ∧ -(2 ^ 62) ≤ n ∧ n < 2 ^ 62) ∧ R ((List.range (n - m).toNat).map fun i => .int (m + (i : Nat))) dNoGuard G1
  | _ => False) := rfl
theorem x_dLcM (wi : DTI) (p : Pat) (tt : DTT) (te : DTE) (vs : List Nat) (S : DS) (G : GH) (Q : DQ) : dLcM wi p tt te vs S G Q = (dLc wi p tt te vs S G fun d G' => match d with
  | .lst acc => ∀ a, G' a = none → Q (.rf a) (gput G' a (.lst acc))
  | _ => False) := rfl
theorem x_dGet1 (td ty : DTE) (S : DS) (G : GH) (Q : DQ) : dGet1 td ty S G Q = (td S G fun x G1 => D.hasTy "dict" (x.cur G1) = true ∧ ty S G1 fun y G2 => match (x.cur G2).look y with
  | some o => Q (o.getD .non) G2
  | none => False) := rfl
theorem x_dGet2 (td ty tx : DTE) (S : DS) (G : GH) (Q : DQ) : dGet2 td ty tx S G Q = (td S G fun x G1 => D.hasTy "dict" (x.cur G1) = true ∧ ty S G1 fun y G2 => tx S G2 fun z G3 => match (x.cur G3).look y with
  | some o => Q (o.getD z) G3
  | none => False) := rfl
theorem x_diEnumT (ta : DTA) (S : DS) (G : GH) (R : List D → (GH → Prop) → GH → Prop) : diEnumT ta S G R = (ta S G fun ds G1 => match ds with
  | [.tup xs] => R (xs.mapIdx fun i x => .tup [.int (i : Nat), x]) dNoGuard G1
  | [.kup xs] => R (xs.mapIdx fun i x => .tup [.int (i : Nat), x]) dNoGuard G1
  | _ => False) := rfl
theorem x_diZipS (ta : DTA) (S : DS) (G : GH) (R : List D → (GH → Prop) → GH → Prop) : diZipS ta S G R = (ta S G fun ds G1 => match ds with
  | [.str x, .str y] => R (List.zipWith (fun a b => .tup [.str (sgn a), .str (sgn b)]) x.cps.toList y.cps.toList) dNoGuard G1
  | _ => False) := rfl
theorem x_diZipT (ta : DTA) (S : DS) (G : GH) (R : List D → (GH → Prop) → GH → Prop) : diZipT ta S G R = (ta S G fun ds G1 => match ds with
  | [.tup xs, .tup ys] => R (List.zipWith (fun a b => .tup [a, b]) xs ys) dNoGuard G1
  | _ => False) := rfl
theorem x_dPar (i j : Nat) (ta : DTA) (D' : DEnds) (S : DS) (G : GH) : dPar i j ta D' S G = (ta S G fun ds G1 => match ds with
  | [x, y] => D'.nx ((S.set i (some x)).set j (some y)) G1
  | _ => False) := rfl
theorem x_dPar3 (i j l : Nat) (ta : DTA) (D' : DEnds) (S : DS) (G : GH) : dPar3 i j l ta D' S G = (ta S G fun ds G1 => match ds with
  | [x, y, z] => D'.nx (((S.set i (some x)).set j (some y)).set l (some z)) G1
  | _ => False) := rfl
theorem x_dAug (i : Nat) (te : DTE) (f : Int → Int → Int) (D' : DEnds) (S : DS) (G : GH) : dAug i te f D' S G = (match S[i]? with
  | some (some (.int a)) => te S G fun d G1 => (match d with
    | .int b => D'.nx (S.set i (some (.int (f a b)))) G1
    | _ => False)
  | _ => False) := rfl
theorem x_dRevL (te : DTE) (S : DS) (G : GH) (Q : DQ) : dRevL te S G Q = (te S G fun d G1 => match d.cur G1 with
  | .lst xs => Q (.lst xs.reverse) G1
  | _ => False) := rfl
theorem x_dRevLM (te : DTE) (S : DS) (G : GH) (Q : DQ) : dRevLM te S G Q = (te S G fun d G1 => match d.cur G1 with
  | .lst xs => ∀ p, G1 p = none → Q (.rf p) (gput G1 p (.lst xs.reverse))
  | _ => False) := rfl
theorem x_dDisp (tp : DTP) (S : DS) (G : GH) (Q : DQ) : dDisp tp S G Q = (tp S G fun qs G1 => match keyed qs with
  | some kds => kds.length ≤ 15 ∧ Q (.dK (mergeD [] kds)) G1
  | none => False) := rfl
theorem x_dDispM (tp : DTP) (S : DS) (G : GH) (Q : DQ) : dDispM tp S G Q = (tp S G fun qs G1 => match keyed qs with
  | some kds => kds.length ≤ 15 ∧ ∀ p, G1 p = none → Q (.rf p) (gput G1 p (.dK (mergeD [] kds)))
  | none => False) := rfl
theorem x_dChain (r r' : DR2) (ta tb tc : DTE) (S : DS) (G : GH) (Q : DQ) : dChain r r' ta tb tc S G Q = (ta S G fun x G1 => tb S G1 fun y G2 => r x y G2 fun z G3 => match z with
  | .bl k => if k = true then tc S G3 fun w G4 => r' y w G4 Q else Q (.bl false) G3
  | _ => False) := rfl
theorem x_for (wi : DTI) (g : DTG) (tb : DTS) (D' : DEnds) (S : DS) (G : GH) : dFor wi g tb D' S G = (wi S G fun ds gd G1 => ForB ds gd g tb D' S G1) := rfl
theorem x_while (c : DTT) (tb : DTS) (D' : DEnds) (S : DS) (G : GH) : dWhile c tb D' S G = WhB c tb D' S G := rfl
theorem x_lc (wi : DTI) (p : Pat) (tt : DTT) (te : DTE) (vs : List Nat) (S : DS) (G : GH) (Q : DQ) : dLc wi p tt te vs S G Q = (wi S G fun ds gd G1 => LcB ds gd p tt te vs S G1 Q) := rfl
theorem x_curK (G : GH) (a : Addr) : D.cur G (.rf a) = (match G a with
    | some (.lst xs) => .lst xs
    | some (.dK kds) => .dK kds
    | some (.dT kds) => .dT kds
    | some (.ins C kds) => .obj C kds
    | _ => .rf a) := rfl
theorem x_cur_non (G : GH)  : D.cur G (.non ) = .non  := rfl
theorem x_cur_bl (G : GH) (b : Bool) : D.cur G (.bl b) = .bl b := rfl
theorem x_cur_int (G : GH) (i : Int) : D.cur G (.int i) = .int i := rfl
theorem x_cur_str (G : GH) (x : Str) : D.cur G (.str x) = .str x := rfl
theorem x_ty_str (T : String) (x : Str) : D.hasTy T (.str x) = (T == "str") := rfl
theorem x_cur_ty (G : GH) (n : String) : D.cur G (.ty n) = .ty n := rfl
theorem x_cur_tup (G : GH) (xs : List D) : D.cur G (.tup xs) = .tup xs := rfl
theorem x_cur_lst (G : GH) (xs : List D) : D.cur G (.lst xs) = .lst xs := rfl
theorem x_ty_lst (T : String) (xs : List D) : D.hasTy T (.lst xs) = (T == "list") := rfl
theorem x_cur_dK (G : GH) (kvs : List (Key × D)) : D.cur G (.dK kvs) = .dK kvs := rfl
theorem x_ty_dK (T : String) (kvs : List (Key × D)) : D.hasTy T (.dK kvs) = (T == "dict") := rfl
theorem x_cur_dT (G : GH) (kvs : List (List Key × D)) : D.cur G (.dT kvs) = .dT kvs := rfl
theorem x_ty_dT (T : String) (kvs : List (List Key × D)) : D.hasTy T (.dT kvs) = (T == "dict") := rfl
theorem x_cur_obj (G : GH) (C : Addr) (fs : List (Str × D)) : D.cur G (.obj C fs) = .obj C fs := rfl
theorem x_cur_scr (G : GH) (ns : List Int) : D.cur G (.scr ns) = .scr ns := rfl
theorem x_cur_kup (G : GH) (xs : List D) : D.cur G (.kup xs) = .kup xs := rfl
theorem x_item (x y : D) (G : GH) (Q : DQ) : rItem x y G Q = (match D.item (x.cur G) y with | some d => Q d G | none => False) := rfl
theorem x_int (C : Int → Int → Prop) (f : Int → Int → Int) (i j : Int) (G : GH) (Q : DQ) : rIntD C f (.int i) (.int j) G Q = (C i j ∧ Q (.int (f i j)) G) := rfl
theorem x_neg (i : Int) (G : GH) (Q : DQ) : rNegD (.int i) G Q = Q (.int (-i)) G := rfl
theorem dxs : (((((((∀ (i : Nat) (S : DS) (G : GH) (Q : DQ), dVar i S G Q = (match S[i]? with | some (some d) => Q d G | _ => False)) ∧
 (∀ (d : D) (S : DS) (G : GH) (Q : DQ), dC d S G Q = Q d G)) ∧
 ((∀ (S : DS) (G : GH) (Q : List D → GH → Prop), dNil S G Q = Q [] G) ∧
 ((∀ (ta : DTE) (tr : DTA) (S : DS) (G : GH) (Q : List D → GH → Prop), dCons ta tr S G Q = (ta S G fun d G1 => tr S G1 fun ds G2 => Q (d :: ds) G2)) ∧
 (∀ (ta : DTA) (S : DS) (G : GH) (Q : DQ), dTup ta S G Q = (ta S G fun ds G1 => ds.length ≤ sizeLine ∧ Q (.tup ds) G1))))) ∧
 (((∀ (ta : DTA) (S : DS) (G : GH) (Q : DQ), dLst ta S G Q = (ta S G fun ds G1 => ds.length ≤ sizeLine ∧ Q (.lst ds) G1)) ∧
 ((∀ (ta : DTA) (S : DS) (G : GH) (Q : DQ), dLstM ta S G Q = (ta S G fun ds G1 => ds.length ≤ sizeLine ∧ ∀ p, G1 p = none → Q (.rf p) (gput G1 p (.lst ds)))) ∧
 (∀ (r : DR2) (ta tb : DTE) (S : DS) (G : GH) (Q : DQ), dOp r ta tb S G Q = (ta S G fun x G1 => tb S G1 fun y G2 => r x y G2 Q)))) ∧
 ((∀ (r : DR1) (ta : DTE) (S : DS) (G : GH) (Q : DQ), dUn r ta S G Q = (ta S G fun x G1 => r x G1 Q)) ∧
 ((∀ (ta : DTE) (S : DS) (G : GH) (Q : Bool → GH → Prop), dTest ta S G Q = (ta S G fun d G1 => match d with | .bl b => Q b G1 | _ => False)) ∧
 (∀ (t : DTT) (S : DS) (G : GH) (Q : Bool → GH → Prop), dNot t S G Q = (t S G fun b G1 => Q (!b) G1)))))) ∧
 ((((∀ (t u : DTT) (S : DS) (G : GH) (Q : Bool → GH → Prop), dAnd t u S G Q = (t S G fun b G1 => if b = true then u S G1 Q else Q false G1)) ∧
 ((∀ (t u : DTT) (S : DS) (G : GH) (Q : Bool → GH → Prop), dOr t u S G Q = (t S G fun b G1 => if b = true then Q true G1 else u S G1 Q)) ∧
 (∀ (t : DTT) (ta tb : DTE) (S : DS) (G : GH) (Q : DQ), dIf t ta tb S G Q = (t S G fun b G1 => if b = true then ta S G1 Q else tb S G1 Q)))) ∧
 ((∀ (ta tb : DTE) (S : DS) (G : GH) (Q : DQ), dAndV ta tb S G Q = (ta S G fun d G1 => match d with | .bl b => if b = true then tb S G1 Q else Q (.bl false) G1 | _ => False)) ∧
 ((∀ (ta tb : DTE) (S : DS) (G : GH) (Q : DQ), dOrV ta tb S G Q = (ta S G fun d G1 => match d with | .bl b => if b = true then Q (.bl true) G1 else tb S G1 Q | _ => False)) ∧
 (∀ (ta : DTE) (S : DS) (G : GH) (Q : DQ), dNotV ta S G Q = (ta S G fun d G1 => match d with | .bl b => Q (.bl (!b)) G1 | _ => False))))) ∧
 (((∀ (i : Nat) (d : D) (S : DS) (G : GH) (Q : DS → GH → Prop), dgName i d S G Q = Q (S.set i (some d)) G) ∧
 ((∀ (n : Nat) (u : DTGs) (ds : List D) (S : DS) (G : GH) (Q : DS → GH → Prop), dgTup n u (.kup ds) S G Q = (ds.length = n ∧ u ds S G Q)) ∧
 (∀ (n : Nat) (u : DTGs) (ds : List D) (S : DS) (G : GH) (Q : DS → GH → Prop), dgTup n u (.tup ds) S G Q = (ds.length = n ∧ u ds S G Q)))) ∧
 ((∀ (S : DS) (G : GH) (Q : DS → GH → Prop), dgNil [] S G Q = Q S G) ∧
 ((∀ (t : DTG) (u : DTGs) (d : D) (ds : List D) (S : DS) (G : GH) (Q : DS → GH → Prop), dgCons t u (d :: ds) S G Q = (t d S G fun S1 G1 => u ds S1 G1 Q)) ∧
 (∀ (D' : DEnds) (S : DS) (G : GH), dNext D' S G = D'.nx S G)))))) ∧
 (((((∀ (t u : DTS) (D' : DEnds) (S : DS) (G : GH), dSeq t u D' S G = t { D' with nx := u D' } S G) ∧
 (∀ (te : DTE) (g : DTG) (D' : DEnds) (S : DS) (G : GH), dAsg te g D' S G = (te S G fun d G1 => g d S G1 D'.nx))) ∧
 ((∀ (te : DTE) (D' : DEnds) (S : DS) (G : GH), dDrop te D' S G = (te S G fun _ G1 => D'.nx S G1)) ∧
 ((∀ (te : DTE) (D' : DEnds) (S : DS) (G : GH), dRet te D' S G = te S G D'.rt) ∧
 (∀ (D' : DEnds) (S : DS) (G : GH), dRetN D' S G = D'.rt .non G)))) ∧
 (((∀ (c : DTT) (t u : DTS) (D' : DEnds) (S : DS) (G : GH), dIfS c t u D' S G = (c S G fun b G1 => if b = true then t D' S G1 else u D' S G1)) ∧
 ((∀ (D' : DEnds) (S : DS) (G : GH), dNever D' S G = False) ∧
 (∀ (D' : DEnds) (S : DS) (G : GH), dBreak D' S G = D'.bk S G))) ∧
 ((∀ (D' : DEnds) (S : DS) (G : GH), dCont D' S G = D'.ct S G) ∧
 ((∀ (sp : SpD) (ta : DTA) (S : DS) (G : GH) (Q : DQ), dCall sp ta S G Q = (ta S G fun ds G1 => sp ds G1 Q)) ∧
 (∀ (r : List D → GH → DQ → Prop) (ta : DTA) (S : DS) (G : GH) (Q : DQ), dCB r ta S G Q = (ta S G fun ds G1 => r ds G1 Q)))))) ∧
 ((((∀ (T : String) (r : D → List D → GH → DQ → Prop) (to : DTE) (ta : DTA) (S : DS) (G : GH) (Q : DQ), dBM T r to ta S G Q = (to S G fun x G1 => D.hasTy T (x.cur G1) = true ∧ ta S G1 fun ds G2 => r x ds G2 Q)) ∧
 ((∀ (T : String) (r : D → List D → GH → DQ → Prop) (to : DTE) (S : DS) (G : GH) (Q : DQ), dBM0 T r to S G Q = (to S G fun x G1 => D.hasTy T (x.cur G1) = true ∧ r x [] G1 Q)) ∧
 (∀ (S : DS) (G : GH) (Q : Option Int → GH → Prop), dNoPart S G Q = Q none G))) ∧
 ((∀ (ta : DTE) (S : DS) (G : GH) (Q : Option Int → GH → Prop), dPart ta S G Q = (ta S G fun d G1 => match d with | .int i => Q (some i) G1 | _ => False)) ∧
 ((∀ (ta : DTE) (tl th : DTO) (S : DS) (G : GH) (Q : DQ), dSlice ta tl th S G Q = (ta S G fun x G1 => tl S G1 fun lo G2 => th S G2 fun hi G3 => rSlice x lo hi G3 Q)) ∧
 (∀ (S : DS) (G : GH) (Q : DQ), dNewK S G Q = (∀ p, G p = none → Q (.rf p) (gput G p (.dK []))))))) ∧
 (((∀ (S : DS) (G : GH) (Q : DQ), dNewT S G Q = (∀ p, G p = none → Q (.rf p) (gput G p (.dT [])))) ∧
 ((∀ (S : DS) (G : GH) (Q : Bool → GH → Prop), dYes S G Q = Q true G) ∧
 (∀ (S : DS) (G : GH) (Q : List (D × D) → GH → Prop), dpNil S G Q = Q [] G))) ∧
 ((∀ (tk tv : DTE) (tr : DTP) (S : DS) (G : GH) (Q : List (D × D) → GH → Prop), dpCons tk tv tr S G Q = (tk S G fun k G1 => tv S G1 fun v G2 => tr S G2 fun qs G3 => Q ((k, v) :: qs) G3)) ∧
 ((∀ (ta : DTE) (S : DS) (G : GH) (Q : DQ), dCold ta S G Q = (ta S G fun d G1 => match d with
  | .rf a => (match G1 a with
    | some o => (match o.cold with
      | some d => Q d (gdel G1 a)
      | none => False)
    | none => False)
  | d => Q d G1)) ∧
 (∀ (C : Addr) (f : Str) (ta : DTE) (S : DS) (G : GH) (Q : DQ), dFld C f ta S G Q = (ta S G fun d G1 => match d.cur G1 with
  | .obj C' fs => C' = C ∧ (match fs.lookup f with
    | some v => Q v G1
    | none => False)
  | _ => False)))))))) ∧
 ((((((∀ (C : Addr) (f : Str) (ta tv : DTE) (D' : DEnds) (S : DS) (G : GH), dSetFld C f ta tv D' S G = (tv S G fun y G1 => ta S G1 fun x G2 => match x with
  | .rf a => (match G2 a with
    | some (.ins C' fs) => C' = C ∧ fs.length < 1000 ∧ D'.nx S (gput G2 a (.ins C (putFD f y fs)))
    | _ => False)
  | _ => False)) ∧
 (∀ (to ti : DTE) (v : D) (S : DS) (G : GH) (Q : DS → GH → Prop), dSetSub to ti v S G Q = (to S G fun x G1 => ti S G1 fun i G2 => match x with
  | .rf a => (match G2 a with
    | some (.lst xs) => (match i with
      | .int j => (match ixN xs.length j with
        | some n => Q S (gput G2 a (.lst (xs.set n v)))
        | none => False)
      | _ => False)
    | some (.dK kds) => (match i.key with
      | some k => kds.length < sizeLine ∧ Q S (gput G2 a (.dK (putD kds k v)))
      | none => False)
    | some (.dT kds) => (match i with
      | .tup ds => (match D.keys ds with
        | some k => kds.length < sizeLine ∧ Q S (gput G2 a (.dT (putD kds k v)))
        | none => False)
      | _ => False)
    | _ => False)
  | _ => False))) ∧
 ((∀ (C : Addr) (m : Str) (sp : SpD) (ta : DTE) (tr : DTA) (S : DS) (G : GH) (Q : DQ), dMeth C m sp ta tr S G Q = (ta S G fun d G1 => match d.cur G1 with
  | .obj C' fs => C' = C ∧ fs.lookup m = none ∧ tr S G1 fun ds G2 => sp (d :: ds) G2 Q
  | _ => False)) ∧
 ((∀ (C : Addr) (sp : SpD) (tr : DTA) (S : DS) (G : GH) (Q : DQ), dMake C sp tr S G Q = (tr S G fun ds G1 => ∀ y, G1 y = none → sp (.rf y :: ds) (gput G1 y (.ins C [])) fun d G2 => match d with
  | .non => Q (.rf y) G2
  | _ => False)) ∧
 (∀ (te : DTE) (S : DS) (G : GH) (R : List D → (GH → Prop) → GH → Prop), diTup te S G R = (te S G fun d G1 => match d with
  | .tup ds => R ds dNoGuard G1
  | .kup ds => R ds dNoGuard G1
  | _ => False))))) ∧
 (((∀ (te : DTE) (S : DS) (G : GH) (R : List D → (GH → Prop) → GH → Prop), diList te S G R = (te S G fun d G1 => match d with
  | .lst ds => R ds dNoGuard G1
  | .rf a => (match G1 a with
    | some (.lst ds) => R ds (fun G => G a = some (.lst ds)) G1
    | _ => False)
  | _ => False)) ∧
 ((∀ (te : DTE) (S : DS) (G : GH) (R : List D → (GH → Prop) → GH → Prop), diStr te S G R = (te S G fun d G1 => match d with
  | .str x => R (signs x) dNoGuard G1
  | _ => False)) ∧
 (∀ (ta : DTA) (S : DS) (G : GH) (R : List D → (GH → Prop) → GH → Prop), diRange1 ta S G R = (ta S G fun ds G1 => match ds with
  | [.int n] => -(2 ^ 62) ≤ n ∧ n < 2 ^ 62 ∧ R ((List.range n.toNat).map fun i => .int (i : Nat)) dNoGuard G1
  | _ => False)))) ∧
 ((∀ (ta : DTA) (S : DS) (G : GH) (R : List D → (GH → Prop) → GH → Prop), diRange2 ta S G R = (ta S G fun ds G1 => match ds with
  | [.int m, .int n] => (-(2 ^ 62) ≤ m ∧ m < 2 ^ 62 ∧ -(2 ^ 62) ≤ n ∧ n < 2 ^ 62) ∧ R ((List.range (n - m).toNat).map fun i => .int (m + (i : Nat))) dNoGuard G1
  | _ => False)) ∧
 ((∀ (wi : DTI) (p : Pat) (tt : DTT) (te : DTE) (vs : List Nat) (S : DS) (G : GH) (Q : DQ), dLcM wi p tt te vs S G Q = (dLc wi p tt te vs S G fun d G' => match d with
  | .lst acc => ∀ a, G' a = none → Q (.rf a) (gput G' a (.lst acc))
  | _ => False)) ∧
 (∀ (td ty : DTE) (S : DS) (G : GH) (Q : DQ), dGet1 td ty S G Q = (td S G fun x G1 => D.hasTy "dict" (x.cur G1) = true ∧ ty S G1 fun y G2 => match (x.cur G2).look y with
  | some o => Q (o.getD .non) G2
  | none => False)))))) ∧
 ((((∀ (td ty tx : DTE) (S : DS) (G : GH) (Q : DQ), dGet2 td ty tx S G Q = (td S G fun x G1 => D.hasTy "dict" (x.cur G1) = true ∧ ty S G1 fun y G2 => tx S G2 fun z G3 => match (x.cur G3).look y with
  | some o => Q (o.getD z) G3
  | none => False)) ∧
 ((∀ (ta : DTA) (S : DS) (G : GH) (R : List D → (GH → Prop) → GH → Prop), diEnumT ta S G R = (ta S G fun ds G1 => match ds with
  | [.tup xs] => R (xs.mapIdx fun i x => .tup [.int (i : Nat), x]) dNoGuard G1
  | [.kup xs] => R (xs.mapIdx fun i x => .tup [.int (i : Nat), x]) dNoGuard G1
  | _ => False)) ∧
 (∀ (ta : DTA) (S : DS) (G : GH) (R : List D → (GH → Prop) → GH → Prop), diZipS ta S G R = (ta S G fun ds G1 => match ds with
  | [.str x, .str y] => R (List.zipWith (fun a b => .tup [.str (sgn a), .str (sgn b)]) x.cps.toList y.cps.toList) dNoGuard G1
  | _ => False)))) ∧
 ((∀ (ta : DTA) (S : DS) (G : GH) (R : List D → (GH → Prop) → GH → Prop), diZipT ta S G R = (ta S G fun ds G1 => match ds with
  | [.tup xs, .tup ys] => R (List.zipWith (fun a b => .tup [a, b]) xs ys) dNoGuard G1
  | _ => False)) ∧
 ((∀ (i j : Nat) (ta : DTA) (D' : DEnds) (S : DS) (G : GH), dPar i j ta D' S G = (ta S G fun ds G1 => match ds with
  | [x, y] => D'.nx ((S.set i (some x)).set j (some y)) G1
  | _ => False)) ∧
 (∀ (i j l : Nat) (ta : DTA) (D' : DEnds) (S : DS) (G : GH), dPar3 i j l ta D' S G = (ta S G fun ds G1 => match ds with
  | [x, y, z] => D'.nx (((S.set i (some x)).set j (some y)).set l (some z)) G1
  | _ => False))))) ∧
 (((∀ (i : Nat) (te : DTE) (f : Int → Int → Int) (D' : DEnds) (S : DS) (G : GH), dAug i te f D' S G = (match S[i]? with
  | some (some (.int a)) => te S G fun d G1 => (match d with
    | .int b => D'.nx (S.set i (some (.int (f a b)))) G1
    | _ => False)
  | _ => False)) ∧
 ((∀ (te : DTE) (S : DS) (G : GH) (Q : DQ), dRevL te S G Q = (te S G fun d G1 => match d.cur G1 with
  | .lst xs => Q (.lst xs.reverse) G1
  | _ => False)) ∧
 (∀ (te : DTE) (S : DS) (G : GH) (Q : DQ), dRevLM te S G Q = (te S G fun d G1 => match d.cur G1 with
  | .lst xs => ∀ p, G1 p = none → Q (.rf p) (gput G1 p (.lst xs.reverse))
  | _ => False)))) ∧
 ((∀ (tp : DTP) (S : DS) (G : GH) (Q : DQ), dDisp tp S G Q = (tp S G fun qs G1 => match keyed qs with
  | some kds => kds.length ≤ 15 ∧ Q (.dK (mergeD [] kds)) G1
  | none => False)) ∧
 ((∀ (tp : DTP) (S : DS) (G : GH) (Q : DQ), dDispM tp S G Q = (tp S G fun qs G1 => match keyed qs with
  | some kds => kds.length ≤ 15 ∧ ∀ p, G1 p = none → Q (.rf p) (gput G1 p (.dK (mergeD [] kds)))
  | none => False)) ∧
 (∀ (r r' : DR2) (ta tb tc : DTE) (S : DS) (G : GH) (Q : DQ), dChain r r' ta tb tc S G Q = (ta S G fun x G1 => tb S G1 fun y G2 => r x y G2 fun z G3 => match z with
  | .bl k => if k = true then tc S G3 fun w G4 => r' y w G4 Q else Q (.bl false) G3
  | _ => False))))))) ∧
 (((((∀ (wi : DTI) (g : DTG) (tb : DTS) (D' : DEnds) (S : DS) (G : GH), dFor wi g tb D' S G = (wi S G fun ds gd G1 => ForB ds gd g tb D' S G1)) ∧
 (∀ (c : DTT) (tb : DTS) (D' : DEnds) (S : DS) (G : GH), dWhile c tb D' S G = WhB c tb D' S G)) ∧
 ((∀ (wi : DTI) (p : Pat) (tt : DTT) (te : DTE) (vs : List Nat) (S : DS) (G : GH) (Q : DQ), dLc wi p tt te vs S G Q = (wi S G fun ds gd G1 => LcB ds gd p tt te vs S G1 Q)) ∧
 ((∀ (G : GH) (a : Addr), D.cur G (.rf a) = (match G a with
    | some (.lst xs) => .lst xs
    | some (.dK kds) => .dK kds
    | some (.dT kds) => .dT kds
    | some (.ins C kds) => .obj C kds
    | _ => .rf a)) ∧
 (∀ (G : GH), D.cur G (.non ) = .non)))) ∧
 (((∀ (G : GH) (b : Bool), D.cur G (.bl b) = .bl b) ∧
 ((∀ (G : GH) (i : Int), D.cur G (.int i) = .int i) ∧
 (∀ (G : GH) (x : Str), D.cur G (.str x) = .str x))) ∧
 ((∀ (G : GH) (n : String), D.cur G (.ty n) = .ty n) ∧
 ((∀ (G : GH) (xs : List D), D.cur G (.tup xs) = .tup xs) ∧
 (∀ (G : GH) (xs : List D), D.cur G (.lst xs) = .lst xs))))) ∧
 ((((∀ (G : GH) (kvs : List (Key × D)), D.cur G (.dK kvs) = .dK kvs) ∧
 ((∀ (G : GH) (kvs : List (List Key × D)), D.cur G (.dT kvs) = .dT kvs) ∧
 (∀ (G : GH) (C : Addr) (fs : List (Str × D)), D.cur G (.obj C fs) = .obj C fs))) ∧
 ((∀ (G : GH) (ns : List Int), D.cur G (.scr ns) = .scr ns) ∧
 ((∀ (G : GH) (xs : List D), D.cur G (.kup xs) = .kup xs) ∧
 (∀ (T : String) (xs : List D), D.hasTy T (.lst xs) = (T == "list"))))) ∧
 (((∀ (T : String) (x : Str), D.hasTy T (.str x) = (T == "str")) ∧
 ((∀ (T : String) (kvs : List (Key × D)), D.hasTy T (.dK kvs) = (T == "dict")) ∧
 (∀ (T : String) (kvs : List (List Key × D)), D.hasTy T (.dT kvs) = (T == "dict")))) ∧
 ((∀ (x y : D) (G : GH) (Q : DQ), rItem x y G Q = (match D.item (x.cur G) y with | some d => Q d G | none => False)) ∧
 ((∀ (C : Int → Int → Prop) (f : Int → Int → Int) (i j : Int) (G : GH) (Q : DQ), rIntD C f (.int i) (.int j) G Q = (C i j ∧ Q (.int (f i j)) G)) ∧
 (∀ (i : Int) (G : GH) (Q : DQ), rNegD (.int i) G Q = Q (.int (-i)) G)))))))) :=
 ⟨⟨⟨⟨⟨⟨@x_var, @x_C⟩, ⟨@x_nil, ⟨@x_cons, @x_tup⟩⟩⟩, ⟨⟨@x_lst, ⟨@x_lstM, @x_op⟩⟩, ⟨@x_un, ⟨@x_test, @x_not⟩⟩⟩⟩, ⟨⟨⟨@x_and, ⟨@x_or, @x_if⟩⟩, ⟨@x_andV, ⟨@x_orV, @x_notV⟩⟩⟩, ⟨⟨@x_gname, ⟨@x_gkup, @x_gtup⟩⟩, ⟨@x_gnil, ⟨@x_gcons, @x_next⟩⟩⟩⟩⟩, ⟨⟨⟨⟨@x_seq, @x_asg⟩, ⟨@x_drop, ⟨@x_ret, @x_retN⟩⟩⟩, ⟨⟨@x_ifS, ⟨@x_never, @x_break⟩⟩, ⟨@x_cont, ⟨@x_call, @x_cb⟩⟩⟩⟩, ⟨⟨⟨@x_bm, ⟨@x_bm0, @x_nopart⟩⟩, ⟨@x_part, ⟨@x_slice, @x_newK⟩⟩⟩, ⟨⟨@x_newT, ⟨@x_yes, @x_pnil⟩⟩, ⟨@x_pcons, ⟨@x_dCold, @x_dFld⟩⟩⟩⟩⟩⟩, ⟨⟨⟨⟨⟨@x_dSetFld, @x_dSetSub⟩, ⟨@x_dMeth, ⟨@x_dMake, @x_diTup⟩⟩⟩, ⟨⟨@x_diList, ⟨@x_diStr, @x_diRange1⟩⟩, ⟨@x_diRange2, ⟨@x_dLcM, @x_dGet1⟩⟩⟩⟩, ⟨⟨⟨@x_dGet2, ⟨@x_diEnumT, @x_diZipS⟩⟩, ⟨@x_diZipT, ⟨@x_dPar, @x_dPar3⟩⟩⟩, ⟨⟨@x_dAug, ⟨@x_dRevL, @x_dRevLM⟩⟩, ⟨@x_dDisp, ⟨@x_dDispM, @x_dChain⟩⟩⟩⟩⟩, ⟨⟨⟨⟨@x_for, @x_while⟩, ⟨@x_lc, ⟨@x_curK, @x_cur_non⟩⟩⟩, ⟨⟨@x_cur_bl, ⟨@x_cur_int, @x_cur_str⟩⟩, ⟨@x_cur_ty, ⟨@x_cur_tup, @x_cur_lst⟩⟩⟩⟩, ⟨⟨⟨@x_cur_dK, ⟨@x_cur_dT, @x_cur_obj⟩⟩, ⟨@x_cur_scr, ⟨@x_cur_kup, @x_ty_lst⟩⟩⟩, ⟨⟨@x_ty_str, ⟨@x_ty_dK, @x_ty_dT⟩⟩, ⟨@x_item, ⟨@x_int, @x_neg⟩⟩⟩⟩⟩⟩⟩
theorem gs {α : Type} (a : α) (l : List α) : (a :: l)[0]? = some a := rfl
theorem dl : (∀ (G : GH) (a : Addr) (o : MO), gput G a o a = some o) ∧ (∀ (α : Type) (a : α) (l : List α), (a :: l)[0]? = some a) ∧ (∀ (α : Type) (a : α) (l : List α) (i : Nat), (a :: l)[i + 1]? = l[i]?) ∧
  (∀ (α : Type) (a b : α) (l : List α), (a :: l).set 0 b = b :: l) ∧ (∀ (α : Type) (a b : α) (l : List α) (i : Nat), (a :: l).set (i + 1) b = a :: l.set i b) ∧ (∀ (α : Type) (a : α) (l : List α), (a :: l).length = l.length + 1) ∧ (∀ (α : Type), ([] : List α).length = 0) :=
  ⟨fun _ _ _ => gput_same, fun _ _ _ => rfl, fun _ _ _ _ => rfl, fun _ _ _ _ => rfl, fun _ _ _ _ _ => rfl, fun _ _ _ => rfl, fun _ => rfl⟩
end DL
end
section
set_option Elab.async false
set_option linter.all false
set_option maxRecDepth 100000
namespace DL
open PySem PySem.Spec PyProof.Rows L2
theorem okE_str (a b : Str) : okE (.str a) (.str b) = true := rfl
theorem eqv_str (a b : Str) : D.eqv (.str a) (.str b) = (a == b) := by simp [D.eqv, D.py, PyData.eqv]
theorem okE_int (a b : Int) : okE (.int a) (.int b) = true := rfl
theorem eqv_int (a b : Int) : D.eqv (.int a) (.int b) = (a == b) := by simp [D.eqv, D.py, PyData.eqv]
theorem okL_int (a b : Int) : okL (.int a) (.int b) = true := rfl
theorem okL_str (a b : Str) : okL (.str a) (.str b) = true := rfl
theorem lt_int (a b : Int) : D.lt (.int a) (.int b) = decide (a < b) := PySem.W.dataLt_int a b
theorem lt_str (a b : Str) : D.lt (.str a) (.str b) = decide (a.cps.toList < b.cps.toList) := PySem.W.dataLt_str a b
mutual
def D.si : D → Bool
  | .non | .int _ | .str _ => true
  | .tup xs | .lst xs => D.sis xs
  | _ => false
def D.sis : List D → Bool
  | [] => true
  | x :: xs => D.si x && D.sis xs
end
mutual
theorem D.si_pl : ∀ d : D, d.si = true → d.pl = true
  | .non, _ => rfl
  | .int _, _ => rfl
  | .str _, _ => rfl
  | .tup xs, h => D.sis_pls xs h
  | .lst xs, h => D.sis_pls xs h
  | .bl _, h => by cases h
  | .ty _, h => by cases h
  | .dK _, h => by cases h
  | .dT _, h => by cases h
  | .obj _ _, h => by cases h
  | .rf _, h => by cases h
  | .scr _, h => by cases h
  | .kup _, h => by cases h
theorem D.sis_pls : ∀ xs : List D, D.sis xs = true → D.pls xs = true
  | [], _ => rfl
  | x :: xs, h => by
    simp only [D.sis, Bool.and_eq_true] at h
    simp only [D.pls, Bool.and_eq_true]
    exact ⟨D.si_pl x h.1, D.sis_pls xs h.2⟩
end
mutual
theorem D.si_eqv : ∀ x y : D, x.si = true → y.si = true → (D.eqv x y = true ↔ x = y)
  | .non, y, _, h => by cases y <;> first | (cases h; done) | simp [D.eqv, D.py, PyData.eqv]
  | .int _, y, _, h => by cases y <;> first | (cases h; done) | simp [D.eqv, D.py, PyData.eqv]
  | .str _, y, _, h => by cases y <;> first | (cases h; done) | simp [D.eqv, D.py, PyData.eqv]
  | .tup xs, .tup ys, hx, hy => by
    have := D.sis_eqv xs ys hx hy
    simp only [D.eqv, D.py, PyData.eqv, D.tup.injEq]
    exact this
  | .lst xs, .lst ys, hx, hy => by
    have := D.sis_eqv xs ys hx hy
    simp only [D.eqv, D.py, PyData.eqv, D.lst.injEq]
    exact this
  | .tup xs, .non, _, _ => by simp [D.eqv, D.py, PyData.eqv]
  | .tup xs, .int _, _, _ => by simp [D.eqv, D.py, PyData.eqv]
  | .tup xs, .str _, _, _ => by simp [D.eqv, D.py, PyData.eqv]
  | .tup xs, .lst _, _, _ => by simp [D.eqv, D.py, PyData.eqv]
  | .lst xs, .non, _, _ => by simp [D.eqv, D.py, PyData.eqv]
  | .lst xs, .int _, _, _ => by simp [D.eqv, D.py, PyData.eqv]
  | .lst xs, .str _, _, _ => by simp [D.eqv, D.py, PyData.eqv]
  | .lst xs, .tup _, _, _ => by simp [D.eqv, D.py, PyData.eqv]
  | .tup _, .bl _, _, h => by cases h
  | .tup _, .ty _, _, h => by cases h
  | .tup _, .dK _, _, h => by cases h
  | .tup _, .dT _, _, h => by cases h
  | .tup _, .obj _ _, _, h => by cases h
  | .tup _, .rf _, _, h => by cases h
  | .tup _, .scr _, _, h => by cases h
  | .tup _, .kup _, _, h => by cases h
  | .lst _, .bl _, _, h => by cases h
  | .lst _, .ty _, _, h => by cases h
  | .lst _, .dK _, _, h => by cases h
  | .lst _, .dT _, _, h => by cases h
  | .lst _, .obj _ _, _, h => by cases h
  | .lst _, .rf _, _, h => by cases h
  | .lst _, .scr _, _, h => by cases h
  | .lst _, .kup _, _, h => by cases h
  | .bl _, _, h, _ => by cases h
  | .ty _, _, h, _ => by cases h
  | .dK _, _, h, _ => by cases h
  | .dT _, _, h, _ => by cases h
  | .obj _ _, _, h, _ => by cases h
  | .rf _, _, h, _ => by cases h
  | .scr _, _, h, _ => by cases h
  | .kup _, _, h, _ => by cases h
theorem D.sis_eqv : ∀ xs ys : List D, D.sis xs = true → D.sis ys = true → (PyData.eqvAll (D.pys xs) (D.pys ys) = true ↔ xs = ys)
  | [], [], _, _ => by simp [D.pys, PyData.eqvAll]
  | [], _ :: _, _, _ => by simp [D.pys, PyData.eqvAll]
  | _ :: _, [], _, _ => by simp [D.pys, PyData.eqvAll]
  | x :: xs, y :: ys, hx, hy => by
    simp only [D.sis, Bool.and_eq_true] at hx hy
    have h1 := D.si_eqv x y hx.1 hy.1
    have h2 := D.sis_eqv xs ys hx.2 hy.2
    simp only [D.eqv] at h1
    simp only [D.pys, PyData.eqvAll, Bool.and_eq_true, h1, h2, List.cons.injEq]
end
mutual
def D.dp : D → Nat
  | .tup xs | .lst xs | .kup xs => D.dps xs + 1
  | _ => 0
def D.dps : List D → Nat
  | [] => 0
  | x :: xs => max (D.dp x) (D.dps xs)
end
mutual
theorem D.dp_ok : ∀ d : D, d.py.depth ≤ d.dp
  | .non => by simp [D.py, PyData.depth]
  | .bl _ => by simp [D.py, PyData.depth]
  | .int _ => by simp [D.py, PyData.depth]
  | .str _ => by simp [D.py, PyData.depth]
  | .tup xs => by have := D.dps_ok xs; simp only [D.py, PyData.depth, D.dp]; omega
  | .lst xs => by have := D.dps_ok xs; simp only [D.py, PyData.depth, D.dp]; omega
  | .ty _ => by simp [D.py, PyData.depth]
  | .dK _ => by simp [D.py, PyData.depth]
  | .dT _ => by simp [D.py, PyData.depth]
  | .obj _ _ => by simp [D.py, PyData.depth]
  | .rf _ => by simp [D.py, PyData.depth]
  | .scr _ => by simp [D.py, PyData.depth]
  | .kup xs => by have := D.dps_ok xs; simp only [D.py, PyData.depth, D.dp]; omega
theorem D.dps_ok : ∀ xs : List D, PyData.depthAll (D.pys xs) ≤ D.dps xs
  | [] => by simp [D.pys, PyData.depthAll]
  | x :: xs => by have := D.dp_ok x; have := D.dps_ok xs; simp only [D.pys, PyData.depthAll, D.dps]; omega
end
theorem dps_le {xs : List D} {n : Nat} (h : ∀ x ∈ xs, x.dp ≤ n) : D.dps xs ≤ n := by
  induction xs with
  | nil => simp [D.dps]
  | cons x xs ih =>
    have h1 := h x (by simp)
    have h2 := ih fun y hy => h y (by simp [hy])
    simp only [D.dps]; omega
theorem sis_all {xs : List D} : D.sis xs = true ↔ ∀ x ∈ xs, x.si = true := by
  induction xs with
  | nil => simp [D.sis]
  | cons x xs ih => simp [D.sis, ih]
theorem okE_si {x y : D} (hx : x.si = true) (hy : y.si = true) (hd : x.dp ≤ 60) : okE x y = true := by
  have := D.dp_ok x
  simp only [okE, Bool.and_eq_true, decide_eq_true_eq]
  exact ⟨⟨D.si_pl x hx, D.si_pl y hy⟩, by omega⟩
theorem eqv_si {x y : D} (hx : x.si = true) (hy : y.si = true) : D.eqv x y = true ↔ x = y := D.si_eqv x y hx hy
end DL
end
section
set_option Elab.async false
set_option linter.all false
set_option maxRecDepth 100000
set_option maxHeartbeats 4000000
namespace DL
open PySem PySem.Spec PyProof.Rows L2
abbrev eSet (w : World) : Obj := { cls := .type "set", dict := none, data := .set #[] 0 (.fresh 0 0 (!w.params.followText "set-order")) }
end DL
end
section
set_option Elab.async false
set_option linter.all false
set_option maxRecDepth 100000
set_option maxHeartbeats 4000000
namespace DL
open PySem PySem.Spec PyProof.Rows L2
section
variable {α : Type} [DecidableEq α]
/-- each at its first time -/
def addF (ks : List α) (t : α) : List α := if t ∈ ks then ks else ks ++ [t]
def firstsF (ts : List α) : List α := ts.foldl addF []
theorem addF_nodup {ks : List α} {t : α} (h : ks.Nodup) : (addF ks t).Nodup := by
  unfold addF
  split
  · exact h
  · rename_i ht
    rw [List.nodup_append]
    refine ⟨h, by simp, fun a ha b hb => ?_⟩
    simp at hb
    subst hb
    exact fun e => ht (e ▸ ha)
theorem addF_mem {ks : List α} {t k : α} : k ∈ addF ks t ↔ k ∈ ks ∨ k = t := by
  unfold addF
  split
  · rename_i h
    exact ⟨.inl, fun q => q.elim id fun e => e ▸ h⟩
  · simp
theorem foldl_addF_nodup : ∀ (ts ks : List α), ks.Nodup → (ts.foldl addF ks).Nodup
  | [], _, h => h
  | t :: ts, _, h => foldl_addF_nodup ts _ (addF_nodup h)
theorem foldl_addF_mem {k : α} : ∀ (ts ks : List α), k ∈ ts.foldl addF ks ↔ k ∈ ks ∨ k ∈ ts
  | [], ks => by simp
  | t :: ts, ks => by
    rw [List.foldl_cons, foldl_addF_mem ts, addF_mem, List.mem_cons, or_assoc]
theorem firstsF_nodup (ts : List α) : (firstsF ts).Nodup := foldl_addF_nodup ts [] List.nodup_nil
theorem firstsF_mem {ts : List α} {k : α} : k ∈ firstsF ts ↔ k ∈ ts := by
  unfold firstsF
  rw [foldl_addF_mem]
  simp
end
section
variable {X : Cx} {pos : Pos}
def intsD : List D → Option (List Int)
  | [] => some []
  | .int n :: r => (intsD r).map (n :: ·)
  | _ :: _ => none
/-- each once, in order -/
def isort1 (ns : List Int) : List Int := (firstsF ns).mergeSort (· ≤ ·)
def dSortSet (te : DTE) : DTE := fun S G Q => te S G fun d G1 => match d.cur G1 with
  | .lst xs => (match intsD xs with
    | some ns => ns.length < 64 ∧ Q (.lst ((isort1 ns).map .int)) G1
    | none => False)
  | _ => False
end
end DL
end
section
set_option Elab.async false
set_option linter.all false
set_option maxRecDepth 100000
set_option maxHeartbeats 4000000
namespace DL
open PySem PySem.Spec PyProof.Rows L2
def tkey (e : Int × Value) : Str := match e.2 with | .str k _ => k | _ => ""
def TGood (w : World) (e : Int × Value) : Prop := ∃ k tk, e.2 = Value.str k tk ∧ e.1 = hashStr w k
/-- the set of texts at a: ks its members in some order; the table rises and can be walked -/
def SetS (w : World) (h : Heap) (a : Addr) (ks : List Str) : Prop :=
  ∃ o es ep t, h.get? a = some o ∧ o.ExactSet ∧ o.data = .set es ep t ∧ (∀ e ∈ es.toList, TGood w e) ∧ (es.toList.map tkey).Perm ks ∧ ks.Nodup ∧
    es.size < scanBound ∧ t.fits es.size = true ∧ Ris t.place.toList ∧ (w.params.followText "set-order" = true ∨ t.led = true)
section
variable {P : Program} {w : World} {h h' : Heap} {a : Addr} {ks : List Str}
theorem SetS.keep (R : SetS w h a ks) (k : ∀ o, h.get? a = some o → h'.get? a = some o) : SetS w h' a ks := by
  obtain ⟨o, es, ep, t, q, r⟩ := R
  exact ⟨o, es, ep, t, k o q, r⟩
theorem tgood_elems {l : List (Int × Value)} (g : ∀ e ∈ l, TGood w e) : ElemsOf (strKind P w) l := fun e he => by
  obtain ⟨k, tk, p1, p2⟩ := g e he
  exact ⟨⟨k, by rw [p1]; exact strKind_is P w k tk, p2⟩, by rw [p1] <;> rfl⟩
theorem tgood_is {e : Int × Value} (g : TGood w e) (k : Str) : (strKind P w).is k e.2 = true ↔ tkey e = k := by
  obtain ⟨k0, tk, p1, _⟩ := g
  unfold tkey
  rw [p1]
  refine ⟨fun z => ?_, fun z => z ▸ strKind_is P w k0 tk⟩
  simpa [PySem.strKind, Value.isStrOf] using z
end
section
variable {P : Program} {w : World} {A : Around} {E : Value → Shared → Prop} {s : Shared} {a : Addr} {ks : List Str}
theorem sets_tail {g : Bool → Sem Unit} (zg : ∀ (b : Bool) (z1 : Shared) (Q' : Unit → Shared → Prop), Q' () z1 → wpAny (model P w) A (g b) Q' E z1)
    {o : Obj} {es : Array (Int × Value)} {ep : Nat} {t : SetTable} (zo : s.heap.get? a = some o) (zx : o.ExactSet) (zd : o.data = .set es ep t)
    {fs : Array (Int × Value)} {u : SetTable} (z1 : ∀ e ∈ fs.toList, TGood w e) (z2 : (fs.toList.map tkey).Perm ks) (z3 : ks.Nodup)
    (z4 : fs.size < scanBound) (z5 : u.fits fs.size = true) (z6 : Ris u.place.toList) (z7 : w.params.followText "set-order" = true ∨ u.led = true) {wd : Bool} {R : Option Bool → Shared → Prop}
    (zR : ∀ h', Heap.SameBut a s.heap h' → SetS w h' a ks → R (some true) { s with heap := h' }) :
    wpAny (model P w) A (do
        storeSet a fs u
        if (!wd && u.tooFull) = true then do
            g (relayAll u fs (SetTable.grown fs.size)).2.2
            storeSet a (relayAll u fs (SetTable.grown fs.size)).1 (relayAll u fs (SetTable.grown fs.size)).2.1
            pure (some true)
          else pure (some true)) R E s := by
  refine wpAny_bind (wpAny_storeSet_of zo zd ?_ (fits_of_scanBound z4))
  have zo1 := store_at (es' := fs) (t' := u) zo zd
  have zb1 := Heap.SameBut.update s.heap a (Obj.putSet fs u)
  by_cases zc : (!wd && u.tooFull) = true
  · rw [if_pos zc]
    have y1 := relayAll_perm u fs (SetTable.grown fs.size)
    have y2 := relayAll_fits u fs (SetTable.grown fs.size)
    have y3 := relayAll_ris u fs (SetTable.grown fs.size)
    have y4 := relayAll_led u fs (SetTable.grown fs.size)
    generalize relayAll u fs (SetTable.grown fs.size) = Z at y1 y2 y3 y4 ⊢
    obtain ⟨gs, v, gv⟩ := Z
    dsimp only at y1 y2 y3 y4 ⊢
    have ysz : gs.size = fs.size := by rw [← Array.length_toList, y1.length_eq, Array.length_toList]
    refine wpAny_bind (zg _ _ _ ?_)
    refine wpAny_bind (wpAny_storeSet_of zo1 rfl ?_ (fits_of_scanBound (by rw [ysz]; exact z4)))
    have zo2 := store_at (es' := gs) (t' := v) zo1 rfl
    refine wpAny_pure (zR _ (zb1.trans (Heap.SameBut.update _ a _)) ?_)
    exact ⟨_, gs, _, v, zo2, zx, rfl, fun e he => z1 e (y1.mem_iff.mp he), (y1.map tkey).trans z2, z3, by rw [ysz]; exact z4, y2, y3, z7.imp id fun z => by rw [y4]; exact z⟩
  · rw [if_neg zc]
    exact wpAny_pure (zR _ zb1 ⟨_, fs, _, u, zo1, zx, rfl, z1, z2, z3, z4, z5, z6, z7⟩)
theorem sets_addH {k : Str} {tk : Tok} {Q : Bool → Shared → Prop} (R : SetS w s.heap a ks) (room : ks.length + 1 < scanBound)
    (zQ : ∀ h', Heap.SameBut a s.heap h' → SetS w h' a (addF ks k) → Q (!decide (k ∈ ks)) { s with heap := h' }) :
    wpAny (model P w) A (setAddHashed a (.str k tk) ((strKind P w).hash k)) Q E s := by
  obtain ⟨o, es, ep, t, zo, zx, zd, zg, zp, zn, zb, zf, zr, zl⟩ := R
  have zk : (strKind P w).is k (.str k tk) = true := strKind_is P w k tk
  have zs : (Value.str k tk).scannable = true := rfl
  have ze : ElemsOf (strKind P w) es.toList := tgood_elems zg
  have zsz : es.size = ks.length := by rw [← Array.length_toList, ← List.length_map (f := tkey), zp.length_eq]
  unfold setAddHashed setAddHashedIn
  refine wpAny_holding (wpAny_bind (wpAny_setState_of zo zd zf ?_))
  dsimp only
  rw [byScan_of zs zb ze]
  simp only [↓reduceIte]
  unfold setAddByScan
  refine wpAny_bind ?_
  refine wpAny_bind (wpAny_rule ?_)
  refine wpAny_bind (wpAny_setScan_of zk zo zd zf ze ?_)
  cases zfi : List.findIdx? (fun e => (strKind P w).is k e.2) es.toList with
  | some j =>
    dsimp only
    obtain ⟨hj, pj, _⟩ := List.findIdx?_eq_some_iff_getElem.mp zfi
    have hin : k ∈ ks := zp.mem_iff.mp (List.mem_map.mpr ⟨es.toList[j], List.getElem_mem hj, (tgood_is (P := P) (zg _ (List.getElem_mem hj)) k).1 pj⟩)
    refine wpAny_pure (wpAny_pure ?_)
    have q := zQ s.heap (Heap.SameBut.refl a s.heap) ⟨o, es, ep, t, zo, zx, zd, zg, by rw [show addF ks k = ks from if_pos hin]; exact zp, addF_nodup zn, zb, zf, zr, zl⟩
    rw [decide_eq_true hin] at q
    exact q
  | none =>
    dsimp only
    have hout : k ∉ ks := fun z => by
      obtain ⟨e, he, q⟩ := List.mem_map.mp (zp.mem_iff.mpr z)
      have c := List.findIdx?_eq_none_iff.mp zfi e he
      rw [(tgood_is (P := P) (zg e he) k).2 q] at c
      cases c
    have zgw : ∀ (b : Bool) {z1 : Shared} {Q' : Unit → Shared → Prop}, Q' () z1 → wpAny (model P w) A (match b with | true => rule "set.scan.the-table-gave-way" | false => pure ()) Q' E z1 :=
      fun b z1 Q' q => by cases b <;> first | exact wpAny_pure q | exact wpAny_rule q
    have y1 := layNew_perm t es ((strKind P w).hash k) (.str k tk)
    have y2 := layNew_fits t es ((strKind P w).hash k) (.str k tk)
    have y3 := layNew_ris t es ((strKind P w).hash k) (.str k tk) zr
    have y4 := layNew_led t es ((strKind P w).hash k) (.str k tk)
    generalize layNew t es ((strKind P w).hash k) (.str k tk) = Z at y1 y2 y3 y4 ⊢
    obtain ⟨fs, u, wd, gv⟩ := Z
    dsimp only at y1 y2 y3 y4 ⊢
    rw [Array.toList_push] at y1
    have x1 : ∀ e ∈ fs.toList, TGood w e := fun e he => by
      rcases List.mem_append.mp (y1.mem_iff.mp he) with z | z
      · exact zg e z
      · rw [List.mem_singleton.mp z]; exact ⟨k, tk, rfl, rfl⟩
    have ea : addF ks k = ks ++ [k] := if_neg hout
    have x2 : (fs.toList.map tkey).Perm (addF ks k) := by
      have q := y1.map tkey
      rw [List.map_append] at q
      rw [ea]
      exact q.trans (List.Perm.append_right _ zp)
    have x3 : (addF ks k).Nodup := addF_nodup zn
    have x4 : fs.size < scanBound := by
      rw [← Array.length_toList, y1.length_eq, List.length_append, Array.length_toList, zsz]
      exact room
    have x7 : w.params.followText "set-order" = true ∨ u.led = true := zl.imp id fun z => by rw [y4]; exact z
    have fin : ∀ h', Heap.SameBut a s.heap h' → SetS w h' a (addF ks k) → Q true { s with heap := h' } := fun h' sb r => by
      have q := zQ h' sb r
      rw [decide_eq_false hout] at q
      exact q
    refine wpAny_bind (zgw _ ?_)
    split
    · refine wpAny_bind ?_
      rw [hashByValue_scannable 8 zs]
      refine wpAny_pure ?_
      refine sets_tail ?_ zo zx zd x1 x2 x3 x4 ?_ ?_ ?_ ?_
      · intro b z1 Q' q; cases b <;> first | exact wpAny_pure q | exact wpAny_rule q
      · first | (split <;> first | exact y2 | exact SetTable.fits_plain_off y2) | exact y2
      · first | (split <;> exact y3) | exact y3
      · first | (split <;> exact x7) | exact x7
      · intro h' sb r; dsimp only; exact wpAny_pure (fin h' sb r)
    · refine wpAny_bind (wpAny_pure ?_)
      simp only [↓reduceIte]
      refine sets_tail ?_ zo zx zd x1 x2 x3 x4 y2 y3 x7 ?_
      · intro b z1 Q' q; cases b <;> first | exact wpAny_pure q | exact wpAny_rule q
      · intro h' sb r; dsimp only; exact wpAny_pure (fin h' sb r)
theorem firstsF_snoc {α : Type} [DecidableEq α] (l : List α) (x : α) : firstsF (l ++ [x]) = addF (firstsF l) x := by simp [firstsF]
theorem addF_len {α : Type} [DecidableEq α] (l : List α) (x : α) : (addF l x).length ≤ l.length + 1 := by unfold addF; split <;> simp
theorem firstsF_len {α : Type} [DecidableEq α] (l : List α) : (firstsF l).length ≤ l.length := by
  have : ∀ (l : List α) (acc : List α), (l.foldl addF acc).length ≤ acc.length + l.length := by
    intro l
    induction l with
    | nil => intro acc; simp
    | cons x l ih =>
      intro acc
      have h1 := ih (addF acc x)
      have h2 := addF_len acc x
      simp only [List.foldl_cons, List.length_cons]
      omega
  simpa [firstsF] using this l []
theorem sets_loop {I : Addr} {fp wr : List Addr} {G : Array GenState → Array GenState → Prop} {n : Nat} {Pv : Nat → Value → Prop} {St : Nat → Shared → Prop} {R : Result → Shared → Prop}
    (W : WalksS P w A.in1 I fp wr G n Pv St) (S : Addr) (zS : S ∉ fp) (xs : List Str) (zn : n = xs.length) (zb : xs.length + 1 < scanBound) (zv : ∀ i v, Pv i v → ∃ k t, xs[i]? = some k ∧ v = .str k t) :
    ∀ (k i : Nat) (s : Shared), n - i = k → i ≤ n → St i s → SetS w s.heap S (firstsF (xs.take i)) →
      (∀ s', Moved (S :: wr) G s s' → SetS w s'.heap S (firstsF xs) → R (.ok (.ret .none)) s') →
      codeAny (model P w) A (.builtin "set.update.loop" ⟨[.ref S, .ref I], []⟩) R s := by
  have zSw : S ∉ wr := fun h => zS (W.sub _ h)
  have zsub : ∀ b ∈ wr, b ∈ S :: wr := fun b hb => List.mem_cons_of_mem _ hb
  intro k
  induction k with
  | zero =>
    intro i s e1 e2 st zH zR
    have ei : i = n := by omega
    subst ei
    refine codeAny_builtin F.entry_set_update_loop ?_
    rw [Around.under_plainId F.plain_set_update_loop _]
    show wpAny _ A.in1 (pyNext (.ref I) >>= _) _ _ s
    refine wpAny_bind (W.done s _ _ st fun s' zm => ?_)
    show wpAny _ A.in1 (ret Value.none) _ _ s'
    rw [List.take_of_length_le (by omega)] at zH
    exact wpAny_pure (zR s' (zm.mono zsub) (zH.keep fun o e => zm.heap S o zSw e))
  | succ k ih =>
    intro i s e1 e2 st zH zR
    have hlt : i < n := by omega
    refine codeAny_builtin F.entry_set_update_loop ?_
    rw [Around.under_plainId F.plain_set_update_loop _]
    show wpAny _ A.in1 (pyNext (.ref I) >>= _) _ _ s
    refine wpAny_bind (W.item i s _ _ hlt st fun v s' hP st' zm => ?_)
    obtain ⟨z, t, hz, rfl⟩ := zv i v hP
    have zH' : SetS w s'.heap S (firstsF (xs.take i)) := zH.keep fun o e => zm.heap S o zSw e
    show wpAny _ A.in1 (holding [Value.str z t] (setAdd S (.str z t)) >>= _) _ _ s'
    refine wpAny_bind (wpAny_holding ?_)
    unfold setAdd
    refine wpAny_holding ?_
    refine wpAny_bind ((strKind P w).pyHash (k := z) (strKind_is _ _ _ _) ?_)
    have hfl := firstsF_len (xs.take i)
    rw [List.length_take] at hfl
    refine sets_addH (s := { s' with toks := s'.toks + 1 }) zH' (by omega) fun h' sb zH2 => ?_
    rw [← firstsF_snoc] at zH2
    have et : xs.take (i + 1) = xs.take i ++ [z] := by rw [List.take_add_one, hz]; rfl
    rw [← et] at zH2
    refine wpAny_pure ⟨plainId_quiet F.plain_set_update_loop _, ih (i + 1) _ (by omega) hlt (W.frame _ s' _ _ st' (Nat.le_succ _) fun b hb o e => ?_) zH2 fun s2 zm2 zH3 => ?_⟩
    · rw [sb.2 b (fun h : b = S => zS (by rw [← h]; exact hb))]; exact e
    · refine zR s2 (Moved.trans W.gtrans ((zm.mono zsub).then_heap (Nat.le_succ _) fun b o hb e => ?_) zm2) zH3
      rw [sb.2 b (fun h : b = S => hb (by rw [h]; exact List.mem_cons_self))]; exact e
theorem sets_new {h : Heap} {a : Addr} (ho : h.get? a = some (eSet w)) : SetS w h a (firstsF []) := by
  refine ⟨_, #[], 0, _, ho, ⟨rfl, rfl, rfl⟩, rfl, (fun e he => by simp at he), List.Perm.nil, List.nodup_nil, (by decide), (by rfl), List.Pairwise.nil, ?_⟩
  show _ ∨ (!w.params.followText "set-order") = true
  cases w.params.followText "set-order"
  · exact .inr rfl
  · exact .inl rfl
theorem call_set_lstS {l : Addr} {its : Array Value} (ns : List Str) {Q : Value → Shared → Prop} (zh : A.handled = none) (zl : s.heap.IsList l its) (zit : StrsAre its.toList ns) (zb : ns.length + 1 < scanBound)
    (h : ∀ (h' : Heap) (tk1 : Nat), SetS w h' s.heap.objs.size (firstsF ns) → (∀ b o, s.heap.get? b = some o → h'.get? b = some o) → Q (.ref s.heap.objs.size) { s with heap := h', toks := tk1 }) : wpAny (model P w) A (call (.type "set") [.ref l]) Q E s := by
  have zsz : its.size = ns.length := by
    have q := StrsAre.length zit
    rw [Array.length_toList] at q
    exact q
  obtain ⟨c, tl, zmro⟩ := F.called_set.mro
  have zmade := F.called_set.made
  have zsub := F.called_set.sub
  (refine wpAny_call (codeAny_of_tree ?_))
  (show wpAny _ _ (callAny (.type "set") _) _ _ _)
  (refine wpAny_pure ⟨Code.quiet_builtin _ (by decide +kernel), codeAny_builtin F.entry_type_call ?_⟩)
  (rw [Around.under_plain (weight_type_call_type "set" [.ref l] []) rfl])
  have z1 := F.called_set.notType
  have z2 := F.called_set.canCreate
  have zct := F.typeCall_set_1 (.ref l)
  (repeat (any_goals (first | assumption | wp_step)))
  refine codeAny_mono (code_set_led1 (.ref l) (E := E) (Q₁ := fun ob s1 => ob = .ref s.heap.objs.size ∧ s1 = { s with heap := s.heap.push (eSet w) }) ⟨rfl, rfl⟩) fun r s1 zr => ?_
  cases r with
  | error e => exact zr
  | ok fl1 =>
    cases fl1 with
    | ret ob =>
      obtain ⟨rfl, rfl⟩ := zr
      have zS : (s.heap.push (eSet w)).get? s.heap.objs.size = some (eSet w) := Heap.get?_push_size _ rfl
      have zT : Shared.TypeIs { s with heap := s.heap.push (eSet w) } (.ref s.heap.objs.size) "set" := ⟨_, zS, rfl⟩
      have zli := F.called_set.init.lookup
      have zbi := F.called_set.init.bind (.ref s.heap.objs.size)
      (repeat (any_goals (first | assumption | wp_step)))
      refine codeAny_mono (codeAny_call_builtin (R := wants (fun r s2 => r = .none ∧ ∃ h' tk1, s2 = { s with heap := h', toks := tk1 } ∧ SetS w h' s.heap.objs.size (firstsF ns) ∧
          (∀ b o, s.heap.get? b = some o → h'.get? b = some o)) E) F.called_set.init.plain F.entry_set_init (check_set_init_1 zT ?_)) fun r2 s2 zr2 => ?_
      · obtain ⟨zo, zol, zcl, zn, zdl⟩ := zl
        obtain ⟨zc1, zc2, zc3, zc4⟩ := zo
        simp only at zcl zdl
        subst zcl; subst zdl
        have zol' : (s.heap.push (eSet w)).get? l = some { cls := .type "list", dict := zc2, data := .seq its zn, slots := zc4 } := Heap.get?_push_of_some _ zol
        have zs1 := F.sub_list_set
        have zs2 := F.sub_list_frozenset
        have zne : (Value.type "list" == Value.type "dict") = false := by decide
        have zl1 : (s.heap.push (eSet w)).IsList l its := ⟨_, zol', rfl, zn, rfl⟩
        (unfold Builtin.«set.__init__» noKeywords Builtin.Frozenset.updateFrom)
        generalize zPI : pyIter = ZI
        wp_walk
        subst zPI
        refine wpAny_pyIter_list zl1 ?_
        (refine wpAny_bind (wpAny_runValue ?_))
        have zlS : l < s.heap.objs.size := Heap.lt_size zol
        have zh3 : A.in1.in1.in1.handled = none := by simp [zh]
        have zz1 : (s.heap.push (eSet w)).objs.size = s.heap.objs.size + 1 := Heap.size_push ..
        have zneI : l ≠ (s.heap.push (eSet w)).objs.size := by
          rw [Heap.size_push]; exact Nat.ne_of_lt (Nat.lt_succ_of_lt zlS)
        have zSf : s.heap.objs.size ∉ [(s.heap.push (eSet w)).objs.size, l] := by
          (rw [Heap.size_push]; simp only [List.mem_cons, List.mem_singleton, List.not_mem_nil, or_false, not_or])
          exact ⟨Nat.ne_of_lt (Nat.lt_succ_self _), Nat.ne_of_gt zlS⟩
        have zval : ∀ (i : Nat) (v : Value), its[i]? = some v → ∃ k t, ns[i]? = some k ∧ v = .str k t := fun i v zv => by
          have zi : i < ns.length := by rw [← zsz]; exact (Array.getElem?_eq_some_iff.mp zv).1
          obtain ⟨y, t, e, ey⟩ := StrsAre.item zit i v (by rw [Array.getElem?_toList]; exact zv)
          exact ⟨y, t, ey, e⟩
        refine sets_loop ((Walks.list zh3 _ l zneI its).toS) s.heap.objs.size
          zSf ns zsz zb zval (its.size - 0) 0 _ (by omega) (Nat.zero_le _)
          ⟨⟨_, Heap.get?_push_size _ rfl, rfl, rfl⟩, (zl1.push _)⟩ ?hS0 ?hR
        case hS0 =>
          have zget : ((s.heap.push (eSet w)).push { cls := .type "list_iterator", data := .fields #[.ref l, .int 0 0] }).get? s.heap.objs.size
              = some (eSet w) := Heap.get?_push_of_some _ zS
          exact sets_new zget
        case hR =>
          intro s' zm zS'
          obtain ⟨h', q2, q3, q4, q5⟩ := s'
          have y1 : q2 = s.gens := zm.gens
          have y2 : q3 = s.drawn := zm.drawn
          have y3 : q5 = s.os := zm.os
          subst y1; subst y2; subst y3
          show wpAny _ _ _ _ _ _
          refine wpAny_pure ?_
          (show wpAny _ _ (ret Value.none) _ _ _)
          refine wpAny_pure ⟨rfl, h', q4, rfl, zS', fun b o e => ?_⟩
          have y4 : b < s.heap.objs.size := Heap.lt_size e
          have y5 : b ≠ s.heap.objs.size := Nat.ne_of_lt y4
          have y6 : b ≠ (s.heap.push (eSet w)).objs.size := by
            rw [Heap.size_push]; exact Nat.ne_of_lt (Nat.lt_succ_of_lt y4)
          exact zm.heap b o (by simp only [List.mem_cons, List.mem_singleton, List.not_mem_nil, or_false, not_or]; exact ⟨y5, y6⟩) (Heap.get?_push_of_some _ (Heap.get?_push_of_some _ e))
      · cases r2 with
        | error e => exact zr2
        | ok fl2 =>
          cases fl2 with
          | ret r =>
            obtain ⟨rfl, h', tk1, rfl, zS', zk'⟩ := zr2
            (repeat (any_goals (first | assumption | wp_step)))
            exact h _ _ zS' zk'
          | _ => exact zr2.elim
    | _ => exact zr.elim
theorem strs_of : ∀ (l : List Value), (∀ v ∈ l, ∃ k tk, v = Value.str k tk) → StrsAre l (l.map fun v => tkey (0, v))
  | [], _ => .nil
  | v :: l, h => by
    obtain ⟨k, tk, rfl⟩ := h v List.mem_cons_self
    exact .cons k tk (strs_of l fun u hu => h u (List.mem_cons_of_mem _ hu))
theorem sorted_sets {Q : Value → Shared → Prop} (R : SetS w s.heap a ks) (zh : A.handled = none)
    (zQ : ∀ s' p (out : Array Value) (c : Nat) (ys : List Str), (∀ b o, s.heap.get? b = some o → s'.heap.get? b = some o) → s'.gens = s.gens → s'.os = s.os → s.heap.objs.size ≤ p →
      s'.heap.get? p = some (seqObj "list" out c) → StrsAre out.toList ys → ys.Perm ks → sortedS ys = true → Q (.ref p) s') :
    wpAny (model P w) A (call (.builtin "sorted") [.ref a]) Q E s := by
  obtain ⟨o, es, ep, t, zo, zx, zd, zg, zp, zn, zb, zf, zr, zl⟩ := R
  refine Calls.call_function_entry kind_sorted plain_sorted entry_sorted (args_sorted1 _) ?_
  unfold Builtin.«sorted»
  refine wpAny_bind (m := checkCount "sorted" 1 1 _) (wpAny_pure ?_)
  refine wpAny_bind (collect_set (A := A.in1) zh ⟨o, zo, zx.1, zd⟩ zf zb zr zl fun s1 vs k1 hz g1 o1 pm => ?_)
  have x1 : StrsAre vs (vs.map fun v => tkey (0, v)) := strs_of vs fun v hv => by
    obtain ⟨e, he, q⟩ := List.mem_map.mp (pm.mem_iff.mp hv)
    obtain ⟨k, tk, h1, _⟩ := zg e he
    exact ⟨k, tk, by rw [← q]; exact h1⟩
  have x2 : (vs.map fun v => tkey (0, v)).Perm ks := by
    have q := pm.map fun v => tkey (0, v)
    rw [List.map_map] at q
    exact q.trans zp
  have x3 : vs.length ≤ sizeLine := by
    rw [pm.length_eq, List.length_map, Array.length_toList]
    exact fits_of_scanBound zb
  refine wpAny_bind (wpAny_newList ?_ x3)
  have x4 : (s1.heap.push (seqObj "list" vs.toArray 0)).get? s1.heap.objs.size = some (seqObj "list" vs.toArray 0) := Heap.get?_push_size _ rfl
  refine wpAny_bind (wpAny_holding (wpAny_call_entry slot_list_sort ⟨_, x4, rfl⟩ entry_list_sort (list_sort_treeKAny strKind_oneLt x4 x1.keysOf (fun v₁ v₂ rest e => keyKind_strs (by rw [← e]; exact x1)) x3 fun st' hp hs => ⟨_, rfl, ?_⟩) (args_list_sort _)))
  obtain ⟨ys, y1, y2, y3⟩ := sorted_out_str x1 hp hs
  obtain ⟨c, hc⟩ := sortedHeap_at (vs := vs) (out := (arrOf st').map (·.2)) x4
  refine wpAny_pure ⟨_, rfl, zQ _ s1.heap.objs.size _ c ys (fun b u e => ?_) g1 o1 hz hc y1 (y2.trans x2) y3⟩
  have q := k1 b u e
  have hlt := Heap.lt_size q
  show (sortedHeap (s1.heap.push (seqObj "list" vs.toArray 0)) s1.heap.objs.size vs _).get? b = some u
  rw [sortedHeap_old (Nat.ne_of_lt hlt) (by rw [size_push']; exact Nat.lt_succ_of_lt hlt)]
  exact Heap.get?_push_of_some _ q
end
end DL
end
section
set_option Elab.async false
set_option linter.all false
set_option maxRecDepth 100000
set_option maxHeartbeats 4000000
namespace DL
open PySem PySem.Spec PyProof.Rows L2
section
variable {X : Cx} {pos : Pos}
def dDispT (tk tv : DTE) : DTE := fun S G Q => tk S G fun k G1 => tv S G1 fun v G2 => match k with
  | .tup ds => (match D.keys ds with
    | some ks => ∀ p, G2 p = none → Q (.rf p) (gput G2 p (.dT [(ks, v)]))
    | none => False)
  | _ => False
/-- int(n) -/
def rIntC (ds : List D) (G : GH) (Q : DQ) : Prop := match ds with
  | [.int i] => Q (.int i) G
  | [.bl b] => Q (.int (if b then 1 else 0)) G
  | _ => False
theorem cd_int : CallD X (.type "int") rIntC := by
  refine ⟨_, call_int1, fun F H G vs ds g rs Q' h Q k => ?_⟩
  unfold rIntC at h
  split at h
  · rename_i i
    cases rs with
    | cons r b =>
      cases b
      cases r
      exact .inl ⟨i, rfl, k _ _ _ _ G Go.refl g (.int i) h⟩
  · rename_i b0
    cases rs with
    | cons r b =>
      cases b
      cases r
      exact .inr ⟨b0, rfl, k _ _ _ _ G Go.refl g (.int _) h⟩
  · exact h.elim
end
end DL
end
section
set_option Elab.async false
set_option linter.all false
set_option maxRecDepth 100000
set_option maxHeartbeats 4000000
namespace DL
open PySem PySem.Spec PyProof.Rows L2
structure DK (X : Cx) (kws : List Keyword) (t' : DTA) : Prop where
  ex : ∃ t, PK X kws t ∧ ∀ F H σ S G, Ok X.K F H σ S G → ∀ Q', t' S G Q' → ∀ Q, KpA X.K F H G Q' Q → t σ H Q
/-- the arguments in the order of the parameters -/
def perm {α : Type} (z : α) (js : List Nat) (us ws : List α) : List α := js.map fun j => (us ++ ws)[j]?.getD z
section
variable {X : Cx} {pos kpos : Pos} {nm : Option Str}
theorem dk_nil : DK X [] dNil := ⟨_, pk_nil, fun F H σ S G o Q' h Q k => k F H [] [] G Go.refl o.g .nil h⟩
theorem dk_cons {e : Expr} {kws : List Keyword} {ta : DTE} {tr : DTA} (ha : DE X e ta) (hr : DK X kws tr) : DK X (⟨nm, e, kpos⟩ :: kws) (dCons ta tr) := by
  obtain ⟨t1, p1, r1⟩ := ha.ex
  obtain ⟨t2, p2, r2⟩ := hr.ex
  refine ⟨_, pk_cons p1 p2, fun F H σ S G o Q' h Q k => ?_⟩
  refine r1 F H σ S G o _ h _ fun F1 H1 v d G1 e1 g1 q1 h1 => ?_
  refine r2 F1 H1 σ S G1 (o.go e1 g1) _ h1 _ fun F2 H2 vs ds G2 e2 g2 q2 h2 => ?_
  exact k F2 H2 _ _ G2 (e1.trans e2) g2 (.cons (q1.mono e2.ex) q2) h2
def dCallK (sp : SpD) (n m : Nat) (js : List Nat) (ta tk : DTA) : DTE := fun S G Q => ta S G fun ds G1 => tk S G1 fun zs G2 => (ds.length = n ∧ zs.length = m) ∧ sp (perm .non js ds zs) G2 Q
theorem vals_at {vs : List V} {us : List Value} (r : Vals vs us) (j : Nat) : RelV (vs[j]?.getD .non) (us[j]?.getD .none) := by
  induction r generalizing j with
  | nil => rfl
  | cons a t ih => cases j with
    | zero => exact a
    | succ j => simpa using ih j
theorem reps_at {K : PySem.W.Frag} {F : Hp} {vs : List V} {ds : List D} (r : Reps K F vs ds) (j : Nat) : Rep K F (vs[j]?.getD .non) (ds[j]?.getD .non) := by
  induction ds generalizing vs j with
  | nil => cases r; exact .non
  | cons d ds ih => cases r with
    | cons a t => cases j with
      | zero => exact a
      | succ j => simpa using ih t j
theorem vals_perm {vs zs : List V} {us ws : List Value} (r : Vals vs us) (q : Vals zs ws) : ∀ js : List Nat, Vals (perm .non js vs zs) (perm .none js us ws)
  | [] => .nil
  | j :: js => .cons (vals_at (r.append q) j) (vals_perm r q js)
theorem reps_app {K : PySem.W.Frag} {F : Hp} : ∀ {vs zs : List V} {ds es : List D}, Reps K F vs ds → Reps K F zs es → Reps K F (vs ++ zs) (ds ++ es)
  | _, _, _, _, .nil, q => q
  | _, _, _, _, .cons a t, q => .cons a (reps_app t q)
theorem reps_perm {K : PySem.W.Frag} {F : Hp} {vs zs : List V} {ds es : List D} (r : Reps K F vs ds) (q : Reps K F zs es) : ∀ js : List Nat, Reps K F (perm .non js vs zs) (perm .non js ds es)
  | [] => .nil
  | j :: js => .cons (reps_at (reps_app r q) j) (reps_perm r q js)
end
end DL
end
section
set_option Elab.async false
set_option linter.all false
set_option maxRecDepth 100000
set_option maxHeartbeats 4000000
namespace DL
open PySem PySem.Spec PyProof.Rows L2
def keyD : Key → D
  | .inl n => .int n
  | .inr x => .str x
def ktD (ks : List Key) : D := .tup (ks.map keyD)
section
variable {X : Cx} {pos : Pos} {tg : Expr}
def diKeysT (te : DTE) : DTI := fun S G R => te S G fun d G1 => match d with
  | .rf p => (match G1 p with
    | some (.lkT o kvs kds) => R (kds.map fun kv => ktD kv.1) (fun G => G p = some (.lkT o kvs kds)) G1
    | _ => False)
  | _ => False
end
end DL
end
section
set_option Elab.async false
set_option linter.all false
set_option maxRecDepth 100000
set_option maxHeartbeats 4000000
namespace DL
open PySem PySem.Spec PyProof.Rows L2
structure PT where
  p : Addr
  k : List Key
  b : Addr
  v : V
def mergeT (kvs : List (List Key × V)) (es : List PT) : List (List Key × V) := es.foldl (fun acc e => putK acc e.k e.v) kvs
section
variable {X : Cx} {pos : Pos}
theorem pts_of {pins : List (Addr × Obj)} {σ : L2.St} {H : Hp} {s : Shared} (I : Inv X pins σ H s) : ∀ {es : List PT}, (∀ e ∈ es, H e.p = some (.tup [.ref e.b, e.v])) →
    ∃ ws : List (PT × Value), ws.map (·.1) = es ∧ ∀ x ∈ ws, IsTup s.heap x.1.p #[.ref x.1.b, x.2] ∧ RelV x.1.v x.2
  | [], _ => ⟨[], rfl, fun x hx => by simp at hx⟩
  | e :: es, h => by
    obtain ⟨ws, hw, hx⟩ := pts_of I (es := es) fun y hy => h y (by simp [hy])
    obtain ⟨its, rv, ht, _⟩ := I.tuple (.inl (.inl (h e (by simp))))
    obtain ⟨u, y, ei, ru, ry⟩ := vals2 rv
    subst ei
    cases (show u = Value.ref e.b from ru)
    refine ⟨(e, y) :: ws, by simp [hw], fun x hm => ?_⟩
    rcases List.mem_cons.mp hm with rfl | hm
    · exact ⟨ht, ry⟩
    · exact hx x hm
theorem KT_all {H : Hp} : ∀ {ws : List (PT × Value)} {kvs : List (List Key × V)} {xs : List (List Key × Addr × Value)}, KT H kvs xs → (∀ x ∈ ws, H x.1.b = some (.tup (x.1.k.map kV)) ∧ RelV x.1.v x.2) →
    KT H (mergeT kvs (ws.map (·.1))) (storedAllH xs (ws.map fun x => (x.1.k, x.1.b, x.2)))
  | [], kvs, xs, r, _ => r
  | w :: ws, kvs, xs, r, h => by
    obtain ⟨h1, h2⟩ := h w (by simp)
    exact KT_all (ws := ws) (r.put w.1.k h1 h2) fun x hx => h x (by simp [hx])
theorem mergeT_len : ∀ (es : List PT) (kvs : List (List Key × V)), (mergeT kvs es).length ≤ kvs.length + es.length
  | [], kvs => by simp [mergeT]
  | e :: es, kvs => by
    have h1 := mergeT_len es (putK kvs e.k e.v)
    have h2 := length_putK kvs e.k e.v
    have : mergeT kvs (e :: es) = mergeT (putK kvs e.k e.v) es := rfl
    rw [this, List.length_cons]
    omega
theorem cr_dictT (hc : X.calm = true) (hu : X.A.units + 100 < cLine) : CallR X (.type "dict") (fun xs H Q => ∃ (a : Addr) (es : List PT), xs = [.ref a] ∧ SqL X.K H a (es.map fun e => V.ref e.p) ∧ (∀ e ∈ es, H e.p = some (.tup [.ref e.b, e.v])) ∧ (∀ e ∈ es, H e.b = some (.tup (e.k.map kV))) ∧
    ∀ p, H p = none → Q (.ref p) (upd H p (.dT (mergeT [] es)))) := by
  intro pins s σ H xs us Q I r q
  obtain ⟨a, es, ex, hq, hp, hb, q⟩ := q
  subst ex
  obtain ⟨u, eu, rx⟩ := vals1 r
  subst eu
  cases rx
  obtain ⟨its, rv, pl, hz⟩ := I.list hq
  have ei := refs_at (ps := es.map (·.p)) (by rw [List.map_map]; exact rv)
  subst ei
  rw [List.length_map] at hz
  obtain ⟨ws, hw, hx⟩ := pts_of I hp
  subst hw
  obtain ⟨o, n, ho, hcl, hd, hdat⟩ := pl
  have hitems : PairItems s.heap (((ws.map (·.1)).map (·.p)).map Value.ref).toArray (fun j => ((ws.map fun x => x.1.p)[j]?).getD 0) (ws.map fun x => (Value.ref x.1.b, x.2)) := by
    refine ⟨by simp, fun j k v hj => ?_⟩
    rw [List.getElem?_map] at hj
    cases e : ws[j]? with
    | none => rw [e] at hj; cases hj
    | some x =>
      rw [e] at hj; cases hj
      refine ⟨by simp [e], .inl ?_⟩
      have hh := (hx x (List.mem_of_getElem? e)).1
      have e' : ((ws.map fun x => x.1.p)[j]?).getD 0 = x.1.p := by simp [e]
      show s.heap.IsTuple (((ws.map fun x => x.1.p)[j]?).getD 0) _
      rw [e']
      exact hh
  refine call_dict_pairsH (knd := tupleKind (mixKind X.prog X.w)) (ps := ws.map fun x => (x.1.k, x.1.b, x.2)) (PairArg.list a _ _ _) (I.ok.hd hc) (by show X.A.in1.in1.units < cLine; simp; omega) ⟨⟨o, n, ho, hcl, hd, hdat⟩, hitems⟩ ⟨by simp, fun i key v hr => ?_⟩ (fun h' hk x hxm => ?_) (by simpa using hz) fun h' tk hd' k => ?_
  · rw [PairRel, List.getElem?_map] at hr
    cases e : ws[i]? with
    | none => rw [e] at hr; cases hr
    | some x => rw [e] at hr; cases hr; exact ⟨x.1.k, x.1.b, by simp [e], rfl⟩
  · obtain ⟨y, hy, rfl⟩ := List.mem_map.mp hxm
    have hby := hb y.1 (List.mem_map.mpr ⟨y, hy, rfl⟩)
    obtain ⟨oo, items, n2, h1, h2, h3, h4⟩ := key_of I.hok hby
    have hlt := Heap.lt_size h1
    exact ⟨oo, items, n2, hk _ _ (Nat.ne_of_lt hlt) (by simp) h1, h2, h3, h4⟩
  · have hm : (s.heap.objs.size == sysModules) = false := beq_eq_false_iff_ne.mpr (Nat.ne_of_gt I.big)
    have hn := I.hok.fresh (Nat.le_refl s.heap.objs.size)
    have hlen : (mergeT [] (ws.map (·.1))).length ≤ sizeLine := by
      have := mergeT_len (ws.map (·.1)) []
      simp at this hz
      simp
      omega
    obtain ⟨q', es', ep, hq', h2, h3, h4, _, h5⟩ := hd'
    have kt : KT H (mergeT [] (ws.map (·.1))) (storedAllH [] (ws.map fun x => (x.1.k, x.1.b, x.2))) := KT_all .nil fun x hxm => ⟨hb x.1 (List.mem_map.mpr ⟨x, hxm, rfl⟩), (hx x hxm).2⟩
    refine ⟨.ref s.heap.objs.size, upd H s.heap.objs.size (.dT (mergeT [] (ws.map (·.1)))), I.laid (t' := tk) (fun b ob e => k b ob (by simp) e) (Nat.le_refl _) ⟨hlen, hm, _, kt.keeps fun c ys ec => ?_, q', es', ep, hq', h2, h3, h4, h5⟩, rfl, q _ hn⟩
    rw [upd_ne (ne_of_none ec hn)]
    exact ec
/-- pairs with tuple keys -/
def prsT : List D → Option (List (List Key × D))
  | [] => some []
  | .tup [.tup ks, v] :: r => (match D.keys ks, prsT r with
    | some k, some m => some ((k, v) :: m)
    | _, _ => none)
  | _ :: _ => none
def mergeDT (kds more : List (List Key × D)) : List (List Key × D) := more.foldl (fun acc kv => putD acc kv.1 kv.2) kds
theorem prsT_rep {K : PySem.W.Frag} {F : Hp} : ∀ {xs : List D} {ms : List (List Key × D)} {vs : List V}, prsT xs = some ms → Reps K F vs xs →
    ∃ es : List PT, vs = es.map (fun e => V.ref e.p) ∧ (∀ e ∈ es, F e.p = some (.tup [.ref e.b, e.v])) ∧ (∀ e ∈ es, F e.b = some (.tup (e.k.map kV))) ∧ es.map (·.k) = ms.map (·.1) ∧ Reps K F (es.map (·.v)) (ms.map (·.2))
  | [], ms, _, h, .nil => by
    cases h
    exact ⟨[], rfl, fun e he => by simp at he, fun e he => by simp at he, rfl, .nil⟩
  | x :: r, ms, _, h, .cons a b => by
    unfold prsT at h
    split at h
    · rename_i h1; cases h1
    · rename_i ks v r' h1
      cases h1
      split at h
      · rename_i k m ek em
        cases h
        obtain ⟨es, h2, h3, h4, h5, h6⟩ := prsT_rep em b
        cases a with
        | tup ha rs =>
          rename_i p ws
          cases rs with
          | cons r1 r2 =>
            cases r2 with
            | cons r3 r4 =>
              cases r4
              cases r1 with
              | tup hb rk =>
                rename_i bb wk
                have hk := rk.keys ek
                subst hk
                rename_i vv
                refine ⟨⟨p, k, bb, _⟩ :: es, by rw [h2]; rfl, fun e he => ?_, fun e he => ?_, by simp [h5], .cons r3 h6⟩
                · rcases List.mem_cons.mp he with rfl | he
                  · exact ha
                  · exact h3 e he
                · rcases List.mem_cons.mp he with rfl | he
                  · exact hb
                  · exact h4 e he
      · cases h
    · cases h
theorem KR_mergeT {K : PySem.W.Frag} {F : Hp} : ∀ {es : List PT} {ms : List (List Key × D)} {kvs : List (List Key × V)} {kds : List (List Key × D)}, es.map (·.k) = ms.map (·.1) → Reps K F (es.map (·.v)) (ms.map (·.2)) → KR K F kvs kds → KR K F (mergeT kvs es) (mergeDT kds ms)
  | [], [], kvs, kds, _, _, r => r
  | e :: es, m :: ms, kvs, kds, h, rs, r => by
    simp only [List.map_cons, List.cons.injEq] at h
    cases rs with
    | cons a b =>
      have : mergeT kvs (e :: es) = mergeT (putK kvs e.k e.v) es := rfl
      rw [this]
      show KR K F _ (mergeDT (putD kds m.1 m.2) ms)
      refine KR_mergeT h.2 b ?_
      rw [h.1]
      exact r.put a
  | [], _ :: _, _, _, h, _, _ => by simp at h
  | _ :: _, [], _, _, h, _, _ => by simp at h
def rDictT (ds : List D) (G : GH) (Q : DQ) : Prop := match ds with
  | [d] => (match d.cur G with
    | .lst xs => (match prsT xs with
      | some ms => Q (.dT (mergeDT [] ms)) G
      | none => False)
    | _ => False)
  | _ => False
theorem cd_dictT (hc : X.calm = true) (hu : X.A.units + 100 < cLine) : CallD X (.type "dict") rDictT := by
  refine ⟨_, cr_dictT hc hu, fun F H G vs ds g rs Q' h Q k => ?_⟩
  unfold rDictT at h
  split at h
  · rename_i d
    cases rs with
    | cons r b =>
      cases b
      split at h
      · rename_i xs ex
        split at h
        · rename_i ms em
          obtain ⟨a, ws, rfl, ha, rw'⟩ := cur_list g r ex
          obtain ⟨es, rfl, h3, h4, h5, h6⟩ := prsT_rep em rw'
          refine ⟨a, es, rfl, .inl (.inl ha), fun e he => g.ex _ _ (h3 e he), fun e he => g.ex _ _ (h4 e he), fun p hp => ?_⟩
          have gr := Gr.new (u := .dT (mergeT [] es)) g.ex hp
          have kr : KR X.K F (mergeT [] es) (mergeDT [] ms) := KR_mergeT h5 h6 ⟨rfl, .nil⟩
          have kr2 := kr.mono gr.ff
          exact k _ _ _ _ G gr.go (g.grow gr) (.dT upd_same kr2.ks kr2.vs) h
        · exact h.elim
      · exact h.elim
  · exact h.elim
end
end DL
end
section
set_option Elab.async false
set_option linter.all false
set_option maxRecDepth 100000
set_option maxHeartbeats 4000000
namespace DL
open PySem PySem.Spec PyProof.Rows L2
/-- what is known of the heap by G is known by some G' x, too -/
def Cv (G : GH) {α : Type} (P : α → Prop) (G' : α → GH) : Prop := ∀ K F H, Gok K F H G → ∃ x, P x ∧ Gok K F H (G' x) ∧ ∀ b, G b = none → G' x b = none
def Cv1 (G G' : GH) : Prop := ∀ K F H, Gok K F H G → Gok K F H G' ∧ ∀ b, G b = none → G' b = none
theorem go_view {F H : Hp} {G G' : GH} (h : ∀ b, G b = none → G' b = none) : Go F H G F H G' := ⟨Ex.refl F, fun b u e g => ⟨e, h b g⟩, fun _ _ _ _ f _ => f, fun _ z => z⟩
section
variable {X : Cx} {pos : Pos}
def dIn (t : DTS) : DTS := fun D' S G => ∃ (α : Type) (P : α → Prop) (G' : α → GH), Cv G P G' ∧ ∀ x, P x → t D' S (G' x)
theorem dps_in {body : List Stmt} {t' : DTS} (h : DPs X body t') : DPs X body (dIn t') := by
  obtain ⟨t, p, r⟩ := h.ex
  refine ⟨t, p, fun F H σ S G o D' h D0 k => ?_⟩
  obtain ⟨α, P, G', cv, h⟩ := h
  obtain ⟨x, px, g, fr⟩ := cv X.K F H o.g
  exact r F H σ S (G' x) ⟨g, o.s⟩ D' (h x px) D0 (k.mono (go_view fr))
def outE (D' : DEnds) : DEnds := { nx := fun S G => ∃ G2, Cv1 G G2 ∧ D'.nx S G2, rt := fun d G => ∃ G2, Cv1 G G2 ∧ D'.rt d G2, bk := fun S G => ∃ G2, Cv1 G G2 ∧ D'.bk S G2, ct := fun S G => ∃ G2, Cv1 G G2 ∧ D'.ct S G2 }
def dOut (t : DTS) : DTS := fun D' S G => t (outE D') S G
theorem dps_out {body : List Stmt} {t' : DTS} (h : DPs X body t') : DPs X body (dOut t') := by
  obtain ⟨t, p, r⟩ := h.ex
  refine ⟨t, p, fun F H σ S G o D' h D0 k => r F H σ S G o (outE D') h D0 ⟨?_, ?_, ?_, ?_⟩⟩
  · rintro F1 H1 σ1 S1 G1 e1 o1 ⟨G2, cv, q⟩
    obtain ⟨g, fr⟩ := cv X.K F1 H1 o1.g
    exact k.nx F1 H1 σ1 S1 G2 (e1.trans (go_view fr)) ⟨g, o1.s⟩ q
  · rintro F1 H1 v d G1 e1 g1 r1 ⟨G2, cv, q⟩
    obtain ⟨g, fr⟩ := cv X.K F1 H1 g1
    exact k.rt F1 H1 v d G2 (e1.trans (go_view fr)) g r1 q
  · rintro F1 H1 σ1 S1 G1 e1 o1 ⟨G2, cv, q⟩
    obtain ⟨g, fr⟩ := cv X.K F1 H1 o1.g
    exact k.bk F1 H1 σ1 S1 G2 (e1.trans (go_view fr)) ⟨g, o1.s⟩ q
  · rintro F1 H1 σ1 S1 G1 e1 o1 ⟨G2, cv, q⟩
    obtain ⟨g, fr⟩ := cv X.K F1 H1 o1.g
    exact k.ct F1 H1 σ1 S1 G2 (e1.trans (go_view fr)) ⟨g, o1.s⟩ q
end
/-- what may stand in an open deck -/
structure Deck where
  c : Addr
  g : Int
  t : Int
  ns : List Int
def Deck.ok (x : Deck) (n : Nat) : Prop := 0 ≤ x.t ∧ x.t + n ≤ 1099511627776 ∧ 0 ≤ x.g ∧ x.g < 4294967296 ∧ x.ns.length ≤ 63
def openG (G : GH) (p : Addr) (k1 k2 k3 : Str) (x : Deck) : GH := gput (gput G x.c (.lst (x.ns.map .int))) p (.dK [(.inr k1, .rf x.c), (.inr k2, .int x.g), (.inr k3, .int x.t)])
theorem MRep.other {K : PySem.W.Frag} {F H : Hp} {G G' : GH} {a : Addr} {o : MO} (h : MRep K F H G a o) (nd : ∀ k1 k2 k3 n, o ≠ .deck k1 k2 k3 n) : MRep K F H G' a o := by
  cases o with
  | deck k1 k2 k3 n => exact absurd rfl (nd k1 k2 k3 n)
  | _ => exact h
theorem ints_vs {K : PySem.W.Frag} {F : Hp} {ns : List Int} {vs : List V} (r : Reps K F vs (ns.map .int)) : vs = ns.map V.int := by
  induction ns generalizing vs with
  | nil => cases r; rfl
  | cons n ns ih => cases r with
    | cons a b => cases a; rw [ih b]; rfl
theorem deck_open {G : GH} {p : Addr} {k1 k2 k3 : Str} {n : Nat} (h : G p = some (.deck k1 k2 k3 n)) : Cv G (fun x : Deck => x.ok n ∧ G x.c = some .dcell ∧ x.c ≠ p ∧ ∀ a, a ≠ p → ∀ j1 j2 j3 m, G a ≠ some (.deck j1 j2 j3 m)) (openG G p k1 k2 k3) := by
  intro K F H g
  obtain ⟨fp, c, g0, t, ns, hp, hc, gc, h1, h2, h3, h4, h5⟩ := g.at_ p _ h
  have ne : c ≠ p := fun z => by rw [z, h] at gc; cases gc
  refine ⟨⟨c, g0, t, ns⟩, ⟨⟨h1, h2, h3, h4, h5⟩, gc, ne, fun a na j1 j2 j3 m z => na (g.one a p _ _ _ _ _ _ _ _ z h)⟩, ⟨g.ex, fun a o e => ?_, fun a b j1 j2 j3 m i1 i2 i3 m2 e1 e2 => ?_⟩, fun b hb => ?_⟩
  · unfold openG at e
    by_cases q : a = p
    · subst q
      rw [gput_same] at e; cases e
      exact ⟨fp, _, hp, rfl, .cons (.rf c) (.cons (.int _) (.cons (.int _) .nil))⟩
    · rw [gput_ne q] at e
      by_cases q2 : a = c
      · subst q2
        rw [gput_same] at e; cases e
        exact ⟨(g.at_ a _ gc).1, _, hc, Reps.ints ns⟩
      · rw [gput_ne q2] at e
        obtain ⟨f, m⟩ := g.at_ a o e
        refine ⟨f, m.other fun j1 j2 j3 m z => ?_⟩
        subst z
        exact q (g.one a p _ _ _ _ _ _ _ _ e h)
  · have n1 : ∀ a j1 j2 j3 m, openG G p k1 k2 k3 ⟨c, g0, t, ns⟩ a ≠ some (.deck j1 j2 j3 m) := fun a j1 j2 j3 m z => by
      unfold openG at z
      by_cases q : a = p
      · subst q; rw [gput_same] at z; cases z
      · rw [gput_ne q] at z
        by_cases q2 : a = c
        · subst q2; rw [gput_same] at z; cases z
        · rw [gput_ne q2] at z
          exact q (g.one a p _ _ _ _ _ _ _ _ z h)
    exact absurd e1 (n1 a j1 j2 j3 m)
  · have q : b ≠ p := fun z => by rw [z, h] at hb; cases hb
    have q2 : b ≠ c := fun z => by rw [z, gc] at hb; cases hb
    unfold openG
    rw [gput_ne q, gput_ne q2]; exact hb
def NoDeck (G : GH) : Prop := ∀ a k1 k2 k3 n, G a ≠ some (.deck k1 k2 k3 n)
/-- shut: budget n -/
def shutG (G : GH) (p c : Addr) (k1 k2 k3 : Str) (n : Nat) : GH := gput (gput G c .dcell) p (.deck k1 k2 k3 n)
theorem deck_shut {G : GH} {p : Addr} {k1 k2 k3 : Str} {n : Nat} {x : Deck} (nd : NoDeck G) (hp : G p = some (.dK [(.inr k1, .rf x.c), (.inr k2, .int x.g), (.inr k3, .int x.t)])) (hc : G x.c = some (.lst (x.ns.map .int))) (ok : x.ok n) : Cv1 G (shutG G p x.c k1 k2 k3 n) := by
  intro K F H g
  obtain ⟨fp, kvs, e1, e2, e3⟩ := g.at_ p _ hp
  obtain ⟨fc, vs, f1, f2⟩ := g.at_ x.c _ hc
  have ne : x.c ≠ p := fun z => by rw [z, hp] at hc; cases hc
  have ev := ints_vs f2
  subst ev
  have ek : kvs = [(.inr k1, .ref x.c), (.inr k2, .int x.g), (.inr k3, .int x.t)] := by
    match kvs, e2, e3 with
    | [(a1, b1), (a2, b2), (a3, b3)], e2, e3 =>
      simp only [List.map_cons, List.map_nil, List.cons.injEq, and_true] at e2
      obtain ⟨rfl, rfl, rfl⟩ := e2
      cases e3 with
      | cons r1 r2 => cases r2 with
        | cons r3 r4 => cases r4 with
          | cons r5 r6 => cases r1; cases r3; cases r5; rfl
  subst ek
  obtain ⟨o1, o2, o3, o4, o5⟩ := ok
  refine ⟨⟨g.ex, fun a o e => ?_, fun a b j1 j2 j3 m i1 i2 i3 m2 z1 z2 => ?_⟩, fun b hb => ?_⟩
  · unfold shutG at e
    by_cases q : a = p
    · subst q
      rw [gput_same] at e; cases e
      refine ⟨fp, x.c, x.g, x.t, x.ns, e1, f1, ?_, o1, o2, o3, o4, o5⟩
      unfold shutG
      rw [gput_ne ne, gput_same]
    · rw [gput_ne q] at e
      by_cases q2 : a = x.c
      · subst q2
        rw [gput_same] at e; cases e
        exact ⟨fc, _, f1⟩
      · rw [gput_ne q2] at e
        obtain ⟨f, m⟩ := g.at_ a o e
        exact ⟨f, m.other fun j1 j2 j3 m z => nd a j1 j2 j3 m (z ▸ e)⟩
  · have n1 : ∀ a j1 j2 j3 m, shutG G p x.c k1 k2 k3 n a = some (.deck j1 j2 j3 m) → a = p := fun a j1 j2 j3 m z => by
      unfold shutG at z
      by_cases q : a = p
      · exact q
      · rw [gput_ne q] at z
        by_cases q2 : a = x.c
        · subst q2; rw [gput_same] at z; cases z
        · rw [gput_ne q2] at z; exact absurd z (nd a j1 j2 j3 m)
    rw [n1 _ _ _ _ _ z1, n1 _ _ _ _ _ z2]
  · have q : b ≠ p := fun z => by rw [z, hp] at hb; cases hb
    have q2 : b ≠ x.c := fun z => by rw [z, hc] at hb; cases hb
    unfold shutG
    rw [gput_ne q, gput_ne q2]; exact hb
/-- one draw taken -/
theorem shut_open {G : GH} {p c : Addr} {k1 k2 k3 : Str} {m n : Nat} {o1 o2 : MO} (h : G p = some (.deck k1 k2 k3 m)) (hc : G c = some .dcell) (ne : c ≠ p) : shutG (gput (gput G c o1) p o2) p c k1 k2 k3 n = gput G p (.deck k1 k2 k3 n) := by
  funext b
  unfold shutG
  by_cases q : b = p
  · subst q; rw [gput_same, gput_same]
  · rw [gput_ne q, gput_ne q]
    by_cases q2 : b = c
    · subst q2; rw [gput_same, hc]
    · rw [gput_ne q2, gput_ne q, gput_ne q2]
theorem open_nodeck {G : GH} {p : Addr} {k1 k2 k3 : Str} {x : Deck} (nd : ∀ a, a ≠ p → ∀ j1 j2 j3 m, G a ≠ some (.deck j1 j2 j3 m)) : NoDeck (openG G p k1 k2 k3 x) := by
  intro a j1 j2 j3 m z
  unfold openG at z
  by_cases q : a = p
  · subst q; rw [gput_same] at z; cases z
  · rw [gput_ne q] at z
    by_cases q2 : a = x.c
    · subst q2; rw [gput_same] at z; cases z
    · rw [gput_ne q2] at z; exact nd a q j1 j2 j3 m z
theorem deck_close {G : GH} {p : Addr} {k1 k2 k3 : Str} {m n : Nat} {x : Deck} (h : G p = some (.deck k1 k2 k3 m)) (gc : G x.c = some .dcell) (ne : x.c ≠ p) (nd : ∀ a, a ≠ p → ∀ j1 j2 j3 m, G a ≠ some (.deck j1 j2 j3 m)) (ok : x.ok n) :
    Cv1 (openG G p k1 k2 k3 x) (gput G p (.deck k1 k2 k3 n)) := by
  have := deck_shut (G := openG G p k1 k2 k3 x) (p := p) (k1 := k1) (k2 := k2) (k3 := k3) (n := n) (x := x) (open_nodeck nd) gput_same (by unfold openG; rw [gput_ne ne, gput_same]) ok
  unfold openG at this
  rw [shut_open h gc ne] at this
  exact this
end DL
end
section
set_option Elab.async false
set_option linter.all false
set_option maxRecDepth 100000
namespace DL
open PySem PySem.Spec PyProof.Rows L2
theorem dx2 : (∀ (tk tv : DTE) (S : DS) (G : GH) (Q : DQ), dDispT tk tv S G Q = (tk S G fun k G1 => tv S G1 fun v G2 => match k with
    | .tup ds => (match D.keys ds with
      | some ks => ∀ p, G2 p = none → Q (.rf p) (gput G2 p (.dT [(ks, v)]))
      | none => False)
    | _ => False)) ∧
  (∀ (te : DTE) (S : DS) (G : GH) (Q : DQ), dSortSet te S G Q = (te S G fun d G1 => match d.cur G1 with
    | .lst xs => (match intsD xs with
      | some ns => ns.length < 64 ∧ Q (.lst ((isort1 ns).map .int)) G1
      | none => False)
    | _ => False)) ∧
  (∀ (sp : SpD) (n m : Nat) (js : List Nat) (ta tk : DTA) (S : DS) (G : GH) (Q : DQ), dCallK sp n m js ta tk S G Q = (ta S G fun ds G1 => tk S G1 fun zs G2 => (ds.length = n ∧ zs.length = m) ∧ sp (perm .non js ds zs) G2 Q)) ∧
  (∀ (t : DTS) (D' : DEnds) (S : DS) (G : GH), dOut t D' S G = t (outE D') S G) ∧
  (∀ (te : DTE) (S : DS) (G : GH) (R : List D → (GH → Prop) → GH → Prop), diKeysT te S G R = (te S G fun d G1 => match d with
    | .rf p => (match G1 p with
      | some (.lkT o kvs kds) => R (kds.map fun kv => ktD kv.1) (fun G => G p = some (.lkT o kvs kds)) G1
      | _ => False)
    | _ => False)) := ⟨fun _ _ _ _ _ => rfl, fun _ _ _ _ => rfl, fun _ _ _ _ _ _ _ _ _ => rfl, fun _ _ _ _ => rfl, fun _ _ _ _ => rfl⟩
theorem gput_comm {G : GH} {a b : Addr} {o o' : MO} (h : a ≠ b) : gput (gput G a o) b o' = gput (gput G b o') a o := by
  funext c
  by_cases q : c = a
  · subst q; rw [gput_ne h, gput_same, gput_same]
  · rw [gput_ne q]
    by_cases q2 : c = b
    · subst q2; rw [gput_same, gput_same]
    · rw [gput_ne q2, gput_ne q2, gput_ne q]
/-- a thing changed under another -/
theorem gput_under {G : GH} {a b : Addr} {o o' o2 : MO} (h : a ≠ b) : gput (gput (gput G a o) b o') a o2 = gput (gput G a o2) b o' := by
  rw [gput_comm h, gput_gput, ← gput_comm h]
theorem item_lst (xs : List D) (n : Int) : D.item (.lst xs) (.int n) = atI xs n := rfl
structure Mak (P : Program) (w : World) (K : PySem.W.Frag) (mg : Str → Option Value) (base : Heap) (x : Str) (C : Addr) (k : Nat) (ps : List Str) (sp : SpD) : Prop where
  ex : ∃ f fd, Mk K C f ∧ FnG P w K mg base CX0 k f fd ps (SpOf K sp) ∧ mg x = some (.ref C) ∧ Binds K fd ps []
/-- the __init__ of the class at C -/
structure DefI (K : PySem.W.Frag) (C : Addr) (qual : Str) (st : Stmt) : Prop where
  ex : ∃ f fd, Fun K "__init__" qual st f fd ∧ Mk K C f
theorem mak_mk {P : Program} {w : World} {K : PySem.W.Frag} {mg : Str → Option Value} {base : Heap} {x qual : Str} {C : Addr} {st : Stmt} {N ps : List Str} {k : Nat} {sp : SpD} (d : DefI K C qual st) (hm : mg x = some (.ref C)) (sc : FnScope N ps (defScope st)) (len : ∀ ds G Q, sp ds G Q → ds.length = ps.length)
    (bi : ∀ (kV doc pm : Value) (an : Option Addr) (cdv ct : Value) (us : List Value), us.length = ps.length → bindArgs (PySem.W.fnOf "__init__" qual (defArgs st) (defBody st) (defScope st) .none kV doc pm an cdv ct) ⟨us, []⟩ = pure (ps.zip us))
    (hb : ∀ (f : Addr) (cdv : Value) (A : Around) (outer : List Env) (s : Shared) (H : Hp) (E : XK), A.guards = some [] → Room k (A.deeper (envOfC qual (defScope st) s.heap.objs.size f cdv)) →
      ∃ t', DPs (cxOf CX0 P w K mg base N qual (defScope st) f cdv A outer s H E).nox (defBody st) t' ∧ ∀ ds G Q, sp ds G Q → t' (fin Q) (dstart N ds) G) : Mak P w K mg base x C (k + 1) ps sp := by
  obtain ⟨f, fd, Fu, M⟩ := d.ex
  exact ⟨f, fd, M, fn_mk Fu sc len (hb f), hm, Fu.binds bi⟩
theorem dx3 : (∀ (x : Str) (G : GH) (Q : DQ), rIsiD [.str x, .ty "str"] G Q = Q (.bl true) G) ∧ (∀ (x : Int) (G : GH) (Q : DQ), rIsiD [.int x, .ty "int"] G Q = Q (.bl true) G) ∧ (∀ (x : Int) (G : GH) (Q : DQ), rIsiD [.int x, .ty "bool"] G Q = Q (.bl false) G) ∧
  (∀ (xs : List D) (G : GH) (Q : DQ), rIsiD [.tup xs, .ty "tuple"] G Q = Q (.bl true) G) ∧
  (∀ (xs : List D) (G : GH) (Q : DQ), rTupleD [.lst xs] G Q = Q (.tup xs) G) ∧ (∀ (xs : List D) (G : GH) (Q : DQ), rTupleD [.tup xs] G Q = Q (.tup xs) G) ∧
  (∀ (xs : List D) (G : GH) (Q : DQ), rLenD [.lst xs] G Q = Q (.int (xs.length : Nat)) G) ∧ (∀ (xs : List D) (G : GH) (Q : DQ), rLenD [.tup xs] G Q = Q (.int (xs.length : Nat)) G) ∧
  (∀ (i : Int) (G : GH) (Q : DQ), rIntC [.int i] G Q = Q (.int i) G) ∧
  (∀ (x : Str) (lo hi : Option Int) (G : GH) (Q : DQ), rSlice (.str x) lo hi G Q = (x.length ≤ sizeLine ∧ Q (.str (cutS x lo hi)) G)) ∧
  (∀ (xs : List D) (lo hi : Option Int) (G : GH) (Q : DQ), rSlice (.tup xs) lo hi G Q = Q (.tup (DL.cutD xs lo hi)) G) ∧
  (∀ (xs : List D) (lo hi : Option Int) (G : GH) (Q : DQ), rSlice (.lst xs) lo hi G Q = Q (.lst (DL.cutD xs lo hi)) G) ∧
  (∀ (ns : List Int) (lo hi : Option Int) (G : GH) (Q : DQ), rSlice (.scr ns) lo hi G Q = Q (.lst ((DL.cutD ns lo hi).map .int)) G) ∧
  (∀ (i j : Int) (G : GH) (Q : DQ), rAddD (.int i) (.int j) G Q = Q (.int (i + j)) G) ∧
  (∀ (a b : Str) (G : GH) (Q : DQ), rAddD (.str a) (.str b) G Q = (a.length + b.length ≤ sizeLine ∧ Q (.str (a ++ b)) G)) ∧
  (∀ (a b : List D) (G : GH) (Q : DQ), rAddD (.tup a) (.tup b) G Q = (a.length + b.length ≤ sizeLine ∧ Q (.tup (a ++ b)) G)) ∧
  (∀ (i j : Int) (G : GH) (Q : DQ), rMulD (.int i) (.int j) G Q = (CMul i j ∧ Q (.int (i * j)) G)) ∧
  (∀ (b : Bool), (!(!b)) = b) ∧ (∀ (x y : D), okE x y = true ∧ True ↔ okE x y = true) :=
  ⟨fun _ _ _ => rfl, fun _ _ _ => rfl, fun _ _ _ => rfl, fun _ _ _ => rfl, fun _ _ _ => rfl, fun _ _ _ => rfl, fun _ _ _ => rfl, fun _ _ _ => rfl, fun _ _ _ => rfl, fun _ _ _ _ _ => rfl, fun _ _ _ _ _ => rfl, fun _ _ _ _ _ => rfl, fun _ _ _ _ _ => rfl, fun _ _ _ _ => rfl, fun _ _ _ _ => rfl, fun _ _ _ _ => rfl, fun _ _ _ _ => rfl, fun b => by cases b <;> rfl, fun _ _ => by simp⟩
theorem len_str {x : Str} (h : x.length ≤ sizeLine) (G : GH) (Q : DQ) : rLenD [.str x] G Q = Q (.int (x.length : Nat)) G := by
  simp [rLenD, D.cur, D.len, h]
theorem all_map {α : Type} (f : α → Bool) (l : List α) (G : GH) (Q : DQ) : rAllD [.lst (l.map fun x => .bl (f x))] G Q = Q (.bl (l.all f)) G := by
  have e : bools (l.map fun x => D.bl (f x)) = some (l.map f) := by
    rw [← bools_map, List.map_map]; rfl
  show (match bools (l.map fun x => D.bl (f x)) with | some bs => Q (.bl (bs.all id)) G | none => False) = _
  rw [e]
  simp [List.all_map]
theorem inn_str (x z : Str) : D.inn (.str x) (.str z) = some (strIn x z) := rfl
theorem lc_someA {α : Type} {ds : List D} {gd : GH → Prop} {p : Pat} {tt : DTT} {te : DTE} {vs : List Nat} {S : DS} {G : GH} {Q : DQ} (l : List α) (g : α → D) (b : α → Bool) (f : α → D) (e0 : ds = l.map g) (hz : l.length ≤ sizeLine) (hg : gd G)
    (h : ∀ a ∈ l, ∃ S2, p.put (g a) (dwipe S vs) = some S2 ∧ (∀ Q : Bool → GH → Prop, Q (b a) G → tt S2 G Q) ∧ (b a = true → ∀ Q : DQ, Q (f a) G → te S2 G Q)) (q : Q (.lst ((l.filter b).map f)) G) : LcB ds gd p tt te vs S G Q := by
  subst e0
  refine ⟨by simpa using hz, fun i acc G' => G' = G ∧ acc = ((l.take i).filter b).map f, ⟨rfl, by simp⟩, fun _ _ _ z => z.1 ▸ hg, ?_, ?_⟩
  · rintro i acc G' d ⟨rfl, rfl⟩ hd
    rw [List.getElem?_map] at hd
    cases ei : l[i]? with
    | none => rw [ei] at hd; cases hd
    | some a =>
      rw [ei] at hd
      cases hd
      obtain ⟨S2, h1, h2, h3⟩ := h a (List.mem_of_getElem? ei)
      have e : l.take (i + 1) = l.take i ++ [a] := by rw [List.take_add_one, ei]; rfl
      refine ⟨S2, h1, h2 _ ?_⟩
      cases hb : b a with
      | true =>
        rw [if_pos rfl]
        refine h3 hb _ ⟨rfl, ?_⟩
        rw [e, List.filter_append, List.map_append]
        simp [hb]
      | false =>
        rw [if_neg Bool.false_ne_true]
        refine ⟨rfl, ?_⟩
        rw [e, List.filter_append, List.map_append]
        simp [hb]
  · rintro acc G' ⟨rfl, rfl⟩
    rw [List.length_map, List.take_length]
    exact q
theorem lc_mapA {α : Type} {ds : List D} {gd : GH → Prop} {p : Pat} {te : DTE} {vs : List Nat} {S : DS} {G : GH} {Q : DQ} (l : List α) (g : α → D) (f : α → D) (e0 : ds = l.map g) (hz : l.length ≤ sizeLine) (hg : gd G)
    (h : ∀ a ∈ l, ∃ S2, p.put (g a) (dwipe S vs) = some S2 ∧ ∀ Q : DQ, Q (f a) G → te S2 G Q) (q : Q (.lst (l.map f)) G) : LcB ds gd p dYes te vs S G Q := by
  refine lc_someA l g (fun _ => true) f e0 hz hg (fun a ha => ?_) (by rw [show l.filter (fun _ => true) = l from List.filter_eq_self.mpr fun _ _ => rfl]; exact q)
  obtain ⟨S2, h1, h2⟩ := h a ha
  exact ⟨S2, h1, fun Q z => z, fun _ => h2⟩
theorem zip_map {α β γ : Type} (f : α → β → γ) : ∀ (l : List α) (m : List β), List.zipWith f l m = (l.zip m).map fun p => f p.1 p.2
  | [], _ => by simp
  | _ :: _, [] => by simp
  | a :: l, b :: m => by simp [zip_map f l m]
end DL
end
section
set_option Elab.async false
set_option linter.all false
set_option maxRecDepth 100000
set_option maxHeartbeats 4000000
namespace DL
open PySem PySem.Spec PyProof.Rows L2
def SetSO (w : World) (a : Addr) (ks : List Str) : HO := .ext fun h => SetS w h a ks
section
variable {X : Cx} {pos : Pos}
theorem setSO_new {w : World} {P : Program} {H : Hp} {h : Heap} {a : Addr} {ks : List Str} (R : SetS w h a ks) : ObjOk P w H h a (SetSO w a ks) := by
  have ⟨o, _, _, _, ho, _⟩ := R
  exact ⟨R, ⟨o, ho⟩, fun h1 h2 p k => SetS.keep p k⟩
theorem setSO_get {pins : List (Addr × Obj)} {σ : L2.St} {H : Hp} {s : Shared} {a : Addr} {ks : List Str} (I : Inv X pins σ H s) (ha : H a = some (SetSO X.w a ks)) : SetS X.w s.heap a ks := (I.hok a _ ha).1
def rSetLS (w : World) (K : PySem.W.Frag) : List V → Hp → VK → Prop := fun vs H Q => ∃ (a : Addr) (xs : List Str), vs = [.ref a] ∧ SqL K H a (xs.map V.str) ∧ xs.length ≤ 1000 ∧
  ∀ p, H p = none → Q (.ref p) (upd H p (SetSO w p (firstsF xs)))
theorem cr_setLS (hc : X.calm = true) : CallR X (.type "set") (rSetLS X.w X.K) := by
  intro pins s σ H vs us Q I r h
  obtain ⟨a, xs, rfl, ha, hl, q⟩ := h
  rw [Vals.ref1 r]
  obtain ⟨its, rv, pl, hz⟩ := I.list ha
  refine call_set_lstS xs (I.ok.hd hc) pl.isList (by simpa using rv.strs) (by unfold scanBound; omega) fun h' tk R k => ?_
  exact ⟨.ref _, _, I.laid (t' := tk) k (Nat.le_refl _) (setSO_new R), rfl, q _ (I.hok.fresh (Nat.le_refl _))⟩
def rSortedSS (w : World) : List V → Hp → VK → Prop := fun vs H Q => ∃ (a : Addr) (ks : List Str), vs = [V.ref a] ∧ H a = some (SetSO w a ks) ∧ ks.length ≤ 1000 ∧
  ∀ (ys : List Str) (p : Addr), ys.Perm ks → sortedS ys = true → H p = none → Q (.ref p) (upd H p (.lst (ys.map V.str)))
theorem cr_sortedSS (hc : X.calm = true) : CallR X (.builtin "sorted") (rSortedSS X.w) := by
  intro pins s σ H vs us Q I r h
  obtain ⟨a, ks, rfl, ha, h64, q⟩ := h
  have R := setSO_get I ha
  rw [Vals.ref1 r]
  refine sorted_sets R (I.ok.hd hc) fun s' p out c ys k g o hp hg hi hs hm => ?_
  have hlen : (ys.map V.str).length ≤ sizeLine := by rw [List.length_map, hs.length_eq, sizeLine_eq]; omega
  have hn : H p = none := I.hok.fresh hp
  have J : Inv X pins σ (upd H p (.lst (ys.map V.str))) { s with heap := s'.heap, gens := s'.gens, drawn := s'.drawn, toks := s'.toks } :=
    I.call (ch := []) (Un.laid k hp hn) (I.hok.laid k hp ⟨hlen, out.toList, c, vals_of_strs hi, hg⟩) (by rw [g]; exact I.bare) (fun _ z => nomatch z)
  have e : s' = { s with heap := s'.heap, gens := s'.gens, drawn := s'.drawn, toks := s'.toks } := by
    cases s'; cases s; cases o; rfl
  rw [e]
  exact ⟨.ref p, _, J, rfl, q ys p hs hm hn⟩
theorem Reps.strs {K : PySem.W.Frag} {F : Hp} : ∀ (ns : List Str), Reps K F (ns.map V.str) (ns.map D.str)
  | [] => .nil
  | n :: ns => .cons (.str n) (Reps.strs ns)
def dSortSetS (te : DTE) : DTE := fun S G Q => te S G fun d G1 => match d.cur G1 with
  | .lst xs => (match texts xs with
    | some ts => ts.length ≤ 1000 ∧ ∀ ys : List Str, ys.Perm (firstsF ts) → sortedS ys = true → Q (.lst (ys.map .str)) G1
    | none => False)
  | _ => False
theorem de_sortSetS {e : Expr} {te : DTE} {p q p2 : Pos} (hc : X.calm = true) (hg : Gl X "sorted") (hm : X.mg "sorted" = none) (hg2 : Gl X "set") (hm2 : X.mg "set" = none) (ha : DE X e te)
    (na : starEach [e] X.env = (false, eval e X.env) :: starEach [] X.env := by rfl)
    (nb : starEach [.Call (.Name "set" p2) [e] [] q] X.env = (false, eval (.Call (.Name "set" p2) [e] [] q) X.env) :: starEach [] X.env := by rfl) : DE X (.Call (.Name "sorted" p) [.Call (.Name "set" p2) [e] [] q] [] pos) (dSortSetS te) := by
  obtain ⟨t, p1, r1⟩ := ha.ex
  have ps := pe_callTy (pos := q) (p := p2) (cr_setLS hc) hg2 hm2 PyProof.Rows.boot_set (pa_cons p1 pa_nil na) (by decide) (by decide) na (by rfl)
  have pp := pe_callB (pos := pos) (p := p) (cr_sortedSS hc) hg hm PyProof.Rows.boot_sorted (pa_cons ps pa_nil nb) (by decide) (by decide) nb (by rfl)
  refine ⟨_, pp, fun F H σ S G o Q' h Q k => ?_⟩
  refine r1 F H σ S G o _ h _ fun F1 H1 v d G1 e1 g1 q1 h1 => ?_
  dsimp only at h1
  split at h1
  · rename_i xs ex
    split at h1
    · rename_i ts en
      obtain ⟨a, vs, rfl, ha, rs⟩ := cur_list g1 q1 ex
      rw [texts_rep en rs] at ha
      refine ⟨a, ts, rfl, .inl (.inl ha), h1.1, fun z hz => ?_⟩
      refine ⟨z, _, rfl, upd_same, Nat.le_trans (firstsF_len ts) h1.1, fun ys z2 hs hk hz2 => ?_⟩
      have gr1 : Gr F1 H1 F1 (upd H1 z (SetSO X.w z (firstsF ts))) := ⟨Ex.refl _, g1.ex.trans (Ex.new hz), Ex.new hz, fun _ _ _ w => w⟩
      have g2 := g1.grow gr1
      have gr2 := Gr.new (u := .lst (ys.map V.str)) g2.ex hz2
      exact k _ _ _ _ G1 (e1.trans (gr1.go.trans gr2.go)) (g2.grow gr2) (.lst upd_same (Reps.strs _)) (h1.2 ys hs hk)
    · exact h1.elim
  · exact h1.elim
end
end DL
end
section
set_option Elab.async false
set_option linter.all false
set_option maxRecDepth 100000
set_option maxHeartbeats 4000000
namespace DL
open PySem PySem.Spec PyProof.Rows L2
section
variable {X : Cx} {pos : Pos}
def lists : List D → Option (List (List D))
  | [] => some []
  | .lst x :: r => (lists r).map (x :: ·)
  | _ :: _ => none
end
end DL
end
section
set_option Elab.async false
set_option linter.all false
set_option maxRecDepth 100000
set_option maxHeartbeats 4000000
namespace DL
open PySem PySem.Spec PyProof.Rows L2
section
variable {X : Cx} {pos : Pos}
/-- the name of the own class -/
theorem de_cls {x : Str} {C : Addr} (hg : Gl X x) (hm : X.mg x = some (.ref C)) (hd : (x == ("__debug__" : Str)) = false := by decide) : DE X (.Name x pos) (dC (.rf C)) :=
  dc_of (pe_glob (v := .ref C) hg hm rfl hd) fun _ => .rf C
end
end DL
end
section
set_option Elab.async false
set_option linter.all false
set_option maxRecDepth 100000
set_option maxHeartbeats 4000000
namespace DL
open PySem PySem.Spec PyProof.Rows L2
end DL
end
section
set_option Elab.async false
set_option linter.all false
set_option maxRecDepth 100000
set_option maxHeartbeats 4000000
namespace DL
open PySem PySem.Spec PyProof.Rows L2
structure Fine (d : D) (n w : Nat) : Prop where
  pl : d.pl = true
  sh : d.py.showable = true
  dp : d.py.depth ≤ n
  ls : d.py.leavesShort 13 = true
  bk : d.py.bulk ≤ w
theorem Fine.mono {d : D} {n w n' w' : Nat} (h : Fine d n w) (h1 : n ≤ n') (h2 : w ≤ w') : Fine d n' w' := ⟨h.pl, h.sh, Nat.le_trans h.dp h1, h.ls, Nat.le_trans h.bk h2⟩
theorem Fine.len {d : D} {n w : Nat} (h : Fine d n w) (hw : w ≤ 1000000) : (D.shown d).length ≤ sizeLine := PyData.shown_fits_bulk (B := 13) (by decide) (by decide) h.ls (Nat.le_trans h.bk (Nat.le_trans hw (by decide)))
end DL
end
section
set_option Elab.async false
set_option linter.all false
set_option maxRecDepth 100000
set_option maxHeartbeats 4000000
namespace DL
open PySem PySem.Spec PyProof.Rows L2
abbrev AlE : Type := He.AlD × Bool
def obsE (fa : List He.Fa) (fn : List He.DefD) (ex : PySem.W.Frag → Bool) (K : PySem.W.Frag) : AlE := (He.obsD fa fn K, ex K)
def insB (K : PySem.W.Frag) (C : Addr) : Bool := He.eqO (PySem.W.findIn K (.ref C) "__class__") (some (some (.builtin "object.__class__"))) && (He.eqO (PySem.W.specialIn K (.builtin "object.__class__") "__get__") (some (some (.builtin "getset_descriptor.__get__"))) &&
  (decide (PySem.W.takesIn K (.builtin "object.__class__") = some true) && (decide (PySem.W.mroIn K C (.type "object") = some true) && decide (PySem.W.kitOne K (.ref C) (.ref C) = some true))))
theorem insB_ok {K : PySem.W.Frag} {C : Addr} (c : Cls K C) (h : insB K C = true) : C8.InsC K C := by
  unfold insB at h
  simp only [Bool.and_eq_true, decide_eq_true_eq] at h
  exact ⟨c, He.eqO_ok h.1, He.eqO_ok h.2.1, h.2.2.1, h.2.2.2.1, h.2.2.2.2⟩
end DL
end
section
set_option Elab.async false
set_option linter.all false
set_option maxRecDepth 100000
set_option maxHeartbeats 4000000
namespace DL
open PySem PySem.Spec PyProof.Rows L2
section
variable {X : Cx} {pos : Pos}
structure NeO (K : PySem.W.Frag) (C : Addr) : Prop where
  ne : PySem.W.findIn K (.ref C) "__ne__" = some (some (.builtin "object.__ne__"))
  hm : PySem.W.mroIn K C (.type "object") = some true
  sf : PySem.W.selfFirst K C = true
def neB (K : PySem.W.Frag) (C : Addr) : Bool := He.eqO (PySem.W.findIn K (.ref C) "__ne__") (some (some (.builtin "object.__ne__"))) && (decide (PySem.W.mroIn K C (.type "object") = some true) && PySem.W.selfFirst K C)
theorem neB_ok {K : PySem.W.Frag} {C : Addr} (h : neB K C = true) : NeO K C := by
  unfold neB at h
  simp only [Bool.and_eq_true, decide_eq_true_eq] at h
  exact ⟨He.eqO_ok h.1, h.2.1, h.2.2⟩
end
end DL
end
section
set_option Elab.async false
set_option linter.all false
set_option maxRecDepth 100000
set_option maxHeartbeats 4000000
namespace DL
open PySem PySem.Spec PyProof.Rows L2
end DL
end
section
set_option Elab.async false
set_option linter.all false
set_option maxRecDepth 100000
set_option maxHeartbeats 4000000
namespace DL
open PySem PySem.Spec PyProof.Rows L2
end DL
end
section
set_option Elab.async false
set_option linter.all false
set_option maxRecDepth 100000
set_option maxHeartbeats 4000000
namespace DL
open PySem PySem.Spec PyProof.Rows L2
mutual
/-- a value that is a key -/
inductive NkV (H : Hp) : V → NestedKey → Prop
  | non : NkV H .non .none
  | int (i : Int) : NkV H (.int i) (.num i)
  | str (x : Str) : NkV H (.str x) (.text x)
  | tup {a : Addr} {vs : List V} {ks : List NestedKey} : H a = some (.tup vs) → NksV H vs ks → NkV H (.ref a) (.tup ks)
inductive NksV (H : Hp) : List V → List NestedKey → Prop
  | nil : NksV H [] []
  | cons {v : V} {vs : List V} {k : NestedKey} {ks : List NestedKey} : NkV H v k → NksV H vs ks → NksV H (v :: vs) (k :: ks)
end
mutual
theorem Rep.nk {K : PySem.W.Frag} {F H : Hp} (e : Ex F H) : ∀ {v : V} {d : D} {k : NestedKey}, Rep K F v d → d.nkey = some k → NkV H v k
  | _, _, _, .non, h => by cases h; exact .non
  | _, _, _, .bl b, h => by cases h
  | _, _, _, .int i, h => by cases h; exact .int i
  | _, _, _, .str x, h => by cases h; exact .str x
  | _, _, _, .ty n, h => by cases h
  | _, _, _, .tup (ds := ds) q r, h => by
    simp only [D.nkey] at h
    obtain ⟨ks, hk, rfl⟩ := Option.map_eq_some_iff.mp h
    exact .tup (e _ _ q) (Reps.nk e r hk)
  | _, _, _, .lst q r, h => by cases h
  | _, _, _, .dK q l r, h => by cases h
  | _, _, _, .dT q l r, h => by cases h
  | _, _, _, .obj q l r, h => by cases h
  | _, _, _, .rf a, h => by cases h
  | _, _, _, .scr q, h => by cases h
  | _, _, _, .kup q r, h => by cases h
theorem Reps.nk {K : PySem.W.Frag} {F H : Hp} (e : Ex F H) : ∀ {vs : List V} {ds : List D} {ks : List NestedKey}, Reps K F vs ds → D.nkeys ds = some ks → NksV H vs ks
  | _, _, _, .nil, h => by cases h; exact .nil
  | _, _, _, .cons (d := d) (ds := ds) r t, h => by
    simp only [D.nkeys] at h
    split at h
    · rename_i k ks h1 h2
      cases h
      exact .cons (Rep.nk e r h1) (Reps.nk e t h2)
    · cases h
end
mutual
theorem NkV.is {P : Program} {w : World} {H : Hp} {h : Heap} (ok : HOk P w H h) : ∀ {v : V} {k : NestedKey} {u : Value}, NkV H v k → RelV v u → NestedIs h k u
  | _, _, _, .non, r => by cases r; exact .none
  | _, _, _, .int i, r => by obtain ⟨t, rfl⟩ := r; exact .int i t
  | _, _, _, .str x, r => by obtain ⟨t, rfl⟩ := r; exact .text x t
  | _, _, _, .tup q t, r => by
    cases r
    obtain ⟨_, its, rs, o, h1, h2, n, h3⟩ := (show ObjOk P w H h _ (.tup _) from ok _ _ q)
    exact .tup h1 h2 h3 (by simpa using NksV.is ok t rs)
theorem NksV.is {P : Program} {w : World} {H : Hp} {h : Heap} (ok : HOk P w H h) : ∀ {vs : List V} {ks : List NestedKey} {us : List Value}, NksV H vs ks → Vals vs us → NestedAll h ks us
  | _, _, _, .nil, r => by cases r; exact .nil
  | _, _, _, .cons a t, r => by
    cases r with
    | cons r1 r2 => exact .cons (NkV.is ok a r1) (NksV.is ok t r2)
end
/-- the dict stands there -/
def NAt (w : World) (H : Hp) (a : Addr) (xs : List (NestedKey × Addr × Value)) : Prop :=
  H a = some (.ext (RawN w a xs)) ∧ xs.length ≤ sizeLine ∧ ∀ x ∈ xs, NkV H (.ref x.2.1) x.1 ∧ x.1.depth ≤ 8
theorem NAt.dict {P : Program} {w : World} {H : Hp} {h : Heap} {a : Addr} {xs : List (NestedKey × Addr × Value)} (n : NAt w H a xs) (ok : HOk P w H h) : (a == sysModules) = false ∧ h.DictOfH (nestedKind P w) a xs := by
  obtain ⟨e, _, hk⟩ := n
  obtain ⟨⟨hs, o, es, ep, h1, h2, h3, h4, h5⟩, _⟩ := (show ObjOk P w H h a (.ext (RawN w a xs)) from ok _ _ e)
  exact ⟨hs, o, es, ep, h1, h2, h3, h4, fun x hx => ⟨NkV.is ok (hk x hx).1 rfl, (hk x hx).2⟩, h5⟩
theorem KN.keys {K : PySem.W.Frag} {F H : Hp} (e : Ex F H) : ∀ {kds : List (NestedKey × D)} {xs : List (NestedKey × Addr × Value)}, KN K F kds xs → ∀ x ∈ xs, NkV H (.ref x.2.1) x.1 ∧ x.1.depth ≤ 8
  | _, _, .nil, x, hx => by cases hx
  | _, _, .cons (a := p) (b := q) h t, x, hx => by
    rcases List.mem_cons.mp hx with rfl | hx
    · obtain ⟨z1, ⟨d, z2, zd, z3⟩, _⟩ := h
      rw [← z1]
      exact ⟨Rep.nk e z3 z2, zd⟩
    · exact KN.keys e t x hx
theorem KN.val {K : PySem.W.Frag} {F : Hp} (k : NestedKey) : ∀ {kds : List (NestedKey × D)} {xs : List (NestedKey × Addr × Value)}, KN K F kds xs → (valD kds k = none ∧ atKey xs k = none) ∨ ∃ d p v, valD kds k = some d ∧ atKey xs k = some p ∧ RelV v p.2 ∧ Rep K F v d
  | _, _, .nil => .inl ⟨rfl, rfl⟩
  | _, _, .cons (a := p) (b := q) h t => by
    obtain ⟨z1, _, v, z4, z5⟩ := h
    by_cases e : p.1 = k
    · refine .inr ⟨p.2, q.2, v, ?_, ?_, z4, z5⟩
      · simp [valD, List.find?_cons, e]
      · simp [atKey, List.find?_cons, ← z1, e]
    · have e2 : ¬ q.1 = k := fun z => e (z1.trans z)
      rcases KN.val k t with ⟨h1, h2⟩ | ⟨d, p', v', h1, h2, h3, h4⟩
      · refine .inl ⟨?_, ?_⟩
        · simpa [valD, List.find?_cons, e] using h1
        · simpa [atKey, List.find?_cons, e2] using h2
      · refine .inr ⟨d, p', v', ?_, ?_, h3, h4⟩
        · simpa [valD, List.find?_cons, e] using h1
        · simpa [atKey, List.find?_cons, e2] using h2
theorem KN.len {K : PySem.W.Frag} {F : Hp} {kds : List (NestedKey × D)} {xs : List (NestedKey × Addr × Value)} (h : KN K F kds xs) : kds.length = xs.length := Paired.length h
theorem any_val {kds : List (NestedKey × D)} {k : NestedKey} : (kds.any fun kv => decide (kv.1 = k)) = (valD kds k).isSome := by
  unfold valD
  induction kds with
  | nil => rfl
  | cons a l ih =>
    by_cases e : a.1 = k
    · simp [List.find?_cons, e]
    · simp only [List.any_cons, e, decide_false, Bool.false_or, List.find?_cons]
      exact ih
theorem KN.put {K : PySem.W.Frag} {F : Hp} {kds : List (NestedKey × D)} {xs : List (NestedKey × Addr × Value)} (h : KN K F kds xs) {k : NestedKey} {b : Addr} {r : Value} {dk d : D} {v : V} (hk : dk.nkey = some k) (hd : k.depth ≤ 8) (rk : Rep K F (.ref b) dk) (rv : RelV v r) (rd : Rep K F v d) :
    KN K F (putD kds k d) (storedH xs k b r) := by
  have ev := KN.val k h
  unfold putD storedH
  rw [any_val]
  rcases ev with ⟨h1, h2⟩ | ⟨d', p', v', h1, h2, _⟩
  · rw [h1, h2]
    rw [if_neg (by simp), if_neg (by simp)]
    exact Paired.snoc h ⟨rfl, ⟨dk, hk, hd, rk⟩, v, rv, rd⟩
  · rw [h1, h2, if_pos (show (some d').isSome = true from rfl), if_pos (show (some p').isSome = true from rfl)]
    clear h1 h2
    induction h with
    | nil => exact .nil
    | @cons p q ps qs hq t ih =>
      refine .cons ?_ ih
      obtain ⟨z1, z2, v2, z4, z5⟩ := hq
      unfold putAt
      dsimp only
      by_cases e : p.1 = k
      · rw [if_pos e, if_pos (by rw [← z1]; exact e)]
        exact ⟨z1, z2, v, rv, rd⟩
      · rw [if_neg e, if_neg (by rw [← z1]; exact e)]
        exact ⟨z1, z2, v2, z4, z5⟩
end DL
end
section
set_option Elab.async false
set_option linter.all false
set_option maxRecDepth 100000
set_option maxHeartbeats 4000000
namespace DL
open PySem PySem.Spec PyProof.Rows L2
end DL
end
section
set_option Elab.async false
set_option linter.all false
set_option maxRecDepth 100000
set_option maxHeartbeats 4000000
namespace DL
open PySem PySem.Spec PyProof.Rows L2
end DL
end
section
set_option Elab.async false
set_option linter.all false
set_option maxRecDepth 100000
set_option maxHeartbeats 4000000
namespace DL
open PySem PySem.Spec PyProof.Rows L2
section
variable {X : Cx}
def vNil (neg : Bool) : R2 := fun x y H Q => ∃ a b xs, x = .ref a ∧ y = .ref b ∧ H a = some (.lst xs) ∧ H b = some (.lst []) ∧ Q (.bl (if neg then !xs.isEmpty else xs.isEmpty)) H
theorem nil_at {pins : List (Addr × Obj)} {σ : L2.St} {H : Hp} {s : Shared} {a : Addr} {xs : List V} (I : Inv X pins σ H s) (h : H a = some (.lst xs)) : ∃ its : List Value, its.length = xs.length ∧ s.heap.IsList a its.toArray := by
  obtain ⟨_, its, n, r, hl, e⟩ := I.lstM h
  exact ⟨its, hl.symm, _, e, rfl, n, rfl⟩
theorem op_eqNil (hu : X.A.units + 100 < cLine) : OpR X (compareOp .Eq) (vNil false) := by
  intro pins s σ H x y v u Q I rx ry h
  obtain ⟨a, b, xs, rfl, rfl, ha, hb, q⟩ := h
  cases rx
  cases ry
  obtain ⟨its, hl, la⟩ := nil_at I ha
  obtain ⟨jts, hj, lb⟩ := nil_at I hb
  show wpAny (model X.prog X.w) X.A (richCompare .Eq (.ref a) (.ref b)) (EP X pins σ Q) X.xe s
  have hj0 : jts = [] := List.length_eq_zero_iff.mp hj
  subst hj0
  cases xs with
  | nil =>
    have hi0 : its = [] := List.length_eq_zero_iff.mp hl
    subst hi0
    exact PySem.SeqAt.RcAt.lists (e := fun _ => true) la lb rfl (by omega) (fun j h1 _ => absurd h1 (by simp)) X.prog X.w _ _ ⟨.bl true, H, I, rfl, q⟩
  | cons z zs =>
    exact PySem.SeqAt.RcAt.lists_lengths la lb (by simp only [List.length_cons] at hl; simp [hl]) (by omega) X.prog X.w _ _ ⟨.bl false, H, I, rfl, q⟩
theorem op_neNil (hu : X.A.units + 100 < cLine) : OpR X (compareOp .NotEq) (vNil true) := by
  intro pins s σ H x y v u Q I rx ry h
  obtain ⟨a, b, xs, rfl, rfl, ha, hb, q⟩ := h
  cases rx
  cases ry
  obtain ⟨its, hl, la⟩ := nil_at I ha
  obtain ⟨jts, hj, lb⟩ := nil_at I hb
  show wpAny (model X.prog X.w) X.A (richCompare .NotEq (.ref a) (.ref b)) (EP X pins σ Q) X.xe s
  have hj0 : jts = [] := List.length_eq_zero_iff.mp hj
  subst hj0
  cases xs with
  | nil =>
    have hi0 : its = [] := List.length_eq_zero_iff.mp hl
    subst hi0
    exact PySem.SeqAt.RcNeAt.lists (e := fun _ => true) la lb rfl (by omega) (fun j h1 _ => absurd h1 (by simp)) X.prog X.w _ _ ⟨.bl false, H, I, rfl, q⟩
  | cons z zs =>
    exact PySem.SeqAt.RcNeAt.lists_lengths la lb (by simp only [List.length_cons] at hl; simp [hl]) (by omega) X.prog X.w _ _ ⟨.bl true, H, I, rfl, q⟩
def rNil (neg : Bool) : DR2 := fun x y G Q => match x.cur G, y.cur G with
  | .lst xs, .lst [] => Q (.bl (if neg then !xs.isEmpty else xs.isEmpty)) G
  | _, _ => False
theorem nil_core {neg : Bool} {F H : Hp} {G : GH} {x y : V} {dx dy : D} (g : Gok X.K F H G) (rx : Rep X.K F x dx) (ry : Rep X.K F y dy) {Q' : DQ} (h : rNil neg dx dy G Q') {Q : VK} (k : KpE X.K F H G Q' Q) : vNil neg x y H Q := by
  unfold rNil at h
  split at h
  · rename_i xs e1 e2
    obtain ⟨a, vs, rfl, ha, rs⟩ := cur_list g rx e1
    obtain ⟨b, ws, rfl, hb, rt⟩ := cur_list g ry e2
    cases rt
    refine ⟨a, b, vs, rfl, rfl, ha, hb, ?_⟩
    have e : vs.isEmpty = xs.isEmpty := by
      have := rs.length
      cases vs <;> cases xs <;> simp_all
    rw [e]
    exact k F H _ _ G Go.refl g (.bl _) h
  · exact h.elim
theorem od_eqNil (hu : X.A.units + 100 < cLine) : OpD X (compareOp .Eq) (rNil false) := ⟨_, op_eqNil hu, fun F H G x y dx dy g rx ry Q' h Q k => nil_core g rx ry h k⟩
theorem od_neNil (hu : X.A.units + 100 < cLine) : OpD X (compareOp .NotEq) (rNil true) := ⟨_, op_neNil hu, fun F H G x y dx dy g rx ry Q' h Q k => nil_core g rx ry h k⟩
end
end DL
end
section
set_option Elab.async false
set_option linter.all false
set_option maxRecDepth 100000
set_option maxHeartbeats 4000000
namespace DL
open PySem PySem.Spec PyProof.Rows L2
end DL
end
section
set_option Elab.async false
set_option linter.all false
set_option maxRecDepth 100000
set_option maxHeartbeats 4000000
namespace DL
open PySem PySem.Spec PyProof.Rows L2 HT
section
variable {X : Cx} {pos : Pos}
def rStrI (ds : List D) (G : GH) (Q : DQ) : Prop := match ds with
  | [.int i] => i.natAbs.log2 < 1920 ∧ Q (.str (toString i)) G
  | _ => False
theorem cd_strI : CallD X (.type "str") rStrI := by
  refine ⟨_, call_str_int, fun F H G vs ds g rs Q' h Q k => ?_⟩
  unfold rStrI at h
  split at h
  · rename_i i
    cases rs with
    | cons r b =>
      cases b
      cases r
      exact ⟨i, rfl, h.1, k _ _ _ _ G Go.refl g (.str _) h.2⟩
  · exact h.elim
end
end DL
end
section
set_option Elab.async false
set_option linter.all false
set_option maxRecDepth 100000
set_option maxHeartbeats 4000000
namespace DL
open PySem PySem.Spec PyProof.Rows L2
mutual
def D.pyR : D → PyData
  | .non => .none
  | .bl b => .bool b
  | .int i => .int i
  | .str x => .str x
  | .tup xs | .kup xs => .tuple (D.pysR xs)
  | .lst xs => .list (D.pysR xs)
  | .dK _ => .dict []
  | _ => .none
def D.pysR : List D → List PyData
  | [] => []
  | x :: xs => D.pyR x :: D.pysR xs
end
mutual
def D.plR : D → Bool
  | .non | .bl _ | .int _ | .str _ => true
  | .tup xs | .lst xs | .kup xs => D.plsR xs
  | .dK kds => kds.isEmpty
  | _ => false
def D.plsR : List D → Bool
  | [] => true
  | x :: xs => D.plR x && D.plsR xs
end
/-- the place of the modules is in the written part -/
def SysM (K : PySem.W.Frag) : Prop := ∃ o, K.lookup sysModules = some o
section
variable {X : Cx} {pins : List (Addr × Obj)} {σ : L2.St} {F H : Hp} {s : Shared}
theorem sysM_free (I : Inv X pins σ H s) (h : SysM X.K) : H sysModules = none := by
  obtain ⟨o, e⟩ := h
  exact (I.bs _ o (I.ok.mod.kin _ _ e)).2
mutual
theorem Rep.readsR (I : Inv X pins σ H s) (e : Ex F H) (hs : H sysModules = none) : ∀ (d : D) (v : V) (u : Value), Rep X.K F v d → d.plR = true → RelV v u → ∃ as, Reads s.heap u d.pyR as ∧ sysModules ∉ as
  | .non, _, _, h, _, r => by cases h; cases r; exact ⟨_, Reads.none, by simp⟩
  | .bl b, _, _, h, _, r => by cases h; cases r; exact ⟨_, Reads.bool b, by simp⟩
  | .int i, _, _, h, _, r => by cases h; obtain ⟨t, rfl⟩ := r; exact ⟨_, Reads.int i t, by simp⟩
  | .str x, _, _, h, _, r => by cases h; obtain ⟨t, rfl⟩ := r; exact ⟨_, Reads.str x t, by simp⟩
  | .tup xs, _, _, h, p, r => by
    cases h with
    | tup ha rs =>
      cases r
      obtain ⟨its, rv, ⟨o, ho, hc, n, hd⟩, _⟩ := I.tuple (.inl (.inl (e _ _ ha)))
      obtain ⟨as, hr, hn⟩ := Reps.readsR I e hs xs _ its rs p rv
      exact ⟨_, Reads.tuple ho hc hd hr, hn⟩
  | .kup xs, _, _, h, p, r => by
    cases h with
    | kup ha rs =>
      cases r
      obtain ⟨its, rv, ⟨o, ho, hc, n, hd⟩, _⟩ := I.tuple (e.sqt ha)
      obtain ⟨as, hr, hn⟩ := Reps.readsR I e hs xs _ its rs p rv
      exact ⟨_, Reads.tuple ho hc hd hr, hn⟩
  | .lst xs, _, _, h, p, r => by
    cases h with
    | lst ha rs =>
      cases r
      obtain ⟨its, rv, ⟨o, n, ho, hc, _, hd⟩, _⟩ := I.list (.inl (.inl (e _ _ ha)))
      obtain ⟨as, hr, hn⟩ := Reps.readsR I e hs xs _ its rs p rv
      refine ⟨_, Reads.list ho hc hd hr, ?_⟩
      rw [List.mem_cons, not_or]
      exact ⟨fun z => (by rw [← z] at ha; rw [e _ _ ha] at hs; cases hs), hn⟩
  | .dK kds, _, _, h, p, r => by
    cases h with
    | dK ha hk rs =>
      cases r
      have : kds = [] := List.isEmpty_iff.mp p
      subst this
      rename_i a kvs
      have : kvs = [] := by simpa using hk
      subst this
      obtain ⟨hz, hs0, vs, kv, hdo⟩ := I.hok a _ (e _ _ ha)
      cases kv
      have rd : Reads s.heap (.ref a) (.dict []) [a] := PyProof.V.reads_dictOf (enc := fun k : Key => match k with | .inl i => PyData.int i | .inr x => PyData.str x) (bs := []) (D := []) (fun k key h => by
        have r := relV_key (show keyIs k key = true from h)
        cases k with
        | inl i => obtain ⟨t, rfl⟩ := r; exact .int i t
        | inr x => obtain ⟨t, rfl⟩ := r; exact .str x t) hdo .nil
      refine ⟨_, rd, ?_⟩
      rw [List.mem_singleton]
      exact fun z => by rw [← z] at ha; rw [e _ _ ha] at hs; cases hs
  | .ty _, _, _, _, p, _ => by cases p
  | .dT _, _, _, _, p, _ => by cases p
  | .obj _ _, _, _, _, p, _ => by cases p
  | .rf _, _, _, _, p, _ => by cases p
  | .scr _, _, _, _, p, _ => by cases p
theorem Reps.readsR (I : Inv X pins σ H s) (e : Ex F H) (hs : H sysModules = none) : ∀ (ds : List D) (vs : List V) (us : List Value), Reps X.K F vs ds → D.plsR ds = true → Vals vs us → ∃ as, ReadsAll s.heap us (D.pysR ds) as ∧ sysModules ∉ as
  | [], _, _, h, _, r => by
    cases h
    cases r
    exact ⟨_, ReadsAll.nil, by simp⟩
  | d :: ds, _, _, h, p, r => by
    have p' : d.plR = true ∧ D.plsR ds = true := by simpa [D.plsR] using p
    cases h with
    | cons h1 h2 =>
      cases r with
      | cons r1 r2 =>
        obtain ⟨as, q1, n1⟩ := Rep.readsR I e hs d _ _ h1 p'.1 r1
        obtain ⟨bs, q2, n2⟩ := Reps.readsR I e hs ds _ _ h2 p'.2 r2
        refine ⟨_, ReadsAll.cons q1 q2, ?_⟩
        rw [List.mem_append, not_or]
        exact ⟨n1, n2⟩
end
end
section
variable {X : Cx} {pos : Pos}
def rReprG (ds : List D) (G : GH) (Q : DQ) : Prop := match ds with
  | [d] => d.plR = true ∧ d.pyR.showable = true ∧ d.pyR.depth ≤ 60 ∧ d.pyR.shown.length ≤ sizeLine ∧ Q (.str d.pyR.shown) G
  | _ => False
theorem cr_reprG (hu : X.A.units + 100 < cLine) (hA : X.A.guards = some []) (hm : SysM X.K) : CallR X (.builtin "repr") (fun vs H Q => ∃ F v d, vs = [v] ∧ Ex F H ∧ Rep X.K F v d ∧ d.plR = true ∧ d.pyR.showable = true ∧ d.pyR.depth ≤ 60 ∧ d.pyR.shown.length ≤ sizeLine ∧ Q (.str d.pyR.shown) H) := by
  intro pins s σ H vs us Q I r h
  obtain ⟨F, v, d, rfl, ex, hd, hp, hs, hde, hz, q⟩ := h
  cases r with
  | cons r rr =>
    cases rr
    obtain ⟨as, rd, hn⟩ := Rep.readsR I ex (sysM_free I hm) d _ _ hd hp r
    revert rd hs hde hz q
    generalize d.pyR = py
    intro hs hde hz q rd
    have gen : ∀ {a : Addr}, Reads s.heap (.ref a) py as → wpAny (model X.prog X.w) X.A (call (.builtin "repr") [.ref a]) (EP X pins σ Q) X.xe s := fun rd => by
      refine repr_of_reads' (h₀ := s.heap) rd hs (fun _ => hn) hA (by omega) (fun _ _ z => z) (fun h' u tk hk => ?_) hz
      exact ⟨.str _, H, I.kept (t' := tk) hk, ⟨_, rfl⟩, q⟩
    cases rd with
    | none => exact P.repr_of_none ⟨.str _, H, I.tok _, ⟨_, rfl⟩, q⟩
    | bool b => exact P.repr_of_bool ⟨.str _, H, I.tok _, ⟨_, rfl⟩, by cases b <;> exact q⟩
    | int i t => exact P.repr_of_int (of_decide_eq_true hs) ⟨.str _, H, I.tok _, ⟨_, rfl⟩, q⟩
    | str x t => exact P.repr_of_str ⟨.str _, H, I.tok _, ⟨_, rfl⟩, q⟩ hz
    | list h1 h2 h3 h4 => exact gen (.list h1 h2 h3 h4)
    | tuple h1 h2 h3 h4 => exact gen (.tuple h1 h2 h3 h4)
    | dict h1 h2 h3 h4 h5 => exact gen (.dict h1 h2 h3 h4 h5)
theorem cd_reprG (hu : X.A.units + 100 < cLine) (hA : X.A.guards = some []) (hm : SysM X.K) : CallD X (.builtin "repr") rReprG := by
  refine ⟨_, cr_reprG hu hA hm, fun F H G vs ds g rs Q' h Q k => ?_⟩
  unfold rReprG at h
  split at h
  · rename_i d
    cases rs with
    | cons r b =>
      cases b
      obtain ⟨h1, h2, h3, h4, h5⟩ := h
      exact ⟨F, _, d, rfl, g.ex, r, h1, h2, h3, h4, k F H _ _ G Go.refl g (.str _) h5⟩
  · exact h.elim
end
def sysB (K : PySem.W.Frag) : Bool := (K.lookup sysModules).isSome
theorem sysB_ok {K : PySem.W.Frag} (h : sysB K = true) : SysM K := Option.isSome_iff_exists.mp h
end DL
end
section
set_option Elab.async false
set_option linter.all false
set_option maxRecDepth 100000
set_option maxHeartbeats 4000000
namespace DL
open PySem PySem.Spec PyProof.Rows L2
section
variable {X : Cx} {pos : Pos}
def diEnumL (ta : DTA) : DTI := fun S G R => ta S G fun ds G1 => match ds with
  | [.lst xs] => R (xs.mapIdx fun i x => .tup [.int (i : Nat), x]) dNoGuard G1
  | _ => False
theorem di_enumL {e : Expr} {ta : DTA} {p tpos : Pos} {elts : List Expr} {kk : Nat} (hg : Gl X "enumerate") (hm : X.mg "enumerate" = none) (ha : DA X [e] ta) (hs : starEach [e] X.env = [(false, eval e X.env)] := by rfl) :
    DI X (.Tuple elts kk tpos) (.Call (.Name "enumerate" p) [e] [] pos) (diEnumL ta) := by
  obtain ⟨t, p1, r⟩ := ha.ex
  refine ⟨_, pi_enum hg hm p1 hs, fun F H σ S G o R' h R k => ?_⟩
  refine r F H σ S G o _ h _ fun F1 H1 vs ds G1 e1 g1 q1 h1 => ?_
  dsimp only at h1
  split at h1
  · rename_i xs
    cases q1 with
    | cons q rest =>
      cases rest
      cases q with
      | lst hq rs =>
        rename_i a ws
        refine ⟨a, ws, rfl, .inl (.inl (g1.ex _ _ hq)), k F1 H1 G1 _ _ _ e1 g1 ⟨fun F2 H2 G2 i d e2 g2 _ hd => ?_, fun F2 H2 G2 e2 g2 _ => ?_⟩ h1⟩
        · rw [List.getElem?_mapIdx] at hd
          cases ex : xs[i]? with
          | none => rw [ex] at hd; cases hd
          | some x =>
            rw [ex] at hd
            cases hd
            obtain ⟨v, hv, rv⟩ := rs.get ex
            have hs2 : SqL X.K H2 a ws := .inl (.inl (g2.ex _ _ (e2 _ _ hq)))
            refine ⟨⟨ws, v, hs2, hv⟩, fun y H3 hy => ?_⟩
            obtain ⟨T, z, rfl, hT, rfl, hz⟩ := hy
            have := hz ws hs2
            rw [hv] at this
            cases this
            have gr := Gr.new (u := .tup [.int (i : Nat), v]) g2.ex hT
            exact ⟨_, gr.go, g2.grow gr, .tup upd_same (.cons (.int _) (.cons ((rv.mono e2).mono gr.ff) .nil))⟩
        · refine ⟨ws, .inl (.inl (g2.ex _ _ (e2 _ _ hq))), ?_⟩
          rw [List.length_mapIdx, rs.length]
          exact Nat.le_refl _
  · exact h1.elim
end
end DL
end
section
set_option Elab.async false
set_option linter.all false
set_option maxRecDepth 100000
set_option maxHeartbeats 4000000
namespace DL
open PySem PySem.Spec PyProof.Rows L2
section
variable {X : Cx} {pos : Pos}
def rSplitD (x : D) (ds : List D) (G : GH) (Q : DQ) : Prop := match x, ds with
  | .str a, [.str b] => (b.length == 0) = false ∧ a.length + 2 ≤ sizeLine ∧ Q (.lst ((Txt.split a b).map .str)) G
  | _, _ => False
theorem reps_strs {K : PySem.W.Frag} {F : Hp} : ∀ ys : List Str, Reps K F (ys.map V.str) (ys.map D.str)
  | [] => .nil
  | y :: ys => .cons (.str y) (reps_strs ys)
theorem md_split : MtD X "str.split" rSplitD := by
  refine ⟨_, mt_split, fun F H G x dx vs ds g rx rs Q' h Q k => ?_⟩
  unfold rSplitD at h
  split at h
  · rename_i a0 b0
    cases rx
    cases rs with
    | cons r b =>
      cases b
      cases r
      refine ⟨_, _, rfl, rfl, h.1, h.2.1, fun p hp => ?_⟩
      have gr := Gr.new (u := .lst ((Txt.split a0 b0).map V.str)) g.ex hp
      exact k _ _ _ _ G gr.go (g.grow gr) (.lst upd_same (reps_strs _)) h.2.2
  · exact h.elim
end
end DL
end
section
set_option Elab.async false
set_option linter.all false
set_option maxRecDepth 100000
set_option maxHeartbeats 4000000
namespace DL
open PySem PySem.Spec PyProof.Rows L2 ClX
section
variable {X : Cx} {CX : CXT} {k i : Nat} {f C : Addr} {fd : FuncData} {ps ks : List Str} {sp : Sp} {E : XK} {x m : Str} {p pos apos : Pos} {e o : Expr} {es : List Expr} {kws : List Keyword} {ta : TE} {t tk : TA}
  {dvs : List V} {ds : List Value}
/-- C(..), C held by a local name -/
def tMakeL (i : Nat) (C : Addr) (sp : Sp) (dvs : List V) (E : XK) (t : TA) : TE := fun σ H Q => σ[i]? = some (some (.ref C)) ∧ tMake C sp dvs E t σ H Q
theorem pg_makeL (M : Mk X.K C f) (F : FnG X.prog X.w X.K X.mg X.base CX k f fd ps sp) (hA : X.A.guards = some []) (hr : Room (k + 1) X.A) (hN : X.N[i]? = some x) (hv : Vis X.env.scope x) (hb : Binds X.K fd ps ds) (hd : Vals dvs ds) (hx : Passes CX X E)
    (ha : PA X (e :: es) t) (hdb : (x == ("__debug__" : Str)) = false) (hcd : (x == ("__classdict__" : Str)) = false) (he : starEach (e :: es) X.env = (false, eval e X.env) :: starEach es X.env) (hpl : (backTo pos (starEach es X.env)).any (·.1) = false) :
    PE X (.Call (.Name x p) (e :: es) [] pos) (tMakeL i C sp dvs E t) := by
  refine ⟨fun pins s σ H Q I h => ?_⟩
  obtain ⟨hs, ht⟩ := h
  refine wpAny_Call_Name_kw (thn ((pe_var (pos := p) hN hv hdb hcd).run pins s σ H (fun v H1 => v = .ref C ∧ H1 = H) I ⟨.ref C, hs, rfl, rfl⟩) fun u s1 ⟨v, H1, I1, r1, q1⟩ => ?_)
  obtain ⟨rfl, rfl⟩ := q1
  cases r1
  refine PySem.W.callWith_K (h₀ := X.base) I.ok.mod.kin M.kp (thn (ha.run pos pins s1 σ _ _ I1 ht) ?_) he hpl
  rintro us s2 ⟨vs, H2, I2, r, q⟩
  exact ⟨I2.kIn, goes_make M F hA hr hb hd hx I2 r q⟩
end
section
variable {X : Cx} {pos kpos : Pos}
def dMakeL (i : Nat) (C : Addr) (sp : SpD) (tr : DTA) : DTE := fun S G Q => S[i]? = some (some (.rf C)) ∧ dMake C sp tr S G Q
theorem de_makL (i : Nat) {x y : Str} {C : Addr} {k : Nat} {ps : List Str} {sp : SpD} {p : Pos} {e : Expr} {es : List Expr} {tr : DTA} (c : Mak X.prog X.w X.K X.mg X.base y C k ps sp) (hA : X.A.guards = some []) (hr : Room (k + 1) X.A) (ha : DA X (e :: es) tr)
    (hN : X.N[i]? = some x := by rfl) (hv : Vis X.env.scope x := by first | exact Or.inl rfl | exact Or.inr (Or.inl rfl) | exact Or.inr (Or.inr rfl)) (hdb : (x == ("__debug__" : Str)) = false := by decide) (hcd : (x == ("__classdict__" : Str)) = false := by decide)
    (he : starEach (e :: es) X.env = (false, eval e X.env) :: starEach es X.env := by rfl) (hpl : (backTo pos (starEach es X.env)).any (·.1) = false := by rfl) : DE X (.Call (.Name x p) (e :: es) [] pos) (dCold (dMakeL i C sp tr)) := by
  obtain ⟨f, fd, M, Fn, hm, hb⟩ := c.ex
  obtain ⟨t2, p2, r2⟩ := ha.ex
  refine de_cold ⟨_, pg_makeL M Fn hA hr hN hv hb .nil pass0 p2 hdb hcd he hpl, fun F H σ S G o Q' h Q k => ?_⟩
  obtain ⟨hS, h⟩ := h
  obtain ⟨v, e1, r⟩ := o.s.get hS
  cases r
  refine ⟨e1, r2 F H σ S G o _ h _ fun F1 H1 vs ds G1 e1 g1 q1 h1 => ?_⟩
  intro y dy ny ndy ne
  rw [List.append_nil]
  have gr := Gr.only (u := .own y) g1.ex ndy
  have g2 := g1.grow gr
  have ny2 : upd H1 dy (.own y) y = none := by rw [upd_ne (fun z => ne z.symm)]; exact ny
  have g3 := g2.alloc (u := .ins C dy []) (o := .ins C []) ny2 rfl ⟨dy, [], upd_same, rfl, .nil⟩
  have go3 : Go F1 H1 G1 F1 _ (gput G1 y (.ins C [])) := (gr.go (G := G1)).trans (Go.alloc (u := .ins C dy []) (o := .ins C []) ny2)
  refine ⟨F1, _, .rf y :: ds, _, g3, .cons (.rf y) q1, h1 y (g1.free ny), ?_⟩
  intro F4 H4 v d G4 e4 g4 q4 h4
  split at h4
  · cases q4
    exact ⟨rfl, k F4 H4 _ _ G4 ((e1.trans go3).trans e4) g4 (.rf y) h4⟩
  · exact h4.elim
end
/-- the def of a class method of the class at C -/
structure DefC (K : PySem.W.Frag) (C : Addr) (m qual : Str) (st : Stmt) : Prop where
  ex : ∃ p g mc fd, Fun K m qual st g fd ∧ CRead K C mc ∧ CMet K C mc m p g
end DL
end
section
set_option Elab.async false
set_option linter.all false
set_option maxRecDepth 100000
set_option maxHeartbeats 4000000
namespace DL
open PySem PySem.Spec PyProof.Rows L2 ClX
def cmP (K : PySem.W.Frag) (C : Addr) (m : Str) : Addr := He.ma K C m
def cmG (K : PySem.W.Frag) (C : Addr) (m : Str) : Addr := match PySem.W.recIn K (cmP K C m) "classmethod" with
  | some (.ref g :: _) => g
  | _ => 0
def cmF (K : PySem.W.Frag) (C : Addr) (m : Str) : Bool := match PySem.W.findCls K (.ref C) (.type "type") m with
  | some (.get (.builtin s) (.ref p) .none (.ref D)) => decide (s = "classmethod.__get__") && (decide (p = cmP K C m) && decide (D = C))
  | _ => false
def cmR (K : PySem.W.Frag) (C : Addr) (m : Str) : Bool := match PySem.W.recIn K (cmP K C m) "classmethod" with
  | some (.ref _ :: _) => true
  | _ => false
def cmB (K : PySem.W.Frag) (C : Addr) (m : Str) : Bool := PySem.W.readsIn K C (.type "type") && (He.eqO (PySem.W.specialIn K (.ref C) "__getattribute__") (some (some (.builtin "type.__getattribute__"))) && (cmF K C m && (cmR K C m && PySem.W.fnIn K (cmG K C m))))
theorem cmB_ok {K : PySem.W.Frag} {C : Addr} {m : Str} (h : cmB K C m = true) : CRead K C (.type "type") ∧ CMet K C (.type "type") m (cmP K C m) (cmG K C m) := by
  unfold cmB at h
  simp only [Bool.and_eq_true] at h
  obtain ⟨h1, h2, h3, h4, h5⟩ := h
  refine ⟨⟨h1, He.eqO_ok h2⟩, ?_, ?_, h5⟩
  · unfold cmF at h3
    split at h3
    · rename_i s p D e
      simp only [Bool.and_eq_true, decide_eq_true_eq] at h3
      obtain ⟨rfl, rfl, rfl⟩ := h3
      exact e
    · cases h3
  · unfold cmR at h4
    unfold cmG
    split at h4
    · rename_i g r e
      exact ⟨r, by rw [e]⟩
    · cases h4
def fnA (K : PySem.W.Frag) (a : Addr) : He.FnW := match K.lookup a with
  | some ⟨_, _, .func fd, _⟩ => some (fd.name, fd.qualname, fd.params, fd.body, fd.scope, fd.globals, fd.closure, fd.builtins)
  | _ => none
def okA (K : PySem.W.Frag) (a : Addr) (d : He.DefD) : Bool := PySem.W.keepIn K (.ref a) && (match K.lookup a with
  | some ⟨_, _, .func fd, _⟩ => PySem.W.codeIn K fd.code d.qual && (He.dflB K fd.defaults (d.dvs K) && He.kwdB K fd.kwdefaults (d.kws K))
  | _ => false)
theorem funA {K : PySem.W.Frag} {a : Addr} {d : He.DefD} (e : fnA K a = d.val) (c : okA K a d = true) : ∃ fd, FunD K d.name d.qual d.params d.body d.scope (d.dvs K) (d.kws K) a fd := by
  obtain ⟨kp, c2⟩ := He.ba c
  unfold fnA at e
  cases q : K.lookup a with
  | none =>
    rw [q] at c2
    cases c2
  | some o =>
    obtain ⟨oc, od, dt, osl⟩ := o
    rw [q] at c2 e
    cases dt with
    | func fd =>
      obtain ⟨n1, n2, n3, n4, n5, n6, n7, n8, n9, n10, n11, n12, n13, n14, n15⟩ := fd
      have e2 : (some (n1, n2, n3, n4, n5, n6, n7, n15) : He.FnW) = some (d.name, d.qual, d.params, .stmts d.body, d.scope, mainGlobals, [], builtinsNs) := e
      simp only [Option.some.injEq, Prod.mk.injEq] at e2
      obtain ⟨h1, h2, h3, h4, h5, h6, h7, h8⟩ := e2
      subst h1 h2 h3 h4 h5 h6 h7 h8
      have c3 : (PySem.W.codeIn K n13 d.qual && (He.dflB K n8 (d.dvs K) && He.kwdB K n9 (d.kws K))) = true := c2
      obtain ⟨k1, k2⟩ := He.ba c3
      obtain ⟨k3, k4⟩ := He.ba k2
      exact ⟨_, ⟨oc, od, n8, n9, n10, n11, n12, n13, n14, osl, rfl, q, k1, He.dflB_ok k3, He.kwdB_ok k4⟩, kp⟩
    | _ => cases c2
end DL
end
section
set_option Elab.async false
set_option linter.all false
set_option maxRecDepth 100000
set_option maxHeartbeats 4000000
namespace DL
open PySem PySem.Spec PyProof.Rows L2
def ItF (k0 : Int) (xs : List V) (ok : Hp → Prop) : It :=
  ⟨fun i H => ok H ∧ i < xs.length, fun i H v H' => ∃ T x, v = .ref T ∧ H T = none ∧ H' = upd H T (.tup [.int (k0 + (i : Nat)), x]) ∧ xs[i]? = some x, fun i H => ok H ∧ i = xs.length⟩
theorem turn_enumFrom (k0 : Int) {P : Program} {w : World} {K : PySem.W.Frag} {elts : List Expr} {kk : Nat} {tpos : Pos} {xs : List V} {ok : Hp → Prop} {e it : Addr} {Si : Nat → Heap → Prop}
    (live : ∀ i h, Si i h → ∃ o, h.get? it = some o ∧ ∀ v, o.data ≠ .cell v) (keep : ∀ i h h', Si i h → (∀ o, h.get? it = some o → h'.get? it = some o) → Si i h')
    (dr : ∀ (X : Cx) (pins : List (Addr × Obj)) (σ : L2.St) (H : Hp) (s : Shared), X.prog = P → X.w = w → X.K = K → X.A.handled = none → Inv X pins σ H s → ok H → ∃ (fp : List Addr) (Pv : Nat → Value → Prop) (St : Nat → Heap → Prop), it ∈ fp ∧ (∀ b ∈ fp, b ≠ it → ∃ u, H b = some u) ∧ Draws P w X.A.in1 it fp xs.length Pv St ∧
      (∀ i, Si i s.heap → St i s.heap) ∧ (∀ i h, St i h → Si i h) ∧ ∀ i u x, Pv i u → xs[i]? = some x → RelV x u) :
    Turn P w K (.Tuple elts kk tpos) (ItF k0 xs ok) [e, it] e (fun i h => (∃ old, IsEnum h e it (k0 + ((i : Nat) : Int)) old) ∧ Si i h ∧ e ≠ it) where
  mem := by simp
  obj := by
    intro i h st b hb
    obtain ⟨⟨old, he⟩, hs, _⟩ := st
    have q : b = e ∨ b = it := by simpa using hb
    rcases q with q | q
    · subst q; exact ⟨_, he, fun v z => nomatch z⟩
    · subst q; exact live i h hs
  keep := by
    intro i h h' st k
    obtain ⟨⟨old, he⟩, hs, ne⟩ := st
    exact ⟨⟨old, k e (by simp) _ he⟩, keep i h h' hs fun o z => k it (by simp) o z, ne⟩
  item := by
    intro X hP hw hK hc i pins s σ H E I hf st hg
    obtain ⟨⟨old, he⟩, hs, ne⟩ := st
    obtain ⟨hok, hi⟩ := hg
    obtain ⟨fp, Pv, St, m0, mt, Dr, s1, s2, rel⟩ := dr X pins σ H s hP hw hK (I.ok.hd hc) I hok
    subst hP hw hK
    have el : e < s.heap.objs.size := Heap.lt_size he
    have il : it < s.heap.objs.size := by
      obtain ⟨o, z, _⟩ := live i _ hs
      exact Heap.lt_size z
    have ef : e ∉ fp := by
      intro z
      obtain ⟨u, hu⟩ := mt e z ne
      rw [(hf e (by simp)).1] at hu
      cases hu
    refine wpAny_pyNext_enum_itemC Dr he (s1 i hs) hi ne ef ?_
    intro x h' tk px ho hst hT hsz hk
    refine ⟨_, rfl, wpAny_letOwnedTupleGo_enum (s := { s with heap := h', toks := tk + 1 }) ho ?_⟩
    intro h'' he' sb
    have hx : xs[i]? = some xs[i] := List.getElem?_eq_getElem hi
    have rx := rel i x _ px hx
    have hT2 := (sb.2 _ (Nat.ne_of_gt el)).trans hT
    have nw : ObjOk X.prog X.w (upd H s.heap.objs.size (.tup [.int (k0 + (i : Nat)), xs[i]])) h'' s.heap.objs.size (.tup [.int (k0 + (i : Nat)), xs[i]]) :=
      ⟨(by decide : 2 ≤ sizeLine), [.int (k0 + i) tk, x], .cons ⟨_, rfl⟩ (.cons rx .nil), ⟨_, hT2, rfl, _, rfl⟩⟩
    have J : Inv X pins σ (upd H s.heap.objs.size (.tup [.int (k0 + (i : Nat)), xs[i]])) { s with heap := h'', toks := tk + 1 } := by
      refine I.turnedNew (ch := [e, it]) ?_ hf (Nat.le_refl _) nw
      intro b ob hb q
      have b1 : b ≠ e := fun z => hb (by simp [z])
      have b2 : b ≠ it := fun z => hb (by simp [z])
      exact (sb.2 b b1).trans (hk b ob b1 b2 q)
    refine ⟨.ref s.heap.objs.size, _, J, rfl, ⟨_, _, rfl, I.hok.fresh (Nat.le_refl _), rfl, hx⟩, ⟨⟨x, ?_⟩, ?_, ne⟩, ?_⟩
    · have z : (k0 + ((i + 1 : Nat) : Int)) = k0 + (i : Int) + 1 := by omega
      rw [z]; exact he'
    · exact keep _ _ _ (s2 _ _ hst) fun o q => (sb.2 it (Ne.symm ne)).trans q
    · intro b hb
      have q : b = e ∨ b = it := by simpa using hb
      have lt : b < s.heap.objs.size := by rcases q with q | q <;> (rw [q]; assumption)
      rw [upd_ne (Nat.ne_of_lt lt)]
      exact (hf b hb).1
  done := by
    intro X hP hw hK hc i pins s σ H E I hf st hg
    obtain ⟨⟨old, he⟩, hs, ne⟩ := st
    obtain ⟨hok, hi⟩ := hg
    obtain ⟨fp, Pv, St, m0, mt, Dr, s1, s2, rel⟩ := dr X pins σ H s hP hw hK (I.ok.hd hc) I hok
    subst hP hw hK
    subst hi
    refine wpAny_pyNext_enum_endD Dr he (s1 _ hs) ?_
    intro h' eb
    refine ⟨rfl, I.turnedL (t' := s.toks) (ch := [e, it]) ?_ hf⟩
    intro b o hb q
    exact eb b o (fun z => hb (by simp [z])) q
  self := fun A i s Q E st h => let ⟨⟨_, he⟩, _⟩ := st; wpAny_pyIter_enum he h
theorem callWith_type_kwB {M : Model} {A : Around} {E : Value → Shared → Prop} {s : Shared} {pos : Pos} {T : String} {first : List Value} {args : List (Bool × Sem Value)} {keywords : List (Option Str × Sem Value)} {Q : Value → Shared → Prop}
    (hplain : args.any (·.1) = false) (hkw : keywords.any (·.1.isNone) = false)
    (h : wpAny M A (evalArgs (.type T) true args keywords) (fun a s₁ => wpAny M A (call (.type T) (first ++ a.pos) a.kw) Q E s₁) E s) :
    wpAny M A (callWith pos (.type T) first args keywords) Q E s := by
  unfold callWith
  refine wpAny_bind (wpAny_holding (wpAny_mono h (fun a s₁ h₁ => wpAny_bind (wpAny_standAt ?_)) fun _ _ x => x))
  simp only [hplain, hkw, Bool.or_false]
  refine wpAny_bind (wpAny_pure ?_)
  exact wpAny_bind (wpAny_mono h₁ (fun r s₂ hr => wpAny_bind (wpAny_holding (wpAny_point (wpAny_pure hr)))) fun _ _ x => x)
def iEnumF (k0 : Int) (ta : TA) : TI := fun σ H R => ta σ H fun vs H1 => ∃ a xs, vs = [.ref a] ∧ H1 a = some (.lst xs) ∧ R (ItF k0 xs fun H => H a = some (.lst xs)) H1
theorem pi_enumF {X : Cx} {e : Expr} {ta : TA} {k0 : Int} {p pos tpos kpos cpos : Pos} {elts : List Expr} {kk jj : Nat} (h0 : -(2 ^ 63) ≤ k0) (h1 : k0 < 2 ^ 63) (hg : Gl X "enumerate") (hm : X.mg "enumerate" = none) (ha : PA X [e] ta) (hs : starEach [e] X.env = (false, eval e X.env) :: starEach [] X.env := by rfl) :
    PI X (.Tuple elts kk tpos) (.Call (.Name "enumerate" p) [e] [⟨some "start", .Constant (.int k0) jj cpos, kpos⟩] pos) (iEnumF k0 ta) := by
  constructor
  intro pins s σ H R I h
  refine wpAny_Call_Name_kw (ld_blt I hg hm boot_enumerate (callWith_type_kwB ?_ ?_ (evalArgs_kw2 ?_ (thn (ha.run pos pins s σ H _ I h) ?_) hs)))
  · rw [hs]; rfl
  · rfl
  · rfl
  rintro us s1 ⟨vs, H1, I1, r1, a, xs, rfl, hq, q⟩
  have pk : PK X [⟨some "start", .Constant (.int k0) jj cpos, kpos⟩] (tCons (tC (.int k0)) tNil) := pk_cons pe_int pk_nil
  refine thn (pk.run pos pins s1 σ H1 (fun zs H2 => zs = [.int k0] ∧ H2 = H1) I1 ⟨rfl, rfl⟩) ?_
  rintro ws s2 ⟨zs, H2, I2, rz, rfl, rfl⟩
  cases r1 with
  | cons r rr =>
    cases rr
    cases r
    cases rz with
    | cons rk rr =>
      cases rr
      obtain ⟨tk, rfl⟩ := rk
      obtain ⟨its, rv, tu, hz⟩ := I2.list (xs := xs) (a := a) (.inl (.inl hq))
      have hl := rv.length
      show wpAny (model X.prog X.w) X.A (call (.type "enumerate") [.ref a] [(Str.ofString "start", .int k0 tk)]) _ _ s2
      refine enum_begins_start (begins_list a its.toArray) tu.isList h0 h1 ?_
      intro h' he hit hsz hk
      refine wpAny_pyIter_enum he ?_
      have J : Inv X pins σ H2 { s2 with heap := h' } := I2.kept (t' := s2.toks) hk
      have he0 : IsEnum h' (s2.heap.objs.size + 1) s2.heap.objs.size (k0 + ((0 : Nat) : Int)) .none := by
        have z : k0 + ((0 : Nat) : Int) = k0 := by omega
        rw [z]; exact he
      refine ⟨s2.heap.objs.size + 1, [s2.heap.objs.size + 1, s2.heap.objs.size], _, _, H2, rfl, J, turn_enumFrom k0 (Si := fun i h => h.IsListIter s2.heap.objs.size a i) ?_ ?_ ?_, ⟨⟨.none, he0⟩, ⟨_, hit, rfl, rfl⟩, Nat.succ_ne_self _⟩, ?_, q⟩
      · rintro i h ⟨o, z, c, d⟩
        exact ⟨o, z, fun v y => by rw [d] at y; cases y⟩
      · rintro i h h' ⟨o, z, c⟩ k
        exact ⟨o, k o z, c⟩
      · intro X2 pins2 σ2 H3 s3 hP hw hK hh I3 hok
        have hne : a ≠ s2.heap.objs.size := by
          intro z
          have := I2.hok.fresh (Nat.le_refl s2.heap.objs.size)
          rw [← z, hq] at this
          cases this
        obtain ⟨its2, rv2, tu2, hz2⟩ := I3.list (xs := xs) (a := a) (.inl (.inl hok))
        have hl2 := rv2.length
        refine ⟨[s2.heap.objs.size, a], fun i v => its2.toArray[i]? = some v, fun i h => h.IsListIter s2.heap.objs.size a i ∧ h.IsList a its2.toArray, by simp, fun b hb hb2 => ?_, ?_, fun i z => ⟨z, tu2.isList⟩, fun i h z => z.1, fun i u x pu hx => ?_⟩
        · have : b = a := by
            have q : b = s2.heap.objs.size ∨ b = a := by simpa using hb
            rcases q with q | q
            · exact absurd q hb2
            · exact q
          subst this
          exact ⟨_, hok⟩
        · have := Draws.list (prog := X.prog) (w := X.w) (A := X2.A.in1) hh s2.heap.objs.size a hne its2.toArray
          have ez : its2.toArray.size = xs.length := by rw [hl2]; simp
          rw [ez] at this
          exact this
        · refine vals_getD rv2 ?_ hx
          simpa using pu
      · refine fresh_fp I2 fun b hb => ?_
        have q : b = s2.heap.objs.size + 1 ∨ b = s2.heap.objs.size := by simpa using hb
        rcases q with q | q
        · rw [q]; exact Nat.le_add_right _ _
        · rw [q]; exact Nat.le_refl _
section
variable {X : Cx} {pos : Pos}
def diEnumF (k0 : Int) (ta : DTA) : DTI := fun S G R => ta S G fun ds G1 => match ds with
  | [.lst xs] => R (xs.mapIdx fun i x => .tup [.int (k0 + (i : Nat)), x]) dNoGuard G1
  | _ => False
theorem di_enumF {e : Expr} {ta : DTA} {k0 : Int} {p tpos kpos cpos : Pos} {elts : List Expr} {kk jj : Nat} (h0 : -(2 ^ 63) ≤ k0) (h1 : k0 < 2 ^ 63) (hg : Gl X "enumerate") (hm : X.mg "enumerate" = none) (ha : DA X [e] ta) (hs : starEach [e] X.env = (false, eval e X.env) :: starEach [] X.env := by rfl) :
    DI X (.Tuple elts kk tpos) (.Call (.Name "enumerate" p) [e] [⟨some "start", .Constant (.int k0) jj cpos, kpos⟩] pos) (diEnumF k0 ta) := by
  obtain ⟨t, p1, r⟩ := ha.ex
  refine ⟨_, pi_enumF h0 h1 hg hm p1 hs, fun F H σ S G o R' h R k => ?_⟩
  refine r F H σ S G o _ h _ fun F1 H1 vs ds G1 e1 g1 q1 h1 => ?_
  dsimp only at h1
  split at h1
  · rename_i xs
    cases q1 with
    | cons q rest =>
      cases rest
      cases q with
      | lst hq rs =>
        rename_i a ws
        refine ⟨a, ws, rfl, g1.ex _ _ hq, k F1 H1 G1 _ _ _ e1 g1 ⟨fun F2 H2 G2 i d e2 g2 _ hd => ?_, fun F2 H2 G2 e2 g2 _ => ?_⟩ h1⟩
        · rw [List.getElem?_mapIdx] at hd
          cases ex : xs[i]? with
          | none => rw [ex] at hd; cases hd
          | some x =>
            rw [ex] at hd
            cases hd
            have hi : i < ws.length := by
              rw [rs.length]
              exact (List.getElem?_eq_some_iff.mp ex).1
            refine ⟨⟨g2.ex _ _ (e2 _ _ hq), hi⟩, fun y H3 hy => ?_⟩
            obtain ⟨T, z, rfl, hT, rfl, hz⟩ := hy
            obtain ⟨x', hx', rx'⟩ := rs.get' hz
            rw [ex] at hx'
            cases hx'
            have gr := Gr.new (u := .tup [.int (k0 + (i : Nat)), z]) g2.ex hT
            exact ⟨_, gr.go, g2.grow gr, .tup upd_same (.cons (.int _) (.cons ((rx'.mono e2).mono gr.ff) .nil))⟩
        · refine ⟨g2.ex _ _ (e2 _ _ hq), ?_⟩
          rw [List.length_mapIdx, rs.length]
  · exact h1.elim
end
end DL
end
section
set_option Elab.async false
set_option linter.all false
set_option maxRecDepth 100000
set_option maxHeartbeats 4000000
namespace DL
open PySem PySem.Spec PyProof.Rows L2
section
variable {X : Cx}
def rIndexS (x : D) (ds : List D) (G : GH) (Q : DQ) : Prop := match x, ds with
  | .str a, [.str b] => ∃ i rest, Builtin.Str.occurrences a b 0 a.length 1 = i :: rest ∧ Q (.int (i : Nat)) G
  | _, _ => False
theorem md_index : MtD X "str.index" rIndexS := by
  refine ⟨_, mt_sindex, fun F H G x dx vs ds g rx rs Q' h Q k => ?_⟩
  unfold rIndexS at h
  split at h
  · cases rx
    cases rs with
    | cons r b =>
      cases b
      cases r
      obtain ⟨i, rest, h1, h2⟩ := h
      exact ⟨_, _, i, rest, rfl, rfl, h1, k F H _ _ G Go.refl g (.int _) h2⟩
  · exact h.elim
end
end DL
end
section
set_option Elab.async false
set_option linter.all false
set_option maxRecDepth 100000
set_option maxHeartbeats 4000000
namespace DL
open PySem PySem.Spec PyProof.Rows L2
end DL
end
section
set_option Elab.async false
set_option linter.all false
set_option maxRecDepth 100000
set_option maxHeartbeats 4000000
namespace DL
open PySem PySem.Spec PyProof.Rows L2
end DL
end
section
set_option Elab.async false
set_option linter.all false
set_option maxRecDepth 100000
set_option maxHeartbeats 4000000
namespace DL
open PySem PySem.Spec PyProof.Rows L2
abbrev KB := Addr × List Key
end DL
end
section
set_option Elab.async false
set_option linter.all false
set_option maxRecDepth 100000
set_option maxHeartbeats 4000000
namespace DL
open PySem PySem.Spec PyProof.Rows L2
abbrev KTup (P : Program) (w : World) (h : Heap) (k : List Key) (b : Addr) : Prop := IsTupleKey (mixKind P w) h k b
abbrev kh (P : Program) (w : World) (k : List Key) : Int := tupleKeyHash (mixKind P w) k
section
variable {P : Program} {w : World} {A : Around} {E : Value → Shared → Prop} {s : Shared}
def krows (P : Program) (w : World) (L : List KB) : List (Int × Value) := L.map fun p => (kh P w p.2, Value.ref p.1)
theorem krows_len (L : List KB) : (krows P w L).length = L.length := by simp [krows]
/-- all but the keys themselves -/
structure KSet0 (P : Program) (w : World) (h : Heap) (a : Addr) (L : List KB) (es : Array (Int × Value)) (ep : Nat) (t : SetTable) : Prop where
  ob : ∃ o, h.get? a = some o ∧ o.ExactSet ∧ o.data = .set es ep t
  rows : es.toList = krows P w L
  tab : TabOk t (L.map fun p => kh P w p.2)
  nd : (L.map (·.2)).Nodup
  led : w.params.followText "set-order" = true ∨ t.led = true
  room : L.length * 5 < t.mask * 3
  few : L.length < 64
structure KSet (P : Program) (w : World) (h : Heap) (a : Addr) (L : List KB) (es : Array (Int × Value)) (ep : Nat) (t : SetTable) : Prop extends KSet0 P w h a L es ep t where
  tup : ∀ p ∈ L, KTup P w h p.2 p.1
variable {a : Addr} {L : List KB} {es : Array (Int × Value)} {ep : Nat} {t : SetTable}
theorem rows_size (h : es.toList = krows P w L) : es.size = L.length := by
  rw [← Array.length_toList, h, krows_len]
theorem fits_of (sz : t.place.size = es.size) (dm : t.dummies = #[]) (hl : es.size ≤ t.mask) : t.fits es.size = true := by
  unfold SetTable.fits SetTable.fill
  rw [dm, Bool.and_eq_true, beq_iff_eq, decide_eq_true_eq]
  show t.place.size = es.size ∧ t.place.size + 0 ≤ t.mask
  omega
theorem KSet0.psize (R : KSet0 P w s.heap a L es ep t) : t.place.size = L.length := by
  have := R.tab.sz
  rwa [List.length_map] at this
theorem KSet0.fits (R : KSet0 P w s.heap a L es ep t) : t.fits es.size = true := by
  have h1 := R.psize
  have h2 := rows_size R.rows
  have h3 := R.room
  exact fits_of (by omega) R.tab.dm (by omega)
theorem KSet.keep {h h' : Heap} (R : KSet P w h a L es ep t) (ha : ∀ o, h.get? a = some o → h'.get? a = some o) (ht : ∀ p ∈ L, KTup P w h' p.2 p.1) : KSet P w h' a L es ep t := by
  obtain ⟨⟨⟨o, ho, r⟩, r1, r2, r3, r4, r5, r6⟩, _⟩ := R
  exact ⟨⟨⟨o, ha o ho, r⟩, r1, r2, r3, r4, r5, r6⟩, ht⟩
end
end DL
end
section
set_option Elab.async false
set_option linter.all false
set_option maxRecDepth 100000
set_option maxHeartbeats 4000000
namespace DL
open PySem PySem.Spec PyProof.Rows L2
end DL
end
section
set_option Elab.async false
set_option linter.all false
set_option maxRecDepth 100000
set_option maxHeartbeats 4000000
namespace DL
open PySem PySem.Spec PyProof.Rows L2
end DL
end
section
set_option Elab.async false
set_option linter.all false
set_option maxRecDepth 100000
set_option maxHeartbeats 4000000
namespace DL
open PySem PySem.Spec PyProof.Rows L2
end DL
end
section
set_option Elab.async false
set_option linter.all false
set_option maxRecDepth 100000
set_option maxHeartbeats 4000000
namespace DL
open PySem PySem.Spec PyProof.Rows L2
end DL
end
section
set_option Elab.async false
set_option linter.all false
set_option maxRecDepth 100000
set_option maxHeartbeats 4000000
namespace DL
open PySem PySem.Spec PyProof.Rows L2
section
variable {X : Cx} {pos : Pos}
def rMin2D (ds : List D) (G : GH) (Q : DQ) : Prop := match ds with
  | [.int i, .int j] => Q (.int (if j < i then j else i)) G
  | _ => False
theorem cd_min2 (hc : X.calm = true) : CallD X (.builtin "min") rMin2D := by
  refine ⟨_, call_min2 hc, fun F H G vs ds g rs Q' h Q k => ?_⟩
  unfold rMin2D at h
  split at h
  · cases rs with
    | cons a b =>
      cases b with
      | cons c d =>
        cases d; cases a; cases c
        exact ⟨_, _, rfl, k F H _ _ G Go.refl g (.int _) h⟩
  · exact h.elim
end
end DL
end
section
set_option Elab.async false
set_option linter.all false
set_option maxRecDepth 100000
set_option maxHeartbeats 4000000
namespace DL
open PySem PySem.Spec PyProof.Rows L2
theorem Vals.at {vs : List V} {us : List Value} (r : Vals vs us) : ∀ {i : Nat} {u : Value}, us[i]? = some u → ∃ v, vs[i]? = some v ∧ RelV v u := by
  induction r with
  | nil => intro i u h; simp at h
  | cons a _ ih =>
    intro i u h
    cases i with
    | zero => simp at h; subst h; exact ⟨_, rfl, a⟩
    | succ i => simpa using ih (by simpa using h)
end DL
end
section
set_option Elab.async false
set_option linter.all false
set_option maxRecDepth 100000
set_option maxHeartbeats 4000000
namespace DL
open PySem PySem.Spec PyProof.Rows L2
end DL
end
section
set_option Elab.async false
set_option linter.all false
set_option maxRecDepth 100000
set_option maxHeartbeats 4000000
namespace DL
open PySem PySem.Spec PyProof.Rows L2
end DL
end
section
set_option Elab.async false
set_option linter.all false
set_option maxRecDepth 100000
set_option maxHeartbeats 4000000
namespace DL
open PySem PySem.Spec PyProof.Rows L2
end DL
end
section
set_option Elab.async false
set_option linter.all false
set_option maxRecDepth 100000
set_option maxHeartbeats 4000000
namespace DL
open PySem PySem.Spec PyProof.Rows L2
end DL
end
section
set_option Elab.async false
set_option linter.all false
set_option maxRecDepth 100000
set_option maxHeartbeats 4000000
namespace DL
open PySem PySem.Spec PyProof.Rows L2
section
variable {X : Cx} {pins : List (Addr × Obj)} {σ : L2.St} {H : Hp} {s : Shared}
mutual
theorem urep_is (I : Inv X pins σ H s) : ∀ (k : NestedKey) {v : V} {u : Value}, Rep X.K H v (kToU k) → RelV v u → NestedIs s.heap k u
  | .none, v, _, h, r => by
    have h : Rep X.K H v .non := h
    cases h; cases r; exact .none
  | .num i, v, _, h, r => by
    have h : Rep X.K H v (.int i) := h
    cases h; obtain ⟨t, rfl⟩ := r; exact .int i t
  | .text x, v, _, h, r => by
    have h : Rep X.K H v (.str x) := h
    cases h; obtain ⟨t, rfl⟩ := r; exact .text x t
  | .tup ks, v, _, h, r => by
    have h : Rep X.K H v (.kup (ksToU ks)) := h
    cases h with
    | kup q t =>
      cases r
      obtain ⟨its, rv, ⟨o, h1, h2, n, h3⟩, _⟩ := I.tuple q
      exact .tup h1 h2 h3 (by simpa using ureps_is I ks t rv)
theorem ureps_is (I : Inv X pins σ H s) : ∀ (ks : List NestedKey) {vs : List V} {us : List Value}, Reps X.K H vs (ksToU ks) → Vals vs us → NestedAll s.heap ks us
  | [], vs, _, h, r => by
    have h : Reps X.K H vs [] := h
    cases h; cases r; exact .nil
  | k :: ks, vs, _, h, r => by
    have h : Reps X.K H vs (kToU k :: ksToU ks) := h
    cases h with
    | cons a t =>
      cases r with
      | cons r1 r2 => exact .cons (urep_is I k a r1) (ureps_is I ks t r2)
end
end
/-- the dict stands there -/
def UAt (K : PySem.W.Frag) (w : World) (H : Hp) (a : Addr) (xs : List (NestedKey × Addr × Value)) : Prop :=
  H a = some (.ext (RawN w a xs)) ∧ xs.length ≤ sizeLine ∧ ∀ x ∈ xs, Rep K H (.ref x.2.1) (kToU x.1) ∧ x.1.depth ≤ 8
theorem UAt.dict {X : Cx} {pins : List (Addr × Obj)} {σ : L2.St} {H : Hp} {s : Shared} {a : Addr} {xs : List (NestedKey × Addr × Value)} (n : UAt X.K X.w H a xs) (I : Inv X pins σ H s) : (a == sysModules) = false ∧ s.heap.DictOfH (nestedKind X.prog X.w) a xs := by
  obtain ⟨e, _, hk⟩ := n
  obtain ⟨⟨hs, o, es, ep, h1, h2, h3, h4, h5⟩, _⟩ := (show ObjOk X.prog X.w H s.heap a (.ext (RawN X.w a xs)) from I.hok _ _ e)
  exact ⟨hs, o, es, ep, h1, h2, h3, h4, fun x hx => ⟨urep_is I x.1 (hk x hx).1 rfl, (hk x hx).2⟩, h5⟩
theorem KU.keys {K : PySem.W.Frag} {F H : Hp} (e : Ex F H) : ∀ {kds : List (NestedKey × D)} {xs : List (NestedKey × Addr × Value)}, KU K F kds xs → ∀ x ∈ xs, Rep K H (.ref x.2.1) (kToU x.1) ∧ x.1.depth ≤ 8
  | _, _, .nil, x, hx => by cases hx
  | _, _, .cons (a := p) (b := q) h t, x, hx => by
    rcases List.mem_cons.mp hx with rfl | hx
    · obtain ⟨z1, zd, z3, _⟩ := h
      rw [← z1]
      exact ⟨z3.mono e, zd⟩
    · exact KU.keys e t x hx
theorem KU.val {K : PySem.W.Frag} {F : Hp} (k : NestedKey) : ∀ {kds : List (NestedKey × D)} {xs : List (NestedKey × Addr × Value)}, KU K F kds xs → (valD kds k = none ∧ atKey xs k = none) ∨ ∃ d p v, valD kds k = some d ∧ atKey xs k = some p ∧ RelV v p.2 ∧ Rep K F v d
  | _, _, .nil => .inl ⟨rfl, rfl⟩
  | _, _, .cons (a := p) (b := q) h t => by
    obtain ⟨z1, _, _, v, z4, z5⟩ := h
    by_cases e : p.1 = k
    · refine .inr ⟨p.2, q.2, v, ?_, ?_, z4, z5⟩
      · simp [valD, List.find?_cons, e]
      · simp [atKey, List.find?_cons, ← z1, e]
    · have e2 : ¬ q.1 = k := fun z => e (z1.trans z)
      rcases KU.val k t with ⟨h1, h2⟩ | ⟨d, p', v', h1, h2, h3, h4⟩
      · refine .inl ⟨?_, ?_⟩
        · simpa [valD, List.find?_cons, e] using h1
        · simpa [atKey, List.find?_cons, e2] using h2
      · refine .inr ⟨d, p', v', ?_, ?_, h3, h4⟩
        · simpa [valD, List.find?_cons, e] using h1
        · simpa [atKey, List.find?_cons, e2] using h2
theorem KU.len {K : PySem.W.Frag} {F : Hp} {kds : List (NestedKey × D)} {xs : List (NestedKey × Addr × Value)} (h : KU K F kds xs) : kds.length = xs.length := Paired.length h
theorem KU.put {K : PySem.W.Frag} {F : Hp} {kds : List (NestedKey × D)} {xs : List (NestedKey × Addr × Value)} (h : KU K F kds xs) {k : NestedKey} {b : Addr} {r : Value} {d : D} {v : V} (hd : k.depth ≤ 8) (rk : Rep K F (.ref b) (kToU k)) (rv : RelV v r) (rd : Rep K F v d) :
    KU K F (putD kds k d) (storedH xs k b r) := by
  have ev := KU.val k h
  unfold putD storedH
  rw [any_val]
  rcases ev with ⟨h1, h2⟩ | ⟨d', p', v', h1, h2, _⟩
  · rw [h1, h2]
    rw [if_neg (by simp), if_neg (by simp)]
    exact Paired.snoc h ⟨rfl, hd, rk, v, rv, rd⟩
  · rw [h1, h2, if_pos (show (some d').isSome = true from rfl), if_pos (show (some p').isSome = true from rfl)]
    clear h1 h2
    induction h with
    | nil => exact .nil
    | @cons p q ps qs hq t ih =>
      refine .cons ?_ ih
      obtain ⟨z1, z2, z3, v2, z4, z5⟩ := hq
      unfold putAt
      dsimp only
      by_cases e : p.1 = k
      · rw [if_pos e, if_pos (by rw [← z1]; exact e)]
        exact ⟨z1, z2, z3, v, rv, rd⟩
      · rw [if_neg e, if_neg (by rw [← z1]; exact e)]
        exact ⟨z1, z2, z3, v2, z4, z5⟩
end DL
end
section
set_option Elab.async false
set_option linter.all false
set_option maxRecDepth 100000
set_option maxHeartbeats 4000000
namespace DL
open PySem PySem.Spec PyProof.Rows L2
end DL
end
section
set_option Elab.async false
set_option linter.all false
set_option maxRecDepth 100000
set_option maxHeartbeats 4000000
namespace DL
open PySem PySem.Spec PyProof.Rows L2 PySem.Calls
abbrev exTl : List Value := [.type "Exception", .type "BaseException", .type "object"]
/-- what the written part says of the error at C and of its __init__ -/
structure XCls (K : PySem.W.Frag) (fl : Str) (C : Addr) (qual : Str) (params : Arguments) (body : List Stmt) (scope : Scope) (fI cc cda : Addr) (dV kV doc pm ct : Value) (an : Option Addr) : Prop where
  q : PySem.W.excInitIn K C exTl "Exception.__new__" = true
  kC : PySem.W.keepIn K (.ref C) = true
  iI : PySem.W.findIn K (.ref C) "__init__" = some (some (.ref fI))
  fn : ∃ oc od osl, K.lookup fI = some ⟨oc, od, .func (PySem.W.fnX "__init__" qual params body scope [("__class__", cc)] dV kV doc pm an (.ref cda) ct), osl⟩
  tI : PySem.W.typeIn K (.ref fI) = some (.type "function")
  ce : ∃ cl cld csl, K.lookup cc = some ⟨cl, cld, .cell (some (.ref C)), csl⟩
  co : ∃ ccl cdd ccs vs file tf, K.lookup cda = some ⟨ccl, cdd, .fields vs, ccs⟩ ∧ vs[2]? = some (.str file tf) ∧ (fl == file) = true
  cd : PySem.W.codeIn K (.ref cda) qual = true
  xB : PySem.W.subIn K (.ref C) (.type "BaseException") = some true
  xT : PySem.W.typeIn K (.ref C) = some (.type "type")
  xE : PySem.W.subIn K (.ref C) (.type "Exception") = some true
  xC : PySem.W.mroIn K C (.ref C) = some true
  su : PySem.W.nsIn K mainGlobals "super" = some none
  op : PySem.W.nsIn K cStatics "thirdparty.any" = some none
  al : PySem.W.ks_superIn K C C "__init__" = some (some (.builtin "Exception.__init__"))
/-- how super().__init__("text") is read, at its places in the text -/
def SupT (msg : Str) (j : Nat) (p0 p1 p2 p3 p4 : Pos) : Prop := ∀ env : Env, ∃ pl : Sem Bool, eval (.Call (.Attribute (.Call (.Name "super" p0) [] [] p1) "__init__" p2) [.Constant (.str msg) j p3] [] p4) env = (do
  let ov ← attributeBase (.Call (.Name "super" p0) [] [] p1) "__init__" env (eval (.Call (.Name "super" p0) [] [] p1) env)
  standAt p2.atName
  let (f, first) ← holding [ov] (getMethod ov "__init__" pl)
  callWith p4 f first (backTo p4 (starEach [.Constant (.str msg) j p3] env)) [])
section
variable {P : Program} {w : World} {K : PySem.W.Frag} {fl : Str} {C : Addr} {qual : Str} {params : Arguments} {body : List Stmt} {scope : Scope} {fI cc cda : Addr} {dV kV doc pm ct : Value} {an : Option Addr}
/-- the first statement of such an __init__ -/
theorem super_step {A : Around} {E : Value → Shared → Prop} {h base : Heap} {g : Array GenState} {d : Drawn} {t : Nat} {os : OsState} {mg m : Str → Option Value} {L e t0 : Addr} {ar : Arg} {msg : Str} {j : Nat} {p0 p1 p2 p3 p4 p5 : Pos} {bd rest : List Stmt} {Q : Flow → Shared → Prop}
    (T : XCls K fl C qual params body scope fI cc cda dV kV doc pm ct an) (X : K.In h) (M : Mod K mg base) (kb : ∀ b o, base.get? b = some o → h.get? b = some o) (hmg : mg "super" = none)
    (hL : h.Ns L m) (hv : m ar.arg = some (.ref e)) (he : h.get? e = some (HandSPX.excO C t0))
    (hp : (params.posonlyargs ++ params.args).head? = some ar) (hk : scope.kind = .function) (hks : scope.names.lookup ("super" : Str) = some .globalImplicit) (hkc : scope.names.lookup ("__class__" : Str) = some .free) (hka : scope.names.lookup ar.arg = some .local)
    (ht : SupT msg j p0 p1 p2 p3 p4) (hfile : P.main.file = fl) (htop : (P.main.scope.names.lookup ("super" : Str)).isSome = false)
    (hq : ∀ h' t' t1, (∀ b o, b ≠ e → h.get? b = some o → h'.get? b = some o) → h'.get? e = some (HandSPX.excO C t1) →
      PySem.wpAt (model P w) A (.func bd (PySem.W.ksEnv qual scope L fI (.ref cda) cc)) (execs rest (PySem.W.ksEnv qual scope L fI (.ref cda) cc)) Q E ⟨h', g, d, t', os⟩) :
    PySem.wpAt (model P w) A (.func bd (PySem.W.ksEnv qual scope L fI (.ref cda) cc)) (execs (.Expr (.Call (.Attribute (.Call (.Name "super" p0) [] [] p1) "__init__" p2) [.Constant (.str msg) j p3] [] p4) p5 :: rest) (PySem.W.ksEnv qual scope L fI (.ref cda) cc)) Q E ⟨h, g, d, t, os⟩ := by
  obtain ⟨oc, od, osl, lk⟩ := T.fn
  obtain ⟨cl, cld, csl, hcell⟩ := T.ce
  obtain ⟨ccl, cdd, ccs, vs, file, tf, hcode, hvs, hf⟩ := T.co
  obtain ⟨nm, N, qn, bs, bm, hdct, sn, sub, ab, col, dd, k0, k1, k2, k3, k5, hC, hT⟩ := PySem.W.excInit_of X T.q
  have I : PySem.W.InstAt h e (HandSPX.excO C t0) C none := ⟨he, rfl, rfl, trivial⟩
  obtain ⟨mb, b1, b2⟩ := M.blt
  obtain ⟨cdC, hcC⟩ : ∃ cd, PySem.W.clsIn K C = some cd := by
    cases hc : PySem.W.clsIn K C with
    | none =>
      have := T.al
      unfold PySem.W.ks_superIn at this
      rw [hc] at this
      cases this
    | some cd => exact ⟨cd, rfl⟩
  obtain ⟨oD, hD1, hD2⟩ : ∃ oD, h.get? C = some oD ∧ oD.data = .cls cdC := by
    have hcC' := hcC
    unfold PySem.W.clsIn at hcC'
    split at hcC'
    · rename_i c d cd' sl ho
      cases hcC'
      exact ⟨_, X _ _ ho, rfl⟩
    · cases hcC'
  have hne : e ≠ C := PySem.W.ks_ne X I hcC
  have hLe : L ≠ e := fun z => by
    obtain ⟨oL, es, ep, h1, h2, _⟩ := hL
    rw [z, he] at h1
    have z2 := Option.some.inj h1
    subst z2
    cases h2
  obtain ⟨pl, htq⟩ := ht (PySem.W.ksEnv qual scope L fI (.ref cda) cc)
  refine PySem.ks_wpAt_execs_cons (PySem.ks_wpAt_Expr_any (PySem.ks_wpAt_MethodCall (pl := pl) ?_ htq) (by show (scope.kind == .module && _) = false; rw [hk]; rfl))
  refine PySem.ks_wpAt_super_base (env := PySem.W.ksEnv qual scope L fI (.ref cda) cc) hks hkc rfl rfl (X _ _ lk) rfl hp rfl (X _ _ hcode) rfl hvs (by rw [hfile]; exact hf) htop ?_
  refine PySem.W.ks_loadName_global hk hks (loadGlobal_builtin (env := PySem.W.ksEnv qual scope L fI (.ref cda) cc) (M.glob.keeps kb) hmg (b1.keeps kb) ((b2 "super" (by decide)).trans (show bootBuiltins "super" = some (.type "super") from Boot.«super»)) ⟨rfl, ?_⟩)
  refine wpAny_loadName_free hk hkc rfl ⟨_, X _ _ hcell, rfl⟩ ?_
  refine wpAny_loadName_local hk hka hL hv ?_
  refine PySem.ks_wpAny_isType_cls hD1 hD2 ⟨rfl, ?_⟩
  refine PySem.ks_wpAny_call_super hD1 hD2 he rfl (fun c z => nomatch z) (PySem.W.looks_mroIn X T.xC) (fun h1 e1 kk1 => ?_)
  have X1 : K.In h1 := X.keeps kk1
  have hmro : PySem.W.Looks (model P w) h1 (mroOf (.ref C)) cdC.mro := fun A Q E s k q => wpAny_bind ((PySem.W.looks_clsIn X1 hcC) A _ E s k (wpAny_pure q))
  have hin : PySem.W.Looks (model P w) h1 (isInstance (.ref e) (.type "Exception")) true := (PySem.W.InstAt.type (M := model P w) (show PySem.W.InstAt h1 e (HandSPX.excO C t0) C none from ⟨kk1 _ _ he, rfl, rfl, trivial⟩)).andThen (PySem.W.looks_subIn X1 T.xE)
  have hal : PySem.W.alongIn K "__init__" ((cdC.mro.dropWhile (· != .ref C)).drop 1) = some (some (.builtin "Exception.__init__")) := by
    have := T.al
    unfold PySem.W.ks_superIn at this
    rw [hcC] at this
    exact this
  refine PySem.ESX.getMethod_super e1 (PySem.W.looks_opaque X1 T.op) hmro rfl X1 hal hne rfl hin ?_
  refine PySem.ESX.callWith_bound (x := e) ?_
  refine spliced_more (Constant_str (spliced_none ?_))
  have kk2 : ∀ b o, h.get? b = some o → (h1.push (PySem.ESX.bw e)).get? b = some o := fun b o z => Heap.get?_push_of_some _ (kk1 b o z)
  refine ⟨Heap.get?_push_at rfl rfl, ?_⟩
  refine PySem.ESX.call_bw (kk2 _ _ hC) (kk2 _ _ he) (Heap.get?_push_at rfl rfl) (by show 1 ≤ sizeLine; rw [sizeLine_eq]; omega) (fun h' t1 kk3 e3 => ?_)
  exact hq h' _ t1 (fun b o hb z => kk3 b o hb (kk2 b o z)) e3
end
end DL
end
section
set_option Elab.async false
set_option linter.all false
set_option maxRecDepth 100000
set_option maxHeartbeats 4000000
namespace DL
open PySem PySem.Spec PyProof.Rows L2
abbrev XFs := List (Str × D)
abbrev DXQ := Addr → XFs → GH → Prop
/-- an error: its class, its attributes -/
def XRep (K : PySem.W.Frag) (F H : Hp) (G : GH) (cls : Value) (d : Option Addr) (C : Addr) (fs : XFs) : Prop :=
  cls = .ref C ∧ ((d = none ∧ fs = []) ∨ ∃ dx vs, d = some dx ∧ H dx = some (.xd vs) ∧ G dx = none ∧ fs ≠ [] ∧ vs.map (·.1) = fs.map (·.1) ∧ Reps K F (vs.map (·.2)) (fs.map (·.2)))
def KpX (K : PySem.W.Frag) (F H : Hp) (G : GH) (σ : L2.St) (E' : DXQ) (W : WX) : Prop := ∀ F' H' G' cls d C fs, Go F H G F' H' G' → Gok K F' H' G' → XRep K F' H' G' cls d C fs → E' C fs G' → W cls d σ H'
def KpXS (K : PySem.W.Frag) (F H : Hp) (G : GH) (E' : DS → DXQ) (W : WX) : Prop := ∀ F' H' σ S G' cls d C fs, Go F H G F' H' G' → Ok K F' H' σ S G' → XRep K F' H' G' cls d C fs → E' S C fs G' → W cls d σ H'
def KpXE (K : PySem.W.Frag) (F H : Hp) (G : GH) (E' : DXQ) (E : XK) : Prop := ∀ F' H' G' cls d C fs, Go F H G F' H' G' → Gok K F' H' G' → XRep K F' H' G' cls d C fs → E' C fs G' → E cls d H'
section
variable {K : PySem.W.Frag} {F H F1 H1 : Hp} {G G1 : GH}
theorem XRep.sub {cls : Value} {d : Option Addr} {C : Addr} {fs : XFs} {G0 : GH} (s : Sub G0 G) (h : XRep K F H G cls d C fs) : XRep K F H G0 cls d C fs := by
  refine ⟨h.1, h.2.imp id ?_⟩
  rintro ⟨dx, vs, h1, h2, h3, h4⟩
  refine ⟨dx, vs, h1, h2, ?_, h4⟩
  cases q : G0 dx with
  | none => rfl
  | some o => rw [s.le dx o q] at h3; cases h3
theorem KpX.mono {σ : L2.St} {E' : DXQ} {W : WX} (e : Go F H G F1 H1 G1) (h : KpX K F H G σ E' W) : KpX K F1 H1 G1 σ E' W := fun F' H' G' cls d C fs a b c q => h F' H' G' cls d C fs (e.trans a) b c q
theorem KpXS.mono {E' : DS → DXQ} {W : WX} (e : Go F H G F1 H1 G1) (h : KpXS K F H G E' W) : KpXS K F1 H1 G1 E' W := fun F' H' σ S G' cls d C fs a b c q => h F' H' σ S G' cls d C fs (e.trans a) b c q
theorem KpXS.at_ {σ : L2.St} {S : DS} {E' : DS → DXQ} {W : WX} (s : Slots K F σ S) (h : KpXS K F H G E' W) : KpX K F H G σ (E' S) W := fun F' H' G' cls d C fs a b c q => h F' H' σ S G' cls d C fs a ⟨b, s.mono a.ex⟩ c q
end
abbrev DTEX := DS → GH → DQ → DXQ → Prop
abbrev DTSX := DEnds → (DS → DXQ) → DS → GH → Prop
structure DEX (X : Cx) (e : Expr) (t' : DTEX) : Prop where
  ex : ∀ W, Takes X W → ∃ t, PE X e t ∧ ∀ F H σ S G, Ok X.K F H σ S G → ∀ Q' E', t' S G Q' E' → ∀ Q, KpE X.K F H G Q' Q → KpX X.K F H G σ E' W → t σ H Q
structure DPX (X : Cx) (st : Stmt) (t' : DTSX) : Prop where
  ex : ∀ W, Takes X W → ∃ t, PS X st t ∧ ∀ F H σ S G, Ok X.K F H σ S G → ∀ D' E', t' D' E' S G → ∀ D0, KpS X.K F H G D' D0 → KpXS X.K F H G E' W → t D0 σ H
structure DPsX (X : Cx) (st : List Stmt) (t' : DTSX) : Prop where
  ex : ∀ W, Takes X W → ∃ t, PSs X st t ∧ ∀ F H σ S G, Ok X.K F H σ S G → ∀ D' E', t' D' E' S G → ∀ D0, KpS X.K F H G D' D0 → KpXS X.K F H G E' W → t D0 σ H
def xE (t : DTE) : DTEX := fun S G Q _ => t S G Q
def xS (t : DTS) : DTSX := fun D' _ S G => t D' S G
section
variable {X : Cx} {pos : Pos}
theorem dpx_of {st : Stmt} {t : DTS} (h : DP X st t) : DPX X st (xS t) := ⟨fun W _ => by
  obtain ⟨t1, p1, r1⟩ := h.ex
  exact ⟨t1, p1, fun F H σ S G o D' E' h D0 k _ => r1 F H σ S G o D' h D0 k⟩⟩
theorem dpsx_of {st : List Stmt} {t : DTS} (h : DPs X st t) : DPsX X st (xS t) := ⟨fun W _ => by
  obtain ⟨t1, p1, r1⟩ := h.ex
  exact ⟨t1, p1, fun F H σ S G o D' E' h D0 k _ => r1 F H σ S G o D' h D0 k⟩⟩
def dSeqX (t u : DTSX) : DTSX := fun D' E' S G => t { D' with nx := u D' E' } E' S G
theorem dpsx_cons {st : Stmt} {rest : List Stmt} {t u : DTSX} (h1 : DPX X st t) (h2 : DPsX X rest u) : DPsX X (st :: rest) (dSeqX t u) := ⟨fun W tk => by
  obtain ⟨t1, p1, r1⟩ := h1.ex W tk
  obtain ⟨t2, p2, r2⟩ := h2.ex W tk
  refine ⟨_, pss_cons p1 p2, fun F H σ S G o D' E' h D0 k kx => ?_⟩
  exact r1 F H σ S G o _ E' h _ ⟨fun F1 H1 σ1 S1 G1 e1 o1 h1 => r2 F1 H1 σ1 S1 G1 o1 _ E' h1 _ (k.mono e1) (kx.mono e1), k.rt, k.bk, k.ct⟩ kx⟩
theorem dpsx_one {st : Stmt} {t : DTSX} (h1 : DPX X st t) : DPsX X [st] t := ⟨fun W tk => by
  obtain ⟨t1, p1, r1⟩ := h1.ex W tk
  exact ⟨_, pss_one p1, r1⟩⟩
theorem dpx_asg {tg e : Expr} {te : DTEX} {g : DTG} (he : DEX X e te) (hg : DG X tg g) (hs : swapsWithSole [tg] e pos.line X.env = pure false := by rfl) (hw : swappedStores [tg] e X.env = pure none := by rfl)
    (h1 : (assignEach [tg] X.env).map (·.2) = [assign tg X.env] := by rfl) : DPX X (.Assign [tg] e pos) (fun D' E' S G => te S G (fun d G1 => g d S G1 D'.nx) (E' S)) := ⟨fun W tk => by
  obtain ⟨t1, p1, r1⟩ := he.ex W tk
  obtain ⟨t2, p2, r2⟩ := hg.ex
  refine ⟨_, ps_asg p1 p2 hs hw h1, fun F H σ S G o D' E' h D0 k kx => ?_⟩
  refine r1 F H σ S G o _ _ h _ (fun F1 H1 v d G1 e1 g1 q1 h1 => ?_) (kx.at_ o.s)
  exact r2 F1 H1 σ S G1 v d (o.go e1 g1) q1 _ h1 _ (k.nx.mono e1)⟩
theorem dpx_if {c : Expr} {a b : List Stmt} {tc : DTT} {t u : DTSX} (hc : DT X c tc) (ha : DPsX X a t) (hb : DPsX X b u) : DPX X (.If c a b pos) (fun D' E' S G => tc S G fun b G1 => if b = true then t D' E' S G1 else u D' E' S G1) := ⟨fun W tk => by
  obtain ⟨t0, p0, r0⟩ := hc.ex
  obtain ⟨t1, p1, r1⟩ := ha.ex W tk
  obtain ⟨t2, p2, r2⟩ := hb.ex W tk
  refine ⟨_, ps_if p0 p1 p2, fun F H σ S G o D' E' h D0 k kx => ?_⟩
  refine r0 F H σ S G o _ h _ fun F1 H1 b G1 e1 g1 h1 => ?_
  cases b with
  | true =>
    rw [if_pos rfl] at h1 ⊢
    exact r1 F1 H1 σ S G1 (o.go e1 g1) D' E' h1 D0 (k.mono e1) (kx.mono e1)
  | false =>
    rw [if_neg Bool.false_ne_true] at h1 ⊢
    exact r2 F1 H1 σ S G1 (o.go e1 g1) D' E' h1 D0 (k.mono e1) (kx.mono e1)⟩
theorem dex_if {c a b : Expr} {tc : DTT} {ta tb : DTEX} (hc : DT X c tc) (ha : DEX X a ta) (hb : DEX X b tb) : DEX X (.IfExp c a b pos) (fun S G Q E => tc S G fun b G1 => if b = true then ta S G1 Q E else tb S G1 Q E) := ⟨fun W tk => by
  obtain ⟨t0, p0, r0⟩ := hc.ex
  obtain ⟨t1, p1, r1⟩ := ha.ex W tk
  obtain ⟨t2, p2, r2⟩ := hb.ex W tk
  refine ⟨_, pe_ifExp p0 p1 p2, fun F H σ S G o Q' E' h Q k kx => ?_⟩
  refine r0 F H σ S G o _ h _ fun F1 H1 b G1 e1 g1 h1 => ?_
  cases b with
  | true =>
    rw [if_pos rfl] at h1 ⊢
    exact r1 F1 H1 σ S G1 (o.go e1 g1) Q' E' h1 Q (k.mono e1) (kx.mono e1)
  | false =>
    rw [if_neg Bool.false_ne_true] at h1 ⊢
    exact r2 F1 H1 σ S G1 (o.go e1 g1) Q' E' h1 Q (k.mono e1) (kx.mono e1)⟩
abbrev SpX := List D → GH → DQ → DXQ → Prop
def SpOfX (K : PySem.W.Frag) (sp : SpX) : Sp := fun vs H Q E => ∃ F G ds Q' E', Gok K F H G ∧ Reps K F vs ds ∧ sp ds G Q' E' ∧ KpE K F H G Q' Q ∧ KpXE K F H G E' E
def finX (E' : DXQ) : DS → DXQ := fun _ C fs G => ∃ G0, Sub G0 G ∧ E' C fs G0
theorem fnX_mk {P : Program} {w : World} {K : PySem.W.Frag} {mg : Str → Option Value} {base : Heap} {x qual : Str} {st : Stmt} {f : Addr} {fd : FuncData} {N ps : List Str} {k : Nat} {sp : SpX} (Fu : Fun K x qual st f fd) (sc : FnScope N ps (defScope st))
    (len : ∀ ds G Q E, sp ds G Q E → ds.length = ps.length)
    (hb : ∀ (cdv : Value) (A : Around) (outer : List Env) (s : Shared) (H : Hp) (E : XK), A.guards = some [] → Room k (A.deeper (envOfC qual (defScope st) s.heap.objs.size f cdv)) →
      ∃ t', DPsX (cxOf (L2.CX P w) P w K mg base N qual (defScope st) f cdv A outer s H E) (defBody st) t' ∧ ∀ ds G Q E', sp ds G Q E' → t' (fin Q) (finX E') (dstart N ds) G) : FnG P w K mg base (L2.CX P w) (k + 1) f fd ps (SpOfX K sp) := by
  obtain ⟨oc, od, kV, doc, pm, an, cdv, ct, osl, rfl, lk, hcd⟩ := Fu.ex
  refine fng_of lk hcd sc (fun vs H Q E h => ?_) (fun A outer s H vs Q E hg hr h => ?_)
  · obtain ⟨F, G, ds, Q', E', g, r, h, _⟩ := h
    rw [r.length]
    exact len ds G Q' E' h
  · obtain ⟨F, G, ds, Q', E', g, r, h, kk, kx⟩ := h
    obtain ⟨t', d, rd⟩ := hb cdv A outer s H E hg hr
    obtain ⟨t, p, rf⟩ := d.ex (fun cls d _ H' => E cls d H') (takes_of rfl rfl rfl rfl)
    refine ⟨t, p, rf F H _ _ G ⟨g, r.start⟩ _ _ (rd ds G Q' E' h) _ ⟨fun F1 H1 σ1 S1 G1 e1 o1 h1 => ?_, fun F1 H1 v d G1 e1 g1 r1 h1 => ?_, fun _ _ _ _ _ _ _ z => z.elim, fun _ _ _ _ _ _ _ z => z.elim⟩ ?_⟩
    · obtain ⟨G0, sb, h1⟩ := h1
      exact kk F1 H1 _ _ G0 (e1.sub sb) (o1.g.sub sb) .non h1
    · obtain ⟨G0, sb, h1⟩ := h1
      exact kk F1 H1 v d G0 (e1.sub sb) (g1.sub sb) r1 h1
    · intro F1 H1 σ1 S1 G1 cls d C fs e1 o1 xr h1
      obtain ⟨G0, sb, h1⟩ := h1
      exact kx F1 H1 G0 cls d C fs (e1.sub sb) (o1.g.sub sb) (xr.sub sb) h1
section
variable {k : Nat} {f C : Addr} {fd : FuncData} {ps : List Str} {sp0 : Sp} {x m : Str} {p apos : Pos} {e o : Expr} {es : List Expr} {t : TA} {ta : TE} {W : WX}
theorem goes_fnS {pins : List (Addr × Obj)} {σ : L2.St} {H : Hp} {s : Shared} {Q : VK} {us ws : List Value} {zs : List V} (F : FnG X.prog X.w X.K X.mg X.base (L2.CX X.prog X.w) k f fd ps sp0) (hA : X.A.guards = some []) (hr : Room k X.A)
    (bd : ∀ s : Shared, X.K.In s.heap → ws.length = ps.length → BindsTo s fd ⟨us, []⟩ (ps.zip ws)) (tk : Takes X W)
    (I : Inv X pins σ H s) (r : Vals zs ws) (h : sp0 zs H Q (WE W σ)) : wpAny (model X.prog X.w) X.A (call (.ref f) us []) (EP X pins σ Q) X.xe s := by
  have many : ws.length = ps.length := r.length ▸ F.many zs H Q _ h
  refine wpAny_call (codeAny_mono (F.goes X.A X.stack s H ⟨us, []⟩ ws zs Q (WE W σ) hA hr I.env0 (bd s I.kIn many) r h) ?_)
  intro res s' z
  match res, z with
  | .error er, z => exact passAt tk σ pins H s er s' I z
  | .ok (.ret u), z => exact I.after z
  | .ok .next, z => exact z.elim
  | .ok .brk, z => exact z.elim
  | .ok .cont, z => exact z.elim
theorem pg_callS (F : FnG X.prog X.w X.K X.mg X.base (L2.CX X.prog X.w) k f fd ps sp0) (hA : X.A.guards = some []) (hr : Room k X.A) (hg : Gl X x) (hm : X.mg x = some (.ref f)) (hk : PySem.W.keepIn X.K (.ref f) = true) (hb : Binds X.K fd ps []) (tk : Takes X W)
    (ha : PA X (e :: es) t) (hdb : (x == ("__debug__" : Str)) = false) (he : starEach (e :: es) X.env = (false, eval e X.env) :: starEach es X.env) (hpl : (backTo pos (starEach es X.env)).any (·.1) = false) :
    PE X (.Call (.Name x p) (e :: es) [] pos) (fun σ H Q => t σ H fun vs H1 => sp0 vs H1 Q (WE W σ)) := by
  constructor
  intro pins s σ H Q I h
  apply wpAny_Call_Name_kw
  refine ld_glob I hg hm ?_ hdb
  refine PySem.W.callWith_K (h₀ := X.base) I.ok.mod.kin hk (thn (ha.run pos pins s σ H _ I h) ?_) he hpl
  rintro us s1 ⟨vs, H1, I1, r, q⟩
  exact ⟨I1.kIn, goes_fnS F hA hr (fun s2 i l => by simpa using hb s2 us i (by simpa using l)) tk I1 r q⟩
end
structure CalX (P : Program) (w : World) (K : PySem.W.Frag) (mg : Str → Option Value) (base : Heap) (x : Str) (k : Nat) (ps : List Str) (sp : SpX) : Prop where
  ex : ∃ f fd, FnG P w K mg base (L2.CX P w) k f fd ps (SpOfX K sp) ∧ mg x = some (.ref f) ∧ PySem.W.keepIn K (.ref f) = true ∧ Binds K fd ps []
theorem calX_mk {P : Program} {w : World} {K : PySem.W.Frag} {mg : Str → Option Value} {base : Heap} {x : Str} {st : Stmt} {N ps : List Str} {k : Nat} {sp : SpX} (d : Def K mg x st) (sc : FnScope N ps (defScope st)) (len : ∀ ds G Q E, sp ds G Q E → ds.length = ps.length)
    (bi : ∀ (kV doc pm : Value) (an : Option Addr) (cdv ct : Value) (us : List Value), us.length = ps.length → bindArgs (PySem.W.fnOf x x (defArgs st) (defBody st) (defScope st) .none kV doc pm an cdv ct) ⟨us, []⟩ = pure (ps.zip us))
    (hb : ∀ (f : Addr) (cdv : Value) (A : Around) (outer : List Env) (s : Shared) (H : Hp) (E : XK), A.guards = some [] → Room k (A.deeper (envOfC x (defScope st) s.heap.objs.size f cdv)) →
      ∃ t', DPsX (cxOf (L2.CX P w) P w K mg base N x (defScope st) f cdv A outer s H E) (defBody st) t' ∧ ∀ ds G Q E', sp ds G Q E' → t' (fin Q) (finX E') (dstart N ds) G) : CalX P w K mg base x (k + 1) ps sp := by
  obtain ⟨f, fd, Fu, hm⟩ := d.ex
  exact ⟨f, fd, fnX_mk Fu sc len (hb f), hm, Fu.kp, Fu.binds bi⟩
theorem dex_cal {x : Str} {k : Nat} {ps : List Str} {sp : SpX} {p : Pos} {e : Expr} {es : List Expr} {ta : DTA} (c : CalX X.prog X.w X.K X.mg X.base x k ps sp) (hA : X.A.guards = some []) (hr : Room k X.A) (ha : DA X (e :: es) ta) (hg : Gl X x := by rfl) (hdb : (x == ("__debug__" : Str)) = false := by decide)
    (he : starEach (e :: es) X.env = (false, eval e X.env) :: starEach es X.env := by rfl) (hpl : (backTo pos (starEach es X.env)).any (·.1) = false := by rfl) : DEX X (.Call (.Name x p) (e :: es) [] pos) (fun S G Q E => ta S G fun ds G1 => sp ds G1 Q E) := ⟨fun W tk => by
  obtain ⟨f, fd, Fn, hm, hk, hb⟩ := c.ex
  obtain ⟨t1, p1, r1⟩ := ha.ex
  refine ⟨_, pg_callS Fn hA hr hg hm hk hb tk p1 hdb he hpl, fun F H σ S G o Q' E' h Q k kx => ?_⟩
  refine r1 F H σ S G o _ h _ fun F1 H1 vs ds G1 e1 g1 q1 h1 => ?_
  exact ⟨F1, G1, ds, Q', E', g1, q1, h1, k.mono e1, fun F' H' G' cls d C fs a b c q => kx F' H' G' cls d C fs (e1.trans a) b c q⟩⟩
end
end DL
namespace DL
open PySem PySem.Spec PyProof.Rows L2
end DL
end
section
set_option Elab.async false
set_option linter.all false
set_option maxRecDepth 100000
set_option maxHeartbeats 4000000
namespace DL
open PySem PySem.Spec PyProof.Rows L2
/-- in a suite: what is known of the error stands beside the state -/
structure DEE (X : Cx) (xr : Hp → Hp → GH → Prop) (e : Expr) (t' : DTE) : Prop where
  ex : ∃ t, PE X e t ∧ ∀ F H σ S G, Ok X.K F H σ S G → xr F H G → ∀ Q', t' S G Q' → ∀ Q, KpE X.K F H G Q' Q → t σ H Q
structure DAE (X : Cx) (xr : Hp → Hp → GH → Prop) (es : List Expr) (t' : DTA) : Prop where
  ex : ∃ t, PA X es t ∧ ∀ F H σ S G, Ok X.K F H σ S G → xr F H G → ∀ Q', t' S G Q' → ∀ Q, KpA X.K F H G Q' Q → t σ H Q
structure DPsE (X : Cx) (xr : Hp → Hp → GH → Prop) (st : List Stmt) (t' : DTS) : Prop where
  ex : ∃ t, PSs X st t ∧ ∀ F H σ S G, Ok X.K F H σ S G → xr F H G → ∀ D', t' D' S G → ∀ D0, KpS X.K F H G D' D0 → t D0 σ H
def Keeps (xr : Hp → Hp → GH → Prop) : Prop := ∀ F H G F' H' G', Go F H G F' H' G' → xr F H G → xr F' H' G'
theorem xrep_keeps {K : PySem.W.Frag} {cls : Value} {d : Option Addr} {C : Addr} {fs : XFs} : Keeps (fun F H G => XRep K F H G cls d C fs) := fun F H G F' H' G' e h => by
  refine ⟨h.1, h.2.imp id ?_⟩
  rintro ⟨dx, vs, h1, h2, h3, h0, h4, h5⟩
  obtain ⟨a, b⟩ := e.fr dx _ h2 h3
  exact ⟨dx, vs, h1, a, b, h0, h4, h5.mono e.ex⟩
section
variable {X : Cx} {xr : Hp → Hp → GH → Prop} {pos : Pos}
theorem dee_of {e : Expr} {t : DTE} (h : DE X e t) : DEE X xr e t := by
  obtain ⟨t1, p1, r1⟩ := h.ex
  exact ⟨t1, p1, fun F H σ S G o _ Q' h Q k => r1 F H σ S G o Q' h Q k⟩
theorem dae_nil : DAE X xr [] dNil := ⟨_, pa_nil, fun F H σ S G o _ Q' h Q k => k F H [] [] G Go.refl o.g .nil h⟩
theorem dae_cons {e : Expr} {es : List Expr} {ta : DTE} {tr : DTA} (kp : Keeps xr) (ha : DEE X xr e ta) (hr : DAE X xr es tr) (hs : starEach (e :: es) X.env = (false, eval e X.env) :: starEach es X.env := by rfl) : DAE X xr (e :: es) (dCons ta tr) := by
  obtain ⟨t1, p1, r1⟩ := ha.ex
  obtain ⟨t2, p2, r2⟩ := hr.ex
  refine ⟨_, pa_cons p1 p2 hs, fun F H σ S G o x Q' h Q k => ?_⟩
  refine r1 F H σ S G o x _ h _ fun F1 H1 v d G1 e1 g1 q1 h1 => ?_
  refine r2 F1 H1 σ S G1 (o.go e1 g1) (kp _ _ _ _ _ _ e1 x) _ h1 _ fun F2 H2 vs ds G2 e2 g2 q2 h2 => ?_
  exact k F2 H2 _ _ G2 (e1.trans e2) g2 (.cons (q1.mono e2.ex) q2) h2
theorem dee_lst {es : List Expr} {ta : DTA} (h : DAE X xr es ta) : DEE X xr (.List es pos) (dLst ta) := by
  obtain ⟨t, p, r⟩ := h.ex
  refine ⟨_, pe_lst p, fun F H σ S G o x Q' h Q k => ?_⟩
  refine r F H σ S G o x _ h _ fun F1 H1 vs ds G1 e1 g1 q1 h1 => ?_
  refine ⟨q1.length ▸ h1.1, fun p hp => ?_⟩
  have gr : Gr F1 H1 (upd F1 p (.lst vs)) (upd H1 p (.lst vs)) := Gr.new g1.ex hp
  exact k _ _ _ _ G1 (e1.trans gr.go) (g1.grow gr) (.lst upd_same (q1.mono gr.ff)) h1.2
theorem dpse_asg {tg e : Expr} {te : DTE} {g : DTG} (he : DEE X xr e te) (hg : DG X tg g) (hs : swapsWithSole [tg] e pos.line X.env = pure false := by rfl) (hw : swappedStores [tg] e X.env = pure none := by rfl)
    (h1 : (assignEach [tg] X.env).map (·.2) = [assign tg X.env] := by rfl) : DPsE X xr [.Assign [tg] e pos] (dAsg te g) := by
  obtain ⟨t1, p1, r1⟩ := he.ex
  obtain ⟨t2, p2, r2⟩ := hg.ex
  refine ⟨_, pss_one (ps_asg p1 p2 hs hw h1), fun F H σ S G o x D' h D0 k => ?_⟩
  refine r1 F H σ S G o x _ h _ fun F1 H1 v d G1 e1 g1 q1 h1 => ?_
  exact r2 F1 H1 σ S G1 v d (o.go e1 g1) q1 _ h1 _ (k.nx.mono e1)
def dTryAs (K : PySem.W.Frag) (C : Addr) (i : Nat) (tb : DTSX) (ts : Addr → XFs → Addr → DTS) : DTS := fun D' S G => tb D' (fun S1 C1 fs G1 => PySem.W.exmOne K (.ref C1) (.ref C) = some true ∧
  ∀ a, ts C1 fs a { nx := fun S2 G2 => D'.nx (S2.set i none) G2, rt := D'.rt, bk := fun S2 G2 => D'.bk (S2.set i none) G2, ct := fun S2 G2 => D'.ct (S2.set i none) G2 } (S1.set i (some (.rf a))) G1) S G
theorem dp_try_as {x n : Str} {C : Addr} {i : Nat} {body suite : List Stmt} {b₀ : Stmt} {np pos' : Pos} {tb : DTSX} {ts : Addr → XFs → Addr → DTS} (hx : ∀ e s, X.xe e s ↔ False) (hs : X.stack = X.env :: X.outer) (hf : X.env.frame = some X.env.locals) (hN : X.N.Nodup) (hi : X.N[i]? = some n) (hln : X.env.kindOf n = some .local)
    (hg : Gl X x) (hm : X.mg x = some (.ref C)) (hdb : (x == ("__debug__" : Str)) = false)
    (hb : ∀ (pn : List (Addr × Obj)) (xe : Value → Shared → Prop), DPsX (X.tr pn xe) body tb)
    (hsu : ∀ (a : Addr) (oe : Obj) (d : Option Addr) (pn : List (Addr × Obj)) (C1 : Addr) (fs : XFs), Zc (.ref C1) d oe → (∃ vs, oe.data = .fields vs) → DPsE (X.suite a ((a, oe) :: pn)) (fun F H G => XRep X.K F H G (.ref C1) d C1 fs) (b₀ :: suite) (ts C1 fs a)) :
    DP X (.Try body [.ExceptHandler (some (.Name x np)) (some n) (b₀ :: suite) pos'] [] [] pos) (dTryAs X.K C i tb ts) := by
  have tk : Takes X (fun _ _ _ _ => False) := fun u s' ⟨_, _, _, _, _, _, _, _, _, _, _, _, _, _, _, _, z⟩ => z.elim
  refine ⟨_, ps_try_as (c := .ref C) (i := i) (tb := fun W D σ H => ∀ pn xe, Takes (X.tr pn xe) W → PassesOwn (model X.prog X.w) X.A X.env xe → ∃ t, PSs (X.tr pn xe) body t ∧ t D σ H)
    (ts := fun a cls d D σ H => ∀ oe pn, Zc cls d oe → (∃ vs, oe.data = .fields vs) → ∃ t, PSs (X.suite a ((a, oe) :: pn)) (b₀ :: suite) t ∧ t D σ H) (Wout := fun _ _ _ _ => False) hs hf hN hi hln ⟨hg, hdb, .inl hm⟩ tk
    (fun W pn xe tkw pw => ⟨fun pins s σ H D I h => ?_⟩) (fun a oe cls d pn hz hv => ⟨fun pins s σ H D I h => ?_⟩), fun F H σ S G o D' h D0 k => ?_⟩
  · obtain ⟨t, p, q⟩ := h pn xe tkw pw
    exact p.run pins s σ H D I q
  · obtain ⟨t, p, q⟩ := h oe pn hz hv
    exact p.run pins s σ H D I q
  · intro pn xe tkw pw
    obtain ⟨t, p, r⟩ := (hb pn xe).ex _ tkw
    refine ⟨t, p, r F H σ S G o D' _ h D0 k ?_⟩
    intro F1 H1 σ1 S1 G1 cls d C1 fs e1 o1 xr hE
    obtain ⟨hb1, hE⟩ := hE
    have hc := xr.1
    subst hc
    refine ⟨true, hb1, fun _ a na => ?_, fun z => by cases z⟩
    intro oe pn2 hz hv
    obtain ⟨t2, p2, r2⟩ := (hsu a oe d pn2 C1 fs hz hv).ex
    refine ⟨t2, p2, r2 F1 H1 _ (S1.set i (some (.rf a))) G1 ⟨o1.g, o1.s.set (.rf a) i⟩ xr _ (hE a) _ ⟨?_, k.rt.mono e1, ?_, ?_⟩⟩
    · exact fun F2 H2 σ2 S2 G2 e2 o2 h2 => k.nx F2 H2 _ _ G2 (e1.trans e2) ⟨o2.g, o2.s.setN none i⟩ h2
    · exact fun F2 H2 σ2 S2 G2 e2 o2 h2 => k.bk F2 H2 _ _ G2 (e1.trans e2) ⟨o2.g, o2.s.setN none i⟩ h2
    · exact fun F2 H2 σ2 S2 G2 e2 o2 h2 => k.ct F2 H2 _ _ G2 (e1.trans e2) ⟨o2.g, o2.s.setN none i⟩ h2
end
end DL
end
section
set_option Elab.async false
set_option linter.all false
set_option maxRecDepth 100000
set_option maxHeartbeats 4000000
namespace DL
open PySem PySem.Spec PyProof.Rows L2
abbrev FnX : Type := Option (Str × Str × Arguments × FuncBody × Scope × Addr × List Str × Addr)
def fnXo (K : PySem.W.Frag) (a : Addr) : FnX := match K.lookup a with
  | some ⟨_, _, .func fd, _⟩ => some (fd.name, fd.qualname, fd.params, fd.body, fd.scope, fd.globals, fd.closure.map (·.1), fd.builtins)
  | _ => none
/-- the __init__ of an own error -/
structure ErrD where
  cls : Str
  qual : Str
  params : Arguments
  body : List Stmt
  scope : Scope
def ErrD.val (d : ErrD) : FnX := some ("__init__", d.qual, d.params, .stmts d.body, d.scope, mainGlobals, ["__class__"], builtinsNs)
def eI (K : PySem.W.Frag) (x : Str) : Addr := He.ma K (He.ga K x) "__init__"
def fnVal (d : He.DefD) : FnX := some (d.name, d.qual, d.params, .stmts d.body, d.scope, mainGlobals, [], builtinsNs)
theorem fnVal_ok {K : PySem.W.Frag} {a : Addr} {d : He.DefD} (h : fnXo K a = fnVal d) : fnA K a = d.val := by
  unfold fnXo at h
  unfold fnA
  cases q : K.lookup a with
  | none => rw [q] at h; cases h
  | some o =>
    obtain ⟨oc, od, dt, osl⟩ := o
    rw [q] at h
    cases dt with
    | func fd =>
      obtain ⟨n1, n2, n3, n4, n5, n6, n7, n8, n9, n10, n11, n12, n13, n14, n15⟩ := fd
      have e2 : (some (n1, n2, n3, n4, n5, n6, n7.map (·.1), n15) : FnX) = some (d.name, d.qual, d.params, .stmts d.body, d.scope, mainGlobals, [], builtinsNs) := h
      simp only [Option.some.injEq, Prod.mk.injEq, List.map_eq_nil_iff] at e2
      obtain ⟨h1, h2, h3, h4, h5, h6, h7, h8⟩ := e2
      subst h1 h2 h3 h4 h5 h6 h7 h8
      rfl
    | _ => cases h
def okC (K : PySem.W.Frag) (fl : Str) (C : Addr) (fI : Addr) : Bool := match K.lookup fI with
  | some ⟨_, _, .func fd, _⟩ => (match fd.closure, fd.code, fd.defaults with
    | [(_, cc)], .ref cda, .none => (match K.lookup cc with
        | some ⟨_, _, .cell (some (.ref C')), _⟩ => decide (C' = C)
        | _ => false) && ((match K.lookup cda with
        | some ⟨_, _, .fields vs, _⟩ => (match (vs[2]? : Option Value) with
          | some (Value.str file _) => fl == file
          | _ => false)
        | _ => false) && PySem.W.codeIn K (.ref cda) fd.qualname)
    | _, _, _ => false)
  | _ => false
def errB (K : PySem.W.Frag) (fl x : Str) : Bool :=
  PySem.W.excInitIn K (He.ga K x) exTl "Exception.__new__" && (PySem.W.keepIn K (.ref (He.ga K x)) && (He.eqO (PySem.W.findIn K (.ref (He.ga K x)) "__init__") (some (some (.ref (eI K x)))) && (okC K fl (He.ga K x) (eI K x) &&
  (decide (PySem.W.typeIn K (.ref (eI K x)) = some (.type "function")) && (decide (PySem.W.subIn K (.ref (He.ga K x)) (.type "BaseException") = some true) && (decide (PySem.W.typeIn K (.ref (He.ga K x)) = some (.type "type")) &&
  (decide (PySem.W.subIn K (.ref (He.ga K x)) (.type "Exception") = some true) && (decide (PySem.W.mroIn K (He.ga K x) (.ref (He.ga K x)) = some true) && (He.eqO (PySem.W.nsIn K mainGlobals "super") (some none) &&
  (He.eqO (PySem.W.nsIn K cStatics "thirdparty.any") (some none) && He.eqO (PySem.W.ks_superIn K (He.ga K x) (He.ga K x) "__init__") (some (some (.builtin "Exception.__init__")))))))))))))
theorem err_ok {K : PySem.W.Frag} {fl : Str} {d : ErrD} (hb : errB K fl d.cls = true) (hv : fnXo K (eI K d.cls) = d.val) : ∃ cc cda kV doc pm ct an, XCls K fl (He.ga K d.cls) d.qual d.params d.body d.scope (eI K d.cls) cc cda .none kV doc pm ct an := by
  unfold errB at hb
  simp only [Bool.and_eq_true, decide_eq_true_eq] at hb
  obtain ⟨h1, h2, h3, h4, h5, h6, h7, h8, h9, h10, h11, h12⟩ := hb
  unfold okC at h4
  unfold fnXo at hv
  cases q : K.lookup (eI K d.cls) with
  | none => rw [q] at hv; cases hv
  | some o =>
    obtain ⟨oc, od, dt, osl⟩ := o
    rw [q] at h4 hv
    cases dt with
    | func fd =>
      obtain ⟨n1, n2, n3, n4, n5, n6, n7, n8, n9, n10, n11, n12, n13, n14, n15⟩ := fd
      have e2 : (some (n1, n2, n3, n4, n5, n6, n7.map (·.1), n15) : FnX) = (some ("__init__", d.qual, d.params, FuncBody.stmts d.body, d.scope, mainGlobals, ["__class__"], builtinsNs) : FnX) := hv
      simp only [Option.some.injEq, Prod.mk.injEq] at e2
      obtain ⟨z1, z2, z3, z4, z5, z6, z7, z8⟩ := e2
      subst z1 z2 z3 z4 z5 z6 z8
      dsimp only at h4
      split at h4
      · rename_i c0 cc cda
        have z7' : c0 = "__class__" := by simpa using z7
        subst z7'
        simp only [Bool.and_eq_true] at h4
        obtain ⟨k1, k2, k3⟩ := h4
        refine ⟨cc, cda, n9, n10, n11, n14, n12, ⟨h1, h2, He.eqO_ok h3, ⟨_, _, _, q⟩, h5, ?_, ?_, k3, h6, h7, h8, h9, He.eqO_ok h10, He.eqO_ok h11, He.eqO_ok h12⟩⟩
        · split at k1
          · rename_i C' e
            simp only [decide_eq_true_eq] at k1
            subst k1
            exact ⟨_, _, _, e⟩
          · cases k1
        · split at k2
          · rename_i vs e
            split at k2
            · rename_i file tf e5
              exact ⟨_, _, _, _, _, _, e, e5, k2⟩
            · cases k2
          · cases k2
      · cases h4
    | _ => cases hv
/-- an own error as the parts know it -/
structure ErrC (P : Program) (K : PySem.W.Frag) (mg : Str → Option Value) (C : Addr) (x qual : Str) (st : Stmt) : Prop where
  ex : ∃ fI cc cda kV doc pm ct an, XCls K P.main.file C qual (defArgs st) (defBody st) (defScope st) fI cc cda .none kV doc pm ct an
  mg_ : mg x = some (.ref C)
  su : mg "super" = none
  top : (P.main.scope.names.lookup ("super" : Str)).isSome = false
def excCB (K : PySem.W.Frag) (C : Addr) : Bool := He.eqO (PySem.W.findIn K (.ref C) "__getattribute__") (some (some (.builtin "BaseException.__getattribute__"))) && (He.eqO (PySem.W.findIn K (.ref C) "__getattr__") (some none) &&
  (decide (PySem.W.subIn K (.ref C) (.type "BaseException") = some true) && (PySem.W.hasDictIn K C && (He.eqO (PySem.W.findIn K (.ref C) "__class__") (some (some (.builtin "object.__class__"))) &&
  (He.eqO (PySem.W.specialIn K (.builtin "object.__class__") "__get__") (some (some (.builtin "getset_descriptor.__get__"))) && (decide (PySem.W.takesIn K (.builtin "object.__class__") = some true) && decide (PySem.W.mroIn K C (.type "object") = some true)))))))
theorem excCB_ok {K : PySem.W.Frag} {C : Addr} (h : excCB K C = true) : ExcC K C := by
  unfold excCB at h
  simp only [Bool.and_eq_true, decide_eq_true_eq] at h
  obtain ⟨h1, h2, h3, h4, h5, h6, h7, h8⟩ := h
  exact ⟨He.eqO_ok h1, He.eqO_ok h2, h3, h4, He.eqO_ok h5, He.eqO_ok h6, h7, h8⟩
/-- the error at C, and CE above it -/
structure IsE (K : PySem.W.Frag) (C CE : Addr) : Prop where
  c : ExcC K C
  k : PySem.W.kitOne K (.ref C) (.ref CE) = some true
  m : PySem.W.exmOne K (.ref C) (.ref C) = some true
def isEB (K : PySem.W.Frag) (C CE : Addr) : Bool := excCB K C && (decide (PySem.W.kitOne K (.ref C) (.ref CE) = some true) && decide (PySem.W.exmOne K (.ref C) (.ref C) = some true))
theorem isEB_ok {K : PySem.W.Frag} {C CE : Addr} (h : isEB K C CE = true) : IsE K C CE := by
  unfold isEB at h
  simp only [Bool.and_eq_true, decide_eq_true_eq] at h
  exact ⟨excCB_ok h.1, h.2.1, h.2.2⟩
abbrev AlX : Type := AlE × List FnX
abbrev YsX : Type := List ((PySem.W.Frag → Addr) × FnX)
def obsX (fa : List He.Fa) (fn : List He.DefD) (ex : PySem.W.Frag → Bool) (ys : YsX) (K : PySem.W.Frag) : AlX := (obsE fa fn ex K, ys.map fun p => fnXo K (p.1 K))
theorem ysX {K : PySem.W.Frag} {ys : YsX} (h : (ys.map fun p => fnXo K (p.1 K)) = ys.map Prod.snd) (i : Nat) {p : (PySem.W.Frag → Addr) × FnX} (e : ys[i]? = some p) : fnXo K (p.1 K) = p.2 := by
  have e2 : (ys.map fun p => fnXo K (p.1 K))[i]? = (ys.map Prod.snd)[i]? := by rw [h]
  rw [List.getElem?_map, List.getElem?_map, e] at e2
  exact Option.some.inj e2
end DL
end
section
set_option Elab.async false
set_option linter.all false
set_option maxRecDepth 100000
set_option maxHeartbeats 4000000
namespace DL
open PySem PySem.Spec PyProof.Rows L2 PySem.Calls
/-- own classes, then Exception's own line -/
def refsX : List Value → Bool
  | .ref _ :: r => refsX r
  | l => l == exTl
theorem refsX_cases : ∀ l : List Value, refsX l = true → (∃ c r, l = .ref c :: r ∧ refsX r = true) ∨ l = exTl
  | [], e => .inr (beq_iff_eq.mp e)
  | .ref c :: r, e => .inl ⟨c, r, rfl, e⟩
  | .none :: _, e => .inr (beq_iff_eq.mp e)
  | .ellipsis :: _, e => .inr (beq_iff_eq.mp e)
  | .notImplemented :: _, e => .inr (beq_iff_eq.mp e)
  | .bool _ :: _, e => .inr (beq_iff_eq.mp e)
  | .int _ _ :: _, e => .inr (beq_iff_eq.mp e)
  | .float _ _ :: _, e => .inr (beq_iff_eq.mp e)
  | .str _ _ :: _, e => .inr (beq_iff_eq.mp e)
  | .bytes _ _ :: _, e => .inr (beq_iff_eq.mp e)
  | .type _ :: _, e => .inr (beq_iff_eq.mp e)
  | .builtin _ :: _, e => .inr (beq_iff_eq.mp e)
section
open Builtin Builtin.ObjectAttr
theorem refsX_pass (self : Value) : ∀ l : List Value, refsX l = true → refuseLoop self "__setattr__" l = pure () := by
  intro l
  induction l with
  | nil => intro e; exact absurd e (by decide)
  | cons a r ih =>
    intro e
    rcases refsX_cases (a :: r) e with ⟨c, r', q, h⟩ | q
    · obtain ⟨rfl, rfl⟩ := List.cons.inj q
      rw [refuseLoop_ref]; exact ih h
    · rw [q]; exact F.store_Exception.passes self
end
theorem refsX_contains (X : String) : ∀ l : List Value, refsX l = true → l.contains (.type X) = exTl.contains (.type X) := by
  intro l
  induction l with
  | nil => intro e; exact absurd e (by decide)
  | cons a r ih =>
    intro e
    rcases refsX_cases (a :: r) e with ⟨c, r', q, h⟩ | q
    · obtain ⟨rfl, rfl⟩ := List.cons.inj q
      rw [List.contains_cons, ih h]; rfl
    · rw [q]
theorem refsX_ne {l : List Value} (e : refsX l = true) : l.isEmpty = false := by
  cases l with
  | nil => exact absurd e (by decide)
  | cons _ _ => rfl
/-- what is asked of the class for its attribute f to be stored -/
structure XAtt (K : PySem.W.Frag) (C : Addr) (f : Str) : Prop where
  cd : ∃ cd, PySem.W.clsIn K C = some cd ∧ refsX cd.mro = true ∧ cd.hasDict = true
  sa : PySem.W.findIn K (.ref C) "__setattr__" = some (some (.builtin "object.__setattr__"))
  no : PySem.W.findIn K (.ref C) f = some none
def xattB (K : PySem.W.Frag) (C : Addr) (f : Str) : Bool := (match PySem.W.clsIn K C with
  | some cd => refsX cd.mro && cd.hasDict
  | none => false) && (He.eqO (PySem.W.findIn K (.ref C) "__setattr__") (some (some (.builtin "object.__setattr__"))) && He.eqO (PySem.W.findIn K (.ref C) f) (some none))
theorem xattB_ok {K : PySem.W.Frag} {C : Addr} {f : Str} (h : xattB K C f = true) : XAtt K C f := by
  unfold xattB at h
  simp only [Bool.and_eq_true] at h
  obtain ⟨h1, h2, h3⟩ := h
  refine ⟨?_, He.eqO_ok h2, He.eqO_ok h3⟩
  split at h1
  · rename_i cd e
    simp only [Bool.and_eq_true] at h1
    exact ⟨cd, e, h1.1, h1.2⟩
  · cases h1
section
open Builtin Builtin.ObjectAttr
variable {prog : Program} {w : World} {A : Around} {E : Value → Shared → Prop} {R : Result → Shared → Prop} {hp : Heap} {g : Array GenState} {d : Drawn} {t : Nat} {os : OsState}
theorem osaX {K : PySem.W.Frag} {name : Str} {tk : Tok} {v : Value} {x C : Addr} {fv : Array Value} {cd : ClassData}
    (X : K.In hp) (hx : hp.get? x = some { cls := .ref C, data := .fields fv }) (hcd : PySem.W.clsIn K C = some cd) (hm : refsX cd.mro = true) (hh : cd.hasDict = true) (ha : PySem.W.findIn K (.ref C) name = some none)
    (hq : ∀ h' tk' dx, (∀ b o, b ≠ x → hp.get? b = some o → h'.get? b = some o) → hp.objs.size ≤ dx → dx ≠ x → h'.get? x = some { cls := .ref C, dict := some dx, data := .fields fv } →
      h'.Ns1 dx (fun y => if y = name then some v else none) → R (.ok (.ret .none)) ⟨h', g, d, tk', os⟩) :
    codeAny (model prog w) A (.call (.builtin "object.__setattr__") ⟨[.ref x, .str name tk, v], []⟩) R ⟨hp, g, d, t, os⟩ := by
  have I : PySem.W.InstAt hp x { cls := .ref C, data := .fields fv } C none := ⟨hx, rfl, rfl, trivial⟩
  have SF := F.store_object
  have ne := refsX_ne hm
  have hob : cd.mro.contains (.type "object") = true := (refsX_contains "object" _ hm).trans (by decide +kernel)
  have hxs : x ≠ hp.objs.size := Nat.ne_of_lt (Heap.lt_size hx)
  have sub : PySem.W.Looks (model prog w) hp (isInstance (.ref x) (.type "object")) true := I.type.andThen (PySem.W.looks_mroIn X (by unfold PySem.W.mroIn; rw [hcd, Option.bind_some, if_neg (by rw [ne]; decide), hob]))
  refine codeAny_call_builtin SF.slot.plain SF.entry (@PySem.W.check_slot (model prog w) _ _ ⟨hp, g, d, t, os⟩ "object.__setattr__" "object" "__setattr__" (.ref x) [.str name tk, v] [] _ SF.kind SF.split sub (SF.args (.ref x) (.str name tk) v) ?_)
  have hmr : PySem.W.Looks (model prog w) hp (mroOf (.ref C)) cd.mro := (PySem.W.looks_clsIn X hcd).andThen .now
  have L3 : PySem.W.Looks (model prog w) hp (storeTaker? none) none := .now
  have hcls : PySem.W.Looks (model prog w) hp (classData C) cd := PySem.W.looks_clsIn X hcd
  rw [PySem.W.osa_eq, refuse_eq]
  refine wpAny_bind (wpAny_bind (I.type.at (wpAny_bind (hmr.at ?_))))
  rw [refsX_pass _ _ hm]
  refine wpAny_pure (wpAny_bind (I.type.at (wpAny_bind ((PySem.W.looks_findIn X ha).at (wpAny_bind (L3.at ?_))))))
  show wpAny _ _ (storeInOwnDict (.ref x) (.ref C) (.str name tk) name v false) _ _ _
  obtain ⟨nm, bs, mro, ns, qn, hd, sn, sb, ab, col, del⟩ := cd
  dsimp only at hh
  subst hh
  unfold storeInOwnDict ownDictForStores
  repeat (first | with_reducible refine HandSPX.store_in_new ?_ ?_ | with_reducible refine wpAny_loadPart_at hx ?_ | with_reducible refine hcls.at ?_ | wp_step)
  · exact ⟨_, #[], _, (Heap.get?_update_ne _ _ _ _ hxs.symm).trans (Heap.get?_push_at rfl rfl), rfl, fun e he => absurd he (by simp), fun _ => rfl⟩
  · intro h' tk' hn' hs
    have hx₁ : (hp.push { cls := .type "dict", data := .dict #[] }).get? x = some { cls := .ref C, data := .fields fv } := Heap.get?_push_of_some _ hx
    refine hq h' tk' hp.objs.size (fun b o hb ho => ?_) (Nat.le_refl _) hxs.symm ?_ hn'
    · exact (hs.2 b (Nat.ne_of_lt (Heap.lt_size ho))).trans ((Heap.get?_update_ne _ _ _ _ hb).trans (Heap.get?_push_of_some _ ho))
    · exact (hs.2 x hxs).trans (Heap.get?_update_self _ hx₁ rfl)
end
section
variable {P : Program} {w : World} {K : PySem.W.Frag} {fl : Str} {C : Addr} {qual : Str} {params : Arguments} {body : List Stmt} {scope : Scope} {fI cc cda : Addr} {dV kV doc pm ct : Value} {an : Option Addr}
/-- such an __init__ with one store: self.f = x -/
theorem init_runs1 {A : Around} {R : Result → Shared → Prop} {h base : Heap} {g : Array GenState} {d : Drawn} {t : Nat} {os : OsState} {mg : Str → Option Value} {e t0 : Addr} {ar : Arg} {msg f x : Str} {j : Nat} {p0 p1 p2 p3 p4 p5 q0 q1 q2 q3 : Pos} {us : List Value} {u : Value} {binds : List (Str × Value)}
    (T : XCls K fl C qual params body scope fI cc cda dV kV doc pm ct an) (TA : XAtt K C f)
    (hbody : body = [.Expr (.Call (.Attribute (.Call (.Name "super" p0) [] [] p1) "__init__" p2) [.Constant (.str msg) j p3] [] p4) p5, .Assign [.Attribute (.Name ar.arg q0) f q1] (.Name x q2) q3]) (X : K.In h) (M : Mod K mg base) (kb : ∀ b o, base.get? b = some o → h.get? b = some o) (hmg : mg "super" = none)
    (he : h.get? e = some (HandSPX.excO C t0)) (hKe : K.lookup e = none) (hd : A.depth < recursionLimit)
    (hb : ∀ (s : Shared) (oc : Value), BindsTo s (PySem.W.fnX "__init__" qual params body scope [("__class__", cc)] dV kV doc pm an (.ref cda) ct) ⟨.ref e :: us, []⟩ binds) (hloc : ∀ y ∈ binds, scope.names.lookup y.1 = some .local) (hself : binds.reverse.lookup ar.arg = some (.ref e)) (hx : binds.reverse.lookup x = some u)
    (hp : (params.posonlyargs ++ params.args).head? = some ar) (hk : scope.kind = .function) (hks : scope.names.lookup ("super" : Str) = some .globalImplicit) (hkc : scope.names.lookup ("__class__" : Str) = some .free) (hka : scope.names.lookup ar.arg = some .local) (hkx : scope.names.lookup x = some .local)
    (hda : (ar.arg == ("__debug__" : Str)) = false) (hdx : (x == ("__debug__" : Str)) = false)
    (hcell : ∀ x ∈ scope.names, x.2 ≠ .cell) (hco : scope.isCoroutine = false) (hgen : scope.isGenerator = false)
    (ht : SupT msg j p0 p1 p2 p3 p4) (hfile : P.main.file = fl) (htop : (P.main.scope.names.lookup ("super" : Str)).isSome = false)
    (hq : ∀ h' t' t1 dx, (∀ b o, b ≠ e → h.get? b = some o → h'.get? b = some o) → h.objs.size ≤ dx → dx ≠ e → h'.get? e = some { cls := .ref C, dict := some dx, data := .fields #[.ref t1, .none, .none, .none, .bool false, .none] } → h'.Ns1 dx (fun y => if y = f then some u else none) → R (.ok (.ret .none)) ⟨h', g, d, t', os⟩) :
    codeAny (model P w) A (.call (.ref fI) ⟨.ref e :: us, []⟩) R ⟨h, g, d, t, os⟩ := by
  obtain ⟨oc, od, osl, lk⟩ := T.fn
  obtain ⟨cdC, c1, c2, c3⟩ := TA.cd
  have nl : h.NoLimit := M.nolimit.keeps kb
  refine PySem.ks_codeAny_call_defAt (fd := PySem.W.fnX "__init__" qual params body scope [("__class__", cc)] dV kV doc pm an (.ref cda) ct) (body := body) (binds := binds) hd (X _ _ lk) rfl nl (PySem.W.codeRec_of X T.cd) rfl (hb _ .none) hcell hloc (fun h1 hns kk => ?_) hco hgen hk
  show PySem.wpAt _ _ _ (execs body (PySem.W.ksEnv qual scope h.objs.size fI (.ref cda) cc)) _ _ _
  have hLe : h.objs.size ≠ e := Ne.symm (Nat.ne_of_lt (Heap.lt_size he))
  rw [hbody]
  refine super_step T (X.keeps kk) M (fun b o z => kk b o (kb b o z)) hmg hns hself (kk _ _ he) hp hk hks hkc hka ht hfile htop fun h' t' t1 k2 e2 => ?_
  have hns2 : h'.Ns h.objs.size _ := Heap.Ns.at hns fun o z => k2 _ o hLe z
  have X2 : K.In h' := fun b o z => k2 b o (fun y => by rw [y, hKe] at z; cases z) (kk b o (X b o z))
  refine PySem.ks_wpAt_execs_cons (wpAt_of_wpAny (plainObj_wpAny_Assign_Attribute (wpAny_Name (wpAny_loadName_local hk hkx hns2 hx ?_) hdx) ?_))
  · refine wpAny_Name (wpAny_loadName_local hk hka hns2 hself ?_) hda
    refine PySem.W.set_plain X2 (ox := HandSPX.excO C t1) (od := none) ⟨e2, rfl, rfl, trivial⟩ TA.sa ?_
    refine osaX X2 e2 c1 c2 c3 TA.no fun h3 tk3 dx k3 sz3 ne3 he3 hn3 => ?_
    refine wpAt_of_wpAny (wpAny_execs_nil ?_)
    refine hq h3 tk3 t1 dx (fun b o hne z => k3 b o hne (k2 b o hne (kk b o z))) (Nat.le_trans ?_ sz3) ne3 he3 hn3
    obtain ⟨o, _, _, z, _⟩ := hns2
    exact Nat.le_of_lt (Heap.lt_size z)
  · rfl
/-- where E(a) is made -/
theorem pmk_sup1 {X : Cx} {fl : Str} {C : Addr} {qual x f y : Str} {params : Arguments} {body : List Stmt} {scope : Scope} {fI cc cda : Addr} {dV kV doc pm ct : Value} {an : Option Addr} {ar : Arg} {msg : Str} {j k : Nat} {p p0 p1 p2 p3 p4 p5 q0 q1 q2 q3 pos : Pos} {e1 : Expr} {ta : TA}
    (T : XCls X.K fl C qual params body scope fI cc cda dV kV doc pm ct an) (TA : XAtt X.K C f)
    (hbody : body = [.Expr (.Call (.Attribute (.Call (.Name "super" p0) [] [] p1) "__init__" p2) [.Constant (.str msg) j p3] [] p4) p5, .Assign [.Attribute (.Name ar.arg q0) f q1] (.Name y q2) q3])
    (hb : ∀ (s : Shared) (oc : Value) (e u : Value), BindsTo s (PySem.W.fnX "__init__" qual params body scope [("__class__", cc)] dV kV doc pm an (.ref cda) ct) ⟨[e, u], []⟩ [(ar.arg, e), (y, u)])
    (hay : (ar.arg == y) = false)
    (hp : (params.posonlyargs ++ params.args).head? = some ar) (hk : scope.kind = .function) (hks : scope.names.lookup ("super" : Str) = some .globalImplicit) (hkc : scope.names.lookup ("__class__" : Str) = some .free) (hka : scope.names.lookup ar.arg = some .local) (hkx : scope.names.lookup y = some .local)
    (hda : (ar.arg == ("__debug__" : Str)) = false) (hdy : (y == ("__debug__" : Str)) = false)
    (hcell : ∀ x ∈ scope.names, x.2 ≠ .cell) (hco : scope.isCoroutine = false) (hgen : scope.isGenerator = false)
    (ht : SupT msg j p0 p1 p2 p3 p4) (hfile : X.prog.main.file = fl) (htop : (X.prog.main.scope.names.lookup ("super" : Str)).isSome = false)
    (hr : Room (k + 1) X.A) (hg : Gl X x) (hm : X.mg x = some (.ref C)) (hmg : X.mg "super" = none) (hdb : (x == ("__debug__" : Str)) = false) (ha : PA X [e1] ta)
    (he : starEach [e1] X.env = [(false, eval e1 X.env)] := by rfl) :
    PMk X (.Call (.Name x p) [e1] [] pos) (fun σ H Q => ta σ H fun vs H1 => ∃ v, vs = [v] ∧ ∀ dx, H1 dx = none → Q (.ref C) (some dx) (upd H1 dx (.xd [(f, v)]))) := by
  intro pins s σ H Q I h
  refine wpAny_Call_Name_kw (ld_glob I hg hm ?_ hdb)
  refine PySem.W.callWith_K (h₀ := X.base) I.ok.mod.kin T.kC (thn (ha.run pos pins s σ H _ I h) fun us s1 ⟨vs, H1, I1, r1, q1⟩ => ⟨I1.kIn, ?_⟩) he rfl
  show wpAny _ _ (call (.ref C) us) _ _ _
  obtain ⟨v, rfl, q1⟩ := q1
  obtain ⟨u, rfl, ru⟩ : ∃ u, us = [u] ∧ RelV v u := by
    cases r1 with
    | cons a b => cases b; exact ⟨_, rfl, a⟩
  obtain ⟨hp0, g, dr, tk, os⟩ := s1
  obtain ⟨nm, N, qn, bs, bm, hdct, sn, sub, ab, col, dd, k0, k1, k2, k3, k5, hC, hT⟩ := PySem.W.excInit_of I1.kIn T.q
  have hsz : hp0.objs.size ≤ hp0.objs.size + 1 := Nat.le_succ _
  have hn : H1 (hp0.objs.size + 1) = none := I1.hok.fresh hsz
  have kk : ∀ b o, hp0.get? b = some o → ((hp0.push (PySem.W.kdv_tup [u])).push (PySem.HandSPX.excO C hp0.objs.size)).get? b = some o := fun b o e => Heap.get?_push_of_some _ (Heap.get?_push_of_some _ e)
  have hget : ((hp0.push (PySem.W.kdv_tup [u])).push (PySem.HandSPX.excO C hp0.objs.size)).get? (hp0.objs.size + 1) = some (PySem.HandSPX.excO C hp0.objs.size) := by heap_get
  have na : ∀ {b : Addr} {o : Obj}, hp0.get? b = some o → b ≠ hp0.objs.size + 1 := fun {b o} z => Nat.ne_of_lt (Nat.lt_of_lt_of_le (Heap.lt_size z) hsz)
  have hKe : X.K.lookup (hp0.objs.size + 1) = none := by
    cases z : X.K.lookup (hp0.objs.size + 1) with
    | none => rfl
    | some o => exact absurd rfl (na (I1.kIn _ _ z))
  refine wpAny_call (PySem.HandSPX.call_own F.excBase_Exception hT hC (PySem.W.looks_findIn I1.kIn T.iI) (fun self => PySem.W.bind_fn I1.kIn self T.tI) (by show 1 ≤ sizeLine; rw [sizeLine_eq]; omega)
    (init_runs1 (us := [u]) (u := u) (binds := [(ar.arg, .ref (hp0.objs.size + 1)), (y, u)]) T TA hbody (I1.kIn.keeps kk) I1.ok.mod (fun b o z => kk b o (I1.bk b o z)) hmg hget hKe (hr.make C [u] []).depth (fun s oc => hb s oc _ _) (fun z hz => ?_) ?_ ?_ hp hk hks hkc hka hkx hda hdy hcell hco hgen ht hfile htop fun h' t' t1 dx k3 sz3 ne3 e3 n3 => ?_))
  · simp only [List.mem_cons, List.not_mem_nil, or_false] at hz
    rcases hz with rfl | rfl
    · exact hka
    · exact hkx
  · show List.lookup ar.arg [(y, u), (ar.arg, _)] = _
    rw [List.lookup_cons, hay, List.lookup_cons]
    simp
  · show List.lookup y [(y, u), (ar.arg, _)] = _
    rw [List.lookup_cons]
    simp
  · refine ⟨rfl, ?_⟩
    have up : ∀ b o, hp0.get? b = some o → h'.get? b = some o := fun b o z => k3 b o (na z) (kk b o z)
    obtain ⟨G, g1, g2⟩ := restrict h' fun b => decide (b ≠ hp0.objs.size + 1)
    have gk : ∀ b, b ≠ hp0.objs.size + 1 → G.get? b = h'.get? b := fun b hb => g1 b (decide_eq_true hb)
    have ge : G.get? (hp0.objs.size + 1) = none := g2 _ (by simp)
    have szd : hp0.objs.size ≤ dx := Nat.le_trans (by simp [Heap.push]; omega) sz3
    have nd : H1 dx = none := I1.hok.fresh szd
    have J : Inv X pins σ (upd H1 dx (.xd [(f, v)])) ⟨G, g, dr, t', os⟩ := I1.laid (t' := t') (a := dx) (o := .xd [(f, v)]) (h' := G) (fun b o z => (gk b (na z)).trans (up b o z)) szd
      ⟨_, n3.at fun o z => (gk dx ne3).trans z, relO_put (fs := []) ru fun g => True.intro⟩
    refine ⟨hp0.objs.size + 1, _, _, ⟨G, g, dr, t', os⟩, _, .ref C, some dx, rfl, J, fun b o z => ?_, ge, e3, ⟨rfl, rfl⟩, rfl, rfl, ?_, rfl, I1.bare, raises_own T.xB T.xT, q1 dx nd⟩
    · by_cases hb : b = hp0.objs.size + 1
      · rw [hb] at z
        rw [show (Shared.heap ⟨G, g, dr, t', os⟩).get? (hp0.objs.size + 1) = none from ge] at z
        cases z
      · exact (gk b hb).symm.trans z
    · rw [upd_ne (Ne.symm ne3)]
      exact hn
end
section
variable {X : Cx} {pos : Pos}
/-- raise E(a) -/
theorem dpx_raise1 {p p0 p1 p2 p3 p4 p5 q0 q1 q2 q3 pos' : Pos} {x qual f y : Str} {C : Addr} {st : Stmt} {ar : Arg} {msg : Str} {j k : Nat} {e1 : Expr} {ta : DTA} (hc : X.calm = true) (c : ErrC X.prog X.K X.mg C x qual st) (TA : XAtt X.K C f) (hr : Room (k + 1) X.A) (ha : DA X [e1] ta)
    (hp : ((defArgs st).posonlyargs ++ (defArgs st).args).head? = some ar) (hbody : defBody st = [.Expr (.Call (.Attribute (.Call (.Name "super" p0) [] [] p1) "__init__" p2) [.Constant (.str msg) j p3] [] p4) p5, .Assign [.Attribute (.Name ar.arg q0) f q1] (.Name y q2) q3])
    (hb : ∀ (kV doc pm : Value) (an : Option Addr) (cdv ct : Value) (cl : List (Str × Addr)) (e u : Value), bindArgs (PySem.W.fnX "__init__" qual (defArgs st) (defBody st) (defScope st) cl .none kV doc pm an cdv ct) ⟨[e, u], []⟩ = pure [(ar.arg, e), (y, u)])
    (hay : (ar.arg == y) = false) (hk : (defScope st).kind = .function) (hks : (defScope st).names.lookup ("super" : Str) = some .globalImplicit) (hkc : (defScope st).names.lookup ("__class__" : Str) = some .free) (hka : (defScope st).names.lookup ar.arg = some .local) (hkx : (defScope st).names.lookup y = some .local)
    (hda : (ar.arg == ("__debug__" : Str)) = false) (hdy : (y == ("__debug__" : Str)) = false)
    (hcell : ∀ x ∈ (defScope st).names, x.2 ≠ .cell) (hco : (defScope st).isCoroutine = false) (hgen : (defScope st).isGenerator = false) (ht : SupT msg j p0 p1 p2 p3 p4)
    (hg : Gl X x := by rfl) (hdb : (x == ("__debug__" : Str)) = false := by decide) (he : starEach [e1] X.env = [(false, eval e1 X.env)] := by rfl) :
    DPX X (.Raise (some (.Call (.Name x p) [e1] [] pos)) none pos') (fun _ E' S G => ta S G fun ds G1 => ∃ d, ds = [d] ∧ E' S C [(f, d)] G1) := ⟨fun W tk => by
  obtain ⟨fI, cc, cda, kV, doc, pm, ct, an, T⟩ := c.ex
  obtain ⟨t1, pa, r1⟩ := ha.ex
  refine ⟨_, ps_raise hc tk (pmk_sup1 T TA hbody (fun s oc e u => BindsTo.of_eq (hb kV doc pm an (.ref cda) ct [("__class__", cc)] e u)) hay hp hk hks hkc hka hkx hda hdy hcell hco hgen ht rfl c.top hr hg c.mg_ c.su hdb pa he), fun F H σ S G o D' E' h D0 kn kx => ?_⟩
  refine r1 F H σ S G o _ h _ fun F1 H1 vs ds G1 e1 g1 q1 h1 => ?_
  obtain ⟨d, rfl, h1⟩ := h1
  cases q1 with
  | cons rv b =>
    cases b
    rename_i v
    refine ⟨v, rfl, fun dx hd => ?_⟩
    have gr := Gr.only (u := .xd [(f, v)]) g1.ex hd
    exact kx F1 _ σ S G1 _ _ C [(f, d)] (e1.trans gr.go) ⟨g1.grow gr, o.s.mono e1.ex⟩ ⟨rfl, .inr ⟨dx, [(f, v)], rfl, upd_same, g1.free hd, by simp, rfl, .one rv⟩⟩ h1⟩
def rIsE1 (K : PySem.W.Frag) (D a : Addr) (d : Option Addr) : List V → Hp → VK → Prop := fun xs H Q => ∃ (c : V) (cv : Value) (b : Bool) (dd : Addr) (fs : List (Str × V)), xs = [.ref a, c] ∧ (∀ u, RelV c u → u = cv) ∧ PySem.W.kitOne K (.ref D) cv = some b ∧ d = some dd ∧ H dd = some (.xd fs) ∧ Q (.bl b) H
theorem call_isE1 {a D : Addr} {oe : Obj} {d : Option Addr} {pn : List (Addr × Obj)} (C : ExcC X.K D) (hz : Zc (.ref D) d oe) (hf : ∃ vs, oe.data = .fields vs) : CallR (X.suite a ((a, oe) :: pn)) (.builtin "isinstance") (rIsE1 X.K D a d) := by
  intro pins s σ H xs us Q I r h
  obtain ⟨c, cv, b, dd, fs, rfl, hcv, e, ed, ea, q⟩ := h
  cases r with
  | cons rx rr =>
    cases rr with
    | cons rt rr =>
      cases rr
      cases rx
      have ec := hcv _ rt
      subst ec
      subst ed
      obtain ⟨hget, _⟩ := I.pin (a, oe) (List.mem_append.mpr (.inl List.mem_cons_self))
      obtain ⟨vs, hv⟩ := hf
      have hx : ObjOk X.prog X.w H s.heap dd (.xd fs) := I.hok dd _ ea
      obtain ⟨mA, hns, hr⟩ := hx
      obtain ⟨od, ho, hl⟩ := lookIn_ns hns
      have J : PySem.W.InstAt s.heap a oe D (some od) := ⟨hget, hz.1, by unfold PySem.W.notCls; rw [hv] <;> rfl, by rw [hz.2]; exact ho⟩
      have hcl : (PySem.W.clsIn X.K D).isSome = true := by
        obtain ⟨cdD, hcD, _⟩ := PySem.W.any_some C.hd
        rw [hcD]; rfl
      exact PySem.W.kia_one (PySem.W.kitx_exc hcl C.hg C.hk C.hs C.ha C.hn C.ht C.hm) I.kIn J e (fun z => nomatch z) fun tk => ⟨.bl b, H, I.kept (t' := tk) fun _ _ z => z, rfl, q⟩
def dIsE1 (C1 D a CE : Addr) (fs : XFs) (b : Bool) (ta : DTA) : DTE := fun S G Q => ta S G fun ds G1 => ds = [.rf a, .rf CE] ∧ C1 = D ∧ fs ≠ [] ∧ Q (.bl b) G1
theorem dee_isE1 {a D CE : Addr} {oe : Obj} {d : Option Addr} {pn : List (Addr × Obj)} {C1 : Addr} {fs : XFs} {b : Bool} {p : Pos} {e : Expr} {es : List Expr} {ta : DTA} (T : ExcC X.K D) (hk : PySem.W.kitOne X.K (.ref D) (.ref CE) = some b) (hz : Zc (.ref C1) d oe) (hf : ∃ vs, oe.data = .fields vs)
    (hg : Gl X "isinstance") (hm : X.mg "isinstance" = none) (ha : DA (X.suite a ((a, oe) :: pn)) (e :: es) ta)
    (he : starEach (e :: es) X.env = (false, eval e X.env) :: starEach es X.env := by rfl) (hpl : (backTo pos (starEach es X.env)).any (·.1) = false := by rfl) :
    DEE (X.suite a ((a, oe) :: pn)) (fun F H G => XRep X.K F H G (.ref C1) d C1 fs) (.Call (.Name "isinstance" p) (e :: es) [] pos) (dIsE1 C1 D a CE fs b ta) := by
  obtain ⟨t1, p1, r1⟩ := ha.ex
  by_cases hD : C1 = D
  · subst hD
    refine ⟨_, pe_callB (call_isE1 T hz hf) hg hm Boot.«isinstance» p1 (by decide) (by decide) he hpl, fun F H σ S G o x Q' h Q k => ?_⟩
    refine r1 F H σ S G o _ h _ fun F1 H1 vs ds G1 e1 g1 q1 h1 => ?_
    obtain ⟨rfl, _, hne, h1⟩ := h1
    rcases (xrep_keeps F H G F1 H1 G1 e1 x).2 with ⟨_, z⟩ | ⟨dx, ws, ed, hH, _⟩
    · exact absurd z hne
    cases q1 with
    | cons qa qr =>
      cases qr with
      | cons qb qn =>
        cases qn
        cases qa
        cases qb
        exact ⟨.ref CE, .ref CE, b, dx, ws, rfl, fun u hu => hu, hk, ed, hH, k F1 H1 _ _ G1 e1 g1 (.bl b) h1⟩
  · refine ⟨_, pe_callB (r := fun _ _ _ => False) (fun _ _ _ _ _ _ _ _ _ z => z.elim) hg hm Boot.«isinstance» p1 (by decide) (by decide) he hpl, fun F H σ S G o x Q' h Q k => ?_⟩
    refine r1 F H σ S G o _ h _ fun F1 H1 vs ds G1 e1 g1 q1 h1 => ?_
    exact absurd h1.2.1 hD
/-- e.x -/
def dXf (C1 D a : Addr) (f : Str) (fs : XFs) (te : DTE) : DTE := fun S G Q => te S G fun d G1 => d = .rf a ∧ C1 = D ∧ (match fs.lookup f with
  | some v => Q v G1
  | none => False)
theorem dee_xf {a D : Addr} {oe : Obj} {d : Option Addr} {pn : List (Addr × Obj)} {C1 : Addr} {fs : XFs} {f : Str} {e : Expr} {te : DTE} (T : XfC X.K D) (TA : XAtt X.K D f) (hz : Zc (.ref C1) d oe) (hf : ∃ vs, oe.data = .fields vs) (he : DE (X.suite a ((a, oe) :: pn)) e te)
    (hb : attributeBase e f X.env (eval e X.env) = eval e X.env := by rfl) :
    DEE (X.suite a ((a, oe) :: pn)) (fun F H G => XRep X.K F H G (.ref C1) d C1 fs) (.Attribute e f pos) (dXf C1 D a f fs te) := by
  obtain ⟨t1, p1, r1⟩ := he.ex
  refine ⟨_, pe_xf T TA.no hz hf p1 hb, fun F H σ S G o x Q' h Q k => ?_⟩
  refine r1 F H σ S G o _ h _ fun F1 H1 v dd G1 e1 g1 q1 h1 => ?_
  obtain ⟨rfl, rfl, h1⟩ := h1
  cases q1
  split at h1
  · rename_i dv el
    rcases (xrep_keeps F H G F1 H1 G1 e1 x).2 with ⟨_, z⟩ | ⟨dx, ws, ed, hH, _, _, hks, hrs⟩
    · rw [z] at el; cases el
    · have kr : KR X.K F1 ws fs := ⟨hks, hrs⟩
      obtain ⟨wv, hl, rv⟩ := kr.look.1 dv el
      exact ⟨rfl, rfl, dx, ws, wv, ed, hH, hl, k F1 H1 _ _ G1 e1 g1 rv h1⟩
  · exact h1.elim
end
end DL
end
section
set_option Elab.async false
set_option linter.all false
set_option maxRecDepth 100000
set_option maxHeartbeats 4000000
namespace DL
open PySem PySem.Spec PyProof.Rows L2
end DL
end
section
set_option Elab.async false
set_option linter.all false
set_option maxRecDepth 100000
set_option maxHeartbeats 4000000
namespace DL
open PySem PySem.Spec PyProof.Rows L2
end DL
end
section
set_option Elab.async false
set_option linter.all false
set_option maxRecDepth 100000
set_option maxHeartbeats 4000000
namespace DL
open PySem PySem.Spec PyProof.Rows L2
end DL
end
section
set_option Elab.async false
set_option linter.all false
set_option maxRecDepth 100000
set_option maxHeartbeats 4000000
namespace Pace
open PySem PySem.Spec PyProof.Rows L2 DL
def top (i : Nat) : Stmt := PySem.Challenge.pw_pacehouse_k03_texts_that_are_no_rules.main.body.getD i (.Pass ⟨0, 0, 0, 0⟩)
abbrev s__wall : Stmt := top 0
abbrev s_BadText_u__init_u_ : Stmt := inClass (top 4) 0
abbrev s_are_letters : Stmt := top 16
abbrev s_number_in : Stmt := top 17
abbrev s_text_of : Stmt := top 18
abbrev s_first_line : Stmt := top 19
abbrev s_move_line : Stmt := top 20
abbrev s_parts_in : Stmt := top 21
abbrev s_is_integer : Stmt := top 26
abbrev s_is_letter_of : Stmt := top 27
abbrev s_is_move : Stmt := top 28
abbrev s_is_row : Stmt := top 29
abbrev s_steps_of : Stmt := top 30
abbrev s_states_met : Stmt := top 31
abbrev s_classes_of : Stmt := top 32
abbrev s_least_rows : Stmt := top 33
abbrev s_step_at : Stmt := top 34
abbrev s_paired_steps : Stmt := top 35
abbrev s_one_keys : Stmt := top 36
abbrev s_check_letters : Stmt := top 37
abbrev s_Rules_u__init_u_ : Stmt := inClass (top 38) 0
abbrev s_Rules_read : Stmt := inClass (top 38) 1
abbrev s__law_deck : Stmt := top 40
abbrev s__law_draw : Stmt := top 41
abbrev s__law_pick : Stmt := top 42
abbrev s__law_signs : Stmt := top 43
abbrev s__law_world : Stmt := top 44
abbrev s__law_number : Stmt := top 45
abbrev s__law_is_ascending : Stmt := top 46
abbrev s__law_read : Stmt := top 47
abbrev s__law_heard : Stmt := top 48
abbrev s__law_is_told : Stmt := top 49
abbrev s__law_bent : Stmt := top 50
abbrev s_law : Stmt := top 51
structure Txt (K : PySem.W.Frag) (mg : Str → Option Value) (C : Addr) : Prop where
  f_Exception : mg "Exception" = none
  f_classmethod : mg "classmethod" = none
  f_all : mg "all" = none
  f_enumerate : mg "enumerate" = none
  f_dict : mg "dict" = none
  f_tuple : mg "tuple" = none
  f_range : mg "range" = none
  f_isinstance : mg "isinstance" = none
  f_str : mg "str" = none
  f_int : mg "int" = none
  f_len : mg "len" = none
  f_sorted : mg "sorted" = none
  f_list : mg "list" = none
  f_repr : mg "repr" = none
  f_bool : mg "bool" = none
  f_set : mg "set" = none
  f_super : mg "super" = none
  f_zip : mg "zip" = none
  f_min : mg "min" = none
  c_RULES_WORD : ∃ t, mg "RULES_WORD" = some (.str "rules" t)
  c_MOVE_WORD : ∃ t, mg "MOVE_WORD" = some (.str "move" t)
  c_BREAK : ∃ t, mg "BREAK" = some (.str "\n" t)
  c_BLANK : ∃ t, mg "BLANK" = some (.str " " t)
  c_DIGITS : ∃ t, mg "DIGITS" = some (.str "0123456789" t)
  c_MOST_DIGITS : ∃ t, mg "MOST_DIGITS" = some (.int (3) t)
  c_FIRST_PARTS : ∃ t, mg "FIRST_PARTS" = some (.int (4) t)
  c_MOVE_PARTS_ruletexts : ∃ t, mg "MOVE_PARTS_ruletexts" = some (.int (5) t)
  c_LETTERS : ∃ t, mg "LETTERS" = some (.str "abcdefghijklmnopqrstuvwxyz" t)
  c_MOST_STATES : ∃ t, mg "MOST_STATES" = some (.int (999) t)
  c_MOVE_PARTS_rules : ∃ t, mg "MOVE_PARTS_rules" = some (.int (3) t)
  c_NOWHERE : ∃ t, mg "NOWHERE" = some (.int (-1) t)
  clR : Cls K C
  mgR : mg "Rules" = some (.ref C)
  insR : C8.InsC K C
  neR : NeO K C
  no_heard : NoAttr K C "heard"
  no_written : NoAttr K C "written"
  no_rows : NoAttr K C "rows"
  no_steps : NoAttr K C "steps"
  sysM : SysM K
structure ErT (P : Program) (K : PySem.W.Frag) (mg : Str → Option Value) : Prop where
  mg_CaptionError : mg "CaptionError" = some (.ref (He.ga K "CaptionError"))
  e_BadText : ErrC P K mg (He.ga K "BadText") "BadText" "BadText.__init__" s_BadText_u__init_u_
  i_BadText : IsE K (He.ga K "BadText") (He.ga K "CaptionError")
  a_BadText : XAtt K (He.ga K "BadText") "line"
  f_BadText : XfC K (He.ga K "BadText")
end Pace
end
section
set_option Elab.async false
set_option linter.all false
set_option maxRecDepth 100000
set_option maxHeartbeats 4000000
namespace DL
open PySem PySem.Spec PyProof.Rows L2
def hyPut {α : Type} (a : Addr) (m : Nat) (acc : List Addr) (k : Nat → List Addr → α) : α := HandSHeadRun.frNat a fun a => match Nat.beq (Nat.land (Nat.shiftRight m a) 1) 0 with
  | true => HandSHeadRun.frNat (Nat.lor m (Nat.shiftLeft 1 a)) fun m => k m (a :: acc)
  | false => k m acc
def hyPuts {α : Type} : List Addr → Nat → List Addr → (Nat → List Addr → α) → α
  | [], m, acc, k => k m acc
  | a :: r, m, acc, k => hyPut a m acc fun m acc => hyPuts r m acc k
def hyRow {α : Type} (g : Addr → Option Obj) : List Addr → Nat → List Addr → (Nat → List Addr → α) → α
  | [], m, acc, k => k m acc
  | a :: r, m, acc, k => match g a with
    | some o => hyPuts (He.refsD o) m acc fun m acc => hyRow g r m acc k
    | none => hyRow g r m acc k
def hyGo (g : Addr → Option Obj) : Nat → List Addr → Nat → List Addr → List Addr
  | 0, _, _, all => all
  | n + 1, fr, m, all => hyRow g fr m [] fun m new => hyGo g n new m (all ++ new)
def asY (g : Addr → Option Obj) (n : Nat) : List Addr := hyPut mainGlobals 0 [] fun m fr => hyGo g n fr m fr
def obsYG (n : Nat) (fa : List He.Fa) (fn : List He.DefD) (ex : PySem.W.Frag → Bool) (ys : YsX) (g : Addr → Option Obj) : AlX := obsX fa fn ex ys (He.frG g (cStatics :: sysModules :: asY g n))
def hookY (n : Nat) (fa : List He.Fa) (fn : List He.DefD) (ex : PySem.W.Frag → Bool) (ys : YsX) : PySem.W.Hook where
  α := AlX
  obs := fun s => obsYG n fa fn ex ys s.heap.get?
  val := fun _ => (((He.valD fn, true), ys.map Prod.snd) : AlX)
  says := fun _ h => ∃ K : PySem.W.Frag, K.In h ∧ He.SaysD fa fn K ∧ ex K = true ∧ (ys.map fun p => fnXo K (p.1 K)) = ys.map Prod.snd
  of := fun _ _ e => ⟨_, He.frG_in, congrArg (fun z : AlX => z.1.1) e, congrArg (fun z : AlX => z.1.2) e, congrArg Prod.snd e⟩
  keeps := fun _ _ _ ⟨K, hK, c⟩ k => ⟨K, PySem.W.Frag.In.keeps hK k, c⟩
theorem obsYG_eq {n : Nat} {fa : List He.Fa} {fn : List He.DefD} {ex : PySem.W.Frag → Bool} {ys : YsX} {g : Addr → Option Obj} {s : Shared} (h : ∀ a, g a = s.heap.get? a) : obsYG n fa fn ex ys g = (hookY n fa fn ex ys).obs s := by
  have e : g = s.heap.get? := funext h
  rw [e] <;> rfl
end DL
end
section
set_option Elab.async false
set_option linter.all false
set_option maxRecDepth 100000
set_option maxHeartbeats 0
namespace Pace
open PySem PySem.Spec PyProof.Rows L2 DL
def d_Rules_read : He.DefD := ⟨("Rules", some "read"), "read", "Rules.read", defArgs s_Rules_read, defBody s_Rules_read, defScope s_Rules_read, [], []⟩
def d__wall : He.DefD := ⟨("_wall", none), "_wall", "_wall", defArgs s__wall, defBody s__wall, defScope s__wall, [], []⟩
def d_are_letters : He.DefD := ⟨("are_letters", none), "are_letters", "are_letters", defArgs s_are_letters, defBody s_are_letters, defScope s_are_letters, [], []⟩
def d_number_in : He.DefD := ⟨("number_in", none), "number_in", "number_in", defArgs s_number_in, defBody s_number_in, defScope s_number_in, [], []⟩
def d_text_of : He.DefD := ⟨("text_of", none), "text_of", "text_of", defArgs s_text_of, defBody s_text_of, defScope s_text_of, [], []⟩
def d_first_line : He.DefD := ⟨("first_line", none), "first_line", "first_line", defArgs s_first_line, defBody s_first_line, defScope s_first_line, [], []⟩
def d_move_line : He.DefD := ⟨("move_line", none), "move_line", "move_line", defArgs s_move_line, defBody s_move_line, defScope s_move_line, [], []⟩
def d_parts_in : He.DefD := ⟨("parts_in", none), "parts_in", "parts_in", defArgs s_parts_in, defBody s_parts_in, defScope s_parts_in, [], []⟩
def d_is_integer : He.DefD := ⟨("is_integer", none), "is_integer", "is_integer", defArgs s_is_integer, defBody s_is_integer, defScope s_is_integer, [], []⟩
def d_is_letter_of : He.DefD := ⟨("is_letter_of", none), "is_letter_of", "is_letter_of", defArgs s_is_letter_of, defBody s_is_letter_of, defScope s_is_letter_of, [], []⟩
def d_is_move : He.DefD := ⟨("is_move", none), "is_move", "is_move", defArgs s_is_move, defBody s_is_move, defScope s_is_move, [], []⟩
def d_is_row : He.DefD := ⟨("is_row", none), "is_row", "is_row", defArgs s_is_row, defBody s_is_row, defScope s_is_row, [], []⟩
def d_steps_of : He.DefD := ⟨("steps_of", none), "steps_of", "steps_of", defArgs s_steps_of, defBody s_steps_of, defScope s_steps_of, [], []⟩
def d_states_met : He.DefD := ⟨("states_met", none), "states_met", "states_met", defArgs s_states_met, defBody s_states_met, defScope s_states_met, [], []⟩
def d_classes_of : He.DefD := ⟨("classes_of", none), "classes_of", "classes_of", defArgs s_classes_of, defBody s_classes_of, defScope s_classes_of, [], []⟩
def d_least_rows : He.DefD := ⟨("least_rows", none), "least_rows", "least_rows", defArgs s_least_rows, defBody s_least_rows, defScope s_least_rows, [], []⟩
def d_step_at : He.DefD := ⟨("step_at", none), "step_at", "step_at", defArgs s_step_at, defBody s_step_at, defScope s_step_at, [], []⟩
def d_paired_steps : He.DefD := ⟨("paired_steps", none), "paired_steps", "paired_steps", defArgs s_paired_steps, defBody s_paired_steps, defScope s_paired_steps, [], []⟩
def d_one_keys : He.DefD := ⟨("one_keys", none), "one_keys", "one_keys", defArgs s_one_keys, defBody s_one_keys, defScope s_one_keys, [], []⟩
def d_check_letters : He.DefD := ⟨("check_letters", none), "check_letters", "check_letters", defArgs s_check_letters, defBody s_check_letters, defScope s_check_letters, [], []⟩
def d__law_deck : He.DefD := ⟨("_law_deck", none), "_law_deck", "_law_deck", defArgs s__law_deck, defBody s__law_deck, defScope s__law_deck, [], []⟩
def d__law_draw : He.DefD := ⟨("_law_draw", none), "_law_draw", "_law_draw", defArgs s__law_draw, defBody s__law_draw, defScope s__law_draw, [], []⟩
def d__law_pick : He.DefD := ⟨("_law_pick", none), "_law_pick", "_law_pick", defArgs s__law_pick, defBody s__law_pick, defScope s__law_pick, [], []⟩
def d__law_signs : He.DefD := ⟨("_law_signs", none), "_law_signs", "_law_signs", defArgs s__law_signs, defBody s__law_signs, defScope s__law_signs, [], []⟩
def d__law_world : He.DefD := ⟨("_law_world", none), "_law_world", "_law_world", defArgs s__law_world, defBody s__law_world, defScope s__law_world, [], []⟩
def d__law_number : He.DefD := ⟨("_law_number", none), "_law_number", "_law_number", defArgs s__law_number, defBody s__law_number, defScope s__law_number, [], []⟩
def d__law_is_ascending : He.DefD := ⟨("_law_is_ascending", none), "_law_is_ascending", "_law_is_ascending", defArgs s__law_is_ascending, defBody s__law_is_ascending, defScope s__law_is_ascending, [], []⟩
def d__law_read : He.DefD := ⟨("_law_read", none), "_law_read", "_law_read", defArgs s__law_read, defBody s__law_read, defScope s__law_read, [], []⟩
def d__law_heard : He.DefD := ⟨("_law_heard", none), "_law_heard", "_law_heard", defArgs s__law_heard, defBody s__law_heard, defScope s__law_heard, [], []⟩
def d__law_is_told : He.DefD := ⟨("_law_is_told", none), "_law_is_told", "_law_is_told", defArgs s__law_is_told, defBody s__law_is_told, defScope s__law_is_told, [], []⟩
def d__law_bent : He.DefD := ⟨("_law_bent", none), "_law_bent", "_law_bent", defArgs s__law_bent, defBody s__law_bent, defScope s__law_bent, [], []⟩
def d_law : He.DefD := ⟨("law", none), "law", "law", defArgs s_law, defBody s_law, defScope s_law, [], []⟩
def d_RI : He.DefD := ⟨("Rules", some "__init__"), "__init__", "Rules.__init__", defArgs s_Rules_u__init_u_, defBody s_Rules_u__init_u_, defScope s_Rules_u__init_u_, [], []⟩
def hfn0 : List He.DefD := [d__wall, d_are_letters, d_number_in, d_text_of, d_first_line, d_move_line, d_parts_in, d_is_integer, d_is_letter_of, d_is_move, d_is_row, d_steps_of, d_states_met, d_classes_of, d_least_rows, d_step_at, d_paired_steps, d_one_keys, d_check_letters, d__law_deck]
def hfn1 : List He.DefD := [d__law_draw, d__law_pick, d__law_signs, d__law_world, d__law_number, d__law_is_ascending, d__law_read, d__law_heard, d__law_is_told, d__law_bent, d_law, d_RI]
def hfn : List He.DefD := hfn0 ++ hfn1
def hfa0 : List He.Fa := [.glo "_wall", .glo "are_letters", .glo "number_in", .glo "text_of", .glo "first_line", .glo "move_line", .glo "parts_in", .glo "is_integer", .glo "is_letter_of", .glo "is_move", .glo "is_row", .glo "steps_of", .glo "states_met", .glo "classes_of", .glo "least_rows", .glo "step_at", .glo "paired_steps", .glo "one_keys", .glo "check_letters", .glo "_law_deck"]
def hfa1 : List He.Fa := [.glo "_law_draw", .glo "_law_pick", .glo "_law_signs", .glo "_law_world", .glo "_law_number", .glo "_law_is_ascending", .glo "_law_read", .glo "_law_heard", .glo "_law_is_told", .glo "_law_bent", .glo "law", .free "Exception", .free "classmethod", .free "all", .free "enumerate", .free "dict", .free "tuple", .free "range", .free "isinstance", .free "str"]
def hfa2 : List He.Fa := [.free "int", .free "len", .free "sorted", .free "list", .free "repr", .free "bool", .free "set", .free "super", .free "zip", .free "min", .str "RULES_WORD" "rules", .str "MOVE_WORD" "move", .str "BREAK" "\n", .str "BLANK" " ", .str "DIGITS" "0123456789", .int "MOST_DIGITS" (3), .int "FIRST_PARTS" (4), .int "MOVE_PARTS_ruletexts" (5), .str "LETTERS" "abcdefghijklmnopqrstuvwxyz", .int "MOST_STATES" (999)]
def hfa3 : List He.Fa := [.int "MOVE_PARTS_rules" (3), .int "NOWHERE" (-1), .glo "Rules", .cls "Rules", .mkr "Rules", .noat "Rules" "heard", .noat "Rules" "written", .noat "Rules" "rows", .noat "Rules" "steps", .glo "CaptionError", .glo "BadText"]
def hfa : List He.Fa := hfa0 ++ hfa1 ++ hfa2 ++ hfa3
def hnm0 : List PySem.Str := ["_wall", "CaptionError", "BadRules", "BadText", "OtherLetters", "RULES_WORD", "MOVE_WORD", "BREAK", "BLANK", "DIGITS", "MOST_DIGITS", "FIRST_PARTS", "MOVE_PARTS_ruletexts", "LETTERS", "are_letters", "number_in", "text_of", "first_line", "move_line", "parts_in"]
def hnm1 : List PySem.Str := ["MOST_STATES", "MOVE_PARTS_rules", "NOWHERE", "is_integer", "is_letter_of", "is_move", "is_row", "steps_of", "states_met", "classes_of", "least_rows", "step_at", "paired_steps", "one_keys", "check_letters", "Rules", "_law_deck", "_law_draw", "_law_pick", "_law_signs"]
def hnm2 : List PySem.Str := ["_law_world", "_law_number", "_law_is_ascending", "_law_read", "_law_heard", "_law_is_told", "_law_bent"]
def hnm : List PySem.Str := hnm0 ++ hnm1 ++ hnm2
def dE_BadText : ErrD := ⟨"BadText", "BadText.__init__", defArgs s_BadText_u__init_u_, defBody s_BadText_u__init_u_, defScope s_BadText_u__init_u_⟩
def hys : YsX := [((fun K => cmG K (He.ga K "Rules") "read"), fnVal d_Rules_read), ((fun K => eI K "BadText"), dE_BadText.val)]
abbrev hR : PySem.W.OpenRow := PySem.W.OpenLaw.row PySem.Challenge.rw_pacehouse_k03_texts_that_are_no_rules
abbrev hfl : Str := hR.prog.main.file
def hkup (K : PySem.W.Frag) : Bool := true
def hex0 (K : PySem.W.Frag) : Bool := (insB K (He.ga K "Rules") && neB K (He.ga K "Rules")) && ((sysB K && (cmB K (He.ga K "Rules") "read" && okA K (cmG K (He.ga K "Rules") "read") d_Rules_read)) && (errB K hfl "BadText" && (isEB K (He.ga K "BadText") (He.ga K "CaptionError") && (xattB K (He.ga K "BadText") "line" && xfB K (He.ga K "BadText")))))
def hex (K : PySem.W.Frag) : Bool := hex0 K && hkup K
abbrev hhk : PySem.W.Hook := hookY 7 hfa hfn hex hys
def hob (s : PySem.W.SharedT) : AlX := obsYG 7 hfa hfn hex hys (HandSHeadRun.getT s)
theorem hob_eq (s : PySem.W.SharedT) : hob s = hhk.obs s.abs := obsYG_eq (HandSHeadRun.getT_eq s)
theorem hrun (w : World) : HandSHeadRun.RunEq hR (PySem.W.view hR.prog [51]) hhk hob 20000 hnm w := by
  intro os
  kernel_rfl
end Pace
end
section
set_option Elab.async false
set_option linter.all false
set_option maxRecDepth 100000
set_option maxHeartbeats 4000000
namespace Pace
open PySem PySem.Spec PyProof.Rows L2 DL
/-- a move: heard letter, written letter (codes), state -/
structure Mv where
  h : Nat
  c : Nat
  t : Nat
  deriving DecidableEq
def Mv.d (m : Mv) : D := .tup [.str (sgn m.h), .str (sgn m.c), .int (m.t : Int)]
def rowD (r : List Mv) : D := .tup (r.map Mv.d)
def rowsD (rs : List (List Mv)) : D := .tup (rs.map rowD)
structure Rul where
  heard : Str
  written : Str
  rows : List (List Mv)
def stepsD (rs : List (List Mv)) : D := .lst (rs.map fun r => .dT (r.map fun m => ([.inr (sgn m.h), .inr (sgn m.c)], .int (m.t : Int))))
def rulF (R : Rul) : List (Str × D) := [("heard", .str R.heard), ("written", .str R.written), ("rows", rowsD R.rows), ("steps", stepsD R.rows)]
def rulD (C : Addr) (R : Rul) : D := .obj C (rulF R)
/-- what Python's rules ask, as far as the walk needs it -/
structure Rul.Ok (R : Rul) : Prop where
  few : R.rows.length ≤ 1000
  at_ : ∀ r ∈ R.rows, r.length ≤ 1000 ∧ ∀ m ∈ r, m.t < R.rows.length
def hits (rs : List (List Mv)) (s c : Nat) : List Nat := ((rs.getD s []).filter fun m => m.h == c).map (·.t)
def nins (a : Nat) : List Nat → List Nat
  | [] => [a]
  | b :: l => if a ≤ b then a :: b :: l else b :: nins a l
def nsort : List Nat → List Nat
  | [] => []
  | a :: l => nins a (nsort l)
/-- the states behind a letter -/
def behind (rs : List (List Mv)) (ss : List Nat) (c : Nat) : List Nat := nsort (firstsF (ss.flatMap fun s => hits rs s c))
/-- the pairs of the dict -/
def kds (ks : List Nat) : List (Key × D) := ks.map fun (t : Nat) => (.inl (t : Int), .bl true)
theorem nodup_lt_len {n : Nat} {ks : List Nat} (h : ks.Nodup) (hl : ∀ k ∈ ks, k < n) : ks.length ≤ n := by
  have := List.Nodup.length_le_of_subset h (l₂ := List.range n) (fun k hk => List.mem_range.mpr (hl k hk))
  simpa using this
theorem sgn_inj {a b : Nat} (h : sgn a = sgn b) : a = b := by
  have : (sgn a).cps.toList = (sgn b).cps.toList := by rw [h]
  simpa [sgn] using this
theorem sgn_beq (a b : Nat) : (sgn a == sgn b) = (a == b) := by
  rw [Bool.eq_iff_iff]
  simp only [beq_iff_eq]
  exact ⟨sgn_inj, fun h => by rw [h]⟩
theorem hu100 {k : Nat} {A : Around} (hr : Room k A) : A.units + 100 < cLine := by have := hr.un; omega
end Pace
end
section
set_option Elab.async false
set_option linter.all false
set_option maxRecDepth 100000
set_option maxHeartbeats 4000000
namespace Pace
open PySem PySem.Spec PyProof.Rows L2 DL
theorem sz {n : Nat} (h : n ≤ 5000) : n ≤ sizeLine := by rw [sizeLine_eq]; omega
theorem szl {n : Nat} (h : n ≤ 5000) : n < sizeLine := by rw [sizeLine_eq]; omega
/-- what is reached by a speech -/
def run (rs : List (List Mv)) (ss : List Nat) (cs : List Nat) : List Nat := cs.foldl (behind rs) ss
/-- the sets of numbers below n -/
def subs : Nat → List (List Nat)
  | 0 => [[]]
  | n + 1 => subs n ++ (subs n).map (· ++ [n])
theorem subs_len : ∀ n, (subs n).length = 2 ^ n
  | 0 => rfl
  | n + 1 => by simp [subs, subs_len n]; omega
theorem subs_mem : ∀ (n : Nat) (l : List Nat), l.Pairwise (· < ·) → (∀ k ∈ l, k < n) → l ∈ subs n
  | 0, l, _, h => by
    cases l with
    | nil => simp [subs]
    | cons a l => exact absurd (h a (by simp)) (by omega)
  | n + 1, l, hp, h => by
    rcases List.eq_nil_or_concat l with rfl | ⟨l', a, rfl⟩
    · exact List.mem_append.mpr (.inl (subs_mem n [] .nil (by simp)))
    · rw [List.concat_eq_append] at *
      rw [List.pairwise_append] at hp
      obtain ⟨h1, _, h3⟩ := hp
      have ha := h a (by simp)
      by_cases e : a = n
      · subst e
        refine List.mem_append.mpr (.inr (List.mem_map.mpr ⟨l', subs_mem a l' h1 fun k hk => h3 k hk a (by simp), rfl⟩))
      · refine List.mem_append.mpr (.inl (subs_mem n _ (List.pairwise_append.mpr ⟨h1, by simp, h3⟩) fun k hk => ?_))
        rcases List.mem_append.mp hk with hk | hk
        · have := h3 k hk a (by simp); omega
        · simp at hk; omega
theorem sets_len {ls : List (List Nat)} {n : Nat} (nd : ls.Nodup) (h : ∀ l ∈ ls, l.Pairwise (· < ·) ∧ ∀ k ∈ l, k < n) : ls.length ≤ 2 ^ n := by
  rw [← subs_len n]
  exact List.Nodup.length_le_of_subset nd fun l hl => subs_mem n l (h l hl).1 (h l hl).2
/-- sets met, each with its speech -/
abbrev Ord := List (List Nat × List Nat)
structure OrdOk (rs : List (List Mv)) (hs : List Nat) (ord : Ord) : Prop where
  nd : (ord.map (·.1)).Nodup
  st : ∀ x ∈ ord, x.1.Pairwise (· < ·) ∧ ∀ k ∈ x.1, k < rs.length
  ln : ∀ (i : Nat) (x : List Nat × List Nat), ord[i]? = some x → x.2.length ≤ i
  rn : ∀ x ∈ ord, run rs [0] x.2 = x.1 ∧ x.1 ≠ [] ∧ ∀ c ∈ x.2, c ∈ hs
theorem OrdOk.len {rs : List (List Mv)} {hs : List Nat} {ord : Ord} (h : OrdOk rs hs ord) : ord.length ≤ 2 ^ rs.length := by
  have := sets_len (ls := ord.map (·.1)) (n := rs.length) h.nd fun l hl => by
    obtain ⟨x, hx, rfl⟩ := List.mem_map.mp hl
    exact h.st x hx
  simpa using this
theorem OrdOk.start {rs : List (List Mv)} {hs : List Nat} (h : 0 < rs.length) : OrdOk rs hs [([0], [])] where
  nd := by simp
  st := fun x hx => by simp at hx; subst hx; exact ⟨by simp, by simpa using h⟩
  ln := fun i x hx => by
    cases i with
    | zero => simp at hx; subst hx; simp
    | succ i => simp at hx
  rn := fun x hx => by simp at hx; subst hx; exact ⟨rfl, by simp, by simp⟩
/-- a text of codes -/
def strOf (cs : List Nat) : Str := ⟨cs.toArray⟩
theorem strOf_app (a b : List Nat) : strOf a ++ strOf b = strOf (a ++ b) := by
  show (⟨a.toArray ++ b.toArray⟩ : Str) = ⟨(a ++ b).toArray⟩
  simp
theorem strOf_sgn (a : List Nat) (c : Nat) : strOf a ++ sgn c = strOf (a ++ [c]) := strOf_app a [c]
theorem strOf_len (a : List Nat) : (strOf a).length = a.length := by
  show a.toArray.size = _
  simp
theorem strOf_inj {a b : List Nat} (h : strOf a = strOf b) : a = b := by
  have : (strOf a).cps.toList = (strOf b).cps.toList := by rw [h]
  simpa [strOf] using this
theorem signs_get {cs : List Nat} {i : Nat} {d : D} (h : (DL.signs (strOf cs))[i]? = some d) : ∃ c, cs[i]? = some c ∧ d = .str (sgn c) := by
  unfold DL.signs strOf at h
  rw [List.getElem?_map] at h
  simp only at h
  cases e : cs[i]? with
  | none => rw [e] at h; cases h
  | some c => rw [e] at h; cases h; exact ⟨c, rfl, rfl⟩
theorem signs_len (cs : List Nat) : (DL.signs (strOf cs)).length = cs.length := by simp [DL.signs, strOf]
theorem put_new {κ : Type} [DecidableEq κ] {kds : List (κ × D)} {k : κ} {d : D} (h : valD kds k = none) : putD kds k d = kds ++ [(k, d)] := by
  unfold putD
  rw [if_neg]
  intro z
  unfold valD at h
  rw [Option.map_eq_none_iff, List.find?_eq_none] at h
  rw [List.any_eq_true] at z
  obtain ⟨x, hx, e⟩ := z
  exact h x hx e
end Pace
end
section
set_option Elab.async false
set_option linter.all false
set_option maxRecDepth 100000
set_option maxHeartbeats 4000000
namespace Pace
open PySem PySem.Spec PyProof.Rows L2 DL
theorem strIn_sgn (c : Nat) (a : List Nat) : strIn (sgn c) (strOf a) = decide (c ∈ a) := by
  exact (StrLaws.found_one (strOf a) c).trans (decide_eq_decide.mpr (by simp [strOf]))
theorem cut_last {α : Type} (xs : List α) : DL.cutD xs none (some (-1)) = xs.dropLast := by
  unfold DL.cutD
  rw [HT.sIx_none, List.drop_zero, Nat.sub_zero, List.dropLast_eq_take]
  congr 1
  show (if (-1 : Int) < 0 then ((-1 : Int) + (xs.length : Int)).toNat else min (-1 : Int).toNat xs.length) = _
  rw [if_pos (by decide)]
  omega
theorem cut_tail {α : Type} (xs : List α) : DL.cutD xs (some 1) none = xs.tail := by
  unfold DL.cutD
  have e : HT.sIx xs.length 0 (some 1) = min 1 xs.length := HT.sIx_nat xs.length 0 1
  rw [HT.sIx_none, e]
  cases xs with
  | nil => rfl
  | cons x xs =>
    have : min 1 (x :: xs).length = 1 := by simp
    rw [this]
    simp
theorem cutS_strOf (cs : List Nat) (lo hi : Option Int) : cutS (strOf cs) lo hi = strOf (DL.cutD cs lo hi) := by
  unfold cutS DL.cutD
  rw [strOf_len]
  simp [strOf]
def abc : List Nat := [97, 98, 99, 100, 101, 102, 103, 104, 105, 106, 107, 108, 109, 110, 111, 112, 113, 114, 115, 116, 117, 118, 119, 120, 121, 122]
theorem abc_str : (Str.ofString "abcdefghijklmnopqrstuvwxyz") = strOf abc := by decide +kernel
/-- neighbours -/
def nbr {α : Type} (r : α → α → Bool) (l : List α) : Bool := (List.zipWith r l.dropLast l.tail).all id
def lettersB (cs : List Nat) : Bool := !cs.isEmpty && cs.all (fun c => decide (c ∈ abc)) && nbr (fun a b => decide (a < b)) cs
def mvB (hs ws : List Nat) (n : Nat) (m : Mv) : Bool := decide (m.h ∈ hs) && decide (m.c ∈ ws) && decide (m.t < n)
def mvLt (a b : Mv) : Bool := decide (a.h < b.h ∨ (a.h = b.h ∧ a.c < b.c))
def rowB (hs ws : List Nat) (n : Nat) (r : List Mv) : Bool := r.all (mvB hs ws n) && nbr mvLt r
theorem sgn_lt (a b : Nat) : D.lt (.str (sgn a)) (.str (sgn b)) = decide (a < b) := by
  rw [DL.lt_str]
  refine decide_eq_decide.mpr ?_
  simp [sgn, List.cons_lt_cons_iff]
theorem mv_lt (a b : Mv) : D.lt (.tup [.str (sgn a.h), .str (sgn a.c)]) (.tup [.str (sgn b.h), .str (sgn b.c)]) = mvLt a b := by
  have e : D.lt (.tup [.str (sgn a.h), .str (sgn a.c)]) (.tup [.str (sgn b.h), .str (sgn b.c)]) = PySem.W.dataLt (.tuple [.str (sgn a.h), .str (sgn a.c)]) (.tuple [.str (sgn b.h), .str (sgn b.c)]) := rfl
  rw [e, PySem.W.dataLt_pair rfl rfl]
  have e1 : ∀ x y : Nat, PyData.eqv (.str (sgn x)) (.str (sgn y)) = (x == y) := fun x y => by
    have := eqv_str (sgn x) (sgn y)
    rw [sgn_beq] at this
    exact this
  have e2 : ∀ x y : Nat, PySem.W.dataLt (.str (sgn x)) (.str (sgn y)) = decide (x < y) := fun x y => sgn_lt x y
  rw [e1, e1, e2, e2]
  unfold mvLt
  by_cases h : a.h = b.h
  · rw [if_pos (by simp [h])]
    by_cases h2 : a.c = b.c
    · rw [if_pos (by simp [h2])]; simp [h, h2]
    · rw [if_neg (by simp [h2])]; simp [h]
  · rw [if_neg (by simp [h])]; simp [h]
theorem mv_okL (a b : Mv) : okL (.tup [.str (sgn a.h), .str (sgn a.c)]) (.tup [.str (sgn b.h), .str (sgn b.c)]) = true := rfl
theorem str_nil : Str.ofString "" = strOf [] := by decide +kernel
theorem mv0 (m : Mv) : D.item (.tup [.str (sgn m.h), .str (sgn m.c), .int (m.t : Int)]) (.int 0) = some (.str (sgn m.h)) := rfl
theorem mv1 (m : Mv) : D.item (.tup [.str (sgn m.h), .str (sgn m.c), .int (m.t : Int)]) (.int 1) = some (.str (sgn m.c)) := rfl
theorem mv2 (m : Mv) : D.item (.tup [.str (sgn m.h), .str (sgn m.c), .int (m.t : Int)]) (.int 2) = some (.int (m.t : Int)) := rfl
theorem mv_cut (m : Mv) : DL.cutD [.str (sgn m.h), .str (sgn m.c), .int (m.t : Int)] none (some 2) = [D.str (sgn m.h), .str (sgn m.c)] := rfl
theorem nbr_cons {α : Type} (r : α → α → Bool) (a b : α) (l : List α) : nbr r (a :: b :: l) = (r a b && nbr r (b :: l)) := by
  unfold nbr
  simp [List.dropLast]
theorem nbr_pair {α : Type} {r : α → α → Bool} (tr : ∀ a b c, r a b = true → r b c = true → r a c = true) : ∀ l : List α, nbr r l = true → l.Pairwise fun a b => r a b = true
  | [], _ => .nil
  | [a], _ => by simp
  | a :: b :: l, h => by
    rw [nbr_cons, Bool.and_eq_true] at h
    have ih := nbr_pair tr (b :: l) h.2
    refine List.pairwise_cons.mpr ⟨fun c hc => ?_, ih⟩
    rcases List.mem_cons.mp hc with rfl | hc
    · exact h.1
    · exact tr a b c h.1 ((List.pairwise_cons.mp ih).1 c hc)
theorem mvLt_tr (a b c : Mv) (h1 : mvLt a b = true) (h2 : mvLt b c = true) : mvLt a c = true := by
  unfold mvLt at *
  simp only [decide_eq_true_eq] at *
  omega
/-- a row's keys -/
def mvK (m : Mv) : List Key × D := ([.inr (sgn m.h), .inr (sgn m.c)], .int (m.t : Int))
theorem mvK_ne {a b : Mv} (h : mvLt a b = true) : (mvK a).1 ≠ (mvK b).1 := by
  intro e
  simp only [mvK, List.cons.injEq, Sum.inr.injEq, and_true] at e
  have h1 := sgn_inj e.1
  have h2 := sgn_inj e.2
  unfold mvLt at h
  simp only [decide_eq_true_eq] at h
  omega
theorem merge_row : ∀ (r : List Mv) (acc : List (List Key × D)), (∀ m ∈ r, ∀ x ∈ acc, x.1 ≠ (mvK m).1) → r.Pairwise (fun a b => mvLt a b = true) → mergeDT acc (r.map mvK) = acc ++ r.map mvK
  | [], acc, _, _ => by simp [mergeDT]
  | m :: r, acc, h, hp => by
    rw [List.pairwise_cons] at hp
    have hv : valD acc (mvK m).1 = none := by
      unfold valD
      rw [Option.map_eq_none_iff, List.find?_eq_none]
      intro x hx
      simpa using h m (by simp) x hx
    show mergeDT (putD acc (mvK m).1 (mvK m).2) (r.map mvK) = _
    rw [put_new hv, merge_row r _ (fun m' hm' x hx => ?_) hp.2]
    · simp
    · rcases List.mem_append.mp hx with hx | hx
      · exact h m' (by simp [hm']) x hx
      · simp at hx; subst hx
        exact mvK_ne (hp.1 m' hm')
theorem merge_rowB {hs ws : List Nat} {n : Nat} {r : List Mv} (h : rowB hs ws n r = true) : mergeDT [] (r.map mvK) = r.map mvK := by
  unfold rowB at h
  rw [Bool.and_eq_true] at h
  have := merge_row r [] (fun _ _ x hx => by simp at hx) (nbr_pair mvLt_tr r h.2)
  simpa using this
theorem prsT_row : ∀ r : List Mv, prsT (r.map fun m => .tup [.tup [.str (sgn m.h), .str (sgn m.c)], .int (m.t : Int)]) = some (r.map mvK)
  | [] => rfl
  | m :: r => by
    simp only [List.map_cons, prsT, D.keys, D.key, prsT_row r]
    rfl
/-- rules that Rules takes -/
structure RulV (hs ws : List Nat) (rs : List (List Mv)) : Prop where
  lh : lettersB hs = true
  lw : lettersB ws = true
  sh : hs.length ≤ 1000
  sw : ws.length ≤ 1000
  n1 : 1 ≤ rs.length
  n2 : rs.length ≤ 999
  row : ∀ r ∈ rs, rowB hs ws rs.length r = true ∧ r.length ≤ 1000
def mkR (hs ws : List Nat) (rs : List (List Mv)) : Rul := ⟨strOf hs, strOf ws, rs⟩
theorem RulV.ok {hs ws : List Nat} {rs : List (List Mv)} (h : RulV hs ws rs) : (mkR hs ws rs).Ok where
  few := by have := h.n2; show rs.length ≤ 1000; omega
  at_ := fun r hr => by
    obtain ⟨a, b⟩ := h.row r hr
    refine ⟨b, fun m hm => ?_⟩
    unfold rowB at a
    rw [Bool.and_eq_true, List.all_eq_true] at a
    have := a.1 m hm
    unfold mvB at this
    simp only [Bool.and_eq_true, decide_eq_true_eq] at this
    exact this.2
theorem pf1 (a : D) : putFD "heard" a [] = [(("heard" : Str), a)] := rfl
theorem pf2 (a b : D) : putFD "written" b [(("heard" : Str), a)] = [(("heard" : Str), a), (("written" : Str), b)] := rfl
theorem pf3 (a b c : D) : putFD "rows" c [(("heard" : Str), a), (("written" : Str), b)] = [(("heard" : Str), a), (("written" : Str), b), (("rows" : Str), c)] := rfl
theorem pf4 (a b c d : D) : putFD "steps" d [(("heard" : Str), a), (("written" : Str), b), (("rows" : Str), c)] = [(("heard" : Str), a), (("written" : Str), b), (("rows" : Str), c), (("steps" : Str), d)] := rfl
end Pace
end
section
set_option Elab.async false
set_option linter.all false
set_option maxRecDepth 100000
set_option maxHeartbeats 4000000
namespace Pace
open PySem PySem.Spec PyProof.Rows L2 DL
/-- few enough for the set of what is reached -/
structure Few (rs : List (List Mv)) : Prop where
  few : ∃ B, (∀ r ∈ rs, r.length ≤ B) ∧ rs.length * B < 64
theorem flat_len {α β : Type} (f : α → List β) (B : Nat) : ∀ l : List α, (∀ a ∈ l, (f a).length ≤ B) → (l.flatMap f).length ≤ l.length * B
  | [], _ => by simp
  | a :: l, h => by
    have h1 := h a (by simp)
    have h2 := flat_len f B l fun b hb => h b (by simp [hb])
    simp only [List.flatMap_cons, List.length_append, List.length_cons]
    rw [Nat.add_mul]
    omega
theorem hits_len {rs : List (List Mv)} {B : Nat} (h : ∀ r ∈ rs, r.length ≤ B) (s c : Nat) : (hits rs s c).length ≤ B := by
  unfold hits
  rw [List.length_map]
  refine Nat.le_trans (List.length_filter_le _ _) ?_
  cases e : rs[s]? with
  | none => simp [List.getD, e]
  | some r => simpa [List.getD, e] using h r (List.mem_of_getElem? e)
theorem Few.len {rs : List (List Mv)} (h : Few rs) {ss : List Nat} (nd : ss.Nodup) (hl : ∀ s ∈ ss, s < rs.length) (c : Nat) : (ss.flatMap fun s => hits rs s c).length < 64 := by
  obtain ⟨B, h1, h2⟩ := h.few
  have h3 := flat_len (fun s => hits rs s c) B ss fun s _ => hits_len h1 s c
  have h4 := nodup_lt_len nd hl
  have h5 := Nat.mul_le_mul_right B h4
  omega
end Pace
end
section
set_option Elab.async false
set_option linter.all false
set_option maxRecDepth 100000
set_option maxHeartbeats 4000000
namespace Pace
open PySem PySem.Spec PyProof.Rows L2 DL
/-- a lot: states, moves -/
abbrev Lot := List (Nat × Mv)
def lt3 (a b : Mv) : Bool := if a.h == b.h then (if a.c == b.c then decide (a.t < b.t) else decide (a.c < b.c)) else decide (a.h < b.h)
def le3 (a b : Mv) : Bool := !lt3 b a
theorem lt3_iff (a b : Mv) : lt3 a b = true ↔ a.h < b.h ∨ (a.h = b.h ∧ (a.c < b.c ∨ (a.c = b.c ∧ a.t < b.t))) := by
  unfold lt3
  by_cases h : a.h = b.h
  · rw [if_pos (by simp [h])]
    by_cases h2 : a.c = b.c
    · rw [if_pos (by simp [h2])]; simp [h, h2]
    · rw [if_neg (by simp [h2])]; simp [h, h2]
  · rw [if_neg (by simp [h])]; simp [h]
theorem le3_tr (a b c : Mv) (h1 : le3 a b = true) (h2 : le3 b c = true) : le3 a c = true := by
  unfold le3 at *
  simp only [Bool.not_eq_true', Bool.eq_false_iff, ne_eq, lt3_iff] at *
  omega
theorem le3_tot (a b : Mv) : (le3 a b || le3 b a) = true := by
  unfold le3
  rw [Bool.or_eq_true, Bool.not_eq_true', Bool.not_eq_true', Bool.eq_false_iff, Bool.eq_false_iff, ne_eq, ne_eq, lt3_iff, lt3_iff]
  omega
def rowOf (lot : Lot) (s : Nat) : List Mv := ((lot.filter fun x => x.1 == s).map (·.2)).mergeSort le3
def rowsOf (lot : Lot) (n : Nat) : List (List Mv) := (List.range n).map (rowOf lot)
theorem rowOf_mem {lot : Lot} {s : Nat} {m : Mv} : m ∈ rowOf lot s ↔ (s, m) ∈ lot := by
  unfold rowOf
  rw [(List.mergeSort_perm _ _).mem_iff, List.mem_map]
  constructor
  · rintro ⟨x, hx, rfl⟩
    rw [List.mem_filter] at hx
    have : x.1 = s := by simpa using hx.2
    rw [← this]
    exact hx.1
  · exact fun h => ⟨(s, m), List.mem_filter.mpr ⟨h, by simp⟩, rfl⟩
/-- keys are met once -/
def LotNd (lot : Lot) : Prop := (lot.map fun x => (x.1, x.2.h, x.2.c)).Nodup
theorem nbr_of_pair {α : Type} {r : α → α → Bool} : ∀ {l : List α}, l.Pairwise (fun a b => r a b = true) → nbr r l = true
  | [], _ => rfl
  | [a], _ => rfl
  | a :: b :: l, h => by
    rw [nbr_cons, Bool.and_eq_true]
    rw [List.pairwise_cons] at h
    exact ⟨h.1 b (by simp), nbr_of_pair h.2⟩
theorem rowOf_lt {lot : Lot} (nd : LotNd lot) (s : Nat) : (rowOf lot s).Pairwise fun a b => mvLt a b = true := by
  have h1 : (rowOf lot s).Pairwise fun a b => le3 a b = true := List.pairwise_mergeSort (le := le3) le3_tr le3_tot _
  have h2 : (rowOf lot s).Pairwise fun a b => (a.h, a.c) ≠ (b.h, b.c) := by
    have pm : (rowOf lot s).Perm ((lot.filter fun x => x.1 == s).map (·.2)) := List.mergeSort_perm _ _
    refine (pm.pairwise_iff fun h => fun e => h e.symm).mpr ?_
    rw [List.pairwise_map]
    have h3 : lot.Pairwise fun x y => (x.1, x.2.h, x.2.c) ≠ (y.1, y.2.h, y.2.c) := by
      unfold LotNd at nd
      rw [List.nodup_iff_pairwise_ne, List.pairwise_map] at nd
      exact nd
    have h4 := h3.sublist (List.filter_sublist (p := fun x => x.1 == s))
    refine h4.imp_of_mem fun {x y} hx hy h e => h ?_
    rw [List.mem_filter] at hx hy
    have e1 : x.1 = s := by simpa using hx.2
    have e2 : y.1 = s := by simpa using hy.2
    simp only [Prod.mk.injEq] at e
    rw [e1, e2, e.1, e.2]
  refine (h1.and h2).imp fun {a b} h => ?_
  obtain ⟨h, n⟩ := h
  unfold le3 at h
  rw [Bool.not_eq_true', Bool.eq_false_iff, ne_eq, lt3_iff] at h
  unfold mvLt
  simp only [decide_eq_true_eq]
  simp only [ne_eq, Prod.mk.injEq] at n
  omega
theorem intL_si (ns : List Int) : D.sis (ns.map D.int) = true := by
  rw [sis_all]
  intro x hx
  obtain ⟨n, _, rfl⟩ := List.mem_map.mp hx
  rfl
theorem intL_ok (ns : List Int) : okE (.lst (ns.map D.int)) (.lst []) = true := by
  refine okE_si (x := .lst (ns.map D.int)) (y := .lst []) (intL_si ns) rfl ?_
  have : D.dps (ns.map D.int) ≤ 0 := dps_le fun x hx => by
    obtain ⟨n, _, rfl⟩ := List.mem_map.mp hx
    simp [D.dp]
  simp only [D.dp]
  omega
theorem intL_eqv (ns : List Int) : D.eqv (.lst (ns.map D.int)) (.lst []) = decide (ns = []) := by
  rw [Bool.eq_iff_iff, eqv_si (x := .lst (ns.map D.int)) (y := .lst []) (intL_si ns) rfl]
  simp
theorem pop_last (ns : List Int) (a : Int) : ((ns ++ [a]).map D.int)[((ns ++ [a]).map D.int).length - 1]? = some (.int a) := by simp
theorem pop_rest (ns : List Int) (a : Int) : ((ns ++ [a]).map D.int).dropLast = ns.map D.int := by simp
end Pace
end
section
set_option Elab.async false
set_option linter.all false
set_option maxRecDepth 100000
set_option maxHeartbeats 4000000
namespace Pace
open PySem PySem.Spec PyProof.Rows L2 DL
theorem s_abc : Str.ofString "abc" = strOf [97, 98, 99] := by decide +kernel
theorem texts_sgn : ∀ cs : List Nat, texts (cs.map fun c => .str (sgn c)) = some (cs.map sgn)
  | [] => rfl
  | c :: cs => by simp [texts, texts_sgn cs]
theorem join_sgn : ∀ cs : List Nat, Txt.join (Str.ofString "") (cs.map sgn) = strOf cs := by
  have hn : ∀ x : Str, Str.ofString "" ++ x = x := fun x => by
    rw [str_nil]
    show (⟨#[] ++ x.cps⟩ : Str) = x
    simp
  intro cs
  rw [TL.join_eq]
  induction cs with
  | nil => rw [← str_nil]; rfl
  | cons c cs ih =>
    cases cs with
    | nil => rfl
    | cons d cs =>
      show sgn c ++ Str.ofString "" ++ Str.join (Str.ofString "") ((d :: cs).map sgn) = _
      rw [ih]
      have : sgn c ++ Str.ofString "" = sgn c := by
        rw [str_nil]
        show (⟨#[c] ++ #[]⟩ : Str) = _
        rfl
      rw [this]
      exact strOf_app [c] (d :: cs)
theorem sgn_sum (cs : List Nat) : ((cs.map sgn).map (·.length)).sum = cs.length := by
  induction cs with
  | nil => rfl
  | cons c cs ih =>
    simp only [List.map_cons, List.sum_cons, ih, List.length_cons]
    have : (sgn c).length = 1 := rfl
    omega
end Pace
end
section
set_option Elab.async false
set_option linter.all false
set_option maxRecDepth 100000
set_option maxHeartbeats 4000000
namespace Pace
open PySem PySem.Spec PyProof.Rows L2 DL
def key3 (x : Nat × Mv) : Nat × Nat × Nat := (x.1, x.2.h, x.2.c)
def lotPut (lot : Lot) (x : Nat × Mv) : Lot := if lot.any (fun y => decide (key3 y = key3 x)) then lot.map (fun y => if key3 y = key3 x then x else y) else lot ++ [x]
structure LotOk (sz : Nat) (hs ws : List Nat) (lot : Lot) : Prop where
  nd : LotNd lot
  at_ : ∀ x ∈ lot, x.1 < sz ∧ x.2.h ∈ hs ∧ x.2.c ∈ ws ∧ x.2.t < sz
theorem lotPut_keys (lot : Lot) (x : Nat × Mv) : (lotPut lot x).map key3 = if lot.any (fun y => decide (key3 y = key3 x)) then lot.map key3 else lot.map key3 ++ [key3 x] := by
  unfold lotPut
  split
  · rw [List.map_map]
    refine List.map_congr_left fun y _ => ?_
    simp only [Function.comp]
    split
    · rename_i h; exact h.symm
    · rfl
  · simp
theorem lotPut_mem {lot : Lot} {x y : Nat × Mv} (h : y ∈ lotPut lot x) : y ∈ lot ∨ y = x := by
  unfold lotPut at h
  split at h
  · obtain ⟨z, hz, rfl⟩ := List.mem_map.mp h
    split
    · exact .inr rfl
    · exact .inl hz
  · rcases List.mem_append.mp h with h | h
    · exact .inl h
    · simp at h; exact .inr h
theorem LotOk.put {sz : Nat} {hs ws : List Nat} {lot : Lot} (h : LotOk sz hs ws lot) {x : Nat × Mv} (hx : x.1 < sz ∧ x.2.h ∈ hs ∧ x.2.c ∈ ws ∧ x.2.t < sz) : LotOk sz hs ws (lotPut lot x) where
  nd := by
    have e := lotPut_keys lot x
    have n0 : (lot.map key3).Nodup := h.nd
    show ((lotPut lot x).map key3).Nodup
    rw [e]
    split
    · exact n0
    · rename_i hn
      rw [List.nodup_append]
      refine ⟨n0, by simp, fun a ha b hb => ?_⟩
      simp at hb
      subst hb
      intro e
      subst e
      obtain ⟨y, hy, e2⟩ := List.mem_map.mp ha
      exact hn (List.any_eq_true.mpr ⟨y, hy, by simpa using e2⟩)
  at_ := fun y hy => by
    rcases lotPut_mem hy with hy | rfl
    · exact h.at_ y hy
    · exact hx
theorem prod_len (a b : List Nat) : (a.flatMap fun x => b.map fun y => (x, y)).length = a.length * b.length := by
  induction a with
  | nil => simp
  | cons x a ih => simp only [List.flatMap_cons, List.length_append, List.length_map, ih, List.length_cons, Nat.add_mul]; omega
theorem row_few {sz : Nat} {hs ws : List Nat} {lot : Lot} (h : LotOk sz hs ws lot) (s : Nat) : (rowOf lot s).length ≤ hs.length * ws.length := by
  have hp := rowOf_lt h.nd s
  have nd : ((rowOf lot s).map fun m => (m.h, m.c)).Nodup := by
    rw [List.nodup_iff_pairwise_ne, List.pairwise_map]
    refine hp.imp fun {a b} hab e => ?_
    unfold mvLt at hab
    simp only [decide_eq_true_eq] at hab
    simp only [Prod.mk.injEq] at e
    omega
  have := List.Nodup.length_le_of_subset nd (l₂ := hs.flatMap fun x => ws.map fun y => (x, y)) fun p hp => by
    obtain ⟨m, hm, rfl⟩ := List.mem_map.mp hp
    obtain ⟨_, h2, h3, _⟩ := h.at_ _ (rowOf_mem.mp hm)
    exact List.mem_flatMap.mpr ⟨m.h, h2, List.mem_map.mpr ⟨m.c, h3, rfl⟩⟩
  rw [List.length_map, prod_len] at this
  exact this
theorem lot_few {sz : Nat} {hs ws : List Nat} {lot : Lot} (h : LotOk sz hs ws lot) : lot.length ≤ sz * (hs.length * ws.length) := by
  have nd : (lot.map key3).Nodup := h.nd
  have := List.Nodup.length_le_of_subset nd (l₂ := (List.range sz).flatMap fun s => (hs.flatMap fun x => ws.map fun y => (x, y)).map fun p => (s, p)) fun p hp => by
    obtain ⟨x, hx, rfl⟩ := List.mem_map.mp hp
    obtain ⟨h1, h2, h3, _⟩ := h.at_ _ hx
    exact List.mem_flatMap.mpr ⟨x.1, List.mem_range.mpr h1, List.mem_map.mpr ⟨(x.2.h, x.2.c), List.mem_flatMap.mpr ⟨x.2.h, h2, List.mem_map.mpr ⟨x.2.c, h3, rfl⟩⟩, rfl⟩⟩
  have e : ((List.range sz).flatMap fun s => (hs.flatMap fun x => ws.map fun y => (x, y)).map fun p => (s, p)).length ≤ sz * (hs.length * ws.length) := by
    have := flat_len (fun s => (hs.flatMap fun x => ws.map fun y => (x, y)).map fun p => (s, p)) (hs.length * ws.length) (List.range sz) fun s _ => by rw [List.length_map, prod_len]; exact Nat.le_refl _
    simpa using this
  rw [List.length_map] at this
  omega
theorem rowsOf_len (lot : Lot) (n : Nat) : (rowsOf lot n).length = n := by simp [rowsOf]
end Pace
end
section
set_option Elab.async false
set_option linter.all false
set_option maxRecDepth 100000
set_option maxHeartbeats 4000000
namespace Pace
open PySem PySem.Spec PyProof.Rows L2 DL
theorem snoc_ind {α : Type} {P : List α → Prop} (nil : P []) (snoc : ∀ l a, P l → P (l ++ [a])) (l : List α) : P l := by
  rw [← List.reverse_reverse l]
  induction l.reverse with
  | nil => exact nil
  | cons a l ih => rw [List.reverse_cons]; exact snoc _ _ ih
theorem szB {n : Nat} (h : n ≤ 1000000) : n ≤ sizeLine := by rw [sizeLine_eq]; omega
theorem map_get {α : Type} {f : α → D} {l : List α} {i : Nat} {d : D} (h : (l.map f)[i]? = some d) : ∃ a, l[i]? = some a ∧ d = f a := by
  rw [List.getElem?_map] at h
  cases e : l[i]? with
  | none => rw [e] at h; cases h
  | some a => rw [e] at h; cases h; exact ⟨a, rfl, rfl⟩
theorem take_snoc {α : Type} {l : List α} {i : Nat} {a : α} (h : l[i]? = some a) : l.take (i + 1) = l.take i ++ [a] := by rw [List.take_add_one, h]; rfl
theorem range_get {n : Nat} {i : Nat} {d : D} (h : ((List.range (n : Int).toNat).map fun (i : Nat) => D.int (i : Nat))[i]? = some d) : i < n ∧ d = .int (i : Int) := by
  obtain ⟨a, ha, rfl⟩ := map_get h
  obtain ⟨h1, h2⟩ := List.getElem?_eq_some_iff.mp ha
  rw [List.length_range, Int.toNat_natCast] at h1
  rw [List.getElem_range] at h2
  subst h2
  exact ⟨h1, rfl⟩
theorem range_len (n : Nat) : ((List.range (n : Int).toNat).map fun (i : Nat) => D.int (i : Nat)).length = n := by simp
def uD (hs ws : List Nat) (rs : List (List Mv)) : D := .dK [(.inr "hs", .str (strOf hs)), (.inr "cs", .str (strOf ws)), (.inr "lines", rowsD rs)]
theorem uD_cur (G : GH) (hs ws : List Nat) (rs : List (List Mv)) : D.cur G (uD hs ws rs) = uD hs ws rs := rfl
theorem uD_hs (hs ws : List Nat) (rs : List (List Mv)) : D.item (uD hs ws rs) (.str "hs") = some (.str (strOf hs)) := rfl
theorem uD_cs (hs ws : List Nat) (rs : List (List Mv)) : D.item (uD hs ws rs) (.str "cs") = some (.str (strOf ws)) := rfl
theorem uD_lines (hs ws : List Nat) (rs : List (List Mv)) : D.item (uD hs ws rs) (.str "lines") = some (rowsD rs) := rfl
theorem signs_map (hs : List Nat) : DL.signs (strOf hs) = hs.map fun c => .str (sgn c) := by
  simp [DL.signs, strOf]
  intro a _
  rfl
theorem cut_take {α : Type} (xs : List α) (k : Nat) : DL.cutD xs none (some (k : Int)) = xs.take k := by
  unfold DL.cutD
  rw [HT.sIx_none, HT.sIx_nat]
  simp only [List.drop_zero, Nat.sub_zero]
  by_cases h : k ≤ xs.length
  · rw [Nat.min_eq_left h]
  · rw [Nat.min_eq_right (by omega), List.take_length, List.take_of_length_le (by omega)]
theorem cut_drop {α : Type} (xs : List α) (k : Nat) : DL.cutD xs (some (k : Int)) none = xs.drop k := by
  unfold DL.cutD
  rw [HT.sIx_none, HT.sIx_nat]
  by_cases h : k ≤ xs.length
  · rw [Nat.min_eq_left h, List.take_of_length_le (by simp)]
  · rw [Nat.min_eq_right (by omega), List.drop_of_length_le (by omega), List.drop_of_length_le (by omega)]
    simp
theorem unsgn : ∀ {ys : List Str}, (∀ y ∈ ys, ∃ c, y = sgn c) → ∃ es : List Nat, ys = es.map sgn
  | [], _ => ⟨[], rfl⟩
  | y :: ys, h => by
    obtain ⟨c, rfl⟩ := h y (by simp)
    obtain ⟨es, rfl⟩ := unsgn fun z hz => h z (List.mem_cons_of_mem _ hz)
    exact ⟨c :: es, rfl⟩
theorem rising_sgn : ∀ (es : List Nat) (a : Nat), risingS (sgn a) (es.map sgn) = true → (a :: es).Nodup → nbr (fun a b => decide (a < b)) (a :: es) = true
  | [], a, _, _ => by simp [nbr]
  | b :: es, a, h, nd => by
    rw [nbr_cons]
    simp only [List.map_cons, risingS, Bool.and_eq_true] at h
    have ih := rising_sgn es b h.2 (List.nodup_cons.mp nd).2
    rw [ih, Bool.and_true]
    have h1 := h.1
    have hne : a ≠ b := fun e => by subst e; simp at nd
    have : ¬ b < a := by
      intro hlt
      have e : ltCps (sgn b).cps.toList (sgn a).cps.toList = true := by
        show ltCps [b] [a] = true
        simp [ltCps, hlt]
      rw [e] at h1
      cases h1
    simpa using (by omega : a < b)
theorem letters_of {cs es : List Nat} {ys : List Str} (hc : ∀ c ∈ cs, c ∈ abc) (h0 : 0 < cs.length) (e : ys = es.map sgn) (pm : ys.Perm (firstsF (cs.map sgn))) (so : sortedS ys = true) : lettersB es = true ∧ es.length ≤ cs.length := by
  subst e
  have nd : (es.map sgn).Nodup := pm.nodup_iff.mpr (firstsF_nodup _)
  have nde : es.Nodup := by
    rw [List.Nodup, List.pairwise_map] at nd
    exact nd.imp fun h z => h (by rw [z])
  have hl : es.length ≤ cs.length := by
    have h1 := pm.length_eq
    have h2 := firstsF_len (cs.map sgn)
    simp only [List.length_map] at h1 h2
    omega
  have hm : ∀ x ∈ es, x ∈ cs := fun x hx => by
    have h1 : sgn x ∈ cs.map sgn := firstsF_mem.mp (pm.mem_iff.mp (List.mem_map.mpr ⟨x, hx, rfl⟩))
    obtain ⟨y, hy, he⟩ := List.mem_map.mp h1
    rw [← sgn_inj he]; exact hy
  refine ⟨?_, hl⟩
  unfold lettersB
  simp only [Bool.and_eq_true]
  refine ⟨⟨?_, ?_⟩, ?_⟩
  · cases es with
    | nil =>
      exfalso
      cases cs with
      | nil => cases h0
      | cons c cs =>
        have : sgn c ∈ firstsF ((c :: cs).map sgn) := firstsF_mem.mpr (by simp)
        rw [← pm.mem_iff] at this
        cases this
    | cons a l => rfl
  · rw [List.all_eq_true]
    intro x hx
    simpa using hc x (hm x hx)
  · cases es with
    | nil => simp [nbr]
    | cons a l => exact rising_sgn l a so nde
/-- drawn rules -/
structure Wor (top : Nat) (tot : Bool) (hs ws : List Nat) (rs : List (List Mv)) : Prop where
  val : RulV hs ws rs
  n : rs.length ≤ top
  hs3 : hs.length ≤ 3
  ws3 : ws.length ≤ 3
  row : ∀ r ∈ rs, r.length ≤ 9
  full : tot = true → ∀ r ∈ rs, ∀ h ∈ hs, ∃ m ∈ r, m.h = h
/-- a row as far as its first letters -/
structure RowP (hs ws : List Nat) (n : Nat) (tot : Bool) (j : Nat) (row : List Mv) : Prop where
  mv : ∀ m ∈ row, mvB hs ws n m = true
  lt : row.Pairwise fun a b => mvLt a b = true
  le : ∀ m ∈ row, m.h ∈ hs.take j
  len : row.length ≤ 3 * j
  full : tot = true → ∀ h ∈ hs.take j, ∃ m ∈ row, m.h = h
theorem RowP.start {hs ws : List Nat} {n : Nat} {tot : Bool} : RowP hs ws n tot 0 [] := ⟨by simp, by simp, by simp, by simp, by simp⟩
theorem letters_lt {cs : List Nat} (h : lettersB cs = true) : cs.Pairwise (· < ·) := by
  unfold lettersB at h
  simp only [Bool.and_eq_true] at h
  exact (nbr_pair (r := fun a b => decide (a < b)) (fun a b c h1 h2 => by simp at h1 h2 ⊢; omega) cs h.2).imp fun h => by simpa using h
theorem letters_pos {cs : List Nat} (h : lettersB cs = true) : 1 ≤ cs.length := by
  cases cs with
  | nil => simp [lettersB] at h
  | cons a l => simp
theorem take_lt {hs : List Nat} (h : hs.Pairwise (· < ·)) {j : Nat} {c : Nat} (hc : hs[j]? = some c) : ∀ x ∈ hs.take j, x < c := by
  intro x hx
  obtain ⟨h1, h2⟩ := List.getElem?_eq_some_iff.mp hc
  obtain ⟨i, hi, e⟩ := List.mem_iff_getElem.mp hx
  rw [List.length_take] at hi
  rw [List.getElem_take] at e
  rw [← e, ← h2]
  exact List.pairwise_iff_getElem.mp h i j (by omega) h1 (by omega)
theorem RowP.step {hs ws : List Nat} {n : Nat} {tot : Bool} {j : Nat} {row ts : List Mv} {cs : List Nat} {h : Nat} (rp : RowP hs ws n tot j row) (lh : hs.Pairwise (· < ·)) (lw : ws.Pairwise (· < ·)) (w3 : ws.length ≤ 3) (hh : hs[j]? = some h) (sl : cs.Sublist ws) (ne : tot = true → cs ≠ []) (ec : ts.map (·.c) = cs)
    (ht : ∀ t ∈ ts, t.h = h ∧ t.t < n) : RowP hs ws n tot (j + 1) (row ++ ts) where
  mv := fun m hm => by
    rcases List.mem_append.mp hm with hm | hm
    · exact rp.mv m hm
    · obtain ⟨h1, h2⟩ := ht m hm
      have h3 : m.c ∈ ws := sl.subset (by rw [← ec]; exact List.mem_map.mpr ⟨m, hm, rfl⟩)
      have h4 := List.mem_of_getElem? hh
      simp [mvB, h1, h2, h3, h4]
  lt := by
    rw [List.pairwise_append]
    refine ⟨rp.lt, ?_, fun a ha b hb => ?_⟩
    · have h1 : (ts.map (·.c)).Pairwise (· < ·) := by rw [ec]; exact lw.sublist sl
      rw [List.pairwise_map] at h1
      refine h1.imp_of_mem fun {a b} ha hb hab => ?_
      have := (ht a ha).1; have := (ht b hb).1
      simp only [mvLt, decide_eq_true_eq]
      right
      omega
    · have h1 := take_lt lh hh a.h (rp.le a ha)
      have h2 := (ht b hb).1
      simp only [mvLt, decide_eq_true_eq]
      left
      omega
  le := fun m hm => by
    rw [take_snoc hh]
    rcases List.mem_append.mp hm with hm | hm
    · exact List.mem_append_left _ (rp.le m hm)
    · rw [(ht m hm).1]; simp
  len := by
    have h1 := rp.len
    have h2 : ts.length = cs.length := by rw [← ec, List.length_map]
    have h3 := sl.length_le
    rw [List.length_append]
    omega
  full := fun ht0 x hx => by
    rw [take_snoc hh] at hx
    rcases List.mem_append.mp hx with hx | hx
    · obtain ⟨m, hm, e⟩ := rp.full ht0 x hx
      exact ⟨m, List.mem_append_left _ hm, e⟩
    · rw [List.mem_singleton] at hx
      subst hx
      have := ne ht0
      cases ts with
      | nil => rw [← ec] at this; simp at this
      | cons t l => exact ⟨t, by simp, (ht t (by simp)).1⟩
theorem RowP.row {hs ws : List Nat} {n : Nat} {tot : Bool} {row : List Mv} (rp : RowP hs ws n tot hs.length row) : rowB hs ws n row = true := by
  unfold rowB
  rw [Bool.and_eq_true, List.all_eq_true]
  exact ⟨rp.mv, nbr_of_pair rp.lt⟩
theorem Wor.few {top : Nat} {tot : Bool} {hs ws : List Nat} {rs : List (List Mv)} (w : Wor top tot hs ws rs) (h5 : top ≤ 5 := by decide) : Few rs := ⟨9, w.row, by have := w.n; omega⟩
end Pace
end
section
set_option Elab.async false
set_option linter.all false
set_option maxRecDepth 100000
set_option maxHeartbeats 4000000
namespace Pace
open PySem PySem.Spec PyProof.Rows L2 DL
def sl (p q : List Nat) : Prop := p.length < q.length ∨ (p.length = q.length ∧ p < q)
def sle (p q : List Nat) : Prop := p = q ∨ sl p q
theorem lt_app : ∀ {p q : List Nat} (x y : List Nat), p.length = q.length → p < q → p ++ x < q ++ y
  | [], [], x, y, _, h => absurd h (List.not_lt_nil _)
  | [], _ :: _, x, y, h, _ => by simp at h
  | _ :: _, [], x, y, h, _ => by simp at h
  | a :: p, b :: q, x, y, h, hl => by
    rw [List.cons_append, List.cons_append, List.cons_lt_cons_iff]
    rw [List.cons_lt_cons_iff] at hl
    rcases hl with hl | ⟨e, hl⟩
    · exact .inl hl
    · exact .inr ⟨e, lt_app x y (by simpa using h) hl⟩
theorem sl.snoc {p q : List Nat} (c d : Nat) (h : sl p q) : sl (p ++ [c]) (q ++ [d]) := by
  rcases h with h | ⟨h, hl⟩
  · left; simpa using h
  · right; exact ⟨by simpa using h, lt_app _ _ h hl⟩
theorem sl.trans {p q r : List Nat} (h1 : sl p q) (h2 : sl q r) : sl p r := by
  rcases h1 with h1 | ⟨e1, h1⟩ <;> rcases h2 with h2 | ⟨e2, h2⟩
  · left; omega
  · left; omega
  · left; omega
  · right; exact ⟨by omega, List.lt_trans h1 h2⟩
theorem sle.trans {p q r : List Nat} (h1 : sle p q) (h2 : sle q r) : sle p r := by
  rcases h1 with rfl | h1
  · exact h2
  · rcases h2 with rfl | h2
    · exact .inr h1
    · exact .inr (h1.trans h2)
theorem sle.snoc {p q : List Nat} (c : Nat) (h : sle p q) : sle (p ++ [c]) (q ++ [c]) := by
  rcases h with rfl | h
  · exact .inl rfl
  · exact .inr (h.snoc c c)
def Done (rs : List (List Mv)) (ord : Ord) (y : List Nat × List Nat) (c : Nat) : Prop := behind rs y.1 c ≠ [] ∧ ∃ z ∈ ord, z.1 = behind rs y.1 c ∧ sle z.2 (y.2 ++ [c])
theorem Done.mono {rs : List (List Mv)} {ord more : Ord} {y : List Nat × List Nat} {c : Nat} (h : Done rs ord y c) : Done rs (ord ++ more) y c := by
  obtain ⟨h1, z, hz, h2⟩ := h
  exact ⟨h1, z, List.mem_append_left _ hz, h2⟩
/-- what holds ahead of the entry at i -/
structure BI (rs : List (List Mv)) (hs : List Nat) (i : Nat) (pre : List Nat) (ord : Ord) : Prop where
  ok : OrdOk rs hs ord
  st : ([0], []) ∈ ord
  inc : (ord.map (·.2)).Pairwise sl
  frm : ∀ x ∈ ord, x.2 = [] ∨ ∃ (j : Nat) (y : List Nat × List Nat) (c : Nat), ord[j]? = some y ∧ x.2 = y.2 ++ [c] ∧ (j < i ∨ (j = i ∧ c ∈ pre))
  dn : ∀ (j : Nat) (y : List Nat × List Nat), j < i → ord[j]? = some y → ∀ c ∈ hs, Done rs ord y c
  dh : ∀ (y : List Nat × List Nat), ord[i]? = some y → ∀ c ∈ pre, Done rs ord y c
theorem BI.next {rs : List (List Mv)} {hs : List Nat} {i : Nat} {ord : Ord} (h : BI rs hs i hs ord) : BI rs hs (i + 1) [] ord where
  ok := h.ok
  st := h.st
  inc := h.inc
  frm := fun x hx => by
    rcases h.frm x hx with e | ⟨j, y, c, h1, h2, h3⟩
    · exact .inl e
    · exact .inr ⟨j, y, c, h1, h2, .inl (by omega)⟩
  dn := fun j y hj hy c hc => by
    by_cases e : j < i
    · exact h.dn j y e hy c hc
    · have : j = i := by omega
      subst this
      exact h.dh y hy c hc
  dh := fun _ _ _ hc => by cases hc
end Pace
end
section
set_option Elab.async false
set_option linter.all false
set_option maxRecDepth 100000
set_option maxHeartbeats 4000000
namespace Pace
open PySem PySem.Spec PyProof.Rows L2 DL
def step1 (rs : List (List Mv)) (s h c : Nat) : Option Nat := ((rs.getD s []).find? fun m => m.h == h && m.c == c).map (·.t)
def ledN (rs : List (List Mv)) (s : Nat) (ks : List (Nat × Nat)) : Option Nat := ks.foldl (fun o k => o.bind fun s => step1 rs s k.1 k.2) (some s)
theorem ledN_snoc {rs : List (List Mv)} {s : Nat} {ks : List (Nat × Nat)} {k : Nat × Nat} : ledN rs s (ks ++ [k]) = (ledN rs s ks).bind fun s => step1 rs s k.1 k.2 := by simp [ledN]
theorem step1_lt {rs : List (List Mv)} (tl : ∀ r ∈ rs, ∀ m ∈ r, m.t < rs.length) {s h c t : Nat} (e : step1 rs s h c = some t) : t < rs.length := by
  unfold step1 at e
  obtain ⟨m, hm, rfl⟩ := Option.map_eq_some_iff.mp e
  have h1 := List.mem_of_find?_eq_some hm
  cases er : rs[s]? with
  | none => simp [List.getD, er] at h1
  | some r =>
    simp only [List.getD, er, Option.getD_some] at h1
    exact tl r (List.mem_of_getElem? er) m h1
theorem ledN_lt {rs : List (List Mv)} (tl : ∀ r ∈ rs, ∀ m ∈ r, m.t < rs.length) {s : Nat} (hs : s < rs.length) (ks : List (Nat × Nat)) : ∀ {t : Nat}, ledN rs s ks = some t → t < rs.length := by
  induction ks using snoc_ind with
  | nil => intro t h; simp [ledN] at h; omega
  | snoc ks k ih =>
    intro t h
    rw [ledN_snoc] at h
    obtain ⟨u, hu, h⟩ := Option.bind_eq_some_iff.mp h
    exact step1_lt tl h
end Pace
end
section
set_option Elab.async false
set_option linter.all false
set_option maxRecDepth 100000
set_option maxHeartbeats 4000000
namespace DL
open PySem PySem.Spec PyProof.Rows L2
end DL
end
section
set_option Elab.async false
set_option linter.all false
set_option maxRecDepth 100000
set_option maxHeartbeats 4000000
namespace Pace
open PySem PySem.Spec PyProof.Rows L2 DL
theorem sorted_ext : ∀ {a b : List Nat}, a.Pairwise (· < ·) → b.Pairwise (· < ·) → (∀ k, k ∈ a ↔ k ∈ b) → a = b
  | [], [], _, _, _ => rfl
  | [], y :: b, _, _, h => absurd ((h y).mpr (by simp)) (by simp)
  | x :: a, [], _, _, h => absurd ((h x).mp (by simp)) (by simp)
  | x :: a, y :: b, ha, hb, h => by
    rw [List.pairwise_cons] at ha hb
    have e : x = y := by
      rcases List.mem_cons.mp ((h x).mp (by simp)) with e | e
      · exact e
      · rcases List.mem_cons.mp ((h y).mpr (by simp)) with e2 | e2
        · exact e2.symm
        · have := ha.1 y e2
          have := hb.1 x e
          omega
    subst e
    rw [sorted_ext ha.2 hb.2 fun k => ?_]
    constructor
    · intro hk
      rcases List.mem_cons.mp ((h k).mp (List.mem_cons_of_mem _ hk)) with e | e
      · have := ha.1 k hk; omega
      · exact e
    · intro hk
      rcases List.mem_cons.mp ((h k).mpr (List.mem_cons_of_mem _ hk)) with e | e
      · have := hb.1 k hk; omega
      · exact e
end Pace
end
section
set_option Elab.async false
set_option linter.all false
set_option maxRecDepth 100000
set_option maxHeartbeats 4000000
namespace Pace
open PySem PySem.Spec PyProof.Rows L2 DL
mutual
def leafD (m : Nat) : D → Bool
  | .int i => decide (i.natAbs ≤ 10 ^ 39 + m)
  | .str x => x.cps.toList.all fun c => decide (c < 128)
  | .tup xs | .lst xs => leafsD m xs
  | .kup _ => false
  | _ => true
def leafsD (m : Nat) : List D → Bool
  | [] => true
  | x :: xs => leafD m x && leafsD m xs
end
def bkD (x : D) : Nat := x.pyR.bulk
def bksD (xs : List D) : Nat := (xs.map fun x => bkD x + 1).sum
structure One (m n : Nat) (d : D) : Prop where
  pl : d.plR = true
  lf : leafD m d = true
  dp : d.pyR.depth ≤ n
structure Odd (m n w : Nat) (d : D) : Prop where
  one : One m n d
  bk : bkD d ≤ w
theorem plsR_all : ∀ xs : List D, D.plsR xs = true ↔ ∀ x ∈ xs, x.plR = true
  | [] => by simp [D.plsR]
  | x :: xs => by simp [D.plsR, plsR_all xs]
theorem leafsD_all (m : Nat) : ∀ xs : List D, leafsD m xs = true ↔ ∀ x ∈ xs, leafD m x = true
  | [] => by simp [leafsD]
  | x :: xs => by simp [leafsD, leafsD_all m xs]
theorem depthsR (n : Nat) : ∀ xs : List D, PyData.depthAll (D.pysR xs) ≤ n ↔ ∀ x ∈ xs, x.pyR.depth ≤ n
  | [] => by simp [D.pysR, PyData.depthAll]
  | x :: xs => by
    have := depthsR n xs
    simp only [D.pysR, PyData.depthAll, List.forall_mem_cons, ← this]
    exact Nat.max_le
theorem bulksR : ∀ xs : List D, PyData.bulkAll (D.pysR xs) = bksD xs
  | [] => rfl
  | x :: xs => by
    have := bulksR xs
    simp only [D.pysR, PyData.bulkAll, this, bksD, bkD, List.map_cons, List.sum_cons]
theorem One.mono {m n m' n' : Nat} {d : D} (h : One m n d) (h1 : m ≤ m') (h2 : n ≤ n') : One m' n' d := by
  have aux : ∀ k : Nat, (∀ d : D, sizeOf d ≤ k → leafD m d = true → leafD m' d = true) ∧ (∀ ds : List D, sizeOf ds ≤ k → leafsD m ds = true → leafsD m' ds = true) := by
    intro k
    induction k with
    | zero =>
      refine ⟨fun d hd => ?_, fun ds hd => ?_⟩
      · cases d <;> simp at hd
      · cases ds <;> simp at hd
    | succ k ih =>
      refine ⟨fun d hd hl => ?_, fun ds hd hl => ?_⟩
      · cases d with
        | int i => simp only [leafD, decide_eq_true_eq] at hl ⊢; omega
        | tup xs => exact ih.2 xs (by simp at hd; omega) hl
        | lst xs => exact ih.2 xs (by simp at hd; omega) hl
        | str x => exact hl
        | kup xs => cases hl
        | _ => rfl
      · cases ds with
        | nil => rfl
        | cons x xs =>
          have l' : leafD m x = true ∧ leafsD m xs = true := by simpa [leafsD] using hl
          show (leafD m' x && leafsD m' xs) = true
          rw [ih.1 x (by simp at hd; omega) l'.1, ih.2 xs (by simp at hd; omega) l'.2]; rfl
  exact ⟨h.pl, (aux (sizeOf d)).1 d (Nat.le_refl _) h.lf, Nat.le_trans h.dp h2⟩
theorem one_tup {m n : Nat} {xs : List D} : One m (n + 1) (.tup xs) ↔ ∀ x ∈ xs, One m n x := by
  constructor
  · intro h x hx
    exact ⟨(plsR_all xs).mp h.pl x hx, (leafsD_all m xs).mp h.lf x hx, (depthsR n xs).mp (Nat.le_of_succ_le_succ h.dp) x hx⟩
  · intro h
    exact ⟨(plsR_all xs).mpr fun x hx => (h x hx).pl, (leafsD_all m xs).mpr fun x hx => (h x hx).lf, Nat.succ_le_succ ((depthsR n xs).mpr fun x hx => (h x hx).dp)⟩
theorem one_lst {m n : Nat} {xs : List D} : One m (n + 1) (.lst xs) ↔ ∀ x ∈ xs, One m n x := by
  constructor
  · intro h x hx
    exact ⟨(plsR_all xs).mp h.pl x hx, (leafsD_all m xs).mp h.lf x hx, (depthsR n xs).mp (Nat.le_of_succ_le_succ h.dp) x hx⟩
  · intro h
    exact ⟨(plsR_all xs).mpr fun x hx => (h x hx).pl, (leafsD_all m xs).mpr fun x hx => (h x hx).lf, Nat.succ_le_succ ((depthsR n xs).mpr fun x hx => (h x hx).dp)⟩
theorem bk_tup (xs : List D) : bkD (.tup xs) = bksD xs := bulksR xs
theorem bk_lst (xs : List D) : bkD (.lst xs) = bksD xs := bulksR xs
theorem Odd.mono {m n w m' n' w' : Nat} {d : D} (h : Odd m n w d) (h1 : m ≤ m') (h2 : n ≤ n') (h3 : w ≤ w') : Odd m' n' w' d := ⟨h.one.mono h1 h2, Nat.le_trans h.bk h3⟩
theorem bks_cons (x : D) (xs : List D) : bksD (x :: xs) = bkD x + 1 + bksD xs := by simp [bksD]
theorem bks_nil : bksD [] = 0 := rfl
theorem oddP_non {m n w : Nat} : Odd m n w .non := ⟨⟨rfl, rfl, Nat.zero_le _⟩, Nat.zero_le _⟩
theorem oddP_bl {m n w : Nat} {b : Bool} : Odd m n w (.bl b) := ⟨⟨rfl, rfl, Nat.zero_le _⟩, Nat.zero_le _⟩
theorem oddP_int {m n w : Nat} {i : Int} (h : i.natAbs ≤ 10 ^ 39 + m) : Odd m n w (.int i) := ⟨⟨rfl, by simp only [leafD, decide_eq_true_eq]; exact h, Nat.zero_le _⟩, Nat.zero_le _⟩
theorem oddP_str {m n w : Nat} {cs : List Nat} (h : ∀ c ∈ cs, c < 128) (hl : cs.length ≤ w) : Odd m n w (.str (strOf cs)) :=
  ⟨⟨rfl, by simp [leafD, strOf]; exact h, Nat.zero_le _⟩, by simp only [bkD, D.pyR, PyData.bulk, strOf, List.size_toArray]; exact hl⟩
theorem oddP_dK {m n w : Nat} : Odd m (n + 1) w (.dK []) := ⟨⟨rfl, rfl, by simp only [D.pyR, PyData.depth, PyData.depthKv]; omega⟩, Nat.zero_le _⟩
theorem oddP_tup {m n w : Nat} {xs : List D} (h : ∀ x ∈ xs, One m n x) (hb : bksD xs ≤ w) : Odd m (n + 1) w (.tup xs) := ⟨one_tup.mpr h, by rw [bk_tup]; exact hb⟩
theorem oddP_lst {m n w : Nat} {xs : List D} (h : ∀ x ∈ xs, One m n x) (hb : bksD xs ≤ w) : Odd m (n + 1) w (.lst xs) := ⟨one_lst.mpr h, by rw [bk_lst]; exact hb⟩
theorem strOf_cps (x : Str) : x = strOf x.cps.toList := by cases x; simp [strOf]
theorem leaf_short : ∀ (m : Nat), m ≤ 1000 → ∀ d : D, d.plR = true → leafD m d = true → d.pyR.showable = true ∧ d.pyR.leavesShort 45 = true := by
  intro m hm
  have aux : ∀ k : Nat, (∀ d : D, sizeOf d ≤ k → d.plR = true → leafD m d = true → d.pyR.showable = true ∧ d.pyR.leavesShort 45 = true) ∧ (∀ ds : List D, sizeOf ds ≤ k → D.plsR ds = true → leafsD m ds = true → PyData.showableAll (D.pysR ds) = true ∧ PyData.leavesShortAll 45 (D.pysR ds) = true) := by
    intro k
    induction k with
    | zero =>
      refine ⟨fun d hd => ?_, fun ds hd => ?_⟩
      · cases d <;> simp at hd
      · cases ds <;> simp at hd
    | succ k ih =>
      refine ⟨fun d hd hp hl => ?_, fun ds hd hp hl => ?_⟩
      · cases d with
        | non => exact ⟨rfl, rfl⟩
        | bl b => exact ⟨rfl, rfl⟩
        | int i =>
          have hi : i.natAbs ≤ 10 ^ 39 + m := by simpa [leafD] using hl
          have h40 : i.natAbs < 10 ^ 40 := by
            have : (10 : Nat) ^ 39 + m < 10 ^ 40 := by
              have e : (10 : Nat) ^ 40 = 10 * 10 ^ 39 := by decide
              have e2 : (1000 : Nat) ≤ 10 ^ 39 := by decide
              omega
            omega
          constructor
          · show decide (i.natAbs.log2 < 1920) = true
            rw [decide_eq_true_eq]
            by_cases h0 : i.natAbs = 0
            · rw [h0]; decide
            · have : i.natAbs.log2 < 140 := (Nat.log2_lt h0).mpr (Nat.lt_trans h40 (by decide))
              omega
          · show decide ((PyData.shown (.int i)).length ≤ 45) = true
            rw [decide_eq_true_eq]
            have e := int_text_length_le10 (k := 40) (by decide) h40
            show (Str.ofString (toString i)).length ≤ 45
            rw [PySem.ofString_length]; omega
        | str x =>
          refine ⟨rfl, ?_⟩
          show (x.cps.toList.all fun c => decide (c < 16 ^ 8)) = true
          rw [List.all_eq_true]
          intro c hc
          have : (x.cps.toList.all fun c => decide (c < 128)) = true := hl
          have := List.all_eq_true.mp this c hc
          simp only [decide_eq_true_eq] at this ⊢
          omega
        | tup xs => exact ih.2 xs (by simp at hd; omega) hp hl
        | lst xs => exact ih.2 xs (by simp at hd; omega) hp hl
        | dK kds => exact ⟨rfl, rfl⟩
        | ty n => cases hp
        | dT k => cases hp
        | obj C f => cases hp
        | rf a => cases hp
        | scr ns => cases hp
        | kup xs => cases hl
      · cases ds with
        | nil => exact ⟨rfl, rfl⟩
        | cons x xs =>
          have p' : x.plR = true ∧ D.plsR xs = true := by simpa [D.plsR] using hp
          have l' : leafD m x = true ∧ leafsD m xs = true := by simpa [leafsD] using hl
          have a := ih.1 x (by simp at hd; omega) p'.1 l'.1
          have b := ih.2 xs (by simp at hd; omega) p'.2 l'.2
          constructor
          · show (x.pyR.showable && PyData.showableAll (D.pysR xs)) = true
            rw [a.1, b.1]; rfl
          · show (x.pyR.leavesShort 45 && PyData.leavesShortAll 45 (D.pysR xs)) = true
            rw [a.2, b.2]; rfl
  exact fun d => (aux (sizeOf d)).1 d (Nat.le_refl _)
theorem Odd.repr {m n w : Nat} {d : D} (h : Odd m n w d) (hm : m ≤ 1000) (hn : n ≤ 60) (hw : w ≤ 100000) {G : GH} {Q : DQ} (q : Q (.str d.pyR.shown) G) : rReprG [d] G Q := by
  obtain ⟨h1, h2⟩ := leaf_short m hm d h.one.pl h.one.lf
  refine ⟨h.one.pl, h1, Nat.le_trans h.one.dp hn, ?_, q⟩
  have := PyData.shown_le_bulk 45 (by decide) d.pyR h2
  have hb : d.pyR.bulk ≤ w := h.bk
  have : (45 + 2) * d.pyR.bulk ≤ 47 * 100000 := Nat.mul_le_mul (by omega) (by omega)
  rw [sizeLine_eq]
  omega
end Pace
end
section
set_option Elab.async false
set_option linter.all false
set_option maxRecDepth 100000
set_option maxHeartbeats 4000000
namespace Pace
open PySem PySem.Spec PyProof.Rows L2 DL
def joinC (c : Nat) : List (List Nat) → List Nat
  | [] => []
  | [x] => x
  | x :: y :: r => x ++ c :: joinC c (y :: r)
theorem tl_strOf (x : List Nat) : TL.tl (strOf x) = x := by simp [TL.tl, strOf]
theorem join_strOf (c : Nat) : ∀ xs : List (List Nat), Txt.join (strOf [c]) (xs.map strOf) = strOf (joinC c xs) := by
  intro xs
  rw [TL.join_eq]
  induction xs with
  | nil => rfl
  | cons x xs ih =>
    cases xs with
    | nil => rfl
    | cons y r =>
      show strOf x ++ strOf [c] ++ Str.join (strOf [c]) ((y :: r).map strOf) = _
      rw [ih, strOf_app, strOf_app]
      simp [joinC]
theorem split_strOf {c : Nat} (hc : c < 256) {xs : List (List Nat)} (hne : xs ≠ []) (h : ∀ x ∈ xs, c ∉ x) : Txt.split (strOf (joinC c xs)) (strOf [c]) = xs.map strOf := by
  rw [← join_strOf]
  refine TL.split_join (s := c) (S := []) (tl_strOf [c]) (by simp [strOf]; exact hc) (by simpa using hne) fun p hp => ?_
  obtain ⟨x, hx, rfl⟩ := List.mem_map.mp hp
  rw [tl_strOf]
  exact h x hx
theorem joinC_len (c : Nat) : ∀ xs : List (List Nat), (joinC c xs).length ≤ (xs.map fun x => x.length + 1).sum
  | [] => Nat.le_refl _
  | [x] => by simp [joinC]
  | x :: y :: r => by
    have := joinC_len c (y :: r)
    simp only [joinC, List.length_append, List.length_cons, List.map_cons, List.sum_cons] at this ⊢
    omega
def numS (n : Nat) : List Nat := (Nat.toDigits 10 n).map Char.toNat
theorem str_num (n : Nat) : Str.ofString (toString (n : Int)) = strOf (numS n) := by
  rw [Str.ofString_eq_toList]
  have : (toString (n : Int)).toList = Nat.toDigits 10 n := by
    rw [Int.toString_eq_repr, Int.repr_eq_if]
    simp [Nat.toList_repr]
  rw [this]
  rfl
/-- read sign by sign -/
def valS (l : List Nat) : Nat := l.foldl (fun a c => a * 10 + (c - 48)) 0
def numB (n : Nat) : Bool := (numS n).all (fun c => decide (48 ≤ c) && decide (c ≤ 57)) && decide (1 ≤ (numS n).length) && decide ((numS n).length ≤ 3) && decide (valS (numS n) = n) && (decide ((numS n).head? ≠ some 48) || decide (numS n = [48]))
theorem num_all : (List.range 1000).all numB = true := by decide +kernel
structure Num (n : Nat) : Prop where
  dig : ∀ c ∈ numS n, 48 ≤ c ∧ c ≤ 57
  l1 : 1 ≤ (numS n).length
  l3 : (numS n).length ≤ 3
  val : valS (numS n) = n
  head : (numS n).head? ≠ some 48 ∨ numS n = [48]
theorem num_ok {n : Nat} (h : n < 1000) : Num n := by
  have := List.all_eq_true.mp num_all n (List.mem_range.mpr h)
  unfold numB at this
  simp only [Bool.and_eq_true, List.all_eq_true, decide_eq_true_eq, Bool.or_eq_true] at this
  exact ⟨this.1.1.1.1, this.1.1.1.2, this.1.1.2, this.1.2, this.2⟩
def wRules : List Nat := [114, 117, 108, 101, 115]
def wMove : List Nat := [109, 111, 118, 101]
theorem s_rules : Str.ofString "rules" = strOf wRules := by decide +kernel
theorem s_move : Str.ofString "move" = strOf wMove := by decide +kernel
theorem s_rulesB : Str.ofString "rules " = strOf (wRules ++ [32]) := by decide +kernel
theorem s_blank : Str.ofString " " = strOf [32] := by decide +kernel
theorem s_break : Str.ofString "\n" = strOf [10] := by decide +kernel
def headW (hs ws : List Nat) (n : Nat) : List (List Nat) := [wRules, hs, ws, numS n]
def moveW (x : Nat × Mv) : List (List Nat) := [wMove, numS x.1, [x.2.h], [x.2.c], numS x.2.t]
/-- all moves, one behind the other -/
def flatM (rs : List (List Mv)) : List (Nat × Mv) := (List.range rs.length).flatMap fun s => (rs.getD s []).map fun m => (s, m)
def linesOf (hs ws : List Nat) (rs : List (List Mv)) : List (List Nat) := joinC 32 (headW hs ws rs.length) :: (flatM rs).map fun x => joinC 32 (moveW x)
def textOf (hs ws : List Nat) (rs : List (List Mv)) : List Nat := joinC 10 (linesOf hs ws rs)
/-- rules that can be written -/
structure Wri (hs ws : List Nat) (rs : List (List Mv)) : Prop where
  val : RulV hs ws rs
  few : (flatM rs).length ≤ 5000
theorem letters_az {cs : List Nat} (h : lettersB cs = true) : ∀ c ∈ cs, 97 ≤ c ∧ c ≤ 122 := by
  have ab : ∀ c ∈ abc, 97 ≤ c ∧ c ≤ 122 := by decide +kernel
  unfold lettersB at h
  simp only [Bool.and_eq_true, List.all_eq_true, decide_eq_true_eq] at h
  exact fun c hc => ab c (h.1.2 c hc)
theorem flat_mem {rs : List (List Mv)} {x : Nat × Mv} (h : x ∈ flatM rs) : x.1 < rs.length ∧ ∃ r ∈ rs, x.2 ∈ r := by
  obtain ⟨s, hs, hx⟩ := List.mem_flatMap.mp h
  obtain ⟨m, hm, rfl⟩ := List.mem_map.mp hx
  have hs := List.mem_range.mp hs
  refine ⟨hs, rs[s], List.getElem_mem hs, ?_⟩
  rwa [List.getD_eq_getElem?_getD, List.getElem?_eq_getElem hs] at hm
structure MvP (hs ws : List Nat) (n : Nat) (x : Nat × Mv) : Prop where
  s : x.1 < n
  h : x.2.h ∈ hs
  c : x.2.c ∈ ws
  t : x.2.t < n
theorem Wri.mv {hs ws : List Nat} {rs : List (List Mv)} (w : Wri hs ws rs) : ∀ x ∈ flatM rs, MvP hs ws rs.length x := fun x hx => by
  obtain ⟨h1, r, hr, hm⟩ := flat_mem hx
  have := (w.val.row r hr).1
  unfold rowB at this
  simp only [Bool.and_eq_true, List.all_eq_true] at this
  have := this.1 _ hm
  unfold mvB at this
  simp only [Bool.and_eq_true, decide_eq_true_eq] at this
  exact ⟨h1, this.1.1, this.1.2, this.2⟩
theorem move_len {hs ws : List Nat} {n : Nat} {x : Nat × Mv} (hn : n ≤ 999) (hx : MvP hs ws n x) : (joinC 32 (moveW x)).length ≤ 20 := by
  have b1 := hx.s
  have b2 := hx.t
  have := (num_ok (show x.1 < 1000 by omega)).l3
  have := (num_ok (show x.2.t < 1000 by omega)).l3
  have := joinC_len 32 (moveW x)
  simp only [moveW, wMove, List.map_cons, List.map_nil, List.sum_cons, List.sum_nil, List.length_cons, List.length_nil] at this
  simp only [moveW, wMove]
  omega
theorem head_len {hs ws : List Nat} {n : Nat} (h1 : hs.length ≤ 1000) (h2 : ws.length ≤ 1000) (hn : n < 1000) : (joinC 32 (headW hs ws n)).length ≤ 2015 := by
  have := (num_ok hn).l3
  have := joinC_len 32 (headW hs ws n)
  simp only [headW, wRules, List.map_cons, List.map_nil, List.sum_cons, List.sum_nil, List.length_cons, List.length_nil] at this
  simp only [headW, wRules]
  omega
theorem sum_le {α : Type} {B : Nat} (f : α → Nat) : ∀ {l : List α}, (∀ x ∈ l, f x ≤ B) → (l.map f).sum ≤ l.length * B
  | [], _ => by simp
  | x :: l, h => by
    have := sum_le f (l := l) fun y hy => h y (List.mem_cons_of_mem _ hy)
    have := h x List.mem_cons_self
    simp only [List.map_cons, List.sum_cons, List.length_cons, Nat.add_mul]
    omega
theorem lines_sum {hs ws : List Nat} {rs : List (List Mv)} (w : Wri hs ws rs) : ((linesOf hs ws rs).map fun l => l.length + 1).sum ≤ 2016 + 5000 * 21 := by
  have n2 := w.val.n2
  have h1 := head_len w.val.sh w.val.sw (show rs.length < 1000 by omega)
  have h2 : (((flatM rs).map fun x => joinC 32 (moveW x)).map fun l => l.length + 1).sum ≤ (flatM rs).length * 21 := by
    rw [List.map_map]
    refine sum_le _ fun x hx => ?_
    have := move_len n2 (w.mv x hx)
    show (joinC 32 (moveW x)).length + 1 ≤ 21
    omega
  have := w.few
  have h3 : (flatM rs).length * 21 ≤ 5000 * 21 := Nat.mul_le_mul_right _ this
  simp only [linesOf, List.map_cons, List.sum_cons]
  omega
def rowAt (l : List (Nat × Mv)) (s : Nat) : List Mv := (l.filter fun x => x.1 == s).map (·.2)
def mvLtS (x y : Nat × Mv) : Prop := x.1 < y.1 ∨ (x.1 = y.1 ∧ mvLt x.2 y.2 = true)
end Pace
end
section
set_option Elab.async false
set_option linter.all false
set_option maxRecDepth 100000
set_option maxHeartbeats 4000000
namespace Pace
open PySem PySem.Spec PyProof.Rows L2 DL
def spl (c : Nat) : List Nat → List (List Nat)
  | [] => [[]]
  | a :: t => if a = c then [] :: spl c t else match spl c t with
    | [] => [[a]]
    | x :: r => (a :: x) :: r
theorem spl_ne (c : Nat) : ∀ t, spl c t ≠ []
  | [] => by simp [spl]
  | a :: t => by
    unfold spl
    split
    · simp
    · split <;> simp
theorem spl_join (c : Nat) : ∀ t, joinC c (spl c t) = t
  | [] => rfl
  | a :: t => by
    have ih := spl_join c t
    have ne := spl_ne c t
    unfold spl
    by_cases h : a = c
    · rw [if_pos h]
      cases e : spl c t with
      | nil => exact absurd e ne
      | cons x r =>
        rw [e] at ih
        show [] ++ c :: joinC c (x :: r) = _
        rw [ih, h]; rfl
    · rw [if_neg h]
      cases e : spl c t with
      | nil => exact absurd e ne
      | cons x r =>
        rw [e] at ih
        dsimp only
        cases r with
        | nil => simp only [joinC] at ih ⊢; rw [ih]
        | cons y r => simp only [joinC] at ih ⊢; rw [← ih]; rfl
theorem spl_not (c : Nat) : ∀ t, ∀ x ∈ spl c t, c ∉ x
  | [] => by simp [spl]
  | a :: t => by
    have ih := spl_not c t
    unfold spl
    by_cases h : a = c
    · rw [if_pos h]
      intro x hx
      rcases List.mem_cons.mp hx with rfl | hx
      · simp
      · exact ih x hx
    · rw [if_neg h]
      cases e : spl c t with
      | nil => exact absurd e (spl_ne c t)
      | cons y r =>
        rw [e] at ih
        intro x hx
        dsimp only at hx
        rcases List.mem_cons.mp hx with rfl | hx
        · intro z
          rcases List.mem_cons.mp z with z | z
          · exact h z.symm
          · exact ih y (by simp) z
        · exact ih x (by simp [hx])
theorem split_spl {c : Nat} (hc : c < 256) (t : List Nat) : Txt.split (strOf t) (strOf [c]) = (spl c t).map strOf := by
  conv => lhs; rw [← spl_join c t]
  exact split_strOf hc (spl_ne c t) (spl_not c t)
theorem spl_sum (c : Nat) : ∀ t, ((spl c t).map fun x => x.length + 1).sum = t.length + 1
  | [] => rfl
  | a :: t => by
    have ih := spl_sum c t
    unfold spl
    by_cases h : a = c
    · rw [if_pos h, List.map_cons, List.sum_cons, ih]; simp; omega
    · rw [if_neg h]
      cases e : spl c t with
      | nil => exact absurd e (spl_ne c t)
      | cons x r =>
        rw [e] at ih
        simp only [List.map_cons, List.sum_cons, List.length_cons] at ih ⊢
        omega
theorem spl_len (c : Nat) (t : List Nat) : (spl c t).length ≤ t.length + 1 := by
  rw [← spl_sum c t]
  generalize spl c t = l
  induction l with
  | nil => simp
  | cons x l ih => simp only [List.length_cons, List.map_cons, List.sum_cons]; omega
theorem mem_sum_le {l : List (List Nat)} {x : List Nat} (h : x ∈ l) : x.length + 1 ≤ (l.map fun x => x.length + 1).sum := by
  induction l with
  | nil => cases h
  | cons y l ih =>
    rw [List.map_cons, List.sum_cons]
    rcases List.mem_cons.mp h with rfl | h
    · omega
    · have := ih h; omega
theorem spl_mem (c : Nat) (t : List Nat) : ∀ x ∈ spl c t, x.length ≤ t.length := fun x hx => by
  have := mem_sum_le hx
  rw [spl_sum] at this
  omega
theorem spl_chr (c : Nat) : ∀ t, ∀ x ∈ spl c t, ∀ k ∈ x, k ∈ t
  | [] => by simp [spl]
  | a :: t => by
    have ih := spl_chr c t
    unfold spl
    by_cases h : a = c
    · rw [if_pos h]
      intro x hx k hk
      rcases List.mem_cons.mp hx with rfl | hx
      · cases hk
      · exact List.mem_cons_of_mem _ (ih x hx k hk)
    · rw [if_neg h]
      cases e : spl c t with
      | nil => exact absurd e (spl_ne c t)
      | cons y r =>
        rw [e] at ih
        intro x hx k hk
        dsimp only at hx
        rcases List.mem_cons.mp hx with rfl | hx
        · rcases List.mem_cons.mp hk with rfl | hk
          · simp
          · exact List.mem_cons_of_mem _ (ih y (by simp) k hk)
        · exact List.mem_cons_of_mem _ (ih x (by simp [hx]) k hk)
def digB (c : Nat) : Bool := decide (48 ≤ c) && decide (c ≤ 57)
def numOk (w : List Nat) : Bool := decide (1 ≤ w.length) && decide (w.length ≤ 3) && w.all digB && (decide (w.head? ≠ some 48) || decide (w = [48]))
def numO (w : List Nat) : Option Nat := if numOk w = true then some (valS w) else none
/-- what is true of all words of one to three digits -/
theorem words3 {p : List Nat → Bool} (h1 : (List.range 10).all (fun i => p [48 + i]) = true) (h2 : (List.range 10).all (fun i => (List.range 10).all fun j => p [48 + i, 48 + j]) = true)
    (h3 : (List.range 10).all (fun i => (List.range 10).all fun j => (List.range 10).all fun k => p [48 + i, 48 + j, 48 + k]) = true) {w : List Nat} (l1 : 1 ≤ w.length) (l3 : w.length ≤ 3) (hd : ∀ c ∈ w, digB c = true) : p w = true := by
  have dg : ∀ c, digB c = true → ∃ i, i ∈ List.range 10 ∧ c = 48 + i := fun c hc => by
    unfold digB at hc
    simp only [Bool.and_eq_true, decide_eq_true_eq] at hc
    exact ⟨c - 48, List.mem_range.mpr (by omega), by omega⟩
  match w, l1, l3, hd with
  | [a], _, _, hd =>
    obtain ⟨i, hi, rfl⟩ := dg a (hd a (by simp))
    exact List.all_eq_true.mp h1 i hi
  | [a, b], _, _, hd =>
    obtain ⟨i, hi, rfl⟩ := dg a (hd a (by simp))
    obtain ⟨j, hj, rfl⟩ := dg b (hd b (by simp))
    exact List.all_eq_true.mp (List.all_eq_true.mp h2 i hi) j hj
  | [a, b, c], _, _, hd =>
    obtain ⟨i, hi, rfl⟩ := dg a (hd a (by simp))
    obtain ⟨j, hj, rfl⟩ := dg b (hd b (by simp))
    obtain ⟨k, hk, rfl⟩ := dg c (hd c (by simp))
    exact List.all_eq_true.mp (List.all_eq_true.mp (List.all_eq_true.mp h3 i hi) j hj) k hk
  | a :: b :: c :: d :: l, _, l3, _ => simp at l3
def wordB (w : List Nat) : Bool := decide (valS w < 1000) && decide (PySem.intText? (strOf w) = some (valS w : Int)) && decide ((numS (valS w) = w) ↔ (w.head? ≠ some 48 ∨ w = [48]))
theorem word_all {w : List Nat} (l1 : 1 ≤ w.length) (l3 : w.length ≤ 3) (hd : ∀ c ∈ w, digB c = true) : wordB w = true :=
  words3 (by decide +kernel) (by decide +kernel) (by decide +kernel) l1 l3 hd
structure WordP (w : List Nat) : Prop where
  lt : valS w < 1000
  int : PySem.intText? (strOf w) = some (valS w : Int)
  back : (numS (valS w) = w) ↔ (w.head? ≠ some 48 ∨ w = [48])
theorem word_ok {w : List Nat} (l1 : 1 ≤ w.length) (l3 : w.length ≤ 3) (hd : ∀ c ∈ w, digB c = true) : WordP w := by
  have := word_all l1 l3 hd
  unfold wordB at this
  simp only [Bool.and_eq_true, decide_eq_true_eq] at this
  exact ⟨this.1.1, this.1.2, this.2⟩
theorem numO_lt {w : List Nat} {n : Nat} (h : numO w = some n) : n < 1000 := by
  unfold numO at h
  split at h
  · rename_i hk
    unfold numOk at hk
    simp only [Bool.and_eq_true, List.all_eq_true, decide_eq_true_eq] at hk
    have := (word_ok hk.1.1.1 hk.1.1.2 hk.1.2).lt
    cases h
    exact this
  · cases h
end Pace
end
section
set_option Elab.async false
set_option linter.all false
set_option maxRecDepth 100000
set_option maxHeartbeats 4000000
namespace Pace
open PySem PySem.Spec PyProof.Rows L2 DL
theorem letters_26n {cs : List Nat} (h : lettersB cs = true) : cs.length ≤ 26 := by
  have lt := letters_lt h
  have nd : cs.Nodup := lt.imp fun {a b} hab e => by omega
  have sub : ∀ c ∈ cs, c ∈ abc := by
    unfold lettersB at h
    simp only [Bool.and_eq_true, List.all_eq_true, decide_eq_true_eq] at h
    exact h.1.2
  have := nd.length_le_of_subset sub
  have e : abc.length = 26 := by decide +kernel
  omega
theorem emp_all {α β : Type} (f : α → β) (p : α → Bool) : ∀ w : List α, ((w.filter fun c => !p c).map f).isEmpty = w.all p
  | [] => rfl
  | a :: w => by
    have ih := emp_all f p w
    cases h : p a with
    | true => rw [List.filter_cons_of_neg (by simp [h]), ih, List.all_cons, h]; rfl
    | false => rw [List.filter_cons_of_pos (by simp [h]), List.all_cons, h]; rfl
def headP : List (List Nat) → Option (List Nat × List Nat × Nat)
  | [a, b, c, d] => if a = wRules then (match numO d with
    | some n => if (lettersB b && lettersB c && decide (n ≠ 0)) = true then some (b, c, n) else none
    | none => none) else none
  | _ => none
def headO (l : List Nat) : Option (List Nat × List Nat × Nat) := headP (spl 32 l)
structure HeadOk (hs ws : List Nat) (n : Nat) : Prop where
  lh : lettersB hs = true
  lw : lettersB ws = true
  n0 : 0 < n
  n1 : n < 1000
theorem headO_ok {l : List Nat} {hs ws : List Nat} {n : Nat} (h : headO l = some (hs, ws, n)) : HeadOk hs ws n := by
  unfold headO headP at h
  split at h
  · split at h
    · split at h
      · rename_i k hk
        split at h
        · rename_i q
          cases h
          simp only [Bool.and_eq_true, decide_eq_true_eq] at q
          exact ⟨q.1.1, q.1.2, by omega, numO_lt hk⟩
        · cases h
      · cases h
    · cases h
  · cases h
def moveP (hs ws : List Nat) (n : Nat) : List (List Nat) → Option (Nat × Mv)
  | [a, b, c, d, e] => if a = wMove then (match numO b, numO e, c, d with
    | some s, some t, [h], [k] => if s < n ∧ t < n ∧ h ∈ hs ∧ k ∈ ws then some (s, ⟨h, k, t⟩) else none
    | _, _, _, _ => none) else none
  | _ => none
def moveO (hs ws : List Nat) (n : Nat) (l : List Nat) : Option (Nat × Mv) := moveP hs ws n (spl 32 l)
theorem moveO_ok {hs ws l : List Nat} {n : Nat} {x : Nat × Mv} (h : moveO hs ws n l = some x) : MvP hs ws n x ∧ 4 ≤ l.length := by
  unfold moveO at h
  have ln := spl_mem 32 l
  generalize spl 32 l = ps at h ln
  unfold moveP at h
  split at h
  · rename_i a b c d e
    split at h
    · rename_i ea
      have := ln a (by simp)
      rw [ea] at this
      split at h
      · split at h
        · rename_i q
          cases h
          exact ⟨⟨q.1, q.2.2.1, q.2.2.2, q.2.1⟩, this⟩
        · cases h
      · cases h
    · cases h
  · cases h
def ltS (x y : Nat × Mv) : Bool := decide (x.1 < y.1) || (decide (x.1 = y.1) && mvLt x.2 y.2)
theorem ltS_iff (x y : Nat × Mv) : ltS x y = true ↔ mvLtS x y := by
  unfold ltS mvLtS
  simp
def lastLt (o : Option (Nat × Mv)) (x : Nat × Mv) : Bool := match o with
  | none => true
  | some y => ltS y x
def goP (hs ws : List Nat) (n : Nat) : List (List Nat) → Nat → List (Nat × Mv) → Sum Nat (List (Nat × Mv))
  | [], _, acc => .inr acc
  | l :: r, k, acc => match moveO hs ws n l with
    | none => .inl k
    | some x => if lastLt acc.getLast? x = true then goP hs ws n r (k + 1) (acc ++ [x]) else .inl k
theorem goP_nil (hs ws : List Nat) (n k : Nat) (acc : List (Nat × Mv)) : goP hs ws n [] k acc = .inr acc := by rw [goP]
theorem goP_cons (hs ws : List Nat) (n k : Nat) (l : List Nat) (r : List (List Nat)) (acc : List (Nat × Mv)) : goP hs ws n (l :: r) k acc = match moveO hs ws n l with
    | none => .inl k
    | some x => if lastLt acc.getLast? x = true then goP hs ws n r (k + 1) (acc ++ [x]) else .inl k := by rw [goP]
def parseT (t : List Nat) : Sum Nat (List Nat × List Nat × List (List Mv)) := match spl 10 t with
  | [] => .inl 0
  | l :: r => match headO l with
    | none => .inl 0
    | some (hs, ws, n) => match goP hs ws n r 1 [] with
      | .inl k => .inl k
      | .inr ms => .inr (hs, ws, (List.range n).map (rowAt ms))
theorem mvLt_trans {a b c : Mv} (h1 : mvLt a b = true) (h2 : mvLt b c = true) : mvLt a c = true := by
  unfold mvLt at *
  rw [decide_eq_true_eq] at *
  omega
theorem mvLtS_trans {a b c : Nat × Mv} (h1 : mvLtS a b) (h2 : mvLtS b c) : mvLtS a c := by
  unfold mvLtS at *
  rcases h1 with h1 | ⟨h1, h1'⟩ <;> rcases h2 with h2 | ⟨h2, h2'⟩
  · exact .inl (by omega)
  · exact .inl (by omega)
  · exact .inl (by omega)
  · exact .inr ⟨by omega, mvLt_trans h1' h2'⟩
structure AccOk (hs ws : List Nat) (n : Nat) (ms : List (Nat × Mv)) : Prop where
  mv : ∀ x ∈ ms, MvP hs ws n x
  lt : ms.Pairwise mvLtS
theorem AccOk.nil (hs ws : List Nat) (n : Nat) : AccOk hs ws n [] := ⟨by simp, List.Pairwise.nil⟩
theorem AccOk.snoc {hs ws : List Nat} {n : Nat} {ms : List (Nat × Mv)} {x : Nat × Mv} (h : AccOk hs ws n ms) (hx : MvP hs ws n x) (hl : lastLt ms.getLast? x = true) : AccOk hs ws n (ms ++ [x]) := by
  refine ⟨fun y hy => ?_, ?_⟩
  · rcases List.mem_append.mp hy with hy | hy
    · exact h.mv y hy
    · rw [List.mem_singleton.mp hy]; exact hx
  · rw [List.pairwise_append]
    refine ⟨h.lt, List.pairwise_singleton _ _, fun y hy z hz => ?_⟩
    rw [List.mem_singleton.mp hz]
    rcases List.eq_nil_or_concat ms with e | ⟨l, b, e⟩
    · rw [e] at hy; cases hy
    · rw [List.concat_eq_append] at e
      subst e
      rw [List.getLast?_append] at hl
      have hb : mvLtS b x := (ltS_iff _ _).mp (by simpa [lastLt] using hl)
      have hp := List.pairwise_append.mp h.lt
      rcases List.mem_append.mp hy with hy | hy
      · exact mvLtS_trans (hp.2.2 y hy b (by simp)) hb
      · rw [List.mem_singleton.mp hy]; exact hb
/-- the moves that all lines but the last ones tell -/
theorem goP_ok {hs ws : List Nat} {n : Nat} : ∀ {ls : List (List Nat)} {k : Nat} {acc ms : List (Nat × Mv)}, AccOk hs ws n acc → goP hs ws n ls k acc = .inr ms → AccOk hs ws n ms ∧ ms.length = acc.length + ls.length ∧ ∀ l ∈ ls, 4 ≤ l.length
  | [], k, acc, ms, h, e => by
    cases e
    exact ⟨h, by simp, by simp⟩
  | l :: r, k, acc, ms, h, e => by
    unfold goP at e
    split at e
    · cases e
    · rename_i x hx
      split at e
      · rename_i hl
        obtain ⟨m1, m2⟩ := moveO_ok hx
        obtain ⟨h1, h2, h3⟩ := goP_ok (h.snoc m1 hl) e
        refine ⟨h1, by rw [h2]; simp; omega, fun y hy => ?_⟩
        rcases List.mem_cons.mp hy with rfl | hy
        · exact m2
        · exact h3 y hy
      · cases e
theorem AccOk.rul {hs ws : List Nat} {n : Nat} {ms : List (Nat × Mv)} (h : AccOk hs ws n ms) (o : HeadOk hs ws n) (hl : ms.length ≤ 1000) : RulV hs ws ((List.range n).map (rowAt ms)) where
  lh := o.lh
  lw := o.lw
  sh := by have := letters_26n o.lh; omega
  sw := by have := letters_26n o.lw; omega
  n1 := by rw [List.length_map, List.length_range]; have := o.n0; omega
  n2 := by rw [List.length_map, List.length_range]; have := o.n1; omega
  row := fun r hr => by
    obtain ⟨s, hs_, rfl⟩ := List.mem_map.mp hr
    rw [List.length_map, List.length_range]
    refine ⟨?_, Nat.le_trans ?_ hl⟩
    · unfold rowB
      rw [Bool.and_eq_true]
      constructor
      · rw [List.all_eq_true]
        intro m hm
        unfold rowAt at hm
        obtain ⟨x, hx, rfl⟩ := List.mem_map.mp hm
        have mp := h.mv x (List.mem_filter.mp hx).1
        unfold mvB
        simp only [Bool.and_eq_true, decide_eq_true_eq]
        exact ⟨⟨mp.h, mp.c⟩, mp.t⟩
      · refine nbr_of_pair ?_
        unfold rowAt
        rw [List.pairwise_map]
        refine (h.lt.filter (fun x => x.1 == s)).imp_of_mem fun {a b} ha hb hab => ?_
        have e1 := (List.mem_filter.mp ha).2
        have e2 := (List.mem_filter.mp hb).2
        simp only [beq_iff_eq] at e1 e2
        rcases hab with q | ⟨_, q⟩
        · omega
        · exact q
    · unfold rowAt
      rw [List.length_map]
      exact List.length_filter_le _ _
theorem sum5 {ls : List (List Nat)} (h : ∀ l ∈ ls, 4 ≤ l.length) : ls.length * 5 ≤ (ls.map fun x => x.length + 1).sum := by
  induction ls with
  | nil => simp
  | cons a ls ih =>
    have h1 := h a (by simp)
    have h2 := ih fun l hl => h l (by simp [hl])
    rw [List.length_cons, List.map_cons, List.sum_cons]
    omega
theorem parse_rul {t : List Nat} {hs ws : List Nat} {rs : List (List Mv)} (ht : t.length ≤ 4800) (h : parseT t = .inr (hs, ws, rs)) : RulV hs ws rs := by
  unfold parseT at h
  have sm := spl_sum 10 t
  split at h
  · cases h
  · rename_i l r e
    rw [e, List.map_cons, List.sum_cons] at sm
    split at h
    · cases h
    · rename_i hs' ws' n hh
      split at h
      · cases h
      · rename_i ms hg
        cases h
        obtain ⟨h1, h2, h3⟩ := goP_ok (AccOk.nil _ _ _) hg
        have := sum5 h3
        simp at h2
        exact h1.rul (headO_ok hh) (by omega)
end Pace
end
section
set_option Elab.async false
set_option linter.all false
set_option maxRecDepth 100000
set_option maxHeartbeats 4000000
namespace Pace
open PySem PySem.Spec PyProof.Rows L2 DL
abbrev Rows := List (List Mv)
def rowS (A : Rows) (s : Nat) : List Mv := A.getD s []
/-- two rows with the same letters, and targets that go with each other -/
def rowsLike (P : Nat → Nat → Bool) : List Mv → List Mv → Bool
  | [], [] => true
  | m :: r, m' :: r' => (m.h == m'.h && m.c == m'.c && P m.t m'.t) && rowsLike P r r'
  | _, _ => false
/-- the same for k rounds -/
def sim : Nat → Rows → Nat → Rows → Nat → Bool
  | 0, _, _, _, _ => true
  | k + 1, A, s, B, t => rowsLike (fun x y => sim k A x B y) (rowS A s) (rowS B t)
def bis (A : Rows) (s : Nat) (B : Rows) (t : Nat) : Prop := ∀ k, sim k A s B t = true
theorem sim_refl (A : Rows) : ∀ k s, sim k A s A s = true := by
  intro k
  induction k with
  | zero => intro s; rfl
  | succ k ih =>
    intro s
    show rowsLike _ (rowS A s) (rowS A s) = true
    generalize rowS A s = r
    induction r with
    | nil => rfl
    | cons m r ihr => simp only [rowsLike, ih, ihr, beq_self_eq_true, Bool.and_self]
theorem sim_symm {A B : Rows} : ∀ {k s t}, sim k A s B t = true → sim k B t A s = true := by
  intro k
  induction k with
  | zero => intro s t _; rfl
  | succ k ih =>
    intro s t h
    show rowsLike _ (rowS B t) (rowS A s) = true
    have h : rowsLike _ (rowS A s) (rowS B t) = true := h
    generalize rowS A s = r at h
    generalize rowS B t = r' at h
    induction r generalizing r' with
    | nil => cases r' with
      | nil => rfl
      | cons _ _ => cases h
    | cons m r ihr => cases r' with
      | nil => cases h
      | cons m' r' =>
        simp only [rowsLike, Bool.and_eq_true, beq_iff_eq] at h ⊢
        exact ⟨⟨⟨h.1.1.1.symm, h.1.1.2.symm⟩, ih h.1.2⟩, ihr r' h.2⟩
theorem sim_trans {A B D : Rows} : ∀ {k s t u}, sim k A s B t = true → sim k B t D u = true → sim k A s D u = true := by
  intro k
  induction k with
  | zero => intro s t u _ _; rfl
  | succ k ih =>
    intro s t u h1 h2
    show rowsLike _ (rowS A s) (rowS D u) = true
    have h1 : rowsLike _ (rowS A s) (rowS B t) = true := h1
    have h2 : rowsLike _ (rowS B t) (rowS D u) = true := h2
    generalize rowS A s = r at h1
    generalize rowS B t = r' at h1 h2
    generalize rowS D u = r'' at h2
    induction r generalizing r' r'' with
    | nil => cases r' with
      | nil => cases r'' with
        | nil => rfl
        | cons _ _ => cases h2
      | cons _ _ => cases h1
    | cons m r ihr => cases r' with
      | nil => cases h1
      | cons m' r' => cases r'' with
        | nil => cases h2
        | cons m'' r'' =>
          simp only [rowsLike, Bool.and_eq_true, beq_iff_eq] at h1 h2 ⊢
          exact ⟨⟨⟨h1.1.1.1.trans h2.1.1.1, h1.1.1.2.trans h2.1.1.2⟩, ih h1.1.2 h2.1.2⟩, ihr r' h1.2 r'' h2.2⟩
theorem bis.refl (A : Rows) (s : Nat) : bis A s A s := fun k => sim_refl A k s
theorem bis.symm {A B : Rows} {s t : Nat} (h : bis A s B t) : bis B t A s := fun k => sim_symm (h k)
theorem bis.trans {A B D : Rows} {s t u : Nat} (h : bis A s B t) (g : bis B t D u) : bis A s D u := fun k => sim_trans (h k) (g k)
/-- what a bisimulation says of two rows -/
inductive Like (R : Nat → Nat → Prop) : List Mv → List Mv → Prop
  | nil : Like R [] []
  | cons {m m' : Mv} {r r' : List Mv} : m.h = m'.h → m.c = m'.c → R m.t m'.t → Like R r r' → Like R (m :: r) (m' :: r')
theorem bis.row {A B : Rows} {s t : Nat} (h : bis A s B t) : Like (fun x y => bis A x B y) (rowS A s) (rowS B t) := by
  have h : ∀ k, rowsLike (fun x y => sim k A x B y) (rowS A s) (rowS B t) = true := fun k => h (k + 1)
  generalize rowS A s = r at h
  generalize rowS B t = r' at h
  induction r generalizing r' with
  | nil => cases r' with
    | nil => exact .nil
    | cons _ _ => cases h 0
  | cons m r ih => cases r' with
    | nil => cases h 0
    | cons m' r' =>
      simp only [rowsLike, Bool.and_eq_true, beq_iff_eq] at h
      exact .cons (h 0).1.1.1 (h 0).1.1.2 (fun k => (h k).1.2) (ih r' fun k => (h k).2)
theorem Like.imp {R R' : Nat → Nat → Prop} (f : ∀ x y, R x y → R' x y) {r r' : List Mv} (l : Like R r r') : Like R' r r' := by
  induction l with
  | nil => exact .nil
  | cons e1 e2 e3 _ ih => exact .cons e1 e2 (f _ _ e3) ih
inductive All2 (R : Nat → Nat → Prop) : List Nat → List Nat → Prop
  | nil : All2 R [] []
  | cons {x y : Nat} {l l' : List Nat} : R x y → All2 R l l' → All2 R (x :: l) (y :: l')
theorem All2.len {R : Nat → Nat → Prop} {l l' : List Nat} (h : All2 R l l') : l.length = l'.length := by
  induction h with
  | nil => rfl
  | cons _ _ ih => rw [List.length_cons, List.length_cons, ih]
theorem All2.snoc {R : Nat → Nat → Prop} {l l' : List Nat} {x y : Nat} (h : All2 R l l') (r : R x y) : All2 R (l ++ [x]) (l' ++ [y]) := by
  induction h with
  | nil => exact .cons r .nil
  | cons r' _ ih => exact .cons r' ih
theorem All2.get {R : Nat → Nat → Prop} {l l' : List Nat} (h : All2 R l l') : ∀ {i : Nat} {x : Nat}, l[i]? = some x → ∃ y, l'[i]? = some y ∧ R x y := by
  induction h with
  | nil => intro i x e; simp at e
  | cons r _ ih =>
    intro i x e
    cases i with
    | zero => simp at e; subst e; exact ⟨_, rfl, r⟩
    | succ i => simpa using ih (by simpa using e)
end Pace
end
section
set_option Elab.async false
set_option linter.all false
set_option maxRecDepth 100000
set_option maxHeartbeats 4000000
namespace Pace
open PySem PySem.Spec PyProof.Rows L2 DL
/-- targets lie within -/
def Closed (A : Rows) : Prop := 1 ≤ A.length ∧ ∀ r ∈ A, ∀ m ∈ r, m.t < A.length
theorem rowS_mem {A : Rows} {s : Nat} {m : Mv} (h : m ∈ rowS A s) : ∃ r ∈ A, m ∈ r := by
  unfold rowS at h
  rw [List.getD_eq_getElem?_getD] at h
  cases e : A[s]? with
  | none => rw [e] at h; simp at h
  | some r => rw [e] at h; exact ⟨r, List.mem_of_getElem? e, h⟩
theorem Closed.t {A : Rows} (c : Closed A) {s : Nat} {m : Mv} (h : m ∈ rowS A s) : m.t < A.length := by
  obtain ⟨r, hr, hm⟩ := rowS_mem h
  exact c.2 r hr m hm
theorem Like.mem {R : Nat → Nat → Prop} {r r' : List Mv} (l : Like R r r') : ∀ m ∈ r, ∃ t, R m.t t := by
  induction l with
  | nil => intro m hm; cases hm
  | cons e1 e2 e3 _ ih =>
    intro x hx
    rcases List.mem_cons.mp hx with rfl | hx
    · exact ⟨_, e3⟩
    · exact ih x hx
end Pace
end
section
set_option Elab.async false
set_option linter.all false
set_option maxRecDepth 100000
set_option maxHeartbeats 4000000
namespace DL
open PySem PySem.Spec PyProof.Rows L2
end DL
end
section
set_option Elab.async false
set_option linter.all false
set_option maxRecDepth 100000
set_option maxHeartbeats 4000000
namespace Pace
open PySem PySem.Spec PyProof.Rows L2 DL
/-- rows as the walks need them -/
structure Steps (A : Rows) : Prop where
  cl : Closed A
  n : A.length ≤ 999
  pw : ∀ r ∈ A, r.Pairwise fun a b => mvLt a b = true
  l : ∀ r ∈ A, r.length ≤ 1000
theorem RulV.steps {hs ws : List Nat} {rs : List (List Mv)} (v : RulV hs ws rs) : Steps rs where
  cl := ⟨v.n1, fun r hr m hm => (v.ok.at_ r hr).2 m hm⟩
  n := v.n2
  pw := fun r hr => by
    have := (v.row r hr).1
    unfold rowB at this
    rw [Bool.and_eq_true] at this
    exact nbr_pair (r := mvLt) mvLt_tr _ this.2
  l := fun r hr => (v.row r hr).2
theorem Steps.row {A : Rows} (h : Steps A) (s : Nat) : (rowS A s).Pairwise (fun a b => mvLt a b = true) ∧ (rowS A s).length ≤ 1000 := by
  unfold rowS
  rw [List.getD_eq_getElem?_getD]
  cases e : A[s]? with
  | none => exact ⟨.nil, Nat.zero_le _⟩
  | some r => exact ⟨h.pw r (List.mem_of_getElem? e), h.l r (List.mem_of_getElem? e)⟩
end Pace
end
section
set_option Elab.async false
set_option linter.all false
set_option maxRecDepth 100000
set_option maxHeartbeats 4000000
namespace Pace
open PySem PySem.Spec PyProof.Rows L2 DL
theorem _root_.DL.Sub.no {G G' : GH} (s : Sub G G') {p : Addr} (h : G' p = none) : G p = none := by
  cases q : G p with
  | none => rfl
  | some o => rw [s.le p o q] at h; cases h
end Pace
end
section
set_option Elab.async false
set_option linter.all false
set_option maxRecDepth 100000
set_option maxHeartbeats 4000000
namespace Pace
open PySem PySem.Spec PyProof.Rows L2 DL
/-- the same rows, each in any order -/
structure RP (B A : Rows) : Prop where
  len : B.length = A.length
  pm : ∀ s, (rowS B s).Perm (rowS A s)
theorem RP.refl (A : Rows) : RP A A := ⟨rfl, fun _ => .refl _⟩
theorem RP.lt {B A : Rows} (h : RP B A) {s : Nat} (hs : s < A.length) : s < B.length := by rw [h.len]; exact hs
end Pace
end
section
set_option Elab.async false
set_option linter.all false
set_option maxRecDepth 100000
set_option maxHeartbeats 4000000
namespace Pace
open PySem PySem.Spec PyProof.Rows L2 DL
abbrev Ky := Nat × Nat
abbrev Trail := (Nat × Nat) × List Ky
structure TrOk (A B : Rows) (L : List Trail) : Prop where
  nd : (L.map (·.1)).Nodup
  zero : ((0, 0), []) ∈ L
  led : ∀ x ∈ L, ledN A 0 x.2 = some x.1.1 ∧ ledN B 0 x.2 = some x.1.2
  cl : ∀ x ∈ L, ∀ (k : Ky) (s t : Nat), step1 A x.1.1 k.1 k.2 = some s → step1 B x.1.2 k.1 k.2 = some t → (s, t) ∈ L.map (·.1)
  ln : ∀ x ∈ L, x.2.length < L.length
/-- as far as the search has come -/
structure TrI (A B : Rows) (L : List Trail) (n : Nat) : Prop where
  nd : (L.map (·.1)).Nodup
  zero : L[0]? = some ((0, 0), [])
  led : ∀ x ∈ L, ledN A 0 x.2 = some x.1.1 ∧ ledN B 0 x.2 = some x.1.2
  cl : ∀ (i : Nat) x, i < n → L[i]? = some x → ∀ (k : Ky) (s t : Nat), step1 A x.1.1 k.1 k.2 = some s → step1 B x.1.2 k.1 k.2 = some t → (s, t) ∈ L.map (·.1)
  le : n ≤ L.length
  ln : ∀ (i : Nat) x, L[i]? = some x → x.2.length ≤ i
theorem TrI.lt {A B : Rows} {L : List Trail} {n : Nat} (h : TrI A B L n) (sa : Steps A) (sb : Steps B) {x : Trail} (hx : x ∈ L) : x.1.1 < A.length ∧ x.1.2 < B.length := by
  obtain ⟨h1, h2⟩ := h.led x hx
  exact ⟨ledN_lt sa.cl.2 sa.cl.1 _ h1, ledN_lt sb.cl.2 sb.cl.1 _ h2⟩
theorem TrI.few {A B : Rows} {L : List Trail} {n : Nat} (h : TrI A B L n) (sa : Steps A) (sb : Steps B) : L.length ≤ A.length * B.length := by
  have := List.Nodup.length_le_of_subset h.nd (l₂ := (List.range A.length).flatMap fun x => (List.range B.length).map fun y => (x, y)) fun p hp => by
    obtain ⟨x, hx, rfl⟩ := List.mem_map.mp hp
    obtain ⟨h1, h2⟩ := h.lt sa sb hx
    exact List.mem_flatMap.mpr ⟨x.1.1, List.mem_range.mpr h1, List.mem_map.mpr ⟨x.1.2, List.mem_range.mpr h2, rfl⟩⟩
  rw [List.length_map, prod_len, List.length_range, List.length_range] at this
  exact this
theorem TrI.done {A B : Rows} {L : List Trail} (h : TrI A B L L.length) : TrOk A B L where
  nd := h.nd
  zero := List.mem_of_getElem? h.zero
  led := h.led
  cl := fun x hx => by
    obtain ⟨i, hi⟩ := List.mem_iff_getElem?.mp hx
    exact h.cl i x (List.getElem?_eq_some_iff.mp hi).1 hi
  ln := fun x hx => by
    obtain ⟨i, hi⟩ := List.mem_iff_getElem?.mp hx
    have := h.ln i x hi
    have := (List.getElem?_eq_some_iff.mp hi).1
    omega
theorem _root_.DL.Sub.back {G G' : GH} {p : Addr} {o : MO} (s : Sub G G') (h : G' p = some o) (hd : o.isDeck = false) : Sub (gput G p o) G' := by
  refine ⟨fun a w z => ?_, fun c z => ?_⟩
  · by_cases q : a = p
    · subst q; rw [gput_same] at z; rw [h]; exact z
    · rw [gput_ne q] at z; exact s.le a w z
  · have q : c ≠ p := fun q => by subst q; rw [h] at z; cases z; cases hd
    rw [gput_ne q]
    exact s.dc c z
end Pace
end
section
set_option Elab.async false
set_option linter.all false
set_option maxRecDepth 100000
set_option maxHeartbeats 4000000
namespace DL
open PySem PySem.Spec PyProof.Rows L2
/-- the signs of a text, one by one -/
def sgs (x : Str) : List Str := x.cps.toList.map sgn
theorem sgs_len (x : Str) : (sgs x).length = x.cps.size := by simp [sgs]
theorem strs_sgs {x : Str} {acc : Array Value} (h : ItemsOf (SignAt x) acc x.cps.size) : StrsAre acc.toList (sgs x) := by
  have all : ∀ v ∈ acc.toList, ∃ k tk, v = Value.str k tk := fun v hv => by
    obtain ⟨j, hj⟩ := List.mem_iff_getElem?.mp hv
    obtain ⟨c, u, _, rfl⟩ := h.2 j v (by rw [← Array.getElem?_toList]; exact hj)
    exact ⟨_, _, rfl⟩
  have s := strs_of acc.toList all
  have e : (acc.toList.map fun v => tkey (0, v)) = sgs x := by
    refine List.ext_getElem? fun j => ?_
    unfold sgs
    rw [List.getElem?_map, List.getElem?_map, Array.getElem?_toList, Array.getElem?_toList]
    cases ev : acc[j]? with
    | some v =>
      obtain ⟨c, u, hc, rfl⟩ := h.2 j v ev
      rw [hc]
      rfl
    | none =>
      have hj : ¬ j < acc.size := fun z => by rw [Array.getElem?_eq_getElem z] at ev; cases ev
      rw [Array.getElem?_eq_none (by have := h.1; omega)]
      rfl
  rw [e] at s
  exact s
end DL
end
section
set_option Elab.async false
set_option linter.all false
set_option maxRecDepth 100000
set_option maxHeartbeats 4000000
namespace DL
open PySem PySem.Spec PyProof.Rows L2
end DL
end
section
set_option Elab.async false
set_option linter.all false
set_option maxRecDepth 100000
set_option maxHeartbeats 4000000
namespace Pace
open PySem PySem.Spec PyProof.Rows L2 DL
inductive Reach (A : Rows) : Nat → Prop
  | one {m : Mv} : m ∈ rowS A 0 → Reach A m.t
  | more {s : Nat} {m : Mv} : Reach A s → m ∈ rowS A s → Reach A m.t
structure Inn (A : Rows) (l : List Nat) : Prop where
  so : l.Pairwise (· < ·)
  mem : ∀ t, t ∈ l ↔ Reach A t
theorem Reach.lt {A : Rows} (st : Steps A) {t : Nat} (h : Reach A t) : t < A.length := by
  cases h with
  | one h => exact st.cl.t h
  | more _ h => exact st.cl.t h
theorem Inn.lt {A : Rows} (st : Steps A) {l : List Nat} (h : Inn A l) : ∀ t ∈ l, t < A.length := fun t ht => ((h.mem t).mp ht).lt st
theorem Inn.nd {A : Rows} {l : List Nat} (h : Inn A l) : l.Nodup := h.so.imp fun h => by omega
/-- the window that ends at k is not led -/
def bad (A : Rows) (inn : List Nat) (n : Nat) (ps : List Ky) (k : Nat) : Bool :=
  if k ≤ n then (ledN A 0 (ps.take k)).isNone else inn.all fun s => (ledN A s ((ps.take k).drop (k - n))).isNone
end Pace
end
section
set_option Elab.async false
set_option linter.all false
set_option maxRecDepth 100000
set_option maxHeartbeats 4000000
namespace DL
open PySem PySem.Spec PyProof.Rows L2
end DL
end
section
set_option Elab.async false
set_option linter.all false
set_option maxRecDepth 100000
set_option maxHeartbeats 4000000
namespace Pace
open PySem PySem.Spec PyProof.Rows L2 DL
structure GoOk (hs ws : List Nat) (n : Nat) (lot : Lot) : Prop where
  ok : LotOk n hs ws lot
  lh : lettersB hs = true
  lw : lettersB ws = true
  h3 : hs.length ≤ 3
  w3 : ws.length ≤ 3
  n1 : 1 ≤ n
  n6 : n ≤ 6
theorem GoOk.v {hs ws : List Nat} {n : Nat} {lot : Lot} (g : GoOk hs ws n lot) : RulV hs ws (rowsOf lot n) where
  lh := g.lh
  lw := g.lw
  sh := by have := g.h3; omega
  sw := by have := g.w3; omega
  n1 := by rw [rowsOf_len]; exact g.n1
  n2 := by have := g.n6; rw [rowsOf_len]; omega
  row := fun r hr => by
    obtain ⟨s, _, rfl⟩ := List.mem_map.mp hr
    have h6 := row_few g.ok s
    have h7 : hs.length * ws.length ≤ 3 * 3 := Nat.mul_le_mul g.h3 g.w3
    refine ⟨?_, by omega⟩
    rw [rowsOf_len]
    unfold rowB
    rw [Bool.and_eq_true, List.all_eq_true]
    refine ⟨fun m hm => ?_, nbr_of_pair (rowOf_lt g.ok.nd s)⟩
    obtain ⟨_, a, b, c⟩ := g.ok.at_ _ (rowOf_mem.mp hm)
    unfold mvB
    simp [a, b, c]
theorem GoOk.st {hs ws : List Nat} {n : Nat} {lot : Lot} (g : GoOk hs ws n lot) : Steps (rowsOf lot n) := g.v.steps
theorem GoOk.few {hs ws : List Nat} {n : Nat} {lot : Lot} (g : GoOk hs ws n lot) : lot.length ≤ 54 := by
  have h9 := lot_few g.ok
  have h7 : hs.length * ws.length ≤ 3 * 3 := Nat.mul_le_mul g.h3 g.w3
  have h8 : n * (hs.length * ws.length) ≤ 6 * (3 * 3) := Nat.mul_le_mul g.n6 h7
  omega
end Pace
end
section
set_option Elab.async false
set_option linter.all false
set_option maxRecDepth 100000
set_option maxHeartbeats 4000000
namespace Pace
open PySem PySem.Spec PyProof.Rows L2 DL
theorem cut_mid {α : Type} (xs : List α) (a b : Nat) : DL.cutD xs (some (a : Int)) (some (b : Int)) = (xs.take b).drop a := by
  unfold DL.cutD
  rw [HT.sIx_nat, HT.sIx_nat, List.drop_take]
  by_cases h : a ≤ xs.length
  · rw [Nat.min_eq_left h]
    by_cases h2 : b ≤ xs.length
    · rw [Nat.min_eq_left h2]
    · rw [Nat.min_eq_right (by omega), List.take_of_length_le (by simp), List.take_of_length_le (by simp; omega)]
  · have e1 : min a xs.length = xs.length := Nat.min_eq_right (by omega)
    rw [e1, List.drop_of_length_le (l := xs) (i := a) (by omega), List.drop_of_length_le (l := xs) (i := xs.length) (Nat.le_refl _)]
    simp
end Pace
end
section
set_option Elab.async false
set_option linter.all false
set_option maxRecDepth 100000
set_option maxHeartbeats 4000000
namespace DL
open PySem PySem.Spec PyProof.Rows L2
section
variable {P : Program} {w : World} {A : Around} {E : Value → Shared → Prop} {s : Shared} {a : Addr} {ks : List Str}
theorem call_set_txt (x : Str) (t : Tok) {Q : Value → Shared → Prop} (zh : A.handled = none) (zb : x.cps.size + 1 < scanBound)
    (h : ∀ (h' : Heap) (tk1 : Nat), SetS w h' s.heap.objs.size (firstsF (sgs x)) → (∀ b o, s.heap.get? b = some o → h'.get? b = some o) → Q (.ref s.heap.objs.size) { s with heap := h', toks := tk1 }) : wpAny (model P w) A (call (.type "set") [.str x t]) Q E s := by
  obtain ⟨zc, ztl, zmro⟩ := F.called_set.mro
  have zmade := F.called_set.made
  have zsub := F.called_set.sub
  (refine wpAny_call (codeAny_of_tree ?_))
  (show wpAny _ _ (callAny (.type "set") _) _ _ _)
  (refine wpAny_pure ⟨Code.quiet_builtin _ (by decide +kernel), codeAny_builtin F.entry_type_call ?_⟩)
  (rw [Around.under_plain (weight_type_call_type "set" [.str x t] []) rfl])
  have z1 := F.called_set.notType
  have z2 := F.called_set.canCreate
  have zct := F.typeCall_set_1 (.str x t)
  (repeat (any_goals (first | assumption | wp_step)))
  refine codeAny_mono (code_set_led1 (.str x t) (E := E) (Q₁ := fun ob s1 => ob = .ref s.heap.objs.size ∧ s1 = { s with heap := s.heap.push (eSet w) }) ⟨rfl, rfl⟩) fun r s1 zr => ?_
  cases r with
  | error e => exact zr
  | ok fl1 =>
    cases fl1 with
    | ret ob =>
      obtain ⟨rfl, rfl⟩ := zr
      have zS : (s.heap.push (eSet w)).get? s.heap.objs.size = some (eSet w) := Heap.get?_push_size _ rfl
      have zT : Shared.TypeIs { s with heap := s.heap.push (eSet w) } (.ref s.heap.objs.size) "set" := ⟨_, zS, rfl⟩
      have zli := F.called_set.init.lookup
      have zbi := F.called_set.init.bind (.ref s.heap.objs.size)
      (repeat (any_goals (first | assumption | wp_step)))
      refine codeAny_mono (codeAny_call_builtin (R := wants (fun r s2 => r = .none ∧ ∃ h' tk1, s2 = { s with heap := h', toks := tk1 } ∧ SetS w h' s.heap.objs.size (firstsF (sgs x)) ∧
          (∀ b o, s.heap.get? b = some o → h'.get? b = some o)) E) F.called_set.init.plain F.entry_set_init (check_set_init_1 zT ?_)) fun r2 s2 zr2 => ?_
      · have zs1 := PySem.F.sub_str_set
        have zs2 := PySem.F.sub_str_frozenset
        have zne : (Value.type "str" == Value.type "dict") = false := by decide
        (unfold Builtin.«set.__init__» noKeywords Builtin.Frozenset.updateFrom)
        generalize zPI : pyIter = ZI
        wp_walk
        subst zPI
        refine wpAny_pyIter_str fun o St zW zSt => ?_
        (refine wpAny_bind (wpAny_runValue ?_))
        have zh3 : A.in1.in1.in1.handled = none := by simp [zh]
        have zSf : s.heap.objs.size ∉ [(s.heap.push (eSet w)).objs.size] := by
          (rw [Heap.size_push]; simp only [List.mem_singleton])
          exact Nat.ne_of_lt (Nat.lt_succ_self _)
        have zval : ∀ (i : Nat) (v : Value), SignAt x i v → ∃ k t, (sgs x)[i]? = some k ∧ v = .str k t := fun i v zv => by
          obtain ⟨c, t', h1, h2⟩ := zv
          exact ⟨sgn c, t', by unfold sgs; rw [List.getElem?_map, Array.getElem?_toList, h1]; rfl, h2⟩
        refine sets_loop ((zW _ zh3).toS) s.heap.objs.size
          zSf (sgs x) (sgs_len x).symm (by rw [sgs_len]; exact zb) zval (x.cps.size - 0) 0 _ (by omega) (Nat.zero_le _)
          zSt ?hS0 ?hR
        case hS0 =>
          have zget : ((s.heap.push (eSet w)).push o).get? s.heap.objs.size = some (eSet w) := Heap.get?_push_of_some _ zS
          exact sets_new zget
        case hR =>
          intro s' zm zS'
          obtain ⟨h', q2, q3, q4, q5⟩ := s'
          have y1 : q2 = s.gens := zm.gens
          have y2 : q3 = s.drawn := zm.drawn
          have y3 : q5 = s.os := zm.os
          subst y1; subst y2; subst y3
          show wpAny _ _ _ _ _ _
          refine wpAny_pure ?_
          (show wpAny _ _ (ret Value.none) _ _ _)
          refine wpAny_pure ⟨rfl, h', q4, rfl, zS', fun b o e => ?_⟩
          have y4 : b < s.heap.objs.size := Heap.lt_size e
          have y5 : b ≠ s.heap.objs.size := Nat.ne_of_lt y4
          have y6 : b ≠ (s.heap.push (eSet w)).objs.size := by
            rw [Heap.size_push]; exact Nat.ne_of_lt (Nat.lt_succ_of_lt y4)
          exact zm.heap b _ (by simp only [List.mem_cons, List.mem_singleton, List.not_mem_nil, or_false, not_or]; exact ⟨y5, y6⟩) (Heap.get?_push_of_some _ (Heap.get?_push_of_some _ e))
      · cases r2 with
        | error e => exact zr2
        | ok fl2 =>
          cases fl2 with
          | ret r =>
            obtain ⟨rfl, h', tk1, rfl, zS', zk'⟩ := zr2
            (repeat (any_goals (first | assumption | wp_step)))
            exact h _ _ zS' zk'
          | _ => exact zr2.elim
    | _ => exact zr.elim
end
section
variable {X : Cx} {pos : Pos}
def rSetTxV (w : World) : List V → Hp → VK → Prop := fun vs H Q => ∃ x : Str, vs = [V.str x] ∧ x.cps.size ≤ 4000 ∧ ∀ p, H p = none → Q (.ref p) (upd H p (SetSO w p (firstsF (sgs x))))
theorem cr_setTx (hc : X.calm = true) : CallR X (.type "set") (rSetTxV X.w) := by
  intro pins s σ H vs us Q I r h
  obtain ⟨x, rfl, hl, q⟩ := h
  obtain ⟨u, rfl, t, rfl⟩ := vals1 r
  refine call_set_txt x t (I.ok.hd hc) (by unfold scanBound; omega) fun h' tk R k => ?_
  exact ⟨.ref _, _, I.laid (t' := tk) k (Nat.le_refl _) (setSO_new R), rfl, q _ (I.hok.fresh (Nat.le_refl _))⟩
def dSortSetTx (te : DTE) : DTE := fun S G Q => te S G fun d G1 => match d with
  | .str x => x.cps.size ≤ 4000 ∧ (firstsF (sgs x)).length ≤ 1000 ∧ ∀ ys : List Str, ys.Perm (firstsF (sgs x)) → sortedS ys = true → Q (.lst (ys.map .str)) G1
  | _ => False
theorem de_sortSetTx {e : Expr} {te : DTE} {p q p2 : Pos} (hc : X.calm = true) (hg : Gl X "sorted") (hm : X.mg "sorted" = none) (hg2 : Gl X "set") (hm2 : X.mg "set" = none) (ha : DE X e te)
    (na : starEach [e] X.env = (false, eval e X.env) :: starEach [] X.env := by rfl)
    (nb : starEach [.Call (.Name "set" p2) [e] [] q] X.env = (false, eval (.Call (.Name "set" p2) [e] [] q) X.env) :: starEach [] X.env := by rfl) : DE X (.Call (.Name "sorted" p) [.Call (.Name "set" p2) [e] [] q] [] pos) (dSortSetTx te) := by
  obtain ⟨t, p1, r1⟩ := ha.ex
  have ps := pe_callTy (pos := q) (p := p2) (cr_setTx hc) hg2 hm2 PyProof.Rows.boot_set (pa_cons p1 pa_nil na) (by decide) (by decide) na (by rfl)
  have pp := pe_callB (pos := pos) (p := p) (cr_sortedSS hc) hg hm PyProof.Rows.boot_sorted (pa_cons ps pa_nil nb) (by decide) (by decide) nb (by rfl)
  refine ⟨_, pp, fun F H σ S G o Q' h Q k => ?_⟩
  refine r1 F H σ S G o _ h _ fun F1 H1 v d G1 e1 g1 q1 h1 => ?_
  dsimp only at h1
  split at h1
  · rename_i x
    obtain ⟨h1, h2, h3⟩ := h1
    cases q1
    refine ⟨x, rfl, h1, fun z hz => ?_⟩
    refine ⟨z, _, rfl, upd_same, h2, fun ys z2 hs hk hz2 => ?_⟩
    have gr1 : Gr F1 H1 F1 (upd H1 z (SetSO X.w z (firstsF (sgs x)))) := ⟨Ex.refl _, g1.ex.trans (Ex.new hz), Ex.new hz, fun _ _ _ w => w⟩
    have g2 := g1.grow gr1
    have gr2 := Gr.new (u := .lst (ys.map V.str)) g2.ex hz2
    exact k _ _ _ _ G1 (e1.trans (gr1.go.trans gr2.go)) (g2.grow gr2) (.lst upd_same (Reps.strs _)) (h3 ys hs hk)
  · exact h1.elim
def rListTyV : List V → Hp → VK → Prop := fun vs H Q => ∃ x : Str, vs = [V.str x] ∧ x.length ≤ 5000 ∧ ∀ p : Addr, H p = none → Q (.ref p) (upd H p (.lst ((sgs x).map V.str)))
theorem cr_listTy (hc : X.calm = true) : CallR X (.type "list") rListTyV := by
  intro pins s σ H vs us Q I r q
  obtain ⟨x, rfl, hl, q⟩ := q
  obtain ⟨u, rfl, t, rfl⟩ := vals1 r
  have hx : x.cps.size ≤ sizeLine := by rw [sizeLine_eq]; exact Nat.le_trans hl (by decide)
  refine call_list_str (I.ok.hd hc) x t (fun h' tk acc c hk hS hacc => ?_) hx
  exact ⟨.ref _, _, I.laid (t' := tk) hk (Nat.le_refl _) (show ObjOk X.prog X.w _ _ _ (.lst _) from ⟨by rw [List.length_map, sgs_len]; exact hx, acc.toList, c, vals_of_strs (strs_sgs hacc), by simpa using hS⟩), rfl, q _ (I.hok.fresh (Nat.le_refl _))⟩
def rListTy (ds : List D) (G : GH) (Q : DQ) : Prop := match ds with
  | [.str x] => x.length ≤ 5000 ∧ Q (.lst ((sgs x).map .str)) G
  | _ => False
theorem cd_listTy (hc : X.calm = true) : CallD X (.type "list") rListTy := by
  refine ⟨_, cr_listTy hc, fun F H G vs ds g rs Q' h Q k => ?_⟩
  unfold rListTy at h
  split at h
  · rename_i x
    cases rs with
    | cons r b =>
      cases b
      cases r
      refine ⟨x, rfl, h.1, fun p hp => ?_⟩
      have gr := Gr.new (u := .lst ((sgs x).map V.str)) g.ex hp
      exact k _ _ _ _ G gr.go (g.grow gr) (.lst upd_same (Reps.strs _)) h.2
  · exact h.elim
end
end DL
end
section
set_option Elab.async false
set_option linter.all false
set_option maxRecDepth 100000
set_option maxHeartbeats 4000000
namespace Pace
open PySem PySem.Spec PyProof.Rows L2 DL
def ldD (L : List (List Nat)) : D := .lst (L.map fun l => .str (strOf l))
theorem ldD_cur (L : List (List Nat)) (G : GH) : D.cur G (ldD L) = ldD L := rfl
theorem ldD_len (L : List (List Nat)) (G : GH) (Q : DQ) : rLenD [ldD L] G Q = Q (.int (L.length : Nat)) G := by
  have : D.cur G (ldD L) = ldD L := rfl
  unfold ldD at this
  simp only [rLenD, ldD, this, D.len, List.length_map]
theorem ldD_take (L : List (List Nat)) (k : Nat) (G : GH) (Q : DQ) : rSlice (ldD L) none (some (k : Int)) G Q = Q (ldD (L.take k)) G := by
  show Q (.lst (DL.cutD (L.map fun l => D.str (strOf l)) none (some (k : Int)))) G = _
  rw [cut_take]; unfold ldD; rw [List.map_take]
theorem ldD_drop (L : List (List Nat)) (k : Nat) (G : GH) (Q : DQ) : rSlice (ldD L) (some (k : Int)) none G Q = Q (ldD (L.drop k)) G := by
  show Q (.lst (DL.cutD (L.map fun l => D.str (strOf l)) (some (k : Int)) none)) G = _
  rw [cut_drop]; unfold ldD; rw [List.map_drop]
theorem ldD_mid (L : List (List Nat)) (a b : Nat) (G : GH) (Q : DQ) : rSlice (ldD L) (some (a : Int)) (some (b : Int)) G Q = Q (ldD ((L.take b).drop a)) G := by
  show Q (.lst (DL.cutD (L.map fun l => D.str (strOf l)) (some (a : Int)) (some (b : Int)))) G = _
  rw [cut_mid]; unfold ldD; rw [List.map_drop, List.map_take]
theorem ldD_add (A B : List (List Nat)) (G : GH) (Q : DQ) (hz : A.length + B.length ≤ 5000) (q : Q (ldD (A ++ B)) G) : rAddD (ldD A) (ldD B) G Q := by
  show ((A.map fun l => D.str (strOf l)).length + (B.map fun l => D.str (strOf l)).length ≤ sizeLine ∧ Q (.lst ((A.map fun l => D.str (strOf l)) ++ B.map fun l => D.str (strOf l))) G)
  rw [List.length_map, List.length_map, ← List.map_append]
  exact ⟨sz hz, q⟩
theorem texts_ld : ∀ L : List (List Nat), texts (L.map fun c => .str (strOf c)) = some (L.map strOf)
  | [] => rfl
  | c :: cs => by simp [texts, texts_ld cs]
theorem ldD_join (c : Nat) (L : List (List Nat)) (G : GH) (Q : DQ) (hz : (L.map fun x => x.length + 1).sum ≤ 100000) (q : Q (.str (strOf (joinC c L))) G) : rJoinD (.str (strOf [c])) [ldD L] G Q := by
  have h1 : ((L.map strOf).map (·.length)).sum + (L.map strOf).length * (strOf [c]).length ≤ 16777216 := by
    have : ∀ L : List (List Nat), ((L.map strOf).map (·.length)).sum + (L.map strOf).length * 1 = (L.map fun x => x.length + 1).sum := fun L => by
      induction L with
      | nil => rfl
      | cons a L ih =>
        simp only [List.map_cons, List.sum_cons, List.length_cons, strOf_len] at ih ⊢
        omega
    rw [strOf_len]
    show _ + _ * 1 ≤ _
    rw [this]; omega
  show (match texts (L.map fun c => D.str (strOf c)) with
    | some zs => (zs.map (·.length)).sum + zs.length * (strOf [c]).length ≤ 16777216 ∧ Q (.str (Txt.join (strOf [c]) zs)) G
    | none => False)
  rw [texts_ld]
  exact ⟨h1, by rw [join_strOf]; exact q⟩
theorem joinC_chr {c : Nat} (hc : c < 128) : ∀ {L : List (List Nat)}, (∀ l ∈ L, ∀ k ∈ l, k < 128) → ∀ k ∈ joinC c L, k < 128
  | [], _, k, hk => by cases hk
  | [x], h, k, hk => h x (by simp) k hk
  | x :: y :: r, h, k, hk => by
    have ih := joinC_chr hc (L := y :: r) fun l hl => h l (List.mem_cons_of_mem _ hl)
    simp only [joinC, List.mem_append, List.mem_cons] at hk
    rcases hk with hk | hk | hk
    · exact h x (by simp) k hk
    · omega
    · exact ih k hk
theorem sum_cut (L : List (List Nat)) (k : Nat) : ((L.take k).map fun x => x.length + 1).sum + ((L.drop k).map fun x => x.length + 1).sum = (L.map fun x => x.length + 1).sum := by
  conv => rhs; rw [← List.take_append_drop k L, List.map_append, List.sum_append]
end Pace
end
section
set_option Elab.async false
set_option linter.all false
set_option maxRecDepth 100000
set_option maxHeartbeats 4000000
namespace DL
open PySem PySem.Spec PyProof.Rows L2
end DL
end
section
set_option Elab.async false
set_option linter.all false
set_option maxRecDepth 100000
set_option maxHeartbeats 4000000
namespace DL
open PySem PySem.Spec PyProof.Rows L2
end DL
end
section
set_option Elab.async false
set_option linter.all false
set_option maxRecDepth 100000
set_option maxHeartbeats 4000000
namespace DL
open PySem PySem.Spec PyProof.Rows L2 ClX
section
variable {X : Cx} {pos : Pos}
def dForX (wi : DTI) (g : DTG) (tb : DTSX) : DTSX := fun D' E' S G => wi S G fun ds gd G1 => ∃ W : Nat → DS → GH → Prop, W 0 S G1 ∧ (∀ i S G, W i S G → gd G) ∧
  (∀ i S G d, W i S G → ds[i]? = some d → g d S G fun S2 G2 => tb { D' with nx := W (i + 1), ct := W (i + 1), bk := D'.nx } E' S2 G2) ∧ (∀ S G, W ds.length S G → D'.nx S G)
theorem dpx_for {tg iter : Expr} {body : List Stmt} {wi : DTI} {g : DTG} {tb : DTSX} (hp : PassesOwn (model X.prog X.w) X.A X.env X.xe) (hc : X.calm = true) (hi : DI X tg iter wi) (hg : DG X tg g) (hb : DPsX X body tb)
    (hs : ∀ x, foldedSetIterable iter X.env x = pure x := by intro _; rfl) : DPX X (.For tg iter body [] pos) (dForX wi g tb) := ⟨fun W0 tk => by
  obtain ⟨t0, p0, r0⟩ := hi.ex
  obtain ⟨t1, p1, r1⟩ := hg.ex
  obtain ⟨t2, p2, r2⟩ := hb.ex W0 tk
  refine ⟨_, ps_for hp hc p0 p1 p2 hs, fun F H σ S G o D' E' h D0 k kx => ?_⟩
  refine r0 F H σ S G o _ h _ fun F1 H1 G1 J ds gd e1 g1 it h1 => ?_
  obtain ⟨W, w0, wg, turn, done⟩ := h1
  refine ⟨fun i m σ2 H2 => i + m = ds.length ∧ ∃ F2 S2 G2, Go F1 H1 G1 F2 H2 G2 ∧ Ok X.K F2 H2 σ2 S2 G2 ∧ W i S2 G2, ⟨ds.length, Nat.zero_add _, F1, S, G1, Go.refl, o.go e1 g1, w0⟩, ?_⟩
  rintro i m σ2 H2 ⟨him, F2, S2, G2, e2, o2, w2⟩
  have gg := wg i S2 G2 w2
  cases m with
  | zero =>
    have hi : i = ds.length := him
    refine .inl ⟨hi ▸ it.stop F2 H2 G2 e2.ex o2.g gg, k.nx F2 H2 σ2 S2 G2 (e1.trans e2) o2 (done S2 G2 (hi ▸ w2))⟩
  | succ m =>
    have hlt : i < ds.length := by omega
    have hd : ds[i]? = some ds[i] := List.getElem?_eq_getElem hlt
    obtain ⟨ig, iy⟩ := it.go F2 H2 G2 i _ e2.ex o2.g gg hd
    refine .inr ⟨ig, fun σ3 H3 => ∃ F3 S3 G3, Go F1 H1 G1 F3 H3 G3 ∧ Ok X.K F3 H3 σ3 S3 G3 ∧ W (i + 1) S3 G3, fun σ3 H3 z => ⟨m, Nat.lt_succ_self m, by omega, z⟩, fun x H3 hy => ?_⟩
    obtain ⟨F3, e3, g3, q3⟩ := iy x H3 hy
    refine r1 F3 H3 σ2 S2 G2 x _ (o2.go e3 g3) q3 _ (turn i S2 G2 _ w2 hd) _ fun F4 H4 σ4 S4 G4 e4 o4 h4 => ?_
    have kk := k.mono (((e1.trans e2).trans e3).trans e4)
    have nn : KpN X.K F4 H4 G4 (W (i + 1)) (fun σ3 H3 => ∃ F3 S3 G3, Go F1 H1 G1 F3 H3 G3 ∧ Ok X.K F3 H3 σ3 S3 G3 ∧ W (i + 1) S3 G3) := fun F5 H5 σ5 S5 G5 e5 o5 w5 => ⟨F5, S5, G5, ((e2.trans e3).trans e4).trans e5, o5, w5⟩
    exact r2 F4 H4 σ4 S4 G4 o4 _ E' h4 _ ⟨nn, kk.rt, kk.nx, nn⟩ (kx.mono (((e1.trans e2).trans e3).trans e4))⟩
def ForXB (ds : List D) (gd : GH → Prop) (g : DTG) (tb : DTSX) (D' : DEnds) (E' : DS → DXQ) (S : DS) (G1 : GH) : Prop := ∃ W : Nat → DS → GH → Prop, W 0 S G1 ∧ (∀ i S G, W i S G → gd G) ∧
  (∀ i S G d, W i S G → ds[i]? = some d → g d S G fun S2 G2 => tb { D' with nx := W (i + 1), ct := W (i + 1), bk := D'.nx } E' S2 G2) ∧ (∀ S G, W ds.length S G → D'.nx S G)
theorem x_forX (wi : DTI) (g : DTG) (tb : DTSX) (D' : DEnds) (E' : DS → DXQ) (S : DS) (G : GH) : dForX wi g tb D' E' S G = wi S G fun ds gd G1 => ForXB ds gd g tb D' E' S G1 := rfl
theorem goes_cmS {k : Nat} {C g q0 : Addr} {fd : FuncData} {ps : List Str} {sp : Sp} {W : WX} {pins : List (Addr × Obj)} {σ : L2.St} {H : Hp} {s : Shared} {Q : VK} {us ws : List Value} {zs : List V} {kw : List (Str × Value)} (F : FnG X.prog X.w X.K X.mg X.base (L2.CX X.prog X.w) k g fd ps sp) (hA : X.A.guards = some []) (hr : Room k X.A)
    (bd : ∀ s : Shared, X.K.In s.heap → ws.length = ps.length → BindsTo s fd ⟨.ref C :: us, kw⟩ (ps.zip ws)) (tk : Takes X W)
    (I : Inv X ((q0, PySem.W.methodObj (.ref g) (.ref C)) :: pins) σ H s) (r : Vals zs ws) (h : sp zs H Q (WE W σ)) : wpAny (model X.prog X.w) X.A (call (.ref q0) us kw) (EP X pins σ Q) X.xe s := by
  have many : ws.length = ps.length := r.length ▸ F.many zs H Q _ h
  have z : wpAny (model X.prog X.w) X.A (call (.ref q0) us kw) (EP X ((q0, PySem.W.methodObj (.ref g) (.ref C)) :: pins) σ Q) X.xe s := by
    refine wpAny_call (PySem.W.method_call (pin_at I) (codeAny_mono (F.goes X.A X.stack s H ⟨.ref C :: us, kw⟩ ws zs Q (WE W σ) hA hr I.env0 (bd s I.kIn many) r h) ?_))
    intro res s' z
    match res, z with
    | .error er, z => exact passAt tk σ _ H s er s' I z
    | .ok (.ret u), z => exact I.after z
    | .ok .next, z => exact z.elim
    | .ok .brk, z => exact z.elim
    | .ok .cont, z => exact z.elim
  exact thn z fun _ _ y => unpinE y
end
structure CalCX (P : Program) (w : World) (K : PySem.W.Frag) (mg : Str → Option Value) (base : Heap) (C : Addr) (m : Str) (k : Nat) (ps : List Str) (sp : SpX) : Prop where
  ex : ∃ p g mc fd, CRead K C mc ∧ CMet K C mc m p g ∧ FnG P w K mg base (L2.CX P w) k g fd ps (SpOfX K sp) ∧ Binds K fd ps []
structure CalCXK (P : Program) (w : World) (K : PySem.W.Frag) (mg : Str → Option Value) (base : Heap) (C : Addr) (m : Str) (k : Nat) (ps : List Str) (sp : SpX) (ks : List Str) (js : List Nat) : Prop where
  ex : ∃ p g mc fd, CRead K C mc ∧ CMet K C mc m p g ∧ FnG P w K mg base (L2.CX P w) k g fd ps (SpOfX K sp) ∧
    ∀ (s : Shared) (us ws : List Value), us.length = 1 → ws.length = ks.length → BindsTo s fd ⟨us, ks.zip ws⟩ (ps.zip (perm .none js us ws))
section
variable {X : Cx} {pos kpos : Pos}
theorem dex_calC {pl : Sem Bool} {o e : Expr} {es : List Expr} {C : Addr} {m : Str} {k : Nat} {ps : List Str} {sp : SpX} {ta : DTE} {tr : DTA} {apos : Pos} (c : CalCX X.prog X.w X.K X.mg X.base C m k ps sp) (hA : X.A.guards = some []) (hr : Room k X.A) (he : DE X o ta) (ha : DA X (e :: es) tr)
    (hst : starEach (e :: es) X.env = (false, eval e X.env) :: starEach es X.env := by rfl) (hpl : (backTo pos (starEach es X.env)).any (·.1) = false := by rfl)
    (ht : eval (.Call (.Attribute o m apos) (e :: es) [] pos) X.env = (do let ov ← eval o X.env; standAt apos.atName; let (f, first) ← holding [ov] (getMethod ov m pl); callWith pos f first (backTo pos (starEach (e :: es) X.env)) (backToKw pos (keywordEach [] X.env))) := by rfl) :
    DEX X (.Call (.Attribute o m apos) (e :: es) [] pos) (fun S G Q E => ta S G fun d G1 => d = .rf C ∧ tr S G1 fun ds G2 => sp (.rf C :: ds) G2 Q E) := ⟨fun W tkW => by
  obtain ⟨p, g, mc, fd, cr, cm, Fn, hb⟩ := c.ex
  obtain ⟨t1, p1, r1⟩ := he.ex
  obtain ⟨t2, p2, r2⟩ := ha.ex
  refine ⟨fun σ H Q => t1 σ H fun x H1 => x = .ref C ∧ t2 σ H1 fun vs H2 => SpOfX X.K sp (.ref C :: vs) H2 Q (WE W σ), ?_, fun F H σ S G o Q' E' h Q kk kx => ?_⟩
  · constructor
    intro pins s σ H Q I h
    refine PySem.W.methodCall_KW (pl := pl) (thn (p1.run pins s σ H _ I h) ?_) ht
    rintro u s1 ⟨y, H1, I1, rx, ex, q⟩
    subst ex
    obtain rfl : u = Value.ref C := rx
    refine getmethcm_ok I1 cr cm fun s2 I2 => ?_
    refine callwith_cm I2 (base_none I1 (Nat.le_refl _)) cm.fi (thn (p2.run pos _ s2 σ H1 _ I2 q) fun us s3 ⟨vs, H2, I3, rv, q2⟩ => ⟨⟨pin_at I3, I3.kIn⟩, ?_⟩) hst hpl
    exact goes_cmS (us := us) (ws := .ref C :: us) (zs := .ref C :: vs) Fn hA hr (fun s4 i l => by simpa using hb s4 (.ref C :: us) i (by simpa using l)) tkW I3 (.cons rfl rv) q2
  · refine r1 F H σ S G o _ h _ fun F1 H1 v d G1 e1 g1 q1 h1 => ?_
    obtain ⟨rfl, h1⟩ := h1
    cases q1
    refine ⟨rfl, r2 F1 H1 σ S G1 (o.go e1 g1) _ h1 _ fun F2 H2 zs es G2 e2 g2 q2 h2 => ?_⟩
    exact ⟨F2, G2, _, Q', E', g2, .cons (.rf C) q2, h2, kk.mono (e1.trans e2), fun F' H' G' cls d C fs a b c q => kx F' H' G' cls d C fs ((e1.trans e2).trans a) b c q⟩⟩
theorem dex_calCK {pl : Sem Bool} {o : Expr} {C : Addr} {m : Str} {k : Nat} {ps : List Str} {sp : SpX} {ks : List Str} {js : List Nat} {kws : List Keyword} {ta : DTE} {tk : DTA} {apos : Pos} (c : CalCXK X.prog X.w X.K X.mg X.base C m k ps sp ks js) (hA : X.A.guards = some []) (hr : Room k X.A) (he : DE X o ta) (hw : DK X kws tk)
    (hall : (backToKw pos (keywordEach kws X.env)).all (·.1.isSome) = true := by rfl) (hks : (backToKw pos (keywordEach kws X.env)).filterMap (·.1) = ks := by rfl)
    (hpl : ((backTo pos (starEach [] X.env)).any (·.1) || (backToKw pos (keywordEach kws X.env)).any (·.1.isNone)) = false := by rfl)
    (ht : eval (.Call (.Attribute o m apos) [] kws pos) X.env = (do let ov ← eval o X.env; standAt apos.atName; let (f, first) ← holding [ov] (getMethod ov m pl); callWith pos f first (backTo pos (starEach [] X.env)) (backToKw pos (keywordEach kws X.env))) := by rfl) :
    DEX X (.Call (.Attribute o m apos) [] kws pos) (fun S G Q E => ta S G fun d G1 => d = .rf C ∧ tk S G1 fun zs G2 => zs.length = ks.length ∧ sp (perm .non js [.rf C] zs) G2 Q E) := ⟨fun W tkW => by
  obtain ⟨p, g, mc, fd, cr, cm, Fn, hb⟩ := c.ex
  obtain ⟨t1, p1, r1⟩ := he.ex
  obtain ⟨t2, p2, r2⟩ := hw.ex
  refine ⟨fun σ H Q => t1 σ H fun x H1 => x = .ref C ∧ t2 σ H1 fun zs H2 => zs.length = ks.length ∧ SpOfX X.K sp (perm .non js [.ref C] zs) H2 Q (WE W σ), ?_, fun F H σ S G o Q' E' h Q kk kx => ?_⟩
  · constructor
    intro pins s σ H Q I h
    refine PySem.W.methodCall_KW (pl := pl) (thn (p1.run pins s σ H _ I h) ?_) ht
    rintro u s1 ⟨y, H1, I1, rx, ex, q⟩
    subst ex
    obtain rfl : u = Value.ref C := rx
    refine getmethcm_ok I1 cr cm fun s2 I2 => ?_
    refine PySem.W.callWith_of (P := PySem.W.MethP X.K s1.heap.objs.size g (.ref C)) hpl (PySem.W.keeps_M cm.fi) (evalArgs_kw2_nil hall (thn (p2.run pos _ s2 σ H1 _ I2 q) ?_))
    rintro ws s3 ⟨zs, H2, I3, rz, l2, q2⟩
    refine ⟨⟨pin_at I3, I3.kIn⟩, ?_⟩
    rw [hks]
    exact goes_cmS (us := []) Fn hA hr (fun s4 i l => hb s4 [.ref C] ws rfl (by rw [← rz.length]; exact l2)) tkW I3 (vals_perm (vs := [.ref C]) (us := [.ref C]) (.cons rfl .nil) rz js) q2
  · refine r1 F H σ S G o _ h _ fun F1 H1 v d G1 e1 g1 q1 h1 => ?_
    obtain ⟨rfl, h1⟩ := h1
    cases q1
    refine ⟨rfl, r2 F1 H1 σ S G1 (o.go e1 g1) _ h1 _ fun F2 H2 zs es G2 e2 g2 q2 h2 => ?_⟩
    exact ⟨by rw [q2.length]; exact h2.1, F2, G2, _, Q', E', g2, reps_perm (.cons (.rf C) .nil) q2 js, h2.2, kk.mono (e1.trans e2), fun F' H' G' cls d C fs a b c q => kx F' H' G' cls d C fs ((e1.trans e2).trans a) b c q⟩⟩
end
theorem calCX_mk {P : Program} {w : World} {K : PySem.W.Frag} {mg : Str → Option Value} {base : Heap} {m qual : Str} {C : Addr} {st : Stmt} {N ps : List Str} {k : Nat} {sp : SpX} {ks : List Str} {js : List Nat} (d : DefC K C m qual st) (sc : FnScope N ps (defScope st)) (len : ∀ ds G Q E, sp ds G Q E → ds.length = ps.length)
    (bi : ∀ (kV doc pm : Value) (an : Option Addr) (cdv ct : Value) (us : List Value), us.length = ps.length → bindArgs (PySem.W.fnOf m qual (defArgs st) (defBody st) (defScope st) .none kV doc pm an cdv ct) ⟨us, []⟩ = pure (ps.zip us))
    (bk : ∀ (kV doc pm : Value) (an : Option Addr) (cdv ct : Value) (us ws : List Value), us.length = 1 → ws.length = ks.length → bindArgs (PySem.W.fnOf m qual (defArgs st) (defBody st) (defScope st) .none kV doc pm an cdv ct) ⟨us, ks.zip ws⟩ = pure (ps.zip (perm .none js us ws)))
    (hb : ∀ (f : Addr) (cdv : Value) (A : Around) (outer : List Env) (s : Shared) (H : Hp) (E : XK), A.guards = some [] → Room k (A.deeper (envOfC qual (defScope st) s.heap.objs.size f cdv)) →
      ∃ t', DPsX (cxOf (L2.CX P w) P w K mg base N qual (defScope st) f cdv A outer s H E) (defBody st) t' ∧ ∀ ds G Q E', sp ds G Q E' → t' (fin Q) (finX E') (dstart N ds) G) : CalCX P w K mg base C m (k + 1) ps sp ∧ CalCXK P w K mg base C m (k + 1) ps sp ks js := by
  obtain ⟨p, g, mc, fd, Fu, cr, cm⟩ := d.ex
  have fn := fnX_mk (P := P) (w := w) (mg := mg) (base := base) Fu sc len (hb g)
  refine ⟨⟨p, g, mc, fd, cr, cm, fn, Fu.binds bi⟩, p, g, mc, fd, cr, cm, fn, fun s us ws h1 h2 => ?_⟩
  obtain ⟨oc, od, kV, doc, pm, an, cdv, ct, osl, rfl, lk, hcd⟩ := Fu.ex
  exact .of_eq (bk kV doc pm an cdv ct us ws h1 h2)
section
variable {X : Cx}
def rIntS (ds : List D) (G : GH) (Q : DQ) : Prop := match ds with
  | [.str a] => ∃ n, PySem.intText? a = some n ∧ a.length ≤ 640 ∧ Q (.int n) G
  | _ => False
theorem cd_intS : CallD X (.type "int") rIntS := by
  refine ⟨_, call_int_str, fun F H G vs ds g rs Q' h Q k => ?_⟩
  unfold rIntS at h
  split at h
  · rename_i a
    cases rs with
    | cons r b =>
      cases b
      cases r
      obtain ⟨n, h1, h2, h3⟩ := h
      exact ⟨a, n, rfl, h1, h2, k F H _ _ G Go.refl g (.int n) h3⟩
  · exact h.elim
end
end DL
end
section
set_option Elab.async false
set_option linter.all false
set_option maxRecDepth 100000
set_option maxHeartbeats 4000000
namespace Pace
open PySem PySem.Spec PyProof.Rows L2 DL
section
variable {P : Program} {w : World} {K : PySem.W.Frag} {mg : Str → Option Value} {base : Heap} {C : Addr}
def natOD (o : Option Nat) : D := match o with
  | some n => .int (n : Int)
  | none => .non
def spNumAny : SpD := fun ds G Q => ∃ (w : List Nat), ds = [.str (strOf w)] ∧ w.length ≤ 4900 ∧ Q (natOD (numO w)) G
theorem s_dig : Str.ofString "0123456789" = strOf [48, 49, 50, 51, 52, 53, 54, 55, 56, 57] := by decide +kernel
theorem s_0 : Str.ofString "0" = strOf [48] := by decide +kernel
theorem occ_all : (List.range 10).all (fun k => decide (Builtin.Str.occurrences (Str.ofString "0123456789") (sgn (48 + k)) 0 (Str.ofString "0123456789").length 1 = [k])) = true := by decide +kernel
theorem occ_dig {c : Nat} (h1 : 48 ≤ c) (h2 : c ≤ 57) : Builtin.Str.occurrences (Str.ofString "0123456789") (sgn c) 0 (Str.ofString "0123456789").length 1 = (c - 48) :: [] := by
  have := List.all_eq_true.mp occ_all (c - 48) (List.mem_range.mpr (by omega))
  rw [show 48 + (c - 48) = c by omega] at this
  exact of_decide_eq_true this
theorem dig_in (c : Nat) : decide (c ∈ [48, 49, 50, 51, 52, 53, 54, 55, 56, 57]) = digB c := by
  unfold digB
  rw [Bool.eq_iff_iff]
  simp only [decide_eq_true_eq, Bool.and_eq_true, List.mem_cons, List.not_mem_nil, or_false]
  omega
abbrev N_number_in : List Str := ["word", "sign", "number"]
theorem sc_number_in : FnScope N_number_in ["word"] (defScope s_number_in) := ⟨rfl, rfl, rfl, by decide +kernel, rfl, by decide +kernel, by decide +kernel⟩
theorem c_number_in (T : Txt K mg C) (d : Def K mg "number_in" s_number_in) : Cal P w K mg base "number_in" 1 ["word"] (spNumAny) := by
  refine cal_mk (N := N_number_in) d sc_number_in (fun ds G Q h => ?_) (fun _ _ _ _ _ _ us hl => match us, hl with | [_], _ => rfl) (fun f cdv A outer s H E hg hr => ?_)
  · obtain ⟨w, rfl, _⟩ := h
    rfl
  · have hu := hu100 hr
    have nd := sc_number_in.nd
    have hA := deeper_guards (env := envOfC "number_in" (defScope s_number_in) s.heap.objs.size f cdv) hg
    refine ⟨_, (dps_cons (dp_if (DW.dt (dw_or (dt_cmp (od_eq hu) (de_var 0) de_str (nomark _)) (dw_or (dt_cmp (od_gt hu) (de_callB cd_len rfl T.f_len (by decide +kernel) (da_cons (de_var 0) da_nil)) (de_gint rfl T.c_MOST_DIGITS) (nomark _)) (dw_or1 (dt_not (dt_val (de_callB (cd_all rfl) rfl T.f_all (by decide +kernel) (da_cons (de_lc (own := [("sign", 1)]) (p := (.nm 1)) rfl nd (di_str (de_var 0)) (blkOk_by (by show blkC N_number_in (defScope s_number_in) _ _ = true; decide +kernel)) (by decide) (fun _ _ _ _ _ => pg_name (i := 1) nd rfl (Or.inl rfl)) (fun _ _ _ _ _ => dts_nil) (fun _ _ _ _ _ => (de_cmp (od_in hu) (de_var 1) (de_gstr rfl T.c_DIGITS) (by rfl)))) da_nil))))))))
  (dps_one (dp_ret de_non))
  dps_nil)
  (dps_cons (dp_if (DW.dt (dw_and (dt_cmp (od_eq hu) (de_ix hu (de_var 0) de_int) de_str (nomark _)) (dw_and1 (dt_cmp (od_ne hu) (de_var 0) de_str (nomark _)))))
  (dps_one (dp_ret de_non))
  dps_nil)
  (dps_cons (dp_asg de_int (dg_name 2 nd))
  (dps_cons (dp_for PassesOwn.never rfl (di_str (de_var 0)) (dg_name 1 nd)
  (dps_one (dp_asg (de_op od_add (de_op od_mul (de_var 2) de_int) (de_bm PySem.F.plainAttrs_str PySem.F.slot_str_index PySem.F.type_str_index md_index (de_gstr rfl T.c_DIGITS) (da_cons (de_var 1) da_nil))) (dg_name 2 nd))))
  (dps_one (dp_ret (de_var 2))))))), fun ds G Q h => ?_⟩
    obtain ⟨w, rfl, hl, q⟩ := h
    rw [show dstart N_number_in [.str (strOf w)] = [some (.str (strOf w)), none, none] from rfl]
    have hsz : (strOf w).length ≤ sizeLine := by rw [strOf_len]; exact sz (by omega)
    simp only [dxs, dl, dx3]
    refine ⟨okE_str _ _, ?_⟩
    by_cases h0 : w = []
    · subst h0
      rw [if_pos (by rw [str_nil, eqv_str]; simp), if_pos trivial]
      exact ⟨_, Sub.refl _, q⟩
    · have ne0 : (D.str (strOf w)).eqv (D.str (Str.ofString "")) = false := by
        rw [str_nil, eqv_str, beq_eq_false_iff_ne]
        exact fun h => h0 (strOf_inj h)
      rw [if_neg (by rw [ne0]; simp), len_str hsz, strOf_len]
      simp only [dxs, dl]
      refine ⟨rfl, ?_⟩
      by_cases l3 : 3 < w.length
      · rw [if_pos (by simp [DL.lt_int]; omega), if_pos trivial]
        have : numO w = none := by unfold numO numOk; rw [if_neg (by simp; omega)]
        rw [this] at q
        exact ⟨_, Sub.refl _, q⟩
      · rw [if_neg (by simp [DL.lt_int]; omega)]
        refine lc_mapA w (fun c => .str (sgn c)) (fun c => .bl (digB c)) (signs_map _) (sz (by omega)) trivial (fun c hc => ⟨_, rfl, fun Q z => ?_⟩) ?_
        · simp only [dxs, dl, dwipe, List.map_cons, List.map_nil, s_dig, inn_str, strIn_sgn, dig_in]
          exact z
        · rw [all_map]
          have l1 : 1 ≤ w.length := by cases w with | nil => exact absurd rfl h0 | cons a l => simp
          by_cases hd : w.all digB = true
          · rw [hd]
            simp only [Bool.not_true, Bool.false_eq_true, if_false]
            obtain ⟨c0, cs, rfl⟩ : ∃ c0 cs, w = c0 :: cs := by
              cases w with
              | nil => exact absurd rfl h0
              | cons a l => exact ⟨a, l, rfl⟩
            have ih : D.item (.str (strOf (c0 :: cs))) (.int 0) = some (.str (sgn c0)) := by
              show (if (strOf (c0 :: cs)).length ≤ sizeLine then _ else _) = _
              rw [if_pos hsz]
              have : atI (strOf (c0 :: cs)).cps.toList (0 : Int) = some c0 := atI_nat (j := 0) rfl
              rw [this]
              rfl
            rw [ih]
            simp only [dxs, dl]
            have fo : numOk (c0 :: cs) = true → ForB (DL.signs (strOf (c0 :: cs))) dNoGuard (dgName 1)
                (dAsg (dOp rAddD (dOp rMulD (dVar 2) (dC (D.int 10))) (dBM "str" rIndexS (dC (D.str (Str.ofString "0123456789"))) (dCons (dVar 1) dNil))) (dgName 2))
                { nx := dRet (dVar 2) (fin Q), rt := (fin Q).rt, bk := (fin Q).bk, ct := (fin Q).ct } [some (D.str (strOf (c0 :: cs))), none, some (D.int 0)] G := by
              intro ok
              have hn : numO (c0 :: cs) = some (valS (c0 :: cs)) := by unfold numO; rw [if_pos ok]
              rw [hn] at q
              refine ⟨fun i S' G' => ∃ (x1 : Option D), S' = [some (D.str (strOf (c0 :: cs))), x1, some (D.int ((valS ((c0 :: cs).take i) : Nat) : Int))] ∧ G' = G,
                ⟨none, rfl, rfl⟩, fun _ _ _ _ => trivial, ?_, ?_⟩
              · rintro i S' G' dd ⟨x1, rfl, rfl⟩ hd'
                obtain ⟨c, hc, rfl⟩ := signs_get hd'
                have cd := List.all_eq_true.mp hd c (List.mem_of_getElem? hc)
                unfold digB at cd
                simp only [Bool.and_eq_true, decide_eq_true_eq] at cd
                have eo := occ_dig cd.1 cd.2
                simp only [dxs, dl, rMulD, rAddD]
                refine ⟨.inr ⟨by decide, by decide⟩, rfl, c - 48, [], eo, ?_⟩
                refine ⟨some (.str (sgn c)), ?_, rfl⟩
                have e1 : (c0 :: cs).take (i + 1) = (c0 :: cs).take i ++ [c] := by rw [List.take_add_one, hc]; rfl
                rw [e1]
                have e2 : valS ((c0 :: cs).take i ++ [c]) = valS ((c0 :: cs).take i) * 10 + (c - 48) := by simp [valS, List.foldl_append]
                rw [e2]
                have e3 : ((valS ((c0 :: cs).take i) * 10 + (c - 48) : Nat) : Int) = (valS ((c0 :: cs).take i) : Nat) * 10 + ((c - 48 : Nat) : Int) := by omega
                rw [e3]
              · rintro S' G' ⟨x1, rfl, rfl⟩
                rw [signs_len, List.take_length]
                exact ⟨_, Sub.refl _, q⟩
            refine ⟨okE_str _ _, ?_⟩
            by_cases h48 : c0 = 48
            · subst h48
              rw [if_pos (by rw [show (D.str (sgn 48)) = .str (strOf [48]) from rfl, s_0, eqv_str]; simp)]
              refine ⟨okE_str _ _, ?_⟩
              by_cases hcs : cs = []
              · subst hcs
                rw [if_neg (by rw [s_0, eqv_str]; simp)]
                exact fo (by decide)
              · rw [if_pos (by rw [s_0, eqv_str]; simp only [Bool.not_eq_true', beq_eq_false_iff_ne]; exact fun z => hcs (by have := strOf_inj z; simpa using this))]
                have : numO (48 :: cs) = none := by unfold numO numOk; rw [if_neg (by simp [hcs])]
                rw [this] at q
                exact ⟨_, Sub.refl _, q⟩
            · rw [if_neg (by rw [show (D.str (sgn c0)) = .str (strOf [c0]) from rfl, s_0, eqv_str, beq_iff_eq]; exact fun z => h48 (by have := strOf_inj z; simpa using this))]
              refine fo ?_
              unfold numOk
              simp only [Bool.and_eq_true, decide_eq_true_eq, Bool.or_eq_true]
              exact ⟨⟨⟨l1, by omega⟩, hd⟩, .inl (by simpa using h48)⟩
          · have hd2 : (!w.all digB) = true := by rw [Bool.not_eq_true'] ; exact Bool.not_eq_true _ |>.mp hd
            dsimp only
            rw [if_pos hd2]
            have : numO w = none := by unfold numO numOk; rw [if_neg (by simp only [Bool.and_eq_true, not_and]; intro h; exact absurd h.2 hd)]
            rw [this] at q
            exact ⟨_, Sub.refl _, q⟩
end
end Pace
end
section
set_option Elab.async false
set_option linter.all false
set_option maxRecDepth 100000
set_option maxHeartbeats 4000000
namespace Pace
open PySem PySem.Spec PyProof.Rows L2 DL
section
variable {P : Program} {w : World} {K : PySem.W.Frag} {mg : Str → Option Value} {base : Heap} {C : Addr}
def spInteger : SpD := fun ds G Q => ∃ n : Int, ds = [.int n] ∧ Q (.bl true) G
abbrev N_is_integer : List Str := ["thing"]
theorem sc_is_integer : FnScope N_is_integer ["thing"] (defScope s_is_integer) := ⟨rfl, rfl, rfl, by decide +kernel, rfl, by decide +kernel, by decide +kernel⟩
theorem c_is_integer (T : Txt K mg C) (d : Def K mg "is_integer" s_is_integer) : Cal P w K mg base "is_integer" 1 ["thing"] (spInteger) := by
  refine cal_mk (N := N_is_integer) d sc_is_integer (fun ds G Q h => ?_) (fun _ _ _ _ _ _ us hl => match us, hl with | [_], _ => rfl) (fun f cdv A outer s H E hg hr => ?_)
  · obtain ⟨n, rfl, _⟩ := h
    rfl
  · have hu := hu100 hr
    have nd := sc_is_integer.nd
    have hA := deeper_guards (env := envOfC "is_integer" (defScope s_is_integer) s.heap.objs.size f cdv) hg
    refine ⟨_, (dps_one (dp_ret (de_and (de_callB cd_isi rfl T.f_isinstance (by decide +kernel) (da_cons (de_var 0) (da_cons (de_ty (T := "int") rfl T.f_int (by decide +kernel)) da_nil))) (de_one (de_not (de_callB cd_isi rfl T.f_isinstance (by decide +kernel) (da_cons (de_var 0) (da_cons (de_ty (T := "bool") rfl T.f_bool (by decide +kernel)) da_nil)))))))), fun ds G Q h => ?_⟩
    obtain ⟨n, rfl, q⟩ := h
    exact ⟨_, Sub.refl _, q⟩
end
section
variable {P : Program} {w : World} {K : PySem.W.Frag} {mg : Str → Option Value} {base : Heap} {C : Addr}
def spLetterOf : SpD := fun ds G Q => ∃ (ls : List Nat) (c : Nat), ds = [.str (strOf ls), .str (sgn c)] ∧ Q (.bl (decide (c ∈ ls))) G
abbrev N_is_letter_of : List Str := ["letters", "thing"]
theorem sc_is_letter_of : FnScope N_is_letter_of ["letters", "thing"] (defScope s_is_letter_of) := ⟨rfl, rfl, rfl, by decide +kernel, rfl, by decide +kernel, by decide +kernel⟩
theorem c_is_letter_of (T : Txt K mg C) (d : Def K mg "is_letter_of" s_is_letter_of) : Cal P w K mg base "is_letter_of" 1 ["letters", "thing"] (spLetterOf) := by
  refine cal_mk (N := N_is_letter_of) d sc_is_letter_of (fun ds G Q h => ?_) (fun _ _ _ _ _ _ us hl => match us, hl with | [_, _], _ => rfl) (fun f cdv A outer s H E hg hr => ?_)
  · obtain ⟨ls, c, rfl, _⟩ := h
    rfl
  · have hu := hu100 hr
    have nd := sc_is_letter_of.nd
    have hA := deeper_guards (env := envOfC "is_letter_of" (defScope s_is_letter_of) s.heap.objs.size f cdv) hg
    refine ⟨_, (dps_one (dp_ret (de_and (de_callB cd_isi rfl T.f_isinstance (by decide +kernel) (da_cons (de_var 1) (da_cons (de_ty (T := "str") rfl T.f_str (by decide +kernel)) da_nil))) (de_and (de_cmp (od_eq hu) (de_callB cd_len rfl T.f_len (by decide +kernel) (da_cons (de_var 1) da_nil)) de_int (nomark _)) (de_one (de_cmp (od_in hu) (de_var 1) (de_var 0) (by rfl))))))), fun ds G Q h => ?_⟩
    obtain ⟨ls, c, rfl, q⟩ := h
    rw [show dstart N_is_letter_of [.str (strOf ls), .str (sgn c)] = [some (.str (strOf ls)), some (.str (sgn c))] from rfl]
    have e1 : rLenD [.str (sgn c)] = fun G Q => Q (.int (1 : Nat)) G := by
      funext G Q
      exact len_str (x := sgn c) (sz (by show (1 : Nat) ≤ 5000; decide)) G Q
    simp only [dxs, dl, dx3, e1, inn_str, strIn_sgn, okE_int, eqv_int, true_and, if_true, beq_self_eq_true, Int.ofNat_one]
    exact ⟨_, Sub.refl _, q⟩
end
section
variable {P : Program} {w : World} {K : PySem.W.Frag} {mg : Str → Option Value} {base : Heap} {C : Addr}
def spLetters : SpD := fun ds G Q => ∃ cs : List Nat, ds = [.str (strOf cs)] ∧ cs.length ≤ 4900 ∧ Q (.bl (lettersB cs)) G
abbrev N_are_letters : List Str := ["thing", "sign", "one", "other"]
theorem sc_are_letters : FnScope N_are_letters ["thing"] (defScope s_are_letters) := ⟨rfl, rfl, rfl, by decide +kernel, rfl, by decide +kernel, by decide +kernel⟩
theorem c_are_letters (T : Txt K mg C) (d : Def K mg "are_letters" s_are_letters) : Cal P w K mg base "are_letters" 1 ["thing"] (spLetters) := by
  refine cal_mk (N := N_are_letters) d sc_are_letters (fun ds G Q h => ?_) (fun _ _ _ _ _ _ us hl => match us, hl with | [_], _ => rfl) (fun f cdv A outer s H E hg hr => ?_)
  · obtain ⟨cs, rfl, _⟩ := h
    rfl
  · have hu := hu100 hr
    have nd := sc_are_letters.nd
    have hA := deeper_guards (env := envOfC "are_letters" (defScope s_are_letters) s.heap.objs.size f cdv) hg
    refine ⟨_, (dps_cons (dp_if (DW.dt (dw_or (dt_not (dt_val (de_callB cd_isi rfl T.f_isinstance (by decide +kernel) (da_cons (de_var 0) (da_cons (de_ty (T := "str") rfl T.f_str (by decide +kernel)) da_nil))))) (dw_or (dt_cmp (od_eq hu) (de_var 0) de_str (nomark _)) (dw_or1 (dt_not (dt_val (de_callB (cd_all rfl) rfl T.f_all (by decide +kernel) (da_cons (de_lc (own := [("sign", 1)]) (p := (.nm 1)) rfl nd (di_str (de_var 0)) (blkOk_by (by show blkC N_are_letters (defScope s_are_letters) _ _ = true; decide +kernel)) (by decide) (fun _ _ _ _ _ => pg_name (i := 1) nd rfl (Or.inl rfl)) (fun _ _ _ _ _ => dts_nil) (fun _ _ _ _ _ => (de_cmp (od_in hu) (de_var 1) (de_gstr rfl T.c_LETTERS) (by rfl)))) da_nil))))))))
  (dps_one (dp_ret de_bl))
  dps_nil)
  (dps_one (dp_ret (de_callB (cd_all rfl) rfl T.f_all (by decide +kernel) (da_cons (de_lc (own := [("one", 2), ("other", 3)]) (p := (.tp [2, 3])) rfl nd (di_zipS rfl T.f_zip (da_cons (de_slice (de_var 0) do_none (do_some (de_un ud_neg de_int))) (da_cons (de_slice (de_var 0) (do_some de_int) do_none) da_nil))) (blkOk_by (by show blkC N_are_letters (defScope s_are_letters) _ _ = true; decide +kernel)) (by decide) (fun _ _ _ _ _ => pg_tup rfl (pgs_cons (pg_name (i := 2) nd rfl (Or.inl rfl)) (pgs_cons (pg_name (i := 3) nd rfl (Or.inl rfl)) pgs_nil))) (fun _ _ _ _ _ => dts_nil) (fun _ _ _ _ _ => (de_cmp (od_lt hu) (de_var 2) (de_var 3) (nomark _)))) da_nil))))), fun ds G Q h => ?_⟩
    obtain ⟨cs, rfl, hl, q⟩ := h
    rw [show dstart N_are_letters [.str (strOf cs)] = [some (.str (strOf cs)), none, none, none] from rfl]
    simp only [dxs, dl, dx3, Bool.not_true, Bool.false_eq_true, if_false, okE_str, eqv_str, true_and]
    by_cases h0 : cs = []
    · subst h0
      rw [if_pos (by decide +kernel), if_pos trivial]
      exact ⟨_, Sub.refl _, q⟩
    · rw [if_neg (by
        intro z
        have z2 : strOf cs = strOf [] := by rw [← str_nil]; simpa using z
        exact h0 (strOf_inj z2))]
      have hsz : (strOf cs).length ≤ sizeLine := by rw [strOf_len]; exact sz (by omega)
      refine lc_mapA cs (fun c => .str (sgn c)) (fun c => .bl (decide (c ∈ abc))) (by simp [DL.signs, strOf, sgn]) (sz (by omega)) trivial (fun c _ => ⟨_, rfl, fun Q z => ?_⟩) ?_
      · simp only [dxs, dl, dwipe, List.map_cons, List.map_nil, inn_str, abc_str, strIn_sgn]
        exact z
      · rw [all_map]
        simp only
        by_cases ha : cs.all (fun c => decide (c ∈ abc)) = true
        · rw [if_neg (by simp [ha])]
          refine ⟨hsz, hsz, ?_⟩
          rw [cutS_strOf, cutS_strOf, cut_last, cut_tail]
          refine lc_mapA (cs.dropLast.zip cs.tail) (fun p => .tup [.str (sgn p.1), .str (sgn p.2)]) (fun p => .bl (decide (p.1 < p.2))) (by rw [zip_map]; simp [strOf]) (sz (by simp; omega)) trivial (fun p _ => ⟨_, rfl, fun Q z => ?_⟩) ?_
          · simp only [dxs, dl, dwipe, List.map_cons, List.map_nil, okL_str, sgn_lt, true_and]
            exact z
          · rw [all_map]
            refine ⟨_, Sub.refl _, ?_⟩
            have e : lettersB cs = (cs.dropLast.zip cs.tail).all fun p => decide (p.1 < p.2) := by
              unfold lettersB nbr
              rw [ha, zip_map]
              have : cs.isEmpty = false := by simpa using h0
              simp [this, List.all_map]
            rw [← e]
            exact q
        · rw [if_pos (by simpa using ha)]
          have e : lettersB cs = false := by
            unfold lettersB
            simp only [Bool.not_eq_true] at ha
            simp [ha]
          rw [e] at q
          exact ⟨_, Sub.refl _, q⟩
end
end Pace
end
section
set_option Elab.async false
set_option linter.all false
set_option maxRecDepth 100000
set_option maxHeartbeats 4000000
namespace Pace
open PySem PySem.Spec PyProof.Rows L2 DL
section
variable {P : Program} {w : World} {K : PySem.W.Frag} {mg : Str → Option Value} {base : Heap} {C : Addr}
def headD (o : Option (List Nat × List Nat × Nat)) : D := match o with
  | some (hs, ws, n) => .tup [.str (strOf hs), .str (strOf ws), .int (n : Int)]
  | none => .non
def spFirstAny : SpD := fun ds G Q => ∃ (l : List Nat), ds = [.str (strOf l)] ∧ l.length ≤ 4890 ∧ Q (headD (headO l)) G
abbrev N_first_line : List Str := ["line", "parts", "many"]
theorem sc_first_line : FnScope N_first_line ["line"] (defScope s_first_line) := ⟨rfl, rfl, rfl, by decide +kernel, rfl, by decide +kernel, by decide +kernel⟩
theorem c_first_line (T : Txt K mg C) (d : Def K mg "first_line" s_first_line) (C_number_in : Cal P w K mg base "number_in" 1 ["word"] (spNumAny)) (C_are_letters : Cal P w K mg base "are_letters" 1 ["thing"] (spLetters)) : Cal P w K mg base "first_line" 2 ["line"] (spFirstAny) := by
  refine cal_mk (N := N_first_line) d sc_first_line (fun ds G Q h => ?_) (fun _ _ _ _ _ _ us hl => match us, hl with | [_], _ => rfl) (fun f cdv A outer s H E hg hr => ?_)
  · obtain ⟨l, rfl, _⟩ := h
    rfl
  · have hu := hu100 hr
    have nd := sc_first_line.nd
    have hA := deeper_guards (env := envOfC "first_line" (defScope s_first_line) s.heap.objs.size f cdv) hg
    refine ⟨_, (dps_cons (dp_asg (de_bm PySem.F.plainAttrs_str PySem.F.slot_str_split PySem.F.type_str_split md_split (de_var 0) (da_cons (de_gstr rfl T.c_BLANK) da_nil)) (dg_name 1 nd))
  (dps_cons (dp_if (DW.dt (dw_or (dt_cmp (od_ne hu) (de_callB cd_len rfl T.f_len (by decide +kernel) (da_cons (de_var 1) da_nil)) (de_gint rfl T.c_FIRST_PARTS) (nomark _)) (dw_or1 (dt_cmp (od_ne hu) (de_ix hu (de_var 1) de_int) (de_gstr rfl T.c_RULES_WORD) (nomark _)))))
  (dps_one (dp_ret de_non))
  dps_nil)
  (dps_cons (dp_asg (de_cal C_number_in hA (hr.mono (by decide)) (da_cons (de_ix hu (de_var 1) de_int) da_nil)) (dg_name 2 nd))
  (dps_cons (dp_if (DW.dt (dw_or (dt_not (dt_val (de_cal C_are_letters hA (hr.mono (by decide)) (da_cons (de_ix hu (de_var 1) de_int) da_nil)))) (dw_or (dt_not (dt_val (de_cal C_are_letters hA (hr.mono (by decide)) (da_cons (de_ix hu (de_var 1) de_int) da_nil)))) (dw_or (dt_cmp od_isN (de_var 2) de_non (nomark _)) (dw_or1 (dt_cmp (od_eq hu) (de_var 2) de_int (nomark _)))))))
  (dps_one (dp_ret de_non))
  dps_nil)
  (dps_one (dp_ret (de_tup (da_cons (de_ix hu (de_var 1) de_int) (da_cons (de_ix hu (de_var 1) de_int) (da_cons (de_var 2) da_nil)))))))))), fun ds G Q h => ?_⟩
    obtain ⟨l, rfl, hl, q⟩ := h
    rw [show dstart N_first_line [.str (strOf l)] = [some (.str (strOf l)), none, none] from rfl]
    have sp := split_spl (c := 32) (by decide) l
    have ln := spl_mem 32 l
    have lp := spl_len 32 l
    unfold headO at q
    generalize spl 32 l = ps at sp ln lp q
    simp only [dxs, dl, dx3, rSplitD, s_blank, sp]
    refine ⟨rfl, rfl, sz (by rw [strOf_len]; omega), rfl, ?_⟩
    have bad : headP ps = none → (fin Q).rt D.non G := fun e => by rw [e] at q; exact ⟨_, Sub.refl _, q⟩
    by_cases h4 : ps.length = 4
    · obtain ⟨a, b, c, d, rfl⟩ : ∃ a b c d, ps = [a, b, c, d] := by
        match ps, h4 with
        | [a, b, c, d], _ => exact ⟨a, b, c, d, rfl⟩
      have la := ln a (by simp)
      have lb := ln b (by simp)
      have lc := ln c (by simp)
      have ld := ln d (by simp)
      have i0 : D.item (.lst (List.map D.str (List.map strOf [a, b, c, d]))) (.int 0) = some (.str (strOf a)) := atI_nat (j := 0) rfl
      have i1 : D.item (.lst (List.map D.str (List.map strOf [a, b, c, d]))) (.int 1) = some (.str (strOf b)) := atI_nat (j := 1) rfl
      have i2 : D.item (.lst (List.map D.str (List.map strOf [a, b, c, d]))) (.int 2) = some (.str (strOf c)) := atI_nat (j := 2) rfl
      have i3 : D.item (.lst (List.map D.str (List.map strOf [a, b, c, d]))) (.int 3) = some (.str (strOf d)) := atI_nat (j := 3) rfl
      rw [if_neg (by simp [eqv_int])]
      simp only [i0, i1, i2, i3, s_rules]
      refine ⟨okE_str _ _, ?_⟩
      by_cases ha : a = wRules
      · rw [if_neg (by rw [show ∀ G : GH, D.cur G (.str (strOf a)) = .str (strOf a) from fun _ => rfl, eqv_str, ha]; simp)]
        refine ⟨d, rfl, by omega, b, rfl, by omega, ?_⟩
        by_cases hb : lettersB b = true
        · rw [hb]
          simp only [Bool.not_true, Bool.false_eq_true, if_false]
          refine ⟨c, rfl, by omega, ?_⟩
          by_cases hc : lettersB c = true
          · rw [hc]
            simp only [Bool.not_true, Bool.false_eq_true, if_false]
            cases hn : numO d with
            | none =>
              rw [if_pos (by rfl), if_pos trivial]
              exact bad (by unfold headP; dsimp only; rw [if_pos ha, hn])
            | some n =>
              rw [if_neg (by simp [natOD, D.isNon])]
              have cI : ∀ (G : GH) (n : Int), D.cur G (.int n) = .int n := fun _ _ => rfl
              simp only [natOD, cI, okE_int, eqv_int, true_and]
              by_cases h0 : n = 0
              · rw [if_pos (by simp [h0])]
                exact bad (by unfold headP; dsimp only; rw [if_pos ha, hn]; simp [h0])
              · rw [if_neg (by simp; omega)]
                have e : headP [a, b, c, d] = some (b, c, n) := by unfold headP; dsimp only; rw [if_pos ha, hn]; simp [hb, hc, h0]
                rw [e] at q
                exact ⟨sz (by decide), _, Sub.refl _, q⟩
          · have hc := Bool.not_eq_true _ |>.mp hc
            rw [hc]
            simp only [Bool.not_false, if_true]
            exact bad (by unfold headP; dsimp only; rw [if_pos ha]; cases numO d <;> simp [hc])
        · have hb := Bool.not_eq_true _ |>.mp hb
          rw [hb]
          simp only [Bool.not_false, if_true]
          exact bad (by unfold headP; dsimp only; rw [if_pos ha]; cases numO d <;> simp [hb])
      · rw [if_pos (by rw [show ∀ G : GH, D.cur G (.str (strOf a)) = .str (strOf a) from fun _ => rfl, eqv_str]; simp only [Bool.not_eq_true', beq_eq_false_iff_ne]; exact fun z => ha (strOf_inj z))]
        exact bad (by unfold headP; dsimp only; rw [if_neg ha])
    · rw [if_pos (by simp [eqv_int]; omega), if_pos trivial]
      refine bad ?_
      unfold headP
      split
      · simp at h4
      · rfl
end
section
variable {P : Program} {w : World} {K : PySem.W.Frag} {mg : Str → Option Value} {base : Heap} {C : Addr}
def moveD (o : Option (Nat × Mv)) : D := match o with
  | some x => .tup [.int (x.1 : Int), .str (sgn x.2.h), .str (sgn x.2.c), .int (x.2.t : Int)]
  | none => .non
theorem moveP_no {hs ws a b c d e : List Nat} {n s t : Nat} (ha : a = wMove) (hb : numO b = some s) (he : numO e = some t) (h : ∀ h k, c = [h] → d = [k] → ¬ (s < n ∧ t < n ∧ h ∈ hs ∧ k ∈ ws)) : moveP hs ws n [a, b, c, d, e] = none := by
  unfold moveP
  dsimp only
  rw [if_pos ha, hb, he]
  split
  · rename_i h1 h2
    cases h1
    cases h2
    exact if_neg (h _ _ rfl rfl)
  · rfl
theorem moveP_yes {hs ws a b e : List Nat} {n s t h k : Nat} (ha : a = wMove) (hb : numO b = some s) (he : numO e = some t) (q : s < n ∧ t < n ∧ h ∈ hs ∧ k ∈ ws) : moveP hs ws n [a, b, [h], [k], e] = some (s, ⟨h, k, t⟩) := by
  unfold moveP
  dsimp only
  rw [if_pos ha, hb, he]
  exact if_pos q
def spMoveAny : SpD := fun ds G Q => ∃ (hs ws : List Nat) (n : Nat) (l : List Nat), ds = [.str (strOf l), .str (strOf hs), .str (strOf ws), .int (n : Int)] ∧ hs.length ≤ 1000 ∧ ws.length ≤ 1000 ∧ l.length ≤ 4890 ∧ Q (moveD (moveO hs ws n l)) G
abbrev N_move_line : List Str := ["line", "heard", "written", "many", "parts", "state", "target"]
theorem sc_move_line : FnScope N_move_line ["line", "heard", "written", "many"] (defScope s_move_line) := ⟨rfl, rfl, rfl, by decide +kernel, rfl, by decide +kernel, by decide +kernel⟩
theorem c_move_line (T : Txt K mg C) (d : Def K mg "move_line" s_move_line) (C_number_in : Cal P w K mg base "number_in" 1 ["word"] (spNumAny)) : Cal P w K mg base "move_line" 2 ["line", "heard", "written", "many"] (spMoveAny) := by
  refine cal_mk (N := N_move_line) d sc_move_line (fun ds G Q h => ?_) (fun _ _ _ _ _ _ us hl => match us, hl with | [_, _, _, _], _ => rfl) (fun f cdv A outer s H E hg hr => ?_)
  · obtain ⟨hs, ws, n, l, rfl, _⟩ := h
    rfl
  · have hu := hu100 hr
    have nd := sc_move_line.nd
    have hA := deeper_guards (env := envOfC "move_line" (defScope s_move_line) s.heap.objs.size f cdv) hg
    refine ⟨_, (dps_cons (dp_asg (de_bm PySem.F.plainAttrs_str PySem.F.slot_str_split PySem.F.type_str_split md_split (de_var 0) (da_cons (de_gstr rfl T.c_BLANK) da_nil)) (dg_name 4 nd))
  (dps_cons (dp_if (DW.dt (dw_or (dt_cmp (od_ne hu) (de_callB cd_len rfl T.f_len (by decide +kernel) (da_cons (de_var 4) da_nil)) (de_gint rfl T.c_MOVE_PARTS_ruletexts) (nomark _)) (dw_or1 (dt_cmp (od_ne hu) (de_ix hu (de_var 4) de_int) (de_gstr rfl T.c_MOVE_WORD) (nomark _)))))
  (dps_one (dp_ret de_non))
  dps_nil)
  (dps_cons (dp_par (i := 5) (j := 6) rfl nd (ha := (da_cons (de_cal C_number_in hA (hr.mono (by decide)) (da_cons (de_ix hu (de_var 4) de_int) da_nil)) (da_cons (de_cal C_number_in hA (hr.mono (by decide)) (da_cons (de_ix hu (de_var 4) de_int) da_nil)) da_nil))))
  (dps_cons (dp_if (DW.dt (dw_or (dt_cmp od_isN (de_var 5) de_non (nomark _)) (dw_or (dt_cmp od_isN (de_var 6) de_non (nomark _)) (dw_or (dt_cmp (od_ge hu) (de_var 5) (de_var 3) (nomark _)) (dw_or1 (dt_cmp (od_ge hu) (de_var 6) (de_var 3) (nomark _)))))))
  (dps_one (dp_ret de_non))
  dps_nil)
  (dps_cons (dp_if (DW.dt (dw_or (dt_cmp (od_ne hu) (de_callB cd_len rfl T.f_len (by decide +kernel) (da_cons (de_ix hu (de_var 4) de_int) da_nil)) de_int (nomark _)) (dw_or (dt_cmp (od_ne hu) (de_callB cd_len rfl T.f_len (by decide +kernel) (da_cons (de_ix hu (de_var 4) de_int) da_nil)) de_int (nomark _)) (dw_or (dt_cmp (od_notIn hu) (de_ix hu (de_var 4) de_int) (de_var 1) (by rfl)) (dw_or1 (dt_cmp (od_notIn hu) (de_ix hu (de_var 4) de_int) (de_var 2) (by rfl)))))))
  (dps_one (dp_ret de_non))
  dps_nil)
  (dps_one (dp_ret (de_tup (da_cons (de_var 5) (da_cons (de_ix hu (de_var 4) de_int) (da_cons (de_ix hu (de_var 4) de_int) (da_cons (de_var 6) da_nil)))))))))))), fun ds G Q h => ?_⟩
    obtain ⟨hs, ws, n, l, rfl, h1, h2, hl, q⟩ := h
    rw [show dstart N_move_line [.str (strOf l), .str (strOf hs), .str (strOf ws), .int (n : Int)] = [some (.str (strOf l)), some (.str (strOf hs)), some (.str (strOf ws)), some (.int (n : Int)), none, none, none] from rfl]
    have sp := split_spl (c := 32) (by decide) l
    have ln := spl_mem 32 l
    have lp := spl_len 32 l
    unfold moveO at q
    generalize spl 32 l = ps at sp ln lp q
    simp only [dxs, dl, dx3, rSplitD, s_blank, sp]
    refine ⟨rfl, rfl, sz (by rw [strOf_len]; omega), rfl, ?_⟩
    have bad : moveP hs ws n ps = none → (fin Q).rt D.non G := fun e => by rw [e] at q; exact ⟨_, Sub.refl _, q⟩
    by_cases h5 : ps.length = 5
    · obtain ⟨a, b, c, d, e, rfl⟩ : ∃ a b c d e, ps = [a, b, c, d, e] := by
        match ps, h5 with
        | [a, b, c, d, e], _ => exact ⟨a, b, c, d, e, rfl⟩
      have la := ln a (by simp)
      have lb := ln b (by simp)
      have lc := ln c (by simp)
      have ld := ln d (by simp)
      have le := ln e (by simp)
      have i0 : D.item (.lst (List.map D.str (List.map strOf [a, b, c, d, e]))) (.int 0) = some (.str (strOf a)) := atI_nat (j := 0) rfl
      have i1 : D.item (.lst (List.map D.str (List.map strOf [a, b, c, d, e]))) (.int 1) = some (.str (strOf b)) := atI_nat (j := 1) rfl
      have i2 : D.item (.lst (List.map D.str (List.map strOf [a, b, c, d, e]))) (.int 2) = some (.str (strOf c)) := atI_nat (j := 2) rfl
      have i3 : D.item (.lst (List.map D.str (List.map strOf [a, b, c, d, e]))) (.int 3) = some (.str (strOf d)) := atI_nat (j := 3) rfl
      have i4 : D.item (.lst (List.map D.str (List.map strOf [a, b, c, d, e]))) (.int 4) = some (.str (strOf e)) := atI_nat (j := 4) rfl
      have hlen : ∀ (w : List Nat), w.length ≤ 4890 → ∀ (G : GH) (Q : DQ), rLenD [D.str (strOf w)] G Q = Q (.int (w.length : Nat)) G := fun w hw G Q => by
        rw [DL.len_str (by rw [strOf_len]; exact sz (by omega)), strOf_len]
      rw [if_neg (by simp [eqv_int])]
      simp only [i0, i1, i2, i3, i4, s_move]
      refine ⟨okE_str _ _, ?_⟩
      by_cases ha : a = wMove
      · rw [if_neg (by rw [show ∀ G : GH, D.cur G (.str (strOf a)) = .str (strOf a) from fun _ => rfl, eqv_str, ha]; simp)]
        refine ⟨b, rfl, by omega, e, rfl, by omega, ?_⟩
        cases hb : numO b with
        | none =>
          rw [if_pos (by rfl), if_pos trivial]
          exact bad (by unfold moveP; dsimp only; rw [if_pos ha, hb])
        | some s =>
          rw [if_neg (by simp [natOD, D.isNon])]
          cases he : numO e with
          | none =>
            rw [if_pos (by rfl), if_pos trivial]
            exact bad (by unfold moveP; dsimp only; rw [if_pos ha, hb, he])
          | some t =>
            rw [if_neg (by simp [natOD, D.isNon])]
            have cI : ∀ (G : GH) (n : Int), D.cur G (.int n) = .int n := fun _ _ => rfl
            simp only [natOD, cI, okL_int, DL.lt_int, true_and]
            by_cases hs1 : s < n
            · rw [if_neg (by simp; omega)]
              by_cases ht1 : t < n
              · rw [if_neg (by simp; omega)]
                simp only [hlen c (by omega), hlen d (by omega), cI, okE_int, eqv_int, true_and]
                by_cases hc1 : c.length = 1
                · obtain ⟨h, rfl⟩ : ∃ h, c = [h] := by
                    match c, hc1 with
                    | [h], _ => exact ⟨h, rfl⟩
                  rw [if_neg (by simp)]
                  by_cases hd1 : d.length = 1
                  · obtain ⟨k, rfl⟩ : ∃ k, d = [k] := by
                      match d, hd1 with
                      | [k], _ => exact ⟨k, rfl⟩
                    rw [if_neg (by simp)]
                    have e1 : (D.str (strOf [h])) = .str (sgn h) := rfl
                    have e2 : (D.str (strOf [k])) = .str (sgn k) := rfl
                    simp only [e1, e2, inn_str, strIn_sgn]
                    by_cases hh : h ∈ hs
                    · rw [if_neg (by simp [hh])]
                      by_cases hk : k ∈ ws
                      · rw [if_neg (by simp [hk])]
                        rw [moveP_yes ha hb he ⟨hs1, ht1, hh, hk⟩] at q
                        exact ⟨sz (by decide), _, Sub.refl _, q⟩
                      · rw [if_pos (by simp [hk])]
                        exact bad (moveP_no ha hb he fun h' k' q1 q2 q3 => hk (by cases q2; exact q3.2.2.2))
                    · rw [if_pos (by simp [hh]), if_pos trivial]
                      exact bad (moveP_no ha hb he fun h' k' q1 q2 q3 => hh (by cases q1; exact q3.2.2.1))
                  · rw [if_pos (by simp; omega), if_pos trivial]
                    exact bad (moveP_no ha hb he fun h' k' q1 q2 q3 => hd1 (by rw [q2]; rfl))
                · rw [if_pos (by simp; omega), if_pos trivial]
                  exact bad (moveP_no ha hb he fun h' k' q1 q2 q3 => hc1 (by rw [q1]; rfl))
              · rw [if_pos (by simp; omega)]
                exact bad (moveP_no ha hb he fun h' k' q1 q2 q3 => ht1 q3.2.1)
            · rw [if_pos (by simp; omega), if_pos trivial]
              exact bad (moveP_no ha hb he fun h' k' q1 q2 q3 => hs1 q3.1)
      · rw [if_pos (by rw [show ∀ G : GH, D.cur G (.str (strOf a)) = .str (strOf a) from fun _ => rfl, eqv_str]; simp only [Bool.not_eq_true', beq_eq_false_iff_ne]; exact fun z => ha (strOf_inj z))]
        exact bad (by unfold moveP; dsimp only; rw [if_neg ha])
    · rw [if_pos (by simp [eqv_int]; omega), if_pos trivial]
      refine bad ?_
      unfold moveP
      split
      · simp at h5
      · rfl
end
end Pace
end
section
set_option Elab.async false
set_option linter.all false
set_option maxRecDepth 100000
set_option maxHeartbeats 4000000
namespace Pace
open PySem PySem.Spec PyProof.Rows L2 DL
section
variable {P : Program} {w : World} {K : PySem.W.Frag} {mg : Str → Option Value} {base : Heap} {C : Addr}
def mvT (x : Nat × Mv) : D := .tup [.int (x.1 : Int), .str (sgn x.2.h), .str (sgn x.2.c), .int (x.2.t : Int)]
def mvH (x : Nat × Mv) : D := .tup [.int (x.1 : Int), .str (sgn x.2.h), .str (sgn x.2.c)]
theorem mvH_ok (x y : Nat × Mv) : okL (mvH x) (mvH y) = true := rfl
def lastD (o : Option (Nat × Mv)) : D := match o with
  | none => .non
  | some x => mvT x
theorem sub_gput {G G2 : GH} {a : Addr} {o : MO} (sb : Sub G G2) (h : G a = none) (hd : o.isDeck = false) (h2 : ∀ u, G2 a = some u → u.isDeck = false) : Sub G (gput G2 a o) := by
  refine ⟨fun b u z => ?_, fun c z => ?_⟩
  · have q : b ≠ a := fun y => by rw [y, h] at z; cases z
    rw [gput_ne q]
    exact sb.le b u z
  · by_cases q : c = a
    · subst q
      rw [gput_same] at z
      cases z
      cases hd
    · rw [gput_ne q] at z
      exact sb.dc c z
theorem rowAt_snoc (l : List (Nat × Mv)) (x : Nat × Mv) (s : Nat) : rowAt (l ++ [x]) s = if x.1 = s then rowAt l s ++ [x.2] else rowAt l s := by
  unfold rowAt
  rw [List.filter_append, List.map_append]
  by_cases h : x.1 = s
  · rw [if_pos h]; simp [h]
  · rw [if_neg h]; simp [h]
theorem rowAt_len (l : List (Nat × Mv)) (s : Nat) : (rowAt l s).length ≤ l.length := by
  unfold rowAt
  rw [List.length_map]
  exact List.length_filter_le _ _
theorem mvH_ltB (x y : Nat × Mv) : D.lt (mvH x) (mvH y) = ltS x y := by
  have e1 : ∀ x y : Nat, PyData.eqv (.str (sgn x)) (.str (sgn y)) = (x == y) := fun x y => by
    have := eqv_str (sgn x) (sgn y)
    rw [sgn_beq] at this
    exact this
  have e2 : ∀ x y : Nat, PySem.W.dataLt (.str (sgn x)) (.str (sgn y)) = decide (x < y) := fun x y => sgn_lt x y
  have e3 : PyData.eqv (.int (x.1 : Int)) (.int (y.1 : Int)) = ((x.1 : Int) == (y.1 : Int)) := eqv_int _ _
  have e4 : PySem.W.dataLt (.int (x.1 : Int)) (.int (y.1 : Int)) = decide ((x.1 : Int) < (y.1 : Int)) := DL.lt_int _ _
  have e : D.lt (mvH x) (mvH y) = PySem.W.dataLt (.tuple [.int (x.1 : Int), .str (sgn x.2.h), .str (sgn x.2.c)]) (.tuple [.int (y.1 : Int), .str (sgn y.2.h), .str (sgn y.2.c)]) := rfl
  rw [e, PySem.W.dataLt_tuple, PySem.W.dataLt_cons rfl, PySem.W.dataLt_cons rfl, PySem.W.dataLt_cons rfl, e1, e1, e2, e2, e3, e4]
  unfold ltS mvLt
  by_cases h1 : x.1 = y.1
  · rw [if_pos (by simp [h1])]
    by_cases h2 : x.2.h = y.2.h
    · rw [if_pos (by simp [h2])]
      by_cases h3 : x.2.c = y.2.c
      · rw [if_pos (by simp [h3])]
        simp only [h1, h2, h3]
        simp
        rfl
      · rw [if_neg (by simpa using h3)]
        simp [h1, h2]
    · rw [if_neg (by simpa using h2)]
      simp [h1, h2]
  · rw [if_neg (by simp; omega)]
    simp [h1]
def notStr (d : D) : Prop := d = .non ∨ (∃ i, d = .int i) ∨ (∃ b, d = .bl b) ∨ d = .tup [] ∨ (∃ xs, d = .lst xs) ∨ d = .dK []
def badT (K : PySem.W.Frag) (E : DXQ) (k : Int) (G : GH) : Prop := E (He.ga K "BadText") [("line", .int k)] G
def outT (K : PySem.W.Frag) (t : List Nat) (G : GH) (Q : DQ) (E : DXQ) : Prop := match parseT t with
  | .inl k => badT K E (k : Int) G
  | .inr (hs, ws, rs) => Q (.tup [.str (strOf hs), .str (strOf ws), rowsD rs]) G
def spPartsX (K : PySem.W.Frag) : SpX := fun ds G Q E => (∃ d, ds = [d] ∧ notStr d ∧ badT K E (-1) G) ∨ ∃ t : List Nat, ds = [.str (strOf t)] ∧ t.length ≤ 4800 ∧ outT K t G Q E
abbrev N_parts_in : List Str := ["text", "lines", "first", "heard", "written", "many", "rows", "state", "last", "place", "line", "move", "row"]
theorem sc_parts_in : FnScope N_parts_in ["text"] (defScope s_parts_in) := ⟨rfl, rfl, rfl, by decide +kernel, rfl, by decide +kernel, by decide +kernel⟩
theorem x_parts_in (T : Txt K mg C) (d : Def K mg "parts_in" s_parts_in) (Er : ErT P K mg) (C_first_line : Cal P w K mg base "first_line" 2 ["line"] (spFirstAny)) (C_move_line : Cal P w K mg base "move_line" 2 ["line", "heard", "written", "many"] (spMoveAny)) : CalX P w K mg base "parts_in" 3 ["text"] (spPartsX K) := by
  refine calX_mk (N := N_parts_in) d sc_parts_in (fun ds G Q E h => ?_) (fun _ _ _ _ _ _ us hl => match us, hl with | [_], _ => rfl) (fun f cdv A outer s H E hg hr => ?_)
  · rcases h with ⟨d, rfl, _⟩ | ⟨t, rfl, _⟩ <;> rfl
  · have hu := hu100 hr
    have nd := sc_parts_in.nd
    have hA := deeper_guards (env := envOfC "parts_in" (defScope s_parts_in) s.heap.objs.size f cdv) hg
    refine ⟨_, (dpsx_cons (dpx_if (dt_not (dt_val (de_callB cd_isi rfl T.f_isinstance (by decide +kernel) (da_cons (de_var 0) (da_cons (de_ty (T := "str") rfl T.f_str (by decide +kernel)) da_nil)))))
  (dpsx_one (dpx_raise1 (k := 0) (st := s_BadText_u__init_u_) rfl Er.e_BadText Er.a_BadText (hr.mono (by decide)) (da_cons (de_un ud_neg de_int) da_nil) (by rfl) (by rfl) (by intros; rfl) (by decide) (by rfl) (by rfl) (by rfl) (by rfl) (by rfl) (by decide) (by decide) (by decide +kernel) (by rfl) (by rfl) (by exact fun env => ⟨_, rfl⟩)))
  (dpsx_of dps_nil))
  (dpsx_cons (dpx_of (dp_asg (de_bm PySem.F.plainAttrs_str PySem.F.slot_str_split PySem.F.type_str_split md_split (de_var 0) (da_cons (de_gstr rfl T.c_BREAK) da_nil)) (dg_name 1 nd)))
  (dpsx_cons (dpx_of (dp_asg (de_cal C_first_line hA (hr.mono (by decide)) (da_cons (de_ix hu (de_var 1) de_int) da_nil)) (dg_name 2 nd)))
  (dpsx_cons (dpx_if (dt_cmp od_isN (de_var 2) de_non (nomark _))
  (dpsx_one (dpx_raise1 (k := 0) (st := s_BadText_u__init_u_) rfl Er.e_BadText Er.a_BadText (hr.mono (by decide)) (da_cons de_int da_nil) (by rfl) (by rfl) (by intros; rfl) (by decide) (by rfl) (by rfl) (by rfl) (by rfl) (by rfl) (by decide) (by decide) (by decide +kernel) (by rfl) (by rfl) (by exact fun env => ⟨_, rfl⟩)))
  (dpsx_of dps_nil))
  (dpsx_cons (dpx_of (dp_asg (de_var 2) (dg_tup (n := 3) rfl (dgs_cons (dg_name 3 nd) (dgs_cons (dg_name 4 nd) (dgs_cons (dg_name 5 nd) dgs_nil))))))
  (dpsx_cons (dpx_of (dp_setLcM (i := 6) (own := [("state", 7)]) (p := (.nm 7)) rfl nd rfl rfl (sw_true rfl rfl rfl (by decide +kernel)) (di_range1 rfl T.f_range (da_cons (de_var 5) da_nil)) (blkOk_by (by show blkC N_parts_in (defScope s_parts_in) _ _ = true; decide +kernel)) (by decide) (fun _ _ _ _ _ => pg_name (i := 7) nd rfl (Or.inl rfl)) (fun _ _ _ _ _ => dts_nil) (fun _ _ _ _ _ => (de_lstM da_nil))))
  (dpsx_cons (dpx_of (dp_asg de_non (dg_name 8 nd)))
  (dpsx_cons (dpx_for (by passes_own) rfl (di_enumF (by decide) (by decide) rfl T.f_enumerate (da_cons (de_slice (de_var 1) (do_some de_int) do_none) da_nil)) (dg_tup (n := 2) rfl (dgs_cons (dg_name 9 nd) (dgs_cons (dg_name 10 nd) dgs_nil)))
  (dpsx_cons (dpx_of (dp_asg (de_cal C_move_line hA (hr.mono (by decide)) (da_cons (de_var 10) (da_cons (de_var 3) (da_cons (de_var 4) (da_cons (de_var 5) da_nil))))) (dg_name 11 nd)))
  (dpsx_cons (dpx_if (DW.dt (dw_or (dt_cmp od_isN (de_var 11) de_non (nomark _)) (dw_or1 (DW.dt (dw_and (dt_cmp od_notN (de_var 8) de_non (nomark _)) (dw_and1 (dt_cmp (od_le hu) (de_slice (de_var 11) do_none (do_some de_int)) (de_slice (de_var 8) do_none (do_some de_int)) (nomark _))))))))
  (dpsx_one (dpx_raise1 (k := 0) (st := s_BadText_u__init_u_) rfl Er.e_BadText Er.a_BadText (hr.mono (by decide)) (da_cons (de_var 9) da_nil) (by rfl) (by rfl) (by intros; rfl) (by decide) (by rfl) (by rfl) (by rfl) (by rfl) (by rfl) (by decide) (by decide) (by decide +kernel) (by rfl) (by rfl) (by exact fun env => ⟨_, rfl⟩)))
  (dpsx_of dps_nil))
  (dpsx_of (dps_cons (dp_expr (de_bm PySem.F.plainAttrs_list PySem.F.slot_list_append PySem.F.type_list_append md_append (de_ix hu (de_var 6) (de_ix hu (de_var 11) de_int)) (da_cons (de_slice (de_var 11) (do_some de_int) do_none) da_nil)))
  (dps_one (dp_asg (de_var 11) (dg_name 8 nd))))))))
  (dpsx_of (dps_one (dp_ret (de_tup (da_cons (de_var 3) (da_cons (de_var 4) (da_cons (de_callTy cd_tuple rfl T.f_tuple (by decide +kernel) (da_cons (de_lc (own := [("row", 12)]) (p := (.nm 12)) rfl nd (di_list (de_var 6)) (blkOk_by (by show blkC N_parts_in (defScope s_parts_in) _ _ = true; decide +kernel)) (by decide) (fun _ _ _ _ _ => pg_name (i := 12) nd rfl (Or.inl rfl)) (fun _ _ _ _ _ => dts_nil) (fun _ _ _ _ _ => (de_callTy cd_tuple rfl T.f_tuple (by decide +kernel) (da_cons (de_var 12) da_nil)))) da_nil)) da_nil))))))))))))))), fun ds G Q E2 h => ?_⟩
    rcases h with ⟨d, rfl, nd, q⟩ | ⟨t, rfl, ht, q⟩
    · rw [show dstart N_parts_in [d] = [some (d), none, none, none, none, none, none, none, none, none, none, none, none] from rfl]
      simp only [dxs, dl, dx3, xS, xE, finX, dSeqX, x_forX]
      have isi : ∀ (Q : DQ), Q (.bl false) G → rIsiD [d, .ty "str"] G Q := fun Q z => by
        rcases nd with rfl | ⟨i, rfl⟩ | ⟨b, rfl⟩ | rfl | ⟨xs, rfl⟩ | rfl <;> exact z
      refine isi _ ?_
      simp only [Bool.not_false, if_true]
      exact ⟨_, rfl, _, Sub.refl _, q⟩
    · rw [show dstart N_parts_in [.str (strOf t)] = [some (.str (strOf t)), none, none, none, none, none, none, none, none, none, none, none, none] from rfl]
      have sp := split_spl (c := 10) (by decide) t
      have sm := spl_sum 10 t
      have ln := spl_mem 10 t
      unfold outT parseT at q
      obtain ⟨l0, ls, e⟩ : ∃ l0 ls, spl 10 t = l0 :: ls := by
        cases h : spl 10 t with
        | nil => exact absurd h (spl_ne 10 t)
        | cons a l => exact ⟨a, l, rfl⟩
      rw [e] at sp sm ln q
      have i0 : D.item (.lst (List.map D.str (List.map strOf (l0 :: ls)))) (.int 0) = some (.str (strOf l0)) := atI_nat (j := 0) rfl
      have ll : ls.length ≤ 4801 := by
        have : ls.length ≤ (ls.map fun x => x.length + 1).sum := by
          clear sm ln q i0 sp e
          induction ls with
          | nil => simp
          | cons x l ih => simp only [List.length_cons, List.map_cons, List.sum_cons]; omega
        rw [List.map_cons, List.sum_cons] at sm
        omega
      have ln0 := ln l0 (by simp)
      simp only [dxs, dl, dx3, xS, xE, finX, dSeqX, x_forX, rSplitD, s_break, sp, Bool.not_true, Bool.false_eq_true, if_false]
      refine ⟨rfl, rfl, sz (by rw [strOf_len]; omega), ?_⟩
      rw [i0]
      refine ⟨l0, rfl, by omega, ?_⟩
      dsimp only at q
      cases hh : headO l0 with
      | none =>
        rw [hh] at q
        rw [if_pos (by rfl)]
        exact ⟨_, rfl, _, Sub.refl _, q⟩
      | some r =>
        obtain ⟨hs, ws, n⟩ := r
        rw [hh] at q
        dsimp only at q
        have hok := headO_ok hh
        have h26 := letters_26n hok.lh
        have w26 := letters_26n hok.lw
        have n0 := hok.n0
        have n1 := hok.n1
        rw [if_neg (by simp [headD, D.isNon])]
        have nnT : ∀ l : List D, (D.tup l).isNon = false := fun _ => rfl
        simp only [headD, dxs, dl, dx3, xS, dSeqX, x_forX, dLcM]
        refine ⟨trivial, by omega, by omega, sz (by simp; omega), fun i acc G' => ∃ as : List Addr, acc = as.map .rf ∧ as.length = i ∧ as.Nodup ∧ i ≤ n ∧ Sub G G' ∧ ∀ a ∈ as, G a = none ∧ G' a = some (.lst []), ⟨[], rfl, rfl, by simp, by omega, Sub.refl _, by simp⟩, fun _ _ _ _ => trivial, ?_, ?_⟩
        · rintro i acc G' d ⟨as, rfl, hl, nda, hi, sb, ha⟩ hd
          have hi2 : i < n := by have := (List.getElem?_eq_some_iff.mp hd).1; simpa using this
          refine ⟨_, rfl, ?_⟩
          simp only [dxs, dl, dwipe, List.map_cons, List.map_nil, if_true]
          refine ⟨Nat.zero_le _, fun p hp => ⟨as ++ [p], by simp, by simp [hl], ?_, hi2, sb.trans (sub_new hp rfl), fun a ha' => ?_⟩⟩
          · rw [List.nodup_append]
            refine ⟨nda, by simp, fun a h1 b h2 e => ?_⟩
            rw [List.mem_singleton.mp h2] at e
            have := (ha a h1).2
            rw [e, hp] at this
            cases this
          · rcases List.mem_append.mp ha' with h | h
            · have ne : a ≠ p := fun e => by have := (ha a h).2; rw [e, hp] at this; cases this
              rw [gput_ne ne]
              exact ha a h
            · rw [List.mem_singleton.mp h]
              refine ⟨?_, gput_same⟩
              cases q0 : G p with
              | none => rfl
              | some o => rw [sb.le p o q0] at hp; cases hp
        · rintro acc G' ⟨as, rfl, hl, nda, hi, sb, ha⟩
          have hl2 : as.length = n := by rw [hl]; simp
          show ∀ p, G' p = none → _
          intro p hp
          have pas : ∀ a ∈ as, a ≠ p := fun a h e => by have := (ha a h).2; rw [e, hp] at this; cases this
          have gpn : G p = none := by
            cases q0 : G p with
            | none => rfl
            | some o => rw [sb.le p o q0] at hp; cases hp
          have lines1 : DL.cutD (List.map D.str (List.map strOf (l0 :: ls))) (some 1) none = ls.map fun x => .str (strOf x) := by
            have := cut_drop (List.map D.str (List.map strOf (l0 :: ls))) 1
            rw [show (some ((1 : Nat) : Int)) = some (1 : Int) from rfl] at this
            rw [this]
            simp [List.map_map, Function.comp_def]
          simp only [diEnumF, dxs, dl, dx3, xS, dSeqX, lines1]
          refine ⟨fun i S' G2 => ∃ (x7 x9 x10 x11 x12 : Option D) (ac : List (Nat × Mv)), S' = [some (D.str (strOf t)), some (D.lst (List.map D.str (List.map strOf (l0 :: ls)))), some (D.tup [D.str (strOf hs), D.str (strOf ws), D.int ↑n]), some (D.str (strOf hs)), some (D.str (strOf ws)), some (D.int ↑n), some (D.rf p), x7, some (lastD ac.getLast?), x9, x10, x11, x12] ∧
              AccOk hs ws n ac ∧ ac.length = i ∧ goP hs ws n ls 1 [] = goP hs ws n (ls.drop i) (1 + i) ac ∧ Sub G G2 ∧ G2 p = some (.lst (as.map .rf)) ∧ (∀ s a, as[s]? = some a → G2 a = some (.lst ((rowAt ac s).map Mv.d))),
            ⟨_, _, _, _, _, [], rfl, AccOk.nil _ _ _, rfl, rfl, sub_gput sb gpn rfl (fun u z => by rw [hp] at z; cases z), gput_same, fun s a h => ?_⟩, fun _ _ _ _ => trivial, ?_, ?_⟩
          · have hm := List.mem_of_getElem? h
            rw [gput_ne (pas a hm)]
            exact (ha a hm).2
          · rintro i S' G2 dd ⟨x7, x9, x10, x11, x12, ac, rfl, aok, al, hgo, sb2, gp, rows⟩ hd
            rw [List.getElem?_mapIdx, List.getElem?_map] at hd
            cases ex : ls[i]? with
            | none => rw [ex] at hd; cases hd
            | some l =>
              rw [ex] at hd
              cases hd
              have hil := (List.getElem?_eq_some_iff.mp ex).1
              have hdrop : ls.drop i = l :: ls.drop (i + 1) := by
                obtain ⟨h1, h2⟩ := List.getElem?_eq_some_iff.mp ex
                rw [List.drop_eq_getElem_cons h1, h2]
              have lnl := ln l (by simp [List.mem_of_getElem? ex])
              have ei : (1 : Int) + (i : Nat) = ((1 + i : Nat) : Int) := by omega
              simp only [dxs, dl, xS, dSeqX]
              refine ⟨trivial, hs, ws, n, l, rfl, by omega, by omega, by omega, ?_⟩
              rw [hdrop, goP_cons] at hgo
              cases hm : moveO hs ws n l with
              | none =>
                rw [hm] at hgo
                dsimp only at hgo
                rw [hgo] at q
                rw [if_pos (by rfl), if_pos trivial]
                exact ⟨_, rfl, _, sb2, by rw [ei]; exact q⟩
              | some x =>
                rw [hm] at hgo
                dsimp only at hgo
                have mp := (moveO_ok hm).1
                have xs1 : x.1 < as.length := by have := mp.s; omega
                obtain ⟨a, hax⟩ : ∃ a, as[x.1]? = some a := ⟨_, List.getElem?_eq_getElem xs1⟩
                have ham := List.mem_of_getElem? hax
                have ga := rows x.1 a hax
                have it0 : D.item (.tup [D.int ↑x.fst, D.str (sgn x.snd.h), D.str (sgn x.snd.c), D.int ↑x.snd.t]) (.int 0) = some (.int (x.1 : Int)) := atI_nat (j := 0) rfl
                have itA : D.item (.lst (as.map .rf)) (.int (x.1 : Int)) = some (.rf a) := atI_nat (by rw [List.getElem?_map, hax]; rfl)
                have c3 : ∀ w : Nat × Mv, DL.cutD [D.int ↑w.fst, D.str (sgn w.snd.h), D.str (sgn w.snd.c), D.int ↑w.snd.t] none (some 3) = [D.int ↑w.fst, D.str (sgn w.snd.h), D.str (sgn w.snd.c)] := fun w => cut_take _ 3
                have c1 : DL.cutD [D.int ↑x.fst, D.str (sgn x.snd.h), D.str (sgn x.snd.c), D.int ↑x.snd.t] (some 1) none = [D.str (sgn x.snd.h), D.str (sgn x.snd.c), D.int ↑x.snd.t] := cut_drop _ 1
                have ht : D.hasTy "list" (D.cur G2 (.rf a)) = true := by rw [D.cur_rf ga]; rfl
                have rl := rowAt_len ac x.1
                have ra : ∀ Q : DQ, ((List.map Mv.d (rowAt ac x.1)).length < sizeLine ∧ Q .non (gput G2 a (.lst (List.map Mv.d (rowAt ac x.1) ++ [x.2.d])))) → rAppendD (.rf a) [.tup [D.str (sgn x.snd.h), D.str (sgn x.snd.c), D.int ↑x.snd.t]] G2 Q := fun Q z => by
                  unfold rAppendD
                  simp only [ga]
                  exact z
                have done : lastLt ac.getLast? x = true → ∃ (x7' x9 x10 x11 y12 : Option D) (ac' : List (Nat × Mv)), [some (D.str (strOf t)), some (D.lst (List.map D.str (List.map strOf (l0 :: ls)))), some (D.tup [D.str (strOf hs), D.str (strOf ws), D.int ↑n]), some (D.str (strOf hs)), some (D.str (strOf ws)), some (D.int ↑n), some (D.rf p), x7, some (D.tup [D.int ↑x.fst, D.str (sgn x.snd.h), D.str (sgn x.snd.c), D.int ↑x.snd.t]), some (D.int (1 + (i : Nat))), some (D.str (strOf l)), some (D.tup [D.int ↑x.fst, D.str (sgn x.snd.h), D.str (sgn x.snd.c), D.int ↑x.snd.t]), x12] = [some (D.str (strOf t)), some (D.lst (List.map D.str (List.map strOf (l0 :: ls)))), some (D.tup [D.str (strOf hs), D.str (strOf ws), D.int ↑n]), some (D.str (strOf hs)), some (D.str (strOf ws)), some (D.int ↑n), some (D.rf p), x7', some (lastD ac'.getLast?), x9, x10, x11, y12] ∧
                    AccOk hs ws n ac' ∧ ac'.length = i + 1 ∧ goP hs ws n ls 1 [] = goP hs ws n (ls.drop (i + 1)) (1 + (i + 1)) ac' ∧ Sub G (gput G2 a (.lst (List.map Mv.d (rowAt ac x.1) ++ [x.2.d]))) ∧ gput G2 a (.lst (List.map Mv.d (rowAt ac x.1) ++ [x.2.d])) p = some (.lst (as.map .rf)) ∧ (∀ s b, as[s]? = some b → gput G2 a (.lst (List.map Mv.d (rowAt ac x.1) ++ [x.2.d])) b = some (.lst ((rowAt ac' s).map Mv.d))) := fun hlt => by
                  refine ⟨x7, some (D.int (1 + (i : Nat))), some (D.str (strOf l)), some (D.tup [D.int ↑x.fst, D.str (sgn x.snd.h), D.str (sgn x.snd.c), D.int ↑x.snd.t]), x12, ac ++ [x], by simp [lastD, mvT], aok.snoc mp hlt, by simp [al], ?_, sub_gput sb2 (ha a ham).1 rfl (fun u z => by rw [ga] at z; cases z; rfl), by rw [gput_ne (pas a ham).symm]; exact gp, fun s b hb => ?_⟩
                  · rw [hgo, if_pos hlt]; rfl
                  · rw [rowAt_snoc]
                    by_cases hba : b = a
                    · subst hba
                      have es : x.1 = s := (List.getElem?_inj xs1 nda).mp (hax.trans hb.symm)
                      rw [gput_same, if_pos es, ← es, List.map_append]
                      rfl
                    · have es : x.1 ≠ s := fun e => by rw [← e, hax] at hb; exact hba (Option.some.inj hb).symm
                      rw [gput_ne hba, if_neg es]
                      exact rows s b hb
                rw [if_neg (by simp [moveD, D.isNon])]
                simp only [moveD, dxs, dl, dx3, it0, gp, itA, c1, c3]
                cases hlast : ac.getLast? with
                | none =>
                  rw [if_neg (by simp [lastD, D.isNon])]
                  rw [hlast] at done
                  refine ⟨ht, ra _ ⟨by rw [List.length_map]; exact szl (by omega), ?_⟩⟩
                  obtain ⟨b7, b9, b10, b11, b12, ac', q1, q2, q3, q4, q5, q6, q7⟩ := done rfl
                  exact ⟨b7, b9, b10, b11, b12, ac', q1, q2, q3, q4, q5, q6, q7⟩
                | some y =>
                  rw [if_pos (by simp [lastD, mvT, D.isNon])]
                  simp only [lastD, mvT, dxs, dl, dx3, c3]
                  refine ⟨mvH_ok x y, ?_⟩
                  have eL := mvH_ltB y x
                  unfold mvH at eL
                  rw [eL]
                  rw [hlast] at done hgo
                  by_cases hy : ltS y x = true
                  · rw [if_neg (by rw [hy]; simp)]
                    simp only [gp, itA]
                    refine ⟨ht, ra _ ⟨by rw [List.length_map]; exact szl (by omega), ?_⟩⟩
                    obtain ⟨b7, b9, b10, b11, b12, ac', q1, q2, q3, q4, q5, q6, q7⟩ := done hy
                    exact ⟨b7, b9, b10, b11, b12, ac', q1, q2, q3, q4, q5, q6, q7⟩
                  · rw [if_pos (by simpa using hy)]
                    rw [if_neg (show ¬ lastLt (some y) x = true from hy)] at hgo
                    rw [hgo] at q
                    exact ⟨_, rfl, _, sb2, by rw [ei]; exact q⟩
          · rintro S' G2 ⟨x7, x9, x10, x11, x12, ac, rfl, aok, al, hgo, sb2, gp, rows⟩
            have hlm : (List.mapIdx (fun i x => D.tup [D.int (1 + ↑i), x]) (List.map (fun x => D.str (strOf x)) ls)).length = ls.length := by simp
            rw [hlm, List.drop_length, goP_nil] at hgo
            rw [hgo] at q
            dsimp only at q
            simp only [dxs, dl, xS, dTup, diList, gp]
            have eas : as.map D.rf = (List.range n).map fun s => D.rf (as.getD s 0) := by
              refine List.ext_getElem (by simp [hl2]) fun j h1 h2 => ?_
              simp only [List.length_map] at h1
              simp only [List.getElem_map, List.getElem_range]
              rw [List.getD_eq_getElem?_getD, List.getElem?_eq_getElem h1]
              rfl
            refine lc_mapA (List.range n) (fun s => D.rf (as.getD s 0)) (fun s => rowD (rowAt ac s)) eas (sz (by simp; omega)) gp (fun s hsr => ⟨_, rfl, fun Q z => ?_⟩) ?_
            · have hs2 : s < as.length := by have := List.mem_range.mp hsr; omega
              have ga := rows s (as.getD s 0) (by rw [List.getD_eq_getElem?_getD, List.getElem?_eq_getElem hs2]; rfl)
              simp only [dxs, dl, dwipe, List.map_cons, List.map_nil]
              unfold rTupleD
              simp only [D.cur_rf ga]
              exact z
            · simp only [dxs, dl, dx3]
              refine ⟨sz (by decide), G, sb2, ?_⟩
              have er : (List.range n).map (fun s => rowD (rowAt ac s)) = ((List.range n).map (rowAt ac)).map rowD := by rw [List.map_map]; rfl
              rw [er]
              exact q
end
end Pace
end
section
set_option Elab.async false
set_option linter.all false
set_option maxRecDepth 100000
set_option maxHeartbeats 4000000
namespace Pace
open PySem PySem.Spec PyProof.Rows L2 DL
section
variable {P : Program} {w : World} {K : PySem.W.Frag} {mg : Str → Option Value} {base : Heap} {C : Addr}
def spMove : SpD := fun ds G Q => ∃ (hs ws : List Nat) (n : Nat) (m : Mv), ds = [.str (strOf hs), .str (strOf ws), .int (n : Int), Mv.d m] ∧ Q (.bl (mvB hs ws n m)) G
abbrev N_is_move : List Str := ["heard", "written", "many", "thing"]
theorem sc_is_move : FnScope N_is_move ["heard", "written", "many", "thing"] (defScope s_is_move) := ⟨rfl, rfl, rfl, by decide +kernel, rfl, by decide +kernel, by decide +kernel⟩
theorem c_is_move (T : Txt K mg C) (d : Def K mg "is_move" s_is_move) (C_is_letter_of : Cal P w K mg base "is_letter_of" 1 ["letters", "thing"] (spLetterOf)) (C_is_integer : Cal P w K mg base "is_integer" 1 ["thing"] (spInteger)) : Cal P w K mg base "is_move" 2 ["heard", "written", "many", "thing"] (spMove) := by
  refine cal_mk (N := N_is_move) d sc_is_move (fun ds G Q h => ?_) (fun _ _ _ _ _ _ us hl => match us, hl with | [_, _, _, _], _ => rfl) (fun f cdv A outer s H E hg hr => ?_)
  · obtain ⟨hs, ws, n, m, rfl, _⟩ := h
    rfl
  · have hu := hu100 hr
    have nd := sc_is_move.nd
    have hA := deeper_guards (env := envOfC "is_move" (defScope s_is_move) s.heap.objs.size f cdv) hg
    refine ⟨_, (dps_cons (dp_if (DW.dt (dw_or (dt_not (dt_val (de_callB cd_isi rfl T.f_isinstance (by decide +kernel) (da_cons (de_var 3) (da_cons (de_ty (T := "tuple") rfl T.f_tuple (by decide +kernel)) da_nil))))) (dw_or1 (dt_cmp (od_ne hu) (de_callB cd_len rfl T.f_len (by decide +kernel) (da_cons (de_var 3) da_nil)) (de_gint rfl T.c_MOVE_PARTS_rules) (nomark _)))))
  (dps_one (dp_ret de_bl))
  dps_nil)
  (dps_cons (dp_if (DW.dt (dw_or (dt_not (dt_val (de_cal C_is_letter_of hA (hr.mono (by decide)) (da_cons (de_var 0) (da_cons (de_ix hu (de_var 3) de_int) da_nil))))) (dw_or1 (dt_not (dt_val (de_cal C_is_letter_of hA (hr.mono (by decide)) (da_cons (de_var 1) (da_cons (de_ix hu (de_var 3) de_int) da_nil))))))))
  (dps_one (dp_ret de_bl))
  dps_nil)
  (dps_one (dp_ret (de_and (de_cal C_is_integer hA (hr.mono (by decide)) (da_cons (de_ix hu (de_var 3) de_int) da_nil)) (de_one (de_chain (od_le hu) (od_lt hu) de_int (de_ix hu (de_var 3) de_int) (de_var 2)))))))), fun ds G Q h => ?_⟩
    obtain ⟨hs, ws, n, m, rfl, q⟩ := h
    rw [show dstart N_is_move [.str (strOf hs), .str (strOf ws), .int (n : Int), Mv.d m] = [some (.str (strOf hs)), some (.str (strOf ws)), some (.int (n : Int)), some (Mv.d m)] from rfl]
    simp only [Mv.d, dxs, dl, dx3, Bool.not_true, Bool.false_eq_true, if_false, okE_int, eqv_int, true_and, mv0, mv1, mv2]
    rw [if_neg (by decide)]
    refine ⟨hs, m.h, rfl, ?_⟩
    by_cases h1 : m.h ∈ hs
    · simp only [h1, decide_true, Bool.not_true, Bool.false_eq_true, if_false]
      refine ⟨ws, m.c, rfl, ?_⟩
      by_cases h2 : m.c ∈ ws
      · simp only [h2, decide_true, Bool.not_true, Bool.false_eq_true, if_false]
        refine ⟨_, rfl, ?_⟩
        simp only [dxs, dl, mv2, okL_int, DL.lt_int, true_and, if_true]
        have e1 : (!decide ((m.t : Int) < 0)) = true := by simp
        rw [e1, if_pos rfl]
        refine ⟨_, Sub.refl _, ?_⟩
        have e2 : decide ((m.t : Int) < (n : Int)) = mvB hs ws n m := by
          unfold mvB
          simp [h1, h2]
        rw [e2]
        exact q
      · simp only [h2, decide_false, Bool.not_false, if_true]
        refine ⟨_, Sub.refl _, ?_⟩
        have : mvB hs ws n m = false := by unfold mvB; simp [h2]
        rw [this] at q
        exact q
    · simp only [h1, decide_false, Bool.not_false, if_true]
      refine ⟨_, Sub.refl _, ?_⟩
      have : mvB hs ws n m = false := by unfold mvB; simp [h1]
      rw [this] at q
      exact q
end
section
variable {P : Program} {w : World} {K : PySem.W.Frag} {mg : Str → Option Value} {base : Heap} {C : Addr}
def spRow : SpD := fun ds G Q => ∃ (hs ws : List Nat) (n : Nat) (r : List Mv), ds = [.str (strOf hs), .str (strOf ws), .int (n : Int), rowD r] ∧ r.length ≤ 1000 ∧ Q (.bl (rowB hs ws n r)) G
abbrev N_is_row : List Str := ["heard", "written", "many", "thing", "move", "one", "other"]
theorem sc_is_row : FnScope N_is_row ["heard", "written", "many", "thing"] (defScope s_is_row) := ⟨rfl, rfl, rfl, by decide +kernel, rfl, by decide +kernel, by decide +kernel⟩
theorem c_is_row (T : Txt K mg C) (d : Def K mg "is_row" s_is_row) (C_is_move : Cal P w K mg base "is_move" 2 ["heard", "written", "many", "thing"] (spMove)) : Cal P w K mg base "is_row" 3 ["heard", "written", "many", "thing"] (spRow) := by
  refine cal_mk (N := N_is_row) d sc_is_row (fun ds G Q h => ?_) (fun _ _ _ _ _ _ us hl => match us, hl with | [_, _, _, _], _ => rfl) (fun f cdv A outer s H E hg hr => ?_)
  · obtain ⟨hs, ws, n, r, rfl, _⟩ := h
    rfl
  · have hu := hu100 hr
    have nd := sc_is_row.nd
    have hA := deeper_guards (env := envOfC "is_row" (defScope s_is_row) s.heap.objs.size f cdv) hg
    refine ⟨_, (dps_cons (dp_if (DW.dt (dw_or (dt_not (dt_val (de_callB cd_isi rfl T.f_isinstance (by decide +kernel) (da_cons (de_var 3) (da_cons (de_ty (T := "tuple") rfl T.f_tuple (by decide +kernel)) da_nil))))) (dw_or1 (dt_not (dt_val (de_callB (cd_all rfl) rfl T.f_all (by decide +kernel) (da_cons (de_lc (own := [("move", 4)]) (p := (.nm 4)) rfl nd (di_tup (de_var 3)) (blkOk_by (by show blkC N_is_row (defScope s_is_row) _ _ = true; decide +kernel)) (by decide) (fun _ _ _ _ _ => pg_name (i := 4) nd rfl (Or.inl rfl)) (fun _ _ _ _ _ => dts_nil) (fun _ _ _ _ _ => (de_cal C_is_move hA (hr.mono (by decide)) (da_cons (de_var 0) (da_cons (de_var 1) (da_cons (de_var 2) (da_cons (de_var 4) da_nil))))))) da_nil)))))))
  (dps_one (dp_ret de_bl))
  dps_nil)
  (dps_one (dp_ret (de_callB (cd_all rfl) rfl T.f_all (by decide +kernel) (da_cons (de_lc (own := [("one", 5), ("other", 6)]) (p := (.tp [5, 6])) rfl nd (di_zipT rfl T.f_zip (da_cons (de_slice (de_var 3) do_none (do_some (de_un ud_neg de_int))) (da_cons (de_slice (de_var 3) (do_some de_int) do_none) da_nil))) (blkOk_by (by show blkC N_is_row (defScope s_is_row) _ _ = true; decide +kernel)) (by decide) (fun _ _ _ _ _ => pg_tup rfl (pgs_cons (pg_name (i := 5) nd rfl (Or.inl rfl)) (pgs_cons (pg_name (i := 6) nd rfl (Or.inl rfl)) pgs_nil))) (fun _ _ _ _ _ => dts_nil) (fun _ _ _ _ _ => (de_cmp (od_lt hu) (de_slice (de_var 5) do_none (do_some de_int)) (de_slice (de_var 6) do_none (do_some de_int)) (nomark _)))) da_nil))))), fun ds G Q h => ?_⟩
    obtain ⟨hs, ws, n, r, rfl, hl, q⟩ := h
    rw [show dstart N_is_row [.str (strOf hs), .str (strOf ws), .int (n : Int), rowD r] = [some (.str (strOf hs)), some (.str (strOf ws)), some (.int (n : Int)), some (rowD r), none, none, none] from rfl]
    simp only [rowD, dxs, dl, dx3, Bool.not_true, Bool.false_eq_true, if_false, true_and]
    refine lc_mapA r Mv.d (fun m => .bl (mvB hs ws n m)) rfl (sz (by omega)) trivial (fun m _ => ⟨_, rfl, fun Q z => ?_⟩) ?_
    · simp only [dxs, dl, dwipe, List.map_cons, List.map_nil]
      exact ⟨hs, ws, n, m, rfl, z⟩
    · rw [all_map]
      simp only
      by_cases ha : r.all (mvB hs ws n) = true
      · rw [if_neg (by simp [ha])]
        rw [cut_last, cut_tail]
        refine lc_mapA (r.dropLast.zip r.tail) (fun p => .tup [Mv.d p.1, Mv.d p.2]) (fun p => .bl (mvLt p.1 p.2)) ?_ (sz (by simp; omega)) trivial (fun p _ => ⟨_, rfl, fun Q z => ?_⟩) ?_
        · rw [← List.map_dropLast, ← List.map_tail, List.zipWith_map, zip_map]
        · simp only [dxs, dl, dx3, dwipe, List.map_cons, List.map_nil, Mv.d, mv_cut, mv_okL, mv_lt, true_and]
          exact z
        · rw [all_map]
          refine ⟨_, Sub.refl _, ?_⟩
          have e : rowB hs ws n r = (r.dropLast.zip r.tail).all fun p => mvLt p.1 p.2 := by
            unfold rowB nbr
            rw [ha, zip_map]
            simp [List.all_map]
          rw [← e]
          exact q
      · rw [if_pos (by simpa using ha)]
        have e : rowB hs ws n r = false := by
          unfold rowB
          simp only [Bool.not_eq_true] at ha
          simp [ha]
        rw [e] at q
        exact ⟨_, Sub.refl _, q⟩
end
section
variable {P : Program} {w : World} {K : PySem.W.Frag} {mg : Str → Option Value} {base : Heap} {C : Addr}
def spSteps : SpD := fun ds G Q => ∃ (r : List Mv), ds = [rowD r] ∧ r.length ≤ 1000 ∧ mergeDT [] (r.map mvK) = r.map mvK ∧ Q (.dT (r.map mvK)) G
abbrev N_steps_of : List Str := ["row", "sign", "letter", "target"]
theorem sc_steps_of : FnScope N_steps_of ["row"] (defScope s_steps_of) := ⟨rfl, rfl, rfl, by decide +kernel, rfl, by decide +kernel, by decide +kernel⟩
theorem c_steps_of (T : Txt K mg C) (d : Def K mg "steps_of" s_steps_of) : Cal P w K mg base "steps_of" 1 ["row"] (spSteps) := by
  refine cal_mk (N := N_steps_of) d sc_steps_of (fun ds G Q h => ?_) (fun _ _ _ _ _ _ us hl => match us, hl with | [_], _ => rfl) (fun f cdv A outer s H E hg hr => ?_)
  · obtain ⟨r, rfl, _⟩ := h
    rfl
  · have hu := hu100 hr
    have nd := sc_steps_of.nd
    have hA := deeper_guards (env := envOfC "steps_of" (defScope s_steps_of) s.heap.objs.size f cdv) hg
    refine ⟨_, (dps_one (dp_ret (de_callTy (cd_dictT rfl hu) rfl T.f_dict (by decide +kernel) (da_cons (de_lc (own := [("sign", 1), ("letter", 2), ("target", 3)]) (p := (.tp [1, 2, 3])) rfl nd (di_tup (de_var 0)) (blkOk_by (by show blkC N_steps_of (defScope s_steps_of) _ _ = true; decide +kernel)) (by decide) (fun _ _ _ _ _ => pg_tup rfl (pgs_cons (pg_name (i := 1) nd rfl (Or.inl rfl)) (pgs_cons (pg_name (i := 2) nd rfl (Or.inl rfl)) (pgs_cons (pg_name (i := 3) nd rfl (Or.inl rfl)) pgs_nil)))) (fun _ _ _ _ _ => dts_nil) (fun _ _ _ _ _ => (de_tup (da_cons (de_tup (da_cons (de_var 1) (da_cons (de_var 2) da_nil))) (da_cons (de_var 3) da_nil))))) da_nil)))), fun ds G Q h => ?_⟩
    obtain ⟨r, rfl, hl, hm, q⟩ := h
    rw [show dstart N_steps_of [rowD r] = [some (rowD r), none, none, none] from rfl]
    simp only [rowD, dxs, dl]
    refine lc_mapA r Mv.d (fun m => .tup [.tup [.str (sgn m.h), .str (sgn m.c)], .int (m.t : Int)]) rfl (sz (by omega)) trivial (fun m _ => ⟨_, rfl, fun Q z => ?_⟩) ?_
    · simp only [dxs, dl, dwipe, List.map_cons, List.map_nil, Mv.d]
      exact ⟨sz (by simp), sz (by simp), z⟩
    · show (match prsT _ with | some ms => _ | none => False)
      rw [prsT_row]
      refine ⟨_, Sub.refl _, ?_⟩
      rw [hm]
      exact q
end
end Pace
end
section
set_option Elab.async false
set_option linter.all false
set_option maxRecDepth 100000
set_option maxHeartbeats 4000000
namespace Pace
open PySem PySem.Spec PyProof.Rows L2 DL
section
variable {P : Program} {w : World} {K : PySem.W.Frag} {mg : Str → Option Value} {base : Heap} {C : Addr}
def spInit (C : Addr) : SpD := fun ds G Q => ∃ (y : Addr) (hs ws : List Nat) (rs : List (List Mv)), ds = [.rf y, .str (strOf hs), .str (strOf ws), rowsD rs] ∧ G y = some (.ins C []) ∧ RulV hs ws rs ∧ Q .non (gput G y (.ins C (rulF (mkR hs ws rs))))
abbrev N_Rules_u__init_u_ : List Str := ["self", "heard", "written", "rows", "state", "row"]
theorem sc_Rules_u__init_u_ : FnScope N_Rules_u__init_u_ ["self", "heard", "written", "rows"] (defScope s_Rules_u__init_u_) := ⟨rfl, rfl, rfl, by decide +kernel, rfl, by decide +kernel, by decide +kernel⟩
theorem c_Rules_u__init_u_ (T : Txt K mg C) (d : DefI K C "Rules.__init__" s_Rules_u__init_u_) (C_are_letters : Cal P w K mg base "are_letters" 1 ["thing"] (spLetters)) (C_is_row : Cal P w K mg base "is_row" 3 ["heard", "written", "many", "thing"] (spRow)) (C_steps_of : Cal P w K mg base "steps_of" 1 ["row"] (spSteps)) : Mak P w K mg base "Rules" C 4 ["self", "heard", "written", "rows"] (spInit C) := by
  refine mak_mk (N := N_Rules_u__init_u_) d T.mgR sc_Rules_u__init_u_ (fun ds G Q h => ?_) (fun _ _ _ _ _ _ us hl => match us, hl with | [_, _, _, _], _ => rfl) (fun f cdv A outer s H E hg hr => ?_)
  · obtain ⟨y, hs, ws, rs, rfl, _⟩ := h
    rfl
  · have hu := hu100 hr
    have nd := sc_Rules_u__init_u_.nd
    have hA := deeper_guards (env := envOfC "Rules.__init__" (defScope s_Rules_u__init_u_) s.heap.objs.size f cdv) hg
    refine ⟨_, (dps_cons (dp_if (dt_not (dt_val (de_cal C_are_letters hA (hr.mono (by decide)) (da_cons (de_var 1) da_nil))))
  (dps_one dp_never)
  dps_nil)
  (dps_cons (dp_if (dt_not (dt_val (de_cal C_are_letters hA (hr.mono (by decide)) (da_cons (de_var 2) da_nil))))
  (dps_one dp_never)
  dps_nil)
  (dps_cons (dp_if (DW.dt (dw_or (dt_not (dt_val (de_callB cd_isi rfl T.f_isinstance (by decide +kernel) (da_cons (de_var 3) (da_cons (de_ty (T := "tuple") rfl T.f_tuple (by decide +kernel)) da_nil))))) (dw_or1 (dt_not (dt_chain (od_le hu) (od_le hu) de_int (de_callB cd_len rfl T.f_len (by decide +kernel) (da_cons (de_var 3) da_nil)) (de_gint rfl T.c_MOST_STATES))))))
  (dps_one dp_never)
  dps_nil)
  (dps_cons (dp_for PassesOwn.never rfl (di_enumT rfl T.f_enumerate (da_cons (de_var 3) da_nil)) (dg_tup (n := 2) rfl (dgs_cons (dg_name 4 nd) (dgs_cons (dg_name 5 nd) dgs_nil)))
  (dps_one (dp_if (dt_not (dt_val (de_cal C_is_row hA (hr.mono (by decide)) (da_cons (de_var 1) (da_cons (de_var 2) (da_cons (de_callB cd_len rfl T.f_len (by decide +kernel) (da_cons (de_var 3) da_nil)) (da_cons (de_var 5) da_nil)))))))
  (dps_one dp_never)
  dps_nil)))
  (dps_cons (dp_setFld T.clR T.no_heard (de_var 0) (de_var 1))
  (dps_cons (dp_setFld T.clR T.no_written (de_var 0) (de_var 2))
  (dps_cons (dp_setFld T.clR T.no_rows (de_var 0) (de_var 3))
  (dps_one (dp_setFld T.clR T.no_steps (de_var 0) (de_lc (own := [("row", 5)]) (p := (.nm 5)) rfl nd (di_tup (de_var 3)) (blkOk_by (by show blkC N_Rules_u__init_u_ (defScope s_Rules_u__init_u_) _ _ = true; decide +kernel)) (by decide) (fun _ _ _ _ _ => pg_name (i := 5) nd rfl (Or.inl rfl)) (fun _ _ _ _ _ => dts_nil) (fun _ _ _ _ _ => (de_cal C_steps_of hA (hr.mono (by decide)) (da_cons (de_var 5) da_nil))))))))))))), fun ds G Q h => ?_⟩
    obtain ⟨y, hs, ws, rs, rfl, hy, v, q⟩ := h
    rw [show dstart N_Rules_u__init_u_ [.rf y, .str (strOf hs), .str (strOf ws), rowsD rs] = [some (.rf y), some (.str (strOf hs)), some (.str (strOf ws)), some (rowsD rs), none, none] from rfl]
    simp only [rowsD, dxs, dl, dx3]
    refine ⟨hs, rfl, Nat.le_trans v.sh (by decide), ?_⟩
    rw [v.lh]
    simp only [dxs, dl, dx3, Bool.not_true, Bool.false_eq_true, if_false]
    refine ⟨ws, rfl, Nat.le_trans v.sw (by decide), ?_⟩
    rw [v.lw]
    simp only [dxs, dl, dx3, Bool.not_true, Bool.false_eq_true, if_false, okL_int, DL.lt_int, true_and, List.length_map]
    have n1 := v.n1
    have n2 := v.n2
    rw [if_pos (by simp; omega), if_neg (by simp; omega)]
    refine ⟨fun i S' G' => ∃ x4 x5, S' = [some (.rf y), some (.str (strOf hs)), some (.str (strOf ws)), some (.tup (rs.map rowD)), x4, x5] ∧ G' = G, ⟨none, none, rfl, rfl⟩, fun _ _ _ _ => trivial, ?_, ?_⟩
    · rintro i S' G' dd ⟨x4, x5, rfl, rfl⟩ hd
      rw [List.getElem?_mapIdx, List.getElem?_map] at hd
      cases er : rs[i]? with
      | none => rw [er] at hd; cases hd
      | some r =>
        rw [er] at hd
        cases hd
        obtain ⟨hr1, hr2⟩ := v.row r (List.mem_of_getElem? er)
        simp only [dxs, dl, dx3, true_and, List.length_map]
        refine ⟨hs, ws, rs.length, r, rfl, hr2, ?_⟩
        rw [hr1]
        exact ⟨_, _, rfl, rfl⟩
    · rintro S' G' ⟨x4, x5, rfl, rfl⟩
      simp only [dxs, dl, hy, pf1, pf2, pf3]
      refine ⟨trivial, by decide, trivial, by decide, trivial, by decide, ?_⟩
      refine lc_mapA rs rowD (fun r => .dT (r.map mvK)) rfl (sz (by omega)) trivial (fun r hr => ⟨_, rfl, fun Q z => ?_⟩) ?_
      · obtain ⟨hr1, hr2⟩ := v.row r hr
        simp only [dxs, dl, dwipe, List.map_cons, List.map_nil]
        exact ⟨r, rfl, hr2, merge_rowB hr1, z⟩
      · simp only [dxs, dl, gput_gput, pf4]
        exact ⟨trivial, by decide, _, Sub.refl _, q⟩
end
end Pace
end
section
set_option Elab.async false
set_option linter.all false
set_option maxRecDepth 100000
set_option maxHeartbeats 4000000
namespace Pace
open PySem PySem.Spec PyProof.Rows L2 DL
section
variable {P : Program} {w : World} {K : PySem.W.Frag} {mg : Str → Option Value} {base : Heap} {C : Addr}
def outR (C : Addr) (K : PySem.W.Frag) (t : List Nat) (G : GH) (Q : DQ) (E : DXQ) : Prop := match parseT t with
  | .inl k => badT K E (k : Int) G
  | .inr (hs, ws, rs) => Q (rulD C (mkR hs ws rs)) G
def spReadX (C : Addr) (K : PySem.W.Frag) : SpX := fun ds G Q E => (∃ d, ds = [.rf C, d] ∧ notStr d ∧ badT K E (-1) G) ∨ ∃ t : List Nat, ds = [.rf C, .str (strOf t)] ∧ t.length ≤ 4800 ∧ outR C K t G Q E
abbrev N_Rules_read : List Str := ["cls", "text", "heard", "written", "rows"]
theorem sc_Rules_read : FnScope N_Rules_read ["cls", "text"] (defScope s_Rules_read) := ⟨rfl, rfl, rfl, by decide +kernel, rfl, by decide +kernel, by decide +kernel⟩
theorem x_Rules_read (T : Txt K mg C) (d : DefC K C "read" "Rules.read" s_Rules_read) (Er : ErT P K mg) (X_parts_in : CalX P w K mg base "parts_in" 3 ["text"] (spPartsX K)) (M_Rules : Mak P w K mg base "Rules" C 4 ["self", "heard", "written", "rows"] (spInit C)) : CalCX P w K mg base C "read" 6 ["cls", "text"] (spReadX C K) ∧ CalCXK P w K mg base C "read" 6 ["cls", "text"] (spReadX C K) ["text"] [0, 1] := by
  refine calCX_mk (N := N_Rules_read) d sc_Rules_read (fun ds G Q E h => ?_) (fun _ _ _ _ _ _ us hl => match us, hl with | [_, _], _ => rfl) (fun _ _ _ _ _ _ us ws hl hw => match us, ws, hl, hw with | [_], [_], _, _ => rfl) (fun f cdv A outer s H E hg hr => ?_)
  · rcases h with ⟨d, rfl, _⟩ | ⟨t, rfl, _⟩ <;> rfl
  · have hu := hu100 hr
    have nd := sc_Rules_read.nd
    have hA := deeper_guards (env := envOfC "Rules.read" (defScope s_Rules_read) s.heap.objs.size f cdv) hg
    refine ⟨_, (dpsx_cons (dpx_asg (dex_cal X_parts_in hA (hr.mono (by decide)) (da_cons (de_var 1) da_nil)) (dg_tup (n := 3) rfl (dgs_cons (dg_name 2 nd) (dgs_cons (dg_name 3 nd) (dgs_cons (dg_name 4 nd) dgs_nil)))))
  (dpsx_of (dps_one (dp_ret (de_makL 0 M_Rules hA (hr.mono (by decide)) (da_cons (de_var 2) (da_cons (de_var 3) (da_cons (de_var 4) da_nil)))))))), fun ds G Q E2 h => ?_⟩
    rcases h with ⟨d, rfl, nd, q⟩ | ⟨t, rfl, ht, q⟩
    · rw [show dstart N_Rules_read [.rf C, d] = [some (.rf C), some (d), none, none, none] from rfl]
      simp only [dxs, dl, dx3, xS, xE, finX, dSeqX]
      exact .inl ⟨d, rfl, nd, _, Sub.refl _, q⟩
    · rw [show dstart N_Rules_read [.rf C, .str (strOf t)] = [some (.rf C), some (.str (strOf t)), none, none, none] from rfl]
      simp only [dxs, dl, dx3, xS, xE, finX, dSeqX]
      refine .inr ⟨t, rfl, ht, ?_⟩
      unfold outR at q
      unfold outT
      cases hp : parseT t with
      | inl k =>
        rw [hp] at q
        exact ⟨_, Sub.refl _, q⟩
      | inr r =>
        obtain ⟨hs, ws, rs⟩ := r
        rw [hp] at q
        dsimp only at q
        have v := parse_rul ht hp
        simp only [dxs, dl, dMakeL, dMake]
        refine ⟨trivial, rfl, fun y hy => ⟨y, hs, ws, rs, rfl, gput_same, v, ?_⟩⟩
        simp only [dxs, dl, gput_gput, gput_same, MO.cold, gdel_gput hy]
        exact ⟨_, Sub.refl _, q⟩
end
end Pace
end
section
set_option Elab.async false
set_option linter.all false
set_option maxRecDepth 100000
set_option maxHeartbeats 4000000
namespace Pace
open PySem PySem.Spec PyProof.Rows L2 DL
section
variable {P : Program} {w : World} {K : PySem.W.Frag} {mg : Str → Option Value} {base : Heap} {C : Addr}
def bad03 (k : Int) : D := .lst [.str (Str.ofString "bad"), .int k, .bl true]
def heardD (o : Sum Nat (List Nat × List Nat × List (List Mv))) : D := match o with
  | .inl k => bad03 (k : Int)
  | .inr (hs, ws, rs) => .lst [.str (strOf hs), .str (strOf ws), rowsD rs]
def spHeard03 : SpD := fun ds G Q => ∃ (d : D) (nm : Bool), ds = [d, .bl nm] ∧ ((notStr d ∧ Q (bad03 (-1)) G) ∨ ∃ t : List Nat, d = .str (strOf t) ∧ t.length ≤ 4800 ∧ Q (heardD (parseT t)) G)
abbrev N__law_heard : List Str := ["_law_it", "_law_is_named", "_law_found", "_law_code", "e"]
theorem sc__law_heard : FnScope N__law_heard ["_law_it", "_law_is_named"] (defScope s__law_heard) := ⟨rfl, rfl, rfl, by decide +kernel, rfl, by decide +kernel, by decide +kernel⟩
theorem c__law_heard (T : Txt K mg C) (d : Def K mg "_law_heard" s__law_heard) (Er : ErT P K mg) (Xc_read : CalCX P w K mg base C "read" 6 ["cls", "text"] (spReadX C K)) (Xk_read : CalCXK P w K mg base C "read" 6 ["cls", "text"] (spReadX C K) ["text"] [0, 1]) : Cal P w K mg base "_law_heard" 7 ["_law_it", "_law_is_named"] (spHeard03) := by
  refine cal_mk (N := N__law_heard) d sc__law_heard (fun ds G Q h => ?_) (fun _ _ _ _ _ _ us hl => match us, hl with | [_, _], _ => rfl) (fun f cdv A outer s H E hg hr => ?_)
  · obtain ⟨d, nm, rfl, _⟩ := h
    rfl
  · have hu := hu100 hr
    have nd := sc__law_heard.nd
    have hA := deeper_guards (env := envOfC "_law_heard" (defScope s__law_heard) s.heap.objs.size f cdv) hg
    refine ⟨_, (dps_cons (dp_asg de_str (dg_name 2 nd))
  (dps_cons (dp_try_as (x := "BadText") (n := "e") (i := 4) (fun _ _ => Iff.rfl) rfl rfl nd rfl rfl rfl Er.e_BadText.mg_ (by decide) (fun pn xe => (dpsx_cons (dpx_asg (dex_if (dt_val (de_var 1)) (dex_calCK Xk_read hA (hr.mono (by decide)) (de_cls rfl T.mgR) (dk_cons (de_var 0) dk_nil)) (dex_calC Xc_read hA (hr.mono (by decide)) (de_cls rfl T.mgR) (da_cons (de_var 0) da_nil))) (dg_name 3 nd))
  (dpsx_of (dps_one (dp_asg (de_lst (da_cons (de_fld T.clR T.no_heard (de_var 3)) (da_cons (de_fld T.clR T.no_written (de_var 3)) (da_cons (de_fld T.clR T.no_rows (de_var 3)) da_nil)))) (dg_name 2 nd)))))) (fun a oe d pn C1 fs hz hf => (dpse_asg (dee_lst (dae_cons xrep_keeps (dee_of de_str) (dae_cons xrep_keeps (dee_xf Er.f_BadText Er.a_BadText hz hf (de_var 4)) (dae_cons xrep_keeps (dee_isE1 Er.i_BadText.c Er.i_BadText.k hz hf rfl T.f_isinstance (da_cons (de_var 4) (da_cons (de_cls rfl Er.mg_CaptionError) da_nil))) dae_nil)))) (dg_name 2 nd))))
  (dps_one (dp_ret (de_var 2))))), fun ds G Q h => ?_⟩
    obtain ⟨d, nm, rfl, h⟩ := h
    rw [show dstart N__law_heard [d, .bl nm] = [some (d), some (.bl nm), none, none, none] from rfl]
    simp only [dxs, dl, dx3, xS, xE, finX, dSeqX, dTryAs, dIsE1, dXf]
    split
    · refine ⟨trivial, trivial, ?_⟩
      rcases h with ⟨nd, q⟩ | ⟨t, rfl, ht, q⟩
      · exact .inl ⟨d, rfl, nd, Er.i_BadText.m, fun _ => ⟨trivial, rfl, trivial, rfl, by simp, sz (by decide), _, Sub.refl _, q⟩⟩
      · refine .inr ⟨t, rfl, ht, ?_⟩
        unfold outR
        cases hp : parseT t with
        | inl k =>
          rw [hp] at q
          exact ⟨Er.i_BadText.m, fun _ => ⟨trivial, rfl, trivial, rfl, by simp, sz (by decide), _, Sub.refl _, q⟩⟩
        | inr r =>
          obtain ⟨hs, ws, rs⟩ := r
          rw [hp] at q
          exact ⟨rfl, rfl, rfl, sz (by decide), _, Sub.refl _, q⟩
    · refine ⟨trivial, ?_⟩
      rcases h with ⟨nd, q⟩ | ⟨t, rfl, ht, q⟩
      · exact .inl ⟨d, rfl, nd, Er.i_BadText.m, fun _ => ⟨trivial, rfl, trivial, rfl, by simp, sz (by decide), _, Sub.refl _, q⟩⟩
      · refine .inr ⟨t, rfl, ht, ?_⟩
        unfold outR
        cases hp : parseT t with
        | inl k =>
          rw [hp] at q
          exact ⟨Er.i_BadText.m, fun _ => ⟨trivial, rfl, trivial, rfl, by simp, sz (by decide), _, Sub.refl _, q⟩⟩
        | inr r =>
          obtain ⟨hs, ws, rs⟩ := r
          rw [hp] at q
          exact ⟨rfl, rfl, rfl, sz (by decide), _, Sub.refl _, q⟩
end
end Pace
end
section
set_option Elab.async false
set_option linter.all false
set_option maxRecDepth 100000
set_option maxHeartbeats 4000000
namespace Pace
open PySem PySem.Spec PyProof.Rows L2 DL
section
variable {P : Program} {w : World} {K : PySem.W.Frag} {mg : Str → Option Value} {base : Heap} {C : Addr}
def numL (w : List Nat) (lo hi : Nat) : Int := match numO w with
  | some n => if lo ≤ n ∧ n ≤ hi then (n : Int) else -1
  | none => -1
def spNum03 : SpD := fun ds G Q => ∃ (w : List Nat) (lo hi : Nat), ds = [.str (strOf w), .int (lo : Int), .int (hi : Int)] ∧ w.length ≤ 4900 ∧ Q (.int (numL w lo hi)) G
abbrev N__law_number : List Str := ["_law_word", "_law_low", "_law_top", "_law_c"]
theorem sc__law_number : FnScope N__law_number ["_law_word", "_law_low", "_law_top"] (defScope s__law_number) := ⟨rfl, rfl, rfl, by decide +kernel, rfl, by decide +kernel, by decide +kernel⟩
theorem c__law_number (T : Txt K mg C) (d : Def K mg "_law_number" s__law_number) : Cal P w K mg base "_law_number" 1 ["_law_word", "_law_low", "_law_top"] (spNum03) := by
  refine cal_mk (N := N__law_number) d sc__law_number (fun ds G Q h => ?_) (fun _ _ _ _ _ _ us hl => match us, hl with | [_, _, _], _ => rfl) (fun f cdv A outer s H E hg hr => ?_)
  · obtain ⟨w, lo, hi, rfl, _⟩ := h
    rfl
  · have hu := hu100 hr
    have nd := sc__law_number.nd
    have hA := deeper_guards (env := envOfC "_law_number" (defScope s__law_number) s.heap.objs.size f cdv) hg
    refine ⟨_, (dps_cons (dp_if (DW.dt (dw_or (dt_cmp (od_eq hu) (de_var 0) de_str (nomark _)) (dw_or (dt_cmp (od_gt hu) (de_callB cd_len rfl T.f_len (by decide +kernel) (da_cons (de_var 0) da_nil)) de_int (nomark _)) (dw_or1 (dt_cmp (od_neNil hu) (de_lc (own := [("_law_c", 3)]) (p := (.nm 3)) rfl nd (di_str (de_var 0)) (blkOk_by (by show blkC N__law_number (defScope s__law_number) _ _ = true; decide +kernel)) (by decide) (fun _ _ _ _ _ => pg_name (i := 3) nd rfl (Or.inl rfl)) (fun _ _ _ _ _ => (dts_one (dt_cmp (od_notIn hu) (de_var 3) de_str (by rfl)))) (fun _ _ _ _ _ => (de_var 3))) (de_lst da_nil) (nomark _))))))
  (dps_one (dp_ret (de_un ud_neg de_int)))
  dps_nil)
  (dps_one (dp_ret (de_if (DW.dt (dw_and (dt_cmp (od_eq hu) (de_callTy cd_strI rfl T.f_str (by decide +kernel) (da_cons (de_callTy cd_intS rfl T.f_int (by decide +kernel) (da_cons (de_var 0) da_nil)) da_nil)) (de_var 0) (nomark _)) (dw_and1 (dt_chain (od_le hu) (od_le hu) (de_var 1) (de_callTy cd_intS rfl T.f_int (by decide +kernel) (da_cons (de_var 0) da_nil)) (de_var 2))))) (de_callTy cd_intS rfl T.f_int (by decide +kernel) (da_cons (de_var 0) da_nil)) (de_un ud_neg de_int))))), fun ds G Q h => ?_⟩
    obtain ⟨w, lo, hi, rfl, hl, q⟩ := h
    rw [show dstart N__law_number [.str (strOf w), .int (lo : Int), .int (hi : Int)] = [some (.str (strOf w)), some (.int (lo : Int)), some (.int (hi : Int)), none] from rfl]
    have hsz : (strOf w).length ≤ sizeLine := by rw [strOf_len]; exact sz (by omega)
    have eS : ∀ (G : GH) (x : Str), D.cur G (.str x) = .str x := fun _ _ => rfl
    have cI : ∀ (G : GH) (n : Int), D.cur G (.int n) = .int n := fun _ _ => rfl
    have bad : numO w = none → (fin Q).rt (.int (-1)) G := fun e => by unfold numL at q; rw [e] at q; exact ⟨_, Sub.refl _, q⟩
    simp only [dxs, dl, dx3]
    refine ⟨okE_str _ _, ?_⟩
    by_cases h0 : w = []
    · subst h0
      rw [if_pos (by rw [str_nil, eqv_str]; simp), if_pos trivial]
      exact bad rfl
    · have ne0 : (D.str (strOf w)).eqv (D.str (Str.ofString "")) = false := by
        rw [str_nil, eqv_str, beq_eq_false_iff_ne]
        exact fun h => h0 (strOf_inj h)
      rw [if_neg (by rw [ne0]; simp), len_str hsz, strOf_len]
      simp only [dxs, dl]
      refine ⟨rfl, ?_⟩
      by_cases l3 : 3 < w.length
      · rw [if_pos (by simp [DL.lt_int]; omega), if_pos trivial]
        exact bad (by unfold numO numOk; rw [if_neg (by simp; omega)])
      · rw [if_neg (by simp [DL.lt_int]; omega)]
        have l1 : 1 ≤ w.length := by cases w with | nil => exact absurd rfl h0 | cons a l => simp
        refine lc_someA w (fun c => .str (sgn c)) (fun c => !digB c) (fun c => .str (sgn c)) (signs_map _) (sz (by omega)) trivial (fun c hc => ⟨_, rfl, fun Q z => ?_, fun _ Q z => ?_⟩) ?_
        · simp only [dxs, dl, dwipe, List.map_cons, List.map_nil, s_dig, eS, inn_str, strIn_sgn, dig_in]
          exact z
        · simp only [dxs, dl, dwipe, List.map_cons, List.map_nil]
          exact z
        · refine ⟨Nat.zero_le _, ?_⟩
          have ecL : ∀ (G : GH) (xs : List D), D.cur G (.lst xs) = .lst xs := fun _ _ => rfl
          simp only [rNil, ecL]
          rw [if_pos trivial, emp_all]
          by_cases hd : w.all digB = true
          · rw [hd, if_neg (by simp)]
            have wo := word_ok l1 (by omega) fun c hc => List.all_eq_true.mp hd c hc
            have h640 : (strOf w).length ≤ 640 := by rw [strOf_len]; omega
            refine ⟨_, wo.int, h640, ?_⟩
            have lg : ((valS w : Nat) : Int).natAbs.log2 < 1920 := by
              have h1 := wo.lt
              have h2 : (valS w).log2 ≤ valS w := Nat.log2_le_self _
              rw [Int.natAbs_natCast]
              omega
            refine ⟨lg, okE_str _ _, ?_⟩
            have et : (D.str (toString ((valS w : Nat) : Int))) = .str (strOf (numS (valS w))) := congrArg D.str (str_num (valS w))
            rw [eS, show (toString ((valS w : Nat) : Int) : Str) = strOf (numS (valS w)) from str_num (valS w), eqv_str]
            by_cases hb : numS (valS w) = w
            · rw [if_pos (by rw [hb]; simp)]
              refine ⟨_, wo.int, h640, okL_int _ _, ?_⟩
              have hn : numO w = some (valS w) := by
                unfold numO numOk
                rw [if_pos]
                simp only [Bool.and_eq_true, decide_eq_true_eq, Bool.or_eq_true]
                exact ⟨⟨⟨l1, by omega⟩, hd⟩, wo.back.mp hb⟩
              unfold numL at q
              rw [hn] at q
              dsimp only at q
              rw [cI, DL.lt_int]
              by_cases h1 : lo ≤ valS w
              · rw [if_pos (by simp; omega)]
                refine ⟨okL_int _ _, ?_⟩
                rw [DL.lt_int]
                by_cases h2 : valS w ≤ hi
                · rw [if_pos (by simp; omega)]
                  rw [if_pos ⟨h1, h2⟩] at q
                  exact ⟨_, wo.int, h640, _, Sub.refl _, q⟩
                · rw [if_neg (by simp; omega)]
                  rw [if_neg (fun z => h2 z.2)] at q
                  exact ⟨_, Sub.refl _, q⟩
              · rw [if_neg (by simp; omega)]
                rw [if_neg (fun z => h1 z.1)] at q
                exact ⟨_, Sub.refl _, q⟩
            · rw [if_neg (by rw [beq_iff_eq]; exact fun z => hb (strOf_inj z))]
              refine bad ?_
              unfold numO numOk
              rw [if_neg]
              simp only [Bool.and_eq_true, decide_eq_true_eq, Bool.or_eq_true, not_and]
              exact fun _ z => hb (wo.back.mpr z)
          · rw [if_pos (by simpa using hd)]
            exact bad (by unfold numO numOk; rw [if_neg (by simp only [Bool.and_eq_true, not_and]; intro h; exact absurd h.2 hd)])
end
section
variable {P : Program} {w : World} {K : PySem.W.Frag} {mg : Str → Option Value} {base : Heap} {C : Addr}
theorem asc_of {es : List Nat} (nd : es.Nodup) (so : sortedS (es.map sgn) = true) : es.Pairwise (· < ·) := by
  cases es with
  | nil => exact .nil
  | cons a l =>
    have h := rising_sgn l a so nd
    have := nbr_pair (fun a b c h1 h2 => by simp only [decide_eq_true_eq] at h1 h2 ⊢; omega) _ h
    exact this.imp fun z => of_decide_eq_true z
def spAsc03 : SpD := fun ds G Q => ∃ (w : List Nat), ds = [.str (strOf w)] ∧ w.length ≤ 3900 ∧ Q (.bl (lettersB w)) G
abbrev N__law_is_ascending : List Str := ["_law_word", "_law_c"]
theorem sc__law_is_ascending : FnScope N__law_is_ascending ["_law_word"] (defScope s__law_is_ascending) := ⟨rfl, rfl, rfl, by decide +kernel, rfl, by decide +kernel, by decide +kernel⟩
theorem c__law_is_ascending (T : Txt K mg C) (d : Def K mg "_law_is_ascending" s__law_is_ascending) : Cal P w K mg base "_law_is_ascending" 1 ["_law_word"] (spAsc03) := by
  refine cal_mk (N := N__law_is_ascending) d sc__law_is_ascending (fun ds G Q h => ?_) (fun _ _ _ _ _ _ us hl => match us, hl with | [_], _ => rfl) (fun f cdv A outer s H E hg hr => ?_)
  · obtain ⟨w, rfl, _⟩ := h
    rfl
  · have hu := hu100 hr
    have nd := sc__law_is_ascending.nd
    have hA := deeper_guards (env := envOfC "_law_is_ascending" (defScope s__law_is_ascending) s.heap.objs.size f cdv) hg
    refine ⟨_, (dps_cons (dp_if (DW.dt (dw_or (dt_cmp (od_eq hu) (de_var 0) de_str (nomark _)) (dw_or1 (dt_cmp (od_neNil hu) (de_lc (own := [("_law_c", 1)]) (p := (.nm 1)) rfl nd (di_str (de_var 0)) (blkOk_by (by show blkC N__law_is_ascending (defScope s__law_is_ascending) _ _ = true; decide +kernel)) (by decide) (fun _ _ _ _ _ => pg_name (i := 1) nd rfl (Or.inl rfl)) (fun _ _ _ _ _ => (dts_one (dt_cmp (od_notIn hu) (de_var 1) de_str (by rfl)))) (fun _ _ _ _ _ => (de_var 1))) (de_lst da_nil) (nomark _)))))
  (dps_one (dp_ret de_bl))
  dps_nil)
  (dps_one (dp_ret (de_cmp (od_eq hu) (de_callTy (cd_listTy rfl) rfl T.f_list (by decide +kernel) (da_cons (de_var 0) da_nil)) (de_sortSetTx rfl rfl T.f_sorted rfl T.f_set (de_var 0)) (nomark _))))), fun ds G Q h => ?_⟩
    obtain ⟨w, rfl, hl, q⟩ := h
    rw [show dstart N__law_is_ascending [.str (strOf w)] = [some (.str (strOf w)), none] from rfl]
    have eS : ∀ (G : GH) (x : Str), D.cur G (.str x) = .str x := fun _ _ => rfl
    simp only [dxs, dl, dx3]
    refine ⟨okE_str _ _, ?_⟩
    by_cases h0 : w = []
    · subst h0
      rw [if_pos (by rw [str_nil, eqv_str]; simp), if_pos trivial]
      exact ⟨_, Sub.refl _, q⟩
    · have ne0 : (D.str (strOf w)).eqv (D.str (Str.ofString "")) = false := by
        rw [str_nil, eqv_str, beq_eq_false_iff_ne]
        exact fun h => h0 (strOf_inj h)
      rw [if_neg (by rw [ne0]; simp)]
      refine lc_someA w (fun c => .str (sgn c)) (fun c => !decide (c ∈ abc)) (fun c => .str (sgn c)) (signs_map _) (sz (by omega)) trivial (fun c hc => ⟨_, rfl, fun Q z => ?_, fun _ Q z => ?_⟩) ?_
      · simp only [dxs, dl, dwipe, List.map_cons, List.map_nil, abc_str, eS, inn_str, strIn_sgn]
        exact z
      · simp only [dxs, dl, dwipe, List.map_cons, List.map_nil]
        exact z
      · refine ⟨Nat.zero_le _, ?_⟩
        have ecL : ∀ (G : GH) (xs : List D), D.cur G (.lst xs) = .lst xs := fun _ _ => rfl
        simp only [rNil, ecL]
        rw [if_pos trivial, emp_all]
        by_cases ha : w.all (fun c => decide (c ∈ abc)) = true
        · rw [ha, if_neg (by simp)]
          have hab : ∀ c ∈ w, c ∈ abc := fun c hc => of_decide_eq_true (List.all_eq_true.mp ha c hc)
          have esg : sgs (strOf w) = w.map sgn := by simp [sgs, strOf]
          refine ⟨by rw [strOf_len]; omega, ?_⟩
          simp only [dSortSetTx, dxs, dl]
          rw [esg]
          have lf : (firstsF (w.map sgn)).length ≤ 1000 := by
            have := List.Nodup.length_le_of_subset (firstsF_nodup (w.map sgn)) (l₂ := abc.map sgn) fun x hx => by
              obtain ⟨c, hc, rfl⟩ := List.mem_map.mp (firstsF_mem.mp hx)
              exact List.mem_map.mpr ⟨c, hab c hc, rfl⟩
            have e : (abc.map sgn).length = 26 := by decide +kernel
            omega
          refine ⟨by show (strOf w).length ≤ 4000; rw [strOf_len]; omega, lf, fun ys pm so => ?_⟩
          obtain ⟨es, rfl⟩ := unsgn (ys := ys) fun y hy => by
            obtain ⟨c, _, rfl⟩ := List.mem_map.mp (firstsF_mem.mp (pm.mem_iff.mp hy))
            exact ⟨c, rfl⟩
          have nde : es.Nodup := by
            have nd : (es.map sgn).Nodup := pm.nodup_iff.mpr (firstsF_nodup _)
            rw [List.Nodup, List.pairwise_map] at nd
            exact nd.imp fun h z => h (by rw [z])
          have asc := asc_of nde so
          have hmem : ∀ c, c ∈ es ↔ c ∈ w := fun c => by
            constructor
            · intro hc
              obtain ⟨x, hx, e⟩ := List.mem_map.mp (firstsF_mem.mp (pm.mem_iff.mp (List.mem_map.mpr ⟨c, hc, rfl⟩)))
              rw [← sgn_inj e]; exact hx
            · intro hc
              obtain ⟨x, hx, e3⟩ := List.mem_map.mp (pm.mem_iff.mpr (firstsF_mem.mpr (List.mem_map.mpr ⟨c, hc, rfl⟩)))
              rw [← sgn_inj e3]; exact hx
          have si_ : ∀ l : List Nat, (D.lst ((l.map sgn).map D.str)).si = true := fun l => sis_all.mpr fun x hx => by
            obtain ⟨y, hy, rfl⟩ := List.mem_map.mp hx
            rfl
          have dp_ : ∀ l : List Nat, (D.lst ((l.map sgn).map D.str)).dp ≤ 60 := fun l => by
            have : D.dps ((l.map sgn).map D.str) ≤ 1 := dps_le fun x hx => by
              obtain ⟨y, hy, rfl⟩ := List.mem_map.mp hx
              simp [D.dp]
            simp only [D.dp]; omega
          refine ⟨okE_si (si_ w) (si_ es) (dp_ w), _, Sub.refl _, ?_⟩
          have ev : D.eqv (.lst ((w.map sgn).map D.str)) (.lst ((es.map sgn).map D.str)) = lettersB w := by
            rw [Bool.eq_iff_iff, eqv_si (si_ w) (si_ es)]
            constructor
            · intro e
              have e2 : w = es := by
                simp only [D.lst.injEq] at e
                have e3 := List.map_inj_right (fun _ _ z => by simpa using z) |>.mp e
                exact List.map_inj_right (fun _ _ z => sgn_inj z) |>.mp e3
              unfold lettersB
              simp only [Bool.and_eq_true, ha, and_true, Bool.not_eq_true', List.isEmpty_eq_false_iff]
              exact ⟨h0, nbr_of_pair (by rw [e2]; exact asc.imp fun h => decide_eq_true h)⟩
            · intro e
              have := sorted_ext (letters_lt e) asc fun k => (hmem k).symm
              rw [← this]
          rw [ev]
          exact q
        · rw [if_pos (by simpa using ha)]
          have e : lettersB w = false := by
            unfold lettersB
            simp only [Bool.not_eq_true] at ha
            simp [ha]
          rw [e] at q
          exact ⟨_, Sub.refl _, q⟩
end
end Pace
end
section
set_option Elab.async false
set_option linter.all false
set_option maxRecDepth 100000
set_option maxHeartbeats 4000000
namespace Pace
open PySem PySem.Spec PyProof.Rows L2 DL
section
variable {P : Program} {w : World} {K : PySem.W.Frag} {mg : Str → Option Value} {base : Heap} {C : Addr}
def dueD (o : Sum Nat (List Nat × List Nat × List (List Mv))) : D := match o with
  | .inl k => .int (k : Int)
  | .inr (hs, ws, rs) => .lst [.str (strOf hs), .str (strOf ws), rowsD rs]
def partsD (l : List Nat) : D := .lst ((spl 32 l).map fun w => .str (strOf w))
def pastD (o : Option (Nat × Mv)) : D := match o with
  | none => .tup [.int (-1), .str (strOf []), .str (strOf [])]
  | some y => mvH y
theorem past_ok (o : Option (Nat × Mv)) (x : Nat × Mv) : okL (pastD o) (mvH x) = true := by cases o <;> rfl
theorem past_lt (o : Option (Nat × Mv)) (x : Nat × Mv) : D.lt (pastD o) (mvH x) = lastLt o x := by
  cases o with
  | some y => exact mvH_ltB y x
  | none =>
    have e3 : PyData.eqv (.int (-1)) (.int (x.1 : Int)) = ((-1 : Int) == (x.1 : Int)) := eqv_int _ _
    have e4 : PySem.W.dataLt (.int (-1)) (.int (x.1 : Int)) = decide ((-1 : Int) < (x.1 : Int)) := DL.lt_int _ _
    have e : D.lt (pastD none) (mvH x) = PySem.W.dataLt (.tuple [.int (-1), .str (strOf []), .str (strOf [])]) (.tuple [.int (x.1 : Int), .str (sgn x.2.h), .str (sgn x.2.c)]) := rfl
    rw [e, PySem.W.dataLt_tuple, PySem.W.dataLt_cons rfl, e3, e4, if_neg (by simp)]
    show decide _ = true
    exact decide_eq_true (by omega)
def spLRead03 : SpD := fun ds G Q => ∃ t : List Nat, ds = [.str (strOf t)] ∧ t.length ≤ 3900 ∧ Q (dueD (parseT t)) G
abbrev N__law_read : List Str := ["_law_page", "_law_parts", "_law_line", "_law_hs", "_law_cs", "_law_count", "_law_found", "_law_past", "_law_s", "_law_at", "_law_bits", "_law_t"]
theorem sc__law_read : FnScope N__law_read ["_law_page"] (defScope s__law_read) := ⟨rfl, rfl, rfl, by decide +kernel, rfl, by decide +kernel, by decide +kernel⟩
theorem c__law_read (T : Txt K mg C) (d : Def K mg "_law_read" s__law_read) (C__law_number : Cal P w K mg base "_law_number" 1 ["_law_word", "_law_low", "_law_top"] (spNum03)) (C__law_is_ascending : Cal P w K mg base "_law_is_ascending" 1 ["_law_word"] (spAsc03)) : Cal P w K mg base "_law_read" 3 ["_law_page"] (spLRead03) := by
  refine cal_mk (N := N__law_read) d sc__law_read (fun ds G Q h => ?_) (fun _ _ _ _ _ _ us hl => match us, hl with | [_], _ => rfl) (fun f cdv A outer s H E hg hr => ?_)
  · obtain ⟨t, rfl, _⟩ := h
    rfl
  · have hu := hu100 hr
    have nd := sc__law_read.nd
    have hA := deeper_guards (env := envOfC "_law_read" (defScope s__law_read) s.heap.objs.size f cdv) hg
    refine ⟨_, (dps_cons (dp_setLc (i := 1) (own := [("_law_line", 2)]) (p := (.nm 2)) rfl nd rfl rfl (sw_true rfl rfl rfl (by decide +kernel)) (di_list (de_bm PySem.F.plainAttrs_str PySem.F.slot_str_split PySem.F.type_str_split md_split (de_var 0) (da_cons de_str da_nil))) (blkOk_by (by show blkC N__law_read (defScope s__law_read) _ _ = true; decide +kernel)) (by decide) (fun _ _ _ _ _ => pg_name (i := 2) nd rfl (Or.inl rfl)) (fun _ _ _ _ _ => dts_nil) (fun _ _ _ _ _ => (de_bm PySem.F.plainAttrs_str PySem.F.slot_str_split PySem.F.type_str_split md_split (de_var 2) (da_cons de_str da_nil))))
  (dps_cons (dp_if (DW.dt (dw_or (dt_cmp (od_ne hu) (de_callB cd_len rfl T.f_len (by decide +kernel) (da_cons (de_ix hu (de_var 1) de_int) da_nil)) de_int (nomark _)) (dw_or (dt_cmp (od_ne hu) (de_ix hu (de_ix hu (de_var 1) de_int) de_int) de_str (nomark _)) (dw_or1 (dt_cmp (od_lt hu) (de_cal C__law_number hA (hr.mono (by decide)) (da_cons (de_ix hu (de_ix hu (de_var 1) de_int) de_int) (da_cons de_int (da_cons de_int da_nil)))) de_int (nomark _))))))
  (dps_one (dp_ret de_int))
  dps_nil)
  (dps_cons (dp_par3 (i := 3) (j := 4) (l := 5) rfl nd (ha := (da_cons (de_ix hu (de_ix hu (de_var 1) de_int) de_int) (da_cons (de_ix hu (de_ix hu (de_var 1) de_int) de_int) (da_cons (de_cal C__law_number hA (hr.mono (by decide)) (da_cons (de_ix hu (de_ix hu (de_var 1) de_int) de_int) (da_cons de_int (da_cons de_int da_nil)))) da_nil)))))
  (dps_cons (dp_if (DW.dt (dw_or (dt_not (dt_val (de_cal C__law_is_ascending hA (hr.mono (by decide)) (da_cons (de_var 3) da_nil)))) (dw_or1 (dt_not (dt_val (de_cal C__law_is_ascending hA (hr.mono (by decide)) (da_cons (de_var 4) da_nil)))))))
  (dps_one (dp_ret de_int))
  dps_nil)
  (dps_cons (dp_par (i := 6) (j := 7) rfl nd (ha := (da_cons (de_lcM (own := [("_law_s", 8)]) (p := (.nm 8)) rfl nd (di_range1 rfl T.f_range (da_cons (de_var 5) da_nil)) (blkOk_by (by show blkC N__law_read (defScope s__law_read) _ _ = true; decide +kernel)) (by decide) (fun _ _ _ _ _ => pg_name (i := 8) nd rfl (Or.inl rfl)) (fun _ _ _ _ _ => dts_nil) (fun _ _ _ _ _ => (de_lstM da_nil))) (da_cons (de_tup (da_cons (de_un ud_neg de_int) (da_cons de_str (da_cons de_str da_nil)))) da_nil))))
  (dps_cons (dp_for PassesOwn.never rfl (di_enumL rfl T.f_enumerate (da_cons (de_slice (de_var 1) (do_some de_int) do_none) da_nil)) (dg_tup (n := 2) rfl (dgs_cons (dg_name 9 nd) (dgs_cons (dg_name 10 nd) dgs_nil)))
  (dps_cons (dp_if (DW.dt (dw_or (dt_cmp (od_ne hu) (de_callB cd_len rfl T.f_len (by decide +kernel) (da_cons (de_var 10) da_nil)) de_int (nomark _)) (dw_or (dt_cmp (od_ne hu) (de_ix hu (de_var 10) de_int) de_str (nomark _)) (dw_or (dt_cmp (od_ne hu) (de_callB cd_len rfl T.f_len (by decide +kernel) (da_cons (de_ix hu (de_var 10) de_int) da_nil)) de_int (nomark _)) (dw_or1 (dt_cmp (od_ne hu) (de_callB cd_len rfl T.f_len (by decide +kernel) (da_cons (de_ix hu (de_var 10) de_int) da_nil)) de_int (nomark _)))))))
  (dps_one (dp_ret (de_op od_add (de_var 9) de_int)))
  dps_nil)
  (dps_cons (dp_par (i := 8) (j := 11) rfl nd (ha := (da_cons (de_cal C__law_number hA (hr.mono (by decide)) (da_cons (de_ix hu (de_var 10) de_int) (da_cons de_int (da_cons (de_op od_sub (de_var 5) de_int) da_nil)))) (da_cons (de_cal C__law_number hA (hr.mono (by decide)) (da_cons (de_ix hu (de_var 10) de_int) (da_cons de_int (da_cons (de_op od_sub (de_var 5) de_int) da_nil)))) da_nil))))
  (dps_cons (dp_if (DW.dt (dw_or (dt_cmp (od_lt hu) (de_callB (cd_min2 rfl) rfl T.f_min (by decide +kernel) (da_cons (de_var 8) (da_cons (de_var 11) da_nil))) de_int (nomark _)) (dw_or (dt_cmp (od_notIn hu) (de_ix hu (de_var 10) de_int) (de_var 3) (by rfl)) (dw_or (dt_cmp (od_notIn hu) (de_ix hu (de_var 10) de_int) (de_var 4) (by rfl)) (dw_or1 (dt_not (dt_cmp (od_lt hu) (de_var 7) (de_tup (da_cons (de_var 8) (da_cons (de_ix hu (de_var 10) de_int) (da_cons (de_ix hu (de_var 10) de_int) da_nil)))) (nomark _))))))))
  (dps_one (dp_ret (de_op od_add (de_var 9) de_int)))
  dps_nil)
  (dps_cons (dp_asg (de_tup (da_cons (de_var 8) (da_cons (de_ix hu (de_var 10) de_int) (da_cons (de_ix hu (de_var 10) de_int) da_nil)))) (dg_name 7 nd))
  (dps_one (dp_expr (de_bm PySem.F.plainAttrs_list PySem.F.slot_list_append PySem.F.type_list_append md_append (de_ix hu (de_var 6) (de_var 8)) (da_cons (de_tup (da_cons (de_ix hu (de_var 10) de_int) (da_cons (de_ix hu (de_var 10) de_int) (da_cons (de_var 11) da_nil)))) da_nil)))))))))
  (dps_one (dp_ret (de_lst (da_cons (de_var 3) (da_cons (de_var 4) (da_cons (de_callTy cd_tuple rfl T.f_tuple (by decide +kernel) (da_cons (de_lc (own := [("_law_line", 2)]) (p := (.nm 2)) rfl nd (di_list (de_var 6)) (blkOk_by (by show blkC N__law_read (defScope s__law_read) _ _ = true; decide +kernel)) (by decide) (fun _ _ _ _ _ => pg_name (i := 2) nd rfl (Or.inl rfl)) (fun _ _ _ _ _ => dts_nil) (fun _ _ _ _ _ => (de_callTy cd_tuple rfl T.f_tuple (by decide +kernel) (da_cons (de_var 2) da_nil)))) da_nil)) da_nil)))))))))))), fun ds G Q h => ?_⟩
    obtain ⟨t, rfl, ht, q⟩ := h
    rw [show dstart N__law_read [.str (strOf t)] = [some (.str (strOf t)), none, none, none, none, none, none, none, none, none, none, none] from rfl]
    have sp := split_spl (c := 10) (by decide) t
    have sm := spl_sum 10 t
    have ln := spl_mem 10 t
    have eS : ∀ (G : GH) (x : Str), D.cur G (.str x) = .str x := fun _ _ => rfl
    simp only [dxs, dl, dx3, rSplitD, s_break, sp]
    refine ⟨rfl, rfl, sz (by rw [strOf_len]; omega), ?_⟩
    have sl := spl_len 10 t
    refine lc_mapA (spl 10 t) (fun l => .str (strOf l)) partsD (by rw [List.map_map]; rfl) (sz (by omega)) trivial (fun l hl => ⟨_, rfl, fun Q z => ?_⟩) ?_
    · have := ln l hl
      simp only [dxs, dl, dwipe, List.map_cons, List.map_nil, rSplitD, s_blank, split_spl (show 32 < 256 by decide)]
      refine ⟨rfl, rfl, sz (by rw [strOf_len]; omega), ?_⟩
      have e : List.map D.str (List.map strOf (spl 32 l)) = (spl 32 l).map fun w => .str (strOf w) := by rw [List.map_map]; rfl
      rw [e]
      exact z
    obtain ⟨l0, ls, e⟩ : ∃ l0 ls, spl 10 t = l0 :: ls := by
      cases h : spl 10 t with
      | nil => exact absurd h (spl_ne 10 t)
      | cons a l => exact ⟨a, l, rfl⟩
    unfold parseT at q
    rw [e] at ln q sl ⊢
    dsimp only at q
    have ecL : ∀ (G : GH) (xs : List D), D.cur G (.lst xs) = .lst xs := fun _ _ => rfl
    have cI : ∀ (G : GH) (n : Int), D.cur G (.int n) = .int n := fun _ _ => rfl
    have i0 : D.item (.lst (List.map partsD (l0 :: ls))) (.int 0) = some (partsD l0) := atI_nat (j := 0) rfl
    have bad : headO l0 = none → (fin Q).rt (.int 0) G := fun h => by rw [h] at q; exact ⟨_, Sub.refl _, q⟩
    have lw := spl_mem 32 l0
    have lp := spl_len 32 l0
    have l00 := ln l0 (by simp)
    have lnL : ∀ (l : List Nat) (G : GH) (Q : DQ), rLenD [partsD l] G Q = Q (.int ((spl 32 l).length : Nat)) G := fun l G Q => by
      have : D.cur G (partsD l) = partsD l := rfl
      unfold partsD at this
      simp only [rLenD, partsD, this, D.len, List.length_map]
    have cP : ∀ (l : List Nat) (G : GH), D.cur G (partsD l) = partsD l := fun _ _ => rfl
    simp only [ecL, i0, lnL, cI, cP]
    refine ⟨okE_int _ _, ?_⟩
    by_cases h4 : (spl 32 l0).length = 4
    · obtain ⟨a, b, c, d, eh⟩ : ∃ a b c d, spl 32 l0 = [a, b, c, d] := by
        match spl 32 l0, h4 with
        | [a, b, c, d], _ => exact ⟨a, b, c, d, rfl⟩
      have hP : headO l0 = headP [a, b, c, d] := by unfold headO; rw [eh]
      have lb := lw b (by rw [eh]; simp)
      have lc := lw c (by rw [eh]; simp)
      have ld := lw d (by rw [eh]; simp)
      have p0 : D.item (partsD l0) (.int 0) = some (.str (strOf a)) := by unfold partsD; rw [eh]; exact atI_nat (j := 0) rfl
      have p1 : D.item (partsD l0) (.int 1) = some (.str (strOf b)) := by unfold partsD; rw [eh]; exact atI_nat (j := 1) rfl
      have p2 : D.item (partsD l0) (.int 2) = some (.str (strOf c)) := by unfold partsD; rw [eh]; exact atI_nat (j := 2) rfl
      have p3 : D.item (partsD l0) (.int 3) = some (.str (strOf d)) := by unfold partsD; rw [eh]; exact atI_nat (j := 3) rfl
      rw [if_neg (by rw [h4]; simp [eqv_int])]
      simp only [p0, p1, p2, p3, s_rules, eS]
      refine ⟨okE_str _ _, ?_⟩
      by_cases ha : a = wRules
      · rw [if_neg (by rw [eqv_str, ha]; simp)]
        refine ⟨d, 1, 999, rfl, by omega, ?_⟩
        refine ⟨okL_int _ _, ?_⟩
        rw [cI, DL.lt_int]
        have hnum : numL d 1 999 < 0 ∨ ∃ n, numO d = some n ∧ 0 < n ∧ n < 1000 ∧ numL d 1 999 = (n : Int) := by
          unfold numL
          cases hn : numO d with
          | none => exact .inl (by decide)
          | some n =>
            have := numO_lt hn
            dsimp only
            by_cases h0 : 1 ≤ n
            · exact .inr ⟨n, rfl, by omega, this, by rw [if_pos ⟨h0, by omega⟩]⟩
            · exact .inl (by rw [if_neg (fun z => h0 z.1)]; decide)
        rcases hnum with hneg | ⟨n, hn, n0, n1, hnv⟩
        · rw [if_pos (by simpa using hneg)]
          refine bad ?_
          rw [hP]
          unfold headP
          dsimp only
          rw [if_pos ha]
          cases hn : numO d with
          | none => rfl
          | some n =>
            have := numO_lt hn
            unfold numL at hneg
            rw [hn] at hneg
            dsimp only at hneg
            have hn0 : n = 0 := by
              by_cases h0 : 1 ≤ n
              · rw [if_pos ⟨h0, by omega⟩] at hneg; omega
              · omega
            simp [hn0]
        · rw [if_neg (by rw [hnv]; simp)]
          refine ⟨d, 1, 999, rfl, by omega, ?_⟩
          rw [hnv]
          refine ⟨b, rfl, by omega, ?_⟩
          by_cases hb : lettersB b = true
          · rw [hb]
            simp only [Bool.not_true, Bool.false_eq_true, if_false]
            refine ⟨c, rfl, by omega, ?_⟩
            by_cases hc : lettersB c = true
            · rw [hc]
              simp only [Bool.not_true, Bool.false_eq_true, if_false]
              have hh : headO l0 = some (b, c, n) := by
                rw [hP]; unfold headP; dsimp only; rw [if_pos ha, hn]; simp [hb, hc]; omega
              rw [hh] at q
              dsimp only at q
              refine ⟨by omega, by omega, ?_⟩
              have h26 := letters_26n hb
              have w26 := letters_26n hc
              refine ⟨sz (by simp; omega), fun i acc G' => ∃ as : List Addr, acc = as.map .rf ∧ as.length = i ∧ as.Nodup ∧ i ≤ n ∧ Sub G G' ∧ ∀ a ∈ as, G a = none ∧ G' a = some (.lst []), ⟨[], rfl, rfl, by simp, by omega, Sub.refl _, by simp⟩, fun _ _ _ _ => trivial, ?_, ?_⟩
              · rintro i acc G' d ⟨as, rfl, hl, nda, hi, sb, ha⟩ hd
                have hi2 : i < n := by have := (List.getElem?_eq_some_iff.mp hd).1; simpa using this
                refine ⟨_, rfl, ?_⟩
                simp only [dxs, dl, dwipe, List.map_cons, List.map_nil, if_true]
                refine ⟨Nat.zero_le _, fun p hp => ⟨as ++ [p], by simp, by simp [hl], ?_, hi2, sb.trans (sub_new hp rfl), fun a ha' => ?_⟩⟩
                · rw [List.nodup_append]
                  refine ⟨nda, by simp, fun a h1 b h2 e => ?_⟩
                  rw [List.mem_singleton.mp h2] at e
                  have := (ha a h1).2
                  rw [e, hp] at this
                  cases this
                · rcases List.mem_append.mp ha' with h | h
                  · have ne : a ≠ p := fun e => by have := (ha a h).2; rw [e, hp] at this; cases this
                    rw [gput_ne ne]
                    exact ha a h
                  · rw [List.mem_singleton.mp h]
                    refine ⟨?_, gput_same⟩
                    cases q0 : G p with
                    | none => rfl
                    | some o => rw [sb.le p o q0] at hp; cases hp
              · rintro acc G' ⟨as, rfl, hl, nda, hi, sb, ha⟩
                have hl2 : as.length = n := by rw [hl]; simp
                dsimp only
                intro p hp
                have pas : ∀ a ∈ as, a ≠ p := fun a h e => by have := (ha a h).2; rw [e, hp] at this; cases this
                have gpn : G p = none := by
                  cases q0 : G p with
                  | none => rfl
                  | some o => rw [sb.le p o q0] at hp; cases hp
                have lines1 : DL.cutD (List.map partsD (l0 :: ls)) (some 1) none = ls.map partsD := by
                  have := cut_drop (List.map partsD (l0 :: ls)) 1
                  rw [show (some ((1 : Nat) : Int)) = some (1 : Int) from rfl] at this
                  rw [this]
                  rfl
                refine ⟨sz (by decide), ?_⟩
                simp only [diEnumL, dxs, dl, dx3, lines1]
                have e0 : (D.tup [D.int (-1), D.str (Str.ofString ""), D.str (Str.ofString "")]) = pastD (([] : List (Nat × Mv)).getLast?) := by simp only [pastD, List.getLast?_nil, str_nil]
                rw [e0]
                refine ⟨fun i S' G2 => ∃ (x8 x9 x10 x11 : Option D) (ac : List (Nat × Mv)), S' = [some (D.str (strOf t)), some (D.lst (List.map partsD (l0 :: ls))), none, some (D.str (strOf b)), some (D.str (strOf c)), some (D.int ↑n), some (D.rf p), some (pastD ac.getLast?), x8, x9, x10, x11] ∧
                    AccOk b c n ac ∧ ac.length = i ∧ goP b c n ls 1 [] = goP b c n (ls.drop i) (1 + i) ac ∧ Sub G G2 ∧ G2 p = some (.lst (as.map .rf)) ∧ (∀ s a, as[s]? = some a → G2 a = some (.lst ((rowAt ac s).map Mv.d))),
                  ⟨_, _, _, _, [], rfl, AccOk.nil _ _ _, rfl, rfl, sub_gput sb gpn rfl (fun u z => by rw [hp] at z; cases z), gput_same, fun s a h => ?_⟩, fun _ _ _ _ => trivial, ?_, ?_⟩
                · have hm := List.mem_of_getElem? h
                  rw [gput_ne (pas a hm)]
                  exact (ha a hm).2
                · rintro i S' G2 dd ⟨x8, x9, x10, x11, ac, rfl, aok, al, hgo, sb2, gp, rows⟩ hd
                  rw [List.getElem?_mapIdx, List.getElem?_map] at hd
                  cases ex : ls[i]? with
                  | none => rw [ex] at hd; cases hd
                  | some l =>
                    rw [ex] at hd
                    cases hd
                    have hil := (List.getElem?_eq_some_iff.mp ex).1
                    have hdrop : ls.drop i = l :: ls.drop (i + 1) := by
                      obtain ⟨h1, h2⟩ := List.getElem?_eq_some_iff.mp ex
                      rw [List.drop_eq_getElem_cons h1, h2]
                    have lnl := ln l (by simp [List.mem_of_getElem? ex])
                    rw [hdrop, goP_cons] at hgo
                    simp only [dxs, dl, lnL, cI]
                    refine ⟨trivial, okE_int _ _, ?_⟩
                    have fail : (moveO b c n l = none ∨ ∃ x, moveO b c n l = some x ∧ lastLt ac.getLast? x = false) → (fin Q).rt (.int ((i : Int) + 1)) G2 := fun h => by
                      have hr : goP b c n ls 1 [] = .inl (1 + i) := by
                        rcases h with h | ⟨x, h, h2⟩
                        · rw [hgo, h]
                        · rw [hgo, h]; dsimp only; rw [if_neg (by rw [h2]; simp)]
                      rw [hr] at q
                      have ei : ((1 + i : Nat) : Int) = (i : Int) + 1 := by omega
                      rw [← ei]
                      exact ⟨_, sb2, q⟩
                    have rA : ∀ (G : GH) (Q : DQ), rAddD (.int (i : Int)) (.int 1) G Q = Q (.int ((i : Int) + 1)) G := fun _ _ => rfl
                    by_cases h5 : (spl 32 l).length = 5
                    · obtain ⟨a2, b2, c2, d2, e2, es⟩ : ∃ a2 b2 c2 d2 e2, spl 32 l = [a2, b2, c2, d2, e2] := by
                        match spl 32 l, h5 with
                        | [a, b, c, d, e], _ => exact ⟨a, b, c, d, e, rfl⟩
                      have hM : moveO b c n l = moveP b c n [a2, b2, c2, d2, e2] := by unfold moveO; rw [es]
                      have lw2 := spl_mem 32 l
                      rw [es] at lw2
                      have lb2 := lw2 b2 (by simp)
                      have lc2 := lw2 c2 (by simp)
                      have ld2 := lw2 d2 (by simp)
                      have le2 := lw2 e2 (by simp)
                      have j0 : D.item (partsD l) (.int 0) = some (.str (strOf a2)) := by unfold partsD; rw [es]; exact atI_nat (j := 0) rfl
                      have j1 : D.item (partsD l) (.int 1) = some (.str (strOf b2)) := by unfold partsD; rw [es]; exact atI_nat (j := 1) rfl
                      have j2 : D.item (partsD l) (.int 2) = some (.str (strOf c2)) := by unfold partsD; rw [es]; exact atI_nat (j := 2) rfl
                      have j3 : D.item (partsD l) (.int 3) = some (.str (strOf d2)) := by unfold partsD; rw [es]; exact atI_nat (j := 3) rfl
                      have j4 : D.item (partsD l) (.int 4) = some (.str (strOf e2)) := by unfold partsD; rw [es]; exact atI_nat (j := 4) rfl
                      have hlen : ∀ (w : List Nat), w.length ≤ 4890 → ∀ (G : GH) (Q : DQ), rLenD [D.str (strOf w)] G Q = Q (.int (w.length : Nat)) G := fun w hw G Q => by
                        rw [DL.len_str (by rw [strOf_len]; exact sz (by omega)), strOf_len]
                      rw [if_neg (by rw [h5]; simp [eqv_int])]
                      simp only [cP, j0, j1, j2, j3, j4, s_move, eS]
                      refine ⟨okE_str _ _, ?_⟩
                      by_cases hm : a2 = wMove
                      · rw [if_neg (by rw [eqv_str, hm]; simp)]
                        simp only [hlen c2 (by omega), hlen d2 (by omega), cI, okE_int, eqv_int, true_and]
                        by_cases hc1 : c2.length = 1
                        · obtain ⟨h, rfl⟩ : ∃ h, c2 = [h] := by
                            match c2, hc1 with
                            | [h], _ => exact ⟨h, rfl⟩
                          rw [if_neg (by simp)]
                          by_cases hd1 : d2.length = 1
                          · obtain ⟨k, rfl⟩ : ∃ k, d2 = [k] := by
                              match d2, hd1 with
                              | [k], _ => exact ⟨k, rfl⟩
                            rw [if_neg (by simp)]
                            have no : (∀ s t, numO b2 = some s → numO e2 = some t → ¬ (s < n ∧ t < n ∧ h ∈ b ∧ k ∈ c)) → moveO b c n l = none := fun H => by
                              rw [hM]
                              cases hb' : numO b2 with
                              | none => unfold moveP; dsimp only; rw [if_pos hm, hb']
                              | some s =>
                                cases he' : numO e2 with
                                | none => unfold moveP; dsimp only; rw [if_pos hm, hb', he']
                                | some t => exact moveP_no hm hb' he' fun h' k' q1 q2 q3 => by cases q1; cases q2; exact H s t hb' he' q3
                            have hv : ∀ w : List Nat, (numL w 0 (n - 1) = -1 ∧ ∀ s, numO w = some s → ¬ s < n) ∨ ∃ s, numO w = some s ∧ s < n ∧ numL w 0 (n - 1) = (s : Int) := fun w => by
                              unfold numL
                              cases hw : numO w with
                              | none => exact .inl ⟨rfl, fun s z => by cases z⟩
                              | some s =>
                                dsimp only
                                by_cases hs : s < n
                                · exact .inr ⟨s, rfl, hs, if_pos ⟨Nat.zero_le _, by omega⟩⟩
                                · exact .inl ⟨if_neg (fun z => by omega), fun s' z => by cases z; exact hs⟩
                            have en : (n : Int) - 1 = ((n - 1 : Nat) : Int) := by omega
                            simp only [en]
                            refine ⟨b2, 0, n - 1, rfl, by omega, ⟨e2, 0, n - 1, rfl, by omega, ?_⟩⟩
                            simp only [rMin2D, cI]
                            refine ⟨okL_int _ _, ?_⟩
                            rw [DL.lt_int]
                            rcases hv b2 with ⟨v1, v2⟩ | ⟨s, v1, v2, v3⟩
                            · rw [if_pos (by rw [v1]; simp; split <;> omega), if_pos trivial, rA]
                              exact fail (.inl (no fun s t q1 _ q3 => v2 s q1 q3.1))
                            · rcases hv e2 with ⟨u1, u2⟩ | ⟨t', u1, u2, u3⟩
                              · rw [if_pos (by rw [u1]; simp; split <;> omega), if_pos trivial, rA]
                                exact fail (.inl (no fun s t q1 q2 q3 => u2 t q2 q3.2.1))
                              · rw [if_neg (by rw [v3, u3]; simp; split <;> omega)]
                                have e1' : (D.str (strOf [h])) = .str (sgn h) := rfl
                                have e2' : (D.str (strOf [k])) = .str (sgn k) := rfl
                                simp only [e1', e2', inn_str, strIn_sgn]
                                by_cases hh : h ∈ b
                                · rw [if_neg (by simp [hh])]
                                  by_cases hk : k ∈ c
                                  · rw [if_neg (by simp [hk])]
                                    rw [v3, u3]
                                    have hx : moveO b c n l = some (s, ⟨h, k, t'⟩) := by rw [hM]; exact moveP_yes hm v1 u1 ⟨v2, u2, hh, hk⟩
                                    obtain ⟨x, hxe⟩ : ∃ x : Nat × Mv, x = (s, ⟨h, k, t'⟩) := ⟨_, rfl⟩
                                    have mp := (moveO_ok hx).1
                                    have xs1 : s < as.length := by omega
                                    obtain ⟨a, hax⟩ : ∃ a, as[s]? = some a := ⟨_, List.getElem?_eq_getElem xs1⟩
                                    have ham := List.mem_of_getElem? hax
                                    have ga := rows s a hax
                                    have itA : D.item (.lst (as.map .rf)) (.int (s : Int)) = some (.rf a) := atI_nat (by rw [List.getElem?_map, hax]; rfl)
                                    have ht2 : D.hasTy "list" (D.cur G2 (.rf a)) = true := by rw [D.cur_rf ga]; rfl
                                    have rl := rowAt_len ac s
                                    have hll : ls.length ≤ 3901 := by simp at sl; omega
                                    have cPast : ∀ (G : GH) (o : Option (Nat × Mv)), D.cur G (pastD o) = pastD o := fun _ o => by cases o <;> rfl
                                    have pl := past_lt ac.getLast? (s, ⟨h, k, t'⟩)
                                    have po := past_ok ac.getLast? (s, ⟨h, k, t'⟩)
                                    have em : mvH (s, ⟨h, k, t'⟩) = D.tup [D.int ↑s, D.str (sgn h), D.str (sgn k)] := rfl
                                    rw [em] at pl po
                                    refine ⟨sz (by decide), ?_⟩
                                    rw [cPast]
                                    refine ⟨po, ?_⟩
                                    rw [pl]
                                    by_cases hlt : lastLt ac.getLast? (s, ⟨h, k, t'⟩) = true
                                    · rw [if_neg (by rw [hlt]; simp)]
                                      refine ⟨sz (by decide), ?_⟩
                                      rw [gp]
                                      dsimp only
                                      rw [itA]
                                      refine ⟨ht2, sz (by decide), ?_⟩
                                      unfold rAppendD
                                      simp only [ga]
                                      refine ⟨by rw [List.length_map]; exact szl (by omega), some (D.int ↑s), some (D.int ↑i), some (partsD l), some (D.int ↑t'), ac ++ [(s, ⟨h, k, t'⟩)], by simp [pastD, mvH], aok.snoc mp hlt, by simp [al], ?_, sub_gput sb2 (ha a ham).1 rfl (fun u z => by rw [ga] at z; cases z; rfl), by rw [gput_ne (pas a ham).symm]; exact gp, fun s2 b3 hb3 => ?_⟩
                                      · rw [hgo, hx]
                                        dsimp only
                                        rw [if_pos hlt]; rfl
                                      · rw [rowAt_snoc]
                                        by_cases hba : b3 = a
                                        · subst hba
                                          have es2 : s = s2 := (List.getElem?_inj xs1 nda).mp (hax.trans hb3.symm)
                                          rw [gput_same, if_pos es2, ← es2, List.map_append]
                                          rfl
                                        · have es2 : s ≠ s2 := fun e => by rw [← e, hax] at hb3; exact hba (Option.some.inj hb3).symm
                                          rw [gput_ne hba, if_neg es2]
                                          exact rows s2 b3 hb3
                                    · rw [if_pos (by simpa using hlt), rA]
                                      exact fail (.inr ⟨_, hx, by simpa using hlt⟩)
                                  · rw [if_pos (by simp [hk]), if_pos trivial, rA]
                                    exact fail (.inl (no fun s t q1 q2 q3 => hk q3.2.2.2))
                                · rw [if_pos (by simp [hh]), if_pos trivial, rA]
                                  exact fail (.inl (no fun s t q1 q2 q3 => hh q3.2.2.1))
                          · rw [if_pos (by simp; omega), rA]
                            refine fail (.inl ?_)
                            rw [hM]; unfold moveP; dsimp only; rw [if_pos hm]
                            split
                            · rename_i q1 q2
                              exact absurd (by rfl) hd1
                            · rfl
                        · rw [if_pos (by simp; omega), if_pos trivial, rA]
                          refine fail (.inl ?_)
                          rw [hM]; unfold moveP; dsimp only; rw [if_pos hm]
                          split
                          · rename_i q1 q2
                            exact absurd (by rfl) hc1
                          · rfl
                      · rw [if_pos (by rw [eqv_str]; simp only [Bool.not_eq_true', beq_eq_false_iff_ne]; exact fun z => hm (strOf_inj z)), if_pos trivial, rA]
                        exact fail (.inl (by rw [hM]; unfold moveP; dsimp only; rw [if_neg hm]))
                    · rw [if_pos (by rw [eqv_int]; simp; omega), if_pos trivial, rA]
                      refine fail (.inl ?_)
                      unfold moveO
                      generalize spl 32 l = ps at h5
                      unfold moveP
                      split
                      · simp at h5
                      · rfl
                · rintro S' G2 ⟨x8, x9, x10, x11, ac, rfl, aok, al, hgo, sb2, gp, rows⟩
                  have hlm : (List.mapIdx (fun i x => D.tup [D.int ↑i, x]) (List.map partsD ls)).length = ls.length := by simp
                  rw [hlm, List.drop_length, goP_nil] at hgo
                  rw [hgo] at q
                  dsimp only [dueD] at q
                  simp only [dxs, dl, diList, gp]
                  have eas : as.map D.rf = (List.range n).map fun s => D.rf (as.getD s 0) := by
                    refine List.ext_getElem (by simp [hl2]) fun j h1 h2 => ?_
                    simp only [List.length_map] at h1
                    simp only [List.getElem_map, List.getElem_range]
                    rw [List.getD_eq_getElem?_getD, List.getElem?_eq_getElem h1]
                    rfl
                  refine lc_mapA (List.range n) (fun s => D.rf (as.getD s 0)) (fun s => rowD (rowAt ac s)) eas (sz (by simp; omega)) gp (fun s hsr => ⟨_, rfl, fun Q z => ?_⟩) ?_
                  · have hs2 : s < as.length := by have := List.mem_range.mp hsr; omega
                    have ga := rows s (as.getD s 0) (by rw [List.getD_eq_getElem?_getD, List.getElem?_eq_getElem hs2]; rfl)
                    simp only [dxs, dl, dwipe, List.map_cons, List.map_nil]
                    unfold rTupleD
                    simp only [D.cur_rf ga]
                    exact z
                  · simp only [dxs, dl, dx3]
                    refine ⟨sz (by decide), G, sb2, ?_⟩
                    have er : (List.range n).map (fun s => rowD (rowAt ac s)) = ((List.range n).map (rowAt ac)).map rowD := by rw [List.map_map]; rfl
                    rw [er]
                    exact q
            · have hc := Bool.not_eq_true _ |>.mp hc
              rw [hc]
              simp only [Bool.not_false, if_true]
              exact bad (by rw [hP]; unfold headP; dsimp only; rw [if_pos ha, hn]; simp [hc])
          · have hb := Bool.not_eq_true _ |>.mp hb
            rw [hb]
            simp only [Bool.not_false, if_true]
            exact bad (by rw [hP]; unfold headP; dsimp only; rw [if_pos ha, hn]; simp [hb])
      · rw [if_pos (by rw [eqv_str]; simp only [Bool.not_eq_true', beq_eq_false_iff_ne]; exact fun z => ha (strOf_inj z)), if_pos trivial]
        exact bad (by rw [hP]; unfold headP; dsimp only; rw [if_neg ha])
    · rw [if_pos (by simp [eqv_int]; omega), if_pos trivial]
      refine bad ?_
      unfold headO
      generalize spl 32 l0 = ps at h4
      unfold headP
      split
      · simp at h4
      · rfl
end
end Pace
end
section
set_option Elab.async false
set_option linter.all false
set_option maxRecDepth 100000
set_option maxHeartbeats 4000000
namespace Pace
open PySem PySem.Spec PyProof.Rows L2 DL
section
variable {P : Program} {w : World} {K : PySem.W.Frag} {mg : Str → Option Value} {base : Heap} {C : Addr}
theorem bk_row (r : List Mv) : bkD (rowD r) = 6 * r.length := by
  unfold rowD
  rw [bk_tup]
  induction r with
  | nil => rfl
  | cons m r ih =>
    rw [List.map_cons, bks_cons, ih, List.length_cons]
    have : bkD m.d = 5 := rfl
    omega
theorem bk_rows : ∀ rs : List (List Mv), bksD (rs.map rowD) = 6 * (rs.map List.length).sum + rs.length
  | [] => rfl
  | r :: rs => by
    rw [List.map_cons, bks_cons, bk_rows rs, bk_row, List.map_cons, List.sum_cons, List.length_cons]
    omega
theorem rules_odd03 {hs ws : List Nat} {rs : List (List Mv)} (w : RulV hs ws rs) (few : (rs.map List.length).sum ≤ 800) : Odd 0 4 6200 (.lst [.str (strOf hs), .str (strOf ws), rowsD rs]) := by
  have n2 := w.n2
  have o1 : Odd 0 3 26 (.str (strOf hs)) := oddP_str (fun c hc => by have := letters_az w.lh c hc; omega) (letters_26n w.lh)
  have o2 : Odd 0 3 26 (.str (strOf ws)) := oddP_str (fun c hc => by have := letters_az w.lw c hc; omega) (letters_26n w.lw)
  have o3 : One 0 3 (rowsD rs) := one_tup.mpr fun x hx => by
    obtain ⟨r, hr, rfl⟩ := List.mem_map.mp hx
    refine one_tup.mpr fun y hy => ?_
    obtain ⟨m, hm, rfl⟩ := List.mem_map.mp hy
    have rb := (w.row r hr).1
    unfold rowB at rb
    simp only [Bool.and_eq_true, List.all_eq_true] at rb
    have mb := rb.1 m hm
    unfold mvB at mb
    simp only [Bool.and_eq_true, decide_eq_true_eq] at mb
    have a1 := letters_az w.lh _ mb.1.1
    have a2 := letters_az w.lw _ mb.1.2
    refine one_tup.mpr fun z hz => ?_
    simp only [List.mem_cons, List.not_mem_nil, or_false] at hz
    rcases hz with rfl | rfl | rfl
    · exact (oddP_str (m := 0) (n := 0) (w := 1) (cs := [m.h]) (fun c hc => by rw [List.mem_singleton.mp hc]; omega) (by simp)).one
    · exact (oddP_str (m := 0) (n := 0) (w := 1) (cs := [m.c]) (fun c hc => by rw [List.mem_singleton.mp hc]; omega) (by simp)).one
    · refine (oddP_int (m := 0) (n := 0) (w := 1) ?_).one
      have e : (999 : Nat) ≤ 10 ^ 39 := by decide
      have := mb.2
      omega
  refine oddP_lst (n := 3) (fun x hx => ?_) ?_
  · simp only [List.mem_cons, List.not_mem_nil, or_false] at hx
    rcases hx with rfl | rfl | rfl
    · exact o1.one
    · exact o2.one
    · exact o3
  · have e1 := o1.bk
    have e2 := o2.bk
    have e3 : bkD (rowsD rs) = 6 * (rs.map List.length).sum + rs.length := by exact (bk_tup _).trans (bk_rows rs)
    rw [bks_cons, bks_cons, bks_cons, bks_nil, e3]
    omega
theorem one_sum (a : Nat) : ∀ n, ((List.range n).map fun s => if a = s then 1 else 0).sum = if a < n then 1 else 0
  | 0 => by simp
  | n + 1 => by
    rw [List.range_succ, List.map_append, List.sum_append, one_sum a n]
    simp only [List.map_cons, List.map_nil, List.sum_cons, List.sum_nil]
    split <;> split <;> split <;> omega
theorem sum_add {α : Type} (f g : α → Nat) : ∀ l : List α, (l.map fun x => f x + g x).sum = (l.map f).sum + (l.map g).sum
  | [] => rfl
  | x :: l => by simp only [List.map_cons, List.sum_cons, sum_add f g l]; omega
theorem rowAt_sum (n : Nat) : ∀ ms : List (Nat × Mv), (((List.range n).map (rowAt ms)).map List.length).sum ≤ ms.length
  | [] => by
    rw [List.map_map]
    have : ∀ l : List Nat, (l.map (List.length ∘ rowAt [])).sum = 0 := fun l => by
      induction l with
      | nil => rfl
      | cons a l ih => rw [List.map_cons, List.sum_cons, ih]; rfl
    rw [this]; exact Nat.zero_le _
  | x :: ms => by
    have ih := rowAt_sum n ms
    rw [List.map_map] at ih ⊢
    have e : ∀ s, (List.length ∘ rowAt (x :: ms)) s = (if x.1 = s then 1 else 0) + (List.length ∘ rowAt ms) s := fun s => by
      show (rowAt (x :: ms) s).length = _ + (rowAt ms s).length
      unfold rowAt
      by_cases h : x.1 = s
      · rw [List.filter_cons_of_pos (by simp [h]), if_pos h]; simp; omega
      · rw [List.filter_cons_of_neg (by simp [h]), if_neg h]; simp
    have e2 : (List.range n).map (List.length ∘ rowAt (x :: ms)) = (List.range n).map fun s => (if x.1 = s then 1 else 0) + (List.length ∘ rowAt ms) s := List.map_congr_left fun s _ => e s
    rw [e2, sum_add, one_sum, List.length_cons]
    split <;> omega
theorem goP_inl {hs ws : List Nat} {n : Nat} : ∀ {ls : List (List Nat)} {k k' : Nat} {acc : List (Nat × Mv)}, goP hs ws n ls k acc = .inl k' → k' ≤ k + ls.length
  | [], k, k', acc, e => by rw [goP_nil] at e; cases e
  | l :: r, k, k', acc, e => by
    rw [goP_cons] at e
    split at e
    · cases e; simp
    · split at e
      · have := goP_inl e; rw [List.length_cons]; omega
      · cases e; simp
theorem parse_inl {t : List Nat} {k : Nat} (h : parseT t = .inl k) : k ≤ t.length + 2 := by
  unfold parseT at h
  have sl := spl_len 10 t
  split at h
  · cases h; omega
  · rename_i l r e
    rw [e, List.length_cons] at sl
    split at h
    · cases h; omega
    · split at h
      · rename_i k' hg
        cases h
        have := goP_inl hg
        omega
      · cases h
theorem parse_odd {t hs ws : List Nat} {rs : List (List Mv)} (ht : t.length ≤ 3900) (h : parseT t = .inr (hs, ws, rs)) : Odd 0 4 6200 (.lst [.str (strOf hs), .str (strOf ws), rowsD rs]) := by
  have v := parse_rul (by omega) h
  refine rules_odd03 v ?_
  unfold parseT at h
  have sm := spl_sum 10 t
  split at h
  · cases h
  · rename_i l r e
    rw [e, List.map_cons, List.sum_cons] at sm
    split at h
    · cases h
    · split at h
      · cases h
      · rename_i ms hg
        cases h
        obtain ⟨h1, h2, h3⟩ := goP_ok (AccOk.nil _ _ _) hg
        have := sum5 h3
        simp at h2
        refine Nat.le_trans (rowAt_sum _ ms) ?_
        omega
theorem bad_odd {k : Int} (h : k.natAbs ≤ 10 ^ 39) : Odd 0 4 6200 (bad03 k) := by
  refine oddP_lst (n := 3) (fun x hx => ?_) ?_
  · simp only [List.mem_cons, List.not_mem_nil, or_false] at hx
    rcases hx with rfl | rfl | rfl
    · exact (oddP_str (m := 0) (n := 3) (w := 3) (cs := [98, 97, 100]) (by decide) (by decide)).one
    · exact (oddP_int (m := 0) (n := 3) (w := 3) (by omega)).one
    · exact (oddP_bl (m := 0) (n := 3) (w := 3)).one
  · have h1 : bkD (D.str (Str.ofString "bad")) = 3 := by decide +kernel
    have h2 : bkD (.int k) = 0 := rfl
    have h3 : bkD (.bl true) = 0 := rfl
    rw [bks_cons, bks_cons, bks_cons, bks_nil, h1, h2, h3]
    decide
theorem pair_repr {x : D} (o : Odd 0 4 6200 x) {G : GH} {Q : DQ} (z : Q (.str (D.pyR (.lst [x, x])).shown) G) : rReprG [.lst [x, x]] G Q := by
  have := o.bk
  refine Odd.repr (m := 0) (n := 5) (w := 12402) (oddP_lst (n := 4) (fun y hy => ?_) ?_) (by decide) (by decide) (by decide) z
  · simp only [List.mem_cons, List.not_mem_nil, or_false] at hy
    rcases hy with rfl | rfl
    · exact o.one
    · exact o.one
  · rw [bks_cons, bks_cons, bks_nil]
    omega
def spTold03 : SpD := fun ds G Q => ∃ (d : D), ds = [d] ∧ ((notStr d ∧ Odd 0 1 20 d) ∨ ∃ t : List Nat, d = .str (strOf t) ∧ t.length ≤ 3900 ∧ ∀ c ∈ t, c < 128) ∧ Q (.bl true) G
abbrev N__law_is_told : List Str := ["_law_it", "_law_due", "_law_was"]
theorem sc__law_is_told : FnScope N__law_is_told ["_law_it"] (defScope s__law_is_told) := ⟨rfl, rfl, rfl, by decide +kernel, rfl, by decide +kernel, by decide +kernel⟩
theorem c__law_is_told (T : Txt K mg C) (d : Def K mg "_law_is_told" s__law_is_told) (C__law_read : Cal P w K mg base "_law_read" 3 ["_law_page"] (spLRead03)) (C__law_heard : Cal P w K mg base "_law_heard" 7 ["_law_it", "_law_is_named"] (spHeard03)) : Cal P w K mg base "_law_is_told" 8 ["_law_it"] (spTold03) := by
  refine cal_mk (N := N__law_is_told) d sc__law_is_told (fun ds G Q h => ?_) (fun _ _ _ _ _ _ us hl => match us, hl with | [_], _ => rfl) (fun f cdv A outer s H E hg hr => ?_)
  · obtain ⟨d, rfl, _⟩ := h
    rfl
  · have hu := hu100 hr
    have nd := sc__law_is_told.nd
    have hA := deeper_guards (env := envOfC "_law_is_told" (defScope s__law_is_told) s.heap.objs.size f cdv) hg
    refine ⟨_, (dps_cons (dp_asg (de_if (dt_val (de_callB cd_isi rfl T.f_isinstance (by decide +kernel) (da_cons (de_var 0) (da_cons (de_ty (T := "str") rfl T.f_str (by decide +kernel)) da_nil)))) (de_cal C__law_read hA (hr.mono (by decide)) (da_cons (de_var 0) da_nil)) (de_un ud_neg de_int)) (dg_name 1 nd))
  (dps_cons (dp_par (i := 1) (j := 2) rfl nd (ha := (da_cons (de_if (dt_val (de_callB cd_isi rfl T.f_isinstance (by decide +kernel) (da_cons (de_var 1) (da_cons (de_ty (T := "int") rfl T.f_int (by decide +kernel)) da_nil)))) (de_lst (da_cons de_str (da_cons (de_var 1) (da_cons de_bl da_nil)))) (de_var 1)) (da_cons (de_callB (cd_reprG hu hA T.sysM) rfl T.f_repr (by decide +kernel) (da_cons (de_var 0) da_nil)) da_nil))))
  (dps_one (dp_ret (de_and (de_cmp (od_eq hu) (de_callB (cd_reprG hu hA T.sysM) rfl T.f_repr (by decide +kernel) (da_cons (de_lst (da_cons (de_cal C__law_heard hA (hr.mono (by decide)) (da_cons (de_var 0) (da_cons de_bl da_nil))) (da_cons (de_cal C__law_heard hA (hr.mono (by decide)) (da_cons (de_var 0) (da_cons de_bl da_nil))) da_nil))) da_nil)) (de_callB (cd_reprG hu hA T.sysM) rfl T.f_repr (by decide +kernel) (da_cons (de_lst (da_cons (de_var 1) (da_cons (de_var 1) da_nil))) da_nil)) (nomark _)) (de_one (de_cmp (od_eq hu) (de_callB (cd_reprG hu hA T.sysM) rfl T.f_repr (by decide +kernel) (da_cons (de_var 0) da_nil)) (de_var 2) (nomark _)))))))), fun ds G Q h => ?_⟩
    obtain ⟨d, rfl, hd, q⟩ := h
    rw [show dstart N__law_is_told [d] = [some (d), none, none] from rfl]
    simp only [dxs, dl, dx3]
    rcases hd with ⟨nd, od⟩ | ⟨t, rfl, ht, hc⟩
    · have isi : ∀ (G : GH) (Q : DQ), Q (.bl false) G → rIsiD [d, .ty "str"] G Q := fun G Q z => by
        rcases nd with rfl | ⟨i, rfl⟩ | ⟨b, rfl⟩ | rfl | ⟨xs, rfl⟩ | rfl <;> exact z
      refine isi _ _ ?_
      simp only [Bool.false_eq_true, if_false, if_true]
      refine ⟨sz (by decide), od.repr (by decide) (by decide) (by decide) ?_⟩
      refine ⟨d, false, rfl, .inl ⟨nd, ⟨d, true, rfl, .inl ⟨nd, ?_⟩⟩⟩⟩
      have ob := bad_odd (k := -1) (by decide)
      refine ⟨sz (by decide), pair_repr ob ⟨sz (by decide), pair_repr ob ⟨okE_str _ _, ?_⟩⟩⟩
      rw [if_pos (by simp [D.cur, eqv_str])]
      refine od.repr (by decide) (by decide) (by decide) ⟨okE_str _ _, _, Sub.refl _, ?_⟩
      rw [show D.eqv (D.cur _ (.str _)) (D.cur _ (.str _)) = true by simp [D.cur, eqv_str]]
      exact q
    · have od : Odd 0 0 3900 (.str (strOf t)) := oddP_str hc ht
      simp only [dx3, if_true]
      refine ⟨t, rfl, ht, ?_⟩
      cases hp : parseT t with
      | inl k =>
        have hk := parse_inl hp
        have big : (4000 : Nat) ≤ 10 ^ 39 := by decide
        have ob := bad_odd (k := (k : Int)) (by rw [Int.natAbs_natCast]; omega)
        simp only [dueD, dx3, if_true]
        refine ⟨sz (by decide), od.repr (by decide) (by decide) (by decide) ?_⟩
        refine ⟨_, false, rfl, .inr ⟨t, rfl, by omega, ?_⟩⟩
        rw [hp]
        refine ⟨_, true, rfl, .inr ⟨t, rfl, by omega, ?_⟩⟩
        rw [hp]
        refine ⟨sz (by decide), pair_repr ob ⟨sz (by decide), pair_repr ob ⟨okE_str _ _, ?_⟩⟩⟩
        rw [if_pos (by simp [D.cur, eqv_str, heardD, bad03])]
        refine od.repr (by decide) (by decide) (by decide) ⟨okE_str _ _, _, Sub.refl _, ?_⟩
        rw [show D.eqv (D.cur _ (.str _)) (D.cur _ (.str _)) = true by simp [D.cur, eqv_str]]
        exact q
      | inr r =>
        obtain ⟨hs, ws, rs⟩ := r
        have ob := parse_odd ht hp
        have isi : ∀ (G : GH) (Q : DQ) (xs : List D), Q (.bl false) G → rIsiD [.lst xs, .ty "int"] G Q := fun G Q xs z => z
        refine isi _ _ _ ?_
        simp only [Bool.false_eq_true, if_false]
        refine od.repr (by decide) (by decide) (by decide) ?_
        refine ⟨_, false, rfl, .inr ⟨t, rfl, by omega, ?_⟩⟩
        rw [hp]
        refine ⟨_, true, rfl, .inr ⟨t, rfl, by omega, ?_⟩⟩
        rw [hp]
        refine ⟨sz (by decide), pair_repr ob ⟨sz (by decide), pair_repr ob ⟨okE_str _ _, ?_⟩⟩⟩
        rw [if_pos (by simp [D.cur, eqv_str])]
        refine od.repr (by decide) (by decide) (by decide) ⟨okE_str _ _, _, Sub.refl _, ?_⟩
        rw [show D.eqv (D.cur _ (.str _)) (D.cur _ (.str _)) = true by simp [D.cur, eqv_str]]
        exact q
end
end Pace
end
section
set_option Elab.async false
set_option linter.all false
set_option maxRecDepth 100000
set_option maxHeartbeats 4000000
namespace Pace
open PySem PySem.Spec PyProof.Rows L2 DL
section
variable {P : Program} {w : World} {K : PySem.W.Frag} {mg : Str → Option Value} {base : Heap} {C : Addr}
abbrev dk (n : Nat) : MO := .deck "cells" "ground" "draws" n
def spDraw : SpD := fun ds G Q => ∃ (p : Addr) (n b : Nat), ds = [.rf p, .int (n : Int)] ∧ 1 ≤ n ∧ n ≤ 5000 ∧ G p = some (dk (b + 1)) ∧ ∀ r : Nat, r < n → Q (.int (r : Int)) (gput G p (dk b))
abbrev N__law_draw : List Str := ["_law_deck_here", "_law_below", "_law_turn", "_law_figure", "_law_cell"]
theorem sc__law_draw : FnScope N__law_draw ["_law_deck_here", "_law_below"] (defScope s__law_draw) := ⟨rfl, rfl, rfl, by decide +kernel, rfl, by decide +kernel, by decide +kernel⟩
theorem c__law_draw (T : Txt K mg C) (d : Def K mg "_law_draw" s__law_draw) : Cal P w K mg base "_law_draw" 1 ["_law_deck_here", "_law_below"] (spDraw) := by
  refine cal_mk (N := N__law_draw) d sc__law_draw (fun ds G Q h => ?_) (fun _ _ _ _ _ _ us hl => match us, hl with | [_, _], _ => rfl) (fun f cdv A outer s H E hg hr => ?_)
  · obtain ⟨p, n, b, rfl, _⟩ := h
    rfl
  · have hu := hu100 hr
    have nd := sc__law_draw.nd
    have hA := deeper_guards (env := envOfC "_law_draw" (defScope s__law_draw) s.heap.objs.size f cdv) hg
    refine ⟨_, (dps_out (dps_in (dps_cons (dp_asg (de_op od_add (de_ix hu (de_var 0) de_str) de_int) (dg_sub hu (de_var 0) de_str))
  (dps_cons (dp_par (i := 2) (j := 3) rfl nd (ha := (da_cons (de_ix hu (de_var 0) de_str) (da_cons (de_ix hu (de_var 0) de_str) da_nil))))
  (dps_cons (dp_if (dt_cmp (od_ne hu) (de_ix hu (de_var 0) de_str) (de_lst da_nil) (nomark _))
  (dps_cons (dp_asg (de_bm0 PySem.F.plainAttrs_list PySem.F.slot_list_pop PySem.F.type_list_pop md_pop (de_ix hu (de_var 0) de_str)) (dg_name 4 nd))
  (dps_cons (dp_if (dt_cmp (od_ge hu) (de_var 4) (de_op od_pow de_int de_int) (nomark _))
  (dps_cons (dp_expr (de_bm PySem.F.plainAttrs_list PySem.F.slot_list_append PySem.F.type_list_append md_append (de_ix hu (de_var 0) de_str) (da_cons (de_op od_fdiv (de_var 4) (de_var 1)) da_nil)))
  (dps_one (dp_ret (de_op od_mod (de_callTy cd_int rfl T.f_int (by decide +kernel) (da_cons (de_var 4) da_nil)) (de_var 1)))))
  dps_nil)
  (dps_one (dp_asg (de_op od_add (de_var 3) (de_op od_mod (de_callTy cd_int rfl T.f_int (by decide +kernel) (da_cons (de_var 4) da_nil)) de_int)) (dg_name 3 nd)))))
  dps_nil)
  (dps_cons (dp_asg (de_op od_mod (de_op od_mul (de_callTy cd_int rfl T.f_int (by decide +kernel) (da_cons (de_op od_add (de_op od_add (de_op od_mod (de_var 3) de_int) (de_op od_mul (de_op od_mul de_int (de_var 2)) (de_var 2))) de_int) da_nil)) de_int) de_int) (dg_name 3 nd))
  (dps_cons (dp_asg (de_op od_mod (de_callTy cd_int rfl T.f_int (by decide +kernel) (da_cons (de_op od_add (de_op od_add (de_op od_mul (de_var 3) (de_var 3)) (de_op od_mul de_int (de_var 2))) de_int) da_nil)) de_int) (dg_name 3 nd))
  (dps_one (dp_ret (de_op od_mod (de_op od_fdiv (de_op od_mod (de_callTy cd_int rfl T.f_int (by decide +kernel) (da_cons (de_op od_mul (de_var 3) de_int) da_nil)) de_int) de_int) (de_var 1))))))))))), fun ds G Q h => ?_⟩
    obtain ⟨p, n, b, rfl, n1, n2, gp, q⟩ := h
    rw [show dstart N__law_draw [.rf p, .int (n : Int)] = [some (.rf p), some (.int (n : Int)), none, none, none] from rfl]
    simp only [dx2]
    refine ⟨Deck, _, _, deck_open gp, ?_⟩
    rintro x ⟨ok, gc, ne, nd0⟩
    have fin0 : ∀ (r : Int) (x' : Deck) (G' : GH), x'.c = x.c → G' = openG G p "cells" "ground" "draws" x' → x'.ok b → 0 ≤ r → r < n → (outE (fin Q)).rt (.int r) G' := by
      rintro r x' G' e rfl ok' h0 h1
      refine ⟨_, deck_close gp (by rw [e]; exact gc) (by rw [e]; exact ne) nd0 ok', _, Sub.refl _, ?_⟩
      obtain ⟨k, rfl⟩ := Int.eq_ofNat_of_zero_le h0
      exact q k (by omega)
    obtain ⟨c, g, t, ns⟩ := x
    obtain ⟨o1, o2, o3, o4, o5⟩ := ok
    have hu1 : ∀ G0 o, gput G0 p o c = G0 c := fun _ _ => gput_ne ne
    unfold openG
    simp only at gc ne hu1 o1 o2 o3 o4 o5 ⊢
    have e1 : ∀ u : D, D.item (.dK [(.inr "cells", .rf c), (.inr "ground", .int g), (.inr "draws", u)]) (.str "cells") = some (.rf c) := fun u => rfl
    have e2 : ∀ u : D, D.item (.dK [(.inr "cells", .rf c), (.inr "ground", .int g), (.inr "draws", u)]) (.str "draws") = some u := fun u => rfl
    have e3 : ∀ u : D, putD ([(.inr "cells", .rf c), (.inr "ground", .int g), (.inr "draws", .int t)] : List (Key × D)) (.inr "draws") u = ([(.inr "cells", .rf c), (.inr "ground", .int g), (.inr "draws", u)] : List (Key × D)) := fun u => rfl
    have e4 : ∀ u : D, D.item (.dK [(.inr "cells", .rf c), (.inr "ground", .int g), (.inr "draws", u)]) (.str "ground") = some (.int g) := fun u => rfl
    have hc : G c = some .dcell := gc
    simp only [dxs, dl, e1, e2, e4, hu1, dx3, D.key, e3, gput_gput]
    refine ⟨szl (by decide), Nat.zero_le _, intL_ok ns, ?_⟩
    rw [intL_eqv]
    have cm1 : ∀ i j : Int, (-4294967296 ≤ i ∧ i ≤ 4294967296) ∨ (-4294967296 ≤ j ∧ j ≤ 4294967296) → CMul i j := fun i j h => by
      rcases h with h | h
      · exact .inl (by omega)
      · exact .inr (by omega)
    rcases List.eq_nil_or_concat ns with rfl | ⟨ns', a, rfl⟩
    · rw [if_neg (by simp)]
      refine ⟨by omega, cm1 _ _ (.inl (by omega)), .inr (by omega), cm1 _ _ (.inr (by omega)), by omega, cm1 _ _ (.inl (by omega)), cm1 _ _ (.inl (by omega)), by omega, cm1 _ _ (.inl (by omega)), by omega, ⟨by omega, by omega⟩, by omega, ?_⟩
      refine fin0 _ ⟨c, g, t + 1, []⟩ _ rfl ?_ ⟨by simp only; omega, by simp only; omega, o3, o4, by simp⟩ (Int.emod_nonneg _ (by omega)) (Int.emod_lt_of_pos _ (by omega))
      rfl
    · rw [List.concat_eq_append] at *
      rw [if_pos (by simp)]
      have o6 : ns'.length + 1 ≤ 63 := by simpa using o5
      refine ⟨rfl, ?_⟩
      simp only [rPopD, hu1, dl, pop_last, pop_rest, gput_under ne, dx3, dxs, okL_int, DL.lt_int, true_and, e1, beq_self_eq_true, rAppendD]
      refine ⟨⟨by omega, by omega, by decide⟩, ?_⟩
      by_cases han : a < 10 ^ Int.toNat 18
      · rw [if_neg (by simpa using han)]
        refine ⟨by omega, by omega, cm1 _ _ (.inl (by omega)), .inr (by omega), cm1 _ _ (.inr (by omega)), by omega, cm1 _ _ (.inl (by omega)), cm1 _ _ (.inl (by omega)), by omega, cm1 _ _ (.inl (by omega)), by omega, ⟨by omega, by omega⟩, by omega, ?_⟩
        exact fin0 _ ⟨c, g, t + 1, ns'⟩ _ rfl rfl ⟨by simp only; omega, by simp only; omega, o3, o4, by simp only; omega⟩ (Int.emod_nonneg _ (by omega)) (Int.emod_lt_of_pos _ (by omega))
      · rw [if_pos (by simpa using han)]
        refine ⟨⟨by omega, by omega⟩, szl (by simp; omega), by omega, fin0 _ ⟨c, g, t + 1, ns' ++ [a / (n : Int)]⟩ _ rfl ?_ ⟨by simp only; omega, by simp only; omega, o3, o4, by simp; omega⟩ (Int.emod_nonneg _ (by omega)) (Int.emod_lt_of_pos _ (by omega))⟩
        simp [openG]
end
end Pace
end
section
set_option Elab.async false
set_option linter.all false
set_option maxRecDepth 100000
set_option maxHeartbeats 4000000
namespace Pace
open PySem PySem.Spec PyProof.Rows L2 DL
section
variable {P : Program} {w : World} {K : PySem.W.Frag} {mg : Str → Option Value} {base : Heap} {C : Addr}
def Src (src : D) (xs : List D) : Prop := src = .lst xs ∨ ∃ cs : List Nat, src = .str (strOf cs) ∧ xs = cs.map fun c => .str (sgn c)
def spPick : SpD := fun ds G Q => ∃ (p : Addr) (b : Nat) (src : D) (xs : List D), ds = [.rf p, src] ∧ Src src xs ∧ 1 ≤ xs.length ∧ xs.length ≤ 5000 ∧ G p = some (dk (b + 1)) ∧ ∀ x ∈ xs, Q x (gput G p (dk b))
abbrev N__law_pick : List Str := ["_law_deck_here", "_law_some"]
theorem sc__law_pick : FnScope N__law_pick ["_law_deck_here", "_law_some"] (defScope s__law_pick) := ⟨rfl, rfl, rfl, by decide +kernel, rfl, by decide +kernel, by decide +kernel⟩
theorem c__law_pick (T : Txt K mg C) (d : Def K mg "_law_pick" s__law_pick) (C__law_draw : Cal P w K mg base "_law_draw" 1 ["_law_deck_here", "_law_below"] (spDraw)) : Cal P w K mg base "_law_pick" 2 ["_law_deck_here", "_law_some"] (spPick) := by
  refine cal_mk (N := N__law_pick) d sc__law_pick (fun ds G Q h => ?_) (fun _ _ _ _ _ _ us hl => match us, hl with | [_, _], _ => rfl) (fun f cdv A outer s H E hg hr => ?_)
  · obtain ⟨p, b, src, xs, rfl, _⟩ := h
    rfl
  · have hu := hu100 hr
    have nd := sc__law_pick.nd
    have hA := deeper_guards (env := envOfC "_law_pick" (defScope s__law_pick) s.heap.objs.size f cdv) hg
    refine ⟨_, (dps_one (dp_ret (de_ix hu (de_var 1) (de_cal C__law_draw hA (hr.mono (by decide)) (da_cons (de_var 0) (da_cons (de_callB cd_len rfl T.f_len (by decide +kernel) (da_cons (de_var 1) da_nil)) da_nil)))))), fun ds G Q h => ?_⟩
    obtain ⟨p, b, src, xs, rfl, hs, n1, n2, gp, q⟩ := h
    rcases hs with rfl | ⟨cs, rfl, rfl⟩
    · rw [show dstart N__law_pick [.rf p, .lst xs] = [some (.rf p), some (.lst xs)] from rfl]
      simp only [dxs, dl, dx3]
      refine ⟨p, xs.length, b, rfl, n1, n2, gp, fun r hr => ?_⟩
      obtain ⟨x, hx⟩ : ∃ x, xs[r]? = some x := ⟨_, List.getElem?_eq_getElem hr⟩
      simp only [dxs, dl, item_lst, atI_nat hx]
      exact ⟨_, Sub.refl _, q x (List.mem_of_getElem? hx)⟩
    · rw [show dstart N__law_pick [.rf p, .str (strOf cs)] = [some (.rf p), some (.str (strOf cs))] from rfl]
      have n1' : 1 ≤ cs.length := by simpa using n1
      have n2' : cs.length ≤ 5000 := by simpa using n2
      have hsz : (strOf cs).length ≤ sizeLine := by rw [strOf_len]; exact sz (by omega)
      simp only [dxs, dl, len_str hsz, strOf_len]
      refine ⟨p, cs.length, b, rfl, n1', n2', gp, fun r hr => ?_⟩
      obtain ⟨x, hx⟩ : ∃ x, cs[r]? = some x := ⟨_, List.getElem?_eq_getElem hr⟩
      have e : D.item (.str (strOf cs)) (.int (r : Int)) = some (.str (sgn x)) := by
        show (if (strOf cs).length ≤ sizeLine then _ else _) = _
        rw [if_pos hsz]
        have : atI (strOf cs).cps.toList (r : Int) = some x := atI_nat (by simpa [strOf] using hx)
        rw [this]
        rfl
      simp only [dxs, dl, e]
      exact ⟨_, Sub.refl _, q _ (List.mem_map.mpr ⟨x, List.mem_of_getElem? hx, rfl⟩)⟩
end
section
variable {P : Program} {w : World} {K : PySem.W.Frag} {mg : Str → Option Value} {base : Heap} {C : Addr}
def spDeck : SpD := fun ds G Q => ∃ ns : List Int, ds = [.scr ns] ∧ NoDeck G ∧ ∀ p c, G p = none → G c = none → c ≠ p → Q (.rf p) (shutG G p c "cells" "ground" "draws" 1000000)
abbrev N__law_deck : List Str := ["_law_script", "_law_cells", "_law_ground", "_law_cell"]
theorem sc__law_deck : FnScope N__law_deck ["_law_script"] (defScope s__law_deck) := ⟨rfl, rfl, rfl, by decide +kernel, rfl, by decide +kernel, by decide +kernel⟩
theorem c__law_deck (T : Txt K mg C) (d : Def K mg "_law_deck" s__law_deck) : Cal P w K mg base "_law_deck" 1 ["_law_script"] (spDeck) := by
  refine cal_mk (N := N__law_deck) d sc__law_deck (fun ds G Q h => ?_) (fun _ _ _ _ _ _ us hl => match us, hl with | [_], _ => rfl) (fun f cdv A outer s H E hg hr => ?_)
  · obtain ⟨ns, rfl, _⟩ := h
    rfl
  · have hu := hu100 hr
    have nd := sc__law_deck.nd
    have hA := deeper_guards (env := envOfC "_law_deck" (defScope s__law_deck) s.heap.objs.size f cdv) hg
    refine ⟨_, (dps_out (dps_cons (dp_par (i := 1) (j := 2) rfl nd (ha := (da_cons (de_callTy cd_list rfl T.f_list (by decide +kernel) (da_cons (de_slice (de_var 0) do_none (do_some de_int)) da_nil)) (da_cons de_int da_nil))))
  (dps_cons (dp_for PassesOwn.never rfl (di_list (de_var 1)) (dg_name 3 nd)
  (dps_one (dp_asg (de_op od_mod (de_callTy cd_int rfl T.f_int (by decide +kernel) (da_cons (de_op od_add (de_op od_add (de_op od_mul (de_var 2) de_int) (de_op od_mod (de_callTy cd_int rfl T.f_int (by decide +kernel) (da_cons (de_var 3) da_nil)) de_int)) de_int) da_nil)) de_int) (dg_name 2 nd))))
  (dps_one (dp_ret (de_dispM (dpp_cons de_str (de_revLM (de_var 1)) (dpp_cons de_str (de_var 2) (dpp_cons de_str de_int dpp_nil))))))))), fun ds G Q h => ?_⟩
    obtain ⟨ns, rfl, nd0, q⟩ := h
    rw [show dstart N__law_deck [.scr ns] = [some (.scr ns), none, none, none] from rfl]
    have hcut : (DL.cutD ns none (some 63)).length ≤ 63 := by
      unfold DL.cutD
      rw [List.length_take]
      have : HT.sIx ns.length ns.length (some 63) = min 63 ns.length := HT.sIx_nat ns.length ns.length 63
      rw [this]
      omega
    generalize hcs : DL.cutD ns none (some 63) = cells at hcut
    have lst : ∀ (xs : List D) (G : GH) (Q : DQ), rListD [.lst xs] G Q = Q (.lst xs) G := fun _ _ _ => rfl
    simp only [dx2, dxs, dl, dx3, hcs, lst]
    refine ⟨fun i S' G' => ∃ (b : Int) (x2 : Option D), S' = [some (.scr ns), some (.lst (cells.map .int)), some (.int b), x2] ∧ G' = G ∧ 0 ≤ b ∧ b < 2147483587, ⟨_, none, rfl, rfl, by omega, by omega⟩, fun _ _ _ _ => trivial, ?_, ?_⟩
    · rintro i S' G' dd ⟨b, x2, rfl, rfl, h1, h2⟩ hd
      obtain ⟨v, hv, rfl⟩ := map_get hd
      simp only [dxs, dl, dx3]
      refine ⟨.inl (by omega), by omega, by omega, _, _, rfl, trivial, Int.emod_nonneg _ (by omega), Int.emod_lt_of_pos _ (by omega)⟩
    · rintro S' G' ⟨b, x2, rfl, rfl, h1, h2⟩
      simp only [dxs, dl, dx3, hcs]
      intro c hc
      refine ⟨by show (3 : Nat) ≤ 15; decide, fun p hp => ?_⟩
      have hcp : c ≠ p := fun z => by rw [← z, gput_same] at hp; cases hp
      have hp' : G' p = none := by rw [gput_ne (fun z => hcp z.symm)] at hp; exact hp
      have ndG : NoDeck (openG G' p "cells" "ground" "draws" ⟨c, b, 0, cells.reverse⟩) := open_nodeck fun a _ => nd0 a
      refine ⟨_, deck_shut (x := ⟨c, b, 0, cells.reverse⟩) (n := 1000000) (k1 := "cells") (k2 := "ground") (k3 := "draws") (p := p) ?_ ?_ ?_ ⟨by simp only; omega, by simp only; omega, h1, by simp only; omega, by simp; omega⟩, _, Sub.refl _, ?_⟩
      · have e : openG G' p "cells" "ground" "draws" ⟨c, b, 0, cells.reverse⟩ = gput (gput G' c (.lst (cells.map D.int).reverse)) p (.dK [(.inr "cells", .rf c), (.inr "ground", .int b), (.inr "draws", .int 0)]) := by
          unfold openG
          rw [List.map_reverse]
        rw [e] at ndG
        exact ndG
      · exact gput_same
      · rw [gput_ne hcp, gput_same, List.map_reverse]
      · have e : ∀ o1 o2, shutG (gput (gput G' c o1) p o2) p c "cells" "ground" "draws" 1000000 = shutG G' p c "cells" "ground" "draws" 1000000 := fun o1 o2 => by
          funext a
          unfold shutG
          by_cases z1 : a = p
          · subst z1; rw [gput_same, gput_same]
          · rw [gput_ne z1, gput_ne z1]
            by_cases z2 : a = c
            · subst z2; rw [gput_same, gput_same]
            · rw [gput_ne z2, gput_ne z2, gput_ne z1, gput_ne z2]
        show Q _ (shutG (gput (gput G' c _) p _) p c _ _ _ _)
        rw [e]
        exact q p c hp' hc hcp
end
end Pace
end
section
set_option Elab.async false
set_option linter.all false
set_option maxRecDepth 100000
set_option maxHeartbeats 4000000
namespace Pace
open PySem PySem.Spec PyProof.Rows L2 DL
section
variable {P : Program} {w : World} {K : PySem.W.Frag} {mg : Str → Option Value} {base : Heap} {C : Addr}
def spSigns : SpD := fun ds G Q => ∃ (p : Addr) (many n : Nat), ds = [.rf p, .int (many : Int)] ∧ 1 ≤ many ∧ many ≤ 3 ∧ G p = some (dk (n + 10)) ∧
  ∀ (cs : List Nat) (m : Nat), n ≤ m → lettersB cs = true → cs.length ≤ many → Q (.str (strOf cs)) (gput G p (dk m))
abbrev N__law_signs : List Str := ["_law_deck_here", "_law_many", "_law_alphabet", "_law_go"]
theorem sc__law_signs : FnScope N__law_signs ["_law_deck_here", "_law_many"] (defScope s__law_signs) := ⟨rfl, rfl, rfl, by decide +kernel, rfl, by decide +kernel, by decide +kernel⟩
theorem c__law_signs (T : Txt K mg C) (d : Def K mg "_law_signs" s__law_signs) (C__law_pick : Cal P w K mg base "_law_pick" 2 ["_law_deck_here", "_law_some"] (spPick)) (C__law_draw : Cal P w K mg base "_law_draw" 1 ["_law_deck_here", "_law_below"] (spDraw)) : Cal P w K mg base "_law_signs" 3 ["_law_deck_here", "_law_many"] (spSigns) := by
  refine cal_mk (N := N__law_signs) d sc__law_signs (fun ds G Q h => ?_) (fun _ _ _ _ _ _ us hl => match us, hl with | [_, _], _ => rfl) (fun f cdv A outer s H E hg hr => ?_)
  · obtain ⟨p, many, n, rfl, _⟩ := h
    rfl
  · have hu := hu100 hr
    have nd := sc__law_signs.nd
    have hA := deeper_guards (env := envOfC "_law_signs" (defScope s__law_signs) s.heap.objs.size f cdv) hg
    refine ⟨_, (dps_cons (dp_asg de_str (dg_name 2 nd))
  (dps_cons (dp_if (dt_cmp (od_gt hu) (de_cal C__law_draw hA (hr.mono (by decide)) (da_cons (de_var 0) (da_cons de_int da_nil))) de_int (nomark _))
  (dps_one (dp_ret (de_slice de_str do_none (do_some (de_op od_add de_int (de_cal C__law_draw hA (hr.mono (by decide)) (da_cons (de_var 0) (da_cons (de_var 1) da_nil))))))))
  dps_nil)
  (dps_one (dp_ret (de_bm PySem.F.plainAttrs_str PySem.F.slot_str_join PySem.F.type_str_join md_join de_str (da_cons (de_sortSetS rfl rfl T.f_sorted rfl T.f_set (de_lc (own := [("_law_go", 3)]) (p := (.nm 3)) rfl nd (di_range1 rfl T.f_range (da_cons (de_op od_add de_int (de_cal C__law_draw hA (hr.mono (by decide)) (da_cons (de_var 0) (da_cons (de_var 1) da_nil)))) da_nil)) (blkOk_by (by show blkC N__law_signs (defScope s__law_signs) _ _ = true; decide +kernel)) (by decide) (fun _ _ _ _ _ => pg_name (i := 3) nd rfl (Or.inl rfl)) (fun _ _ _ _ _ => dts_nil) (fun _ _ _ _ _ => (de_cal C__law_pick hA (hr.mono (by decide)) (da_cons (de_var 0) (da_cons (de_var 2) da_nil)))))) da_nil)))))), fun ds G Q h => ?_⟩
    obtain ⟨p, many, n, rfl, m1, m3, gp, q⟩ := h
    rw [show dstart N__law_signs [.rf p, .int (many : Int)] = [some (.rf p), some (.int (many : Int)), none, none] from rfl]
    simp only [dxs, dl]
    refine ⟨p, 3, n + 9, rfl, by decide, by decide, gp, fun r hr => ?_⟩
    simp only [dxs, dl]
    refine ⟨okL_int _ _, ?_⟩
    rw [DL.lt_int]
    by_cases h0 : 0 < r
    · rw [if_pos (by simpa using h0)]
      refine ⟨p, many, n + 8, rfl, m1, by omega, gput_same, fun r2 hr2 => ?_⟩
      have e : ((1 : Int) + (r2 : Int)) = ((1 + r2 : Nat) : Int) := by omega
      simp only [dxs, dl, dx3, s_abc, cutS_strOf, e, cut_take, gput_gput]
      refine ⟨by rw [strOf_len]; exact sz (by simp), _, Sub.refl _, q _ _ (by omega) ?_ (by simp; omega)⟩
      have : r2 = 0 ∨ r2 = 1 ∨ r2 = 2 := by omega
      rcases this with rfl | rfl | rfl <;> decide
    · rw [if_neg (by simpa using h0)]
      refine ⟨rfl, ?_⟩
      simp only [dSortSetS, dxs, dl]
      refine ⟨p, many, n + 8, rfl, m1, by omega, gput_same, fun r2 hr2 => ?_⟩
      have e : ((1 : Int) + (r2 : Int)) = ((1 + r2 : Nat) : Int) := by omega
      simp only [dxs, dl, dx3, e, gput_gput]
      refine ⟨by omega, by omega, ?_⟩
      refine ⟨sz (by simp; omega), fun i acc G' => ∃ cs : List Nat, acc = cs.map (fun c => .str (sgn c)) ∧ cs.length = i ∧ i ≤ 1 + r2 ∧ (∀ c ∈ cs, c ∈ abc) ∧ G' = gput G p (dk (n + 8 - i)), ⟨[], rfl, rfl, Nat.zero_le _, by simp, rfl⟩, fun _ _ _ _ => trivial, ?_, ?_⟩
      · rintro i acc G' d ⟨cs, rfl, hl, hi, hin, rfl⟩ hd
        obtain ⟨hi2, rfl⟩ := range_get hd
        refine ⟨_, rfl, ?_⟩
        simp only [dxs, dl, dwipe, List.map_cons, List.map_nil, if_true, abc_str]
        refine ⟨p, n + 8 - (i + 1), _, _, rfl, .inr ⟨abc, rfl, rfl⟩, by simp [abc], by simp [abc], ?_, fun x hx => ?_⟩
        · rw [gput_same]
          congr 2
          omega
        · obtain ⟨c, hc, rfl⟩ := List.mem_map.mp hx
          refine ⟨cs ++ [c], by simp, by simp [hl], by omega, fun d hd => ?_, ?_⟩
          · rcases List.mem_append.mp hd with hd | hd
            · exact hin d hd
            · rw [List.mem_singleton.mp hd]; exact hc
          · rw [gput_gput]
      · rintro acc G' ⟨cs, rfl, hl, hi, hin, rfl⟩
        rw [range_len] at hl
        simp only [dxs, dl, texts_sgn, List.length_map]
        refine ⟨by omega, fun ys pm so => ?_⟩
        obtain ⟨es, he⟩ := unsgn (ys := ys) fun y hy => by
          obtain ⟨c, _, rfl⟩ := List.mem_map.mp (firstsF_mem.mp (pm.mem_iff.mp hy))
          exact ⟨c, rfl⟩
        obtain ⟨l1, l2⟩ := letters_of hin (by omega) he pm so
        subst he
        have e2 : (es.map sgn).map D.str = es.map fun c => .str (sgn c) := by rw [List.map_map]; rfl
        simp only [rJoinD, e2, dxs, dl, texts_sgn, join_sgn, sgn_sum]
        have hlr : (List.range ((1 + r2 : Nat) : Int).toNat).length = 1 + r2 := by rw [Int.toNat_natCast, List.length_range]
        have h00 : (Str.ofString "").length = 0 := by rw [str_nil]; rfl
        refine ⟨by rw [h00]; simp; omega, _, Sub.refl _, q es _ (by omega) l1 (by omega)⟩
end
end Pace
end
section
set_option Elab.async false
set_option linter.all false
set_option maxRecDepth 100000
set_option maxHeartbeats 4000000
namespace Pace
open PySem PySem.Spec PyProof.Rows L2 DL
section
variable {P : Program} {w : World} {K : PySem.W.Frag} {mg : Str → Option Value} {base : Heap} {C : Addr}
def spWorld : SpD := fun ds G Q => ∃ (p : Addr) (top n : Nat) (tot : Bool), ds = [.rf p, .int (top : Int), .bl tot] ∧ 1 ≤ top ∧ top ≤ 5 ∧ G p = some (dk (n + 300)) ∧
  ∀ (hs ws : List Nat) (rs : List (List Mv)) (m : Nat), n ≤ m → Wor top tot hs ws rs → Q (uD hs ws rs) (gput G p (dk m))
abbrev N__law_world : List Str := ["_law_deck_here", "_law_top", "_law_is_total", "_law_count", "_law_hs", "_law_cs", "_law_lines", "_law_dense", "_law_s", "_law_row", "_law_h", "_law_some", "_law_c"]
theorem sc__law_world : FnScope N__law_world ["_law_deck_here", "_law_top", "_law_is_total"] (defScope s__law_world) := ⟨rfl, rfl, rfl, by decide +kernel, rfl, by decide +kernel, by decide +kernel⟩
theorem c__law_world (T : Txt K mg C) (d : Def K mg "_law_world" s__law_world) (C__law_signs : Cal P w K mg base "_law_signs" 3 ["_law_deck_here", "_law_many"] (spSigns)) (C__law_pick : Cal P w K mg base "_law_pick" 2 ["_law_deck_here", "_law_some"] (spPick)) (C__law_draw : Cal P w K mg base "_law_draw" 1 ["_law_deck_here", "_law_below"] (spDraw)) : Cal P w K mg base "_law_world" 4 ["_law_deck_here", "_law_top", "_law_is_total"] (spWorld) := by
  refine cal_mk (N := N__law_world) d sc__law_world (fun ds G Q h => ?_) (fun _ _ _ _ _ _ us hl => match us, hl with | [_, _, _], _ => rfl) (fun f cdv A outer s H E hg hr => ?_)
  · obtain ⟨p, top, n, tot, rfl, _⟩ := h
    rfl
  · have hu := hu100 hr
    have nd := sc__law_world.nd
    have hA := deeper_guards (env := envOfC "_law_world" (defScope s__law_world) s.heap.objs.size f cdv) hg
    refine ⟨_, (dps_cons (dp_asg (de_tup (da_cons (de_op od_add de_int (de_cal C__law_draw hA (hr.mono (by decide)) (da_cons (de_var 0) (da_cons (de_var 1) da_nil)))) (da_cons (de_cal C__law_signs hA (hr.mono (by decide)) (da_cons (de_var 0) (da_cons de_int da_nil))) (da_cons (de_cal C__law_signs hA (hr.mono (by decide)) (da_cons (de_var 0) (da_cons de_int da_nil))) da_nil)))) (dg_tup (n := 3) rfl (dgs_cons (dg_name 3 nd) (dgs_cons (dg_name 4 nd) (dgs_cons (dg_name 5 nd) dgs_nil)))))
  (dps_cons (dp_asg (de_tup (da_cons (de_lstM da_nil) (da_cons (de_cal C__law_draw hA (hr.mono (by decide)) (da_cons (de_var 0) (da_cons de_int da_nil))) da_nil))) (dg_tup (n := 2) rfl (dgs_cons (dg_name 6 nd) (dgs_cons (dg_name 7 nd) dgs_nil))))
  (dps_cons (dp_for PassesOwn.never rfl (di_range1 rfl T.f_range (da_cons (de_var 3) da_nil)) (dg_name 8 nd)
  (dps_cons (dp_asg (de_lstM da_nil) (dg_name 9 nd))
  (dps_cons (dp_for PassesOwn.never rfl (di_str (de_var 4)) (dg_name 10 nd)
  (dps_cons (dp_setLc (i := 11) (own := [("_law_c", 12)]) (p := (.nm 12)) rfl nd rfl rfl (sw_true rfl rfl rfl (by decide +kernel)) (di_str (de_var 5)) (blkOk_by (by show blkC N__law_world (defScope s__law_world) _ _ = true; decide +kernel)) (by decide) (fun _ _ _ _ _ => pg_name (i := 12) nd rfl (Or.inl rfl)) (fun _ _ _ _ _ => (dts_one (dt_cmp (od_lt hu) (de_cal C__law_draw hA (hr.mono (by decide)) (da_cons (de_var 0) (da_cons de_int da_nil))) (de_op od_add de_int (de_var 7)) (nomark _)))) (fun _ _ _ _ _ => (de_var 12)))
  (dps_cons (dp_if (DW.dt (dw_and (dt_val (de_var 2)) (dw_and1 (dt_cmp (od_eq hu) (de_var 11) (de_lst da_nil) (nomark _)))))
  (dps_one (dp_asg (de_lst (da_cons (de_cal C__law_pick hA (hr.mono (by decide)) (da_cons (de_var 0) (da_cons (de_var 5) da_nil))) da_nil)) (dg_name 11 nd)))
  dps_nil)
  (dps_one (dp_expr (de_bm PySem.F.plainAttrs_list PySem.F.slot_list_extend PySem.F.type_list_extend md_extend (de_var 9) (da_cons (de_lc (own := [("_law_c", 12)]) (p := (.nm 12)) rfl nd (di_list (de_var 11)) (blkOk_by (by show blkC N__law_world (defScope s__law_world) _ _ = true; decide +kernel)) (by decide) (fun _ _ _ _ _ => pg_name (i := 12) nd rfl (Or.inl rfl)) (fun _ _ _ _ _ => dts_nil) (fun _ _ _ _ _ => (de_tup (da_cons (de_var 10) (da_cons (de_var 12) (da_cons (de_cal C__law_draw hA (hr.mono (by decide)) (da_cons (de_var 0) (da_cons (de_var 3) da_nil))) da_nil)))))) da_nil)))))))
  (dps_one (dp_expr (de_bm PySem.F.plainAttrs_list PySem.F.slot_list_append PySem.F.type_list_append md_append (de_var 6) (da_cons (de_callTy cd_tuple rfl T.f_tuple (by decide +kernel) (da_cons (de_var 9) da_nil)) da_nil)))))))
  (dps_one (dp_ret (de_disp (dpp_cons de_str (de_var 4) (dpp_cons de_str (de_var 5) (dpp_cons de_str (de_callTy cd_tuple rfl T.f_tuple (by decide +kernel) (da_cons (de_var 6) da_nil)) dpp_nil))))))))), fun ds G Q h => ?_⟩
    obtain ⟨p, top, n, tot, rfl, t1, t5, gp, q⟩ := h
    rw [show dstart N__law_world [.rf p, .int (top : Int), .bl tot] = [some (.rf p), some (.int (top : Int)), some (.bl tot), none, none, none, none, none, none, none, none, none, none] from rfl]
    simp only [dxs, dl]
    refine ⟨p, top, n + 299, rfl, by omega, by omega, gp, fun r hr => ?_⟩
    simp only [dxs, dl, dx3]
    refine ⟨p, 3, n + 289, rfl, by decide, by decide, by rw [gput_same], fun hs m1 hm1 lh hs3 => ?_⟩
    obtain ⟨m1, rfl⟩ : ∃ m, m1 = m + 10 := ⟨m1 - 10, by omega⟩
    refine ⟨p, 3, m1, rfl, by decide, by decide, by rw [gput_same], fun ws m2 hm2 lw ws3 => ?_⟩
    simp only [dxs, dl, gput_gput]
    refine ⟨sz (by simp), trivial, Nat.zero_le _, fun z hz => ?_⟩
    have hzp : z ≠ p := fun e => by rw [e, gput_same] at hz; cases hz
    have hpz : p ≠ z := fun e => hzp e.symm
    have hz' : G z = none := by rw [gput_ne hzp] at hz; exact hz
    obtain ⟨m3, rfl⟩ : ∃ m, m2 = m + 1 := ⟨m2 - 1, by omega⟩
    refine ⟨p, 3, m3, rfl, by decide, by decide, by rw [gput_ne hpz, gput_same], fun dn hdn => ?_⟩
    have e1 : ((1 : Int) + (r : Int)) = ((r + 1 : Nat) : Int) := by omega
    rw [gput_under hpz]
    simp only [e1]
    refine ⟨sz (by simp), trivial, by omega, by omega, ?_⟩
    have rd : ∀ {m : Nat} {o2 : MO} {G' : GH}, Sub (gput (gput G p (dk m)) z o2) G' → G' p = some (dk m) ∧ G' z = some o2 := fun sb =>
      ⟨sb.le p _ (by rw [gput_ne hpz, gput_same]), sb.le z _ gput_same⟩
    have wr : ∀ {m m' : Nat} {o2 : MO} {G' : GH}, Sub (gput (gput G p (dk m)) z o2) G' → Sub (gput (gput G p (dk m')) z o2) (gput G' p (dk m')) := fun {m m' o2 G'} sb => by
      have := sb.put p (dk m')
      rw [gput_under hpz] at this
      exact this
    refine ⟨fun i S' G' => ∃ (m : Nat) (rows : List (List Mv)) (x8 x9 x10 x11 x12 : Option D), S' = [some (.rf p), some (.int (top : Int)), some (.bl tot), some (.int ((r + 1 : Nat) : Int)), some (.str (strOf hs)), some (.str (strOf ws)), some (.rf z), some (.int (dn : Int)), x8, x9, x10, x11, x12] ∧
      Sub (gput (gput G p (dk m)) z (.lst (rows.map rowD))) G' ∧ rows.length = i ∧ m3 ≤ m + 30 * i ∧ ∀ r1 ∈ rows, rowB hs ws (r + 1) r1 = true ∧ r1.length ≤ 9 ∧ (tot = true → ∀ h ∈ hs, ∃ m ∈ r1, m.h = h),
      ⟨m3, [], none, none, none, none, none, rfl, Sub.refl _, rfl, by omega, by simp⟩, fun _ _ _ _ => trivial, ?_, ?_⟩
    · rintro i S' G' dd ⟨m, rows, x8, x9, x10, x11, x12, rfl, sb, hrl, hm, hrows⟩ hd
      obtain ⟨hi, rfl⟩ := range_get hd
      obtain ⟨gp1, gz1⟩ := rd sb
      simp only [dxs, dl]
      refine ⟨Nat.zero_le _, fun y hy => ?_⟩
      have hyz : z ≠ y := fun e => by rw [← e, gz1] at hy; cases hy
      have hyp : p ≠ y := fun e => by rw [← e, gp1] at hy; cases hy
      refine ⟨fun j S' G2 => ∃ (m' : Nat) (row : List Mv) (G1 : GH) (x10 x11 x12 : Option D), S' = [some (.rf p), some (.int (top : Int)), some (.bl tot), some (.int ((r + 1 : Nat) : Int)), some (.str (strOf hs)), some (.str (strOf ws)), some (.rf z), some (.int (dn : Int)), some (.int (i : Int)), some (.rf y), x10, x11, x12] ∧
        G2 = gput G1 y (.lst (row.map Mv.d)) ∧ G1 y = none ∧ Sub (gput (gput G p (dk m')) z (.lst (rows.map rowD))) G1 ∧ m ≤ m' + 8 * j ∧ j ≤ hs.length ∧ RowP hs ws (r + 1) tot j row,
        ⟨m, [], G', _, _, _, rfl, rfl, hy, sb, by omega, Nat.zero_le _, RowP.start⟩, fun _ _ _ _ => trivial, ?_, ?_⟩
      · rintro j S' G2 dd ⟨m', row, G1, x10, x11, x12, rfl, rfl, hy1, sb1, hm', hj, rp⟩ hd
        obtain ⟨h, hh, rfl⟩ := signs_get hd
        obtain ⟨gp2, gz2⟩ := rd sb1
        simp only [dxs, dl]
        have hj1 := (List.getElem?_eq_some_iff.mp hh).1
        refine ⟨sz (by rw [signs_len]; omega), fun k acc G3 => ∃ cs : List Nat, acc = cs.map (fun c => .str (sgn c)) ∧ cs.Sublist (ws.take k) ∧ k ≤ ws.length ∧ G3 = gput (gput G1 p (dk (m' - k))) y (.lst (row.map Mv.d)), ⟨[], rfl, by simp, Nat.zero_le _, ?_⟩, fun _ _ _ _ => trivial, ?_, ?_⟩
        · rw [Nat.sub_zero, gput_self gp2]
        · rintro k acc G3 d ⟨cs, rfl, sl, hk, rfl⟩ hd3
          obtain ⟨c, hc, rfl⟩ := signs_get hd3
          have hk1 := (List.getElem?_eq_some_iff.mp hc).1
          refine ⟨_, rfl, ?_⟩
          simp only [dxs, dl, dwipe, List.map_cons, List.map_nil]
          refine ⟨p, 3, m' - (k + 1), rfl, by decide, by decide, ?_, fun r4 hr4 => ?_⟩
          · rw [gput_ne hyp, gput_same]
            congr 2
            omega
          · rw [gput_under hyp]
            simp only [dxs, dl, dx3, okL_int, DL.lt_int, true_and]
            split
            · exact ⟨cs ++ [c], by simp, by rw [take_snoc hc]; exact sl.append (List.Sublist.refl _), hk1, trivial⟩
            · exact ⟨cs, rfl, by rw [take_snoc hc]; exact sl.trans (List.sublist_append_left _ _), hk1, trivial⟩
        · rintro acc G3 ⟨cs, rfl, sl, hk, rfl⟩
          rw [signs_len, List.take_length] at sl
          rw [signs_len]
          have rest : ∀ (cs : List Nat) (k : Nat) (Q2 : DQ), cs.Sublist ws → 3 ≤ k → (∀ (ts : List Mv) (k2 : Nat), k ≤ k2 + 3 → ts.map (·.c) = cs → (∀ t ∈ ts, t.h = h ∧ t.t < r + 1) → Q2 (.lst (ts.map Mv.d)) (gput (gput G1 p (dk k2)) y (.lst (row.map Mv.d)))) →
              LcB (cs.map fun c => .str (sgn c)) dNoGuard (Pat.nm 12) dYes (dTup (dCons (dVar 10) (dCons (dVar 12) (dCons (dCall spDraw (dCons (dVar 0) (dCons (dVar 3) dNil))) dNil)))) (List.map (fun x => x.snd) [(Str.ofString "_law_c", 12)])
                [some (.rf p), some (.int (top : Int)), some (.bl tot), some (.int ((r + 1 : Nat) : Int)), some (.str (strOf hs)), some (.str (strOf ws)), some (.rf z), some (.int (dn : Int)), some (.int (i : Int)), some (.rf y), some (.str (sgn h)), some (.lst (cs.map fun c => .str (sgn c))), x12]
                (gput (gput G1 p (dk k)) y (.lst (row.map Mv.d))) Q2 := by
            intro cs k Q2 sl hk q2
            have hcl := sl.length_le
            refine ⟨sz (by simp; omega), fun i acc G3 => ∃ ts : List Mv, acc = ts.map Mv.d ∧ ts.map (·.c) = cs.take i ∧ i ≤ cs.length ∧ (∀ t ∈ ts, t.h = h ∧ t.t < r + 1) ∧ G3 = gput (gput G1 p (dk (k - i))) y (.lst (row.map Mv.d)), ⟨[], rfl, by simp, Nat.zero_le _, by simp, rfl⟩, fun _ _ _ _ => trivial, ?_, ?_⟩
            · rintro i acc G3 d ⟨ts, rfl, ec, hi, ht, rfl⟩ hd
              obtain ⟨c, hc, rfl⟩ := map_get hd
              have hi1 := (List.getElem?_eq_some_iff.mp hc).1
              refine ⟨_, rfl, ?_⟩
              simp only [dxs, dl, dwipe, List.map_cons, List.map_nil, if_true]
              refine ⟨p, r + 1, k - (i + 1), rfl, by omega, by omega, ?_, fun r4 hr4 => ?_⟩
              · rw [gput_ne hyp, gput_same]
                congr 2
                omega
              · rw [gput_under hyp]
                refine ⟨sz (by simp), ts ++ [⟨h, c, r4⟩], by simp [Mv.d], by rw [take_snoc hc, List.map_append, ec]; rfl, hi1, fun t ht' => ?_, rfl⟩
                rcases List.mem_append.mp ht' with ht' | ht'
                · exact ht t ht'
                · rw [List.mem_singleton.mp ht']; exact ⟨rfl, hr4⟩
            · rintro acc G3 ⟨ts, rfl, ec, hi, ht, rfl⟩
              rw [List.length_map, List.take_length] at ec
              rw [List.length_map]
              exact q2 ts _ (by omega) ec ht
          have sic : ∀ cs : List Nat, (D.lst (cs.map fun c => D.str (sgn c))).si = true := fun cs => sis_all.mpr fun x hx => by obtain ⟨c, _, rfl⟩ := List.mem_map.mp hx; rfl
          have okc : ∀ cs : List Nat, okE (.lst (cs.map fun c => D.str (sgn c))) (.lst []) = true := fun cs => okE_si (sic cs) rfl (by
            have : D.dps (cs.map fun c => D.str (sgn c)) ≤ 0 := dps_le fun x hx => by obtain ⟨c, _, rfl⟩ := List.mem_map.mp hx; exact Nat.le_refl _
            simp only [D.dp]; omega)
          have eqc : ∀ cs : List Nat, D.eqv (.lst (cs.map fun c => D.str (sgn c))) (.lst []) = decide (cs = []) := fun cs => by
            rw [Bool.eq_iff_iff, eqv_si (sic cs) rfl]
            simp
          have fin1 : ∀ (cs : List Nat) (ts : List Mv) (k2 : Nat) (x11' : Option D), cs.Sublist ws → (tot = true → cs ≠ []) → m' ≤ k2 + 7 → ts.map (·.c) = cs → (∀ t ∈ ts, t.h = h ∧ t.t < r + 1) → RowP hs ws (r + 1) tot (j + 1) (row ++ ts) ∧ Sub (gput (gput G p (dk k2)) z (.lst (rows.map rowD))) (gput G1 p (dk k2)) ∧ gput G1 p (dk k2) y = none := fun cs ts k2 _ sl ne hk ec ht =>
            ⟨rp.step (letters_lt lh) (letters_lt lw) ws3 hh sl ne ec ht, wr sb1, by rw [gput_ne (fun e => hyp e.symm)]; exact hy1⟩
          have rl := rp.len
          simp only [dxs, dl, okc, eqc, true_and, Nat.zero_le, beq_self_eq_true]
          cases htot : tot with
          | false =>
            rw [if_neg Bool.false_ne_true, if_neg Bool.false_ne_true]
            rw [htot] at rest fin1
            refine rest cs (m' - ws.length) _ sl (by omega) fun ts k2 hk2 ec ht => ?_
            obtain ⟨f1, f2, f3⟩ := fin1 cs ts k2 none sl (fun z => by cases z) (by omega) ec ht
            have ts3 : ts.length ≤ 3 := by have : ts.length = cs.length := by rw [← ec, List.length_map]
                                           have := sl.length_le; omega
            simp only [rExtendD, dxs, dl, gput_gput, ← List.map_append]
            exact ⟨sz (by simp; omega), k2, row ++ ts, _, _, _, _, rfl, rfl, f3, f2, by omega, hj1, f1⟩
          | true =>
            rw [if_pos rfl]
            rw [htot] at rest fin1
            by_cases hce : cs = []
            · rw [if_pos (by simpa using hce)]
              refine ⟨p, m' - ws.length - 1, _, _, rfl, .inr ⟨ws, rfl, rfl⟩, by simpa using letters_pos lw, by simp; omega, ?_, fun x hx => ?_⟩
              · rw [gput_ne hyp, gput_same]
                congr 2
                omega
              · obtain ⟨c, hc, rfl⟩ := List.mem_map.mp hx
                rw [gput_under hyp]
                simp only [dxs, dl, gput_same]
                have sl1 : [c].Sublist ws := List.singleton_sublist.mpr hc
                refine ⟨sz (by simp), rfl, ?_⟩
                refine rest [c] (m' - ws.length - 1) _ sl1 (by omega) fun ts k2 hk2 ec ht => ?_
                obtain ⟨f1, f2, f3⟩ := fin1 [c] ts k2 none sl1 (fun _ => by simp) (by omega) ec ht
                have ts3 : ts.length ≤ 3 := by have : ts.length = 1 := by rw [← List.length_map (f := (·.c)), ec]; rfl
                                               omega
                simp only [rExtendD, dxs, dl, gput_gput, ← List.map_append]
                exact ⟨sz (by simp; omega), k2, row ++ ts, _, _, _, _, rfl, rfl, f3, f2, by omega, hj1, f1⟩
            · rw [if_neg (by simpa using hce)]
              refine rest cs (m' - ws.length) _ sl (by omega) fun ts k2 hk2 ec ht => ?_
              obtain ⟨f1, f2, f3⟩ := fin1 cs ts k2 none sl (fun _ => hce) (by omega) ec ht
              have ts3 : ts.length ≤ 3 := by have : ts.length = cs.length := by rw [← ec, List.length_map]
                                             have := sl.length_le; omega
              simp only [rExtendD, dxs, dl, gput_gput, ← List.map_append]
              exact ⟨sz (by simp; omega), k2, row ++ ts, _, _, _, _, rfl, rfl, f3, f2, by omega, hj1, f1⟩
      · rintro S' G2 ⟨m', row, G1, x10, x11, x12, rfl, rfl, hy1, sb1, hm', hj, rp⟩
        rw [signs_len] at rp hm'
        have sb2 : Sub (gput (gput G p (dk m')) z (.lst (rows.map rowD))) (gput G1 y (.lst (row.map Mv.d))) := sb1.trans (sub_new hy1 rfl)
        have rl := rp.len
        obtain ⟨gp2, gz2⟩ := rd sb2
        simp only [dxs, dl, rTupleD, gz2, rAppendD, gput_same, beq_self_eq_true, true_and]
        refine ⟨szl (by simp; omega), m', rows ++ [row], _, _, _, _, _, rfl, ?_, by simp [hrl], by omega, fun r1 hr1 => ?_⟩
        · have := sb2.put z (.lst (rows.map rowD ++ [.tup (row.map Mv.d)]))
          rw [gput_gput] at this
          rw [List.map_append]
          exact this
        · rcases List.mem_append.mp hr1 with hr1 | hr1
          · exact hrows r1 hr1
          · rw [List.mem_singleton.mp hr1]
            exact ⟨rp.row, by omega, fun ht x hx => rp.full ht x (by rw [List.take_length]; exact hx)⟩
    · rintro S' G' ⟨m, rows, x8, x9, x10, x11, x12, rfl, sb, hrl, hm, hrows⟩
      rw [range_len] at hrl hm
      obtain ⟨gp1, gz1⟩ := rd sb
      simp only [dxs, dl, rTupleD, gz1]
      refine ⟨by show (3 : Nat) ≤ 15; decide, _, (sub_new (by rw [gput_ne hzp]; exact hz') rfl).trans sb, ?_⟩
      refine q hs ws rows m (by omega) ⟨⟨lh, lw, by omega, by omega, by omega, by omega, fun r1 hr1 => ?_⟩, by omega, hs3, ws3, fun r1 hr1 => (hrows r1 hr1).2.1, fun ht r1 hr1 => (hrows r1 hr1).2.2 ht⟩
      obtain ⟨a, b, _⟩ := hrows r1 hr1
      rw [hrl]
      exact ⟨a, by omega⟩
end
end Pace
end
section
set_option Elab.async false
set_option linter.all false
set_option maxRecDepth 100000
set_option maxHeartbeats 4000000
namespace Pace
open PySem PySem.Spec PyProof.Rows L2 DL
section
variable {P : Program} {w : World} {K : PySem.W.Frag} {mg : Str → Option Value} {base : Heap} {C : Addr}
def spBent03 : SpD := fun ds G Q => ∃ (p : Addr) (t : List Nat) (n : Nat), ds = [.rf p, .str (strOf t)] ∧ t.length ≤ 1500 ∧ (∀ c ∈ t, c < 128) ∧ G p = some (dk (n + 6)) ∧ ∀ (u : List Nat) (m : Nat), n ≤ m → u.length ≤ 2 * t.length + 10 → (∀ c ∈ u, c < 128) → Q (.str (strOf u)) (gput G p (dk m))
abbrev N__law_bent : List Str := ["_law_deck_here", "_law_page", "_law_way", "_law_at", "_law_lines", "_law_spot", "_law_far", "_law_bits", "_law_where", "_law_some"]
theorem sc__law_bent : FnScope N__law_bent ["_law_deck_here", "_law_page"] (defScope s__law_bent) := ⟨rfl, rfl, rfl, by decide +kernel, rfl, by decide +kernel, by decide +kernel⟩
theorem c__law_bent (T : Txt K mg C) (d : Def K mg "_law_bent" s__law_bent) (C__law_draw : Cal P w K mg base "_law_draw" 1 ["_law_deck_here", "_law_below"] (spDraw)) (C__law_pick : Cal P w K mg base "_law_pick" 2 ["_law_deck_here", "_law_some"] (spPick)) : Cal P w K mg base "_law_bent" 3 ["_law_deck_here", "_law_page"] (spBent03) := by
  refine cal_mk (N := N__law_bent) d sc__law_bent (fun ds G Q h => ?_) (fun _ _ _ _ _ _ us hl => match us, hl with | [_, _], _ => rfl) (fun f cdv A outer s H E hg hr => ?_)
  · obtain ⟨p, t, n, rfl, _⟩ := h
    rfl
  · have hu := hu100 hr
    have nd := sc__law_bent.nd
    have hA := deeper_guards (env := envOfC "_law_bent" (defScope s__law_bent) s.heap.objs.size f cdv) hg
    refine ⟨_, (dps_cons (dp_par (i := 2) (j := 3) rfl nd (ha := (da_cons (de_cal C__law_draw hA (hr.mono (by decide)) (da_cons (de_var 0) (da_cons de_int da_nil))) (da_cons (de_cal C__law_draw hA (hr.mono (by decide)) (da_cons (de_var 0) (da_cons (de_op od_add (de_callB cd_len rfl T.f_len (by decide +kernel) (da_cons (de_var 1) da_nil)) de_int) da_nil))) da_nil))))
  (dps_cons (dp_if (dt_cmp (od_lt hu) (de_var 2) de_int (nomark _))
  (dps_one (dp_ret (de_op od_add (de_op od_add (de_slice (de_var 1) do_none (do_some (de_var 3))) (de_cal C__law_pick hA (hr.mono (by decide)) (da_cons (de_var 0) (da_cons (de_callTy (cd_listTy rfl) rfl T.f_list (by decide +kernel) (da_cons de_str da_nil)) da_nil)))) (de_slice (de_var 1) (do_some (de_op od_add (de_var 3) (de_var 2))) do_none))))
  dps_nil)
  (dps_cons (dp_asg (de_bm PySem.F.plainAttrs_str PySem.F.slot_str_split PySem.F.type_str_split md_split (de_var 1) (da_cons de_str da_nil)) (dg_name 4 nd))
  (dps_cons (dp_par (i := 5) (j := 6) rfl nd (ha := (da_cons (de_cal C__law_draw hA (hr.mono (by decide)) (da_cons (de_var 0) (da_cons (de_callB cd_len rfl T.f_len (by decide +kernel) (da_cons (de_var 4) da_nil)) da_nil))) (da_cons (de_cal C__law_draw hA (hr.mono (by decide)) (da_cons (de_var 0) (da_cons (de_callB cd_len rfl T.f_len (by decide +kernel) (da_cons (de_var 4) da_nil)) da_nil))) da_nil))))
  (dps_cons (dp_if (dt_cmp (od_eq hu) (de_var 2) de_int (nomark _))
  (dps_one (dp_ret (de_bm PySem.F.plainAttrs_str PySem.F.slot_str_join PySem.F.type_str_join md_join de_str (da_cons (de_op od_add (de_slice (de_var 4) do_none (do_some (de_var 5))) (de_slice (de_var 4) (do_some (de_op od_add (de_var 5) de_int)) do_none)) da_nil))))
  dps_nil)
  (dps_cons (dp_if (dt_cmp (od_eq hu) (de_var 2) de_int (nomark _))
  (dps_one (dp_ret (de_bm PySem.F.plainAttrs_str PySem.F.slot_str_join PySem.F.type_str_join md_join de_str (da_cons (de_op od_add (de_op od_add (de_slice (de_var 4) do_none (do_some (de_op od_add (de_var 5) de_int))) (de_slice (de_var 4) (do_some (de_var 6)) (do_some (de_op od_add (de_var 6) de_int)))) (de_slice (de_var 4) (do_some (de_op od_add (de_var 5) de_int)) do_none)) da_nil))))
  dps_nil)
  (dps_cons (dp_if (dt_cmp (od_eq hu) (de_var 2) de_int (nomark _))
  (dps_one (dp_ret (de_bm PySem.F.plainAttrs_str PySem.F.slot_str_join PySem.F.type_str_join md_join de_str (da_cons (de_op od_add (de_op od_add (de_slice (de_var 4) do_none (do_some (de_var 5))) (de_slice (de_var 4) (do_some (de_var 6)) (do_some (de_op od_add (de_var 6) de_int)))) (de_slice (de_var 4) (do_some (de_op od_add (de_var 5) de_int)) do_none)) da_nil))))
  dps_nil)
  (dps_cons (dp_asg (de_bm PySem.F.plainAttrs_str PySem.F.slot_str_split PySem.F.type_str_split md_split (de_ix hu (de_var 4) (de_var 5)) (da_cons de_str da_nil)) (dg_name 7 nd))
  (dps_cons (dp_asg (de_cal C__law_draw hA (hr.mono (by decide)) (da_cons (de_var 0) (da_cons (de_callB cd_len rfl T.f_len (by decide +kernel) (da_cons (de_var 7) da_nil)) da_nil))) (dg_name 8 nd))
  (dps_cons (dp_asg (de_lst (da_cons de_str (da_cons de_str (da_cons de_str (da_cons de_str (da_cons de_str (da_cons de_str (da_cons de_str (da_cons de_str (da_cons de_str (da_cons de_str (da_cons de_str (da_cons de_str (da_cons de_str (da_cons de_str (da_cons de_str (da_cons de_str (da_cons de_str (da_cons de_str da_nil))))))))))))))))))) (dg_name 9 nd))
  (dps_cons (dp_asg (de_op od_add (de_op od_add (de_slice (de_var 7) do_none (do_some (de_var 8))) (de_lst (da_cons (de_cal C__law_pick hA (hr.mono (by decide)) (da_cons (de_var 0) (da_cons (de_var 9) da_nil))) da_nil))) (de_slice (de_var 7) (do_some (de_op od_add (de_var 8) (de_callTy cd_int rfl T.f_int (by decide +kernel) (da_cons (de_cmp (od_gt hu) (de_var 2) de_int (nomark _)) da_nil)))) do_none)) (dg_name 7 nd))
  (dps_one (dp_ret (de_bm PySem.F.plainAttrs_str PySem.F.slot_str_join PySem.F.type_str_join md_join de_str (da_cons (de_op od_add (de_op od_add (de_slice (de_var 4) do_none (do_some (de_var 5))) (de_lst (da_cons (de_bm PySem.F.plainAttrs_str PySem.F.slot_str_join PySem.F.type_str_join md_join de_str (da_cons (de_var 7) da_nil)) da_nil))) (de_slice (de_var 4) (do_some (de_op od_add (de_var 5) de_int)) do_none)) da_nil))))))))))))))), fun ds G Q h => ?_⟩
    obtain ⟨p, t, n, rfl, ht, hc, gp, q⟩ := h
    rw [show dstart N__law_bent [.rf p, .str (strOf t)] = [some (.rf p), some (.str (strOf t)), none, none, none, none, none, none, none, none] from rfl]
    have hsz : (strOf t).length ≤ sizeLine := by rw [strOf_len]; exact sz (by omega)
    have eS : ∀ (G : GH) (x : Str), D.cur G (.str x) = .str x := fun _ _ => rfl
    have cI : ∀ (G : GH) (n : Int), D.cur G (.int n) = .int n := fun _ _ => rfl
    have rA : ∀ (a b : Int) (G : GH) (Q : DQ), rAddD (.int a) (.int b) G Q = Q (.int (a + b)) G := fun _ _ _ _ => rfl
    have sm := spl_sum 10 t
    have sl := spl_len 10 t
    have ne := spl_ne 10 t
    have sp := split_spl (c := 10) (by decide) t
    have chr := spl_chr 10 t
    simp only [dxs, dl, dx3]
    refine ⟨p, 8, n + 5, rfl, by decide, by decide, gp, fun w hw => ?_⟩
    dsimp only
    rw [DL.len_str hsz, strOf_len, rA]
    refine ⟨p, t.length + 1, n + 4, rfl, by omega, by omega, gput_same, fun at_ hat => ?_⟩
    rw [gput_gput]
    dsimp only
    rw [cI]
    refine ⟨okL_int _ _, ?_⟩
    rw [DL.lt_int]
    by_cases h2 : w < 2
    · rw [if_pos (by simp; omega)]
      have e11 : Str.ofString "019abz -\nA" = strOf [48, 49, 57, 97, 98, 122, 32, 45, 10, 65] := by decide +kernel
      refine ⟨hsz, ?_⟩
      rw [e11]
      refine ⟨by decide, ?_⟩
      have esg : sgs (strOf [48, 49, 57, 97, 98, 122, 32, 45, 10, 65]) = [48, 49, 57, 97, 98, 122, 32, 45, 10, 65].map sgn := by simp [sgs, strOf]
      rw [esg]
      refine ⟨p, n + 3, _, _, rfl, .inl rfl, by decide, by decide, gput_same, fun x hx => ?_⟩
      rw [gput_gput]
      obtain ⟨k, hk, rfl⟩ : ∃ k : Nat, k < 128 ∧ x = .str (sgn k) := by
        rw [List.map_map] at hx
        obtain ⟨k, hk, rfl⟩ := List.mem_map.mp hx
        exact ⟨k, by simp only [List.mem_cons, List.not_mem_nil, or_false] at hk; omega, rfl⟩
      have c1 : cutS (strOf t) none (some (at_ : Int)) = strOf (t.take at_) := by rw [cutS_strOf, cut_take]
      have c2 : cutS (strOf t) (some ((at_ + w : Nat) : Int)) none = strOf (t.drop (at_ + w)) := by rw [cutS_strOf, cut_drop]
      have rS : ∀ (a b : Str) (G : GH) (Q : DQ), (a.length + b.length ≤ sizeLine ∧ Q (.str (a ++ b)) G) → rAddD (.str a) (.str b) G Q := fun _ _ _ _ z => z
      rw [c1]
      refine rS _ _ _ _ ⟨sz (by rw [strOf_len, List.length_take]; show _ + 1 ≤ _; omega), ?_⟩
      rw [rA]
      dsimp only
      rw [show (at_ : Int) + (w : Int) = ((at_ + w : Nat) : Int) by omega, c2, strOf_sgn]
      refine ⟨sz (by omega), rS _ _ _ _ ⟨sz (by rw [strOf_len, strOf_len, List.length_append, List.length_take, List.length_drop]; show _ + 1 + _ ≤ _; omega), ?_⟩⟩
      rw [strOf_app]
      refine ⟨_, Sub.refl _, q _ _ (by omega) (by simp only [List.length_append, List.length_take, List.length_drop, List.length_singleton]; omega) fun c hcc => ?_⟩
      rcases List.mem_append.mp hcc with hcc | hcc
      · rcases List.mem_append.mp hcc with hcc | hcc
        · exact hc c (List.mem_of_mem_take hcc)
        · rw [List.mem_singleton.mp hcc]; exact hk
      · exact hc c (List.mem_of_mem_drop hcc)
    · rw [if_neg (by simp; omega)]
      simp only [rSplitD, s_break, sp]
      refine ⟨rfl, rfl, sz (by rw [strOf_len]; omega), ?_⟩
      have el : D.lst (List.map D.str (List.map strOf (spl 10 t))) = ldD (spl 10 t) := by unfold ldD; rw [List.map_map]; rfl
      rw [el]
      have chr2 : ∀ l ∈ spl 10 t, ∀ k ∈ l, k < 128 := fun l hl k hk => hc k (chr l hl k hk)
      have mem2 := spl_mem 10 t
      generalize spl 10 t = L at sm sl ne el chr2 mem2 ⊢
      have L1 : 1 ≤ L.length := by cases L with | nil => exact absurd rfl ne | cons a l => simp
      simp only [ldD_len]
      refine ⟨p, L.length, n + 3, rfl, L1, by omega, gput_same, fun spot hspot => ?_⟩
      rw [gput_gput]
      refine ⟨p, L.length, n + 2, rfl, L1, by omega, gput_same, fun far hfar => ?_⟩
      rw [gput_gput]
      simp only [cI, okE_int, eqv_int, true_and, rA]
      have wdr : ∀ (M : List (List Nat)) (a : Nat), ((M.drop a).map fun x => x.length + 1).sum ≤ (M.map fun x => x.length + 1).sum := fun M a => by have := sum_cut M a; omega
      have wtk : ∀ (M : List (List Nat)) (a : Nat), ((M.take a).map fun x => x.length + 1).sum ≤ (M.map fun x => x.length + 1).sum := fun M a => by have := sum_cut M a; omega
      have wdd : ((L.drop (spot + 1)).map fun x => x.length + 1).sum ≤ ((L.drop spot).map fun x => x.length + 1).sum := by
        have := wdr (L.drop spot) 1
        rwa [List.drop_drop] at this
      have s1 := sum_cut L spot
      have s2 := sum_cut L (spot + 1)
      have wm : (((L.take (far + 1)).drop far).map fun x => x.length + 1).sum ≤ (L.map fun x => x.length + 1).sum := Nat.le_trans (wdr _ _) (wtk _ _)
      have jf : ∀ (M : List (List Nat)) (m : Nat), n ≤ m → (M.map fun x => x.length + 1).sum ≤ 2 * t.length + 10 → (∀ l ∈ M, ∀ k ∈ l, k < 128) → rJoinD (.str (strOf [10])) [ldD M] (gput G p (dk m)) (fin Q).rt := fun M m hm hs hcM =>
        ldD_join 10 M _ _ (by omega) ⟨_, Sub.refl _, q _ _ hm (Nat.le_trans (joinC_len 10 M) hs) (joinC_chr (by decide) hcM)⟩
      have es : ((spot : Int) + 1) = ((spot + 1 : Nat) : Int) := by omega
      have ef : ((far : Int) + 1) = ((far + 1 : Nat) : Int) := by omega
      have lt_ : ∀ (M : List (List Nat)) (a : Nat), (M.take a).length ≤ M.length := fun M a => by rw [List.length_take]; omega
      have ld_ : ∀ (M : List (List Nat)) (a : Nat), (M.drop a).length ≤ M.length := fun M a => by rw [List.length_drop]; omega
      simp only [es, ef]
      by_cases w2 : w = 2
      · rw [if_pos (by simp [w2]), ldD_take, ldD_drop]
        have a1 := lt_ L spot
        have a2 := ld_ L (spot + 1)
        refine ⟨rfl, ldD_add _ _ _ _ (by omega) (jf _ _ (by omega) (by rw [List.map_append, List.sum_append]; omega) fun l hl => ?_)⟩
        rcases List.mem_append.mp hl with hl | hl
        · exact chr2 l (List.mem_of_mem_take hl)
        · exact chr2 l (List.mem_of_mem_drop hl)
      · rw [if_neg (by simp; omega)]
        by_cases w3 : w = 3
        · rw [if_pos (by simp [w3]), ldD_take, ldD_mid]
          have a1 := lt_ L (spot + 1)
          have a2 := ld_ L (spot + 1)
          have a3 : ((L.take (far + 1)).drop far).length ≤ L.length := Nat.le_trans (ld_ _ _) (lt_ _ _)
          refine ⟨rfl, ldD_add _ _ _ _ (by omega) ?_⟩
          rw [ldD_drop]
          refine ldD_add _ _ _ _ (by rw [List.length_append]; omega) (jf _ _ (by omega) (by rw [List.map_append, List.sum_append, List.map_append, List.sum_append]; omega) fun l hl => ?_)
          rcases List.mem_append.mp hl with hl | hl
          · rcases List.mem_append.mp hl with hl | hl
            · exact chr2 l (List.mem_of_mem_take hl)
            · exact chr2 l (List.mem_of_mem_take (List.mem_of_mem_drop hl))
          · exact chr2 l (List.mem_of_mem_drop hl)
        · rw [if_neg (by simp; omega)]
          by_cases w4 : w = 4
          · rw [if_pos (by simp [w4]), ldD_take, ldD_mid]
            have a1 := lt_ L spot
            have a2 := ld_ L (spot + 1)
            have a3 : ((L.take (far + 1)).drop far).length ≤ L.length := Nat.le_trans (ld_ _ _) (lt_ _ _)
            refine ⟨rfl, ldD_add _ _ _ _ (by omega) ?_⟩
            rw [ldD_drop]
            refine ldD_add _ _ _ _ (by rw [List.length_append]; omega) (jf _ _ (by omega) (by rw [List.map_append, List.sum_append, List.map_append, List.sum_append]; omega) fun l hl => ?_)
            rcases List.mem_append.mp hl with hl | hl
            · rcases List.mem_append.mp hl with hl | hl
              · exact chr2 l (List.mem_of_mem_take hl)
              · exact chr2 l (List.mem_of_mem_take (List.mem_of_mem_drop hl))
            · exact chr2 l (List.mem_of_mem_drop hl)
          · rw [if_neg (by simp; omega)]
            obtain ⟨l, hl⟩ : ∃ l, L[spot]? = some l := ⟨_, List.getElem?_eq_getElem hspot⟩
            have it : D.item (ldD L) (.int (spot : Int)) = some (.str (strOf l)) := atI_nat (by rw [List.getElem?_map, hl]; rfl)
            rw [ldD_cur, it]
            simp only [s_blank, split_spl (show 32 < 256 by decide)]
            have ld2 : D.lst (List.map D.str (List.map strOf (spl 32 l))) = ldD (spl 32 l) := by unfold ldD; rw [List.map_map]; rfl
            rw [ld2]
            have ll := mem2 l (List.mem_of_getElem? hl)
            have lch := chr2 l (List.mem_of_getElem? hl)
            have bm := spl_sum 32 l
            have bl := spl_len 32 l
            have bne := spl_ne 32 l
            have bchr := spl_chr 32 l
            generalize spl 32 l = B at bm bl bne bchr ⊢
            have B1 : 1 ≤ B.length := by cases B with | nil => exact absurd rfl bne | cons a l => simp
            have dl1 : L.drop spot = l :: L.drop (spot + 1) := by
              obtain ⟨h1, h2⟩ := List.getElem?_eq_some_iff.mp hl
              rw [List.drop_eq_getElem_cons h1, h2]
            rw [dl1, List.map_cons, List.sum_cons] at s1
            refine ⟨rfl, rfl, sz (by rw [strOf_len]; omega), ?_⟩
            rw [ldD_len]
            refine ⟨p, B.length, n + 1, rfl, B1, by omega, gput_same, fun wh hwh => ?_⟩
            rw [gput_gput]
            refine ⟨sz (by decide), ?_⟩
            dsimp only
            rw [ldD_take]
            refine ⟨p, n, _, _, rfl, .inl rfl, by decide, by decide, gput_same, fun x hx => ?_⟩
            rw [gput_gput]
            obtain ⟨wd, rfl, wl, wc⟩ : ∃ wd : List Nat, x = .str (strOf wd) ∧ wd.length ≤ 5 ∧ ∀ c ∈ wd, c < 128 := by
              simp only [List.mem_cons, List.not_mem_nil, or_false] at hx
              rcases hx with rfl | rfl | rfl | rfl | rfl | rfl | rfl | rfl | rfl | rfl | rfl | rfl | rfl | rfl | rfl | rfl | rfl | rfl
              all_goals exact ⟨_, congrArg D.str (strOf_cps _), by decide +kernel, by decide +kernel⟩
            refine ⟨sz (by decide), ?_⟩
            have e1 : D.lst [.str (strOf wd)] = ldD [wd] := rfl
            have b1 := lt_ B wh
            rw [e1]
            refine ldD_add _ _ _ _ (by simp; omega) ?_
            refine ⟨okL_int _ _, ?_⟩
            rw [DL.lt_int]
            obtain ⟨v, hv, hv1⟩ : ∃ v : Nat, v ≤ 1 ∧ (∀ (G : GH) (Q : DQ), rIntC [.bl (decide ((5 : Int) < (w : Int)))] G Q = Q (.int (v : Nat)) G) := by
              by_cases h : (5 : Int) < (w : Int)
              · exact ⟨1, by omega, fun G Q => by rw [decide_eq_true h]; rfl⟩
              · exact ⟨0, by omega, fun G Q => by rw [decide_eq_false h]; rfl⟩
            rw [hv1, rA]
            dsimp only
            rw [show (wh : Int) + (v : Int) = ((wh + v : Nat) : Int) by omega, ldD_drop]
            have b2 := ld_ B (wh + v)
            refine ldD_add _ _ _ _ (by simp; omega) ?_
            have c1 := sum_cut B wh
            have c2 : ((B.drop (wh + v)).map fun x => x.length + 1).sum ≤ ((B.drop wh).map fun x => x.length + 1).sum := by
              have := wdr (B.drop wh) v
              rwa [List.drop_drop] at this
            have cB : ((B.take wh ++ [wd] ++ B.drop (wh + v)).map fun x => x.length + 1).sum ≤ l.length + 7 := by
              rw [List.map_append, List.sum_append, List.map_append, List.sum_append]
              simp only [List.map_cons, List.map_nil, List.sum_cons, List.sum_nil]
              omega
            have jl := Nat.le_trans (joinC_len 32 (B.take wh ++ [wd] ++ B.drop (wh + v))) cB
            have jc : ∀ k ∈ joinC 32 (B.take wh ++ [wd] ++ B.drop (wh + v)), k < 128 := joinC_chr (by decide) fun y hy => by
              rcases List.mem_append.mp hy with hy | hy
              · rcases List.mem_append.mp hy with hy | hy
                · exact fun k hk => lch k (bchr y (List.mem_of_mem_take hy) k hk)
                · rw [List.mem_singleton.mp hy]; exact wc
              · exact fun k hk => lch k (bchr y (List.mem_of_mem_drop hy) k hk)
            rw [ldD_take]
            refine ⟨rfl, rfl, ldD_join 32 _ _ _ (by omega) ⟨sz (by decide), ?_⟩⟩
            generalize joinC 32 (B.take wh ++ [wd] ++ B.drop (wh + v)) = J at jl jc ⊢
            have e2 : D.lst [.str (strOf J)] = ldD [J] := rfl
            have a1 := lt_ L spot
            have a2 := ld_ L (spot + 1)
            rw [e2]
            refine ldD_add _ _ _ _ (by simp; omega) ?_
            rw [ldD_drop]
            refine ldD_add _ _ _ _ (by simp; omega) (jf _ _ (by omega) ?_ fun y hy => ?_)
            · rw [List.map_append, List.sum_append, List.map_append, List.sum_append]
              simp only [List.map_cons, List.map_nil, List.sum_cons, List.sum_nil]
              omega
            · rcases List.mem_append.mp hy with hy | hy
              · rcases List.mem_append.mp hy with hy | hy
                · exact chr2 y (List.mem_of_mem_take hy)
                · rw [List.mem_singleton.mp hy]; exact jc
              · exact chr2 y (List.mem_of_mem_drop hy)
end
end Pace
end
section
set_option Elab.async false
set_option linter.all false
set_option maxRecDepth 100000
set_option maxHeartbeats 4000000
namespace DL
open PySem PySem.Spec PyProof.Rows L2
def spLaw (n : Nat) : SpD := fun ds G Q => ∃ ns : List Int, ds = [.scr ns] ∧ ns.length ≤ n ∧ (G = fun _ => none) ∧ ∀ G', Q (.bl true) G'
section
variable {P : Program} {w : World} {K : PySem.W.Frag} {mg mb : Str → Option Value} {k : Nat} {fa a : Addr} {fd : FuncData} {x : Str} {s₁ : Shared} {vs : List Value} {ns : List Int} {n : Nat}
theorem last_core (inn : K.In s₁.heap) (hns : s₁.heap.Ns mainGlobals mg) (hb : s₁.heap.Ns builtinsNs mb) (hbb : ∀ x : Str, x ≠ "__name__" → mb x = bootBuiltins x) (hlim : s₁.heap.NoLimit) (hg : s₁.gens = #[])
    (ha : s₁.heap.get? a = some { cls := .type "list", data := .seq vs.toArray }) (hl : ns.length ≤ n) (hr : Room k callerA)
    (Fn : ∀ base : Heap, K.In base → base.Ns mainGlobals mg → FnG P w K mg base CX0 k fa fd [x] (SpOf K (spLaw n))) (bd : ∀ (s : Shared) (u : Value), BindsTo s fd ⟨[u], []⟩ [(x, u)])
    (H : Hp) (hO : Only H) (hS : SqL K H a (ns.map V.int)) (hok : HOk P w H s₁.heap) (hA : ∀ b, H b ≠ none → b = a) (hK : H a ≠ none → K.lookup a = none) :
    codeAny (model P w) callerA (.call (.ref fa) ⟨[.ref a], []⟩) (fun r s' => r = .ok (.ret (.bool true)) ∧ OldK s₁.heap s'.heap ∧ s'.os = s₁.os ∧ AllBare s'.gens) s₁ := by
  have put : ∀ {b : Addr} {o : Obj}, s₁.heap.get? b = some o → H b = none → (hidT s₁.heap H).get? b = some o := by
    intro b o z y
    exact hidT_get z y
  have nod : ∀ {b : Addr} {o : Obj} {es : Array DictEntry} {ep : Nat}, s₁.heap.get? b = some o → o.data = .dict es ep → H b = none := by
    intro b o es ep z y
    cases q : H b with
    | none => rfl
    | some u =>
      obtain rfl : b = a := hA b (by rw [q]; simp)
      rw [ha] at z
      cases z
      exact absurd y (by intro c; cases c)
  have ns2 : ∀ {b : Addr} {m : Str → Option Value}, s₁.heap.Ns b m → (hidT s₁.heap H).Ns b m := by
    rintro b m ⟨o, es, ep, z, y, r⟩
    exact ⟨o, es, ep, put z (nod z y), y, r⟩
  have in2 : K.In (hidT s₁.heap H) := by
    intro b o z
    refine put (inn b o z) ?_
    cases q : H b with
    | none => rfl
    | some u =>
      have y : b = a := hA b (by rw [q]; simp)
      subst y
      have c := hK (by rw [q]; simp)
      rw [c] at z; cases z
  have md : Mod K mg (hidT s₁.heap H) := by
    obtain ⟨mc, l1, l2⟩ := hlim
    exact ⟨in2, ns2 hns, ⟨mb, ns2 hb, hbb⟩, ⟨mc, ns2 l1, l2⟩⟩
  have e0 : Env0 P w K mg (hidT s₁.heap H) callerA [] s₁ H := by
    refine ⟨rfl, md, fun b o z => of_hidT z, Nat.le_of_eq (hidT_size _ _), trivial, ?_, hok, .of_eq hg⟩
    intro b hb
    cases hb
  have sp0 : SpOf K (spLaw n) [.ref a] H (fun v _ => v = .bl true) (fun _ _ _ => False) := by
    refine ⟨H, fun _ => none, [.scr ns], fun d _ => d = .bl true, ⟨Ex.refl H, fun _ _ z => (nomatch z), fun _ _ _ _ _ _ _ _ _ _ z => (nomatch z)⟩, .one (.scr hS), ⟨ns, rfl, hl, rfl, fun _ => rfl⟩, ?_⟩
    intro F' H' v d G' _ _ r z
    subst z
    cases r
    rfl
  refine codeAny_mono ((Fn _ in2 (ns2 hns)).goes callerA [] s₁ H ⟨[.ref a], []⟩ [.ref a] [.ref a] _ _ rfl hr e0 (bd s₁ (.ref a)) (.cons rfl .nil) sp0) ?_
  intro r s' z
  match r, z with
  | .error er, z => exact z.elim
  | .ok .next, z => exact z.elim
  | .ok .brk, z => exact z.elim
  | .ok .cont, z => exact z.elim
  | .ok (.ret u), z =>
    obtain ⟨v, H', os, bare, un, hok', r', q⟩ := z
    have q' : v = .bl true := q
    subst q'
    obtain rfl : u = Value.bool true := r'
    refine ⟨rfl, OldK.of_keep ?_, os, bare⟩
    intro b o z
    cases q : H b with
    | none => exact un.keep b o z q (by intro c; cases c) (by simp)
    | some y =>
      rcases hO b with c | ⟨ob, xs, c⟩
      · rw [q] at c; cases c
      · have c2 := un.frzs b ob _ c
        have d1 := (hok b _ c).1
        have d2 := (hok' b _ c2).1
        rw [z] at d1
        cases d1
        exact d2
theorem last_call (inn : K.In s₁.heap) (hns : s₁.heap.Ns mainGlobals mg) (hb : s₁.heap.Ns builtinsNs mb) (hbb : ∀ x : Str, x ≠ "__name__" → mb x = bootBuiltins x) (hlim : s₁.heap.NoLimit) (hg : s₁.gens = #[])
    (ha : s₁.heap.get? a = some { cls := .type "list", data := .seq vs.toArray }) (hi : IntsAre vs ns) (hl : ns.length ≤ n) (hn : n ≤ sizeLine) (hr : Room k callerA)
    (Fn : ∀ base : Heap, K.In base → base.Ns mainGlobals mg → FnG P w K mg base CX0 k fa fd [x] (SpOf K (spLaw n))) (bd : ∀ (s : Shared) (u : Value), BindsTo s fd ⟨[u], []⟩ [(x, u)]) :
    codeAny (model P w) callerA (.call (.ref fa) ⟨[.ref a], []⟩) (fun r s' => r = .ok (.ret (.bool true)) ∧ OldK s₁.heap s'.heap ∧ s'.os = s₁.os ∧ AllBare s'.gens) s₁ := by
  have rv := vals_ints hi
  have lv := hi.length
  have hz : ns.length ≤ sizeLine := Nat.le_trans hl hn
  cases hk : K.lookup a with
  | some o =>
    have z := inn a o hk
    rw [ha] at z
    cases z
    refine last_core inn hns hb hbb hlim hg ha hl hr Fn bd (fun _ => none) (fun _ => .inl rfl) ?_ (fun b u z => (nomatch z)) (fun b z => absurd rfl z) (fun z => absurd rfl z)
    refine .inr ⟨_, vs.toArray, _, hk, rfl, rfl, rfl, ?_, by simpa using rv⟩
    rw [List.size_toArray, lv]
    exact hz
  | none =>
    let H : Hp := fun b => if b = a then some (.frz { cls := .type "list", data := .seq vs.toArray } (.lst (ns.map V.int))) else none
    have hy : H a = some (.frz { cls := .type "list", data := .seq vs.toArray } (.lst (ns.map V.int))) := if_pos rfl
    have hno : ∀ b, b ≠ a → H b = none := fun b z => if_neg z
    refine last_core inn hns hb hbb hlim hg ha hl hr Fn bd H (fun b => ?_) (.inl (.inr ⟨_, hy⟩)) (fun b u z => ?_) (fun b z => ?_) (fun _ => hk)
    · by_cases c : b = a
      · subst c; exact .inr ⟨_, _, hy⟩
      · exact .inl (hno b c)
    · by_cases c : b = a
      · subst c
        rw [hy] at z
        cases z
        exact ⟨ha, by rw [List.length_map]; exact hz, vs, _, rv, ha⟩
      · rw [hno b c] at z; cases z
    · by_cases c : b = a
      · exact c
      · exact absurd (hno b c) z
end
theorem walk_G {l : PySem.W.OpenLaw} {n k : Nat} {q : Program} {loose : List Str} {XP : (Str → Option Value) → Heap → Prop} {YP : World → Heap → Prop} {d : DefRec} {x : Str}
    (hn : l.most = some n) (hn2 : n ≤ sizeLine) (hdf : d.params.defaults = []) (hr : Room k callerA)
    (Fn : ∀ (w : World) (mg : Str → Option Value) (fa : Addr) (h : Heap), YP w h → h.Ns mainGlobals mg → mg d.name = some (.ref fa) →
      ∃ (K : PySem.W.Frag) (fd : FuncData), K.In h ∧ (∀ (s : Shared) (u : Value), BindsTo s fd ⟨[u], []⟩ [(x, u)]) ∧
        ∀ base : Heap, K.In base → base.Ns mainGlobals mg → FnG l.prog w K mg base CX0 k fa fd [x] (SpOf K (spLaw n))) :
    PySem.W.WalkO q loose XP YP l.row.toRowW d [] (fun f vs => PySem.call f vs) := by
  refine Att.attach_call hn hdf ?_
  intro w s₀ s₁ mg mb fa o pm cd doc a vs ns G Y ho hd hcd hmg hobj hints hlen hg
  obtain ⟨K, fd, inn, bd, hF⟩ := Fn w mg fa _ Y G.T.g hmg
  exact last_call inn G.T.g G.T.b G.T.builtins G.T.nolimit hg hobj hints hlen hn2 hr hF bd
end DL
end
section
set_option Elab.async false
set_option linter.all false
set_option maxRecDepth 100000
set_option maxHeartbeats 4000000
namespace Pace
open PySem PySem.Spec PyProof.Rows L2 DL
section
variable {P : Program} {w : World} {K : PySem.W.Frag} {mg : Str → Option Value} {base : Heap} {C : Addr}
theorem flatM_sum (rs : List (List Mv)) : (flatM rs).length = (rs.map List.length).sum := by
  unfold flatM
  rw [List.length_flatMap]
  have e : (List.range rs.length).map (fun s => ((rs.getD s []).map fun m => (s, m)).length) = rs.map List.length := by
    refine List.ext_getElem (by simp) fun j h1 h2 => ?_
    simp only [List.length_map] at h2
    simp only [List.getElem_map, List.getElem_range, List.length_map]
    rw [List.getD_eq_getElem?_getD, List.getElem?_eq_getElem h2]
    rfl
  rw [e]
def flatTo (rs : List (List Mv)) (i : Nat) : List (Nat × Mv) := (List.range i).flatMap fun s => (rs.getD s []).map fun m => (s, m)
def lineTo (hs ws : List Nat) (rs : List (List Mv)) (i : Nat) : List (List Nat) := joinC 32 (headW hs ws rs.length) :: (flatTo rs i).map fun x => joinC 32 (moveW x)
theorem lineTo_succ {rs : List (List Mv)} (hs ws : List Nat) {i : Nat} {r : List Mv} (h : rs[i]? = some r) : lineTo hs ws rs (i + 1) = lineTo hs ws rs i ++ r.map fun m => joinC 32 (moveW (i, m)) := by
  have eg : rs.getD i [] = r := by rw [List.getD_eq_getElem?_getD, h]; rfl
  unfold lineTo flatTo
  rw [List.range_succ, List.flatMap_append, List.map_append]
  simp [h, List.map_map, Function.comp_def]
theorem flatTo_le {rs : List (List Mv)} : ∀ {j : Nat}, (i : Nat) → (flatTo rs i).length ≤ (flatTo rs (i + j)).length
  | 0, i => Nat.le_refl _
  | j + 1, i => by
    refine Nat.le_trans (flatTo_le (j := j) i) ?_
    unfold flatTo
    rw [show i + (j + 1) = (i + j) + 1 by omega, List.range_succ, List.flatMap_append, List.length_append]
    omega
theorem lineTo_len {hs ws : List Nat} {rs : List (List Mv)} (w : Wri hs ws rs) {i : Nat} (h : i ≤ rs.length) : (lineTo hs ws rs i).length ≤ 5001 := by
  have := flatTo_le (rs := rs) (j := rs.length - i) i
  rw [show i + (rs.length - i) = rs.length by omega] at this
  have e : (flatTo rs rs.length).length ≤ 5000 := w.few
  simp only [lineTo, List.length_cons, List.length_map]
  omega
theorem linesOf_len {hs ws : List Nat} {rs : List (List Mv)} (w : Wri hs ws rs) : (linesOf hs ws rs).length ≤ 5001 := lineTo_len w (Nat.le_refl _)
theorem flat_at {rs : List (List Mv)} {i : Nat} {r : List Mv} {m : Mv} (h : rs[i]? = some r) (hm : m ∈ r) : (i, m) ∈ flatM rs := by
  have hi := (List.getElem?_eq_some_iff.mp h).1
  refine List.mem_flatMap.mpr ⟨i, List.mem_range.mpr hi, List.mem_map.mpr ⟨m, ?_, rfl⟩⟩
  rw [List.getD_eq_getElem?_getD, h]
  exact hm
theorem texts_map : ∀ l : List (List Nat), texts (l.map fun x => D.str (strOf x)) = some (l.map strOf)
  | [] => rfl
  | x :: l => by simp [texts, texts_map l]
theorem sum_mono {α : Type} {f g : α → Nat} : ∀ {l : List α}, (∀ x ∈ l, f x ≤ g x) → (l.map f).sum ≤ (l.map g).sum
  | [], _ => Nat.le_refl _
  | x :: l, h => by
    have := sum_mono (l := l) fun y hy => h y (List.mem_cons_of_mem _ hy)
    have := h x List.mem_cons_self
    simp only [List.map_cons, List.sum_cons]
    omega
theorem num1 {n : Nat} (h : n < 10) : (numS n).length = 1 := by
  have : (List.range 10).all (fun n => (numS n).length == 1) = true := by decide +kernel
  have := List.all_eq_true.mp this n (List.mem_range.mpr h)
  simpa using this
theorem wor_wri03 {top : Nat} {tot : Bool} {hs ws : List Nat} {rs : List (List Mv)} (w : Wor top tot hs ws rs) (h : top ≤ 4) : Wri hs ws rs ∧ (flatM rs).length ≤ 36 := by
  have := sum_le (B := 9) List.length (l := rs) w.row
  have hn := w.n
  have e := flatM_sum rs
  have h2 : rs.length * 9 ≤ 4 * 9 := Nat.mul_le_mul_right _ (by omega)
  exact ⟨⟨w.val, by omega⟩, by omega⟩
theorem page_ok {top : Nat} {tot : Bool} {hs ws : List Nat} {rs : List (List Mv)} (w : Wor top tot hs ws rs) (h : top ≤ 4) : (textOf hs ws rs).length ≤ 530 ∧ ∀ c ∈ textOf hs ws rs, c < 128 := by
  obtain ⟨wr, few⟩ := wor_wri03 w h
  have hn := w.n
  have n2 : rs.length < 10 := by omega
  have a1 := w.hs3
  have a2 := w.ws3
  have az1 := letters_az w.val.lh
  have az2 := letters_az w.val.lw
  have dg : ∀ k, k < 10 → ∀ c ∈ numS k, c < 128 := fun k hk c hc => by
    have := (num_ok (show k < 1000 by omega)).dig c hc
    omega
  constructor
  · have h1 := joinC_len 10 (linesOf hs ws rs)
    have h2 : (((flatM rs).map fun x => joinC 32 (moveW x)).map fun l => l.length + 1).sum ≤ (flatM rs).length * 14 := by
      rw [List.map_map]
      refine sum_le _ fun x hx => ?_
      have mp := wr.mv x hx
      have b1 := mp.s
      have b2 := mp.t
      have l1 := num1 (show x.1 < 10 by omega)
      have l2 := num1 (show x.2.t < 10 by omega)
      have := joinC_len 32 (moveW x)
      simp only [moveW, wMove, List.map_cons, List.map_nil, List.sum_cons, List.sum_nil, List.length_cons, List.length_nil, l1, l2] at this
      show (joinC 32 (moveW x)).length + 1 ≤ 14
      simp only [moveW, wMove]
      omega
    have h4 := joinC_len 32 (headW hs ws rs.length)
    have l3 := num1 n2
    have h5 : ((headW hs ws rs.length).map fun x => x.length + 1).sum ≤ 16 := by
      simp only [headW, wRules, List.map_cons, List.map_nil, List.sum_cons, List.sum_nil, List.length_cons, List.length_nil, l3]
      omega
    have h3 : (flatM rs).length * 14 ≤ 36 * 14 := Nat.mul_le_mul_right _ few
    unfold textOf
    simp only [linesOf, List.map_cons, List.sum_cons] at h1 ⊢
    omega
  · unfold textOf
    refine joinC_chr (by decide) fun l hl => ?_
    rcases List.mem_cons.mp hl with rfl | hl
    · refine joinC_chr (by decide) fun x hx => ?_
      simp only [headW, List.mem_cons, List.not_mem_nil, or_false] at hx
      rcases hx with rfl | rfl | rfl | rfl
      · decide
      · exact fun c hc => by have := az1 c hc; omega
      · exact fun c hc => by have := az2 c hc; omega
      · exact dg _ n2
    · obtain ⟨x, hx, rfl⟩ := List.mem_map.mp hl
      have mp := wr.mv x hx
      have b1 := mp.s
      have b2 := mp.t
      have c1 := az1 _ mp.h
      have c2 := az2 _ mp.c
      refine joinC_chr (by decide) fun y hy => ?_
      simp only [moveW, List.mem_cons, List.not_mem_nil, or_false] at hy
      rcases hy with rfl | rfl | rfl | rfl | rfl
      · decide
      · exact dg _ (by omega)
      · intro c hc; rw [List.mem_singleton.mp hc]; omega
      · intro c hc; rw [List.mem_singleton.mp hc]; omega
      · exact dg _ (by omega)
def some03 : List D := [D.non, D.int 0, D.bl true, D.tup [], D.lst [], .dK [], D.lst [D.str (Str.ofString "rules a b 1")],
  D.str (Str.ofString ""), D.str (Str.ofString "\n"), D.str (Str.ofString "rules a b"), D.str (Str.ofString "rules a b 0"), D.str (Str.ofString "rules a b 01"),
  D.str (Str.ofString "rules a b 1 "), D.str (Str.ofString "rules a b 1\n"), D.str (Str.ofString "rules  a b 1"), D.str (Str.ofString "rules a b 1000"), D.str (Str.ofString "rules a b 999"),
  D.str (Str.ofString "rules ba a 1"), D.str (Str.ofString "rules a - 1"),
  D.str (Str.ofString "rules a b 1\nmove 0 a b 0"), D.str (Str.ofString "rules a b 1\nmove 0 b b 0"), D.str (Str.ofString "rules a b 1\nmove 0 a b 1"),
  D.str (Str.ofString "rules a b 2\nmove 0 a b 0\nmove 0 a b 1"), D.str (Str.ofString "rules a b 2\nmove 1 a b 0\nmove 0 a b 1"),
  D.str (Str.ofString "rules a bc 1\nmove 0 a c 0\nmove 0 a b 0"), D.str (Str.ofString "rules a b 101\nmove 100 a b 99\nmove 100 a b 100")]
theorem some03_ok : ∀ d ∈ some03, (notStr d ∧ Odd 0 1 20 d) ∨ ∃ t : List Nat, d = .str (strOf t) ∧ t.length ≤ 3900 ∧ ∀ c ∈ t, c < 128 := by
  intro d hd
  simp only [some03, List.mem_cons, List.not_mem_nil, or_false] at hd
  rcases hd with rfl | rfl | rfl | rfl | rfl | rfl | rfl | rfl | rfl | rfl | rfl | rfl | rfl | rfl | rfl | rfl | rfl | rfl | rfl | rfl | rfl | rfl | rfl | rfl | rfl | rfl
  · exact .inl ⟨.inl rfl, oddP_non⟩
  · exact .inl ⟨.inr (.inl ⟨_, rfl⟩), oddP_int (by decide)⟩
  · exact .inl ⟨.inr (.inr (.inl ⟨_, rfl⟩)), oddP_bl⟩
  · exact .inl ⟨.inr (.inr (.inr (.inl rfl))), oddP_tup (by simp) (by simp [bks_nil])⟩
  · exact .inl ⟨.inr (.inr (.inr (.inr (.inl ⟨_, rfl⟩)))), oddP_lst (by simp) (by simp [bks_nil])⟩
  · exact .inl ⟨.inr (.inr (.inr (.inr (.inr rfl)))), oddP_dK⟩
  · refine .inl ⟨.inr (.inr (.inr (.inr (.inl ⟨_, rfl⟩)))), oddP_lst (fun x hx => ?_) ?_⟩
    · rw [List.mem_singleton.mp hx, strOf_cps (Str.ofString "rules a b 1")]
      exact (oddP_str (m := 0) (n := 0) (w := 11) (by decide +kernel) (by decide +kernel)).one
    · rw [strOf_cps (Str.ofString "rules a b 1"), bks_cons, bks_nil]
      have := (oddP_str (m := 0) (n := 0) (w := 11) (cs := (Str.ofString "rules a b 1").cps.toList) (by decide +kernel) (by decide +kernel)).bk
      omega
  all_goals exact .inr ⟨_, congrArg D.str (strOf_cps _), by decide +kernel, by decide +kernel⟩
abbrev N_law : List Str := ["_law_script", "_law_deck_here", "_law_go", "_law_w", "_law_lines", "_law_s", "_law_line", "_law_h", "_law_c", "_law_t", "_law_page", "_law_turn", "_law_near", "_law_some", "_law_it"]
theorem sc_law : FnScope N_law ["_law_script"] (defScope s_law) := ⟨rfl, rfl, rfl, by decide +kernel, rfl, by decide +kernel, by decide +kernel⟩
theorem c_law {f0 : Addr} {fd0 : FuncData} (T : Txt K mg C) (d : Fun K "law" "law" s_law f0 fd0) (C__law_deck : Cal P w K mg base "_law_deck" 1 ["_law_script"] (spDeck)) (C__law_world : Cal P w K mg base "_law_world" 4 ["_law_deck_here", "_law_top", "_law_is_total"] (spWorld)) (C__law_is_told : Cal P w K mg base "_law_is_told" 8 ["_law_it"] (spTold03)) (C__law_bent : Cal P w K mg base "_law_bent" 3 ["_law_deck_here", "_law_page"] (spBent03)) : FnG P w K mg base CX0 12 f0 fd0 ["_law_script"] (SpOf K (spLaw 63)) := by
  refine fn_mk (N := N_law) d sc_law (fun ds G Q h => ?_) (fun cdv A outer s H E hg hr => ?_)
  · obtain ⟨ns, rfl, _⟩ := h
    rfl
  · have hu := hu100 hr
    have nd := sc_law.nd
    have hA := deeper_guards (env := envOfC "law" (defScope s_law) s.heap.objs.size f0 cdv) hg
    refine ⟨_, (dps_cons (dp_asg (de_cal C__law_deck hA (hr.mono (by decide)) (da_cons (de_var 0) da_nil)) (dg_name 1 nd))
  (dps_cons (dp_for PassesOwn.never rfl (di_range1 rfl T.f_range (da_cons de_int da_nil)) (dg_name 2 nd)
  (dps_cons (dp_asg (de_cal C__law_world hA (hr.mono (by decide)) (da_cons (de_var 1) (da_cons de_int (da_cons de_bl da_nil)))) (dg_name 3 nd))
  (dps_cons (dp_asg (de_lstM (da_cons (de_op od_add (de_op od_add (de_op od_add (de_op od_add (de_op od_add de_str (de_ix hu (de_var 3) de_str)) de_str) (de_ix hu (de_var 3) de_str)) de_str) (de_callTy cd_strI rfl T.f_str (by decide +kernel) (da_cons (de_callB cd_len rfl T.f_len (by decide +kernel) (da_cons (de_ix hu (de_var 3) de_str) da_nil)) da_nil))) da_nil)) (dg_name 4 nd))
  (dps_cons (dp_for PassesOwn.never rfl (di_enumT rfl T.f_enumerate (da_cons (de_ix hu (de_var 3) de_str) da_nil)) (dg_tup (n := 2) rfl (dgs_cons (dg_name 5 nd) (dgs_cons (dg_name 6 nd) dgs_nil)))
  (dps_one (dp_expr (de_bm PySem.F.plainAttrs_list PySem.F.slot_list_extend PySem.F.type_list_extend md_extend (de_var 4) (da_cons (de_lc (own := [("_law_h", 7), ("_law_c", 8), ("_law_t", 9)]) (p := (.tp [7, 8, 9])) rfl nd (di_tup (de_var 6)) (blkOk_by (by show blkC N_law (defScope s_law) _ _ = true; decide +kernel)) (by decide) (fun _ _ _ _ _ => pg_tup rfl (pgs_cons (pg_name (i := 7) nd rfl (Or.inl rfl)) (pgs_cons (pg_name (i := 8) nd rfl (Or.inl rfl)) (pgs_cons (pg_name (i := 9) nd rfl (Or.inl rfl)) pgs_nil)))) (fun _ _ _ _ _ => dts_nil) (fun _ _ _ _ _ => (de_bm PySem.F.plainAttrs_str PySem.F.slot_str_join PySem.F.type_str_join md_join de_str (da_cons (de_lst (da_cons de_str (da_cons (de_callTy cd_strI rfl T.f_str (by decide +kernel) (da_cons (de_var 5) da_nil)) (da_cons (de_var 7) (da_cons (de_var 8) (da_cons (de_callTy cd_strI rfl T.f_str (by decide +kernel) (da_cons (de_var 9) da_nil)) da_nil)))))) da_nil)))) da_nil)))))
  (dps_cons (dp_asg (de_bm PySem.F.plainAttrs_str PySem.F.slot_str_join PySem.F.type_str_join md_join de_str (da_cons (de_var 4) da_nil)) (dg_name 10 nd))
  (dps_cons (dp_if (dt_not (dt_val (de_cal C__law_is_told hA (hr.mono (by decide)) (da_cons (de_var 10) da_nil))))
  (dps_one (dp_ret de_bl))
  dps_nil)
  (dps_one (dp_for PassesOwn.never rfl (di_range1 rfl T.f_range (da_cons de_int da_nil)) (dg_name 11 nd)
  (dps_cons (dp_asg (de_cal C__law_bent hA (hr.mono (by decide)) (da_cons (de_var 1) (da_cons (de_var 10) da_nil))) (dg_name 12 nd))
  (dps_one (dp_if (DW.dt (dw_or (dt_not (dt_val (de_cal C__law_is_told hA (hr.mono (by decide)) (da_cons (de_var 12) da_nil)))) (dw_or1 (dt_not (dt_val (de_cal C__law_is_told hA (hr.mono (by decide)) (da_cons (de_cal C__law_bent hA (hr.mono (by decide)) (da_cons (de_var 1) (da_cons (de_var 12) da_nil))) da_nil)))))))
  (dps_one (dp_ret de_bl))
  dps_nil)))))))))))
  (dps_cons (dp_asg (de_lst (da_cons de_non (da_cons de_int (da_cons de_bl (da_cons (de_tup da_nil) (da_cons (de_lst da_nil) (da_cons (de_cold de_newK) (da_cons (de_lst (da_cons de_str da_nil)) (da_cons de_str (da_cons de_str (da_cons de_str (da_cons de_str (da_cons de_str da_nil))))))))))))) (dg_name 13 nd))
  (dps_cons (dp_asg (de_op od_add (de_var 13) (de_lst (da_cons de_str (da_cons de_str (da_cons de_str (da_cons de_str (da_cons de_str da_nil))))))) (dg_name 13 nd))
  (dps_cons (dp_asg (de_op od_add (de_var 13) (de_lst (da_cons de_str (da_cons de_str da_nil)))) (dg_name 13 nd))
  (dps_cons (dp_asg (de_op od_add (de_var 13) (de_lst (da_cons de_str (da_cons de_str (da_cons de_str da_nil))))) (dg_name 13 nd))
  (dps_cons (dp_asg (de_op od_add (de_var 13) (de_lst (da_cons de_str (da_cons de_str da_nil)))) (dg_name 13 nd))
  (dps_cons (dp_asg (de_op od_add (de_var 13) (de_lst (da_cons de_str (da_cons de_str da_nil)))) (dg_name 13 nd))
  (dps_one (dp_ret (de_cmp (od_eqNil hu) (de_lc (own := [("_law_it", 14)]) (p := (.nm 14)) rfl nd (di_list (de_var 13)) (blkOk_by (by show blkC N_law (defScope s_law) _ _ = true; decide +kernel)) (by decide) (fun _ _ _ _ _ => pg_name (i := 14) nd rfl (Or.inl rfl)) (fun _ _ _ _ _ => (dts_one (dt_not (dt_val (de_cal C__law_is_told hA (hr.mono (by decide)) (da_cons (de_var 14) da_nil)))))) (fun _ _ _ _ _ => (de_var 14))) (de_lst da_nil) (nomark _)))))))))))), fun ds G Q h => ?_⟩
    obtain ⟨ns, rfl, hl, rfl, q⟩ := h
    rw [show dstart N_law [.scr ns] = [some (.scr ns), none, none, none, none, none, none, none, none, none, none, none, none, none, none] from rfl]
    simp only [dxs, dl]
    refine ⟨ns, rfl, (fun _ _ _ _ _ z => by cases z), fun p c hp hc hcp => ?_⟩
    simp only
    have gp0 : shutG (fun _ => none) p c "cells" "ground" "draws" 1000000 p = some (dk 1000000) := gput_same
    generalize shutG (fun _ => none) p c "cells" "ground" "draws" 1000000 = G0 at gp0
    refine ⟨by decide, by decide, fun i S' G' => ∃ (m : Nat) (x2 x3 x4 x5 x6 x7 x8 x9 x10 x11 x12 : Option D), S' = [some (.scr ns), some (.rf p), x2, x3, x4, x5, x6, x7, x8, x9, x10, x11, x12, none, none] ∧ G' p = some (dk m) ∧ 1000000 ≤ m + 1000 * i,
      ⟨1000000, none, none, none, none, none, none, none, none, none, none, none, rfl, gp0, by omega⟩, fun _ _ _ _ => trivial, ?_, ?_⟩
    · rintro i S' G' dd ⟨m, x2, x3, x4, x5, x6, x7, x8, x9, x10, x11, x12, rfl, gp, hm⟩ hd
      have hi : i < 5 := by have := (List.getElem?_eq_some_iff.mp hd).1; simpa using this
      obtain ⟨m0, rfl⟩ : ∃ m0, m = m0 + 300 := ⟨m - 300, by omega⟩
      simp only [dxs, dl]
      refine ⟨p, 4, m0, false, rfl, by decide, by decide, gp, fun hs ws rs m1 hm1 wo => ?_⟩
      have gp1 : gput G' p (dk m1) p = some (dk m1) := gput_same
      generalize gput G' p (dk m1) = G1 at gp1
      have wr := (wor_wri03 wo (by decide)).1
      have pgk := page_ok wo (by decide)
      have n2 := wr.val.n2
      have hn := num_ok (show rs.length < 1000 by omega)
      have el : rLenD [rowsD rs] = fun G Q => Q (.int (rs.length : Nat)) G := by
        funext G Q
        show Q (.int ((rs.map rowD).length : Nat)) G = _
        rw [List.length_map]
      have szB : ∀ k, k ≤ 200000 → k ≤ sizeLine := fun k h => by rw [sizeLine_eq]; omega
      have lh0 := wr.val.sh
      have lw0 := wr.val.sw
      have hl3 := hn.l3
      have hlog : ∀ k : Nat, k < 1000 → ((k : Int)).natAbs.log2 < 1920 := fun k hk => by
        rw [Int.natAbs_natCast]
        by_cases h0 : k = 0
        · rw [h0]; decide
        · have : k.log2 < 10 := (Nat.log2_lt h0).mpr (by omega)
          omega
      have lwr : wRules.length = 5 := rfl
      have lwm : wMove.length = 4 := rfl
      simp only [dxs, dl, dx3, uD_cur, uD_hs, uD_cs, uD_lines, el, rStrI, rAddD, s_rulesB, s_blank, str_num, strOf_app, strOf_len, List.length_append, List.length_cons, List.length_nil, lwr]
      refine ⟨szB _ (by omega), szB _ (by omega), szB _ (by omega), szB _ (by omega), hlog _ (by omega), szB _ (by omega), szB _ (by decide), fun pp hpp => ?_⟩
      have ppp : p ≠ pp := fun e => by rw [← e, gp1] at hpp; cases hpp
      have eh : wRules ++ [32] ++ hs ++ [32] ++ ws ++ [32] ++ numS rs.length = joinC 32 (headW hs ws rs.length) := by simp [joinC, headW]
      rw [eh]
      show ForB (List.mapIdx (fun i x => D.tup [D.int ↑i, x]) (rs.map rowD)) _ _ _ _ _ _
      refine ⟨fun i S' G' => ∃ (y2 : D) (x5 x6 x7 x8 x9 x10 x11 x12 : Option D), S' = [some (.scr ns), some (.rf p), some y2, some (uD hs ws rs), some (.rf pp), x5, x6, x7, x8, x9, x10, x11, x12, none, none] ∧ G' = gput G1 pp (.lst ((lineTo hs ws rs i).map fun l => .str (strOf l))) ∧ i ≤ rs.length,
        ⟨_, _, _, _, _, _, _, _, _, rfl, rfl, Nat.zero_le _⟩, fun _ _ _ _ => trivial, ?_, ?_⟩
      · rintro i2 S' G' dd ⟨y2, x5, x6, x7, x8, x9, x10, x11, x12, rfl, rfl, hi2⟩ hd
        rw [List.getElem?_mapIdx, List.getElem?_map] at hd
        cases er : rs[i2]? with
        | none => rw [er] at hd; cases hd
        | some r =>
          rw [er] at hd
          cases hd
          have hi3 : i2 < rs.length := (List.getElem?_eq_some_iff.mp er).1
          have hrl := (wr.val.row r (List.mem_of_getElem? er)).2
          have nxt := lineTo_succ hs ws er
          simp only [dxs, dl, rowD, beq_self_eq_true, true_and]
          refine lc_mapA r Mv.d (fun m => .str (strOf (joinC 32 (moveW (i2, m))))) rfl (sz (by omega)) trivial (fun m hm => ⟨_, rfl, fun Q z => ?_⟩) ?_
          · have mp := wr.mv (i2, m) (flat_at er hm)
            have mt : m.t < rs.length := mp.t
            have nt := num_ok (show m.t < 1000 by omega)
            have ni := num_ok (show i2 < 1000 by omega)
            have k1 := nt.l3
            have k2 := ni.l3
            have g1 : ∀ c, sgn c = strOf [c] := fun _ => rfl
            have ej : Txt.join (strOf [32]) [strOf wMove, strOf (numS i2), strOf [m.h], strOf [m.c], strOf (numS m.t)] = strOf (joinC 32 (moveW (i2, m))) := join_strOf 32 (moveW (i2, m))
            simp only [dxs, dl, dwipe, List.map_cons, List.map_nil, Mv.d, rStrI, rJoinD, texts, Option.map_some, s_move, s_blank, str_num, g1, strOf_len, List.length_append, List.length_cons, List.length_nil, lwm, ej, List.sum_cons, List.sum_nil]
            exact ⟨rfl, hlog _ (by omega), hlog _ (by omega), szB _ (by decide), by omega, z⟩
          · have hb := lineTo_len wr (show i2 + 1 ≤ rs.length by omega)
            rw [nxt] at hb
            simp only [List.length_append, List.length_map] at hb
            simp only [rExtendD, dxs, dl, gput_gput]
            refine ⟨szB _ (by simp only [List.length_map]; omega), _, _, _, _, _, _, _, _, _, rfl, ?_, by omega⟩
            rw [nxt, List.map_append, List.map_map]
            rfl
      · rintro S' G' ⟨y2, x5, x6, x7, x8, x9, x10, x11, x12, rfl, rfl, hi2⟩
        have hlm : (List.mapIdx (fun i x => D.tup [D.int ↑i, x]) (rs.map rowD)).length = rs.length := by simp
        rw [hlm]
        have ell : lineTo hs ws rs rs.length = linesOf hs ws rs := rfl
        rw [ell]
        have et : texts ((linesOf hs ws rs).map fun l => D.str (strOf l)) = some ((linesOf hs ws rs).map strOf) := texts_map _
        have hs1 : (((linesOf hs ws rs).map strOf).map (·.length)).sum ≤ 200000 := by
          rw [List.map_map]
          have h1 := lines_sum wr
          have h2 : ((linesOf hs ws rs).map fun l => l.length).sum ≤ ((linesOf hs ws rs).map fun l => l.length + 1).sum := sum_mono fun x _ => Nat.le_succ _
          have h3 : ((linesOf hs ws rs).map ((fun x : Str => x.length) ∘ strOf)) = (linesOf hs ws rs).map fun l => l.length := by
            refine List.map_congr_left fun l _ => strOf_len l
          rw [h3]
          omega
        have hs2 := linesOf_len wr
        have gp2 : gput G1 pp (.lst ((linesOf hs ws rs).map fun l => .str (strOf l))) p = some (dk m1) := by rw [gput_ne ppp]; exact gp1
        have gpp2 : gput G1 pp (.lst ((linesOf hs ws rs).map fun l => .str (strOf l))) pp = some (.lst ((linesOf hs ws rs).map fun l => .str (strOf l))) := gput_same
        generalize gput G1 pp (.lst ((linesOf hs ws rs).map fun l => .str (strOf l))) = G2 at gp2 gpp2
        have etx : strOf (joinC 10 (linesOf hs ws rs)) = strOf (textOf hs ws rs) := rfl
        simp only [rJoinD, dxs, dl, gpp2, et, s_break, join_strOf, List.length_map, strOf_len, List.length_cons, List.length_nil, etx]
        refine ⟨rfl, by omega, _, rfl, .inr ⟨_, rfl, by have := pgk.1; omega, pgk.2⟩, ?_⟩
        generalize textOf hs ws rs = T at pgk
        simp only [Bool.not_true, Bool.false_eq_true, if_false, dxs, dl]
        obtain ⟨m2, rfl⟩ : ∃ m2, m1 = m2 + 100 := ⟨m1 - 100, by omega⟩
        refine ⟨by decide, by decide, fun j S' G' => ∃ (mm : Nat) (z2 z3 z4 : D) (x5 x6 x7 x8 x9 x11 x12 : Option D), S' = [some (.scr ns), some (.rf p), some z2, some z3, some z4, x5, x6, x7, x8, x9, some (.str (strOf T)), x11, x12, none, none] ∧ G' p = some (dk mm) ∧ m2 + 100 ≤ mm + 20 * j,
          ⟨m2 + 100, _, _, _, _, _, _, _, _, _, _, rfl, gp2, by omega⟩, fun _ _ _ _ => trivial, ?_, ?_⟩
        · rintro j S' G' dd ⟨mm, z2, z3, z4, x5, x6, x7, x8, x9, x11, x12, rfl, gp3, hmm⟩ hd
          have hj : j < 4 := by have := (List.getElem?_eq_some_iff.mp hd).1; simpa using this
          obtain ⟨mn, rfl⟩ : ∃ mn, mm = mn + 12 := ⟨mm - 12, by omega⟩
          simp only [dxs, dl]
          refine ⟨p, T, mn + 6, rfl, by have := pgk.1; omega, pgk.2, gp3, fun u m3 hm3 hu hc => ?_⟩
          simp only [dxs, dl]
          have gp4 : gput G' p (dk m3) p = some (dk m3) := gput_same
          generalize gput G' p (dk m3) = G4 at gp4
          obtain ⟨m4, rfl⟩ : ∃ m4, m3 = m4 + 6 := ⟨m3 - 6, by omega⟩
          have l1 := pgk.1
          refine ⟨_, rfl, .inr ⟨_, rfl, by omega, hc⟩, ?_⟩
          simp only [Bool.not_true, Bool.false_eq_true, if_false, dxs, dl]
          refine ⟨p, u, m4, rfl, by omega, hc, gp4, fun v m5 hm5 hv hc2 => ?_⟩
          refine ⟨_, rfl, .inr ⟨_, rfl, by omega, hc2⟩, ?_⟩
          simp only [Bool.not_true, Bool.false_eq_true, if_false, dxs, dl]
          exact ⟨m5, _, _, _, _, _, _, _, _, _, _, rfl, rfl, by omega⟩
        · rintro S' G' ⟨mm, z2, z3, z4, x5, x6, x7, x8, x9, x11, x12, rfl, gp3, hmm⟩
          exact ⟨mm, _, _, _, _, _, _, _, _, _, _, _, rfl, gp3, by simp at hmm; omega⟩
    · rintro S' G' ⟨m, x2, x3, x4, x5, x6, x7, x8, x9, x10, x11, x12, rfl, gp, hm⟩
      simp only [dxs, dl]
      refine ⟨Nat.zero_le _, Nat.zero_le _, fun z hz => ?_⟩
      show _ ∧ _ ∧ _ ∧ _
      have ra : ∀ (xs ys : List D) (G : GH) (Q : DQ), xs.length + ys.length ≤ 5000 → Q (.lst (xs ++ ys)) G → rAddD (.lst xs) (.lst ys) G Q := fun _ _ _ _ h z => ⟨sz h, z⟩
      generalize gdel _ _ = G5
      refine ⟨sz (by decide), sz (by decide), sz (by decide), ra _ _ _ _ (by decide) ?_⟩
      refine ⟨sz (by decide), ra _ _ _ _ (by decide) ⟨sz (by decide), ra _ _ _ _ (by decide) ⟨sz (by decide), ra _ _ _ _ (by decide) ⟨sz (by decide), ra _ _ _ _ (by decide) ?_⟩⟩⟩⟩
      refine lc_someA some03 id (fun _ => false) id rfl (sz (by decide)) trivial (fun d hd => ⟨_, rfl, fun Q z => ?_, fun h => by cases h⟩) ?_
      · simp only [dxs, dl, dwipe, List.map_cons, List.map_nil]
        exact ⟨d, rfl, some03_ok d hd, z⟩
      · refine ⟨Nat.zero_le _, ?_⟩
        have ef : (some03.filter fun _ => false) = [] := by simp
        rw [ef]
        exact ⟨_, Sub.refl _, q _⟩
end
end Pace
end
section
set_option Elab.async false
set_option linter.all false
set_option maxRecDepth 100000
set_option maxHeartbeats 0
namespace Pace
open PySem PySem.Spec PyProof.Rows L2 DL
theorem htxt {K : PySem.W.Frag} {h : Heap} {mg : Str → Option Value} (X : K.In h) (G : h.Ns mainGlobals mg) (c : He.SaysD hfa hfn K) (cx : hex0 K = true) (ck : hkup K = true) : Txt K mg (He.ga K "Rules") where
  f_Exception := He.free_ok X G (c.fact 31 (f := .free "Exception") rfl)
  f_classmethod := He.free_ok X G (c.fact 32 (f := .free "classmethod") rfl)
  f_all := He.free_ok X G (c.fact 33 (f := .free "all") rfl)
  f_enumerate := He.free_ok X G (c.fact 34 (f := .free "enumerate") rfl)
  f_dict := He.free_ok X G (c.fact 35 (f := .free "dict") rfl)
  f_tuple := He.free_ok X G (c.fact 36 (f := .free "tuple") rfl)
  f_range := He.free_ok X G (c.fact 37 (f := .free "range") rfl)
  f_isinstance := He.free_ok X G (c.fact 38 (f := .free "isinstance") rfl)
  f_str := He.free_ok X G (c.fact 39 (f := .free "str") rfl)
  f_int := He.free_ok X G (c.fact 40 (f := .free "int") rfl)
  f_len := He.free_ok X G (c.fact 41 (f := .free "len") rfl)
  f_sorted := He.free_ok X G (c.fact 42 (f := .free "sorted") rfl)
  f_list := He.free_ok X G (c.fact 43 (f := .free "list") rfl)
  f_repr := He.free_ok X G (c.fact 44 (f := .free "repr") rfl)
  f_bool := He.free_ok X G (c.fact 45 (f := .free "bool") rfl)
  f_set := He.free_ok X G (c.fact 46 (f := .free "set") rfl)
  f_super := He.free_ok X G (c.fact 47 (f := .free "super") rfl)
  f_zip := He.free_ok X G (c.fact 48 (f := .free "zip") rfl)
  f_min := He.free_ok X G (c.fact 49 (f := .free "min") rfl)
  c_RULES_WORD := He.str_ok X G (c.fact 50 (f := .str "RULES_WORD" "rules") rfl)
  c_MOVE_WORD := He.str_ok X G (c.fact 51 (f := .str "MOVE_WORD" "move") rfl)
  c_BREAK := He.str_ok X G (c.fact 52 (f := .str "BREAK" "\n") rfl)
  c_BLANK := He.str_ok X G (c.fact 53 (f := .str "BLANK" " ") rfl)
  c_DIGITS := He.str_ok X G (c.fact 54 (f := .str "DIGITS" "0123456789") rfl)
  c_MOST_DIGITS := He.int_ok X G (c.fact 55 (f := .int "MOST_DIGITS" (3)) rfl)
  c_FIRST_PARTS := He.int_ok X G (c.fact 56 (f := .int "FIRST_PARTS" (4)) rfl)
  c_MOVE_PARTS_ruletexts := He.int_ok X G (c.fact 57 (f := .int "MOVE_PARTS_ruletexts" (5)) rfl)
  c_LETTERS := He.str_ok X G (c.fact 58 (f := .str "LETTERS" "abcdefghijklmnopqrstuvwxyz") rfl)
  c_MOST_STATES := He.int_ok X G (c.fact 59 (f := .int "MOST_STATES" (999)) rfl)
  c_MOVE_PARTS_rules := He.int_ok X G (c.fact 60 (f := .int "MOVE_PARTS_rules" (3)) rfl)
  c_NOWHERE := He.int_ok X G (c.fact 61 (f := .int "NOWHERE" (-1)) rfl)
  clR := He.cls_ok (c.fact 63 (f := .cls "Rules") rfl)
  mgR := He.glo_ok X G (c.fact 62 (f := .glo "Rules") rfl)
  insR := insB_ok (He.cls_ok (c.fact 63 (f := .cls "Rules") rfl)) (Bool.and_eq_true_iff.mp (Bool.and_eq_true_iff.mp cx).1).1
  neR := neB_ok (Bool.and_eq_true_iff.mp (Bool.and_eq_true_iff.mp cx).1).2
  sysM := sysB_ok (Bool.and_eq_true_iff.mp (Bool.and_eq_true_iff.mp (Bool.and_eq_true_iff.mp cx).2).1).1
  no_heard := He.noat_ok (c.fact 65 (f := .noat "Rules" "heard") rfl)
  no_written := He.noat_ok (c.fact 66 (f := .noat "Rules" "written") rfl)
  no_rows := He.noat_ok (c.fact 67 (f := .noat "Rules" "rows") rfl)
  no_steps := He.noat_ok (c.fact 68 (f := .noat "Rules" "steps") rfl)
theorem hd_is_integer {K : PySem.W.Frag} {h : Heap} {mg : Str → Option Value} (X : K.In h) (G : h.Ns mainGlobals mg) (c : He.SaysD hfa hfn K) : Def K mg "is_integer" s_is_integer := by
  obtain ⟨fd, F⟩ := c.def_ 7 (d := d_is_integer) rfl
  exact ⟨_, fd, He5.fun_of F, He.glo_ok X G (c.fact 7 (f := .glo "is_integer") rfl)⟩
theorem hd_is_letter_of {K : PySem.W.Frag} {h : Heap} {mg : Str → Option Value} (X : K.In h) (G : h.Ns mainGlobals mg) (c : He.SaysD hfa hfn K) : Def K mg "is_letter_of" s_is_letter_of := by
  obtain ⟨fd, F⟩ := c.def_ 8 (d := d_is_letter_of) rfl
  exact ⟨_, fd, He5.fun_of F, He.glo_ok X G (c.fact 8 (f := .glo "is_letter_of") rfl)⟩
theorem hd_are_letters {K : PySem.W.Frag} {h : Heap} {mg : Str → Option Value} (X : K.In h) (G : h.Ns mainGlobals mg) (c : He.SaysD hfa hfn K) : Def K mg "are_letters" s_are_letters := by
  obtain ⟨fd, F⟩ := c.def_ 1 (d := d_are_letters) rfl
  exact ⟨_, fd, He5.fun_of F, He.glo_ok X G (c.fact 1 (f := .glo "are_letters") rfl)⟩
theorem hd_is_move {K : PySem.W.Frag} {h : Heap} {mg : Str → Option Value} (X : K.In h) (G : h.Ns mainGlobals mg) (c : He.SaysD hfa hfn K) : Def K mg "is_move" s_is_move := by
  obtain ⟨fd, F⟩ := c.def_ 9 (d := d_is_move) rfl
  exact ⟨_, fd, He5.fun_of F, He.glo_ok X G (c.fact 9 (f := .glo "is_move") rfl)⟩
theorem hd_is_row {K : PySem.W.Frag} {h : Heap} {mg : Str → Option Value} (X : K.In h) (G : h.Ns mainGlobals mg) (c : He.SaysD hfa hfn K) : Def K mg "is_row" s_is_row := by
  obtain ⟨fd, F⟩ := c.def_ 10 (d := d_is_row) rfl
  exact ⟨_, fd, He5.fun_of F, He.glo_ok X G (c.fact 10 (f := .glo "is_row") rfl)⟩
theorem hd_steps_of {K : PySem.W.Frag} {h : Heap} {mg : Str → Option Value} (X : K.In h) (G : h.Ns mainGlobals mg) (c : He.SaysD hfa hfn K) : Def K mg "steps_of" s_steps_of := by
  obtain ⟨fd, F⟩ := c.def_ 11 (d := d_steps_of) rfl
  exact ⟨_, fd, He5.fun_of F, He.glo_ok X G (c.fact 11 (f := .glo "steps_of") rfl)⟩
theorem hd_Rules_u__init_u_ {K : PySem.W.Frag} (c : He.SaysD hfa hfn K) : DefI K (He.ga K "Rules") "Rules.__init__" s_Rules_u__init_u_ := by
  obtain ⟨fd, F⟩ := c.def_ 31 (d := d_RI) rfl
  exact ⟨_, fd, He5.fun_of F, He.mkr_ok (c.fact 64 (f := .mkr "Rules") rfl)⟩
theorem hd__law_draw {K : PySem.W.Frag} {h : Heap} {mg : Str → Option Value} (X : K.In h) (G : h.Ns mainGlobals mg) (c : He.SaysD hfa hfn K) : Def K mg "_law_draw" s__law_draw := by
  obtain ⟨fd, F⟩ := c.def_ 20 (d := d__law_draw) rfl
  exact ⟨_, fd, He5.fun_of F, He.glo_ok X G (c.fact 20 (f := .glo "_law_draw") rfl)⟩
theorem hd__law_pick {K : PySem.W.Frag} {h : Heap} {mg : Str → Option Value} (X : K.In h) (G : h.Ns mainGlobals mg) (c : He.SaysD hfa hfn K) : Def K mg "_law_pick" s__law_pick := by
  obtain ⟨fd, F⟩ := c.def_ 21 (d := d__law_pick) rfl
  exact ⟨_, fd, He5.fun_of F, He.glo_ok X G (c.fact 21 (f := .glo "_law_pick") rfl)⟩
theorem hd__law_deck {K : PySem.W.Frag} {h : Heap} {mg : Str → Option Value} (X : K.In h) (G : h.Ns mainGlobals mg) (c : He.SaysD hfa hfn K) : Def K mg "_law_deck" s__law_deck := by
  obtain ⟨fd, F⟩ := c.def_ 19 (d := d__law_deck) rfl
  exact ⟨_, fd, He5.fun_of F, He.glo_ok X G (c.fact 19 (f := .glo "_law_deck") rfl)⟩
theorem hd__law_signs {K : PySem.W.Frag} {h : Heap} {mg : Str → Option Value} (X : K.In h) (G : h.Ns mainGlobals mg) (c : He.SaysD hfa hfn K) : Def K mg "_law_signs" s__law_signs := by
  obtain ⟨fd, F⟩ := c.def_ 22 (d := d__law_signs) rfl
  exact ⟨_, fd, He5.fun_of F, He.glo_ok X G (c.fact 22 (f := .glo "_law_signs") rfl)⟩
theorem hd__law_world {K : PySem.W.Frag} {h : Heap} {mg : Str → Option Value} (X : K.In h) (G : h.Ns mainGlobals mg) (c : He.SaysD hfa hfn K) : Def K mg "_law_world" s__law_world := by
  obtain ⟨fd, F⟩ := c.def_ 23 (d := d__law_world) rfl
  exact ⟨_, fd, He5.fun_of F, He.glo_ok X G (c.fact 23 (f := .glo "_law_world") rfl)⟩
theorem hd_number_in {K : PySem.W.Frag} {h : Heap} {mg : Str → Option Value} (X : K.In h) (G : h.Ns mainGlobals mg) (c : He.SaysD hfa hfn K) : Def K mg "number_in" s_number_in := by
  obtain ⟨fd, F⟩ := c.def_ 2 (d := d_number_in) rfl
  exact ⟨_, fd, He5.fun_of F, He.glo_ok X G (c.fact 2 (f := .glo "number_in") rfl)⟩
theorem hd_first_line {K : PySem.W.Frag} {h : Heap} {mg : Str → Option Value} (X : K.In h) (G : h.Ns mainGlobals mg) (c : He.SaysD hfa hfn K) : Def K mg "first_line" s_first_line := by
  obtain ⟨fd, F⟩ := c.def_ 4 (d := d_first_line) rfl
  exact ⟨_, fd, He5.fun_of F, He.glo_ok X G (c.fact 4 (f := .glo "first_line") rfl)⟩
theorem hd_move_line {K : PySem.W.Frag} {h : Heap} {mg : Str → Option Value} (X : K.In h) (G : h.Ns mainGlobals mg) (c : He.SaysD hfa hfn K) : Def K mg "move_line" s_move_line := by
  obtain ⟨fd, F⟩ := c.def_ 5 (d := d_move_line) rfl
  exact ⟨_, fd, He5.fun_of F, He.glo_ok X G (c.fact 5 (f := .glo "move_line") rfl)⟩
theorem hd_parts_in {K : PySem.W.Frag} {h : Heap} {mg : Str → Option Value} (X : K.In h) (G : h.Ns mainGlobals mg) (c : He.SaysD hfa hfn K) : Def K mg "parts_in" s_parts_in := by
  obtain ⟨fd, F⟩ := c.def_ 6 (d := d_parts_in) rfl
  exact ⟨_, fd, He5.fun_of F, He.glo_ok X G (c.fact 6 (f := .glo "parts_in") rfl)⟩
theorem hd_Rules_read {K : PySem.W.Frag} (cx : hex0 K = true) (ce : fnA K (cmG K (He.ga K "Rules") "read") = d_Rules_read.val) : DefC K (He.ga K "Rules") "read" "Rules.read" s_Rules_read := by
  have h := Bool.and_eq_true_iff.mp (Bool.and_eq_true_iff.mp (Bool.and_eq_true_iff.mp (Bool.and_eq_true_iff.mp cx).2).1).2
  obtain ⟨fd, F⟩ := funA ce h.2
  obtain ⟨cr, cm⟩ := cmB_ok h.1
  exact ⟨_, _, _, fd, He5.fun_of F, cr, cm⟩
theorem hd__law_number {K : PySem.W.Frag} {h : Heap} {mg : Str → Option Value} (X : K.In h) (G : h.Ns mainGlobals mg) (c : He.SaysD hfa hfn K) : Def K mg "_law_number" s__law_number := by
  obtain ⟨fd, F⟩ := c.def_ 24 (d := d__law_number) rfl
  exact ⟨_, fd, He5.fun_of F, He.glo_ok X G (c.fact 24 (f := .glo "_law_number") rfl)⟩
theorem hd__law_is_ascending {K : PySem.W.Frag} {h : Heap} {mg : Str → Option Value} (X : K.In h) (G : h.Ns mainGlobals mg) (c : He.SaysD hfa hfn K) : Def K mg "_law_is_ascending" s__law_is_ascending := by
  obtain ⟨fd, F⟩ := c.def_ 25 (d := d__law_is_ascending) rfl
  exact ⟨_, fd, He5.fun_of F, He.glo_ok X G (c.fact 25 (f := .glo "_law_is_ascending") rfl)⟩
theorem hd__law_read {K : PySem.W.Frag} {h : Heap} {mg : Str → Option Value} (X : K.In h) (G : h.Ns mainGlobals mg) (c : He.SaysD hfa hfn K) : Def K mg "_law_read" s__law_read := by
  obtain ⟨fd, F⟩ := c.def_ 26 (d := d__law_read) rfl
  exact ⟨_, fd, He5.fun_of F, He.glo_ok X G (c.fact 26 (f := .glo "_law_read") rfl)⟩
theorem hd__law_heard {K : PySem.W.Frag} {h : Heap} {mg : Str → Option Value} (X : K.In h) (G : h.Ns mainGlobals mg) (c : He.SaysD hfa hfn K) : Def K mg "_law_heard" s__law_heard := by
  obtain ⟨fd, F⟩ := c.def_ 27 (d := d__law_heard) rfl
  exact ⟨_, fd, He5.fun_of F, He.glo_ok X G (c.fact 27 (f := .glo "_law_heard") rfl)⟩
theorem hd__law_is_told {K : PySem.W.Frag} {h : Heap} {mg : Str → Option Value} (X : K.In h) (G : h.Ns mainGlobals mg) (c : He.SaysD hfa hfn K) : Def K mg "_law_is_told" s__law_is_told := by
  obtain ⟨fd, F⟩ := c.def_ 28 (d := d__law_is_told) rfl
  exact ⟨_, fd, He5.fun_of F, He.glo_ok X G (c.fact 28 (f := .glo "_law_is_told") rfl)⟩
theorem hd__law_bent {K : PySem.W.Frag} {h : Heap} {mg : Str → Option Value} (X : K.In h) (G : h.Ns mainGlobals mg) (c : He.SaysD hfa hfn K) : Def K mg "_law_bent" s__law_bent := by
  obtain ⟨fd, F⟩ := c.def_ 29 (d := d__law_bent) rfl
  exact ⟨_, fd, He5.fun_of F, He.glo_ok X G (c.fact 29 (f := .glo "_law_bent") rfl)⟩
theorem hfacts {P : Program} {w : World} {K : PySem.W.Frag} {h : Heap} {mg : Str → Option Value} {f : Addr} (X : K.In h) (G : h.Ns mainGlobals mg) (hfa0 : mg ("law" : Str) = some (.ref f)) (c : He.SaysD hfa hfn K) (cx : hex0 K = true) (ck : hkup K = true) (ce : fnA K (cmG K (He.ga K "Rules") "read") = d_Rules_read.val) (cy : (hys.map fun p => fnXo K (p.1 K)) = hys.map Prod.snd) (hP : P.main.file = hfl) (hT : (P.main.scope.names.lookup ("super" : Str)).isSome = false) :
    ∃ fd : FuncData, (∀ (s : Shared) (v : Value), BindsTo s fd ⟨[v], []⟩ [("_law_script", v)]) ∧ ∀ base : Heap, K.In base → base.Ns mainGlobals mg → FnG P w K mg base CX0 12 f fd ["_law_script"] (SpOf K (spLaw 63)) := by
  obtain ⟨fd, F⟩ := c.def_ 30 (d := d_law) rfl
  have e := hfa0.symm.trans (He.glo_ok X G (c.fact 30 (f := .glo "law") rfl))
  cases e
  have b := FunD.bindsA (ps := ["_law_script"]) F fun _ _ _ _ _ _ us hl => match us, hl with | [_], _ => rfl
  have T := htxt X G c cx ck
  refine ⟨fd, fun s v => b s [v] rfl, fun base _ _ => ?_⟩
  have hee := (Bool.and_eq_true_iff.mp (Bool.and_eq_true_iff.mp cx).2).2
  simp only [Bool.and_eq_true] at hee
  obtain ⟨hb_BadText, hi_BadText, ha_BadText, hf_BadText⟩ := hee
  have Er : ErT P K mg := { mg_CaptionError := He.glo_ok X G (c.fact 69 (f := .glo "CaptionError") rfl), e_BadText := ⟨by
      obtain ⟨cc, cda, kV, doc, pm, ct, an, z⟩ := err_ok (d := dE_BadText) hb_BadText (ysX cy 1 (p := ((fun K => eI K "BadText"), dE_BadText.val)) rfl)
      exact ⟨_, cc, cda, kV, doc, pm, ct, an, hP ▸ z⟩, He.glo_ok X G (c.fact 70 (f := .glo "BadText") rfl), T.f_super, hT⟩, i_BadText := isEB_ok hi_BadText, a_BadText := xattB_ok ha_BadText, f_BadText := xfB_ok hf_BadText }
  have q_is_integer := c_is_integer (P := P) (w := w) (base := base) T (hd_is_integer X G c)
  have q_is_letter_of := c_is_letter_of (P := P) (w := w) (base := base) T (hd_is_letter_of X G c)
  have q_are_letters := c_are_letters (P := P) (w := w) (base := base) T (hd_are_letters X G c)
  have q_is_move := c_is_move (P := P) (w := w) (base := base) T (hd_is_move X G c) q_is_letter_of q_is_integer
  have q_is_row := c_is_row (P := P) (w := w) (base := base) T (hd_is_row X G c) q_is_move
  have q_steps_of := c_steps_of (P := P) (w := w) (base := base) T (hd_steps_of X G c)
  have q_Rules_u__init_u_ := c_Rules_u__init_u_ (P := P) (w := w) (base := base) T (hd_Rules_u__init_u_ c) q_are_letters q_is_row q_steps_of
  have q__law_draw := c__law_draw (P := P) (w := w) (base := base) T (hd__law_draw X G c)
  have q__law_pick := c__law_pick (P := P) (w := w) (base := base) T (hd__law_pick X G c) q__law_draw
  have q__law_deck := c__law_deck (P := P) (w := w) (base := base) T (hd__law_deck X G c)
  have q__law_signs := c__law_signs (P := P) (w := w) (base := base) T (hd__law_signs X G c) q__law_pick q__law_draw
  have q__law_world := c__law_world (P := P) (w := w) (base := base) T (hd__law_world X G c) q__law_signs q__law_pick q__law_draw
  have q_number_in := c_number_in (P := P) (w := w) (base := base) T (hd_number_in X G c)
  have q_first_line := c_first_line (P := P) (w := w) (base := base) T (hd_first_line X G c) q_number_in q_are_letters
  have q_move_line := c_move_line (P := P) (w := w) (base := base) T (hd_move_line X G c) q_number_in
  have qx_parts_in := x_parts_in (P := P) (w := w) (base := base) T (hd_parts_in X G c) Er q_first_line q_move_line
  have qx_Rules_read := x_Rules_read (P := P) (w := w) (base := base) T (hd_Rules_read cx ce) Er qx_parts_in q_Rules_u__init_u_
  have q__law_number := c__law_number (P := P) (w := w) (base := base) T (hd__law_number X G c)
  have q__law_is_ascending := c__law_is_ascending (P := P) (w := w) (base := base) T (hd__law_is_ascending X G c)
  have q__law_read := c__law_read (P := P) (w := w) (base := base) T (hd__law_read X G c) q__law_number q__law_is_ascending
  have q__law_heard := c__law_heard (P := P) (w := w) (base := base) T (hd__law_heard X G c) Er qx_Rules_read.1 qx_Rules_read.2
  have q__law_is_told := c__law_is_told (P := P) (w := w) (base := base) T (hd__law_is_told X G c) q__law_read q__law_heard
  have q__law_bent := c__law_bent (P := P) (w := w) (base := base) T (hd__law_bent X G c) q__law_draw q__law_pick
  exact c_law (P := P) (w := w) (base := base) T (He5.fun_of F) q__law_deck q__law_world q__law_is_told q__law_bent
end Pace
open PySem PySem.W PySem.Calls PyProof.Rows
theorem PySem.Challenge.cw_pacehouse_k03_texts_that_are_no_rules_holds : PySem.Challenge.rw_pacehouse_k03_texts_that_are_no_rules.Holds := by
  w_on; o_law
  refine HandSHeadRun.head_any (r := OpenLaw.row PySem.Challenge.rw_pacehouse_k03_texts_that_are_no_rules) (q := view (OpenLaw.row PySem.Challenge.rw_pacehouse_k03_texts_that_are_no_rules).prog [51]) (H := Pace.hhk) (ob := Pace.hob) (M := 20000) (loose := Pace.hnm) (d := HandSHeadRun.topDef (OpenLaw.row PySem.Challenge.rw_pacehouse_k03_texts_that_are_no_rules).prog 51) (kwd := []) Pace.hob_eq
    (by kernel_rfl) (fun s => by kernel_rfl) Pace.hrun (by kernel_rfl) (by kernel_rfl) (by kernel_rfl) (by rfl) (by first | assumption | decide +kernel) (by decide +kernel) ⟨rfl, rfl, rfl, rfl, rfl, by decide +kernel⟩ ?hw ?hc
  case hw => w_witness2
  case hc =>
    refine DL.walk_G (l := PySem.Challenge.rw_pacehouse_k03_texts_that_are_no_rules) (n := 63) (k := 12) (x := "_law_script") rfl (by decide) (by kernel_rfl) ⟨rfl, by decide, by decide⟩ ?F
    intro w mg fa h Y G hmg0
    obtain ⟨K, KX, c, cxx, cy⟩ := Y
    have cx := (Bool.and_eq_true_iff.mp cxx).1
    have ck := (Bool.and_eq_true_iff.mp cxx).2
    have ce := DL.fnVal_ok (DL.ysX cy 0 (p := ((fun K => DL.cmG K (He.ga K "Rules") "read"), DL.fnVal Pace.d_Rules_read)) rfl)
    have hmg : mg ("law" : PySem.Str) = some (.ref fa) := by
      have e : (HandSHeadRun.topDef (OpenLaw.row PySem.Challenge.rw_pacehouse_k03_texts_that_are_no_rules).prog 51).name = ("law" : PySem.Str) := by kernel_rfl
      rw [← e]
      exact hmg0
    obtain ⟨fd, hb, hF⟩ := Pace.hfacts (P := (PySem.Challenge.rw_pacehouse_k03_texts_that_are_no_rules).prog) (w := w) KX G hmg c cx ck ce cy rfl (by kernel_rfl)
    exact ⟨K, fd, KX, hb, hF⟩
end
