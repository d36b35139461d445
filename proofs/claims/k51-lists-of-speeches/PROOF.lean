import PyProof.Rows.All
import Wide.All
import OpenK.AllK
import Wide.FinOn
import KE.KStateDown
import Lean
import HandS.ForMost
import HandS.ForExc
import KE.KDictKeyed
import KE.DataCmp
import KE.DataEq
import KE.DataFind
import KE.DataIsa
import KE.SortData
import HandS.TupAny
import HandS.TupLen
import HandS.Conv
import HandS.IsInst
import HandS.Text
import HandS.Sort
import HandS.More
import HandS.Zip
import HandS.Style
import KE.GoesEnum
import KE.GoesZip
import KE.GoesMore
import KE.KDictDisplayH
import PyProof.ReprRoads
import HandS.SetFor
import HandS.Strs
import HandS.Set
import KE.KDictPairs
import HandS.ListItems
import HandS.Codes
import HandS.HeadHook1
import HandS.HeadHook2
import KE.KDictZip
import PyProof.InstSpecial
import PyProof.AutoSeq1
import PyProof.NeKinds
import HandS.FStr
import HandS.TupMul
import HandS.RaiseMore
import KE.KCallOwn
import HandS.ClsMeth
import KE.GoesEnumKw
import HandS.Replace
import HandS.Star
import HandS.Deep
import KE.KDictSum
import HandS.TupSets
import KE.KDictWalk
import HandS.NoneIn
import HandS.DictComp
import PyProof.Rows.RowHeap
import PySem.Challenge.RW_pacehouse_k51_lists_of_speeches
import HandS.Head0
import HandS.ExcSuper
import HandS.ExcOwn
import HandS.ExcIs
import HandS.ExcField
import KE.KExcMake
import KE.KSuper
import HandS.Base
import HandS.Call
import HandS.Ends
import HandS.Words
import HandS.WordsExc
import HandS.Defaults
import HandS.Head1
import HandS.Head2
import HandS.HeadEnd
import HandS.HeadNt
import KE.DatumOrd
import PyProof.Rows.StrRev
import KE.KDictList
import PyProof.DictValues
import PyProof.CollectStr
import PyProof.ListStr
import PyProof.StrLawsFirst
import KE.DataMinMax
import HandS.SortKw
section
set_option Elab.async false
set_option linter.all false
set_option maxRecDepth 100000
set_option maxHeartbeats 4000000
namespace DL
open PySem PySem.Spec PyProof.Rows L2
inductive D where
  | non | bl (b : Bool) | int (i : Int) | str (x : Str) | ty (n : String)
  | tup (xs : List D) | lst (xs : List D)
  | dK (kvs : List (Key × D)) | dT (kvs : List (List Key × D))
  | obj (C : Addr) (fs : List (Str × D))
  | rf (a : Addr)
  | scr (ns : List Int)
  | kup (xs : List D)
def Ex (F F' : Hp) : Prop := ∀ a o, F a = some o → F' a = some o
theorem Ex.refl (F : Hp) : Ex F F := fun _ _ h => h
theorem Ex.trans {F F1 F2 : Hp} (a : Ex F F1) (b : Ex F1 F2) : Ex F F2 := fun x o h => b x o (a x o h)
theorem Ex.new {F : Hp} {p : Addr} {o : HO} (h : F p = none) : Ex F (upd F p o) := fun a u e => by
  by_cases q : a = p
  · subst q; rw [h] at e; cases e
  · rw [upd_ne q]; exact e
theorem Ex.nope {F H : Hp} (e : Ex F H) {p : Addr} (h : H p = none) : F p = none := by
  cases q : F p with
  | none => rfl
  | some o => rw [e p o q] at h; cases h
theorem Ex.upds {F H : Hp} (e : Ex F H) {p : Addr} (o : HO) : Ex (upd F p o) (upd H p o) := fun a u h => by
  by_cases q : a = p
  · subst q; rw [upd_same] at h ⊢; exact h
  · rw [upd_ne q] at h ⊢; exact e a u h
theorem Ex.updR {F H : Hp} (e : Ex F H) {p : Addr} {o : HO} (h : F p = none) : Ex F (upd H p o) := fun a u z => by
  by_cases q : a = p
  · subst q; rw [h] at z; cases z
  · rw [upd_ne q]; exact e a u z
theorem Ex.rd {F F' : Hp} {a : Addr} {u : HO} (e : Ex F F') (h : Rd F a u) : Rd F' a u := by
  rcases h with h | ⟨o, h⟩
  · exact .inl (e _ _ h)
  · exact .inr ⟨o, e _ _ h⟩
theorem Ex.sql {K : PySem.W.Frag} {F F' : Hp} {a : Addr} {xs : List V} (e : Ex F F') (h : SqL K F a xs) : SqL K F' a xs := by
  rcases h with h | h
  · exact .inl (e.rd h)
  · exact .inr h
theorem Ex.sqt {K : PySem.W.Frag} {F F' : Hp} {a : Addr} {xs : List V} (e : Ex F F') (h : SqT K F a xs) : SqT K F' a xs := by
  rcases h with h | h
  · exact .inl (e.rd h)
  · exact .inr h
mutual
inductive Rep (K : PySem.W.Frag) (F : Hp) : V → D → Prop
  | non : Rep K F .non .non
  | bl (b : Bool) : Rep K F (.bl b) (.bl b)
  | int (i : Int) : Rep K F (.int i) (.int i)
  | str (x : Str) : Rep K F (.str x) (.str x)
  | ty (n : String) : Rep K F (.ty n) (.ty n)
  | tup {a : Addr} {vs : List V} {ds : List D} : F a = some (.tup vs) → Reps K F vs ds → Rep K F (.ref a) (.tup ds)
  | lst {a : Addr} {vs : List V} {ds : List D} : F a = some (.lst vs) → Reps K F vs ds → Rep K F (.ref a) (.lst ds)
  | dK {a : Addr} {kvs : List (Key × V)} {kds : List (Key × D)} : F a = some (.dK kvs) → kvs.map (·.1) = kds.map (·.1) → Reps K F (kvs.map (·.2)) (kds.map (·.2)) → Rep K F (.ref a) (.dK kds)
  | dT {a : Addr} {kvs : List (List Key × V)} {kds : List (List Key × D)} : F a = some (.dT kvs) → kvs.map (·.1) = kds.map (·.1) → Reps K F (kvs.map (·.2)) (kds.map (·.2)) → Rep K F (.ref a) (.dT kds)
  | obj {a C dx : Addr} {kvs : List (Str × V)} {kds : List (Str × D)} : F a = some (.ins C dx kvs) → kvs.map (·.1) = kds.map (·.1) → Reps K F (kvs.map (·.2)) (kds.map (·.2)) → Rep K F (.ref a) (.obj C kds)
  | rf (a : Addr) : Rep K F (.ref a) (.rf a)
  | scr {a : Addr} {ns : List Int} : SqL K F a (ns.map V.int) → Rep K F (.ref a) (.scr ns)
  | kup {a : Addr} {vs : List V} {ds : List D} : SqT K F a vs → Reps K F vs ds → Rep K F (.ref a) (.kup ds)
inductive Reps (K : PySem.W.Frag) (F : Hp) : List V → List D → Prop
  | nil : Reps K F [] []
  | cons {v : V} {vs : List V} {d : D} {ds : List D} : Rep K F v d → Reps K F vs ds → Reps K F (v :: vs) (d :: ds)
end
mutual
theorem Rep.mono {K : PySem.W.Frag} {F F' : Hp} (e : Ex F F') : ∀ {v : V} {d : D}, Rep K F v d → Rep K F' v d
  | _, _, .non => .non
  | _, _, .bl b => .bl b
  | _, _, .int i => .int i
  | _, _, .str x => .str x
  | _, _, .ty n => .ty n
  | _, _, .tup h r => .tup (e _ _ h) (Reps.mono e r)
  | _, _, .lst h r => .lst (e _ _ h) (Reps.mono e r)
  | _, _, .dK h l r => .dK (e _ _ h) l (Reps.mono e r)
  | _, _, .dT h l r => .dT (e _ _ h) l (Reps.mono e r)
  | _, _, .obj h l r => .obj (e _ _ h) l (Reps.mono e r)
  | _, _, .rf a => .rf a
  | _, _, .scr h => .scr (e.sql h)
  | _, _, .kup h r => .kup (e.sqt h) (Reps.mono e r)
theorem Reps.mono {K : PySem.W.Frag} {F F' : Hp} (e : Ex F F') : ∀ {vs : List V} {ds : List D}, Reps K F vs ds → Reps K F' vs ds
  | _, _, .nil => .nil
  | _, _, .cons h t => .cons (Rep.mono e h) (Reps.mono e t)
end
section
variable {K : PySem.W.Frag} {F : Hp}
theorem Reps.length : ∀ {vs : List V} {ds : List D}, Reps K F vs ds → vs.length = ds.length
  | _, _, .nil => rfl
  | _, _, .cons _ t => congrArg (· + 1) (Reps.length t)
theorem Reps.get : ∀ {vs : List V} {ds : List D} {i : Nat} {d : D}, Reps K F vs ds → ds[i]? = some d → ∃ v, vs[i]? = some v ∧ Rep K F v d
  | _, _, _, _, .nil, e => by simp at e
  | _, _, 0, _, .cons r _, e => by simp at e; subst e; exact ⟨_, rfl, r⟩
  | _, _, i + 1, _, .cons _ t, e => by
    obtain ⟨v, h1, h2⟩ := Reps.get (i := i) t (by simpa using e)
    exact ⟨v, by simpa using h1, h2⟩
theorem Reps.get' : ∀ {vs : List V} {ds : List D} {i : Nat} {v : V}, Reps K F vs ds → vs[i]? = some v → ∃ d, ds[i]? = some d ∧ Rep K F v d
  | _, _, _, _, .nil, e => by simp at e
  | _, _, 0, _, .cons r _, e => by simp at e; subst e; exact ⟨_, rfl, r⟩
  | _, _, i + 1, _, .cons _ t, e => by
    obtain ⟨v, h1, h2⟩ := Reps.get' (i := i) t (by simpa using e)
    exact ⟨v, by simpa using h1, h2⟩
theorem Reps.append : ∀ {vs vs' : List V} {ds ds' : List D}, Reps K F vs ds → Reps K F vs' ds' → Reps K F (vs ++ vs') (ds ++ ds')
  | _, _, _, _, .nil, s => s
  | _, _, _, _, .cons r t, s => .cons r (Reps.append t s)
theorem Reps.one {v : V} {d : D} (h : Rep K F v d) : Reps K F [v] [d] := .cons h .nil
theorem Reps.set {v : V} {d : D} (h : Rep K F v d) : ∀ {vs : List V} {ds : List D} (i : Nat), Reps K F vs ds → Reps K F (vs.set i v) (ds.set i d)
  | _, _, _, .nil => .nil
  | _, _, 0, .cons _ t => .cons h t
  | _, _, i + 1, .cons r t => .cons r (Reps.set h i t)
theorem Reps.take : ∀ {vs : List V} {ds : List D} (n : Nat), Reps K F vs ds → Reps K F (vs.take n) (ds.take n)
  | _, _, 0, _ => .nil
  | _, _, _ + 1, .nil => .nil
  | _, _, n + 1, .cons r t => .cons r (Reps.take n t)
theorem Reps.drop : ∀ {vs : List V} {ds : List D} (n : Nat), Reps K F vs ds → Reps K F (vs.drop n) (ds.drop n)
  | _, _, 0, r => r
  | _, _, _ + 1, .nil => .nil
  | _, _, n + 1, .cons _ t => Reps.drop n t
theorem Reps.reverse {vs : List V} {ds : List D} (r : Reps K F vs ds) : Reps K F vs.reverse ds.reverse := by
  induction vs generalizing ds with
  | nil => cases r; exact .nil
  | cons v vs ih =>
    cases r with
    | cons h t =>
      rw [List.reverse_cons, List.reverse_cons]
      exact (ih t).append (.one h)
end
inductive MO where
  | lst (xs : List D) | dK (kvs : List (Key × D)) | dT (kvs : List (List Key × D))
  | ins (C : Addr) (fs : List (Str × D))
  | deck (k1 k2 k3 : Str) (n : Nat)
  | dcell
  | lkT (o : Obj) (kvs : List (List Key × V)) (kds : List (List Key × D))
  | lkK (o : Obj) (kvs : List (Key × V)) (kds : List (Key × D))
  | dN (w : World) (kds : List (NestedKey × D))
  | lkN (w : World) (o : Obj) (xs : List (NestedKey × Addr × Value)) (kds : List (NestedKey × D))
  | dU (w : World) (kds : List (NestedKey × D))
  | lkU (w : World) (o : Obj) (xs : List (NestedKey × Addr × Value)) (kds : List (NestedKey × D))
  | tupU (o : Obj) (vs : List V) (ds : List D)
abbrev GH := Addr → Option MO
def gput (G : GH) (a : Addr) (o : MO) : GH := fun b => if b = a then some o else G b
def gdel (G : GH) (a : Addr) : GH := fun b => if b = a then none else G b
theorem gput_same {G : GH} {a : Addr} {o : MO} : gput G a o a = some o := by unfold gput; rw [if_pos rfl]
theorem gput_ne {G : GH} {a b : Addr} {o : MO} (h : b ≠ a) : gput G a o b = G b := by unfold gput; rw [if_neg h]
theorem gput_gput {G : GH} {a : Addr} {o o' : MO} : gput (gput G a o) a o' = gput G a o' := by
  funext b
  by_cases h : b = a
  · subst h; rw [gput_same, gput_same]
  · rw [gput_ne h, gput_ne h, gput_ne h]
theorem gput_self {G : GH} {a : Addr} {o : MO} (h : G a = some o) : gput G a o = G := by
  funext b
  by_cases q : b = a
  · subst q; rw [gput_same, h]
  · rw [gput_ne q]
def deckOk (F H : Hp) (G : GH) (a : Addr) (k1 k2 k3 : Str) (n : Nat) : Prop :=
  ∃ (c : Addr) (g t : Int) (ns : List Int), H a = some (.dK [(.inr k1, .ref c), (.inr k2, .int g), (.inr k3, .int t)]) ∧ H c = some (.lst (ns.map V.int)) ∧ G c = some .dcell ∧
    0 ≤ t ∧ t + n ≤ 1099511627776 ∧ 0 ≤ g ∧ g < 4294967296 ∧ ns.length ≤ 63
/-- a dict whose keys are tuples of any depth: what stands at its own place -/
def RawN (w : World) (a : Addr) (xs : List (NestedKey × Addr × Value)) (h : Heap) : Prop :=
  (a == sysModules) = false ∧ ∃ o es ep, h.get? a = some o ∧ o.ExactDict ∧ o.data = .dict es ep ∧ es.toList = xs.map (fun x => ({ hash := x.1.hash w, key := .ref x.2.1, val := x.2.2 } : DictEntry)) ∧ (xs.map (·.1)).Nodup
mutual
/-- data as a key -/
def D.nkey : D → Option NestedKey
  | .non => some .none
  | .int i => some (.num i)
  | .str x => some (.text x)
  | .tup ds => (D.nkeys ds).map .tup
  | _ => none
def D.nkeys : List D → Option (List NestedKey)
  | [] => some []
  | d :: ds => match d.nkey, D.nkeys ds with
    | some k, some ks => some (k :: ks)
    | _, _ => none
end
def KN (K : PySem.W.Frag) (F : Hp) : List (NestedKey × D) → List (NestedKey × Addr × Value) → Prop := Paired fun p q => p.1 = q.1 ∧ (∃ d : D, d.nkey = some p.1 ∧ p.1.depth ≤ 8 ∧ Rep K F (.ref q.2.1) d) ∧ ∃ v, RelV v q.2.2 ∧ Rep K F v p.2
mutual
/-- a key as data, by tuples that may be the module's own -/
def kToU : NestedKey → D
  | .none => .non
  | .num i => .int i
  | .text x => .str x
  | .tup ks => .kup (ksToU ks)
def ksToU : List NestedKey → List D
  | [] => []
  | k :: ks => kToU k :: ksToU ks
end
def KU (K : PySem.W.Frag) (F : Hp) : List (NestedKey × D) → List (NestedKey × Addr × Value) → Prop := Paired fun p q => p.1 = q.1 ∧ p.1.depth ≤ 8 ∧ Rep K F (.ref q.2.1) (kToU p.1) ∧ ∃ v, RelV v q.2.2 ∧ Rep K F v p.2
def MRep (K : PySem.W.Frag) (F H : Hp) (G : GH) (a : Addr) : MO → Prop
  | .lst ds => ∃ vs, H a = some (.lst vs) ∧ Reps K F vs ds
  | .dK kds => ∃ kvs, H a = some (.dK kvs) ∧ kvs.map (·.1) = kds.map (·.1) ∧ Reps K F (kvs.map (·.2)) (kds.map (·.2))
  | .dT kds => ∃ kvs, H a = some (.dT kvs) ∧ kvs.map (·.1) = kds.map (·.1) ∧ Reps K F (kvs.map (·.2)) (kds.map (·.2))
  | .ins C kds => ∃ dx kvs, H a = some (.ins C dx kvs) ∧ kvs.map (·.1) = kds.map (·.1) ∧ Reps K F (kvs.map (·.2)) (kds.map (·.2))
  | .deck k1 k2 k3 n => deckOk F H G a k1 k2 k3 n
  | .dcell => ∃ xs, H a = some (.lst xs)
  | .lkT o kvs kds => H a = some (.frz o (.dT kvs)) ∧ kvs.map (·.1) = kds.map (·.1) ∧ Reps K F (kvs.map (·.2)) (kds.map (·.2))
  | .lkK o kvs kds => H a = some (.frz o (.dK kvs)) ∧ kvs.map (·.1) = kds.map (·.1) ∧ Reps K F (kvs.map (·.2)) (kds.map (·.2))
  | .dN w kds => ∃ xs, H a = some (.ext (RawN w a xs)) ∧ kds.length ≤ sizeLine ∧ KN K F kds xs
  | .lkN w o xs kds => H a = some (.frz o (.ext (RawN w a xs))) ∧ kds.length ≤ sizeLine ∧ KN K F kds xs
  | .dU w kds => ∃ xs, H a = some (.ext (RawN w a xs)) ∧ kds.length ≤ sizeLine ∧ KU K F kds xs
  | .lkU w o xs kds => H a = some (.frz o (.ext (RawN w a xs))) ∧ kds.length ≤ sizeLine ∧ KU K F kds xs
  | .tupU o vs ds => H a = some (.frz o (.tup vs)) ∧ o.dict = none ∧ o.cls = .type "tuple" ∧ Reps K F vs ds
structure Gok (K : PySem.W.Frag) (F H : Hp) (G : GH) : Prop where
  ex : Ex F H
  at_ : ∀ a o, G a = some o → F a = none ∧ MRep K F H G a o
  one : ∀ a b k1 k2 k3 n j1 j2 j3 m, G a = some (.deck k1 k2 k3 n) → G b = some (.deck j1 j2 j3 m) → a = b
section
variable {K : PySem.W.Frag} {F H : Hp} {G : GH}
theorem MRep.isAt {a : Addr} {o : MO} (h : MRep K F H G a o) : ∃ u, H a = some u := by
  cases o with
  | lst xs => obtain ⟨vs, e, _⟩ := h; exact ⟨_, e⟩
  | dK kds => obtain ⟨vs, e, _⟩ := h; exact ⟨_, e⟩
  | dT kds => obtain ⟨vs, e, _⟩ := h; exact ⟨_, e⟩
  | ins C kds => obtain ⟨dx, vs, e, _⟩ := h; exact ⟨_, e⟩
  | deck k1 k2 k3 n => obtain ⟨c, g, t, ns, e, _⟩ := h; exact ⟨_, e⟩
  | dcell => obtain ⟨xs, e⟩ := h; exact ⟨_, e⟩
  | lkT o kvs kds => exact ⟨_, h.1⟩
  | lkK o kvs kds => exact ⟨_, h.1⟩
  | dN w kds => obtain ⟨xs, e, _⟩ := h; exact ⟨_, e⟩
  | lkN w o xs kds => exact ⟨_, h.1⟩
  | dU w kds => obtain ⟨xs, e, _⟩ := h; exact ⟨_, e⟩
  | lkU w o xs kds => exact ⟨_, h.1⟩
  | tupU o vs ds => exact ⟨_, h.1⟩
theorem Gok.free (g : Gok K F H G) {p : Addr} (h : H p = none) : G p = none := by
  cases q : G p with
  | none => rfl
  | some o =>
    obtain ⟨u, e⟩ := (g.at_ p o q).2.isAt
    rw [e] at h; cases h
theorem MRep.move {F' H' : Hp} {G' : GH} {a : Addr} {o : MO} (h : MRep K F H G a o) (e : Ex F F') (k : ∀ b u, H b = some u → (b = a ∨ G b = some .dcell) → H' b = some u) (g : ∀ c, G c = some .dcell → G' c = some .dcell) : MRep K F' H' G' a o := by
  cases o with
  | lst xs =>
    obtain ⟨vs, e1, r⟩ := h
    exact ⟨vs, k _ _ e1 (.inl rfl), r.mono e⟩
  | dK kds =>
    obtain ⟨vs, e1, l, r⟩ := h
    exact ⟨vs, k _ _ e1 (.inl rfl), l, r.mono e⟩
  | dT kds =>
    obtain ⟨vs, e1, l, r⟩ := h
    exact ⟨vs, k _ _ e1 (.inl rfl), l, r.mono e⟩
  | ins C kds =>
    obtain ⟨dx, vs, e1, l, r⟩ := h
    exact ⟨dx, vs, k _ _ e1 (.inl rfl), l, r.mono e⟩
  | deck k1 k2 k3 n =>
    obtain ⟨c, g0, t, ns, e1, e2, gc, hz⟩ := h
    exact ⟨c, g0, t, ns, k _ _ e1 (.inl rfl), k _ _ e2 (.inr gc), g c gc, hz⟩
  | dcell =>
    obtain ⟨xs, e1⟩ := h
    exact ⟨xs, k _ _ e1 (.inl rfl)⟩
  | lkT o kvs kds => exact ⟨k _ _ h.1 (.inl rfl), h.2.1, h.2.2.mono e⟩
  | lkK o kvs kds => exact ⟨k _ _ h.1 (.inl rfl), h.2.1, h.2.2.mono e⟩
  | dN w kds =>
    obtain ⟨xs, e1, hz, r⟩ := h
    exact ⟨xs, k _ _ e1 (.inl rfl), hz, Paired.mapP r fun _ _ ⟨z1, ⟨d, z2, zd, z3⟩, v, z4, z5⟩ => ⟨z1, ⟨d, z2, zd, z3.mono e⟩, v, z4, z5.mono e⟩⟩
  | lkN w o xs kds =>
    obtain ⟨e1, hz, r⟩ := h
    exact ⟨k _ _ e1 (.inl rfl), hz, Paired.mapP r fun _ _ ⟨z1, ⟨d, z2, zd, z3⟩, v, z4, z5⟩ => ⟨z1, ⟨d, z2, zd, z3.mono e⟩, v, z4, z5.mono e⟩⟩
  | dU w kds =>
    obtain ⟨xs, e1, hz, r⟩ := h
    exact ⟨xs, k _ _ e1 (.inl rfl), hz, Paired.mapP r fun _ _ ⟨z1, z2, z3, v, z4, z5⟩ => ⟨z1, z2, z3.mono e, v, z4, z5.mono e⟩⟩
  | lkU w o xs kds =>
    obtain ⟨e1, hz, r⟩ := h
    exact ⟨k _ _ e1 (.inl rfl), hz, Paired.mapP r fun _ _ ⟨z1, z2, z3, v, z4, z5⟩ => ⟨z1, z2, z3.mono e, v, z4, z5.mono e⟩⟩
  | tupU o vs ds => exact ⟨k _ _ h.1 (.inl rfl), h.2.1, h.2.2.1, h.2.2.2.mono e⟩
/-- the heap grows, frozen things with it -/
structure Gr (F H F' H' : Hp) : Prop where
  ff : Ex F F'
  fh : Ex F' H'
  hh : Ex H H'
  no : ∀ a u, H a = some u → F a = none → F' a = none
theorem Gok.grow (g : Gok K F H G) {F' H' : Hp} (r : Gr F H F' H') : Gok K F' H' G where
  ex := r.fh
  at_ := fun a o e => by
    obtain ⟨f, m⟩ := g.at_ a o e
    obtain ⟨u, hu⟩ := m.isAt
    exact ⟨r.no a u hu f, m.move r.ff (fun b u q _ => r.hh b u q) (fun c z => z)⟩
  one := g.one
theorem Gr.new (e : Ex F H) {p : Addr} {u : HO} (h : H p = none) : Gr F H (upd F p u) (upd H p u) where
  ff := Ex.new (e.nope h)
  fh := e.upds u
  hh := Ex.new h
  no := fun a w ha fa => by
    have q : a ≠ p := fun q => by rw [q, h] at ha; cases ha
    rw [upd_ne q]; exact fa
theorem Gr.only (e : Ex F H) {p : Addr} {u : HO} (h : H p = none) : Gr F H F (upd H p u) where
  ff := Ex.refl F
  fh := e.updR (e.nope h)
  hh := Ex.new h
  no := fun a w ha fa => fa
theorem Gr.refl (e : Ex F H) : Gr F H F H := ⟨Ex.refl F, e, Ex.refl H, fun _ _ _ z => z⟩
/-- fewer things that may change -/
structure Sub (G' G : GH) : Prop where
  le : ∀ a o, G' a = some o → G a = some o
  dc : ∀ c, G c = some .dcell → G' c = some .dcell
theorem Sub.refl (G : GH) : Sub G G := ⟨fun _ _ z => z, fun _ z => z⟩
theorem Sub.trans {G1 G2 G3 : GH} (a : Sub G1 G2) (b : Sub G2 G3) : Sub G1 G3 := ⟨fun x o z => b.le x o (a.le x o z), fun c z => a.dc c (b.dc c z)⟩
theorem Gok.sub (g : Gok K F H G) {G' : GH} (h : Sub G' G) : Gok K F H G' where
  ex := g.ex
  at_ := fun a o e => by
    obtain ⟨f, m⟩ := g.at_ a o (h.le a o e)
    exact ⟨f, m.move (Ex.refl F) (fun b u q _ => q) h.dc⟩
  one := fun a b k1 k2 k3 n j1 j2 j3 m e1 e2 => g.one a b k1 k2 k3 n j1 j2 j3 m (h.le _ _ e1) (h.le _ _ e2)
def MO.isDeck : MO → Bool
  | .deck _ _ _ _ => true
  | .dcell => true
  | _ => false
theorem sub_new {p : Addr} {o : MO} (h : G p = none) (hd : o.isDeck = false) : Sub G (gput G p o) := by
  refine ⟨fun a w z => ?_, fun c z => ?_⟩
  · have q : a ≠ p := fun y => by rw [y, h] at z; cases z
    rw [gput_ne q]; exact z
  · by_cases q : c = p
    · subst q; rw [gput_same] at z; cases z; cases hd
    · rw [gput_ne q] at z; exact z
theorem Sub.put {G' : GH} (s : Sub G' G) (p : Addr) (o : MO) : Sub (gput G' p o) (gput G p o) := by
  refine ⟨fun a w z => ?_, fun c z => ?_⟩
  · by_cases q : a = p
    · subst q; rw [gput_same] at z ⊢; exact z
    · rw [gput_ne q] at z ⊢; exact s.le a w z
  · by_cases q : c = p
    · subst q; rw [gput_same] at z ⊢; exact z
    · rw [gput_ne q] at z ⊢; exact s.dc c z
theorem upd_none {H : Hp} {p b : Addr} {u : HO} (h : upd H p u b = none) : H b = none := by
  by_cases q : b = p
  · subst q; rw [upd_same] at h; cases h
  · rw [upd_ne q] at h; exact h
/-- from one moment to a later one -/
structure Go (F H : Hp) (G : GH) (F' H' : Hp) (G' : GH) : Prop where
  ex : Ex F F'
  fr : ∀ b u, H b = some u → G b = none → H' b = some u ∧ G' b = none
  no : ∀ b u, H b = some u → G b = none → F b = none → (∀ vs, u ≠ .tup vs) → F' b = none
  st : ∀ b, H' b = none → H b = none
theorem Go.refl : Go F H G F H G := ⟨Ex.refl F, fun _ _ h g => ⟨h, g⟩, fun _ _ _ _ f _ => f, fun _ z => z⟩
theorem Go.trans {F1 H1 F2 H2 : Hp} {G1 G2 : GH} (a : Go F H G F1 H1 G1) (b : Go F1 H1 G1 F2 H2 G2) : Go F H G F2 H2 G2 := by
  refine ⟨a.ex.trans b.ex, fun c u h g => ?_, fun c u h g f t => ?_, fun c z => a.st c (b.st c z)⟩
  · obtain ⟨h1, g1⟩ := a.fr c u h g
    exact b.fr c u h1 g1
  · obtain ⟨h1, g1⟩ := a.fr c u h g
    exact b.no c u h1 g1 (a.no c u h g f t) t
theorem Gr.go {F' H' : Hp} (r : Gr F H F' H') : Go F H G F' H' G := ⟨r.ff, fun b u h g => ⟨r.hh b u h, g⟩, fun b u h _ f _ => r.no b u h f, fun b z => r.hh.nope z⟩
theorem Go.sub {F' H' : Hp} {G' G0 : GH} (a : Go F H G F' H' G') (s : Sub G0 G') : Go F H G F' H' G0 := by
  refine ⟨a.ex, fun b u h g => ?_, a.no, a.st⟩
  obtain ⟨h1, g1⟩ := a.fr b u h g
  refine ⟨h1, ?_⟩
  cases q : G0 b with
  | none => rfl
  | some o => rw [s.le b o q] at g1; cases g1
theorem Go.alloc {p : Addr} {u : HO} {o : MO} (h : H p = none) : Go F H G F (upd H p u) (gput G p o) := by
  refine ⟨Ex.refl F, fun b w hb g => ?_, fun _ _ _ _ f _ => f, fun b z => upd_none z⟩
  have q : b ≠ p := fun y => by rw [y, h] at hb; cases hb
  exact ⟨by rw [upd_ne q]; exact hb, by rw [gput_ne q]; exact g⟩
theorem Go.put {p : Addr} {u : HO} {o o0 : MO} (h : G p = some o0) : Go F H G F (upd H p u) (gput G p o) := by
  refine ⟨Ex.refl F, fun b w hb g => ?_, fun _ _ _ _ f _ => f, fun b z => upd_none z⟩
  have q : b ≠ p := fun y => by rw [y, h] at g; cases g
  exact ⟨by rw [upd_ne q]; exact hb, by rw [gput_ne q]; exact g⟩
/-- a new thing that may change -/
theorem Gok.alloc (g : Gok K F H G) {p : Addr} {u : HO} {o : MO} (h : H p = none) (hd : o.isDeck = false) (r : MRep K F (upd H p u) (gput G p o) p o) : Gok K F (upd H p u) (gput G p o) where
  ex := g.ex.updR (g.ex.nope h)
  at_ := fun a w e => by
    by_cases q : a = p
    · subst q
      rw [gput_same] at e; cases e
      exact ⟨g.ex.nope h, r⟩
    · rw [gput_ne q] at e
      obtain ⟨f, m⟩ := g.at_ a w e
      refine ⟨f, m.move (Ex.refl F) (fun b z qb _ => (Ex.new h) b z qb) fun c z => ?_⟩
      have : c ≠ p := fun y => by rw [y, g.free h] at z; cases z
      rw [gput_ne this]; exact z
  one := fun a b k1 k2 k3 n j1 j2 j3 m e1 e2 => by
    have ha : a ≠ p := fun y => by rw [y, gput_same] at e1; cases e1; cases hd
    have hb : b ≠ p := fun y => by rw [y, gput_same] at e2; cases e2; cases hd
    rw [gput_ne ha] at e1; rw [gput_ne hb] at e2
    exact g.one a b k1 k2 k3 n j1 j2 j3 m e1 e2
/-- a thing changes -/
theorem Gok.put (g : Gok K F H G) {p : Addr} {u : HO} {o o0 : MO} (h : G p = some o0) (h0 : o0.isDeck = false) (hd : o.isDeck = false) (r : MRep K F (upd H p u) (gput G p o) p o) : Gok K F (upd H p u) (gput G p o) where
  ex := g.ex.updR (g.at_ p o0 h).1
  at_ := fun a w e => by
    by_cases q : a = p
    · subst q
      rw [gput_same] at e; cases e
      exact ⟨(g.at_ a o0 h).1, r⟩
    · rw [gput_ne q] at e
      obtain ⟨f, m⟩ := g.at_ a w e
      have np : ∀ c, (c = a ∨ G c = some .dcell) → c ≠ p := fun c hc y => by
        rcases hc with hc | hc
        · exact q (hc ▸ y)
        · rw [y, h] at hc; cases hc; cases h0
      refine ⟨f, m.move (Ex.refl F) (fun b z qb hb => by rw [upd_ne (np b hb)]; exact qb) fun c z => by rw [gput_ne (np c (.inr z))]; exact z⟩
  one := fun a b k1 k2 k3 n j1 j2 j3 m e1 e2 => by
    have ha : a ≠ p := fun y => by rw [y, gput_same] at e1; cases e1; cases hd
    have hb : b ≠ p := fun y => by rw [y, gput_same] at e2; cases e2; cases hd
    rw [gput_ne ha] at e1; rw [gput_ne hb] at e2
    exact g.one a b k1 k2 k3 n j1 j2 j3 m e1 e2
theorem gdel_sub {G : GH} {p : Addr} : ∀ a o, gdel G p a = some o → G a = some o := fun a o e => by
  unfold gdel at e
  by_cases q : a = p
  · rw [if_pos q] at e; cases e
  · rw [if_neg q] at e; exact e
theorem gdel_same {G : GH} {p : Addr} : gdel G p p = none := by unfold gdel; rw [if_pos rfl]
theorem gdel_ne {G : GH} {p a : Addr} (h : a ≠ p) : gdel G p a = G a := by unfold gdel; rw [if_neg h]
theorem gdel_gput {G : GH} {p : Addr} {o : MO} (h : G p = none) : gdel (gput G p o) p = G := by
  funext b
  by_cases q : b = p
  · subst q; rw [gdel_same, h]
  · rw [gdel_ne q, gput_ne q]
/-- a thing changes no more -/
theorem Gok.freeze (g : Gok K F H G) {p : Addr} {u : HO} {o0 : MO} (h : G p = some o0) (h0 : o0.isDeck = false) (hu : H p = some u) : Gok K (upd F p u) H (gdel G p) ∧ Go F H G (upd F p u) H (gdel G p) := by
  have fp := (g.at_ p o0 h).1
  have eF : Ex F (upd F p u) := Ex.new fp
  refine ⟨⟨fun a w z => ?_, fun a w e => ?_, ?_⟩, eF, fun b w hb gb => ⟨hb, ?_⟩, fun b w hb gb fb _ => ?_, fun _ z => z⟩
  · by_cases q : a = p
    · subst q; rw [upd_same] at z; cases z; exact hu
    · rw [upd_ne q] at z; exact g.ex a w z
  · have q : a ≠ p := fun y => by rw [y, gdel_same] at e; cases e
    rw [gdel_ne q] at e
    obtain ⟨f, m⟩ := g.at_ a w e
    refine ⟨by rw [upd_ne q]; exact f, m.move eF (fun b w hb _ => hb) fun c z => ?_⟩
    have nq : c ≠ p := fun y => by rw [y, h] at z; cases z; cases h0
    rw [gdel_ne nq]; exact z
  · exact fun a b k1 k2 k3 n j1 j2 j3 m e1 e2 => g.one a b k1 k2 k3 n j1 j2 j3 m (gdel_sub _ _ e1) (gdel_sub _ _ e2)
  · have q : b ≠ p := fun y => by rw [y, h] at gb; cases gb
    rw [gdel_ne q]; exact gb
  · have q : b ≠ p := fun y => by rw [y, h] at gb; cases gb
    rw [upd_ne q]; exact fb
end
abbrev DS := List (Option D)
inductive Slots (K : PySem.W.Frag) (F : Hp) : L2.St → DS → Prop
  | nil : Slots K F [] []
  | any {v : Option V} {σ : L2.St} {S : DS} : Slots K F σ S → Slots K F (v :: σ) (none :: S)
  | val {v : V} {d : D} {σ : L2.St} {S : DS} : Rep K F v d → Slots K F σ S → Slots K F (some v :: σ) (some d :: S)
section
variable {K : PySem.W.Frag} {F : Hp}
theorem Slots.mono {F' : Hp} (e : Ex F F') : ∀ {σ : L2.St} {S : DS}, Slots K F σ S → Slots K F' σ S
  | _, _, .nil => .nil
  | _, _, .any t => .any (Slots.mono e t)
  | _, _, .val h t => .val (h.mono e) (Slots.mono e t)
theorem Slots.get : ∀ {σ : L2.St} {S : DS} {i : Nat} {d : D}, Slots K F σ S → S[i]? = some (some d) → ∃ v, σ[i]? = some (some v) ∧ Rep K F v d
  | _, _, _, _, .nil, e => by simp at e
  | _, _, 0, _, .any _, e => by simp at e
  | _, _, 0, _, .val r _, e => by simp at e; subst e; exact ⟨_, rfl, r⟩
  | _, _, i + 1, _, .any t, e => by
    obtain ⟨v, h1, h2⟩ := Slots.get (i := i) t (by simpa using e)
    exact ⟨v, by simpa using h1, h2⟩
  | _, _, i + 1, _, .val _ t, e => by
    obtain ⟨v, h1, h2⟩ := Slots.get (i := i) t (by simpa using e)
    exact ⟨v, by simpa using h1, h2⟩
theorem Slots.set {v : V} {d : D} (h : Rep K F v d) : ∀ {σ : L2.St} {S : DS} (i : Nat), Slots K F σ S → Slots K F (σ.set i (some v)) (S.set i (some d))
  | _, _, _, .nil => .nil
  | _, _, 0, .any t => .val h t
  | _, _, 0, .val _ t => .val h t
  | _, _, i + 1, .any t => .any (Slots.set h i t)
  | _, _, i + 1, .val r t => .val r (Slots.set h i t)
theorem Slots.setN (o : Option V) : ∀ {σ : L2.St} {S : DS} (i : Nat), Slots K F σ S → Slots K F (σ.set i o) (S.set i none)
  | _, _, _, .nil => .nil
  | _, _, 0, .any t => .any t
  | _, _, 0, .val _ t => .any t
  | _, _, i + 1, .any t => .any (Slots.setN o i t)
  | _, _, i + 1, .val r t => .val r (Slots.setN o i t)
def dstart (N : List Str) (ds : List D) : DS := ds.map some ++ List.replicate (N.length - ds.length) none
theorem slots_none : ∀ (n : Nat), Slots K F (List.replicate n none) (List.replicate n none)
  | 0 => .nil
  | n + 1 => .any (slots_none n)
theorem slots_append : ∀ {vs : List V} {ds : List D} {σ : L2.St} {S : DS}, Reps K F vs ds → Slots K F σ S → Slots K F (vs.map some ++ σ) (ds.map some ++ S)
  | _, _, _, _, .nil, s => s
  | _, _, _, _, .cons h t, s => .val h (slots_append t s)
theorem Reps.start {N : List Str} {vs : List V} {ds : List D} (r : Reps K F vs ds) : Slots K F (start N vs) (dstart N ds) := by
  have e := r.length
  unfold L2.start dstart
  rw [e]
  exact slots_append r (slots_none _)
end
structure Ok (K : PySem.W.Frag) (F H : Hp) (σ : L2.St) (S : DS) (G : GH) : Prop where
  g : Gok K F H G
  s : Slots K F σ S
end DL
end
section
set_option Elab.async false
set_option linter.all false
set_option maxRecDepth 100000
set_option maxHeartbeats 4000000
namespace DL
open PySem PySem.Spec PyProof.Rows L2
abbrev DQ := D → GH → Prop
abbrev DTE := DS → GH → DQ → Prop
abbrev DTT := DS → GH → (Bool → GH → Prop) → Prop
abbrev DTA := DS → GH → (List D → GH → Prop) → Prop
structure DEnds where
  nx : DS → GH → Prop
  rt : DQ
  bk : DS → GH → Prop := fun _ _ => False
  ct : DS → GH → Prop := fun _ _ => False
abbrev DTS := DEnds → DS → GH → Prop
def KpE (K : PySem.W.Frag) (F H : Hp) (G : GH) (Q' : DQ) (Q : VK) : Prop := ∀ F' H' v d G', Go F H G F' H' G' → Gok K F' H' G' → Rep K F' v d → Q' d G' → Q v H'
def KpT (K : PySem.W.Frag) (F H : Hp) (G : GH) (Q' : Bool → GH → Prop) (Q : Bool → Hp → Prop) : Prop := ∀ F' H' b G', Go F H G F' H' G' → Gok K F' H' G' → Q' b G' → Q b H'
def KpA (K : PySem.W.Frag) (F H : Hp) (G : GH) (Q' : List D → GH → Prop) (Q : List V → Hp → Prop) : Prop := ∀ F' H' vs ds G', Go F H G F' H' G' → Gok K F' H' G' → Reps K F' vs ds → Q' ds G' → Q vs H'
def KpN (K : PySem.W.Frag) (F H : Hp) (G : GH) (Q' : DS → GH → Prop) (Q : L2.St → Hp → Prop) : Prop := ∀ F' H' σ S G', Go F H G F' H' G' → Ok K F' H' σ S G' → Q' S G' → Q σ H'
structure KpS (K : PySem.W.Frag) (F H : Hp) (G : GH) (D' : DEnds) (D0 : Ends) : Prop where
  nx : KpN K F H G D'.nx D0.nx
  rt : KpE K F H G D'.rt D0.rt
  bk : KpN K F H G D'.bk D0.bk
  ct : KpN K F H G D'.ct D0.ct
section
variable {K : PySem.W.Frag} {F H F1 H1 : Hp} {G G1 : GH}
theorem KpE.mono {Q' : DQ} {Q : VK} (e : Go F H G F1 H1 G1) (h : KpE K F H G Q' Q) : KpE K F1 H1 G1 Q' Q := fun F' H' v d G' a b c q => h F' H' v d G' (e.trans a) b c q
theorem KpT.mono {Q' : Bool → GH → Prop} {Q : Bool → Hp → Prop} (e : Go F H G F1 H1 G1) (h : KpT K F H G Q' Q) : KpT K F1 H1 G1 Q' Q := fun F' H' v G' a b q => h F' H' v G' (e.trans a) b q
theorem KpN.mono {Q' : DS → GH → Prop} {Q : L2.St → Hp → Prop} (e : Go F H G F1 H1 G1) (h : KpN K F H G Q' Q) : KpN K F1 H1 G1 Q' Q := fun F' H' σ S G' a b q => h F' H' σ S G' (e.trans a) b q
theorem KpS.mono {D' : DEnds} {D0 : Ends} (e : Go F H G F1 H1 G1) (h : KpS K F H G D' D0) : KpS K F1 H1 G1 D' D0 := ⟨h.nx.mono e, h.rt.mono e, h.bk.mono e, h.ct.mono e⟩
end
structure DE (X : Cx) (e : Expr) (t' : DTE) : Prop where
  ex : ∃ t, PE X e t ∧ ∀ F H σ S G, Ok X.K F H σ S G → ∀ Q', t' S G Q' → ∀ Q, KpE X.K F H G Q' Q → t σ H Q
structure DT (X : Cx) (e : Expr) (t' : DTT) : Prop where
  ex : ∃ t, PT X e t ∧ ∀ F H σ S G, Ok X.K F H σ S G → ∀ Q', t' S G Q' → ∀ Q, KpT X.K F H G Q' Q → t σ H Q
structure DW (X : Cx) (e : Expr) (t' : DTT) : Prop where
  ex : ∃ t, PW X e t ∧ ∀ F H σ S G, Ok X.K F H σ S G → ∀ Q', t' S G Q' → ∀ Q, KpT X.K F H G Q' Q → t σ H Q
structure DA (X : Cx) (es : List Expr) (t' : DTA) : Prop where
  ex : ∃ t, PA X es t ∧ ∀ F H σ S G, Ok X.K F H σ S G → ∀ Q', t' S G Q' → ∀ Q, KpA X.K F H G Q' Q → t σ H Q
structure DP (X : Cx) (st : Stmt) (t' : DTS) : Prop where
  ex : ∃ t, PS X st t ∧ ∀ F H σ S G, Ok X.K F H σ S G → ∀ D', t' D' S G → ∀ D0, KpS X.K F H G D' D0 → t D0 σ H
structure DPs (X : Cx) (st : List Stmt) (t' : DTS) : Prop where
  ex : ∃ t, PSs X st t ∧ ∀ F H σ S G, Ok X.K F H σ S G → ∀ D', t' D' S G → ∀ D0, KpS X.K F H G D' D0 → t D0 σ H
section
variable {X : Cx} {pos : Pos}
theorem Ok.go {K : PySem.W.Frag} {F H F' H' : Hp} {σ : L2.St} {S : DS} {G G' : GH} (o : Ok K F H σ S G) (e : Go F H G F' H' G') (g : Gok K F' H' G') : Ok K F' H' σ S G' := ⟨g, o.s.mono e.ex⟩
def dVar (i : Nat) : DTE := fun S G Q => match S[i]? with
  | some (some d) => Q d G
  | _ => False
def dC (d : D) : DTE := fun _ G Q => Q d G
theorem de_var (i : Nat) {x : Str} (hN : X.N[i]? = some x := by rfl) (hv : Vis X.env.scope x := by first | exact Or.inl rfl | exact Or.inr (Or.inl rfl) | exact Or.inr (Or.inr rfl)) (hd : (x == ("__debug__" : Str)) = false := by decide)
    (hcd : (x == ("__classdict__" : Str)) = false := by decide) : DE X (.Name x pos) (dVar i) := by
  refine ⟨_, pe_var hN hv hd hcd, fun F H σ S G o Q' h Q k => ?_⟩
  unfold dVar at h
  split at h
  · rename_i d e
    obtain ⟨v, e1, r⟩ := o.s.get e
    exact ⟨v, e1, k F H v d G Go.refl o.g r h⟩
  · exact h.elim
theorem dc_of {e : Expr} {v : V} {d : D} (h : PE X e (tC v)) (r : ∀ F, Rep X.K F v d) : DE X e (dC d) :=
  ⟨_, h, fun F H σ S G o Q' h Q k => k F H v d G Go.refl o.g (r F) h⟩
theorem de_int {i : Int} {j} : DE X (.Constant (.int i) j pos) (dC (.int i)) := dc_of pe_int fun _ => .int i
theorem de_bl {b : Bool} {j} : DE X (.Constant (.bool b) j pos) (dC (.bl b)) := dc_of pe_bl fun _ => .bl b
theorem de_non {j} : DE X (.Constant .none j pos) (dC .non) := dc_of pe_non fun _ => .non
theorem de_str {x : Str} {j} : DE X (.Constant (.str x) j pos) (dC (.str x)) := dc_of pe_str fun _ => .str x
theorem de_gint {x : Str} {i : Int} (hg : Gl X x) (hm : ∃ t, X.mg x = some (.int i t)) (hd : (x == ("__debug__" : Str)) = false := by decide) : DE X (.Name x pos) (dC (.int i)) := by
  obtain ⟨t, hm⟩ := hm
  exact dc_of (pe_glob (v := .int i) hg hm ⟨t, rfl⟩ hd) fun _ => .int i
theorem de_gstr {x z : Str} (hg : Gl X x) (hm : ∃ t, X.mg x = some (.str z t)) (hd : (x == ("__debug__" : Str)) = false := by decide) : DE X (.Name x pos) (dC (.str z)) := by
  obtain ⟨t, hm⟩ := hm
  exact dc_of (pe_glob (v := .str z) hg hm ⟨t, rfl⟩ hd) fun _ => .str z
def dNil : DTA := fun _ G Q => Q [] G
def dCons (ta : DTE) (tr : DTA) : DTA := fun S G Q => ta S G fun d G1 => tr S G1 fun ds G2 => Q (d :: ds) G2
theorem da_nil : DA X [] dNil := ⟨_, pa_nil, fun F H σ S G o Q' h Q k => k F H [] [] G Go.refl o.g .nil h⟩
theorem da_cons {e : Expr} {es : List Expr} {ta : DTE} {tr : DTA} (ha : DE X e ta) (hr : DA X es tr) (hs : starEach (e :: es) X.env = (false, eval e X.env) :: starEach es X.env := by rfl) : DA X (e :: es) (dCons ta tr) := by
  obtain ⟨t1, p1, r1⟩ := ha.ex
  obtain ⟨t2, p2, r2⟩ := hr.ex
  refine ⟨_, pa_cons p1 p2 hs, fun F H σ S G o Q' h Q k => ?_⟩
  refine r1 F H σ S G o _ h _ fun F1 H1 v d G1 e1 g1 q1 h1 => ?_
  refine r2 F1 H1 σ S G1 (o.go e1 g1) _ h1 _ fun F2 H2 vs ds G2 e2 g2 q2 h2 => ?_
  exact k F2 H2 _ _ G2 (e1.trans e2) g2 (.cons (q1.mono e2.ex) q2) h2
def dTup (ta : DTA) : DTE := fun S G Q => ta S G fun ds G1 => ds.length ≤ sizeLine ∧ Q (.tup ds) G1
theorem de_tup {es : List Expr} {ta : DTA} {x1} (h : DA X es ta) : DE X (.Tuple es x1 pos) (dTup ta) := by
  obtain ⟨t, p, r⟩ := h.ex
  refine ⟨_, pe_tup p, fun F H σ S G o Q' h Q k => ?_⟩
  refine r F H σ S G o _ h _ fun F1 H1 vs ds G1 e1 g1 q1 h1 => ?_
  refine ⟨q1.length ▸ h1.1, fun p hp => ?_⟩
  have gr : Gr F1 H1 (upd F1 p (.tup vs)) (upd H1 p (.tup vs)) := Gr.new g1.ex hp
  exact k _ _ _ _ G1 (e1.trans gr.go) (g1.grow gr) (.tup upd_same (q1.mono gr.ff)) h1.2
/-- a list as it is written: frozen -/
def dLst (ta : DTA) : DTE := fun S G Q => ta S G fun ds G1 => ds.length ≤ sizeLine ∧ Q (.lst ds) G1
theorem de_lst {es : List Expr} {ta : DTA} (h : DA X es ta) : DE X (.List es pos) (dLst ta) := by
  obtain ⟨t, p, r⟩ := h.ex
  refine ⟨_, pe_lst p, fun F H σ S G o Q' h Q k => ?_⟩
  refine r F H σ S G o _ h _ fun F1 H1 vs ds G1 e1 g1 q1 h1 => ?_
  refine ⟨q1.length ▸ h1.1, fun p hp => ?_⟩
  have gr : Gr F1 H1 (upd F1 p (.lst vs)) (upd H1 p (.lst vs)) := Gr.new g1.ex hp
  exact k _ _ _ _ G1 (e1.trans gr.go) (g1.grow gr) (.lst upd_same (q1.mono gr.ff)) h1.2
/-- .. that may change -/
def dLstM (ta : DTA) : DTE := fun S G Q => ta S G fun ds G1 => ds.length ≤ sizeLine ∧ ∀ p, G1 p = none → Q (.rf p) (gput G1 p (.lst ds))
theorem de_lstM {es : List Expr} {ta : DTA} (h : DA X es ta) : DE X (.List es pos) (dLstM ta) := by
  obtain ⟨t, p, r⟩ := h.ex
  refine ⟨_, pe_lst p, fun F H σ S G o Q' h Q k => ?_⟩
  refine r F H σ S G o _ h _ fun F1 H1 vs ds G1 e1 g1 q1 h1 => ?_
  refine ⟨q1.length ▸ h1.1, fun p hp => ?_⟩
  exact k _ _ _ _ _ (e1.trans (Go.alloc hp)) (g1.alloc (o := .lst ds) hp rfl ⟨vs, upd_same, q1⟩) (.rf p) (h1.2 p (g1.free hp))
def MO.cold : MO → Option D
  | .lst xs => some (.lst xs)
  | .dK kds => some (.dK kds)
  | .dT kds => some (.dT kds)
  | .ins C kds => some (.obj C kds)
  | .deck _ _ _ _ => none
  | .dcell => none
  | .lkT _ _ _ => none
  | .lkK _ _ _ => none
  | .dN _ _ => none
  | .lkN _ _ _ _ => none
  | .dU _ _ => none
  | .lkU _ _ _ _ => none
  | .tupU _ _ _ => none
theorem Gok.cold {K : PySem.W.Frag} {F H : Hp} {G : GH} (g : Gok K F H G) {p : Addr} {o : MO} {d : D} (h : G p = some o) (hc : o.cold = some d) : ∃ F', Go F H G F' H (gdel G p) ∧ Gok K F' H (gdel G p) ∧ Rep K F' (.ref p) d := by
  obtain ⟨fp, m⟩ := g.at_ p o h
  cases o with
  | lst xs =>
    obtain ⟨vs, e, r⟩ := m
    obtain ⟨g', ef⟩ := g.freeze h rfl e
    cases hc
    exact ⟨_, ef, g', .lst upd_same (r.mono ef.ex)⟩
  | dK kds =>
    obtain ⟨vs, e, l, r⟩ := m
    obtain ⟨g', ef⟩ := g.freeze h rfl e
    cases hc
    exact ⟨_, ef, g', .dK upd_same l (r.mono ef.ex)⟩
  | dT kds =>
    obtain ⟨vs, e, l, r⟩ := m
    obtain ⟨g', ef⟩ := g.freeze h rfl e
    cases hc
    exact ⟨_, ef, g', .dT upd_same l (r.mono ef.ex)⟩
  | ins C kds =>
    obtain ⟨dx, vs, e, l, r⟩ := m
    obtain ⟨g', ef⟩ := g.freeze h rfl e
    cases hc
    exact ⟨_, ef, g', .obj upd_same l (r.mono ef.ex)⟩
  | deck k1 k2 k3 n => cases hc
  | dcell => cases hc
  | lkT o kvs kds => cases hc
  | lkK o kvs kds => cases hc
  | dN w kds => cases hc
  | lkN w o xs kds => cases hc
  | dU w kds => cases hc
  | lkU w o xs kds => cases hc
  | tupU o vs ds => cases hc
/-- the value, frozen from here on -/
def dCold (ta : DTE) : DTE := fun S G Q => ta S G fun d G1 => match d with
  | .rf a => (match G1 a with
    | some o => (match o.cold with
      | some d => Q d (gdel G1 a)
      | none => False)
    | none => False)
  | d => Q d G1
theorem de_cold {e : Expr} {ta : DTE} (h : DE X e ta) : DE X e (dCold ta) := by
  obtain ⟨t, p, r⟩ := h.ex
  refine ⟨t, p, fun F H σ S G o Q' h Q k => ?_⟩
  refine r F H σ S G o _ h _ fun F1 H1 v d G1 e1 g1 q1 h1 => ?_
  dsimp only at h1
  split at h1
  · rename_i a
    split at h1
    · rename_i o eo
      split at h1
      · rename_i d ed
        obtain ⟨F2, e2, g2, r2⟩ := g1.cold eo ed
        cases q1
        exact k F2 H1 _ _ _ (e1.trans e2) g2 r2 h1
      · exact h1.elim
    · exact h1.elim
  · exact k F1 H1 v _ G1 e1 g1 q1 h1
end
end DL
end
section
set_option Elab.async false
set_option linter.all false
set_option maxRecDepth 100000
set_option maxHeartbeats 4000000
namespace DL
open PySem PySem.Spec PyProof.Rows L2
structure FnG (P : Program) (w : World) (K : PySem.W.Frag) (mg : Str → Option Value) (base : Heap) (CX : CXT) (k : Nat) (f : Addr) (fd : FuncData) (ps : List Str) (sp : Sp) : Prop where
  many : ∀ vs H Q E, sp vs H Q E → vs.length = ps.length
  goes : ∀ (A : Around) (outer : List Env) (s : Shared) (H : Hp) (args : Args) (us : List Value) (vs : List V) (Q : VK) (E : XK),
    A.guards = some [] → Room k A → Env0 P w K mg base A outer s H → BindsTo s fd args (ps.zip us) → Vals vs us → sp vs H Q E →
      codeAny (model P w) A (.call (.ref f) args) (CR CX outer P w H s Q E) s
theorem FnG.up {P : Program} {w : World} {K : PySem.W.Frag} {mg : Str → Option Value} {base : Heap} {CX : CXT} {j k : Nat} {f : Addr} {fd : FuncData} {ps : List Str} {sp : Sp} (F : FnG P w K mg base CX j f fd ps sp) (h : j ≤ k) : FnG P w K mg base CX k f fd ps sp :=
  ⟨F.many, fun A outer s H args us vs Q E hg hr => F.goes A outer s H args us vs Q E hg (hr.mono h)⟩
theorem deeper_guards {A : Around} {env : Env} (h : A.guards = some []) : (A.deeper env).guards = some [] := by
  first
  | exact h
  | simpa [Around.deeper] using h
section
variable {P : Program} {w : World} {K : PySem.W.Frag} {mg : Str → Option Value} {base : Heap} {CX : CXT}
/-- a def keeps its promise: by its body -/
theorem fng_of {k : Nat} {f : Addr} {name qual : Str} {params : Arguments} {body : List Stmt} {scope : Scope} {dV kV doc pm cdv ct oc : Value} {an od : Option Addr} {osl : Array (Option Value)} {N ps : List Str} {sp : Sp}
    (lk : K.lookup f = some ⟨oc, od, .func (PySem.W.fnOf name qual params body scope dV kV doc pm an cdv ct), osl⟩)
    (hcd : PySem.W.codeIn K cdv qual = true) (S : FnScope N ps scope) (len : ∀ vs H Q E, sp vs H Q E → vs.length = ps.length)
    (hb : ∀ (A : Around) (outer : List Env) (s : Shared) (H : Hp) (vs : List V) (Q : VK) (E : XK), A.guards = some [] → Room k (A.deeper (envOfC qual scope s.heap.objs.size f cdv)) → sp vs H Q E →
      ∃ t, PSs (cxOf CX P w K mg base N qual scope f cdv A outer s H E) body t ∧ t ⟨fun _ H' => Q .non H', Q, fun _ _ => False, fun _ _ => False⟩ (start N vs) H) :
    FnG P w K mg base CX (k + 1) f (PySem.W.fnOf name qual params body scope dV kV doc pm an cdv ct) ps sp := by
  refine ⟨len, fun A outer s H args us vs Q E hg hr e0 bd r hsp => ?_⟩
  have many := len vs H Q E hsp
  have inn : K.In s.heap := e0.mod.kin.keeps fun a u z => (e0.bs a u z).1
  have nol : s.heap.NoLimit := e0.mod.nolimit.keeps fun a u z => (e0.bs a u z).1
  have kinds : ∀ y ∈ ps.zip us, scope.names.lookup y.1 = some .local ∨ (scope.names.lookup y.1 = some .cell ∧ ((cellsFrom (s.heap.objs.size + 1) scope.names []).lookup y.1).isSome = true) := by
    rintro ⟨n, v⟩ hy
    have hm := (List.of_mem_zip hy).1
    rcases S.par n hm with z | z
    · left; exact z
    · right; exact ⟨z, PySem.W.cellsFrom_some _ _ _ (Or.inl z)⟩
  refine codeAny_call_function hr.depth (inn _ _ lk) rfl S.co S.gen rfl (PySem.W.codeRec_of inn hcd) (bd _ _ _ _ ?_)
  refine wpAny_newFunctionEnv_cells S.kind kinds ?_
  rintro env rfl s1 x
  refine ⟨nol.keeps x.toInCall.keep, codeAny_func ?_⟩
  obtain ⟨t, ht, q⟩ := hb A outer s H vs Q E hg (hr.deeper _) hsp
  have J : Inv (cxOf CX P w K mg base N qual scope f cdv A outer s H E) [] (start N vs) H s1 := inv_start S hr.hd e0 many r x
  refine wpAny_mono (ht.run [] s1 (start N vs) H _ J q) ?_ (fun e s' z => z)
  intro fl s' z
  cases fl with
  | ret u =>
    obtain ⟨v, σ', H', J', rv, q'⟩ := z
    exact ⟨v, H', J'.os, J'.bare, J'.base, J'.hok, rv, q'⟩
  | next =>
    obtain ⟨σ', H', J', q'⟩ := z
    exact ⟨V.non, H', J'.os, J'.bare, J'.base, J'.hok, rfl, q'⟩
  | brk =>
    obtain ⟨_, _, _, q'⟩ := z
    exact q'.elim
  | cont =>
    obtain ⟨_, _, _, q'⟩ := z
    exact q'.elim
end
section
variable {X : Cx} {CX : CXT} {k : Nat} {f C : Addr} {fd : FuncData} {ps ks : List Str} {sp : Sp} {E : XK} {x m : Str} {p pos apos : Pos} {e o : Expr} {es : List Expr} {kws : List Keyword} {ta : TE} {t tk : TA}
  {dvs : List V} {ds : List Value} {g : List Value → List Value → List Value} {gV : List V → List V → List V}
theorem goes_fn {pins : List (Addr × Obj)} {σ : L2.St} {H : Hp} {s : Shared} {Q : VK} {us ws : List Value} {zs : List V} (F : FnG X.prog X.w X.K X.mg X.base CX k f fd ps sp) (hA : X.A.guards = some []) (hr : Room k X.A)
    (kw : List (Str × Value)) (bd : ∀ s : Shared, X.K.In s.heap → ws.length = ps.length → BindsTo s fd ⟨us, kw⟩ (ps.zip ws)) (hx : Passes CX X E)
    (I : Inv X pins σ H s) (r : Vals zs ws) (h : sp zs H Q E) : wpAny (model X.prog X.w) X.A (call (.ref f) us kw) (EP X pins σ Q) X.xe s := by
  have many : ws.length = ps.length := r.length ▸ F.many zs H Q E h
  refine wpAny_call (codeAny_mono (F.goes X.A X.stack s H ⟨us, kw⟩ ws zs Q E hA hr I.env0 (bd s I.kIn many) r h) ?_)
  intro res s' z
  match res, z with
  | .error er, z => exact hx pins σ H s er s' I z
  | .ok (.ret u), z => exact I.after z
  | .ok .next, z => exact z.elim
  | .ok .brk, z => exact z.elim
  | .ok .cont, z => exact z.elim
theorem pg_call (F : FnG X.prog X.w X.K X.mg X.base CX k f fd ps sp) (hA : X.A.guards = some []) (hr : Room k X.A) (hg : Gl X x) (hm : X.mg x = some (.ref f)) (hk : PySem.W.keepIn X.K (.ref f) = true) (hb : Binds X.K fd ps ds) (hd : Vals dvs ds) (hx : Passes CX X E)
    (ha : PA X (e :: es) t) (hdb : (x == ("__debug__" : Str)) = false) (he : starEach (e :: es) X.env = (false, eval e X.env) :: starEach es X.env) (hpl : (backTo pos (starEach es X.env)).any (·.1) = false) :
    PE X (.Call (.Name x p) (e :: es) [] pos) (tCall sp dvs E t) := by
  constructor
  intro pins s σ H Q I h
  apply wpAny_Call_Name_kw
  refine ld_glob I hg hm ?_ hdb
  refine PySem.W.callWith_K (h₀ := X.base) I.ok.mod.kin hk (thn (ha.run pos pins s σ H _ I h) ?_) he hpl
  rintro us s1 ⟨vs, H1, I1, r, q⟩
  exact ⟨I1.kIn, goes_fn F hA hr [] (fun s2 i l => hb s2 us i l) hx I1 (r.append hd) q⟩
theorem under_guards {A : Around} {us : List Value} {kw : List (Str × Value)} (h : A.guards = some []) : (A.under (.builtin "type.__call__" ⟨.ref C :: us, kw⟩)).guards = some [] := by
  simp [Around.under, Code.guards, Code.isGuard, guardIds, pushGuards, h]
theorem goes_make {pins : List (Addr × Obj)} {σ : L2.St} {H : Hp} {s : Shared} {Q : VK} {us : List Value} {vs : List V} (M : Mk X.K C f) (F : FnG X.prog X.w X.K X.mg X.base CX k f fd ps sp) (hA : X.A.guards = some []) (hr : Room (k + 1) X.A) (hb : Binds X.K fd ps ds) (hd : Vals dvs ds)
    (hx : Passes CX X E) (I : Inv X pins σ H s) (r : Vals vs us)
    (h : ∀ y dy, H y = none → H dy = none → dy ≠ y → sp (.ref y :: (vs ++ dvs)) (upd (upd H dy (.own y)) y (.ins C dy [])) (fun v H2 => v = .non ∧ Q (.ref y) H2) E) :
    wpAny (model X.prog X.w) X.A (call (.ref C) us) (EP X pins σ Q) X.xe s := by
  have nw : H (s.heap.objs.size + 1) = none := I.hok.fresh (Nat.le_succ _)
  have nd : H s.heap.objs.size = none := I.hok.fresh (Nat.le_refl _)
  have q0 := h (s.heap.objs.size + 1) s.heap.objs.size nw nd (Nat.ne_of_lt (Nat.lt_succ_self _))
  have J := Inv.made (C := C) I
  have r2 : Vals (V.ref (s.heap.objs.size + 1) :: (vs ++ dvs)) (Value.ref (s.heap.objs.size + 1) :: (us ++ ds)) := Paired.cons rfl (r.append hd)
  have lg : (Value.ref (s.heap.objs.size + 1) :: us ++ ds).length = ps.length := by
    have z := r2.length
    rw [F.many _ _ _ _ q0] at z
    exact z.symm
  refine wpAny_call (make_map (f := f) I.kIn M.makes M.init (beq_iff_eq.mp M.fn) (codeAny_mono (F.goes _ X.stack _ _ ⟨Value.ref (s.heap.objs.size + 1) :: us, []⟩ (Value.ref (s.heap.objs.size + 1) :: (us ++ ds)) _ _ E (under_guards hA) (hr.make C us [])
    (J.env0.make C us []) (hb _ (Value.ref (s.heap.objs.size + 1) :: us) J.kIn lg) r2 q0) ?_))
  intro res s' z
  match res, z with
  | .error er, z => exact hx pins σ _ _ er s' J z
  | .ok (.ret u), z =>
    obtain ⟨v, H', J', rv, ev, q3⟩ := J.after z
    subst ev
    exact ⟨rv, ⟨V.ref (s.heap.objs.size + 1), H', J', rfl, q3⟩⟩
  | .ok .next, z => exact z.elim
  | .ok .brk, z => exact z.elim
  | .ok .cont, z => exact z.elim
theorem pg_make (M : Mk X.K C f) (F : FnG X.prog X.w X.K X.mg X.base CX k f fd ps sp) (hA : X.A.guards = some []) (hr : Room (k + 1) X.A) (hg : Gl X x) (hm : X.mg x = some (.ref C)) (hb : Binds X.K fd ps ds) (hd : Vals dvs ds) (hx : Passes CX X E)
    (ha : PA X (e :: es) t) (hdb : (x == ("__debug__" : Str)) = false) (he : starEach (e :: es) X.env = (false, eval e X.env) :: starEach es X.env) (hpl : (backTo pos (starEach es X.env)).any (·.1) = false) :
    PE X (.Call (.Name x p) (e :: es) [] pos) (tMake C sp dvs E t) := by
  constructor
  intro pins s σ H Q I h
  apply wpAny_Call_Name_kw
  refine ld_glob I hg hm ?_ hdb
  refine PySem.W.callWith_K (h₀ := X.base) I.ok.mod.kin M.kp (thn (ha.run pos pins s σ H _ I h) ?_) he hpl
  rintro us s1 ⟨vs, H1, I1, r, q⟩
  exact ⟨I1.kIn, goes_make M F hA hr hb hd hx I1 r q⟩
end
end DL
end
section
set_option Elab.async false
set_option linter.all false
set_option maxRecDepth 100000
set_option maxHeartbeats 4000000
namespace DL
open PySem PySem.Spec PyProof.Rows L2
section
variable {X : Cx} {pos : Pos}
abbrev DR2 := D → D → GH → DQ → Prop
abbrev DR1 := D → GH → DQ → Prop
structure OpD (X : Cx) (f : Value → Value → Sem Value) (r' : DR2) : Prop where
  ex : ∃ r, OpR X f r ∧ ∀ F H G x y dx dy, Gok X.K F H G → Rep X.K F x dx → Rep X.K F y dy → ∀ Q', r' dx dy G Q' → ∀ Q, KpE X.K F H G Q' Q → r x y H Q
structure UnD (X : Cx) (f : Value → Sem Value) (r' : DR1) : Prop where
  ex : ∃ r, UnR X f r ∧ ∀ F H G x dx, Gok X.K F H G → Rep X.K F x dx → ∀ Q', r' dx G Q' → ∀ Q, KpE X.K F H G Q' Q → r x H Q
structure CallD (X : Cx) (f : Value) (r' : List D → GH → DQ → Prop) : Prop where
  ex : ∃ r, CallR X f r ∧ ∀ F H G vs ds, Gok X.K F H G → Reps X.K F vs ds → ∀ Q', r' ds G Q' → ∀ Q, KpE X.K F H G Q' Q → r vs H Q
def dOp (r : DR2) (ta tb : DTE) : DTE := fun S G Q => ta S G fun x G1 => tb S G1 fun y G2 => r x y G2 Q
def dUn (r : DR1) (ta : DTE) : DTE := fun S G Q => ta S G fun x G1 => r x G1 Q
theorem dop_of {a b : Expr} {ta tb : DTE} {r : R2} {r' : DR2} (hr : ∀ F H G x y dx dy, Gok X.K F H G → Rep X.K F x dx → Rep X.K F y dy → ∀ Q', r' dx dy G Q' → ∀ Q, KpE X.K F H G Q' Q → r x y H Q)
    {t1 t2 : TE} (r1 : ∀ F H σ S G, Ok X.K F H σ S G → ∀ Q', ta S G Q' → ∀ Q, KpE X.K F H G Q' Q → t1 σ H Q) (r2 : ∀ F H σ S G, Ok X.K F H σ S G → ∀ Q', tb S G Q' → ∀ Q, KpE X.K F H G Q' Q → t2 σ H Q) :
    ∀ F H σ S G, Ok X.K F H σ S G → ∀ Q', dOp r' ta tb S G Q' → ∀ Q, KpE X.K F H G Q' Q → tOp r t1 t2 σ H Q := fun F H σ S G o Q' h Q k => by
  refine r1 F H σ S G o _ h _ fun F1 H1 v d G1 e1 g1 q1 h1 => ?_
  refine r2 F1 H1 σ S G1 (o.go e1 g1) _ h1 _ fun F2 H2 u d2 G2 e2 g2 q2 h2 => ?_
  exact hr F2 H2 G2 v u d d2 g2 (q1.mono e2.ex) q2 Q' h2 Q (k.mono (e1.trans e2))
theorem de_op {op : Operator} {r' : DR2} {a b : Expr} {ta tb : DTE} (ho : OpD X (binaryOp op) r') (ha : DE X a ta) (hb : DE X b tb) : DE X (.BinOp a op b pos) (dOp r' ta tb) := by
  obtain ⟨r, p, hr⟩ := ho.ex
  obtain ⟨t1, p1, r1⟩ := ha.ex
  obtain ⟨t2, p2, r2⟩ := hb.ex
  exact ⟨_, pe_op p p1 p2, dop_of (a := a) (b := b) hr r1 r2⟩
theorem de_cmp {op : CmpOp} {r' : DR2} {a b : Expr} {ta tb : DTE} (ho : OpD X (compareOp op) r') (ha : DE X a ta) (hb : DE X b tb) (hm : behindInMarks op b = false) : DE X (.Compare a [op] [b] pos) (dOp r' ta tb) := by
  obtain ⟨r, p, hr⟩ := ho.ex
  obtain ⟨t1, p1, r1⟩ := ha.ex
  obtain ⟨t2, p2, r2⟩ := hb.ex
  exact ⟨_, pe_cmpR p p1 p2 hm, dop_of (a := a) (b := b) hr r1 r2⟩
theorem de_un {op : UnaryOp} {r' : DR1} {a : Expr} {ta : DTE} (ho : UnD X (unaryOp op) r') (ha : DE X a ta) : DE X (.UnaryOp op a pos) (dUn r' ta) := by
  obtain ⟨r, p, hr⟩ := ho.ex
  obtain ⟨t1, p1, r1⟩ := ha.ex
  refine ⟨_, pe_un p p1, fun F H σ S G o Q' h Q k => ?_⟩
  refine r1 F H σ S G o _ h _ fun F1 H1 v d G1 e1 g1 q1 h1 => ?_
  exact hr F1 H1 G1 v d g1 q1 Q' h1 Q (k.mono e1)
/-- a value that is a bool, as a test -/
def dTest (ta : DTE) : DTT := fun S G Q => ta S G fun d G1 => match d with
  | .bl b => Q b G1
  | _ => False
theorem dt_cmp {op : CmpOp} {r' : DR2} {a b : Expr} {ta tb : DTE} (ho : OpD X (compareOp op) r') (ha : DE X a ta) (hb : DE X b tb) (hm : behindInMarks op b = false) : DT X (.Compare a [op] [b] pos) (dTest (dOp r' ta tb)) := by
  obtain ⟨r, p, hr⟩ := ho.ex
  obtain ⟨t1, p1, r1⟩ := ha.ex
  obtain ⟨t2, p2, r2⟩ := hb.ex
  refine ⟨_, pt_cmpR p p1 p2 hm, fun F H σ S G o Q' h Q k => ?_⟩
  refine dop_of (a := a) (b := b) hr r1 r2 F H σ S G o _ h _ fun F1 H1 v d G1 e1 g1 q1 h1 => ?_
  dsimp only at h1
  split at h1
  · cases q1
    exact ⟨_, rfl, k F1 H1 _ G1 e1 g1 h1⟩
  · exact h1.elim
theorem dt_val {e : Expr} {ta : DTE} (h : DE X e ta) (he : ∀ whole, isTrue e X.env whole = (do let v ← whole; standAt e.pos; holding [v] (truthy v)) := by intro _; rfl) : DT X e (dTest ta) := by
  obtain ⟨t1, p1, r1⟩ := h.ex
  refine ⟨_, pt_val p1 he, fun F H σ S G o Q' h Q k => ?_⟩
  refine r1 F H σ S G o _ h _ fun F1 H1 v d G1 e1 g1 q1 h1 => ?_
  dsimp only at h1
  split at h1
  · cases q1
    exact ⟨_, rfl, k F1 H1 _ G1 e1 g1 h1⟩
  · exact h1.elim
def dNot (t : DTT) : DTT := fun S G Q => t S G fun b G1 => Q (!b) G1
theorem dt_not {a : Expr} {t' : DTT} (h : DT X a t') : DT X (.UnaryOp .Not a pos) (dNot t') := by
  obtain ⟨t1, p1, r1⟩ := h.ex
  exact ⟨_, pt_not p1, fun F H σ S G o Q' h Q k => r1 F H σ S G o _ h _ fun F1 H1 b G1 e1 g1 h1 => k F1 H1 _ G1 e1 g1 h1⟩
theorem DW.dt {e : Expr} {t' : DTT} (h : DW X e t') : DT X e t' := by
  obtain ⟨t1, p1, r1⟩ := h.ex
  exact ⟨_, p1.pt, r1⟩
def dAnd (t u : DTT) : DTT := fun S G Q => t S G fun b G1 => if b = true then u S G1 Q else Q false G1
def dOr (t u : DTT) : DTT := fun S G Q => t S G fun b G1 => if b = true then Q true G1 else u S G1 Q
theorem dw_and1 {a : Expr} {t' : DTT} (h : DT X a t') : DW X (.BoolOp .And [a] pos) t' := by
  obtain ⟨t1, p1, r1⟩ := h.ex
  exact ⟨_, pw_and1 p1, r1⟩
theorem dw_or1 {a : Expr} {t' : DTT} (h : DT X a t') : DW X (.BoolOp .Or [a] pos) t' := by
  obtain ⟨t1, p1, r1⟩ := h.ex
  exact ⟨_, pw_or1 p1, r1⟩
theorem dw_and {a b : Expr} {rest : List Expr} {t' u' : DTT} (h : DT X a t') (h2 : DW X (.BoolOp .And (b :: rest) pos) u') : DW X (.BoolOp .And (a :: b :: rest) pos) (dAnd t' u') := by
  obtain ⟨t1, p1, r1⟩ := h.ex
  obtain ⟨t2, p2, r2⟩ := h2.ex
  refine ⟨_, pw_and p1 p2, fun F H σ S G o Q' h Q k => ?_⟩
  refine r1 F H σ S G o _ h _ fun F1 H1 b G1 e1 g1 h1 => ?_
  cases b with
  | true =>
    rw [if_pos rfl] at h1 ⊢
    exact r2 F1 H1 σ S G1 (o.go e1 g1) _ h1 _ (k.mono e1)
  | false =>
    rw [if_neg Bool.false_ne_true] at h1 ⊢
    exact k F1 H1 _ G1 e1 g1 h1
theorem dw_or {a b : Expr} {rest : List Expr} {t' u' : DTT} (h : DT X a t') (h2 : DW X (.BoolOp .Or (b :: rest) pos) u') : DW X (.BoolOp .Or (a :: b :: rest) pos) (dOr t' u') := by
  obtain ⟨t1, p1, r1⟩ := h.ex
  obtain ⟨t2, p2, r2⟩ := h2.ex
  refine ⟨_, pw_or p1 p2, fun F H σ S G o Q' h Q k => ?_⟩
  refine r1 F H σ S G o _ h _ fun F1 H1 b G1 e1 g1 h1 => ?_
  cases b with
  | true =>
    rw [if_pos rfl] at h1 ⊢
    exact k F1 H1 _ G1 e1 g1 h1
  | false =>
    rw [if_neg Bool.false_ne_true] at h1 ⊢
    exact r2 F1 H1 σ S G1 (o.go e1 g1) _ h1 _ (k.mono e1)
def dIf (t : DTT) (ta tb : DTE) : DTE := fun S G Q => t S G fun b G1 => if b = true then ta S G1 Q else tb S G1 Q
theorem de_if {c a b : Expr} {t' : DTT} {ta tb : DTE} (hc : DT X c t') (ha : DE X a ta) (hb : DE X b tb) : DE X (.IfExp c a b pos) (dIf t' ta tb) := by
  obtain ⟨t0, p0, r0⟩ := hc.ex
  obtain ⟨t1, p1, r1⟩ := ha.ex
  obtain ⟨t2, p2, r2⟩ := hb.ex
  refine ⟨_, pe_ifExp p0 p1 p2, fun F H σ S G o Q' h Q k => ?_⟩
  refine r0 F H σ S G o _ h _ fun F1 H1 b G1 e1 g1 h1 => ?_
  cases b with
  | true =>
    rw [if_pos rfl] at h1 ⊢
    exact r1 F1 H1 σ S G1 (o.go e1 g1) _ h1 _ (k.mono e1)
  | false =>
    rw [if_neg Bool.false_ne_true] at h1 ⊢
    exact r2 F1 H1 σ S G1 (o.go e1 g1) _ h1 _ (k.mono e1)
/-- and, or, not as values: bools -/
def dAndV (ta tb : DTE) : DTE := fun S G Q => ta S G fun d G1 => match d with
  | .bl b => if b = true then tb S G1 Q else Q (.bl false) G1
  | _ => False
def dOrV (ta tb : DTE) : DTE := fun S G Q => ta S G fun d G1 => match d with
  | .bl b => if b = true then Q (.bl true) G1 else tb S G1 Q
  | _ => False
def dNotV (ta : DTE) : DTE := fun S G Q => ta S G fun d G1 => match d with
  | .bl b => Q (.bl (!b)) G1
  | _ => False
theorem de_one {op} {a : Expr} {ta : DTE} (h : DE X a ta) : DE X (.BoolOp op [a] pos) ta := by
  obtain ⟨t1, p1, r1⟩ := h.ex
  exact ⟨_, pe_one p1, r1⟩
theorem de_and {a b : Expr} {rest : List Expr} {ta tb : DTE} (ha : DE X a ta) (hb : DE X (.BoolOp .And (b :: rest) pos) tb) : DE X (.BoolOp .And (a :: b :: rest) pos) (dAndV ta tb) := by
  obtain ⟨t1, p1, r1⟩ := ha.ex
  obtain ⟨t2, p2, r2⟩ := hb.ex
  refine ⟨_, pe_and p1 p2, fun F H σ S G o Q' h Q k => ?_⟩
  refine r1 F H σ S G o _ h _ fun F1 H1 v d G1 e1 g1 q1 h1 => ?_
  dsimp only at h1
  split at h1
  · rename_i b0
    cases q1
    refine ⟨b0, rfl, ?_⟩
    cases b0 with
    | true =>
      rw [if_pos rfl] at h1 ⊢
      exact r2 F1 H1 σ S G1 (o.go e1 g1) _ h1 _ (k.mono e1)
    | false =>
      rw [if_neg Bool.false_ne_true] at h1 ⊢
      exact k F1 H1 _ _ G1 e1 g1 (.bl _) h1
  · exact h1.elim
theorem de_not {a : Expr} {ta : DTE} (ha : DE X a ta) : DE X (.UnaryOp .Not a pos) (dNotV ta) := by
  obtain ⟨t1, p1, r1⟩ := ha.ex
  refine ⟨_, pe_not p1, fun F H σ S G o Q' h Q k => ?_⟩
  refine r1 F H σ S G o _ h _ fun F1 H1 v d G1 e1 g1 q1 h1 => ?_
  dsimp only at h1
  split at h1
  · rename_i b0
    cases q1
    exact ⟨b0, rfl, k F1 H1 _ _ G1 e1 g1 (.bl _) h1⟩
  · exact h1.elim
abbrev DTG := D → DS → GH → (DS → GH → Prop) → Prop
abbrev DTGs := List D → DS → GH → (DS → GH → Prop) → Prop
structure DG (X : Cx) (tg : Expr) (g' : DTG) : Prop where
  ex : ∃ g, PG X tg g ∧ ∀ F H σ S G v d, Ok X.K F H σ S G → Rep X.K F v d → ∀ Q', g' d S G Q' → ∀ Q, KpN X.K F H G Q' Q → g v σ H Q
structure DGs (X : Cx) (tgs : List Expr) (g' : DTGs) : Prop where
  ex : ∃ g, PGs X tgs g ∧ ∀ F H σ S G vs ds, Ok X.K F H σ S G → Reps X.K F vs ds → ∀ Q', g' ds S G Q' → ∀ Q, KpN X.K F H G Q' Q → g vs σ H Q
def dgName (i : Nat) : DTG := fun d S G Q => Q (S.set i (some d)) G
theorem dg_name (i : Nat) {x : Str} (hN : X.N.Nodup) (hi : X.N[i]? = some x := by rfl) (hx : Loc X.env.scope x := by first | exact Or.inl rfl | exact Or.inr rfl) (hf : X.fn x = true ∨ X.env.scope.names.lookup x = some .local := by first | exact .inl rfl | exact .inr rfl | assumption) : DG X (.Name x pos) (dgName i) :=
  ⟨_, pg_name (i := i) hN hi hx hf, fun F H σ S G v d o r Q' h Q k => k F H _ _ G Go.refl ⟨o.g, o.s.set r i⟩ h⟩
def dgNil : DTGs := fun ds S G Q => match ds with
  | [] => Q S G
  | _ => False
def dgCons (t : DTG) (u : DTGs) : DTGs := fun ds S G Q => match ds with
  | d :: r => t d S G fun S1 G1 => u r S1 G1 Q
  | _ => False
theorem dgs_nil : DGs X [] dgNil := ⟨_, pgs_nil, fun F H σ S G vs ds o r Q' h Q k => by
  cases r with
  | nil => exact ⟨rfl, k F H σ S G Go.refl o h⟩
  | cons a b => exact h.elim⟩
theorem dgs_cons {e : Expr} {es : List Expr} {t : DTG} {u : DTGs} (h1 : DG X e t) (h2 : DGs X es u) (hs : (assignEach (e :: es) X.env).map (·.2) = assign e X.env :: (assignEach es X.env).map (·.2) := by rfl) : DGs X (e :: es) (dgCons t u) := by
  obtain ⟨t1, p1, r1⟩ := h1.ex
  obtain ⟨t2, p2, r2⟩ := h2.ex
  refine ⟨_, pgs_cons p1 p2 hs, fun F H σ S G vs ds o r Q' h Q k => ?_⟩
  cases r with
  | nil => exact h.elim
  | cons a b =>
    refine ⟨_, _, rfl, r1 F H σ S G _ _ o a _ h _ fun F1 H1 σ1 S1 G1 e1 o1 h1 => ?_⟩
    exact r2 F1 H1 σ1 S1 G1 _ _ o1 (b.mono e1.ex) _ h1 _ (k.mono e1)
def dgTup (n : Nat) (u : DTGs) : DTG := fun d S G Q => match d with
  | .tup ds => ds.length = n ∧ u ds S G Q
  | .kup ds => ds.length = n ∧ u ds S G Q
  | _ => False
theorem dg_tup {es : List Expr} {k : Nat} {u : DTGs} {n : Nat} (hc : X.calm = true) (h : DGs X es u) (hn : (assignEach es X.env).length = n := by rfl) (hst : (assignEach es X.env).findIdx? (·.1) = none := by rfl) : DG X (.Tuple es k pos) (dgTup n u) := by
  obtain ⟨t1, p1, r1⟩ := h.ex
  refine ⟨_, pg_tup hc p1 hn hst, fun F H σ S G v d o r Q' h Q k => ?_⟩
  cases r with
  | tup hs hr =>
    refine ⟨_, _, rfl, .inl (.inl (o.g.ex _ _ hs)), by rw [hr.length]; exact h.1, ?_⟩
    exact r1 F H σ S G _ _ o hr _ h.2 _ k
  | kup hs hr =>
    refine ⟨_, _, rfl, o.g.ex.sqt hs, by rw [hr.length]; exact h.1, ?_⟩
    exact r1 F H σ S G _ _ o hr _ h.2 _ k
  | _ => exact h.elim
def dNext : DTS := fun D' S G => D'.nx S G
def dSeq (t u : DTS) : DTS := fun D' S G => t { D' with nx := u D' } S G
def dAsg (te : DTE) (g : DTG) : DTS := fun D' S G => te S G fun d G1 => g d S G1 D'.nx
def dDrop (te : DTE) : DTS := fun D' S G => te S G fun _ G1 => D'.nx S G1
def dRet (te : DTE) : DTS := fun D' S G => te S G D'.rt
def dRetN : DTS := fun D' _ G => D'.rt .non G
def dIfS (c : DTT) (t u : DTS) : DTS := fun D' S G => c S G fun b G1 => if b = true then t D' S G1 else u D' S G1
def dNever : DTS := fun _ _ _ => False
def dBreak : DTS := fun D' S G => D'.bk S G
def dCont : DTS := fun D' S G => D'.ct S G
theorem dps_nil : DPs X [] dNext := ⟨_, pss_nil, fun F H σ S G o D' h D0 k => k.nx F H σ S G Go.refl o h⟩
theorem dps_cons {st : Stmt} {rest : List Stmt} {t u : DTS} (h1 : DP X st t) (h2 : DPs X rest u) : DPs X (st :: rest) (dSeq t u) := by
  obtain ⟨t1, p1, r1⟩ := h1.ex
  obtain ⟨t2, p2, r2⟩ := h2.ex
  refine ⟨_, pss_cons p1 p2, fun F H σ S G o D' h D0 k => ?_⟩
  exact r1 F H σ S G o _ h _ ⟨fun F1 H1 σ1 S1 G1 e1 o1 h1 => r2 F1 H1 σ1 S1 G1 o1 _ h1 _ (k.mono e1), k.rt, k.bk, k.ct⟩
theorem dps_one {st : Stmt} {t : DTS} (h1 : DP X st t) : DPs X [st] t := by
  obtain ⟨t1, p1, r1⟩ := h1.ex
  exact ⟨_, pss_one p1, r1⟩
theorem dp_asg {tg e : Expr} {te : DTE} {g : DTG} (he : DE X e te) (hg : DG X tg g) (hs : swapsWithSole [tg] e pos.line X.env = pure false := by rfl) (hw : swappedStores [tg] e X.env = pure none := by rfl)
    (h1 : (assignEach [tg] X.env).map (·.2) = [assign tg X.env] := by rfl) : DP X (.Assign [tg] e pos) (dAsg te g) := by
  obtain ⟨t1, p1, r1⟩ := he.ex
  obtain ⟨t2, p2, r2⟩ := hg.ex
  refine ⟨_, ps_asg p1 p2 hs hw h1, fun F H σ S G o D' h D0 k => ?_⟩
  refine r1 F H σ S G o _ h _ fun F1 H1 v d G1 e1 g1 q1 h1 => ?_
  exact r2 F1 H1 σ S G1 v d (o.go e1 g1) q1 _ h1 _ (k.nx.mono e1)
theorem dp_expr {e : Expr} {te : DTE} (he : DE X e te) (hs : swapsWith e none pos.line X.env = pure false := by rfl) : DP X (.Expr e pos) (dDrop te) := by
  obtain ⟨t1, p1, r1⟩ := he.ex
  refine ⟨_, ps_expr p1 hs, fun F H σ S G o D' h D0 k => ?_⟩
  exact r1 F H σ S G o _ h _ fun F1 H1 v d G1 e1 g1 q1 h1 => k.nx F1 H1 σ S G1 e1 (o.go e1 g1) h1
theorem dp_ret {e : Expr} {te : DTE} (he : DE X e te) : DP X (.Return (some e) pos) (dRet te) := by
  obtain ⟨t1, p1, r1⟩ := he.ex
  exact ⟨_, ps_ret p1, fun F H σ S G o D' h D0 k => r1 F H σ S G o _ h _ k.rt⟩
theorem dp_if {c : Expr} {a b : List Stmt} {tc : DTT} {t u : DTS} (hc : DT X c tc) (ha : DPs X a t) (hb : DPs X b u) : DP X (.If c a b pos) (dIfS tc t u) := by
  obtain ⟨t0, p0, r0⟩ := hc.ex
  obtain ⟨t1, p1, r1⟩ := ha.ex
  obtain ⟨t2, p2, r2⟩ := hb.ex
  refine ⟨_, ps_if p0 p1 p2, fun F H σ S G o D' h D0 k => ?_⟩
  refine r0 F H σ S G o _ h _ fun F1 H1 b G1 e1 g1 h1 => ?_
  cases b with
  | true =>
    rw [if_pos rfl] at h1 ⊢
    exact r1 F1 H1 σ S G1 (o.go e1 g1) _ h1 _ (k.mono e1)
  | false =>
    rw [if_neg Bool.false_ne_true] at h1 ⊢
    exact r2 F1 H1 σ S G1 (o.go e1 g1) _ h1 _ (k.mono e1)
theorem dp_never {st : Stmt} : DP X st dNever := ⟨_, ps_never, fun F H σ S G o D' h D0 k => h.elim⟩
def dWhile (c : DTT) (tb : DTS) : DTS := fun D' S G => ∃ W : Nat → DS → GH → Prop, (∃ m, W m S G) ∧ ∀ m S G, W m S G →
  c S G fun b G1 => if b = true then tb { D' with nx := fun S' G' => ∃ m', m' < m ∧ W m' S' G', ct := fun S' G' => ∃ m', m' < m ∧ W m' S' G', bk := D'.nx } S G1 else D'.nx S G1
theorem dp_while {c : Expr} {body : List Stmt} {tc : DTT} {tb : DTS} (hp : PassesOwn (model X.prog X.w) X.A X.env X.xe) (hc : DT X c tc) (hb : DPs X body tb) : DP X (.While c body [] pos) (dWhile tc tb) := by
  obtain ⟨t0, p0, r0⟩ := hc.ex
  obtain ⟨t1, p1, r1⟩ := hb.ex
  refine ⟨_, ps_while hp p0 p1, fun F H σ S G o D' h D0 k => ?_⟩
  obtain ⟨W, ⟨m0, w0⟩, turn⟩ := h
  refine ⟨fun m σ1 H1 => ∃ F1 S1 G1, Go F H G F1 H1 G1 ∧ Ok X.K F1 H1 σ1 S1 G1 ∧ W m S1 G1, ⟨m0, F, S, G, Go.refl, o, w0⟩, fun m σ1 H1 ⟨F1, S1, G1, e1, o1, w1⟩ => ?_⟩
  refine r0 F1 H1 σ1 S1 G1 o1 _ (turn m S1 G1 w1) _ fun F2 H2 b G2 e2 g2 h2 => ?_
  cases b with
  | true =>
    rw [if_pos rfl] at h2 ⊢
    refine ⟨fun σ3 H3 => ∃ m', m' < m ∧ ∃ F3 S3 G3, Go F H G F3 H3 G3 ∧ Ok X.K F3 H3 σ3 S3 G3 ∧ W m' S3 G3, fun σ3 H3 z => z, ?_⟩
    have kk := k.mono (e1.trans e2)
    have nn : KpN X.K F2 H2 G2 (fun S' G' => ∃ m', m' < m ∧ W m' S' G') (fun σ3 H3 => ∃ m', m' < m ∧ ∃ F3 S3 G3, Go F H G F3 H3 G3 ∧ Ok X.K F3 H3 σ3 S3 G3 ∧ W m' S3 G3) := fun F3 H3 σ3 S3 G3 e3 o3 ⟨m', hm, w3⟩ => ⟨m', hm, F3, S3, G3, (e1.trans e2).trans e3, o3, w3⟩
    exact r1 F2 H2 σ1 S1 G2 (o1.go e2 g2) _ h2 _ ⟨nn, kk.rt, kk.nx, nn⟩
  | false =>
    rw [if_neg Bool.false_ne_true] at h2 ⊢
    exact k.nx F2 H2 σ1 S1 G2 (e1.trans e2) (o1.go e2 g2) h2
structure ItOk (K : PySem.W.Frag) (F : Hp) (J : It) (ds : List D) (gd : GH → Prop) : Prop where
  go : ∀ F1 H1 G1 (i : Nat) d, Ex F F1 → Gok K F1 H1 G1 → gd G1 → ds[i]? = some d → J.go i H1 ∧ ∀ x H2, J.yld i H1 x H2 → ∃ F2, Go F1 H1 G1 F2 H2 G1 ∧ Gok K F2 H2 G1 ∧ Rep K F2 x d
  stop : ∀ F1 H1 G1, Ex F F1 → Gok K F1 H1 G1 → gd G1 → J.stop ds.length H1
abbrev DTI := DS → GH → (List D → (GH → Prop) → GH → Prop) → Prop
structure DI (X : Cx) (tg iter : Expr) (wi' : DTI) : Prop where
  ex : ∃ wi, PI X tg iter wi ∧ ∀ F H σ S G, Ok X.K F H σ S G → ∀ R', wi' S G R' → ∀ R : It → Hp → Prop, (∀ F1 H1 G1 J ds gd, Go F H G F1 H1 G1 → Gok X.K F1 H1 G1 → ItOk X.K F1 J ds gd → R' ds gd G1 → R J H1) → wi σ H R
def dFor (wi : DTI) (g : DTG) (tb : DTS) : DTS := fun D' S G => wi S G fun ds gd G1 => ∃ W : Nat → DS → GH → Prop, W 0 S G1 ∧ (∀ i S G, W i S G → gd G) ∧
  (∀ i S G d, W i S G → ds[i]? = some d → g d S G fun S2 G2 => tb { D' with nx := W (i + 1), ct := W (i + 1), bk := D'.nx } S2 G2) ∧ (∀ S G, W ds.length S G → D'.nx S G)
theorem dp_for {tg iter : Expr} {body : List Stmt} {wi : DTI} {g : DTG} {tb : DTS} (hp : PassesOwn (model X.prog X.w) X.A X.env X.xe) (hc : X.calm = true) (hi : DI X tg iter wi) (hg : DG X tg g) (hb : DPs X body tb)
    (hs : ∀ x, foldedSetIterable iter X.env x = pure x := by intro _; rfl) : DP X (.For tg iter body [] pos) (dFor wi g tb) := by
  obtain ⟨t0, p0, r0⟩ := hi.ex
  obtain ⟨t1, p1, r1⟩ := hg.ex
  obtain ⟨t2, p2, r2⟩ := hb.ex
  refine ⟨_, ps_for hp hc p0 p1 p2 hs, fun F H σ S G o D' h D0 k => ?_⟩
  refine r0 F H σ S G o _ h _ fun F1 H1 G1 J ds gd e1 g1 it h1 => ?_
  obtain ⟨W, w0, wg, turn, done⟩ := h1
  refine ⟨fun i m σ2 H2 => i + m = ds.length ∧ ∃ F2 S2 G2, Go F1 H1 G1 F2 H2 G2 ∧ Ok X.K F2 H2 σ2 S2 G2 ∧ W i S2 G2, ⟨ds.length, Nat.zero_add _, F1, S, G1, Go.refl, o.go e1 g1, w0⟩, ?_⟩
  rintro i m σ2 H2 ⟨him, F2, S2, G2, e2, o2, w2⟩
  have gg := wg i S2 G2 w2
  cases m with
  | zero =>
    have hi : i = ds.length := him
    refine .inl ⟨hi ▸ it.stop F2 H2 G2 e2.ex o2.g gg, k.nx F2 H2 σ2 S2 G2 (e1.trans e2) o2 (done S2 G2 (hi ▸ w2))⟩
  | succ m =>
    have hlt : i < ds.length := by omega
    have hd : ds[i]? = some ds[i] := List.getElem?_eq_getElem hlt
    obtain ⟨ig, iy⟩ := it.go F2 H2 G2 i _ e2.ex o2.g gg hd
    refine .inr ⟨ig, fun σ3 H3 => ∃ F3 S3 G3, Go F1 H1 G1 F3 H3 G3 ∧ Ok X.K F3 H3 σ3 S3 G3 ∧ W (i + 1) S3 G3, fun σ3 H3 z => ⟨m, Nat.lt_succ_self m, by omega, z⟩, fun x H3 hy => ?_⟩
    obtain ⟨F3, e3, g3, q3⟩ := iy x H3 hy
    refine r1 F3 H3 σ2 S2 G2 x _ (o2.go e3 g3) q3 _ (turn i S2 G2 _ w2 hd) _ fun F4 H4 σ4 S4 G4 e4 o4 h4 => ?_
    have kk := k.mono (((e1.trans e2).trans e3).trans e4)
    have nn : KpN X.K F4 H4 G4 (W (i + 1)) (fun σ3 H3 => ∃ F3 S3 G3, Go F1 H1 G1 F3 H3 G3 ∧ Ok X.K F3 H3 σ3 S3 G3 ∧ W (i + 1) S3 G3) := fun F5 H5 σ5 S5 G5 e5 o5 w5 => ⟨F5, S5, G5, ((e2.trans e3).trans e4).trans e5, o5, w5⟩
    exact r2 F4 H4 σ4 S4 G4 o4 _ h4 _ ⟨nn, kk.rt, kk.nx, nn⟩
abbrev SpD := List D → GH → DQ → Prop
def SpOf (K : PySem.W.Frag) (sp : SpD) : Sp := fun vs H Q _ => ∃ F G ds Q', Gok K F H G ∧ Reps K F vs ds ∧ sp ds G Q' ∧ KpE K F H G Q' Q
def dCall (sp : SpD) (ta : DTA) : DTE := fun S G Q => ta S G fun ds G1 => sp ds G1 Q
theorem de_call {k : Nat} {f : Addr} {fd : FuncData} {ps : List Str} {sp : SpD} {x : Str} {p : Pos} {e : Expr} {es : List Expr} {ta : DTA} (Fn : FnG X.prog X.w X.K X.mg X.base CX0 k f fd ps (SpOf X.K sp)) (hA : X.A.guards = some []) (hr : Room k X.A) (hg : Gl X x) (hm : X.mg x = some (.ref f)) (hk : PySem.W.keepIn X.K (.ref f) = true) (hb : Binds X.K fd ps [])
    (ha : DA X (e :: es) ta) (hdb : (x == ("__debug__" : Str)) = false := by decide) (he : starEach (e :: es) X.env = (false, eval e X.env) :: starEach es X.env := by rfl) (hpl : (backTo pos (starEach es X.env)).any (·.1) = false := by rfl) :
    DE X (.Call (.Name x p) (e :: es) [] pos) (dCall sp ta) := by
  obtain ⟨t1, p1, r1⟩ := ha.ex
  refine ⟨_, pg_call Fn hA hr hg hm hk hb .nil pass0 p1 hdb he hpl, fun F H σ S G o Q' h Q k => ?_⟩
  refine r1 F H σ S G o _ h _ fun F1 H1 vs ds G1 e1 g1 q1 h1 => ?_
  rw [List.append_nil]
  exact ⟨F1, G1, ds, Q', g1, q1, h1, k.mono e1⟩
end
/-- what is wanted at a def's end: its own things may be forgotten -/
def fin (Q : DQ) : DEnds := { nx := fun _ G' => ∃ G0, Sub G0 G' ∧ Q .non G0, rt := fun d G' => ∃ G0, Sub G0 G' ∧ Q d G0 }
theorem fn_mk {P : Program} {w : World} {K : PySem.W.Frag} {mg : Str → Option Value} {base : Heap} {x qual : Str} {st : Stmt} {f : Addr} {fd : FuncData} {N ps : List Str} {k : Nat} {sp : SpD} (Fu : Fun K x qual st f fd) (sc : FnScope N ps (defScope st))
    (len : ∀ ds G Q, sp ds G Q → ds.length = ps.length)
    (hb : ∀ (cdv : Value) (A : Around) (outer : List Env) (s : Shared) (H : Hp) (E : XK), A.guards = some [] → Room k (A.deeper (envOfC qual (defScope st) s.heap.objs.size f cdv)) →
      ∃ t', DPs (cxOf CX0 P w K mg base N qual (defScope st) f cdv A outer s H E).nox (defBody st) t' ∧ ∀ ds G Q, sp ds G Q → t' (fin Q) (dstart N ds) G) : FnG P w K mg base CX0 (k + 1) f fd ps (SpOf K sp) := by
  obtain ⟨oc, od, kV, doc, pm, an, cdv, ct, osl, rfl, lk, hcd⟩ := Fu.ex
  refine fng_of lk hcd sc (fun vs H Q E h => ?_) (fun A outer s H vs Q E hg hr h => ?_)
  · obtain ⟨F, G, ds, Q', g, r, h, _⟩ := h
    rw [r.length]
    exact len ds G Q' h
  · obtain ⟨F, G, ds, Q', g, r, h, kk⟩ := h
    obtain ⟨t', d, rd⟩ := hb cdv A outer s H E hg hr
    obtain ⟨t, p, rf⟩ := d.ex
    refine ⟨t, p.nox, rf F H _ _ G ⟨g, r.start⟩ _ (rd ds G Q' h) _ ⟨fun F1 H1 σ1 S1 G1 e1 o1 h1 => ?_, fun F1 H1 v d G1 e1 g1 r1 h1 => ?_, fun _ _ _ _ _ _ _ z => z.elim, fun _ _ _ _ _ _ _ z => z.elim⟩⟩
    · obtain ⟨G0, sb, h1⟩ := h1
      exact kk F1 H1 _ _ G0 (e1.sub sb) (o1.g.sub sb) .non h1
    · obtain ⟨G0, sb, h1⟩ := h1
      exact kk F1 H1 v d G0 (e1.sub sb) (g1.sub sb) r1 h1
end DL
end
section
set_option Elab.async false
set_option linter.all false
set_option maxRecDepth 100000
set_option maxHeartbeats 4000000
namespace DL
open PySem PySem.Spec PyProof.Rows L2
mutual
def D.py : D → PyData
  | .non => .none
  | .bl b => .bool b
  | .int i => .int i
  | .str x => .str x
  | .tup xs | .kup xs => .tuple (D.pys xs)
  | .lst xs => .list (D.pys xs)
  | _ => .none
def D.pys : List D → List PyData
  | [] => []
  | x :: xs => D.py x :: D.pys xs
end
mutual
def D.pl : D → Bool
  | .non | .bl _ | .int _ | .str _ => true
  | .tup xs | .lst xs | .kup xs => D.pls xs
  | _ => false
def D.pls : List D → Bool
  | [] => true
  | x :: xs => D.pl x && D.pls xs
end
mutual
theorem D.py_plain : ∀ d : D, d.pl = true → d.py.plain = true
  | .non, _ => rfl
  | .bl _, _ => rfl
  | .int _, _ => rfl
  | .str _, _ => rfl
  | .tup xs, h => D.pys_plain xs h
  | .lst xs, h => D.pys_plain xs h
  | .kup xs, h => D.pys_plain xs h
  | .ty _, h => by cases h
  | .dK _, h => by cases h
  | .dT _, h => by cases h
  | .obj _ _, h => by cases h
  | .rf _, h => by cases h
  | .scr _, h => by cases h
theorem D.pys_plain : ∀ xs : List D, D.pls xs = true → PyData.plainAll (D.pys xs) = true
  | [], _ => rfl
  | x :: xs, h => by
    have h' : x.pl = true ∧ D.pls xs = true := by simpa [D.pls] using h
    simp only [D.pys, PyData.plainAll, D.py_plain x h'.1, D.pys_plain xs h'.2, Bool.and_self]
end
theorem D.pys_map (xs : List D) : D.pys xs = xs.map D.py := by
  induction xs with
  | nil => rfl
  | cons x xs ih => simp [D.pys, ih]
theorem D.pls_all (xs : List D) : D.pls xs = xs.all D.pl := by
  induction xs with
  | nil => rfl
  | cons x xs ih => simp [D.pls, ih]
mutual
theorem Rep.dp {K : PySem.W.Frag} {F : Hp} : ∀ (d : D) {v : V}, Rep K F v d → d.pl = true → Dp K F v d.py
  | .non, _, .non, _ => .non
  | .bl _, _, .bl b, _ => .bl b
  | .int _, _, .int i, _ => .int i
  | .str _, _, .str x, _ => .str x
  | .tup xs, _, .tup h r, p => .tup (.inl (.inl h)) (Reps.dp xs r p)
  | .lst xs, _, .lst h r, p => .lst (.inl (.inl h)) (Reps.dp xs r p)
  | .kup xs, _, .kup h r, p => .tup h (Reps.dp xs r p)
theorem Reps.dp {K : PySem.W.Frag} {F : Hp} : ∀ (ds : List D) {vs : List V}, Reps K F vs ds → D.pls ds = true → DpAll K F vs (D.pys ds)
  | [], _, .nil, _ => .nil
  | d :: ds, _, .cons h t, p => by
    have p' : d.pl = true ∧ D.pls ds = true := by simpa [D.pls] using p
    exact .cons (Rep.dp d h p'.1) (Reps.dp ds t p'.2)
end
mutual
theorem Dp.mono' {K : PySem.W.Frag} {F F' : Hp} (e : Ex F F') : ∀ (d : PyData) {v : V}, Dp K F v d → Dp K F' v d
  | .none, _, .non => .non
  | .bool _, _, .bl b => .bl b
  | .int _, _, .int i => .int i
  | .str _, _, .str x => .str x
  | .list ds, _, .lst h r => .lst (e.sql h) (DpAll.mono' e ds r)
  | .tuple ds, _, .tup h r => .tup (e.sqt h) (DpAll.mono' e ds r)
theorem DpAll.mono' {K : PySem.W.Frag} {F F' : Hp} (e : Ex F F') : ∀ (ds : List PyData) {vs : List V}, DpAll K F vs ds → DpAll K F' vs ds
  | [], _, .nil => .nil
  | d :: ds, _, .cons h t => .cons (Dp.mono' e d h) (DpAll.mono' e ds t)
end
/-- what stands there now: a list that changes, as it is -/
def D.cur (G : GH) : D → D
  | .rf a => (match G a with
    | some (.lst xs) => .lst xs
    | some (.dK kds) => .dK kds
    | some (.dT kds) => .dT kds
    | some (.ins C kds) => .obj C kds
    | _ => .rf a)
  | d => d
theorem cur_dp {K : PySem.W.Frag} {F H : Hp} {G : GH} {v : V} {d : D} (g : Gok K F H G) (r : Rep K F v d) (p : (d.cur G).pl = true) : Dp K H v (d.cur G).py := by
  cases d with
  | rf a =>
    cases r
    unfold D.cur at p ⊢
    cases q : G a with
    | none => simp only [q] at p; cases p
    | some o =>
      cases o with
      | lst xs =>
        simp only [q] at p ⊢
        obtain ⟨vs, e, rs⟩ := (g.at_ a _ q).2
        exact .lst (.inl (.inl e)) (DpAll.mono' g.ex _ (Reps.dp xs rs p))
      | _ => simp only [q] at p; cases p
  | _ => exact Dp.mono' g.ex _ (Rep.dp _ r p)
theorem cur_list {K : PySem.W.Frag} {F H : Hp} {G : GH} {v : V} {d : D} {ds : List D} (g : Gok K F H G) (r : Rep K F v d) (p : d.cur G = .lst ds) : ∃ a vs, v = .ref a ∧ H a = some (.lst vs) ∧ Reps K F vs ds := by
  cases d with
  | rf a =>
    cases r
    unfold D.cur at p
    cases q : G a with
    | none => simp only [q] at p; cases p
    | some o =>
      cases o with
      | lst xs =>
        simp only [q] at p; cases p
        obtain ⟨vs, e, rs⟩ := (g.at_ a _ q).2
        exact ⟨a, vs, rfl, e, rs⟩
      | dK kds => simp only [q] at p; cases p
      | dT kds => simp only [q] at p; cases p
      | ins C kds => simp only [q] at p; cases p
      | deck k1 k2 k3 n => simp only [q] at p; cases p
      | dcell => simp only [q] at p; cases p
      | lkT o kvs kds => simp only [q] at p; cases p
      | lkK o kvs kds => simp only [q] at p; cases p
      | dN w kds => simp only [q] at p; cases p
      | lkN w o xs kds => simp only [q] at p; cases p
      | dU w kds => simp only [q] at p; cases p
      | lkU w o xs kds => simp only [q] at p; cases p
      | tupU o vs ds => simp only [q] at p; cases p
  | lst xs =>
    cases p
    cases r with
    | lst h rs => exact ⟨_, _, rfl, g.ex _ _ h, rs⟩
  | _ => cases p
def okE (x y : D) : Bool := x.pl && y.pl && decide (min x.py.depth y.py.depth ≤ 60)
def D.eqv (x y : D) : Bool := PyData.eqv x.py y.py
section
variable {X : Cx} {pos : Pos}
def rCmpP (K : PySem.W.Frag) (C : PyData → PyData → Bool) (f : PyData → PyData → Bool) : R2 := fun x y H Q => ∃ d e, Dp K H x d ∧ Dp K H y e ∧ min d.depth e.depth ≤ 60 ∧ C d e = true ∧ Q (.bl (f d e)) H
theorem cmpP_of {op : CmpOp} {C f : PyData → PyData → Bool} (hu : X.A.units + 100 < cLine)
    (rule : ∀ {prog : Program} {w : World} {A : Around} {E : Value → Shared → Prop} {s : Shared} {a b : Value} {da db : PyData} {as bs : List Addr} {Q : Value → Shared → Prop}, Reads s.heap a da as → Reads s.heap b db bs → C da db = true → A.units + min da.depth db.depth < cLine → Q (.bool (f da db)) s → wpAny (model prog w) A (compareOp op a b) Q E s) :
    OpR X (compareOp op) (rCmpP X.K C f) := by
  intro pins s σ H x y v u Q I rx ry h
  obtain ⟨d, e, hd, he, hm, hc, q⟩ := h
  obtain ⟨as, r1⟩ := Dp.reads I d x v hd rx
  obtain ⟨bs, r2⟩ := Dp.reads I e y u he ry
  exact rule r1 r2 hc (by omega) ⟨.bl _, H, I, rfl, q⟩
theorem opd_cmp {op : CmpOp} {C f : PyData → PyData → Bool} {C' f' : D → D → Bool} (ho : OpR X (compareOp op) (rCmpP X.K C f)) (hc : ∀ x y : D, C' x y = true → x.pl = true ∧ y.pl = true ∧ min x.py.depth y.py.depth ≤ 60 ∧ C x.py y.py = true) (hf : ∀ x y : D, f' x y = f x.py y.py) :
    OpD X (compareOp op) (fun x y G Q => C' (x.cur G) (y.cur G) = true ∧ Q (.bl (f' (x.cur G) (y.cur G))) G) := by
  refine ⟨_, ho, fun F H G x y dx dy g rx ry Q' h Q k => ?_⟩
  obtain ⟨c, q⟩ := h
  obtain ⟨p1, p2, m, c2⟩ := hc _ _ c
  refine ⟨_, _, cur_dp g rx p1, cur_dp g ry p2, m, c2, ?_⟩
  rw [hf] at q
  exact k F H _ _ G Go.refl g (.bl _) q
theorem okE_of {x y : D} (h : okE x y = true) : x.pl = true ∧ y.pl = true ∧ min x.py.depth y.py.depth ≤ 60 := by
  unfold okE at h
  simp only [Bool.and_eq_true, decide_eq_true_eq] at h
  exact ⟨h.1.1, h.1.2, h.2⟩
theorem od_eq (hu : X.A.units + 100 < cLine) : OpD X (compareOp .Eq) (fun x y G Q => okE (x.cur G) (y.cur G) = true ∧ Q (.bl (D.eqv (x.cur G) (y.cur G))) G) :=
  opd_cmp (C := fun d e => d.plain && e.plain) (f := PyData.eqv) (cmpP_of hu fun r1 r2 c hu' q => by
    simp only [Bool.and_eq_true] at c
    exact SeqAt.eq_plain r1 r2 c.1 c.2 hu' q) (fun x y h => by
    obtain ⟨h1, h2, h3⟩ := okE_of h
    exact ⟨h1, h2, h3, by simp [D.py_plain _ h1, D.py_plain _ h2]⟩) fun _ _ => rfl
theorem od_ne (hu : X.A.units + 100 < cLine) : OpD X (compareOp .NotEq) (fun x y G Q => okE (x.cur G) (y.cur G) = true ∧ Q (.bl (!D.eqv (x.cur G) (y.cur G))) G) :=
  opd_cmp (C := fun d e => d.plain && e.plain) (f := fun d e => !PyData.eqv d e) (f' := fun x y => !D.eqv x y) (cmpP_of hu fun r1 r2 c hu' q => by
    simp only [Bool.and_eq_true] at c
    exact SeqAt.ne_plain r1 r2 c.1 c.2 hu' q) (fun x y h => by
    obtain ⟨h1, h2, h3⟩ := okE_of h
    exact ⟨h1, h2, h3, by simp [D.py_plain _ h1, D.py_plain _ h2]⟩) fun _ _ => rfl
def okL (x y : D) : Bool := okE x y && PySem.W.alike x.py y.py && (match x with | .non => false | _ => true)
def D.lt (x y : D) : Bool := PySem.W.dataLt x.py y.py
def notNone : PyData → Bool
  | .none => false
  | _ => true
theorem notNone_ne {d : PyData} (h : notNone d = true) : d ≠ .none := fun e => by rw [e] at h; cases h
theorem okL_of {x y : D} (h : okL x y = true) : x.pl = true ∧ y.pl = true ∧ min x.py.depth y.py.depth ≤ 60 ∧ (PySem.W.alike x.py y.py && notNone x.py) = true := by
  unfold okL at h
  simp only [Bool.and_eq_true] at h
  obtain ⟨⟨h1, h2⟩, h3⟩ := h
  obtain ⟨p1, p2, p3⟩ := okE_of h1
  refine ⟨p1, p2, p3, ?_⟩
  rw [h2, Bool.true_and]
  cases x <;> first | rfl | (simp [D.pl] at p1; done) | (simp at h3; done)
theorem od_lt (hu : X.A.units + 100 < cLine) : OpD X (compareOp .Lt) (fun x y G Q => okL (x.cur G) (y.cur G) = true ∧ Q (.bl (D.lt (x.cur G) (y.cur G))) G) :=
  opd_cmp (C := fun d e => PySem.W.alike d e && notNone d) (f := PySem.W.dataLt) (cmpP_of hu fun r1 r2 c hu' q => by
    simp only [Bool.and_eq_true] at c
    exact PySem.W.lt_data r1 r2 c.1 (notNone_ne c.2) hu' q) (fun x y h => okL_of h) fun _ _ => rfl
theorem od_le (hu : X.A.units + 100 < cLine) : OpD X (compareOp .LtE) (fun x y G Q => okL (x.cur G) (y.cur G) = true ∧ Q (.bl (!D.lt (y.cur G) (x.cur G))) G) :=
  opd_cmp (C := fun d e => PySem.W.alike d e && notNone d) (f := fun d e => !PySem.W.dataLt e d) (f' := fun x y => !D.lt y x) (cmpP_of hu fun r1 r2 c hu' q => by
    simp only [Bool.and_eq_true] at c
    exact PySem.W.le_data r1 r2 c.1 (notNone_ne c.2) hu' q) (fun x y h => okL_of h) fun _ _ => rfl
theorem od_ge (hu : X.A.units + 100 < cLine) : OpD X (compareOp .GtE) (fun x y G Q => okL (x.cur G) (y.cur G) = true ∧ Q (.bl (!D.lt (x.cur G) (y.cur G))) G) :=
  opd_cmp (C := fun d e => PySem.W.alike d e && notNone d) (f := fun d e => !PySem.W.dataLt d e) (f' := fun x y => !D.lt x y) (cmpP_of hu fun r1 r2 c hu' q => by
    simp only [Bool.and_eq_true] at c
    exact PySem.W.ge_data r1 r2 c.1 (notNone_ne c.2) hu' q) (fun x y h => okL_of h) fun _ _ => rfl
end
end DL
end
section
set_option Elab.async false
set_option linter.all false
set_option maxRecDepth 100000
set_option maxHeartbeats 4000000
namespace DL
open PySem PySem.Spec PyProof.Rows L2
def valD {κ : Type} [DecidableEq κ] (kds : List (κ × D)) (k : κ) : Option D := (kds.find? fun kv => decide (kv.1 = k)).map (·.2)
def putD {κ : Type} [DecidableEq κ] (kds : List (κ × D)) (k : κ) (d : D) : List (κ × D) :=
  if (kds.any fun kv => decide (kv.1 = k)) = true then kds.map (fun kv => if kv.1 = k then (kv.1, d) else kv) else kds ++ [(k, d)]
structure KR {κ : Type} (K : PySem.W.Frag) (F : Hp) (kvs : List (κ × V)) (kds : List (κ × D)) : Prop where
  ks : kvs.map (·.1) = kds.map (·.1)
  vs : Reps K F (kvs.map (·.2)) (kds.map (·.2))
section
variable {κ : Type} [DecidableEq κ] {K : PySem.W.Frag} {F : Hp}
theorem KR.nil : KR K F ([] : List (κ × V)) [] := ⟨rfl, .nil⟩
theorem KR.cons {k : κ} {v : V} {d : D} {kvs : List (κ × V)} {kds : List (κ × D)} (h : Rep K F v d) (t : KR K F kvs kds) : KR K F ((k, v) :: kvs) ((k, d) :: kds) := ⟨by simp [t.ks], .cons h t.vs⟩
theorem KR.uncons {kvs : List (κ × V)} {k : κ} {d : D} {kds : List (κ × D)} (h : KR K F kvs ((k, d) :: kds)) : ∃ v r, kvs = (k, v) :: r ∧ Rep K F v d ∧ KR K F r kds := by
  obtain ⟨h1, h2⟩ := h
  cases kvs with
  | nil => simp at h1
  | cons p r =>
    obtain ⟨k', v⟩ := p
    simp only [List.map_cons, List.cons.injEq] at h1
    obtain ⟨rfl, h1⟩ := h1
    cases h2 with
    | cons a b => exact ⟨v, r, rfl, a, h1, b⟩
theorem KR.unnil {kvs : List (κ × V)} (h : KR K F kvs []) : kvs = [] := by
  have := h.ks
  simpa using this
theorem KR.mono {F' : Hp} (e : Ex F F') {kvs : List (κ × V)} {kds : List (κ × D)} (h : KR K F kvs kds) : KR K F' kvs kds := ⟨h.ks, h.vs.mono e⟩
theorem KR.append {a b : List (κ × V)} {c d : List (κ × D)} (h : KR K F a c) (h' : KR K F b d) : KR K F (a ++ b) (c ++ d) := ⟨by simp [h.ks, h'.ks], by simpa using h.vs.append h'.vs⟩
theorem KR.len {kvs : List (κ × V)} {kds : List (κ × D)} (h : KR K F kvs kds) : kvs.length = kds.length := by
  have := congrArg List.length h.ks
  simpa using this
theorem KR.val {k : κ} : ∀ {kds : List (κ × D)} {kvs : List (κ × V)}, KR K F kvs kds → (∀ d, valD kds k = some d → ∃ v, valV kvs k = some v ∧ Rep K F v d) ∧ (valD kds k = none → valV kvs k = none)
  | [], kvs, h => by
    obtain rfl := h.unnil
    exact ⟨fun d z => (by cases z), fun _ => rfl⟩
  | (k', d') :: kds, kvs, h => by
    obtain ⟨v, r, rfl, rv, t⟩ := h.uncons
    by_cases e : k' = k
    · have e1 : valD ((k', d') :: kds) k = some d' := by simp [valD, e]
      have e2 : valV ((k', v) :: r) k = some v := valV_pos e
      rw [e1, e2]
      exact ⟨fun d z => (by cases z; exact ⟨v, rfl, rv⟩), fun z => (by cases z)⟩
    · have e1 : valD ((k', d') :: kds) k = valD kds k := by simp [valD, List.find?_cons, e]
      have e2 : valV ((k', v) :: r) k = valV r k := valV_neg e
      rw [e1, e2]
      exact KR.val t
theorem KR.any {k : κ} {kds : List (κ × D)} {kvs : List (κ × V)} (h : KR K F kvs kds) : (kvs.any fun kv => decide (kv.1 = k)) = kds.any fun kv => decide (kv.1 = k) := by
  have e1 : (kvs.any fun kv => decide (kv.1 = k)) = (kvs.map (·.1)).any fun x => decide (x = k) := by simp [List.any_map, Function.comp_def]
  have e2 : (kds.any fun kv => decide (kv.1 = k)) = (kds.map (·.1)).any fun x => decide (x = k) := by simp [List.any_map, Function.comp_def]
  rw [e1, e2, h.ks]
theorem KR.mapd {k : κ} {v : V} {d : D} (r : Rep K F v d) : ∀ {kds : List (κ × D)} {kvs : List (κ × V)}, KR K F kvs kds → KR K F (kvs.map fun kv => if kv.1 = k then (kv.1, v) else kv) (kds.map fun kv => if kv.1 = k then (kv.1, d) else kv)
  | [], kvs, h => by
    obtain rfl := h.unnil
    exact .nil
  | (k', d') :: kds, kvs, h => by
    obtain ⟨v', r', rfl, rv, t⟩ := h.uncons
    simp only [List.map_cons]
    by_cases e : k' = k
    · rw [if_pos e, if_pos e]; exact .cons r (KR.mapd r t)
    · rw [if_neg e, if_neg e]; exact .cons rv (KR.mapd r t)
theorem KR.put {k : κ} {v : V} {d : D} {kds : List (κ × D)} {kvs : List (κ × V)} (h : KR K F kvs kds) (r : Rep K F v d) : KR K F (putK kvs k v) (putD kds k d) := by
  unfold putK putD
  rw [h.any]
  by_cases e : (kds.any fun kv => decide (kv.1 = k)) = true
  · rw [if_pos e, if_pos e]; exact KR.mapd r h
  · rw [if_neg e, if_neg e]; exact h.append (.cons r .nil)
end
def D.key : D → Option Key
  | .int i => some (.inl i)
  | .str x => some (.inr x)
  | _ => none
def D.keys : List D → Option (List Key)
  | [] => some []
  | d :: ds => match d.key, D.keys ds with
    | some k, some ks => some (k :: ks)
    | _, _ => none
theorem Rep.key {K : PySem.W.Frag} {F : Hp} {v : V} {d : D} {k : Key} (r : Rep K F v d) (h : d.key = some k) : v = kV k := by
  cases r <;> first | (cases h; rfl) | cases h
theorem Reps.keys {K : PySem.W.Frag} {F : Hp} : ∀ {vs : List V} {ds : List D} {ks : List Key}, Reps K F vs ds → D.keys ds = some ks → vs = ks.map kV
  | _, _, _, .nil, h => by cases h; rfl
  | _, _, ks, .cons (v := v) (d := d) (ds := ds) a b, h => by
    unfold D.keys at h
    cases e1 : d.key with
    | none => simp [e1] at h
    | some k =>
      cases e2 : D.keys ds with
      | none => simp [e1, e2] at h
      | some r =>
        simp only [e1, e2] at h
        cases h
        rw [a.key e1, b.keys e2]
        rfl
/-- the value at a key, of a dict as it stands: none: no such lookup; some none: not there -/
def D.look (x y : D) : Option (Option D) := match x with
  | .dK kds => y.key.map (valD kds)
  | .dT kds => (match y with
    | .tup ds => (D.keys ds).map (valD kds)
    | _ => none)
  | _ => none
theorem cur_dK {K : PySem.W.Frag} {F H : Hp} {G : GH} {v : V} {d : D} {kds : List (Key × D)} (g : Gok K F H G) (r : Rep K F v d) (p : d.cur G = .dK kds) : ∃ a kvs, v = .ref a ∧ H a = some (.dK kvs) ∧ KR K F kvs kds := by
  cases d with
  | rf a =>
    cases r
    unfold D.cur at p
    cases q : G a with
    | none => simp only [q] at p; cases p
    | some o =>
      cases o with
      | dK kd =>
        simp only [q] at p; cases p
        obtain ⟨kvs, e, h1, h2⟩ := (g.at_ a _ q).2
        exact ⟨a, kvs, rfl, e, h1, h2⟩
      | lst xs => simp only [q] at p; cases p
      | dT kd => simp only [q] at p; cases p
      | ins C kd => simp only [q] at p; cases p
      | deck k1 k2 k3 n => simp only [q] at p; cases p
      | dcell => simp only [q] at p; cases p
      | lkT o kvs kds => simp only [q] at p; cases p
      | lkK o kvs kds => simp only [q] at p; cases p
      | dN w kds => simp only [q] at p; cases p
      | lkN w o xs kds => simp only [q] at p; cases p
      | dU w kds => simp only [q] at p; cases p
      | lkU w o xs kds => simp only [q] at p; cases p
      | tupU o vs ds => simp only [q] at p; cases p
  | dK kd =>
    cases p
    cases r with
    | dK h h1 h2 => exact ⟨_, _, rfl, g.ex _ _ h, h1, h2⟩
  | _ => cases p
theorem cur_dT {K : PySem.W.Frag} {F H : Hp} {G : GH} {v : V} {d : D} {kds : List (List Key × D)} (g : Gok K F H G) (r : Rep K F v d) (p : d.cur G = .dT kds) : ∃ a kvs, v = .ref a ∧ H a = some (.dT kvs) ∧ KR K F kvs kds := by
  cases d with
  | rf a =>
    cases r
    unfold D.cur at p
    cases q : G a with
    | none => simp only [q] at p; cases p
    | some o =>
      cases o with
      | dT kd =>
        simp only [q] at p; cases p
        obtain ⟨kvs, e, h1, h2⟩ := (g.at_ a _ q).2
        exact ⟨a, kvs, rfl, e, h1, h2⟩
      | lst xs => simp only [q] at p; cases p
      | dK kd => simp only [q] at p; cases p
      | ins C kd => simp only [q] at p; cases p
      | deck k1 k2 k3 n => simp only [q] at p; cases p
      | dcell => simp only [q] at p; cases p
      | lkT o kvs kds => simp only [q] at p; cases p
      | lkK o kvs kds => simp only [q] at p; cases p
      | dN w kds => simp only [q] at p; cases p
      | lkN w o xs kds => simp only [q] at p; cases p
      | dU w kds => simp only [q] at p; cases p
      | lkU w o xs kds => simp only [q] at p; cases p
      | tupU o vs ds => simp only [q] at p; cases p
  | dT kd =>
    cases p
    cases r with
    | dT h h1 h2 => exact ⟨_, _, rfl, g.ex _ _ h, h1, h2⟩
  | _ => cases p
theorem look_get {K : PySem.W.Frag} {F H : Hp} {G : GH} {v u : V} {x y : D} {o : Option D} (g : Gok K F H G) (r : Rep K F v x) (ry : Rep K F u y) (h : (x.cur G).look y = some o) :
    ∃ a o', v = .ref a ∧ DGet H a u o' ∧ (∀ d, o = some d → ∃ z, o' = some z ∧ Rep K F z d) ∧ (o = none → o' = none) := by
  unfold D.look at h
  cases e : x.cur G with
  | dK kds =>
    simp only [e] at h
    obtain ⟨a, kvs, rfl, ha, kr⟩ := cur_dK g r e
    cases ek : y.key with
    | none => simp [ek] at h
    | some k =>
      simp only [ek, Option.map_some, Option.some.injEq] at h
      rw [ry.key ek]
      refine ⟨a, _, rfl, DGet.k (k := k) ha, fun d z => ?_, fun z => ?_⟩
      · obtain ⟨v, h1, h2⟩ := kr.val.1 d (h.trans z)
        exact ⟨v, h1, h2⟩
      · exact kr.val.2 (h.trans z)
  | dT kds =>
    simp only [e] at h
    obtain ⟨a, kvs, rfl, ha, kr⟩ := cur_dT g r e
    cases ry with
    | tup hb rs =>
      simp only at h
      rename_i ds
      cases ek : D.keys ds with
      | none => simp [ek] at h
      | some k =>
        simp only [ek, Option.map_some, Option.some.injEq] at h
        have eb := rs.keys ek
        subst eb
        refine ⟨a, _, rfl, DGet.t (k := k) ha (g.ex _ _ hb), fun d z => ?_, fun z => ?_⟩
        · obtain ⟨v, h1, h2⟩ := kr.val.1 d (h.trans z)
          exact ⟨v, h1, h2⟩
        · exact kr.val.2 (h.trans z)
    | _ => simp at h
  | _ => simp [e] at h
section
variable {X : Cx} {pos : Pos}
def rAddD : DR2 := fun x y G Q => match x.cur G, y.cur G with
  | .int i, .int j => Q (.int (i + j)) G
  | .str a, .str b => a.length + b.length ≤ sizeLine ∧ Q (.str (a ++ b)) G
  | .tup a, .tup b => a.length + b.length ≤ sizeLine ∧ Q (.tup (a ++ b)) G
  | .lst a, .lst b => a.length + b.length ≤ sizeLine ∧ Q (.lst (a ++ b)) G
  | _, _ => False
theorem cur_int {K : PySem.W.Frag} {F : Hp} {G : GH} {v : V} {d : D} {i : Int} (r : Rep K F v d) (h : d.cur G = .int i) : v = .int i := by
  cases d with
  | rf a =>
    unfold D.cur at h
    cases q : G a with
    | none => simp only [q] at h; cases h
    | some o => cases o <;> (simp only [q] at h; cases h)
  | int j => cases h; cases r; rfl
  | _ => cases h
theorem cur_str {K : PySem.W.Frag} {F : Hp} {G : GH} {v : V} {d : D} {i : Str} (r : Rep K F v d) (h : d.cur G = .str i) : v = .str i := by
  cases d with
  | rf a =>
    unfold D.cur at h
    cases q : G a with
    | none => simp only [q] at h; cases h
    | some o => cases o <;> (simp only [q] at h; cases h)
  | str j => cases h; cases r; rfl
  | _ => cases h
theorem cur_tup {K : PySem.W.Frag} {F : Hp} {G : GH} {v : V} {d : D} {ds : List D} (r : Rep K F v d) (h : d.cur G = .tup ds) : ∃ a vs, v = .ref a ∧ F a = some (.tup vs) ∧ Reps K F vs ds := by
  cases d with
  | rf a =>
    unfold D.cur at h
    cases q : G a with
    | none => simp only [q] at h; cases h
    | some o => cases o <;> (simp only [q] at h; cases h)
  | tup j =>
    cases h
    cases r with
    | tup ha rs => exact ⟨_, _, rfl, ha, rs⟩
  | _ => cases h
theorem cur_kup {K : PySem.W.Frag} {F : Hp} {G : GH} {v : V} {d : D} {ds : List D} (r : Rep K F v d) (h : d.cur G = .kup ds) : ∃ a vs, v = .ref a ∧ SqT K F a vs ∧ Reps K F vs ds := by
  cases d with
  | rf a =>
    unfold D.cur at h
    cases q : G a with
    | none => simp only [q] at h; cases h
    | some o => cases o <;> (simp only [q] at h; cases h)
  | kup j =>
    cases h
    cases r with
    | kup ha rs => exact ⟨_, _, rfl, ha, rs⟩
  | _ => cases h
theorem od_add : OpD X (binaryOp .Add) rAddD := by
  refine ⟨_, op_add.or (op_add_str.or (op_catA.or op_cat)), fun F H G x y dx dy g rx ry Q' h Q k => ?_⟩
  unfold rAddD at h
  split at h
  · rename_i i j e1 e2
    exact .inl ⟨i, j, cur_int rx e1, cur_int ry e2, k F H _ _ G Go.refl g (.int _) h⟩
  · rename_i a b e1 e2
    exact .inr (.inl ⟨a, b, cur_str rx e1, cur_str ry e2, h.1, k F H _ _ G Go.refl g (.str _) h.2⟩)
  · rename_i a b e1 e2
    obtain ⟨p, xs, rfl, hp, r1⟩ := cur_tup rx e1
    obtain ⟨q, ys, rfl, hq, r2⟩ := cur_tup ry e2
    refine .inr (.inr (.inl ⟨p, q, xs, ys, rfl, rfl, .inl (.inl (g.ex _ _ hp)), .inl (.inl (g.ex _ _ hq)), by rw [r1.length, r2.length]; exact h.1, fun z => ?_, fun z1 z2 => ?_, fun z1 z2 p' hp' => ?_⟩))
    · subst z
      cases r1
      exact k F H _ _ G Go.refl g (.tup hq r2) h.2
    · subst z2
      cases r2
      have h2 := h.2
      rw [List.append_nil] at h2
      exact k F H _ _ G Go.refl g (.tup hp r1) h2
    · have gr : Gr F H (upd F p' (.tup (xs ++ ys))) (upd H p' (.tup (xs ++ ys))) := Gr.new g.ex hp'
      exact k _ _ _ _ G gr.go (g.grow gr) (.tup upd_same ((r1.append r2).mono gr.ff)) h.2
  · rename_i a b e1 e2
    obtain ⟨p, xs, rfl, hp, r1⟩ := cur_list g rx e1
    obtain ⟨q, ys, rfl, hq, r2⟩ := cur_list g ry e2
    refine .inr (.inr (.inr ⟨p, q, xs, ys, rfl, rfl, hp, hq, by rw [r1.length, r2.length]; exact h.1, fun p' hp' => ?_⟩))
    have gr : Gr F H (upd F p' (.lst (xs ++ ys))) (upd H p' (.lst (xs ++ ys))) := Gr.new g.ex hp'
    exact k _ _ _ _ G gr.go (g.grow gr) (.lst upd_same ((r1.append r2).mono gr.ff)) h.2
  · exact h.elim
def rIntD (C : Int → Int → Prop) (f : Int → Int → Int) : DR2 := fun x y G Q => match x, y with
  | .int i, .int j => C i j ∧ Q (.int (f i j)) G
  | _, _ => False
theorem od_int {op : Operator} {C : Int → Int → Prop} {f : Int → Int → Int} (h : OpR X (binaryOp op) (rI C fun i j => .int (f i j))) : OpD X (binaryOp op) (rIntD C f) := by
  refine ⟨_, h, fun F H G x y dx dy g rx ry Q' h Q k => ?_⟩
  unfold rIntD at h
  split at h
  · cases rx; cases ry
    exact ⟨_, _, rfl, rfl, h.1, k F H _ _ G Go.refl g (.int _) h.2⟩
  · exact h.elim
theorem od_sub : OpD X (binaryOp .Sub) (rIntD (fun _ _ => True) fun i j => i - j) := by
  refine ⟨_, op_sub, fun F H G x y dx dy g rx ry Q' h Q k => ?_⟩
  unfold rIntD at h
  split at h
  · cases rx; cases ry
    exact ⟨_, _, rfl, rfl, k F H _ _ G Go.refl g (.int _) h.2⟩
  · exact h.elim
theorem od_fdiv : OpD X (binaryOp .FloorDiv) (rIntD CDiv fun i j => i / j) := od_int op_fdiv
theorem od_mod : OpD X (binaryOp .Mod) (rIntD (fun _ j => 0 < j) fun i j => i % j) := od_int op_mod
theorem od_pow : OpD X (binaryOp .Pow) (rIntD CPow fun i j => i ^ j.toNat) := od_int op_pow
def rMulD : DR2 := fun x y G Q => match x.cur G, y.cur G with
  | .int i, .int j => CMul i j ∧ Q (.int (i * j)) G
  | .lst a, .int j => -(2 ^ 63) ≤ j ∧ j < 2 ^ 63 ∧ a.length * j.toNat ≤ sizeLine ∧ Q (.lst (List.replicate j.toNat a).flatten) G
  | _, _ => False
theorem Reps.rep {K : PySem.W.Frag} {F : Hp} {vs : List V} {ds : List D} (r : Reps K F vs ds) : ∀ n : Nat, Reps K F (List.replicate n vs).flatten (List.replicate n ds).flatten
  | 0 => .nil
  | n + 1 => by
    rw [List.replicate_succ, List.replicate_succ, List.flatten_cons, List.flatten_cons]
    exact r.append (Reps.rep r n)
theorem od_mul : OpD X (binaryOp .Mult) rMulD := by
  refine ⟨_, op_mul.or op_rep, fun F H G x y dx dy g rx ry Q' h Q k => ?_⟩
  unfold rMulD at h
  split at h
  · rename_i i j e1 e2
    exact .inl ⟨i, j, cur_int rx e1, cur_int ry e2, h.1, k F H _ _ G Go.refl g (.int _) h.2⟩
  · rename_i a j e1 e2
    obtain ⟨p, xs, rfl, hp, r1⟩ := cur_list g rx e1
    obtain ⟨h1, h2, h3, h4⟩ := h
    refine .inr ⟨p, j, xs, rfl, cur_int ry e2, hp, h1, h2, by rw [r1.length]; exact h3, fun p' hp' => ?_⟩
    have gr := Gr.new (u := .lst (List.replicate j.toNat xs).flatten) g.ex hp'
    exact k _ _ _ _ G gr.go (g.grow gr) (.lst upd_same ((r1.rep _).mono gr.ff)) h4
  · exact h.elim
def rNegD : DR1 := fun x G Q => match x with
  | .int i => Q (.int (-i)) G
  | _ => False
theorem ud_neg : UnD X (unaryOp .USub) rNegD := by
  refine ⟨_, un_neg, fun F H G x dx g rx Q' h Q k => ?_⟩
  unfold rNegD at h
  split at h
  · cases rx
    exact ⟨_, rfl, k F H _ _ G Go.refl g (.int _) h⟩
  · exact h.elim
def D.isNon : D → Bool
  | .non => true
  | _ => false
theorem Rep.isNon {K : PySem.W.Frag} {F : Hp} {v : V} {d : D} (r : Rep K F v d) : decide (v = .non) = d.isNon := by
  cases r <;> first | rfl | exact decide_eq_false (by intro h; cases h)
theorem od_notN : OpD X (compareOp .IsNot) (fun x y G Q => match y with | .non => Q (.bl (!x.isNon)) G | _ => False) := by
  refine ⟨_, op_notN, fun F H G x y dx dy g rx ry Q' h Q k => ?_⟩
  split at h
  · cases ry
    refine ⟨rfl, ?_⟩
    rw [rx.isNon]
    exact k F H _ _ G Go.refl g (.bl _) h
  · exact h.elim
def strIn (x z : Str) : Bool := !(Builtin.Str.occurrences z x 0 z.length 1).isEmpty
def okI (x : D) (ys : List D) : Bool := x.pl && D.pls ys && decide (min (PyData.depthAll (D.pys ys)) x.py.depth ≤ 60)
def D.isIn (x : D) (ys : List D) : Bool := (D.pys ys).any fun z => PyData.eqv z x.py
/-- x in y: none where it is not served -/
def D.inn (x y : D) : Option Bool := match y with
  | .str z => (match x with
    | .str w => some (strIn w z)
    | _ => none)
  | .lst ys => if okI x ys = true then some (x.isIn ys) else none
  | .tup ys => if okI x ys = true then some (x.isIn ys) else none
  | y => (y.look x).map Option.isSome
def rInP (K : PySem.W.Frag) (neg : Bool) : R2 := fun x y H Q => ∃ d ds b, Dp K H x d ∧ (Dp K H y (.list ds) ∨ Dp K H y (.tuple ds)) ∧ d.plain = true ∧ PyData.plainAll ds = true ∧ min (PyData.depthAll ds) d.depth ≤ 60 ∧ b = (if neg then !(ds.any fun z => PyData.eqv z d) else ds.any fun z => PyData.eqv z d) ∧ Q (.bl b) H
def rInDict (neg : Bool) : R2 := fun x y H Q => ∃ a o, y = .ref a ∧ DGet H a x o ∧ Q (.bl (if neg then !o.isSome else o.isSome)) H
theorem op_inP (hu : X.A.units + 100 < cLine) : OpR X (compareOp .In) (rInP X.K false) := by
  intro pins s σ H x y v u Q I rx ry h
  obtain ⟨d, ds, b, hd, hy, p1, p2, hm, rfl, q⟩ := h
  obtain ⟨as, r1⟩ := Dp.reads I d x v hd rx
  rcases hy with hy | hy
  · obtain ⟨bs, r2⟩ := Dp.reads I _ y u hy ry
    exact SeqAt.in_list_data r2 r1 p2 p1 (by omega) ⟨.bl _, H, I, rfl, q⟩
  · obtain ⟨bs, r2⟩ := Dp.reads I _ y u hy ry
    exact SeqAt.in_tuple_data r2 r1 p2 p1 (by omega) ⟨.bl _, H, I, rfl, q⟩
theorem op_notInP (hu : X.A.units + 100 < cLine) : OpR X (compareOp .NotIn) (rInP X.K true) := by
  intro pins s σ H x y v u Q I rx ry h
  obtain ⟨d, ds, b, hd, hy, p1, p2, hm, rfl, q⟩ := h
  obtain ⟨as, r1⟩ := Dp.reads I d x v hd rx
  rcases hy with hy | hy
  · obtain ⟨bs, r2⟩ := Dp.reads I _ y u hy ry
    exact SeqAt.notIn_list_data r2 r1 p2 p1 (by omega) ⟨.bl _, H, I, rfl, q⟩
  · obtain ⟨bs, r2⟩ := Dp.reads I _ y u hy ry
    exact SeqAt.notIn_tuple_data r2 r1 p2 p1 (by omega) ⟨.bl _, H, I, rfl, q⟩
theorem op_inDict (hu : X.A.units + 100 < cLine) : OpR X (compareOp .In) (rInDict false) := by
  intro pins s σ H x y v u Q I rx ry h
  obtain ⟨a, o, rfl, g, q⟩ := h
  obtain rfl : u = Value.ref a := ry
  exact d_in (by omega) I g rx fun s' I' => ⟨.bl _, H, I', rfl, q⟩
theorem op_notInDict (hu : X.A.units + 100 < cLine) : OpR X (compareOp .NotIn) (rInDict true) := by
  intro pins s σ H x y v u Q I rx ry h
  obtain ⟨a, o, rfl, g, q⟩ := h
  obtain rfl : u = Value.ref a := ry
  exact d_notIn (by omega) I g rx fun s' I' => ⟨.bl _, H, I', rfl, q⟩
theorem in_core {neg : Bool} {r : R2} (hs : ∀ x y H Q, (∃ i j, x = V.str i ∧ y = V.str j ∧ Q (.bl (if neg then !(strIn i j) else strIn i j)) H) → r x y H Q) (hl : ∀ x y H Q, rInP X.K neg x y H Q → r x y H Q) (hd : ∀ x y H Q, rInDict neg x y H Q → r x y H Q)
    {F H : Hp} {G : GH} {x y : V} {dx dy : D} (g : Gok X.K F H G) (rx : Rep X.K F x dx) (ry : Rep X.K F y dy) {Q' : DQ} {b : Bool} (h : D.inn dx (dy.cur G) = some b) (q : Q' (.bl (if neg then !b else b)) G) {Q : VK} (k : KpE X.K F H G Q' Q) : r x y H Q := by
  have fin : Q (.bl (if neg then !b else b)) H := k F H _ _ G Go.refl g (.bl _) q
  unfold D.inn at h
  have seqs : ∀ (ys : List D), okI dx ys = true → dx.isIn ys = b → (Dp X.K H y (.list (D.pys ys)) ∨ Dp X.K H y (.tuple (D.pys ys))) → r x y H Q := by
    intro ys ok e hy
    unfold okI at ok
    simp only [Bool.and_eq_true, decide_eq_true_eq] at ok
    obtain ⟨⟨p1, p2⟩, p3⟩ := ok
    refine hl _ _ _ _ ⟨dx.py, D.pys ys, _, ?_, hy, D.py_plain _ p1, D.pys_plain _ p2, p3, rfl, ?_⟩
    · exact Dp.mono' g.ex _ (Rep.dp _ rx p1)
    · unfold D.isIn at e
      rw [e]
      exact fin
  split at h
  · rename_i z e
    split at h
    · cases h
      cases rx
      exact hs _ _ _ _ ⟨_, _, rfl, cur_str ry e, fin⟩
    · cases h
  · rename_i ys e
    split at h
    · rename_i ok
      cases h
      obtain ⟨a, vs, rfl, ha, rs⟩ := cur_list g ry e
      unfold okI at ok
      simp only [Bool.and_eq_true, decide_eq_true_eq] at ok
      refine seqs ys (by unfold okI; simp [ok]) rfl (.inl (.lst (.inl (.inl ha)) (DpAll.mono' g.ex _ (Reps.dp _ rs ok.1.2))))
    · cases h
  · rename_i ys e
    split at h
    · rename_i ok
      cases h
      obtain ⟨a, vs, rfl, ha, rs⟩ := cur_tup ry e
      unfold okI at ok
      simp only [Bool.and_eq_true, decide_eq_true_eq] at ok
      refine seqs ys (by unfold okI; simp [ok]) rfl (.inr (.tup (.inl (.inl (g.ex _ _ ha))) (DpAll.mono' g.ex _ (Reps.dp _ rs ok.1.2))))
    · cases h
  · cases e : (dy.cur G).look dx with
    | none => rw [e] at h; cases h
    | some o =>
      rw [e] at h
      cases h
      obtain ⟨a, o', rfl, dg, h1, h2⟩ := look_get g ry rx e
      refine hd _ _ _ _ ⟨a, o', rfl, dg, ?_⟩
      have eo : o'.isSome = o.isSome := by
        cases o with
        | none => simp [h2 rfl]
        | some d =>
          obtain ⟨z, ez, _⟩ := h1 d rfl
          rw [ez]; rfl
      rw [eo]
      exact fin
theorem od_in (hu : X.A.units + 100 < cLine) : OpD X (compareOp .In) (fun x y G Q => match D.inn x (y.cur G) with | some b => Q (.bl b) G | none => False) := by
  refine ⟨_, op_in_str.or ((op_inP hu).or (op_inDict hu)), fun F H G x y dx dy g rx ry Q' h Q k => ?_⟩
  split at h
  · rename_i b e
    exact in_core (neg := false) (r := fun x y H Q => (∃ i j, x = .str i ∧ y = .str j ∧ Q (.bl (!(Builtin.Str.occurrences j i 0 j.length 1).isEmpty)) H) ∨ rInP X.K false x y H Q ∨ rInDict false x y H Q) (fun x y H Q h => .inl h) (fun x y H Q h => .inr (.inl h)) (fun x y H Q h => .inr (.inr h)) g rx ry e h k
  · exact h.elim
theorem od_notIn (hu : X.A.units + 100 < cLine) : OpD X (compareOp .NotIn) (fun x y G Q => match D.inn x (y.cur G) with | some b => Q (.bl (!b)) G | none => False) := by
  refine ⟨_, op_notin_str.or ((op_notInP hu).or (op_notInDict hu)), fun F H G x y dx dy g rx ry Q' h Q k => ?_⟩
  split at h
  · rename_i b e
    exact in_core (neg := true) (r := fun x y H Q => (∃ i j, x = .str i ∧ y = .str j ∧ Q (.bl (!(!(Builtin.Str.occurrences j i 0 j.length 1).isEmpty))) H) ∨ rInP X.K true x y H Q ∨ rInDict true x y H Q) (fun x y H Q h => .inl h) (fun x y H Q h => .inr (.inl h)) (fun x y H Q h => .inr (.inr h)) g rx ry e h k
  · exact h.elim
end
end DL
end
section
set_option Elab.async false
set_option linter.all false
set_option maxRecDepth 100000
set_option maxHeartbeats 4000000
namespace DL
open PySem PySem.Spec PyProof.Rows L2
theorem atI_rep {K : PySem.W.Frag} {F : Hp} {vs : List V} {ds : List D} {i : Int} {d : D} (r : Reps K F vs ds) (h : atI ds i = some d) : ∃ v, atI vs i = some v ∧ Rep K F v d := by
  unfold atI at h ⊢
  rw [r.length]
  cases e : ixN ds.length i with
  | none => rw [e] at h; cases h
  | some j =>
    rw [e] at h
    exact r.get h
def D.item (x y : D) : Option D := match x with
  | .tup xs => (match y with
    | .int i => atI xs i
    | _ => none)
  | .lst xs => (match y with
    | .int i => atI xs i
    | _ => none)
  | .str z => (match y with
    | .int i => if z.length ≤ sizeLine then (atI z.cps.toList i).map fun c => .str ⟨#[c]⟩ else none
    | _ => none)
  | .kup xs => (match y with
    | .int i => atI xs i
    | _ => none)
  | x => (x.look y).join
def cutD {α : Type} (xs : List α) (lo hi : Option Int) : List α := (xs.drop (HT.sIx xs.length 0 lo)).take (HT.sIx xs.length xs.length hi - HT.sIx xs.length 0 lo)
theorem Reps.cut {K : PySem.W.Frag} {F : Hp} {vs : List V} {ds : List D} (r : Reps K F vs ds) (lo hi : Option Int) : Reps K F (cutV vs lo hi) (cutD ds lo hi) := by
  unfold cutV cutD
  rw [r.length]
  exact (r.drop _).take _
def putFD (f : Str) (d : D) : List (Str × D) → List (Str × D)
  | [] => [(f, d)]
  | p :: r => if p.1 = f then (f, d) :: r else p :: putFD f d r
theorem KR.look {K : PySem.W.Frag} {F : Hp} {f : Str} : ∀ {kds : List (Str × D)} {kvs : List (Str × V)}, KR K F kvs kds → (∀ d, kds.lookup f = some d → ∃ v, kvs.lookup f = some v ∧ Rep K F v d) ∧ (kds.lookup f = none → kvs.lookup f = none)
  | [], kvs, h => by
    obtain rfl := h.unnil
    exact ⟨fun d z => (by cases z), fun _ => rfl⟩
  | (k', d') :: kds, kvs, h => by
    obtain ⟨v, r, rfl, rv, t⟩ := h.uncons
    by_cases e : f = k'
    · subst e
      simp only [List.lookup_cons, beq_self_eq_true]
      exact ⟨fun d z => (by cases z; exact ⟨v, rfl, rv⟩), fun z => (by cases z)⟩
    · have e' : (f == k') = false := by simpa using e
      simp only [List.lookup_cons, e']
      exact KR.look t
theorem KR.putF {K : PySem.W.Frag} {F : Hp} {f : Str} {v : V} {d : D} (rv : Rep K F v d) : ∀ {kds : List (Str × D)} {kvs : List (Str × V)}, KR K F kvs kds → KR K F (L2.putF f v kvs) (putFD f d kds)
  | [], kvs, h => by
    obtain rfl := h.unnil
    exact .cons rv .nil
  | (k', d') :: kds, kvs, h => by
    obtain ⟨v', r, rfl, rv', t⟩ := h.uncons
    unfold L2.putF putFD
    by_cases e : k' = f
    · subst e
      simp only [if_pos]
      exact .cons rv t
    · simp only [if_neg e]
      exact .cons rv' (KR.putF rv t)
theorem cur_obj {K : PySem.W.Frag} {F H : Hp} {G : GH} {v : V} {d : D} {C : Addr} {kds : List (Str × D)} (g : Gok K F H G) (r : Rep K F v d) (p : d.cur G = .obj C kds) : ∃ a dx kvs, v = .ref a ∧ H a = some (.ins C dx kvs) ∧ KR K F kvs kds := by
  cases d with
  | rf a =>
    cases r
    unfold D.cur at p
    cases q : G a with
    | none => simp only [q] at p; cases p
    | some o =>
      cases o with
      | ins C' kd =>
        simp only [q] at p; cases p
        obtain ⟨dx, kvs, e, h1, h2⟩ := (g.at_ a _ q).2
        exact ⟨a, dx, kvs, rfl, e, h1, h2⟩
      | lst xs => simp only [q] at p; cases p
      | dK kd => simp only [q] at p; cases p
      | dT kd => simp only [q] at p; cases p
      | deck k1 k2 k3 n => simp only [q] at p; cases p
      | dcell => simp only [q] at p; cases p
      | lkT o kvs kds => simp only [q] at p; cases p
      | lkK o kvs kds => simp only [q] at p; cases p
      | dN w kds => simp only [q] at p; cases p
      | lkN w o xs kds => simp only [q] at p; cases p
      | dU w kds => simp only [q] at p; cases p
      | lkU w o xs kds => simp only [q] at p; cases p
      | tupU o vs ds => simp only [q] at p; cases p
  | obj C' kd =>
    cases p
    cases r with
    | obj h h1 h2 => exact ⟨_, _, _, rfl, g.ex _ _ h, h1, h2⟩
  | _ => cases p
section
variable {X : Cx} {pos : Pos}
def rIxDict : R2 := fun x y H Q => ∃ a v, x = .ref a ∧ DGet H a y (some v) ∧ Q v H
theorem ix_dict (hu : X.A.units + 100 < cLine) : IxR X rIxDict := by
  intro value slice pins s σ H x y v u Q I rx ry h hs
  obtain ⟨a, z, rfl, g, q⟩ := h
  obtain rfl : v = Value.ref a := rx
  exact tail_any (dict_typeIs I g) PySem.F.slot_dict_getitem.lookup (d_getItem (by omega) I g ry fun w' s' I' r' => ⟨z, H, I', r', q⟩) hs
def rItem : DR2 := fun x y G Q => match D.item (x.cur G) y with
  | some d => Q d G
  | none => False
theorem de_ix {a b : Expr} {ta tb : DTE} (hu : X.A.units + 100 < cLine) (ha : DE X a ta) (hb : DE X b tb) (hs : PlainIx b := by intro _ _; rfl) : DE X (.Subscript a b pos) (dOp rItem ta tb) := by
  obtain ⟨t1, p1, r1⟩ := ha.ex
  obtain ⟨t2, p2, r2⟩ := hb.ex
  refine ⟨_, pe_ix ((ix_seq (X := X)).or (ix_dict hu)) p1 p2 hs, dop_of (a := a) (b := b) ?_ r1 r2⟩
  intro F H G x y dx dy g rx ry Q' h Q k
  unfold rItem at h
  split at h
  · rename_i d e
    have fin : ∀ v, Rep X.K F v d → Q v H := fun v r => k F H _ _ G Go.refl g r h
    unfold D.item at e
    split at e
    · rename_i xs ex
      split at e
      · cases ry
        obtain ⟨p, vs, rfl, hp, rs⟩ := cur_tup rx ex
        obtain ⟨v, hv, rv⟩ := atI_rep rs e
        exact .inl (.inr (.inl ⟨p, vs, _, v, rfl, rfl, .inl (.inl (g.ex _ _ hp)), hv, fin v rv⟩))
      · cases e
    · rename_i xs ex
      split at e
      · cases ry
        obtain ⟨p, vs, rfl, hp, rs⟩ := cur_list g rx ex
        obtain ⟨v, hv, rv⟩ := atI_rep rs e
        exact .inl (.inl ⟨p, vs, _, v, rfl, rfl, .inl (.inl hp), hv, fin v rv⟩)
      · cases e
    · rename_i z ex
      split at e
      · cases ry
        split at e
        · rename_i hz
          rename_i i
          cases ec : atI z.cps.toList i with
          | none => rw [ec] at e; cases e
          | some c =>
            rw [ec] at e
            cases e
            exact .inl (.inr (.inr ⟨z, _, c, cur_str rx ex, rfl, hz, ec, fin _ (.str _)⟩))
        · cases e
      · cases e
    · rename_i xs ex
      split at e
      · cases ry
        obtain ⟨p, vs, rfl, hp, rs⟩ := cur_kup rx ex
        obtain ⟨v, hv, rv⟩ := atI_rep rs e
        exact .inl (.inr (.inl ⟨p, vs, _, v, rfl, rfl, g.ex.sqt hp, hv, fin v rv⟩))
      · cases e
    · cases el : (dx.cur G).look dy with
      | none => rw [el] at e; cases e
      | some o =>
        rw [el] at e
        have e' : o = some d := e
        obtain ⟨a', o', rfl, dg, h1, _⟩ := look_get g rx ry el
        obtain ⟨z, rfl, rz⟩ := h1 d e'
        exact .inr ⟨a', z, rfl, dg, fin z rz⟩
  · exact h.elim
abbrev DTO := DS → GH → (Option Int → GH → Prop) → Prop
structure DO (X : Cx) (e : Option Expr) (t' : DTO) : Prop where
  ex : ∃ t, PO X e t ∧ ∀ F H σ S G, Ok X.K F H σ S G → ∀ Q', t' S G Q' → ∀ Q : Option Int → Hp → Prop, (∀ F' H' o G', Go F H G F' H' G' → Gok X.K F' H' G' → Q' o G' → Q o H') → t σ H Q
def dNoPart : DTO := fun _ G Q => Q none G
def dPart (ta : DTE) : DTO := fun S G Q => ta S G fun d G1 => match d with
  | .int i => Q (some i) G1
  | _ => False
theorem do_none : DO X none dNoPart := ⟨_, po_none, fun F H σ S G o Q' h Q k => k F H none G Go.refl o.g h⟩
theorem do_some {e : Expr} {ta : DTE} (h : DE X e ta) : DO X (some e) (dPart ta) := by
  obtain ⟨t1, p1, r1⟩ := h.ex
  refine ⟨_, po_some p1, fun F H σ S G o Q' h Q k => ?_⟩
  refine r1 F H σ S G o _ h _ fun F1 H1 v d G1 e1 g1 q1 h1 => ?_
  dsimp only at h1
  split at h1
  · cases q1
    exact ⟨_, rfl, k F1 H1 _ G1 e1 g1 h1⟩
  · exact h1.elim
def rSlice (x : D) (lo hi : Option Int) (G : GH) (Q : DQ) : Prop := match x.cur G with
  | .tup xs => Q (.tup (cutD xs lo hi)) G
  | .lst xs => Q (.lst (cutD xs lo hi)) G
  | .str z => z.length ≤ sizeLine ∧ Q (.str (cutS z lo hi)) G
  | .scr ns => Q (.lst ((cutD ns lo hi).map .int)) G
  | .kup xs => if HT.sIx xs.length 0 lo = 0 ∧ HT.sIx xs.length xs.length hi = xs.length then Q (.kup xs) G else Q (.tup (cutD xs lo hi)) G
  | _ => False
def dSlice (ta : DTE) (tl th : DTO) : DTE := fun S G Q => ta S G fun x G1 => tl S G1 fun lo G2 => th S G2 fun hi G3 => rSlice x lo hi G3 Q
theorem Reps.ints {K : PySem.W.Frag} {F : Hp} : ∀ (ns : List Int), Reps K F (ns.map V.int) (ns.map D.int)
  | [] => .nil
  | n :: ns => .cons (.int n) (Reps.ints ns)
theorem de_slice {e : Expr} {lo hi : Option Expr} {ta : DTE} {tl th : DTO} {p2 : Pos} (he : DE X e ta) (hl : DO X lo tl) (hh : DO X hi th) : DE X (.Subscript e (.Slice lo hi none p2) pos) (dSlice ta tl th) := by
  obtain ⟨t1, p1, r1⟩ := he.ex
  obtain ⟨t2, p2', r2⟩ := hl.ex
  obtain ⟨t3, p3, r3⟩ := hh.ex
  refine ⟨_, pe_slice ((sl_tupA (X := X)).or ((sl_list (X := X)).or (sl_str (X := X)))) p1 p2' p3, fun F H σ S G o Q' h Q k => ?_⟩
  refine r1 F H σ S G o _ h _ fun F1 H1 v d G1 e1 g1 q1 h1 => ?_
  refine r2 F1 H1 σ S G1 (o.go e1 g1) _ h1 _ fun F2 H2 lo G2 e2 g2 h2 => ?_
  refine r3 F2 H2 σ S G2 ((o.go e1 g1).go e2 g2) _ h2 _ fun F3 H3 hi G3 e3 g3 h3 => ?_
  have r := (q1.mono e2.ex).mono e3.ex
  have kk := k.mono ((e1.trans e2).trans e3)
  unfold rSlice at h3
  split at h3
  · rename_i xs ex
    obtain ⟨p, vs, rfl, hp, rs⟩ := cur_tup r ex
    refine .inl ⟨p, vs, rfl, .inl (.inl (g3.ex _ _ hp)), fun z => ?_, fun _ p' hp' => ?_⟩
    · have ec : cutD xs lo hi = xs := by
        unfold cutD
        rw [rs.length] at z
        rw [z.1, z.2]
        simp
      rw [ec] at h3
      exact kk F3 H3 _ _ G3 Go.refl g3 (.tup hp rs) h3
    · have gr := Gr.new (u := .tup (cutV vs lo hi)) g3.ex hp'
      exact kk _ _ _ _ G3 gr.go (g3.grow gr) (.tup upd_same ((rs.cut lo hi).mono gr.ff)) h3
  · rename_i xs ex
    obtain ⟨p, vs, rfl, hp, rs⟩ := cur_list g3 r ex
    refine .inr (.inl ⟨p, vs, rfl, .inl (.inl hp), fun p' hp' => ?_⟩)
    have gr := Gr.new (u := .lst (cutV vs lo hi)) g3.ex hp'
    exact kk _ _ _ _ G3 gr.go (g3.grow gr) (.lst upd_same ((rs.cut lo hi).mono gr.ff)) h3
  · rename_i z ex
    exact .inr (.inr ⟨z, cur_str r ex, h3.1, kk F3 H3 _ _ G3 Go.refl g3 (.str _) h3.2⟩)
  · rename_i ns ex
    have hd : d = .scr ns := by
      cases d with
      | rf a =>
        unfold D.cur at ex
        cases q : G3 a with
        | none => simp only [q] at ex; cases ex
        | some o => cases o <;> (simp only [q] at ex; cases ex)
      | _ => exact ex
    subst hd
    cases r with
    | scr hs =>
      refine .inr (.inl ⟨_, ns.map V.int, rfl, g3.ex.sql hs, fun p' hp' => ?_⟩)
      have gr := Gr.new (u := .lst (cutV (ns.map V.int) lo hi)) g3.ex hp'
      have rc : Reps X.K F3 (cutV (ns.map V.int) lo hi) ((cutD ns lo hi).map .int) := by
        have := (Reps.ints (K := X.K) (F := F3) ns).cut lo hi
        have e : cutD (ns.map D.int) lo hi = (cutD ns lo hi).map .int := by
          unfold cutD
          simp [List.map_take, List.map_drop]
        rw [e] at this
        exact this
      exact kk _ _ _ _ G3 gr.go (g3.grow gr) (.lst upd_same (rc.mono gr.ff)) h3
  · rename_i xs ex
    obtain ⟨p, vs, rfl, hp, rs⟩ := cur_kup r ex
    refine .inl ⟨p, vs, rfl, g3.ex.sqt hp, fun z => ?_, fun z p' hp' => ?_⟩
    · rw [rs.length] at z
      rw [if_pos z] at h3
      exact kk F3 H3 _ _ G3 Go.refl g3 (.kup hp rs) h3
    · rw [rs.length] at z
      rw [if_neg z] at h3
      have gr := Gr.new (u := .tup (cutV vs lo hi)) g3.ex hp'
      exact kk _ _ _ _ G3 gr.go (g3.grow gr) (.tup upd_same ((rs.cut lo hi).mono gr.ff)) h3
  · exact h3.elim
def dFld (C : Addr) (f : Str) (ta : DTE) : DTE := fun S G Q => ta S G fun d G1 => match d.cur G1 with
  | .obj C' fs => C' = C ∧ (match fs.lookup f with
    | some v => Q v G1
    | none => False)
  | _ => False
theorem de_fld {e : Expr} {f : Str} {C : Addr} {ta : DTE} (c : Cls X.K C) (na : NoAttr X.K C f) (he : DE X e ta) (hb : attributeBase e f X.env (eval e X.env) = eval e X.env := by rfl) : DE X (.Attribute e f pos) (dFld C f ta) := by
  obtain ⟨t1, p1, r1⟩ := he.ex
  refine ⟨_, pe_fld p1 hb, fun F H σ S G o Q' h Q k => ?_⟩
  refine r1 F H σ S G o _ h _ fun F1 H1 v d G1 e1 g1 q1 h1 => ?_
  dsimp only at h1
  split at h1
  · rename_i C' fs ex
    obtain ⟨rfl, h1⟩ := h1
    obtain ⟨a, dx, kvs, rfl, ha, kr⟩ := cur_obj g1 q1 ex
    split at h1
    · rename_i z ez
      obtain ⟨y, hy, ry⟩ := kr.look.1 _ ez
      exact ⟨a, C', dx, kvs, y, rfl, ha, c, na, hy, k F1 H1 _ _ G1 e1 g1 ry h1⟩
    · exact h1.elim
  · exact h1.elim
def dSetFld (C : Addr) (f : Str) (ta tv : DTE) : DTS := fun D' S G => tv S G fun y G1 => ta S G1 fun x G2 => match x with
  | .rf a => (match G2 a with
    | some (.ins C' fs) => C' = C ∧ fs.length < 1000 ∧ D'.nx S (gput G2 a (.ins C (putFD f y fs)))
    | _ => False)
  | _ => False
theorem dp_setFld {e value : Expr} {f : Str} {C : Addr} {ta tv : DTE} {pos' : Pos} (c : Cls X.K C) (na : NoAttr X.K C f) (he : DE X e ta) (hv : DE X value tv) (hs : swapsWith value (some (.Attribute e f pos')) pos.line X.env = pure false := by rfl) :
    DP X (.Assign [.Attribute e f pos'] value pos) (dSetFld C f ta tv) := by
  obtain ⟨t1, p1, r1⟩ := he.ex
  obtain ⟨t2, p2, r2⟩ := hv.ex
  refine ⟨_, ps_fld p1 p2 hs, fun F H σ S G o D' h D0 k => ?_⟩
  refine r2 F H σ S G o _ h _ fun F1 H1 v d G1 e1 g1 q1 h1 => ?_
  refine r1 F1 H1 σ S G1 (o.go e1 g1) _ h1 _ fun F2 H2 u d2 G2 e2 g2 q2 h2 => ?_
  dsimp only at h2
  split at h2
  · rename_i a
    split at h2
    · rename_i C' fs eg
      obtain ⟨rfl, hl, h2⟩ := h2
      cases q2
      obtain ⟨fa, dx, kvs, ha, h3, h4⟩ := g2.at_ a _ eg
      have kr : KR X.K F2 kvs fs := ⟨h3, h4⟩
      have kr2 := kr.putF (f := f) (q1.mono e2.ex)
      refine ⟨a, C', dx, kvs, rfl, ha, c, na, by rw [kr.len]; exact hl, ?_⟩
      have g3 := g2.put (u := .ins C' dx (L2.putF f v kvs)) (o := .ins C' (putFD f d fs)) eg rfl rfl ⟨dx, _, upd_same, kr2.ks, kr2.vs⟩
      exact k.nx F2 _ σ S _ ((e1.trans e2).trans (Go.put eg)) ⟨g3, (o.s.mono e1.ex).mono e2.ex⟩ h2
    · exact h2.elim
  · exact h2.elim
def dSetSub (to ti : DTE) : DTG := fun v S G Q => to S G fun x G1 => ti S G1 fun i G2 => match x with
  | .rf a => (match G2 a with
    | some (.lst xs) => (match i with
      | .int j => (match ixN xs.length j with
        | some n => Q S (gput G2 a (.lst (xs.set n v)))
        | none => False)
      | _ => False)
    | some (.dK kds) => (match i.key with
      | some k => kds.length < sizeLine ∧ Q S (gput G2 a (.dK (putD kds k v)))
      | none => False)
    | some (.dT kds) => (match i with
      | .tup ds => (match D.keys ds with
        | some k => kds.length < sizeLine ∧ Q S (gput G2 a (.dT (putD kds k v)))
        | none => False)
      | _ => False)
    | _ => False)
  | _ => False
def rSetD : V → V → V → Hp → (Hp → Prop) → Prop := fun o i v H Q => ∃ a H', o = .ref a ∧ DPut H a i v H' ∧ Q H'
theorem set_dict (hu : X.A.units + 100 < cLine) : PSet X rSetD := by
  intro pins s σ H o i v ov iv u Q I ro ri rv h
  obtain ⟨a, H', rfl, g, q⟩ := h
  obtain rfl : ov = Value.ref a := ro
  exact d_setItem (by omega) I g ri rv fun s' I' => ⟨H', I', q⟩
theorem PSet.or {r r' : TSet} (h : PSet X r) (h' : PSet X r') : PSet X (fun o i v H Q => r o i v H Q ∨ r' o i v H Q) := by
  intro pins s σ H o i v ov iv u Q I ro ri rv q
  rcases q with q | q
  · exact h pins s σ H o i v ov iv u Q I ro ri rv q
  · exact h' pins s σ H o i v ov iv u Q I ro ri rv q
theorem dg_sub {o i : Expr} {to ti : DTE} (hu : X.A.units + 100 < cLine) (ho : DE X o to) (hi : DE X i ti)
    (ha : ∀ v, assign (.Subscript o i pos) X.env v = (do let ov ← holding [v] (eval o X.env); let iv ← holding [v, ov] (eval i X.env); standAt pos; holding [v, ov, iv] (setItem ov iv v); release [v, ov, iv] []) := by intro _; rfl) : DG X (.Subscript o i pos) (dSetSub to ti) := by
  obtain ⟨t1, p1, r1⟩ := ho.ex
  obtain ⟨t2, p2, r2⟩ := hi.ex
  refine ⟨_, pg_sub p1 p2 (PSet.or set_list (set_dict hu)) ha, fun F H σ S G v d o' r Q' h Q k => ?_⟩
  refine r1 F H σ S G o' _ h _ fun F1 H1 x dx G1 e1 g1 q1 h1 => ?_
  refine r2 F1 H1 σ S G1 (o'.go e1 g1) _ h1 _ fun F2 H2 y dy G2 e2 g2 q2 h2 => ?_
  have rv := (r.mono e1.ex).mono e2.ex
  dsimp only at h2
  split at h2
  · rename_i a
    cases q1
    split at h2
    · rename_i xs eg
      split at h2
      · rename_i j
        cases q2
        split at h2
        · rename_i n en
          obtain ⟨fa, vs, ha, rs⟩ := g2.at_ a _ eg
          refine .inl ⟨a, vs, j, n, rfl, rfl, ha, by rw [rs.length]; exact en, ?_⟩
          have g3 := g2.put (u := .lst (vs.set n v)) (o := .lst (xs.set n d)) eg rfl rfl ⟨_, upd_same, rs.set rv n⟩
          exact k F2 _ σ S _ ((e1.trans e2).trans (Go.put eg)) ⟨g3, (o'.s.mono e1.ex).mono e2.ex⟩ h2
        · exact h2.elim
      · exact h2.elim
    · rename_i kds eg
      split at h2
      · rename_i kk ek
        obtain ⟨hl, h2⟩ := h2
        obtain ⟨fa, kvs, ha, h3, h4⟩ := g2.at_ a _ eg
        have kr : KR X.K F2 kvs kds := ⟨h3, h4⟩
        have kr2 := kr.put (k := kk) rv
        have ey := q2.key ek
        subst ey
        refine .inr ⟨a, _, rfl, DPut.k (k := kk) ha (by rw [kr.len]; exact hl), ?_⟩
        have g3 := g2.put (u := .dK (putK kvs kk v)) (o := .dK (putD kds kk d)) eg rfl rfl ⟨_, upd_same, kr2.ks, kr2.vs⟩
        exact k F2 _ σ S _ ((e1.trans e2).trans (Go.put eg)) ⟨g3, (o'.s.mono e1.ex).mono e2.ex⟩ h2
      · exact h2.elim
    · rename_i kds eg
      split at h2
      · rename_i ds
        split at h2
        · rename_i kk ek
          obtain ⟨hl, h2⟩ := h2
          obtain ⟨fa, kvs, ha, h3, h4⟩ := g2.at_ a _ eg
          have kr : KR X.K F2 kvs kds := ⟨h3, h4⟩
          have kr2 := kr.put (k := kk) rv
          cases q2 with
          | tup hb rs =>
            have eb := rs.keys ek
            subst eb
            refine .inr ⟨a, _, rfl, DPut.t (k := kk) ha (g2.ex _ _ hb) (by rw [kr.len]; exact hl), ?_⟩
            have g3 := g2.put (u := .dT (putK kvs kk v)) (o := .dT (putD kds kk d)) eg rfl rfl ⟨_, upd_same, kr2.ks, kr2.vs⟩
            exact k F2 _ σ S _ ((e1.trans e2).trans (Go.put eg)) ⟨g3, (o'.s.mono e1.ex).mono e2.ex⟩ h2
        · exact h2.elim
      · exact h2.elim
    · exact h2.elim
  · exact h2.elim
def dMeth (C : Addr) (m : Str) (sp : SpD) (ta : DTE) (tr : DTA) : DTE := fun S G Q => ta S G fun d G1 => match d.cur G1 with
  | .obj C' fs => C' = C ∧ fs.lookup m = none ∧ tr S G1 fun ds G2 => sp (d :: ds) G2 Q
  | _ => False
def dMake (C : Addr) (sp : SpD) (tr : DTA) : DTE := fun S G Q => tr S G fun ds G1 => ∀ y, G1 y = none → sp (.rf y :: ds) (gput G1 y (.ins C [])) fun d G2 => match d with
  | .non => Q (.rf y) G2
  | _ => False
theorem de_make {e : Expr} {es : List Expr} {C f : Addr} {x : Str} {k : Nat} {fd : FuncData} {ps : List Str} {sp : SpD} {tr : DTA} {p : Pos} (M : Mk X.K C f) (Fn : FnG X.prog X.w X.K X.mg X.base CX0 k f fd ps (SpOf X.K sp)) (hA : X.A.guards = some []) (hr : Room (k + 1) X.A) (hg : Gl X x) (hm : X.mg x = some (.ref C)) (hb : Binds X.K fd ps []) (ha : DA X (e :: es) tr)
    (hdb : (x == ("__debug__" : Str)) = false := by decide) (he : starEach (e :: es) X.env = (false, eval e X.env) :: starEach es X.env := by rfl) (hpl : (backTo pos (starEach es X.env)).any (·.1) = false := by rfl) :
    DE X (.Call (.Name x p) (e :: es) [] pos) (dMake C sp tr) := by
  obtain ⟨t2, p2, r2⟩ := ha.ex
  refine ⟨_, pg_make M Fn hA hr hg hm hb .nil pass0 p2 hdb he hpl, fun F H σ S G o Q' h Q k => ?_⟩
  refine r2 F H σ S G o _ h _ fun F1 H1 vs ds G1 e1 g1 q1 h1 => ?_
  intro y dy ny ndy ne
  rw [List.append_nil]
  have gr := Gr.only (u := .own y) g1.ex ndy
  have g2 := g1.grow gr
  have ny2 : upd H1 dy (.own y) y = none := by rw [upd_ne (fun z => ne z.symm)]; exact ny
  have g3 := g2.alloc (u := .ins C dy []) (o := .ins C []) ny2 rfl ⟨dy, [], upd_same, rfl, .nil⟩
  have go3 : Go F1 H1 G1 F1 _ (gput G1 y (.ins C [])) := (gr.go (G := G1)).trans (Go.alloc (u := .ins C dy []) (o := .ins C []) ny2)
  refine ⟨F1, _, .rf y :: ds, _, g3, .cons (.rf y) q1, h1 y (g1.free ny), ?_⟩
  intro F4 H4 v d G4 e4 g4 q4 h4
  split at h4
  · cases q4
    exact ⟨rfl, k F4 H4 _ _ G4 ((e1.trans go3).trans e4) g4 (.rf y) h4⟩
  · exact h4.elim
end
end DL
end
section
set_option Elab.async false
set_option linter.all false
set_option maxRecDepth 100000
set_option maxHeartbeats 4000000
namespace DL
open PySem PySem.Spec PyProof.Rows L2
section
variable {X : Cx} {pos : Pos} {tg : Expr}
def dNoGuard : GH → Prop := fun _ => True
def diTup (te : DTE) : DTI := fun S G R => te S G fun d G1 => match d with
  | .tup ds => R ds dNoGuard G1
  | .kup ds => R ds dNoGuard G1
  | _ => False
theorem di_tup {e : Expr} {te : DTE} (h : DE X e te) : DI X tg e (diTup te) := by
  obtain ⟨t, p, r⟩ := h.ex
  refine ⟨_, pi_tup p, fun F H σ S G o R' h R k => ?_⟩
  refine r F H σ S G o _ h _ fun F1 H1 v d G1 e1 g1 q1 h1 => ?_
  dsimp only at h1
  split at h1
  · cases q1 with
    | tup ha rs =>
      rename_i a vs
      refine ⟨a, rfl, ⟨vs, .inl (.inl (g1.ex _ _ ha))⟩, k F1 H1 G1 _ _ _ e1 g1 ⟨fun F2 H2 G2 i d e2 g2 _ hd => ?_, fun F2 H2 G2 e2 g2 _ => ?_⟩ h1⟩
      · have hs : SqT X.K H2 a vs := .inl (.inl (g2.ex _ _ (e2 _ _ ha)))
        obtain ⟨v, hv, rv⟩ := rs.get hd
        refine ⟨⟨vs, v, hs, hv⟩, fun x H3 hy => ?_⟩
        obtain ⟨rfl, hx⟩ := hy
        have := hx vs hs
        rw [hv] at this
        cases this
        exact ⟨F2, Go.refl, g2, rv.mono e2⟩
      · exact ⟨vs, .inl (.inl (g2.ex _ _ (e2 _ _ ha))), by rw [rs.length]; exact Nat.le_refl _⟩
  · cases q1 with
    | kup ha rs =>
      rename_i a vs
      refine ⟨a, rfl, ⟨vs, g1.ex.sqt ha⟩, k F1 H1 G1 _ _ _ e1 g1 ⟨fun F2 H2 G2 i d e2 g2 _ hd => ?_, fun F2 H2 G2 e2 g2 _ => ?_⟩ h1⟩
      · have hs : SqT X.K H2 a vs := g2.ex.sqt (e2.sqt ha)
        obtain ⟨v, hv, rv⟩ := rs.get hd
        refine ⟨⟨vs, v, hs, hv⟩, fun x H3 hy => ?_⟩
        obtain ⟨rfl, hx⟩ := hy
        have := hx vs hs
        rw [hv] at this
        cases this
        exact ⟨F2, Go.refl, g2, rv.mono e2⟩
      · exact ⟨vs, g2.ex.sqt (e2.sqt ha), by rw [rs.length]; exact Nat.le_refl _⟩
  · exact h1.elim
def diList (te : DTE) : DTI := fun S G R => te S G fun d G1 => match d with
  | .lst ds => R ds dNoGuard G1
  | .rf a => (match G1 a with
    | some (.lst ds) => R ds (fun G => G a = some (.lst ds)) G1
    | _ => False)
  | _ => False
theorem di_list {e : Expr} {te : DTE} (h : DE X e te) : DI X tg e (diList te) := by
  obtain ⟨t, p, r⟩ := h.ex
  refine ⟨_, pi_list p, fun F H σ S G o R' h R k => ?_⟩
  refine r F H σ S G o _ h _ fun F1 H1 v d G1 e1 g1 q1 h1 => ?_
  dsimp only at h1
  split at h1
  · cases q1 with
    | lst ha rs =>
      rename_i a vs
      refine ⟨a, rfl, ⟨vs, .inl (.inl (g1.ex _ _ ha))⟩, k F1 H1 G1 _ _ _ e1 g1 ⟨fun F2 H2 G2 i d e2 g2 _ hd => ?_, fun F2 H2 G2 e2 g2 _ => ?_⟩ h1⟩
      · have hs : SqL X.K H2 a vs := .inl (.inl (g2.ex _ _ (e2 _ _ ha)))
        obtain ⟨v, hv, rv⟩ := rs.get hd
        refine ⟨⟨vs, v, hs, hv⟩, fun x H3 hy => ?_⟩
        obtain ⟨rfl, hx⟩ := hy
        have := hx vs hs
        rw [hv] at this
        cases this
        exact ⟨F2, Go.refl, g2, rv.mono e2⟩
      · exact ⟨vs, .inl (.inl (g2.ex _ _ (e2 _ _ ha))), by rw [rs.length]; exact Nat.le_refl _⟩
  · rename_i a
    split at h1
    · rename_i ds eg
      cases q1
      obtain ⟨fa, vs0, ha0, rs0⟩ := g1.at_ a _ eg
      refine ⟨a, rfl, ⟨vs0, .inl (.inl ha0)⟩, k F1 H1 G1 _ _ _ e1 g1 ⟨fun F2 H2 G2 i d e2 g2 gd hd => ?_, fun F2 H2 G2 e2 g2 gd => ?_⟩ h1⟩
      · obtain ⟨fa2, vs, ha, rs⟩ := g2.at_ a _ gd
        have hs : SqL X.K H2 a vs := .inl (.inl ha)
        obtain ⟨v, hv, rv⟩ := rs.get hd
        refine ⟨⟨vs, v, hs, hv⟩, fun x H3 hy => ?_⟩
        obtain ⟨rfl, hx⟩ := hy
        have := hx vs hs
        rw [hv] at this
        cases this
        exact ⟨F2, Go.refl, g2, rv⟩
      · obtain ⟨fa2, vs, ha, rs⟩ := g2.at_ a _ gd
        exact ⟨vs, .inl (.inl ha), by rw [rs.length]; exact Nat.le_refl _⟩
    · exact h1.elim
  · exact h1.elim
def signs (x : Str) : List D := x.cps.toList.map fun c => .str ⟨#[c]⟩
def diStr (te : DTE) : DTI := fun S G R => te S G fun d G1 => match d with
  | .str x => R (signs x) dNoGuard G1
  | _ => False
theorem di_str {e : Expr} {te : DTE} (h : DE X e te) : DI X tg e (diStr te) := by
  obtain ⟨t, p, r⟩ := h.ex
  refine ⟨_, pi_str p, fun F H σ S G o R' h R k => ?_⟩
  refine r F H σ S G o _ h _ fun F1 H1 v d G1 e1 g1 q1 h1 => ?_
  dsimp only at h1
  split at h1
  · rename_i x
    cases q1
    refine ⟨x, rfl, k F1 H1 G1 _ _ _ e1 g1 ⟨fun F2 H2 G2 i d e2 g2 _ hd => ?_, fun F2 H2 G2 e2 g2 _ => ?_⟩ h1⟩
    · unfold signs at hd
      rw [List.getElem?_map] at hd
      cases ec : x.cps.toList[i]? with
      | none => rw [ec] at hd; cases hd
      | some c =>
        rw [ec] at hd
        cases hd
        have hl : i < x.cps.size := by
          have := (List.getElem?_eq_some_iff.mp ec).1
          simpa using this
        refine ⟨hl, fun y H3 hy => ?_⟩
        obtain ⟨rfl, c', hc', rfl⟩ := hy
        have e2' : x.cps[i]? = some c := by rw [← ec]; simp
        rw [e2'] at hc'
        cases hc'
        exact ⟨F2, Go.refl, g2, .str _⟩
    · show x.cps.size ≤ (signs x).length
      simp [signs]
  · exact h1.elim
def diRange1 (ta : DTA) : DTI := fun S G R => ta S G fun ds G1 => match ds with
  | [.int n] => -(2 ^ 62) ≤ n ∧ n < 2 ^ 62 ∧ R ((List.range n.toNat).map fun i => .int (i : Nat)) dNoGuard G1
  | _ => False
theorem itr_ok {K : PySem.W.Frag} {F : Hp} (lo : Int) (n : Nat) : ItOk K F (Itr lo n) ((List.range n).map fun i => .int (lo + (i : Nat))) dNoGuard := by
  refine ⟨fun F2 H2 G2 i d e2 g2 _ hd => ?_, fun F2 H2 G2 e2 g2 _ => ?_⟩
  · rw [List.getElem?_map] at hd
    cases ec : (List.range n)[i]? with
    | none => rw [ec] at hd; cases hd
    | some c =>
      rw [ec] at hd
      cases hd
      have hl := (List.getElem?_eq_some_iff.mp ec)
      obtain ⟨h1, h2⟩ := hl
      rw [List.length_range] at h1
      rw [List.getElem_range] at h2
      subst h2
      refine ⟨h1, fun y H3 hy => ?_⟩
      obtain ⟨rfl, rfl⟩ := hy
      exact ⟨F2, Go.refl, g2, .int _⟩
  · show n ≤ _
    simp
theorem di_range1 {a : Expr} {ta : DTA} {p : Pos} (hg : Gl X "range") (hm : X.mg "range" = none) (ha : DA X [a] ta) (hs : starEach [a] X.env = [(false, eval a X.env)] := by rfl) : DI X tg (.Call (.Name "range" p) [a] [] pos) (diRange1 ta) := by
  obtain ⟨t, p1, r⟩ := ha.ex
  refine ⟨_, pi_range1 hg hm p1 hs, fun F H σ S G o R' h R k => ?_⟩
  refine r F H σ S G o _ h _ fun F1 H1 vs ds G1 e1 g1 q1 h1 => ?_
  dsimp only at h1
  split at h1
  · rename_i n
    cases q1 with
    | cons a b =>
      cases a; cases b
      obtain ⟨h2, h3, h4⟩ := h1
      refine ⟨n, rfl, h2, h3, k F1 H1 G1 _ _ _ e1 g1 (itr_ok 0 n.toNat) ?_⟩
      have e : ((List.range n.toNat).map fun i => D.int (0 + ((i : Nat) : Int))) = (List.range n.toNat).map fun i => D.int ((i : Nat) : Int) := by
        congr 1
        funext i
        rw [Int.zero_add]
      rw [e]
      exact h4
  · exact h1.elim
def diRange2 (ta : DTA) : DTI := fun S G R => ta S G fun ds G1 => match ds with
  | [.int m, .int n] => (-(2 ^ 62) ≤ m ∧ m < 2 ^ 62 ∧ -(2 ^ 62) ≤ n ∧ n < 2 ^ 62) ∧ R ((List.range (n - m).toNat).map fun i => .int (m + (i : Nat))) dNoGuard G1
  | _ => False
theorem di_range2 {a b : Expr} {ta : DTA} {p : Pos} (hg : Gl X "range") (hm : X.mg "range" = none) (ha : DA X [a, b] ta) (hs : starEach [a, b] X.env = [(false, eval a X.env), (false, eval b X.env)] := by rfl) (hs2 : starEach [b] X.env = [(false, eval b X.env)] := by rfl) : DI X tg (.Call (.Name "range" p) [a, b] [] pos) (diRange2 ta) := by
  obtain ⟨t, p1, r⟩ := ha.ex
  refine ⟨_, pi_range2 hg hm p1 hs hs2, fun F H σ S G o R' h R k => ?_⟩
  refine r F H σ S G o _ h _ fun F1 H1 vs ds G1 e1 g1 q1 h1 => ?_
  dsimp only at h1
  split at h1
  · rename_i m n
    cases q1 with
    | cons a b =>
      cases a
      cases b with
      | cons c d =>
        cases c; cases d
        exact ⟨m, n, rfl, h1.1, k F1 H1 G1 _ _ _ e1 g1 (itr_ok m _) h1.2⟩
  · exact h1.elim
def dCB (r : List D → GH → DQ → Prop) (ta : DTA) : DTE := fun S G Q => ta S G fun ds G1 => r ds G1 Q
theorem de_callB {id : String} {r' : List D → GH → DQ → Prop} {x : Str} {e : Expr} {es : List Expr} {ta : DTA} {p : Pos} (hc : CallD X (.builtin id) r') (hg : Gl X x) (hm : X.mg x = none) (hv : bootBuiltins x = some (.builtin id)) (ha : DA X (e :: es) ta) (hn : x ≠ "__name__" := by decide) (hdb : (x == ("__debug__" : Str)) = false := by decide)
    (he : starEach (e :: es) X.env = (false, eval e X.env) :: starEach es X.env := by rfl) (hpl : (backTo pos (starEach es X.env)).any (·.1) = false := by rfl) : DE X (.Call (.Name x p) (e :: es) [] pos) (dCB r' ta) := by
  obtain ⟨r, hr, rr⟩ := hc.ex
  obtain ⟨t, p1, r1⟩ := ha.ex
  refine ⟨_, pe_callB hr hg hm hv p1 hn hdb he hpl, fun F H σ S G o Q' h Q k => ?_⟩
  refine r1 F H σ S G o _ h _ fun F1 H1 vs ds G1 e1 g1 q1 h1 => ?_
  exact rr F1 H1 G1 vs ds g1 q1 Q' h1 Q (k.mono e1)
theorem de_callTy {T : String} {r' : List D → GH → DQ → Prop} {x : Str} {e : Expr} {es : List Expr} {ta : DTA} {p : Pos} (hc : CallD X (.type T) r') (hg : Gl X x) (hm : X.mg x = none) (hv : bootBuiltins x = some (.type T)) (ha : DA X (e :: es) ta) (hn : x ≠ "__name__" := by decide) (hdb : (x == ("__debug__" : Str)) = false := by decide)
    (he : starEach (e :: es) X.env = (false, eval e X.env) :: starEach es X.env := by rfl) (hpl : (backTo pos (starEach es X.env)).any (·.1) = false := by rfl) : DE X (.Call (.Name x p) (e :: es) [] pos) (dCB r' ta) := by
  obtain ⟨r, hr, rr⟩ := hc.ex
  obtain ⟨t, p1, r1⟩ := ha.ex
  refine ⟨_, pe_callTy hr hg hm hv p1 hn hdb he hpl, fun F H σ S G o Q' h Q k => ?_⟩
  refine r1 F H σ S G o _ h _ fun F1 H1 vs ds G1 e1 g1 q1 h1 => ?_
  exact rr F1 H1 G1 vs ds g1 q1 Q' h1 Q (k.mono e1)
theorem CallR.or {f : Value} {r r' : List V → Hp → VK → Prop} (h : CallR X f r) (h' : CallR X f r') : CallR X f (fun xs H Q => r xs H Q ∨ r' xs H Q) := by
  intro pins s σ H xs us Q I rx q
  rcases q with q | q
  · exact h pins s σ H xs us Q I rx q
  · exact h' pins s σ H xs us Q I rx q
/-- len -/
def D.len : D → Option Nat
  | .tup xs => some xs.length
  | .lst xs => some xs.length
  | .str z => if z.length ≤ sizeLine then some z.length else none
  | .dK kds => some kds.length
  | .dT kds => some kds.length
  | .kup xs => some xs.length
  | _ => none
def rLenD (ds : List D) (G : GH) (Q : DQ) : Prop := match ds with
  | [d] => (match (d.cur G).len with
    | some n => Q (.int (n : Nat)) G
    | none => False)
  | _ => False
theorem cd_len : CallD X (.builtin "len") rLenD := by
  refine ⟨_, CallR.or call_len (CallR.or call_lenD call_len_dT), fun F H G vs ds g rs Q' h Q k => ?_⟩
  unfold rLenD at h
  split at h
  · rename_i d
    cases rs with
    | cons r b =>
      cases b
      split at h
      · rename_i n en
        have fin : Q (.int (n : Nat)) H := k F H _ _ G Go.refl g (.int _) h
        unfold D.len at en
        split at en
        · rename_i xs ex
          cases en
          obtain ⟨a, vs, rfl, ha, rs⟩ := cur_tup r ex
          exact .inl ⟨_, _, rfl, .inr ⟨vs, .inl (.inl (g.ex _ _ ha)), rs.length.symm⟩, fin⟩
        · rename_i xs ex
          cases en
          obtain ⟨a, vs, rfl, ha, rs⟩ := cur_list g r ex
          exact .inl ⟨_, _, rfl, .inl ⟨vs, .inl (.inl ha), rs.length.symm⟩, fin⟩
        · rename_i z ex
          split at en
          · rename_i hz
            cases en
            have := cur_str r ex
            subst this
            exact .inl ⟨_, _, rfl, ⟨hz, rfl⟩, fin⟩
          · cases en
        · rename_i kds ex
          cases en
          obtain ⟨a, kvs, rfl, ha, kr⟩ := cur_dK g r ex
          exact .inr (.inl ⟨a, kvs, rfl, ha, by rw [kr.len]; exact fin⟩)
        · rename_i kds ex
          cases en
          obtain ⟨a, kvs, rfl, ha, kr⟩ := cur_dT g r ex
          exact .inr (.inr ⟨a, kvs, rfl, ha, by rw [kr.len]; exact fin⟩)
        · rename_i xs ex
          cases en
          obtain ⟨a, vs, rfl, ha, rs⟩ := cur_kup r ex
          exact .inl ⟨_, _, rfl, .inr ⟨vs, g.ex.sqt ha, rs.length.symm⟩, fin⟩
        · cases en
      · exact h.elim
  · exact h.elim
/-- tuple(x) of a list, a tuple -/
def rTupleD (ds : List D) (G : GH) (Q : DQ) : Prop := match ds with
  | [d] => (match d.cur G with
    | .tup xs => Q (.tup xs) G
    | .lst xs => Q (.tup xs) G
    | _ => False)
  | _ => False
theorem cd_tuple : CallD X (.type "tuple") rTupleD := by
  refine ⟨_, call_tuple_of, fun F H G vs ds g rs Q' h Q k => ?_⟩
  unfold rTupleD at h
  split at h
  · rename_i d
    cases rs with
    | cons r b =>
      cases b
      split at h
      · rename_i xs ex
        obtain ⟨a, vs, rfl, ha, rs⟩ := cur_tup r ex
        exact ⟨a, vs, rfl, .inr ⟨.inl (.inl (g.ex _ _ ha)), k F H _ _ G Go.refl g (.tup ha rs) h⟩⟩
      · rename_i xs ex
        obtain ⟨a, vs, rfl, ha, rs⟩ := cur_list g r ex
        refine ⟨a, vs, rfl, .inl ⟨.inl (.inl ha), fun l hl => ?_⟩⟩
        have gr := Gr.new (u := .tup vs) g.ex hl
        exact k _ _ _ _ G gr.go (g.grow gr) (.tup upd_same (rs.mono gr.ff)) h
      · exact h.elim
  · exact h.elim
/-- {}: a dict that will change -/
def dNewK : DTE := fun _ G Q => ∀ p, G p = none → Q (.rf p) (gput G p (.dK []))
def dNewT : DTE := fun _ G Q => ∀ p, G p = none → Q (.rf p) (gput G p (.dT []))
theorem de_newK : DE X (.Dict [] [] pos) dNewK := by
  refine ⟨_, pe_dnewK, fun F H σ S G o Q' h Q k => ?_⟩
  intro p hp
  exact k _ _ _ _ _ (Go.alloc hp) (o.g.alloc (o := .dK []) hp rfl ⟨[], upd_same, rfl, .nil⟩) (.rf p) (h p (o.g.free hp))
theorem de_newT : DE X (.Dict [] [] pos) dNewT := by
  refine ⟨_, pe_dnewT, fun F H σ S G o Q' h Q k => ?_⟩
  intro p hp
  exact k _ _ _ _ _ (Go.alloc hp) (o.g.alloc (o := .dT []) hp rfl ⟨[], upd_same, rfl, .nil⟩) (.rf p) (h p (o.g.free hp))
/-- sorted(d) of a dict with int keys, fewer than 64 -/
def intKeys : List (Key × D) → Option (List Int)
  | [] => some []
  | (.inl i, _) :: r => (intKeys r).map (i :: ·)
  | (.inr _, _) :: _ => none
theorem intKeys_map : ∀ {kds : List (Key × D)} {ns : List Int}, intKeys kds = some ns → kds.map (·.1) = ns.map Sum.inl
  | [], _, h => by cases h; rfl
  | (.inl i, d) :: r, ns, h => by
    unfold intKeys at h
    cases e : intKeys r with
    | none => rw [e] at h; cases h
    | some m =>
      rw [e] at h
      cases h
      simp [intKeys_map e]
  | (.inr _, _) :: _, _, h => by cases h
end
end DL
end
section
set_option Elab.async false
set_option linter.all false
set_option maxRecDepth 100000
set_option maxHeartbeats 4000000
namespace DL
open PySem PySem.Spec PyProof.Rows L2
def hatE (K : PySem.W.Frag) (t' : DTE) : TE := fun σ H Q => ∃ F S G Q', Ok K F H σ S G ∧ t' S G Q' ∧ KpE K F H G Q' Q
def hatT (K : PySem.W.Frag) (t' : DTT) : TT := fun σ H Q => ∃ F S G Q', Ok K F H σ S G ∧ t' S G Q' ∧ KpT K F H G Q' Q
theorem DE.hat {X : Cx} {e : Expr} {t' : DTE} (h : DE X e t') : PE X e (hatE X.K t') := by
  obtain ⟨t, p, r⟩ := h.ex
  exact ⟨fun pins s σ H Q I ⟨F, S, G, Q', o, h1, k⟩ => p.run pins s σ H Q I (r F H σ S G o Q' h1 Q k)⟩
theorem DT.hat {X : Cx} {e : Expr} {t' : DTT} (h : DT X e t') : PT X e (hatT X.K t') := by
  obtain ⟨t, p, r⟩ := h.ex
  exact ⟨fun pins s σ H Q I ⟨F, S, G, Q', o, h1, k⟩ => p.run pins s σ H Q I (r F H σ S G o Q' h1 Q k)⟩
/-- the tests of a comprehension -/
structure DTs (X : Cx) (ifs : List Expr) (t' : DTT) : Prop where
  pt : PTs X ifs (hatT X.K t')
def dYes : DTT := fun _ G Q => Q true G
theorem dts_nil {X : Cx} : DTs X [] dYes := ⟨⟨fun pins s σ H Q I ⟨F, S, G, Q', o, h1, k⟩ => (pts_nil (X := X)).run pins s σ H Q I (k F H true G Go.refl o.g h1)⟩⟩
theorem dts_one {X : Cx} {c : Expr} {t' : DTT} (h : DT X c t') : DTs X [c] t' := ⟨pts_one h.hat⟩
inductive Pat where
  | nm (i : Nat) | tp (is : List Nat) | tn (i : Nat) (is : List Nat) | nt (is : List Nat) (j : Nat) | nn (is js : List Nat)
def gNames : List Nat → TGs
  | [] => gNil
  | i :: is => gCons (gName i) (gNames is)
def Pat.g (K : PySem.W.Frag) : Pat → TG
  | .nm i => gName i
  | .tp is => gTup K is.length (gNames is)
  | .tn i is => gTup K 2 (gCons (gName i) (gCons (gTup K is.length (gNames is)) gNil))
  | .nt is j => gTup K 2 (gCons (gTup K is.length (gNames is)) (gCons (gName j) gNil))
  | .nn is js => gTup K 2 (gCons (gTup K is.length (gNames is)) (gCons (gTup K js.length (gNames js)) gNil))
def Pat.at_ : Pat → List Nat
  | .nm i => [i]
  | .tp is => is
  | .tn i is => i :: is
  | .nt is j => is ++ [j]
  | .nn is js => is ++ js
def D.parts : D → Option (List D)
  | .tup ds => some ds
  | .kup ds => some ds
  | _ => none
theorem Rep.parts {K : PySem.W.Frag} {F : Hp} {v : V} {d : D} {ds : List D} (r : Rep K F v d) (h : d.parts = some ds) : ∃ a vs, v = .ref a ∧ SqT K F a vs ∧ Reps K F vs ds := by
  cases r with
  | tup ha rs => cases h; exact ⟨_, _, rfl, .inl (.inl ha), rs⟩
  | kup ha rs => cases h; exact ⟨_, _, rfl, ha, rs⟩
  | _ => cases h
def setAll : List Nat → List D → DS → Option DS
  | [], [], S => some S
  | i :: is, d :: ds, S => setAll is ds (S.set i (some d))
  | _, _, _ => none
def Pat.put (p : Pat) (d : D) (S : DS) : Option DS := match p with
  | .nm i => some (S.set i (some d))
  | .tp is => (match d with
    | .tup ds => setAll is ds S
    | .kup ds => setAll is ds S
    | _ => none)
  | .tn i is => (match d with
    | .tup [x, .tup ds] => setAll is ds (S.set i (some x))
    | _ => none)
  | .nt is j => (match d with
    | .tup [x, y] => (match x.parts with
      | some ds => (setAll is ds S).map fun S2 => S2.set j (some y)
      | none => none)
    | _ => none)
  | .nn is js => (match d with
    | .tup [x, y] => (match x.parts, y.parts with
      | some ds, some es => (match setAll is ds S with
        | some S2 => setAll js es S2
        | none => none)
      | _, _ => none)
    | _ => none)
def dwipe (S : DS) : List Nat → DS
  | [] => S
  | v :: vs => (dwipe S vs).set v none
theorem wipe_slots {K : PySem.W.Frag} {F : Hp} {σ : L2.St} {S : DS} (h : Slots K F σ S) : ∀ vs : List Nat, Slots K F (wipe σ vs) (dwipe S vs)
  | [] => h
  | v :: vs => (wipe_slots h vs).setN none v
theorem wipe_set {σ : L2.St} {i : Nat} {x : Option V} : ∀ {vs : List Nat}, i ∈ vs → wipe (σ.set i x) vs = wipe σ vs
  | [], h => by simp at h
  | v :: vs, h => by
    unfold wipe
    by_cases e : i ∈ vs
    · rw [wipe_set e]
    · have iv : i = v := by
        rcases List.mem_cons.mp h with h | h
        · exact h
        · exact absurd h e
      subst iv
      have aux : ∀ us : List Nat, i ∉ us → wipe (σ.set i x) us = (wipe σ us).set i x := by
        intro us
        induction us with
        | nil => intro _; rfl
        | cons u us ih =>
          intro hu
          rw [List.mem_cons, not_or] at hu
          unfold wipe
          rw [ih hu.2, List.set_comm _ _ hu.1]
      rw [aux vs e, List.set_set]
theorem wipe_wipe {σ : L2.St} {vs : List Nat} : wipe (wipe σ vs) vs = wipe σ vs := by
  have aux : ∀ us : List Nat, (∀ u ∈ us, u ∈ vs) → wipe (wipe σ us) vs = wipe σ vs := by
    intro us
    induction us with
    | nil => intro _; rfl
    | cons u us ih =>
      intro hu
      show wipe ((wipe σ us).set u none) vs = _
      rw [wipe_set (hu u (by simp)), ih fun w hw => hu w (by simp [hw])]
  exact aux vs fun _ h => h
theorem names_ok {K : PySem.W.Frag} {F H : Hp} {G : GH} {vs0 : List Nat} : ∀ {is : List Nat} {ds : List D} {vs : List V} {σ : L2.St} {S S2 : DS} {Q : L2.St → Hp → Prop}, (∀ i ∈ is, i ∈ vs0) → Ok K F H σ S G → Reps K F vs ds → setAll is ds S = some S2 →
    (∀ σ2, wipe σ2 vs0 = wipe σ vs0 → Ok K F H σ2 S2 G → Q σ2 H) → gNames is vs σ H Q
  | [], [], vs, σ, S, S2, Q, _, o, r, h, k => by
    cases r
    cases h
    exact ⟨rfl, k σ rfl o⟩
  | i :: is, d :: ds, vs, σ, S, S2, Q, hi, o, r, h, k => by
    cases r with
    | cons a b =>
      refine ⟨_, _, rfl, ?_⟩
      show gNames is _ _ H Q
      refine names_ok (S := S.set i (some d)) (fun j hj => hi j (by simp [hj])) ⟨o.g, o.s.set a i⟩ b h fun σ2 e o2 => k σ2 ?_ o2
      rw [e, wipe_set (hi i (by simp))]
  | [], _ :: _, _, _, _, _, _, _, _, _, h, _ => by cases h
  | _ :: _, [], _, _, _, _, _, _, _, _, h, _ => by cases h
theorem setAll_len : ∀ {is : List Nat} {ds : List D} {S S2 : DS}, setAll is ds S = some S2 → ds.length = is.length
  | [], [], _, _, _ => rfl
  | [], _ :: _, _, _, h => by cases h
  | _ :: _, [], _, _, h => by cases h
  | i :: is, d :: ds, S, S2, h => by
    have := setAll_len (is := is) (ds := ds) (S := S.set i (some d)) h
    simp [this]
theorem put_tn {i : Nat} {is : List Nat} {d : D} {S S2 : DS} (h : (Pat.tn i is).put d S = some S2) : ∃ x ds, d = .tup [x, .tup ds] ∧ setAll is ds (S.set i (some x)) = some S2 := by
  unfold Pat.put at h
  simp only at h
  split at h
  · exact ⟨_, _, rfl, h⟩
  · cases h
theorem pat_ok {K : PySem.W.Frag} {F H : Hp} {G : GH} {vs0 : List Nat} {p : Pat} {d : D} {v : V} {σ : L2.St} {S S2 : DS} {Q : L2.St → Hp → Prop} (hp : ∀ i ∈ p.at_, i ∈ vs0) (o : Ok K F H σ S G) (r : Rep K F v d) (h : p.put d S = some S2)
    (k : ∀ σ2, wipe σ2 vs0 = wipe σ vs0 → Ok K F H σ2 S2 G → Q σ2 H) : p.g K v σ H Q := by
  cases p with
  | nm i =>
    cases h
    exact k _ (wipe_set (hp i (by simp [Pat.at_]))) ⟨o.g, o.s.set r i⟩
  | tp is =>
    unfold Pat.put at h
    cases d with
    | tup ds =>
      simp only at h
      cases r with
      | tup ha rs =>
        have hl : ds.length = is.length := by
          clear ha rs o k hp
          induction is generalizing ds S with
          | nil => cases ds with
            | nil => rfl
            | cons a b => cases h
          | cons i is ih => cases ds with
            | nil => cases h
            | cons a b => simpa using ih _ h
        exact ⟨_, _, rfl, .inl (.inl (o.g.ex _ _ ha)), by rw [rs.length]; exact hl, names_ok hp o rs h k⟩
    | kup ds =>
      simp only at h
      cases r with
      | kup ha rs => exact ⟨_, _, rfl, o.g.ex.sqt ha, by rw [rs.length]; exact setAll_len h, names_ok hp o rs h k⟩
    | _ => cases h
  | tn i is =>
    obtain ⟨x, ds, rfl, h⟩ := put_tn h
    cases r with
    | tup ha rs =>
      cases rs with
      | cons rx rs =>
        cases rs with
        | cons ry rs =>
          cases rs
          cases ry with
          | tup hb ts =>
            have hl : ds.length = is.length := setAll_len h
            refine ⟨_, _, rfl, .inl (.inl (o.g.ex _ _ ha)), rfl, _, _, rfl, ?_⟩
            refine ⟨_, _, rfl, ?_⟩
            refine ⟨_, _, rfl, .inl (.inl (o.g.ex _ _ hb)), by rw [ts.length]; exact hl, ?_⟩
            refine names_ok (S := S.set i (some x)) (fun j hj => hp j (by simp [Pat.at_, hj])) ⟨o.g, o.s.set rx i⟩ ts h fun σ2 e o2 => ⟨rfl, k σ2 ?_ o2⟩
            rw [e, wipe_set (hp i (by simp [Pat.at_]))]
  | nt is j =>
    unfold Pat.put at h
    simp only at h
    split at h
    · rename_i x y
      split at h
      · rename_i ds ex
        cases e2 : setAll is ds S with
        | none => rw [e2] at h; cases h
        | some S3 =>
          rw [e2] at h
          cases h
          cases r with
          | tup ha rs =>
            cases rs with
            | cons rx rs =>
              cases rs with
              | cons ry rs =>
                cases rs
                obtain ⟨a, vs, rfl, hb, ts⟩ := rx.parts ex
                have hl := setAll_len e2
                refine ⟨_, _, rfl, .inl (.inl (o.g.ex _ _ ha)), rfl, _, _, rfl, ?_⟩
                refine ⟨_, _, rfl, o.g.ex.sqt hb, by rw [ts.length]; exact hl, ?_⟩
                refine names_ok (fun i hi => hp i (by simp [Pat.at_, hi])) o ts e2 fun σ2 e o2 => ⟨_, _, rfl, rfl, k _ ?_ ⟨o2.g, o2.s.set ry j⟩⟩
                rw [wipe_set (hp j (by simp [Pat.at_])), e]
      · cases h
    · cases h
  | nn is js =>
    unfold Pat.put at h
    simp only at h
    split at h
    · rename_i x y
      split at h
      · rename_i ds es ex ey
        cases e2 : setAll is ds S with
        | none => rw [e2] at h; cases h
        | some S3 =>
          rw [e2] at h
          cases r with
          | tup ha rs =>
            cases rs with
            | cons rx rs =>
              cases rs with
              | cons ry rs =>
                cases rs
                obtain ⟨a, vs, rfl, hb, ts⟩ := rx.parts ex
                obtain ⟨a', vs', rfl, hb', ts'⟩ := ry.parts ey
                refine ⟨_, _, rfl, .inl (.inl (o.g.ex _ _ ha)), rfl, _, _, rfl, ?_⟩
                refine ⟨_, _, rfl, o.g.ex.sqt hb, by rw [ts.length]; exact setAll_len e2, ?_⟩
                refine names_ok (fun i hi => hp i (by simp [Pat.at_, hi])) o ts e2 fun σ2 e o2 => ⟨_, _, rfl, ?_⟩
                refine ⟨_, _, rfl, o2.g.ex.sqt hb', by rw [ts'.length]; exact setAll_len h, ?_⟩
                refine names_ok (fun i hi => hp i (by simp [Pat.at_, hi])) o2 ts' h fun σ4 e4 o4 => ⟨rfl, k σ4 ?_ o4⟩
                rw [e4, e]
      · cases h
    · cases h
section
variable {X : Cx} {pos : Pos}
/-- [e for p in .. if t] -/
def dLc (wi : DTI) (p : Pat) (tt : DTT) (te : DTE) (vs : List Nat) : DTE := fun S G Q => wi S G fun ds gd G1 => ds.length ≤ sizeLine ∧ ∃ W : Nat → List D → GH → Prop, W 0 [] G1 ∧ (∀ i acc G, W i acc G → gd G) ∧
  (∀ i acc G d, W i acc G → ds[i]? = some d → ∃ S2, p.put d (dwipe S vs) = some S2 ∧ tt S2 G fun b G2 => if b = true then te S2 G2 fun y G3 => W (i + 1) (acc ++ [y]) G3 else W (i + 1) acc G2) ∧
  ∀ acc G, W ds.length acc G → Q (.lst acc) G
/-- the same, the list may change later -/
def dLcM (wi : DTI) (p : Pat) (tt : DTT) (te : DTE) (vs : List Nat) : DTE := fun S G Q => dLc wi p tt te vs S G fun d G' => match d with
  | .lst acc => ∀ a, G' a = none → Q (.rf a) (gput G' a (.lst acc))
  | _ => False
theorem lc_refine {wi : DTI} {p : Pat} {tt : DTT} {te : DTE} {vs : List Nat} {tw : TI} (hp : ∀ i ∈ p.at_, i ∈ vs)
    (r0 : ∀ F H σ S G, Ok X.K F H σ S G → ∀ R', wi S G R' → ∀ R : It → Hp → Prop, (∀ F1 H1 G1 J ds gd, Go F H G F1 H1 G1 → Gok X.K F1 H1 G1 → ItOk X.K F1 J ds gd → R' ds gd G1 → R J H1) → tw σ H R)
    {F H : Hp} {σ : L2.St} {S : DS} {G : GH} (o : Ok X.K F H σ S G) {Q' : List D → GH → Prop} {Q : VK}
    (h : wi S G fun ds gd G1 => ds.length ≤ sizeLine ∧ ∃ W : Nat → List D → GH → Prop, W 0 [] G1 ∧ (∀ i acc G, W i acc G → gd G) ∧
      (∀ i acc G d, W i acc G → ds[i]? = some d → ∃ S2, p.put d (dwipe S vs) = some S2 ∧ tt S2 G fun b G2 => if b = true then te S2 G2 fun y G3 => W (i + 1) (acc ++ [y]) G3 else W (i + 1) acc G2) ∧ ∀ acc G, W ds.length acc G → Q' acc G)
    (k : ∀ F' H' G' D accV acc, H D = none → Go F H G F' H' G' → Gok X.K F' H' G' → H' D = some (.lst accV) → Reps X.K F' accV acc → F' D = none → G' D = none → Q' acc G' → Q (.ref D) H') :
    tLc tw (p.g X.K) (hatT X.K tt) (hatE X.K te) vs σ H Q := by
  refine r0 F H σ S G o _ h _ fun F1 H1 G1 J ds gd e1 g1 it h1 => ?_
  obtain ⟨hz, W, w0, wg, turn, done⟩ := h1
  intro D hD
  have gD : G1 D = none := g1.free hD
  have fD : F1 D = none := g1.ex.nope hD
  have go0 : Go F1 H1 G1 F1 (upd H1 D (.lst [])) G1 := by
    have := (Gr.only (u := .lst []) g1.ex hD).go (G := G1)
    exact this
  have g0 : Gok X.K F1 (upd H1 D (.lst [])) G1 := g1.grow (Gr.only g1.ex hD)
  refine ⟨fun i m H2 => i + m = ds.length ∧ ∃ F2 G2 accV acc, Go F1 H1 G1 F2 H2 G2 ∧ Gok X.K F2 H2 G2 ∧ H2 D = some (.lst accV) ∧ Reps X.K F2 accV acc ∧ F2 D = none ∧ G2 D = none ∧ acc.length ≤ i ∧ W i acc G2,
    ⟨ds.length, Nat.zero_add _, F1, G1, [], [], go0, g0, upd_same, .nil, fD, gD, Nat.le_refl _, w0⟩, ?_⟩
  rintro i m H2 ⟨him, F2, G2, accV, acc, e2, g2, hd2, rs2, fd2, gd2, hl2, w2⟩
  have gg := wg i acc G2 w2
  cases m with
  | zero =>
    have hi : i = ds.length := him
    refine .inl ⟨hi ▸ it.stop F2 H2 G2 e2.ex g2 gg, ?_⟩
    exact k F2 H2 G2 D accV acc (e1.st D hD) (e1.trans e2) g2 hd2 rs2 fd2 gd2 (done acc G2 (hi ▸ w2))
  | succ m =>
    have hlt : i < ds.length := by omega
    have hd : ds[i]? = some ds[i] := List.getElem?_eq_getElem hlt
    obtain ⟨ig, iy⟩ := it.go F2 H2 G2 i _ e2.ex g2 gg hd
    refine .inr ⟨ig, fun H3 => ∃ F3 G3 accV acc, Go F1 H1 G1 F3 H3 G3 ∧ Gok X.K F3 H3 G3 ∧ H3 D = some (.lst accV) ∧ Reps X.K F3 accV acc ∧ F3 D = none ∧ G3 D = none ∧ acc.length ≤ i + 1 ∧ W (i + 1) acc G3,
      fun H3 z => ⟨m, Nat.lt_succ_self m, by omega, z⟩, fun x H3 hy => ?_⟩
    obtain ⟨F3, e3, g3, q3⟩ := iy x H3 hy
    obtain ⟨S2, hS2, body⟩ := turn i acc G2 _ w2 hd
    have o3 : Ok X.K F3 H3 (wipe σ vs) (dwipe S vs) G2 := ⟨g3, wipe_slots (((o.s.mono e1.ex).mono e2.ex).mono e3.ex) vs⟩
    have hd3 : H3 D = some (.lst accV) := (e3.fr D _ hd2 gd2).1
    have fd3 : F3 D = none := e3.no D _ hd2 gd2 fd2 (fun _ z => nomatch z)
    refine pat_ok hp o3 q3 hS2 fun σ2 ew o4 => ⟨by rw [ew, wipe_wipe], ?_⟩
    refine ⟨F3, S2, G2, _, o4, body, fun F5 H5 b G5 e5 g5 h5 => ?_⟩
    have hd5 := e5.fr D _ hd3 gd2
    have fd5 := e5.no D _ hd3 gd2 fd3 (fun _ z => nomatch z)
    cases b with
    | true =>
      dsimp only
      rw [if_pos rfl] at h5 ⊢
      refine ⟨F5, S2, G5, _, o4.go e5 g5, h5, fun F6 H6 y dy G6 e6 g6 r6 h6 => ?_⟩
      have hd6 := e6.fr D _ hd5.1 hd5.2
      have fd6 := e6.no D _ hd5.1 hd5.2 fd5 (fun _ z => nomatch z)
      have r6' := ((rs2.mono e3.ex).mono e5.ex).mono e6.ex
      refine ⟨accV, hd6.1, by rw [rs2.length]; omega, F6, G6, accV ++ [y], acc ++ [dy], ?_, ?_, upd_same, r6'.append (.one r6), fd6, hd6.2, by simp; omega, h6⟩
      · have ea := (((e2.trans e3).trans e5).trans e6)
        refine ⟨ea.ex, fun b u hb gb => ?_, ea.no, fun b z => ea.st b (upd_none z)⟩
        have q : b ≠ D := fun z => by rw [z, hD] at hb; cases hb
        rw [upd_ne q]
        exact ea.fr b u hb gb
      · refine ⟨g6.ex.updR fd6, fun a w ha => ?_, g6.one⟩
        have q : a ≠ D := fun z => by rw [z, hd6.2] at ha; cases ha
        obtain ⟨fa, ma⟩ := g6.at_ a w ha
        refine ⟨fa, ma.move (Ex.refl F6) (fun b u hb hc => ?_) fun c z => z⟩
        have q2 : b ≠ D := fun z => by
          rcases hc with hc | hc
          · exact q (hc ▸ z)
          · rw [z, hd6.2] at hc; cases hc
        rw [upd_ne q2]; exact hb
    | false =>
      dsimp only
      rw [if_neg Bool.false_ne_true] at h5 ⊢
      exact ⟨F5, G5, accV, acc, (e2.trans e3).trans e5, g5, hd5.1, (rs2.mono e3.ex).mono e5.ex, fd5, hd5.2, by omega, h5⟩
/-- freeze what is in no one's hands -/
theorem hold_freeze {K : PySem.W.Frag} {F H : Hp} {G : GH} {D : Addr} {u : HO} (g : Gok K F H G) (hd : H D = some u) (fd : F D = none) (gd : G D = none) : Gok K (upd F D u) H G := by
  refine ⟨fun a w z => ?_, fun a w e => ?_, g.one⟩
  · by_cases q : a = D
    · subst q; rw [upd_same] at z; cases z; exact hd
    · rw [upd_ne q] at z; exact g.ex a w z
  · have q : a ≠ D := fun y => by rw [y, gd] at e; cases e
    obtain ⟨f, m⟩ := g.at_ a w e
    exact ⟨by rw [upd_ne q]; exact f, m.move (Ex.new fd) (fun b w hb _ => hb) fun c z => z⟩
theorem go_hold {F H F' H' : Hp} {G G' : GH} {D : Addr} {u : HO} (h : H D = none) (go : Go F H G F' H' G') (fd : F' D = none) : Go F H G (upd F' D u) H' G' := by
  refine ⟨go.ex.trans (Ex.new fd), go.fr, fun b w hb gb fb t => ?_, go.st⟩
  have q : b ≠ D := fun z => by rw [z, h] at hb; cases hb
  rw [upd_ne q]; exact go.no b w hb gb fb t
theorem de_lc {elt tg iter : Expr} {ifs : List Expr} {scope : Scope} {own : List (Str × Nat)} {wi : DTI} {p : Pat} {tt : DTT} {te : DTE} (hc : X.calm = true) (hN : X.N.Nodup) (hi : DI X tg iter wi) (ok : BlkOk X.N X.env.scope scope own) (hp : ∀ i ∈ p.at_, i ∈ own.map (·.2))
    (hg : ∀ (s : Shared) (H : Hp) (C : Addr) (cl : List (Str × Addr)) (fp : List Addr), PG (X.blk s H scope (compEnvC scope cl C X.env) fp) tg (p.g X.K)) (ht : ∀ (s : Shared) (H : Hp) (C : Addr) (cl : List (Str × Addr)) (fp : List Addr), DTs (X.blk s H scope (compEnvC scope cl C X.env) fp) ifs tt)
    (he : ∀ (s : Shared) (H : Hp) (C : Addr) (cl : List (Str × Addr)) (fp : List Addr), DE (X.blk s H scope (compEnvC scope cl C X.env) fp) elt te) (hs : ∀ x, foldedSetIterable iter X.env x = pure x := by intro _; rfl) :
    DE X (.ListComp elt [⟨tg, iter, ifs, 0⟩] scope pos) (dLc wi p tt te (own.map (·.2))) := by
  obtain ⟨tw, p0, r0⟩ := hi.ex
  refine ⟨_, pe_lc (tt := hatT X.K tt) (te := hatE X.K te) hc hN p0 ok hg (fun s H C cl fp => (ht s H C cl fp).pt) (fun s H C cl fp => (he s H C cl fp).hat) hs, fun F H σ S G o Q' h Q k => ?_⟩
  refine lc_refine hp r0 o (Q' := fun acc G' => Q' (.lst acc) G') h fun F' H' G' D accV acc hD go g hd rs fd gd q => ?_
  exact k _ H' _ _ G' (go_hold hD go fd) (hold_freeze g hd fd gd) (.lst upd_same (rs.mono (Ex.new fd))) q
/-- name = [..] on one line -/
theorem dp_setLc {i : Nat} {y : Str} {py spos : Pos} {elt tg iter : Expr} {ifs : List Expr} {scope : Scope} {own : List (Str × Nat)} {wi : DTI} {p : Pat} {tt : DTT} {te : DTE} (hc : X.calm = true) (hN : X.N.Nodup) (hy : X.N[i]? = some y) (hyl : X.env.scope.names.lookup y = some .local)
    (hsw : swapsWith (.ListComp elt [⟨tg, iter, ifs, 0⟩] scope pos) (some (.Name y py)) spos.line X.env = pure true) (hi : DI X tg iter wi) (ok : BlkOk X.N X.env.scope scope own) (hp : ∀ i ∈ p.at_, i ∈ own.map (·.2))
    (hg : ∀ (s : Shared) (H : Hp) (C : Addr) (cl : List (Str × Addr)) (fp : List Addr), PG (X.blk s H scope (compEnvC scope cl C X.env) fp) tg (p.g X.K)) (ht : ∀ (s : Shared) (H : Hp) (C : Addr) (cl : List (Str × Addr)) (fp : List Addr), DTs (X.blk s H scope (compEnvC scope cl C X.env) fp) ifs tt)
    (he : ∀ (s : Shared) (H : Hp) (C : Addr) (cl : List (Str × Addr)) (fp : List Addr), DE (X.blk s H scope (compEnvC scope cl C X.env) fp) elt te) (hs : ∀ x, foldedSetIterable iter X.env x = pure x := by intro _; rfl) :
    DP X (.Assign [.Name y py] (.ListComp elt [⟨tg, iter, ifs, 0⟩] scope pos) spos) (dAsg (dLc wi p tt te (own.map (·.2))) (dgName i)) := by
  obtain ⟨tw, p0, r0⟩ := hi.ex
  refine ⟨_, ps_setLc (tt := hatT X.K tt) (te := hatE X.K te) hc hN hy hyl hsw p0 ok hg (fun s H C cl fp => (ht s H C cl fp).pt) (fun s H C cl fp => (he s H C cl fp).hat) hs, fun F H σ S G o D' h D0 k => ?_⟩
  refine lc_refine hp r0 o (Q' := fun acc G' => D'.nx (S.set i (some (.lst acc))) G') h fun F' H' G' D accV acc hD go g hd rs fd gd q => ?_
  have go2 := go_hold (u := .lst accV) hD go fd
  exact k.nx _ H' _ _ G' go2 ⟨hold_freeze g hd fd gd, (o.s.mono go2.ex).set (.lst upd_same (rs.mono (Ex.new fd))) i⟩ q
end
end DL
end
section
set_option Elab.async false
set_option linter.all false
set_option maxRecDepth 100000
set_option maxHeartbeats 4000000
namespace DL
open PySem PySem.Spec PyProof.Rows L2
def D.hasTy (T : String) : D → Bool
  | .lst _ => T == "list"
  | .str _ => T == "str"
  | .dK _ => T == "dict"
  | .dT _ => T == "dict"
  | _ => false
section
variable {X : Cx} {pos : Pos}
structure MtD (X : Cx) (id : String) (r' : D → List D → GH → DQ → Prop) : Prop where
  ex : ∃ r, MtR X id r ∧ ∀ F H G x dx vs ds, Gok X.K F H G → Rep X.K F x dx → Reps X.K F vs ds → ∀ Q', r' dx ds G Q' → ∀ Q, KpE X.K F H G Q' Q → r x vs H Q
theorem hasTy_tyV {F H : Hp} {G : GH} {v : V} {d : D} {T : String} (g : Gok X.K F H G) (r : Rep X.K F v d) (h : D.hasTy T (d.cur G) = true) : tyV X.K T v H := by
  cases e : d.cur G with
  | lst xs =>
    rw [e] at h
    obtain ⟨a, vs, rfl, ha, _⟩ := cur_list g r e
    exact .inl ⟨by simpa [D.hasTy] using h, vs, .inl (.inl ha)⟩
  | str z =>
    rw [e] at h
    rw [cur_str r e]
    show T = "str"
    simpa [D.hasTy] using h
  | dK kds =>
    rw [e] at h
    obtain ⟨a, kvs, rfl, ha, _⟩ := cur_dK g r e
    exact .inr (.inr (.inl ⟨by simpa [D.hasTy] using h, .inl ⟨kvs, ha⟩⟩))
  | dT kds =>
    rw [e] at h
    obtain ⟨a, kvs, rfl, ha, _⟩ := cur_dT g r e
    exact .inr (.inr (.inl ⟨by simpa [D.hasTy] using h, .inr ⟨kvs, ha⟩⟩))
  | _ => rw [e] at h; cases h
def dBM (T : String) (r : D → List D → GH → DQ → Prop) (to : DTE) (ta : DTA) : DTE := fun S G Q => to S G fun x G1 => D.hasTy T (x.cur G1) = true ∧ ta S G1 fun ds G2 => r x ds G2 Q
theorem de_bm {T id : String} {name : Str} {o e : Expr} {es : List Expr} {r' : D → List D → GH → DQ → Prop} {to : DTE} {ta : DTA} {apos : Pos} (pa : PlainAttrs T) (slot : Slot T name id) (hty : typeOf (.builtin id) = pure (.type "method_descriptor")) (hm : MtD X id r') (ho : DE X o to) (ha : DA X (e :: es) ta)
    (hbase : attributeBase o name X.env (eval o X.env) = eval o X.env := by rfl)
    (hfew : ((backTo pos (starEach (e :: es) X.env)).all (fun x => !x.1) && (backToKw pos (keywordEach [] X.env)).all (fun x => x.1.isSome) && decide ((e :: es).length + ([] : List Keyword).length + (if ([] : List Keyword).isEmpty then 0 else 1) < 30)) = true := by rfl)
    (hline : (apos.endLine == pos.line) = true := by rfl) (hs : starEach (e :: es) X.env = (false, eval e X.env) :: starEach es X.env := by rfl) (hplain : (backTo pos (starEach es X.env)).any (·.1) = false := by rfl) :
    DE X (.Call (.Attribute o name apos) (e :: es) [] pos) (dBM T r' to ta) := by
  obtain ⟨r, hr, rr⟩ := hm.ex
  obtain ⟨t1, p1, r1⟩ := ho.ex
  obtain ⟨t2, p2, r2⟩ := ha.ex
  refine ⟨_, pe_bm pa slot hty hr p1 p2 hbase hfew hline hs hplain, fun F H σ S G o Q' h Q k => ?_⟩
  refine r1 F H σ S G o _ h _ fun F1 H1 v d G1 e1 g1 q1 h1 => ?_
  refine ⟨hasTy_tyV g1 q1 h1.1, ?_⟩
  refine r2 F1 H1 σ S G1 (o.go e1 g1) _ h1.2 _ fun F2 H2 vs ds G2 e2 g2 q2 h2 => ?_
  exact rr F2 H2 G2 v d vs ds g2 (q1.mono e2.ex) q2 Q' h2 Q (k.mono (e1.trans e2))
def dBM0 (T : String) (r : D → List D → GH → DQ → Prop) (to : DTE) : DTE := fun S G Q => to S G fun x G1 => D.hasTy T (x.cur G1) = true ∧ r x [] G1 Q
theorem de_bm0 {T id : String} {name : Str} {o : Expr} {r' : D → List D → GH → DQ → Prop} {to : DTE} {apos : Pos} (pa : PlainAttrs T) (slot : Slot T name id) (hty : typeOf (.builtin id) = pure (.type "method_descriptor")) (hm : MtD X id r') (ho : DE X o to)
    (hbase : attributeBase o name X.env (eval o X.env) = eval o X.env := by rfl) (hline : (apos.endLine == pos.line) = true := by rfl) :
    DE X (.Call (.Attribute o name apos) [] [] pos) (dBM0 T r' to) := by
  obtain ⟨r, hr, rr⟩ := hm.ex
  obtain ⟨t1, p1, r1⟩ := ho.ex
  refine ⟨_, pe_bm0 pa slot hty hr p1 hbase hline, fun F H σ S G o Q' h Q k => ?_⟩
  refine r1 F H σ S G o _ h _ fun F1 H1 v d G1 e1 g1 q1 h1 => ?_
  exact ⟨hasTy_tyV g1 q1 h1.1, rr F1 H1 G1 v d [] [] g1 q1 .nil Q' h1.2 Q (k.mono e1)⟩
/-- l.append(e) -/
def rAppendD (x : D) (ds : List D) (G : GH) (Q : DQ) : Prop := match x, ds with
  | .rf a, [d] => (match G a with
    | some (.lst xs) => xs.length < sizeLine ∧ Q .non (gput G a (.lst (xs ++ [d])))
    | _ => False)
  | _, _ => False
theorem md_append : MtD X "list.append" rAppendD := by
  refine ⟨_, mt_append, fun F H G x dx vs ds g rx rs Q' h Q k => ?_⟩
  unfold rAppendD at h
  split at h
  · rename_i a d
    split at h
    · rename_i xs eg
      cases rx
      cases rs with
      | cons r b =>
        cases b
        obtain ⟨fa, ws, ha, rw'⟩ := g.at_ a _ eg
        refine ⟨a, ws, _, rfl, rfl, ha, by rw [rw'.length]; exact h.1, ?_⟩
        exact k F _ _ _ _ (Go.put eg) (g.put (o := .lst (xs ++ [d])) eg rfl rfl ⟨_, upd_same, rw'.append (.one r)⟩) .non h.2
    · exact h.elim
  · exact h.elim
/-- l.extend(m) -/
def rExtendD (x : D) (ds : List D) (G : GH) (Q : DQ) : Prop := match x, ds with
  | .rf a, [d] => (match G a, d.cur G with
    | some (.lst xs), .lst ys => xs.length + ys.length ≤ sizeLine ∧ Q .non (gput G a (.lst (xs ++ ys)))
    | _, _ => False)
  | _, _ => False
theorem md_extend : MtD X "list.extend" rExtendD := by
  refine ⟨_, mt_extend, fun F H G x dx vs ds g rx rs Q' h Q k => ?_⟩
  unfold rExtendD at h
  split at h
  · rename_i a d
    split at h
    · rename_i xs ys eg ey
      cases rx
      cases rs with
      | cons r b =>
        cases b
        obtain ⟨fa, ws, ha, rw'⟩ := g.at_ a _ eg
        obtain ⟨b, zs, rfl, hb, rz⟩ := cur_list g r ey
        refine ⟨a, b, ws, zs, rfl, rfl, ha, hb, by rw [rw'.length, rz.length]; exact h.1, ?_⟩
        exact k F _ _ _ _ (Go.put eg) (g.put (o := .lst (xs ++ ys)) eg rfl rfl ⟨_, upd_same, rw'.append rz⟩) .non h.2
    · exact h.elim
  · exact h.elim
/-- l.pop() -/
def rPopD (x : D) (ds : List D) (G : GH) (Q : DQ) : Prop := match x, ds with
  | .rf a, [] => (match G a with
    | some (.lst xs) => (match xs[xs.length - 1]? with
      | some d => Q d (gput G a (.lst xs.dropLast))
      | none => False)
    | _ => False)
  | _, _ => False
theorem Reps.dropLast {K : PySem.W.Frag} {F : Hp} {vs : List V} {ds : List D} (r : Reps K F vs ds) : Reps K F vs.dropLast ds.dropLast := by
  rw [List.dropLast_eq_take, List.dropLast_eq_take, r.length]
  exact r.take _
theorem md_pop : MtD X "list.pop" rPopD := by
  refine ⟨_, mt_pop, fun F H G x dx vs ds g rx rs Q' h Q k => ?_⟩
  unfold rPopD at h
  split at h
  · rename_i a
    split at h
    · rename_i xs eg
      split at h
      · rename_i d ed
        cases rx
        cases rs
        obtain ⟨fa, ws, ha, rw'⟩ := g.at_ a _ eg
        obtain ⟨v, hv, rv⟩ := rw'.get ed
        refine ⟨a, ws, v, rfl, rfl, ha, by rw [rw'.length]; exact hv, ?_⟩
        exact k F _ _ _ _ (Go.put eg) (g.put (o := .lst xs.dropLast) eg rfl rfl ⟨_, upd_same, rw'.dropLast⟩) rv h
      · exact h.elim
    · exact h.elim
  · exact h.elim
/-- sep.join(texts) -/
def texts : List D → Option (List Str)
  | [] => some []
  | .str x :: r => (texts r).map (x :: ·)
  | _ :: _ => none
theorem texts_rep {K : PySem.W.Frag} {F : Hp} : ∀ {ds : List D} {xs : List Str} {vs : List V}, texts ds = some xs → Reps K F vs ds → vs = xs.map V.str
  | [], xs, _, h, .nil => by cases h; rfl
  | .str x :: r, xs, _, h, .cons a b => by
    unfold texts at h
    cases e : texts r with
    | none => rw [e] at h; cases h
    | some m =>
      rw [e] at h
      cases h
      cases a
      simp [texts_rep e b]
  | .non :: _, _, _, h, _ => by cases h
  | .bl _ :: _, _, _, h, _ => by cases h
  | .int _ :: _, _, _, h, _ => by cases h
  | .ty _ :: _, _, _, h, _ => by cases h
  | .tup _ :: _, _, _, h, _ => by cases h
  | .lst _ :: _, _, _, h, _ => by cases h
  | .dK _ :: _, _, _, h, _ => by cases h
  | .dT _ :: _, _, _, h, _ => by cases h
  | .obj _ _ :: _, _, _, h, _ => by cases h
  | .rf _ :: _, _, _, h, _ => by cases h
  | .scr _ :: _, _, _, h, _ => by cases h
  | .kup _ :: _, _, _, h, _ => by cases h
def rJoinD (x : D) (ds : List D) (G : GH) (Q : DQ) : Prop := match x, ds with
  | .str a, [d] => (match d.cur G with
    | .lst ys => (match texts ys with
      | some zs => (zs.map (·.length)).sum + zs.length * a.length ≤ 16777216 ∧ Q (.str (Txt.join a zs)) G
      | none => False)
    | .tup ys => (match texts ys with
      | some zs => (zs.map (·.length)).sum + zs.length * a.length ≤ 16777216 ∧ Q (.str (Txt.join a zs)) G
      | none => False)
    | _ => False)
  | _, _ => False
theorem md_join : MtD X "str.join" rJoinD := by
  refine ⟨_, mt_join, fun F H G x dx vs ds g rx rs Q' h Q k => ?_⟩
  unfold rJoinD at h
  split at h
  · rename_i a d
    cases rx
    cases rs with
    | cons r b =>
      cases b
      split at h
      · rename_i ys ey
        split at h
        · rename_i zs ez
          obtain ⟨p, ws, rfl, hp, rw'⟩ := cur_list g r ey
          have := texts_rep ez rw'
          subst this
          exact ⟨a, p, zs, rfl, rfl, .inl (.inl (.inl hp)), h.1, k F H _ _ G Go.refl g (.str _) h.2⟩
        · exact h.elim
      · rename_i ys ey
        split at h
        · rename_i zs ez
          obtain ⟨p, ws, rfl, hp, rw'⟩ := cur_tup r ey
          have := texts_rep ez rw'
          subst this
          exact ⟨a, p, zs, rfl, rfl, .inr (.inl (.inl (g.ex _ _ hp))), h.1, k F H _ _ G Go.refl g (.str _) h.2⟩
        · exact h.elim
      · exact h.elim
  · exact h.elim
def dGet1 (td ty : DTE) : DTE := fun S G Q => td S G fun x G1 => D.hasTy "dict" (x.cur G1) = true ∧ ty S G1 fun y G2 => match (x.cur G2).look y with
  | some o => Q (o.getD .non) G2
  | none => False
def dGet2 (td ty tx : DTE) : DTE := fun S G Q => td S G fun x G1 => D.hasTy "dict" (x.cur G1) = true ∧ ty S G1 fun y G2 => tx S G2 fun z G3 => match (x.cur G3).look y with
  | some o => Q (o.getD z) G3
  | none => False
theorem de_ty {x : Str} {T : String} (hg : Gl X x) (hm : X.mg x = none) (hv : bootBuiltins x = some (.type T)) (hn : x ≠ "__name__" := by decide) (hd : (x == ("__debug__" : Str)) = false := by decide) : DE X (.Name x pos) (dC (.ty T)) :=
  dc_of (pe_bltn (v := .ty T) hg hm hv rfl hn hd) fun _ => .ty T
def D.tyN : D → Option String
  | .non => some "NoneType"
  | .bl _ => some "bool"
  | .int _ => some "int"
  | .str _ => some "str"
  | .tup _ => some "tuple"
  | .lst _ => some "list"
  | .dK _ => some "dict"
  | .dT _ => some "dict"
  | _ => none
theorem tyN_of {F H : Hp} {G : GH} {v : V} {d : D} {n : String} (g : Gok X.K F H G) (r : Rep X.K F v d) (h : (d.cur G).tyN = some n) : TyOf X.K H v (.type n) := by
  cases e : d.cur G with
  | lst xs =>
    rw [e] at h; cases h
    obtain ⟨a, vs, rfl, ha, _⟩ := cur_list g r e
    exact .lst ha
  | tup xs =>
    rw [e] at h; cases h
    obtain ⟨a, vs, rfl, ha, _⟩ := cur_tup r e
    exact .tup (g.ex _ _ ha)
  | dK kds =>
    rw [e] at h; cases h
    obtain ⟨a, kvs, rfl, ha, _⟩ := cur_dK g r e
    exact .dK ha
  | dT kds =>
    rw [e] at h; cases h
    obtain ⟨a, kvs, rfl, ha, _⟩ := cur_dT g r e
    exact .dT ha
  | str z => rw [e] at h; cases h; rw [cur_str r e]; exact .str z
  | int z => rw [e] at h; cases h; rw [cur_int r e]; exact .int z
  | non =>
    rw [e] at h; cases h
    cases d <;> first | (cases r; exact .non) | (exfalso; simp [D.cur] at e; done) | skip
    · rename_i a
      exfalso
      unfold D.cur at e
      cases q : G a with
      | none => simp only [q] at e; cases e
      | some o => cases o <;> (simp only [q] at e; cases e)
  | bl b =>
    rw [e] at h; cases h
    cases d <;> first | (cases e; cases r; exact .bl _) | (exfalso; simp [D.cur] at e; done) | skip
    · rename_i a
      exfalso
      unfold D.cur at e
      cases q : G a with
      | none => simp only [q] at e; cases e
      | some o => cases o <;> (simp only [q] at e; cases e)
  | _ => rw [e] at h; cases h
def rIsiD (ds : List D) (G : GH) (Q : DQ) : Prop := match ds with
  | [d, .ty T] => (match (d.cur G).tyN with
    | some n => (match kitB n T with
      | some b => Q (.bl b) G
      | none => False)
    | none => False)
  | _ => False
theorem cd_isi : CallD X (.builtin "isinstance") rIsiD := by
  refine ⟨_, call_isi, fun F H G vs ds g rs Q' h Q k => ?_⟩
  unfold rIsiD at h
  split at h
  · rename_i d T
    split at h
    · rename_i n en
      split at h
      · rename_i b eb
        cases rs with
        | cons r rest =>
          cases rest with
          | cons r2 rest2 =>
            cases rest2
            cases r2
            exact ⟨_, _, .type n, .type T, b, rfl, .ty T, .base (tyN_of g r en), kit_ty eb, k F H _ _ G Go.refl g (.bl _) h⟩
      · exact h.elim
    · exact h.elim
  · exact h.elim
def bools : List D → Option (List Bool)
  | [] => some []
  | .bl x :: r => (bools r).map (x :: ·)
  | _ :: _ => none
theorem bools_rep {K : PySem.W.Frag} {F : Hp} : ∀ {ds : List D} {xs : List Bool} {vs : List V}, bools ds = some xs → Reps K F vs ds → vs = xs.map V.bl
  | [], xs, _, h, .nil => by cases h; rfl
  | .bl x :: r, xs, _, h, .cons a b => by
    unfold bools at h
    cases e : bools r with
    | none => rw [e] at h; cases h
    | some m =>
      rw [e] at h
      cases h
      cases a
      simp [bools_rep e b]
  | .non :: _, _, _, h, _ => by cases h
  | .str _ :: _, _, _, h, _ => by cases h
  | .int _ :: _, _, _, h, _ => by cases h
  | .ty _ :: _, _, _, h, _ => by cases h
  | .tup _ :: _, _, _, h, _ => by cases h
  | .lst _ :: _, _, _, h, _ => by cases h
  | .dK _ :: _, _, _, h, _ => by cases h
  | .dT _ :: _, _, _, h, _ => by cases h
  | .obj _ _ :: _, _, _, h, _ => by cases h
  | .rf _ :: _, _, _, h, _ => by cases h
  | .scr _ :: _, _, _, h, _ => by cases h
  | .kup _ :: _, _, _, h, _ => by cases h
theorem bools_map (bs : List Bool) : bools (bs.map D.bl) = some bs := by
  induction bs with
  | nil => rfl
  | cons b bs ih => simp [bools, ih]
def rAllD (ds : List D) (G : GH) (Q : DQ) : Prop := match ds with
  | [d] => (match d.cur G with
    | .lst ys => (match bools ys with
      | some bs => Q (.bl (bs.all id)) G
      | none => False)
    | _ => False)
  | _ => False
theorem cd_all (hc : X.calm = true) : CallD X (.builtin "all") rAllD := by
  refine ⟨_, cr_all hc, fun F H G vs ds g rs Q' h Q k => ?_⟩
  unfold rAllD at h
  split at h
  · rename_i d
    cases rs with
    | cons r b =>
      cases b
      split at h
      · rename_i ys ey
        split at h
        · rename_i bs eb
          obtain ⟨p, ws, rfl, hp, rw'⟩ := cur_list g r ey
          have := bools_rep eb rw'
          subst this
          exact ⟨p, bs, rfl, .inl (.inl hp), k F H _ _ G Go.refl g (.bl _) h⟩
        · exact h.elim
      · exact h.elim
  · exact h.elim
end
end DL
end
section
set_option Elab.async false
set_option linter.all false
set_option maxRecDepth 100000
set_option maxHeartbeats 4000000
namespace DL
open PySem PySem.Spec PyProof.Rows L2
def D.le (x y : D) : Bool := PySem.W.dataLe false D.py x y
def sortD (ds : List D) : List D := ds.mergeSort D.le
def okS (ds : List D) : Bool := D.pls ds && (ds.all fun x => ds.all fun y => PySem.W.alike x.py y.py) && (ds.all fun x => decide (x.py.depth ≤ 60)) &&
  ((ds.all fun x => match x with | .tup (_ :: _) => true | _ => false) || (ds.all fun x => match x with | .tup _ => false | .kup _ => false | .non => false | _ => true))
def rSortA (K : PySem.W.Frag) : List V → Hp → VK → Prop := fun vs H Q => ∃ (a : Addr) (bs : List (V × D)), vs = [.ref a] ∧ SqL K H a (bs.map (·.1)) ∧ (∀ b ∈ bs, Dp K H b.1 b.2.py) ∧ okS (bs.map (·.2)) = true ∧
  ∀ p, H p = none → Q (.ref p) (upd H p (.lst ((bs.mergeSort (PySem.W.dataLe false fun b => b.2.py)).map (·.1))))
section
variable {X : Cx} {pos : Pos}
theorem each_of {R : Value → (V × D) → Prop} : ∀ {us : List Value} {bs : List (V × D)}, Vals (bs.map (·.1)) us → (∀ b ∈ bs, ∀ u, RelV b.1 u → R u b) → PySem.W.EachIs R us bs
  | _, [], r, _ => by
    cases r
    exact .nil
  | _, b :: bs, r, h => by
    rw [List.map_cons] at r
    cases r with
    | cons a t => exact .cons (h b (by simp) _ a) (each_of t fun c hc => h c (by simp [hc]))
theorem vals_each : ∀ {us : List Value} {bs : List (V × D)}, PySem.W.EachIs (fun u b => RelV b.1 u) us bs → Vals (bs.map (·.1)) us
  | _, _, .nil => .nil
  | _, _, .cons h t => .cons h (vals_each t)
theorem okS_of {ds : List D} (h : okS ds = true) : D.pls ds = true ∧ PySem.W.AllAlike (ds.map D.py) ∧ (∀ d ∈ ds, d.py.depth ≤ 60) ∧ PySem.W.Sortable (ds.map D.py) := by
  unfold okS at h
  simp only [Bool.and_eq_true, Bool.or_eq_true, List.all_eq_true, decide_eq_true_eq] at h
  obtain ⟨⟨⟨h1, h2⟩, h3⟩, h4⟩ := h
  refine ⟨h1, fun d hd d' hd' => ?_, h3, ?_⟩
  · obtain ⟨x, hx, rfl⟩ := List.mem_map.mp hd
    obtain ⟨y, hy, rfl⟩ := List.mem_map.mp hd'
    exact h2 x hx y hy
  · rcases h4 with h4 | h4
    · refine .inl fun d hd => ?_
      obtain ⟨x, hx, rfl⟩ := List.mem_map.mp hd
      have := h4 x hx
      split at this
      · exact ⟨_, _, rfl⟩
      · cases this
    · refine .inr fun d hd => ?_
      obtain ⟨x, hx, rfl⟩ := List.mem_map.mp hd
      have := h4 x hx
      have hp : x.pl = true := by
        rw [D.pls_all, List.all_eq_true] at h1
        exact h1 x hx
      cases x <;> first | (simp at this; done) | (simp [D.pl] at hp; done) | exact ⟨by simp [D.py], fun xs => by simp [D.py]⟩
theorem cr_sortA (hu : X.A.units + 100 < cLine) : CallR X (.builtin "sorted") (rSortA X.K) := by
  intro pins s σ H vs us Q I r h
  obtain ⟨a, bs, rfl, hs, hd, hok, q⟩ := h
  obtain ⟨its, rv, hl, hz⟩ := I.list hs
  rw [Vals.ref1 r]
  obtain ⟨o1, o2, o3, o4⟩ := okS_of hok
  have hz' : bs.length ≤ sizeLine := by simpa using hz
  have em : (bs.map fun b => b.2.py) = (bs.map (·.2)).map D.py := by simp
  refine PySem.W.sorted_data (R := fun u b => RelV b.1 u) (enc := fun b : V × D => b.2.py) (bs := bs) hl.isList (each_of rv fun b _ u ru => ru) (each_of rv fun b hb u ru => ?_) (by rw [em]; exact o2) (by rw [em]; exact o4) hz' (fun b hb => ?_) fun out hlen ho => ?_
  · exact Dp.reads I _ _ _ (hd b hb) ru
  · have := o3 b.2 (List.mem_map.mpr ⟨b, hb, rfl⟩)
    show X.A.units + 2 + b.2.py.depth < cLine
    omega
  · obtain ⟨ep, he'⟩ := PyProof.Rows.sortedAll_at s.heap its out.toArray
    have hlen' : ((bs.mergeSort (PySem.W.dataLe false fun b => b.2.py)).map (·.1)).length ≤ sizeLine := by
      rw [List.length_map, List.length_mergeSort]
      exact hz'
    exact ⟨.ref _, upd H (s.heap.objs.size + 1) (.lst ((bs.mergeSort (PySem.W.dataLe false fun b => b.2.py)).map (·.1))), I.laid (t' := s.toks) (fun _ _ => PyProof.Rows.sortedAll_old) (Nat.le_succ _) ⟨hlen', out, ep, vals_each ho, he'⟩, rfl, q _ (I.hok.fresh (Nat.le_succ _))⟩
theorem zip_fst : ∀ {K : PySem.W.Frag} {F : Hp} {vs : List V} {ds : List D}, Reps K F vs ds → (vs.zip ds).map (·.1) = vs ∧ (vs.zip ds).map (·.2) = ds
  | _, _, _, _, .nil => ⟨rfl, rfl⟩
  | _, _, _, _, .cons a b => by
    obtain ⟨h1, h2⟩ := zip_fst b
    simp [h1, h2]
theorem zip_rep : ∀ {K : PySem.W.Frag} {F : Hp} {vs : List V} {ds : List D}, Reps K F vs ds → ∀ b ∈ vs.zip ds, Rep K F b.1 b.2
  | _, _, _, _, .nil, b, h => by simp at h
  | _, _, _, _, .cons (v := v) (d := d) a t, b, h => by
    rw [List.zip_cons_cons, List.mem_cons] at h
    rcases h with rfl | h
    · exact a
    · exact zip_rep t b h
theorem Reps.of_zip {K : PySem.W.Frag} {F : Hp} : ∀ (bs : List (V × D)), (∀ b ∈ bs, Rep K F b.1 b.2) → Reps K F (bs.map (·.1)) (bs.map (·.2))
  | [], _ => .nil
  | b :: bs, h => .cons (h b (by simp)) (Reps.of_zip bs fun c hc => h c (by simp [hc]))
/-- sorted(l): a new list; of a dict with int keys -/
def rSortD (ds : List D) (G : GH) (Q : DQ) : Prop := match ds with
  | [d] => (match d.cur G with
    | .lst xs => okS xs = true ∧ Q (.lst (sortD xs)) G
    | .dK kds => (match intKeys kds with
      | some ns => ns.length < 100000 ∧ Q (.lst ((ns.mergeSort (· ≤ ·)).map .int)) G
      | none => False)
    | _ => False)
  | _ => False
theorem isort_uniq {ns ms : List Int} (p : ms.Perm ns) (s : ms.Pairwise (· ≤ ·)) : ms = ns.mergeSort (· ≤ ·) := by
  have h2 : (ns.mergeSort (· ≤ ·)).Pairwise (fun a b : Int => (decide (a ≤ b)) = true) := List.pairwise_mergeSort (le := fun a b : Int => decide (a ≤ b)) (by intro a b c; simp; omega) (by intro a b; simp; omega) ns
  refine List.Perm.eq_of_pairwise (le := fun a b : Int => a ≤ b) (fun a b _ _ h1 h2 => Int.le_antisymm h1 h2) s (h2.imp fun h => of_decide_eq_true h) (p.trans (List.mergeSort_perm ns _).symm)
/-- sorted(d) of a dict whose keys are ints, however many -/
theorem cr_sortKeys (hc : X.calm = true) : CallR X (.builtin "sorted") (fun vs H Q => ∃ (a : Addr) (kvs : List (Key × V)) (ns : List Int), vs = [.ref a] ∧ Rd H a (.dK kvs) ∧ kvs.map (·.1) = ns.map Sum.inl ∧ ns.length < 100000 ∧
    ∀ (ms : List Int) (p : Addr), ms.Perm ns → ms.Pairwise (· ≤ ·) → H p = none → Q (.ref p) (upd H p (.lst (ms.map V.int)))) := by
  intro pins s σ H vs us Q I r h
  obtain ⟨a, kvs, ns, rfl, hd, hk, hz, q⟩ := h
  rw [Vals.ref1 r]
  obtain ⟨z, lo, ws, rel, dd⟩ := dk_rd I.hok hd
  obtain ⟨ep, hat⟩ := dd.dictAt
  have wk : ws.map (·.1) = ns.map Sum.inl := rel.keys.symm.trans hk
  have wl : ws.length = ns.length := by simpa using congrArg List.length wk
  have big : 100000 < sizeLine := by rw [sizeLine_eq]; omega
  refine Calls.call_function_entry PyProof.Rows.kind_sorted PyProof.Rows.plain_sorted PyProof.Rows.entry_sorted (PyProof.Rows.args_sorted1 _) ?_
  unfold Builtin.«sorted»
  refine wpAny_bind (m := checkCount "sorted" 1 1 _) (wpAny_pure ?_)
  refine wpAny_bind (PySem.W.kdu_collect (A := X.A.in1) (PySem.W.kdl_dict (knd := mixKind X.prog X.w) (kvs := ws) (ep := ep) lo) (I.ok.hd hc) hat (by omega) fun h' tk acc hs hacc => ?_)
  have al : acc.toList.length = ns.length := by rw [Array.length_toList, hacc.1, wl]
  have its : IntsAre acc.toList ns := L2.ints_each al fun j v e => by
    obtain ⟨k, x, e1, e2⟩ := hacc.2 j v (by rw [← Array.getElem?_toList]; exact e)
    have e3 : (ns.map (Sum.inl (β := Str)))[j]? = some k := by rw [← wk, List.getElem?_map, e1]; rfl
    obtain ⟨n, e4, rfl⟩ : ∃ n, ns[j]? = some n ∧ Sum.inl n = k := by
      rw [List.getElem?_map] at e3
      cases e4 : ns[j]? with
      | none => rw [e4] at e3; cases e3
      | some n => rw [e4] at e3; exact ⟨n, rfl, by simpa using e3⟩
    rcases keyIs_shape (show keyIs (Sum.inl n) v = true from e2) with ⟨i, t, ek, ev⟩ | ⟨_, _, ek, _⟩
    · cases ek
      exact ⟨n, t, e4, ev⟩
    · cases ek
  have I1 : Inv X pins σ H { s with heap := h', toks := tk } := I.kept hs
  refine wpAny_bind (wpAny_newList ?_ (by rw [al]; omega))
  have atL : (h'.push (seqObj "list" acc.toList.toArray 0)).get? h'.objs.size = some (seqObj "list" acc.toList.toArray 0) := Heap.get?_push_size _ rfl
  show wpAny _ _ _ _ _ { s with heap := h'.push (seqObj "list" acc.toList.toArray 0), toks := tk }
  refine wpAny_bind (wpAny_holding (wpAny_call_entry PyProof.Rows.slot_list_sort ⟨_, atL, rfl⟩ PyProof.Rows.entry_list_sort
    (PyProof.Rows.list_sort_treeAny (s := { s with heap := h'.push (seqObj "list" acc.toList.toArray 0), toks := tk }) atL its (by rw [al]; omega) fun out ms g1 g2 g3 => ⟨_, rfl, ?_⟩) (PyProof.Rows.args_list_sort _)))
  obtain ⟨e', he'⟩ := PyProof.Rows.sortedHeap_at (vs := acc.toList) (out := out) atL
  refine wpAny_pure ⟨_, rfl, .ref h'.objs.size, upd H h'.objs.size (.lst (ms.map V.int)), I1.laid (t' := tk) (fun b u e => ?_) (Nat.le_refl _)
    (show ObjOk X.prog X.w _ _ _ (.lst (ms.map V.int)) from ⟨by rw [List.length_map, g2.length_eq]; omega, out.toList, e', vals_of_ints g1, by rw [Array.toArray_toList]; exact he'⟩), rfl, q ms _ g2 g3 (I1.hok.fresh (Nat.le_refl _))⟩
  have hb : b < h'.objs.size := Heap.lt_size e
  rw [PyProof.Rows.sortedHeap_old (Nat.ne_of_lt hb) (by rw [size_push']; exact Nat.lt_succ_of_lt hb)]
  exact Heap.get?_push_of_some _ e
theorem cd_sorted (hu : X.A.units + 100 < cLine) (hc : X.calm = true) : CallD X (.builtin "sorted") rSortD := by
  refine ⟨_, CallR.or (cr_sortA hu) (cr_sortKeys hc), fun F H G vs ds g rs Q' h Q k => ?_⟩
  unfold rSortD at h
  split at h
  · rename_i d
    cases rs with
    | cons r b =>
      cases b
      split at h
      · rename_i xs ex
        obtain ⟨a, ws, rfl, ha, rw'⟩ := cur_list g r ex
        obtain ⟨z1, z2⟩ := zip_fst rw'
        obtain ⟨o1, o2, o3, o4⟩ := okS_of h.1
        refine .inl ⟨a, ws.zip xs, rfl, by rw [z1]; exact .inl (.inl ha), fun b hb => ?_, by rw [z2]; exact h.1, fun p hp => ?_⟩
        · have hm : b.2 ∈ xs := by rw [← z2]; exact List.mem_map.mpr ⟨b, hb, rfl⟩
          have hp : b.2.pl = true := by
            rw [D.pls_all, List.all_eq_true] at o1
            exact o1 _ hm
          exact Dp.mono' g.ex _ (Rep.dp _ (zip_rep rw' b hb) hp)
        · have em : ((ws.zip xs).mergeSort (PySem.W.dataLe false fun b => b.2.py)).map (·.2) = sortD xs := by
            unfold sortD
            have h3 := PySem.W.sort_maps (r := PySem.W.dataLe false fun b : V × D => b.2.py) (s := D.le) Prod.snd (l := ws.zip xs) (fun a _ b _ => rfl)
            rw [h3, z2]
          have rr : Reps X.K F (((ws.zip xs).mergeSort (PySem.W.dataLe false fun b => b.2.py)).map (·.1)) (sortD xs) := by
            rw [← em]
            exact Reps.of_zip _ fun b hb => zip_rep rw' b ((List.mergeSort_perm _ _).mem_iff.mp hb)
          have gr := Gr.new (u := .lst (((ws.zip xs).mergeSort (PySem.W.dataLe false fun b => b.2.py)).map (·.1))) g.ex hp
          exact k _ _ _ _ G gr.go (g.grow gr) (.lst upd_same (rr.mono gr.ff)) h.2
      · rename_i kds ex
        split at h
        · rename_i ns en
          obtain ⟨a, kvs, rfl, ha, kr⟩ := cur_dK g r ex
          refine .inr ⟨a, kvs, ns, rfl, .inl ha, by rw [kr.ks, intKeys_map en], h.1, fun ys p hp hs hn => ?_⟩
          have e := isort_uniq hp hs
          subst e
          have gr := Gr.new (u := .lst ((ns.mergeSort (· ≤ ·)).map V.int)) g.ex hn
          exact k _ _ _ _ G gr.go (g.grow gr) (.lst upd_same (Reps.ints _)) h.2
        · exact h.elim
      · exact h.elim
  · exact h.elim
def dChain (r r' : DR2) (ta tb tc : DTE) : DTE := fun S G Q => ta S G fun x G1 => tb S G1 fun y G2 => r x y G2 fun z G3 => match z with
  | .bl k => if k = true then tc S G3 fun w G4 => r' y w G4 Q else Q (.bl false) G3
  | _ => False
theorem chain_core {op op' : CmpOp} {r r' : DR2} {a b c : Expr} {ta tb tc : DTE} (ho : OpD X (compareOp op) r) (ho' : OpD X (compareOp op') r') (ha : DE X a ta) (hb : DE X b tb) (hc : DE X c tc) :
    ∃ (q q' : R2) (t1 t2 t3 : TE), OpR X (compareOp op) q ∧ OpR X (compareOp op') q' ∧ PE X a t1 ∧ PE X b t2 ∧ PE X c t3 ∧ ∀ F H σ S G, Ok X.K F H σ S G → ∀ Q', dChain r r' ta tb tc S G Q' → ∀ Q, KpE X.K F H G Q' Q → tChain q q' t1 t2 t3 σ H Q := by
  obtain ⟨q, hq, rq⟩ := ho.ex
  obtain ⟨q', hq', rq'⟩ := ho'.ex
  obtain ⟨t1, p1, r1⟩ := ha.ex
  obtain ⟨t2, p2, r2⟩ := hb.ex
  obtain ⟨t3, p3, r3⟩ := hc.ex
  refine ⟨q, q', t1, t2, t3, hq, hq', p1, p2, p3, fun F H σ S G o Q' h Q k => ?_⟩
  refine r1 F H σ S G o _ h _ fun F1 H1 v d G1 e1 g1 q1 h1 => ?_
  refine r2 F1 H1 σ S G1 (o.go e1 g1) _ h1 _ fun F2 H2 u d2 G2 e2 g2 q2 h2 => ?_
  refine rq F2 H2 G2 v u d d2 g2 (q1.mono e2.ex) q2 _ h2 _ fun F3 H3 z d3 G3 e3 g3 q3 h3 => ?_
  dsimp only at h3
  split at h3
  · rename_i kb
    cases q3
    refine ⟨kb, rfl, ?_⟩
    cases kb with
    | true =>
      rw [if_pos rfl] at h3 ⊢
      refine r3 F3 H3 σ S G3 (((o.go e1 g1).go e2 g2).go e3 g3) _ h3 _ fun F4 H4 w d4 G4 e4 g4 q4 h4 => ?_
      exact rq' F4 H4 G4 u w d2 d4 g4 ((q2.mono e3.ex).mono e4.ex) q4 Q' h4 Q (k.mono (((e1.trans e2).trans e3).trans e4))
    | false =>
      rw [if_neg Bool.false_ne_true] at h3 ⊢
      exact k F3 H3 _ _ G3 ((e1.trans e2).trans e3) g3 (.bl _) h3
  · exact h3.elim
theorem dt_chain {op op' : CmpOp} {r r' : DR2} {a b c : Expr} {ta tb tc : DTE} (ho : OpD X (compareOp op) r) (ho' : OpD X (compareOp op') r') (ha : DE X a ta) (hb : DE X b tb) (hc : DE X c tc) (hm : lastMarks [op, op'] [b, c] = false := by with_unfolding_all rfl) : DT X (.Compare a [op, op'] [b, c] pos) (dTest (dChain r r' ta tb tc)) := by
  obtain ⟨q, q', t1, t2, t3, hq, hq', p1, p2, p3, rr⟩ := chain_core ho ho' ha hb hc
  refine ⟨_, pt_chain hq hq' p1 p2 p3 hm, fun F H σ S G o Q' h Q k => ?_⟩
  refine rr F H σ S G o _ h _ fun F1 H1 v d G1 e1 g1 q1 h1 => ?_
  dsimp only at h1
  split at h1
  · cases q1
    exact ⟨_, rfl, k F1 H1 _ G1 e1 g1 h1⟩
  · exact h1.elim
theorem de_chain {op op' : CmpOp} {r r' : DR2} {a b c : Expr} {ta tb tc : DTE} (ho : OpD X (compareOp op) r) (ho' : OpD X (compareOp op') r') (ha : DE X a ta) (hb : DE X b tb) (hc : DE X c tc) (hm : lastMarks [op, op'] [b, c] = false := by with_unfolding_all rfl) : DE X (.Compare a [op, op'] [b, c] pos) (dChain r r' ta tb tc) := by
  obtain ⟨q, q', t1, t2, t3, hq, hq', p1, p2, p3, rr⟩ := chain_core ho ho' ha hb hc
  exact ⟨_, pe_chain hq hq' p1 p2 p3 hm, rr⟩
def dPar (i j : Nat) (ta : DTA) : DTS := fun D' S G => ta S G fun ds G1 => match ds with
  | [x, y] => D'.nx ((S.set i (some x)).set j (some y)) G1
  | _ => False
end
end DL
end
section
set_option Elab.async false
set_option linter.all false
set_option maxRecDepth 100000
set_option maxHeartbeats 4000000
namespace DL
open PySem PySem.Spec PyProof.Rows L2
theorem sqt_at {K : PySem.W.Frag} {H : Hp} {a : Addr} {xs : List V} (h : SqT K H a xs) : (∃ u, H a = some u) ∨ ∃ o, K.lookup a = some o := by
  rcases h with (h | ⟨o, h⟩) | ⟨o, _, _, h, _⟩
  · exact .inl ⟨_, h⟩
  · exact .inl ⟨_, h⟩
  · exact .inr ⟨o, h⟩
theorem fp_noK {X : Cx} {pins : List (Addr × Obj)} {σ : L2.St} {H : Hp} {s : Shared} (I : Inv X pins σ H s) {e b : Addr} (hf : FpOk X pins H e) (h : (∃ u, H b = some u) ∨ ∃ o, X.K.lookup b = some o) : e ≠ b := by
  rintro rfl
  rcases h with ⟨u, h⟩ | ⟨o, h⟩
  · rw [hf.1] at h; cases h
  · have hb := I.mod.kin _ _ h
    rcases hf.2.2.2.1 with z | z
    · exact I.ok.noex _ _ hb z
    · exact absurd (Nat.lt_of_lt_of_le (Heap.lt_size (I.ok.bs _ _ hb).1) z) (Nat.lt_irrefl _)
theorem sqt_lt {X : Cx} {pins : List (Addr × Obj)} {σ : L2.St} {H : Hp} {s : Shared} (I : Inv X pins σ H s) {a : Addr} {xs : List V} (h : SqT X.K H a xs) : a < s.heap.objs.size := by
  obtain ⟨_, _, p, _⟩ := I.tuple h
  exact p.lt
def ItE (xs : List V) (ok : Hp → Prop) : It :=
  ⟨fun i H => ok H ∧ i < xs.length, fun i H v H' => ∃ T x, v = .ref T ∧ H T = none ∧ H' = upd H T (.tup [.int (i : Nat), x]) ∧ xs[i]? = some x, fun i H => ok H ∧ i = xs.length⟩
theorem turn_enumOf {P : Program} {w : World} {K : PySem.W.Frag} {elts : List Expr} {kk : Nat} {tpos : Pos} {xs : List V} {ok : Hp → Prop} {e it : Addr} {Si : Nat → Heap → Prop}
    (live : ∀ i h, Si i h → ∃ o, h.get? it = some o ∧ ∀ v, o.data ≠ .cell v) (keep : ∀ i h h', Si i h → (∀ o, h.get? it = some o → h'.get? it = some o) → Si i h')
    (dr : ∀ (X : Cx) (pins : List (Addr × Obj)) (σ : L2.St) (H : Hp) (s : Shared), X.prog = P → X.w = w → X.K = K → X.A.handled = none → Inv X pins σ H s → ok H → ∃ (fp : List Addr) (Pv : Nat → Value → Prop) (St : Nat → Heap → Prop), it ∈ fp ∧ (∀ b ∈ fp, b ≠ it → (∃ u, H b = some u) ∨ ∃ o, X.K.lookup b = some o) ∧ Draws P w X.A.in1 it fp xs.length Pv St ∧
      (∀ i, Si i s.heap → St i s.heap) ∧ (∀ i h, St i h → Si i h) ∧ ∀ i u x, Pv i u → xs[i]? = some x → RelV x u) :
    Turn P w K (.Tuple elts kk tpos) (ItE xs ok) [e, it] e (fun i h => (∃ old, IsEnum h e it ((i : Nat) : Int) old) ∧ Si i h ∧ e ≠ it) where
  mem := by simp
  obj := by
    intro i h st b hb
    obtain ⟨⟨old, he⟩, hs, _⟩ := st
    have q : b = e ∨ b = it := by simpa using hb
    rcases q with q | q
    · subst q; exact ⟨_, he, fun v z => nomatch z⟩
    · subst q; exact live i h hs
  keep := by
    intro i h h' st k
    obtain ⟨⟨old, he⟩, hs, ne⟩ := st
    exact ⟨⟨old, k e (by simp) _ he⟩, keep i h h' hs fun o z => k it (by simp) o z, ne⟩
  item := by
    intro X hP hw hK hc i pins s σ H E I hf st hg
    obtain ⟨⟨old, he⟩, hs, ne⟩ := st
    obtain ⟨hok, hi⟩ := hg
    obtain ⟨fp, Pv, St, m0, mt, Dr, s1, s2, rel⟩ := dr X pins σ H s hP hw hK (I.ok.hd hc) I hok
    subst hP hw hK
    have el : e < s.heap.objs.size := Heap.lt_size he
    have il : it < s.heap.objs.size := by
      obtain ⟨o, z, _⟩ := live i _ hs
      exact Heap.lt_size z
    have ef : e ∉ fp := by
      intro z
      exact fp_noK I (hf e (by simp)) (mt e z ne) rfl
    refine wpAny_pyNext_enum_itemC Dr he (s1 i hs) hi ne ef ?_
    intro x h' tk px ho hst hT hsz hk
    refine ⟨_, rfl, wpAny_letOwnedTupleGo_enum (s := { s with heap := h', toks := tk + 1 }) ho ?_⟩
    intro h'' he' sb
    have hx : xs[i]? = some xs[i] := List.getElem?_eq_getElem hi
    have rx := rel i x _ px hx
    have hT2 := (sb.2 _ (Nat.ne_of_gt el)).trans hT
    have nw : ObjOk X.prog X.w (upd H s.heap.objs.size (.tup [.int (i : Nat), xs[i]])) h'' s.heap.objs.size (.tup [.int (i : Nat), xs[i]]) :=
      ⟨(by decide : 2 ≤ sizeLine), [.int i tk, x], .cons ⟨_, rfl⟩ (.cons rx .nil), ⟨_, hT2, rfl, _, rfl⟩⟩
    have J : Inv X pins σ (upd H s.heap.objs.size (.tup [.int (i : Nat), xs[i]])) { s with heap := h'', toks := tk + 1 } := by
      refine I.turnedNew (ch := [e, it]) ?_ hf (Nat.le_refl _) nw
      intro b ob hb q
      have b1 : b ≠ e := fun z => hb (by simp [z])
      have b2 : b ≠ it := fun z => hb (by simp [z])
      exact (sb.2 b b1).trans (hk b ob b1 b2 q)
    refine ⟨.ref s.heap.objs.size, _, J, rfl, ⟨_, _, rfl, I.hok.fresh (Nat.le_refl _), rfl, hx⟩, ⟨⟨x, ?_⟩, ?_, ne⟩, ?_⟩
    · have z : ((i + 1 : Nat) : Int) = (i : Int) + 1 := by omega
      rw [z]; exact he'
    · exact keep _ _ _ (s2 _ _ hst) fun o q => (sb.2 it (Ne.symm ne)).trans q
    · intro b hb
      have q : b = e ∨ b = it := by simpa using hb
      have lt : b < s.heap.objs.size := by rcases q with q | q <;> (rw [q]; assumption)
      rw [upd_ne (Nat.ne_of_lt lt)]
      exact (hf b hb).1
  done := by
    intro X hP hw hK hc i pins s σ H E I hf st hg
    obtain ⟨⟨old, he⟩, hs, ne⟩ := st
    obtain ⟨hok, hi⟩ := hg
    obtain ⟨fp, Pv, St, m0, mt, Dr, s1, s2, rel⟩ := dr X pins σ H s hP hw hK (I.ok.hd hc) I hok
    subst hP hw hK
    subst hi
    refine wpAny_pyNext_enum_endD Dr he (s1 _ hs) ?_
    intro h' eb
    refine ⟨rfl, I.turnedL (t' := s.toks) (ch := [e, it]) ?_ hf⟩
    intro b o hb q
    exact eb b o (fun z => hb (by simp [z])) q
  self := fun A i s Q E st h => let ⟨⟨_, he⟩, _⟩ := st; wpAny_pyIter_enum he h
set_option maxHeartbeats 4000000 in
theorem meets_enumB {v : Value} {o : Obj} {Hh : Heap → Prop} (B : Begins v o Hh) :
    Meets (Builtin.«enumerate.__new__» ⟨[.type "enumerate", v], []⟩) (fun _ R s => Hh s.heap ∧
      R (.ok (.ret (.ref (s.heap.push o).objs.size))) { s with heap := (s.heap.push o).push { cls := .type "enumerate", data := .fields #[.none, .bool false, .ref s.heap.objs.size, rawInt 0, .none, .none] } }) := by
  refine Meets.of_wp fun prog w A R s h => ?_
  obtain ⟨hp, g, d, tk, os⟩ := s
  obtain ⟨h1, h⟩ := h
  have hsub := PySem.sub_enumerate
  have q1 : ∀ {A' : Around} {E : Value → Shared → Prop} {Q : Value → Shared → Prop}, Q (.ref hp.objs.size) ⟨hp.push o, g, d, tk, os⟩ → wpAny (model prog w) A' (pyIter v) Q E ⟨hp, g, d, tk, os⟩ := by
    intro A' E Q q
    exact B.iter prog w _ _ ⟨hp, g, d, tk, os⟩ _ h1 q
  wp_walk using q1
  refine wpAny_stack_any fun st => wpAny_pure ?_
  split
  · rename_i c _ _ _ _ _
    cases (c == Value.type "enumerate") <;> (wp_walk using q1; exact ⟨_, rfl, h⟩)
  · wp_walk using q1
    exact ⟨_, rfl, h⟩
theorem call_enumB {prog : Program} {w : World} {A : Around} {E : Value → Shared → Prop} {s : Shared} {v : Value} {o : Obj} {Hh : Heap → Prop} {Q : Value → Shared → Prop} (B : Begins v o Hh) (h1 : Hh s.heap)
    (h : ∀ h', IsEnum h' (s.heap.objs.size + 1) s.heap.objs.size 0 .none → h'.get? s.heap.objs.size = some o → h'.objs.size = s.heap.objs.size + 2 → (∀ b o, s.heap.get? b = some o → h'.get? b = some o) → Q (.ref (s.heap.objs.size + 1)) { s with heap := h' }) :
    wpAny (model prog w) A (call (.type "enumerate") [v]) Q E s := by
  refine callType_new F.called_enumerate (by decide) (F.typeCall_enumerate_1 _) (F.newCall_enumerate_1 _) (fun obj => F.args_object_init_2 obj _) F.entry_enumerate_new (meets_enumB B) ⟨h1, ?_⟩
  have z1 : (s.heap.push o).objs.size = s.heap.objs.size + 1 := Heap.size_push ..
  show _ ∧ _
  rw [z1]
  have he : IsEnum ((s.heap.push o).push { cls := .type "enumerate", data := .fields #[.none, .bool false, .ref s.heap.objs.size, rawInt 0, .none, .none] }) (s.heap.objs.size + 1) s.heap.objs.size 0 .none := by
    have z2 := Heap.get?_push_size (s.heap.push o) (o := { cls := .type "enumerate", data := .fields #[.none, .bool false, .ref s.heap.objs.size, rawInt 0, .none, .none] }) rfl
    rw [z1] at z2
    exact z2
  refine ⟨⟨_, he, rfl⟩, h _ he (Heap.get?_push_of_some _ (Heap.get?_push_size _ B.free)) (by rw [Heap.size_push, z1]) ?_⟩
  intro b ob x
  exact Heap.get?_push_of_some _ (Heap.get?_push_of_some _ x)
def iEnumT (K : PySem.W.Frag) (ta : TA) : TI := fun σ H R => ta σ H fun vs H1 => ∃ a xs, vs = [.ref a] ∧ SqT K H1 a xs ∧ R (ItE xs fun H => SqT K H a xs) H1
theorem fresh_fp {X : Cx} {pins : List (Addr × Obj)} {σ : L2.St} {H : Hp} {s : Shared} (I : Inv X pins σ H s) {l : List Addr} (h : ∀ b ∈ l, s.heap.objs.size ≤ b) : ∀ b ∈ l, FpOk X pins H b := fun b hb => I.fpOk (h b hb) (I.hok.fresh (h b hb))
theorem vals_getD {xs : List V} {us : List Value} (r : Vals xs us) {i : Nat} {u : Value} {x : V} (hu : us[i]? = some u) (hx : xs[i]? = some x) : RelV x u := by
  obtain ⟨w, hw, rw'⟩ := r.get hx
  rw [hu] at hw
  cases hw
  exact rw'
theorem pi_enumT {X : Cx} {e : Expr} {ta : TA} {p pos tpos : Pos} {elts : List Expr} {kk : Nat} (hg : Gl X "enumerate") (hm : X.mg "enumerate" = none) (ha : PA X [e] ta) (hs : starEach [e] X.env = [(false, eval e X.env)] := by rfl) :
    PI X (.Tuple elts kk tpos) (.Call (.Name "enumerate" p) [e] [] pos) (iEnumT X.K ta) := by
  constructor
  intro pins s σ H R I h
  refine Call_ (ld_blt I hg hm boot_enumerate (PyProof.Rows.callWith_type1 (thn (ha.run pos pins s σ H _ I h) ?_) hs rfl))
  rintro us s1 ⟨vs, H1, I1, r1, a, xs, rfl, hq, q⟩
  cases r1 with
  | cons r rr =>
    cases rr
    cases r
    obtain ⟨its, rv, tu, hz⟩ := I1.tuple (xs := xs) (a := a) hq
    have hl := rv.length
    refine call_enumB (begins_tuple a its.toArray) tu ?_
    intro h' he hit hsz hk
    refine wpAny_pyIter_enum he ?_
    have J : Inv X pins σ H1 { s1 with heap := h' } := I1.kept (t' := s1.toks) hk
    refine ⟨s1.heap.objs.size + 1, [s1.heap.objs.size + 1, s1.heap.objs.size], _, _, H1, rfl, J, turn_enumOf (Si := fun i h => h.IsTupleIter s1.heap.objs.size a i) ?_ ?_ ?_, ⟨⟨.none, he⟩, ⟨_, hit, rfl, rfl⟩, Nat.succ_ne_self _⟩, ?_, q⟩
    · rintro i h ⟨o, z, c, d⟩
      exact ⟨o, z, fun v y => by rw [d] at y; cases y⟩
    · rintro i h h' ⟨o, z, c⟩ k
      exact ⟨o, k o z, c⟩
    · intro X2 pins2 σ2 H2 s2 hP hw hK hh I2 hok
      have hne : a ≠ s1.heap.objs.size := Nat.ne_of_lt (sqt_lt I1 hq)
      rw [← hK] at hok
      obtain ⟨its2, rv2, tu2, hz2⟩ := I2.tuple (xs := xs) (a := a) hok
      have hl2 := rv2.length
      refine ⟨[s1.heap.objs.size, a], fun i v => its2.toArray[i]? = some v, fun i h => h.IsTupleIter s1.heap.objs.size a i ∧ h.IsTuple a its2.toArray, by simp, fun b hb hb2 => ?_, ?_, fun i z => ⟨z, tu2⟩, fun i h z => z.1, fun i u x pu hx => ?_⟩
      · have : b = a := by
          have q : b = s1.heap.objs.size ∨ b = a := by simpa using hb
          rcases q with q | q
          · exact absurd q hb2
          · exact q
        subst this
        exact sqt_at hok
      · have := Draws.tuple (prog := X.prog) (w := X.w) (A := X2.A.in1) hh s1.heap.objs.size a hne its2.toArray
        have ez : its2.toArray.size = xs.length := by rw [hl2]; simp
        rw [ez] at this
        exact this
      · refine vals_getD rv2 ?_ hx
        simpa using pu
    · refine fresh_fp I1 fun b hb => ?_
      have q : b = s1.heap.objs.size + 1 ∨ b = s1.heap.objs.size := by simpa using hb
      rcases q with q | q
      · rw [q]; exact Nat.le_add_right _ _
      · rw [q]; exact Nat.le_refl _
section
variable {X : Cx} {pos : Pos}
/-- for i, x in enumerate(t), t a tuple -/
def diEnumT (ta : DTA) : DTI := fun S G R => ta S G fun ds G1 => match ds with
  | [.tup xs] => R (xs.mapIdx fun i x => .tup [.int (i : Nat), x]) dNoGuard G1
  | [.kup xs] => R (xs.mapIdx fun i x => .tup [.int (i : Nat), x]) dNoGuard G1
  | _ => False
theorem di_enumT {e : Expr} {ta : DTA} {p tpos : Pos} {elts : List Expr} {kk : Nat} (hg : Gl X "enumerate") (hm : X.mg "enumerate" = none) (ha : DA X [e] ta) (hs : starEach [e] X.env = [(false, eval e X.env)] := by rfl) :
    DI X (.Tuple elts kk tpos) (.Call (.Name "enumerate" p) [e] [] pos) (diEnumT ta) := by
  obtain ⟨t, p1, r⟩ := ha.ex
  refine ⟨_, pi_enumT hg hm p1 hs, fun F H σ S G o R' h R k => ?_⟩
  refine r F H σ S G o _ h _ fun F1 H1 vs ds G1 e1 g1 q1 h1 => ?_
  dsimp only at h1
  split at h1
  · rename_i xs
    cases q1 with
    | cons q rest =>
      cases rest
      cases q with
      | tup hq rs =>
        rename_i a ws
        refine ⟨a, ws, rfl, g1.ex.sqt (.inl (.inl hq)), k F1 H1 G1 _ _ _ e1 g1 ⟨fun F2 H2 G2 i d e2 g2 _ hd => ?_, fun F2 H2 G2 e2 g2 _ => ?_⟩ h1⟩
        · rw [List.getElem?_mapIdx] at hd
          cases ex : xs[i]? with
          | none => rw [ex] at hd; cases hd
          | some x =>
            rw [ex] at hd
            cases hd
            have hi : i < ws.length := by
              rw [rs.length]
              exact (List.getElem?_eq_some_iff.mp ex).1
            refine ⟨⟨g2.ex.sqt (e2.sqt (.inl (.inl hq))), hi⟩, fun y H3 hy => ?_⟩
            obtain ⟨T, z, rfl, hT, rfl, hz⟩ := hy
            obtain ⟨x', hx', rx'⟩ := rs.get' hz
            rw [ex] at hx'
            cases hx'
            have gr := Gr.new (u := .tup [.int (i : Nat), z]) g2.ex hT
            exact ⟨_, gr.go, g2.grow gr, .tup upd_same (.cons (.int _) (.cons ((rx'.mono e2).mono gr.ff) .nil))⟩
        · refine ⟨g2.ex.sqt (e2.sqt (.inl (.inl hq))), ?_⟩
          rw [List.length_mapIdx, rs.length]
  · rename_i xs
    cases q1 with
    | cons q rest =>
      cases rest
      cases q with
      | kup hq rs =>
        rename_i a ws
        refine ⟨a, ws, rfl, g1.ex.sqt hq, k F1 H1 G1 _ _ _ e1 g1 ⟨fun F2 H2 G2 i d e2 g2 _ hd => ?_, fun F2 H2 G2 e2 g2 _ => ?_⟩ h1⟩
        · rw [List.getElem?_mapIdx] at hd
          cases ex : xs[i]? with
          | none => rw [ex] at hd; cases hd
          | some x =>
            rw [ex] at hd
            cases hd
            have hi : i < ws.length := by
              rw [rs.length]
              exact (List.getElem?_eq_some_iff.mp ex).1
            refine ⟨⟨g2.ex.sqt (e2.sqt hq), hi⟩, fun y H3 hy => ?_⟩
            obtain ⟨T, z, rfl, hT, rfl, hz⟩ := hy
            obtain ⟨x', hx', rx'⟩ := rs.get' hz
            rw [ex] at hx'
            cases hx'
            have gr := Gr.new (u := .tup [.int (i : Nat), z]) g2.ex hT
            exact ⟨_, gr.go, g2.grow gr, .tup upd_same (.cons (.int _) (.cons ((rx'.mono e2).mono gr.ff) .nil))⟩
        · refine ⟨g2.ex.sqt (e2.sqt hq), ?_⟩
          rw [List.length_mapIdx, rs.length]
  · exact h1.elim
end
end DL
end
section
set_option Elab.async false
set_option linter.all false
set_option maxRecDepth 100000
set_option maxHeartbeats 4000000
namespace DL
open PySem PySem.Spec PyProof.Rows L2
def sgn (c : Nat) : Str := ⟨#[c]⟩
def ItZ (x y : Str) : It :=
  ⟨fun i _ => i < min x.cps.size y.cps.size, fun i H v H' => ∃ T a b, v = .ref T ∧ H T = none ∧ H' = upd H T (.tup [.str (sgn a), .str (sgn b)]) ∧ x.cps[i]? = some a ∧ y.cps[i]? = some b, fun i _ => i = min x.cps.size y.cps.size⟩
theorem turn_zipS {P : Program} {w : World} {K : PySem.W.Frag} {elts : List Expr} {kk : Nat} {tpos : Pos} {x y : Str} {t1 t2 : Tok} {z TI TO i1 i2 : Addr} (Sp : ZipSep2 z TI TO i1 i2 [i1] [i2]) :
    Turn P w K (.Tuple elts kk tpos) (ItZ x y) [z, TI, TO, i1, i2] z (fun i h => IsZip h z TI TO .none ∧ IsTupOf2 h TI (.ref i1) (.ref i2) ∧ (∃ a b, IsTupOf2 h TO a b) ∧ h.IsStrIter i1 (strIterType x) x t1 i ∧ h.IsStrIter i2 (strIterType y) y t2 i) where
  mem := by simp
  obj := by
    rintro i h ⟨hz, hTI, ⟨a, b, hTO⟩, ⟨o1, z1, _, d1⟩, ⟨o2, z2, _, d2⟩⟩ c hc
    have q : c = z ∨ c = TI ∨ c = TO ∨ c = i1 ∨ c = i2 := by simpa using hc
    rcases q with q | q | q | q | q <;> subst q
    · exact ⟨_, hz, fun v y => nomatch y⟩
    · exact ⟨_, hTI, fun v y => nomatch y⟩
    · exact ⟨_, hTO, fun v y => nomatch y⟩
    · exact ⟨o1, z1, fun v y => by rw [d1] at y; cases y⟩
    · exact ⟨o2, z2, fun v y => by rw [d2] at y; cases y⟩
  keep := by
    rintro i h h' ⟨hz, hTI, ⟨a, b, hTO⟩, ⟨o1, z1, r1⟩, ⟨o2, z2, r2⟩⟩ k
    exact ⟨k z (by simp) _ hz, k TI (by simp) _ hTI, ⟨a, b, k TO (by simp) _ hTO⟩, ⟨o1, k i1 (by simp) _ z1, r1⟩, ⟨o2, k i2 (by simp) _ z2, r2⟩⟩
  item := by
    intro X hP hw hK hc i pins s σ H E I hf st hg
    subst hP hw hK
    obtain ⟨hz, hTI, ⟨a0, b0, hTO⟩, s1, s2⟩ := st
    have hg' : i < min x.cps.size y.cps.size := hg
    have g1 : i < x.cps.size := by omega
    have g2 : i < y.cps.size := by omega
    have hh := I.ok.hd hc
    have zl : z < s.heap.objs.size := Heap.lt_size hz
    refine wpAny_pyNext_zipD2_item Sp (Draws.text (A := X.A.in1) hh i1 x t1) (Draws.text (A := X.A.in1) hh i2 y t2) hz hTI hTO s1 s2 g1 g2 ?_
    rintro u1 u2 h' tk ⟨c1, k1, e1, rfl⟩ ⟨c2, k2, e2, rfl⟩ hz' hTO' s1' s2' hT hsz hk
    refine ⟨_, rfl, wpAny_letOwnedTupleGo_zip (s := { s with heap := h', toks := tk }) hz' ?_⟩
    intro h'' hz'' sb
    have hT2 := (sb.2 _ (Nat.ne_of_gt zl)).trans hT
    have nw : ObjOk X.prog X.w (upd H s.heap.objs.size (.tup [.str (sgn c1), .str (sgn c2)])) h'' s.heap.objs.size (.tup [.str (sgn c1), .str (sgn c2)]) :=
      ⟨(by decide : 2 ≤ sizeLine), [.str (sgn c1) k1, .str (sgn c2) k2], .cons ⟨_, rfl⟩ (.cons ⟨_, rfl⟩ .nil), ⟨_, hT2, rfl, _, rfl⟩⟩
    have J : Inv X pins σ (upd H s.heap.objs.size (.tup [.str (sgn c1), .str (sgn c2)])) { s with heap := h'', toks := tk } := by
      refine I.turnedNew (ch := [z, TI, TO, i1, i2]) ?_ hf (Nat.le_refl _) nw
      intro c o hb q
      have b1 : c ≠ z := fun w => hb (by simp [w])
      have b3 : c ≠ TO := fun w => hb (by simp [w])
      have b4 : c ≠ i1 := fun w => hb (by simp [w])
      have b5 : c ≠ i2 := fun w => hb (by simp [w])
      exact (sb.2 c b1).trans (hk c o b1 b3 b4 b5 q)
    refine ⟨.ref s.heap.objs.size, _, J, rfl, ⟨_, c1, c2, rfl, I.hok.fresh (Nat.le_refl _), rfl, e1, e2⟩, ⟨hz'', ?_, ⟨.str (sgn c1) k1, .str (sgn c2) k2, ?_⟩, ?_, ?_⟩, ?_⟩
    · exact (sb.2 _ Sp.TIz).trans (hk _ _ Sp.TIz Sp.TITO Sp.TIi1 Sp.TIi2 hTI)
    · exact (sb.2 _ Sp.TOz).trans hTO'
    · obtain ⟨o, q, r⟩ := s1'
      exact ⟨o, (sb.2 _ (Ne.symm Sp.zi1)).trans q, r⟩
    · obtain ⟨o, q, r⟩ := s2'
      exact ⟨o, (sb.2 _ (Ne.symm Sp.zi2)).trans q, r⟩
    · intro c hcm
      have lt : c < s.heap.objs.size := by
        have q : c = z ∨ c = TI ∨ c = TO ∨ c = i1 ∨ c = i2 := by simpa using hcm
        rcases q with q | q | q | q | q
        · rw [q]; exact zl
        · rw [q]; exact Heap.lt_size hTI
        · rw [q]; exact Heap.lt_size hTO
        · rw [q]; obtain ⟨_, w, _⟩ := s1; exact Heap.lt_size w
        · rw [q]; obtain ⟨_, w, _⟩ := s2; exact Heap.lt_size w
      rw [upd_ne (Nat.ne_of_lt lt)]
      exact (hf c hcm).1
  done := by
    intro X hP hw hK hc i pins s σ H E I hf st hg
    subst hP hw hK
    obtain ⟨hz, hTI, ⟨a0, b0, hTO⟩, s1, s2⟩ := st
    have hg' : i = min x.cps.size y.cps.size := hg
    have hh := I.ok.hd hc
    refine wpAny_pyNext_zipD2_end Sp (Draws.text (A := X.A.in1) hh i1 x t1) (Draws.text (A := X.A.in1) hh i2 y t2) hz hTI hTO s1 s2 (by omega) (by omega) (by omega) ?_
    intro h' tk hk
    refine ⟨rfl, I.turnedL (t' := tk) (ch := [z, TI, TO, i1, i2]) ?_ hf⟩
    intro c o hb q
    exact hk c o (fun w => hb (by simp [w])) (fun w => hb (by simp [w])) (fun w => hb (by simp [w])) (fun w => hb (by simp [w])) q
  self := fun A i s Q E st h => wpAny_pyIter_zip st.1 h
def iZipS (ta : TA) : TI := fun σ H R => ta σ H fun vs H1 => ∃ x y, vs = [.str x, .str y] ∧ R (ItZ x y) H1
theorem pi_zipS {X : Cx} {e e2 : Expr} {ta : TA} {p pos tpos : Pos} {elts : List Expr} {kk : Nat} (hg : Gl X "zip") (hm : X.mg "zip" = none) (ha : PA X [e, e2] ta)
    (hs : starEach [e, e2] X.env = (false, eval e X.env) :: starEach [e2] X.env := by rfl) (hpl : (backTo pos (starEach [e2] X.env)).any (·.1) = false := by rfl) :
    PI X (.Tuple elts kk tpos) (.Call (.Name "zip" p) [e, e2] [] pos) (iZipS ta) := by
  constructor
  intro pins s σ H R I h
  refine Call_ (ld_blt I hg hm PyProof.Rows.boot_zip (PyProof.Rows.callWith_type1 (thn (ha.run pos pins s σ H _ I h) ?_) hs hpl))
  rintro us s1 ⟨vs, H1, I1, r1, x, y, rfl, q⟩
  cases r1 with
  | cons r rr =>
    cases rr with
    | cons r' rr =>
      cases rr
      obtain ⟨t1, rfl⟩ := r
      obtain ⟨t2, rfl⟩ := r'
      refine zip_begins2 (begins_text x t1) (begins_text y t2) trivial trivial ?_
      intro h' hz hTI hTO h1 h2 hsz hk
      refine wpAny_pyIter_zip hz ?_
      have J : Inv X pins σ H1 { s1 with heap := h' } := I1.kept (t' := s1.toks) hk
      have sep : ZipSep2 (s1.heap.objs.size + 4) (s1.heap.objs.size + 2) (s1.heap.objs.size + 3) s1.heap.objs.size (s1.heap.objs.size + 1) [s1.heap.objs.size] [s1.heap.objs.size + 1] := zip_sep2 (N := s1.heap.objs.size) (fp1 := []) (fp2 := []) (by simp) (by simp)
      refine ⟨s1.heap.objs.size + 4, [s1.heap.objs.size + 4, s1.heap.objs.size + 2, s1.heap.objs.size + 3, s1.heap.objs.size, s1.heap.objs.size + 1], _, _, H1, rfl, J, turn_zipS (x := x) (y := y) (t1 := t1) (t2 := t2) sep, ⟨hz, hTI, ⟨_, _, hTO⟩, ⟨_, h1, rfl, rfl⟩, ⟨_, h2, rfl, rfl⟩⟩, ?_, q⟩
      refine fresh_fp I1 fun b hb => ?_
      have z : b = s1.heap.objs.size + 4 ∨ b = s1.heap.objs.size + 2 ∨ b = s1.heap.objs.size + 3 ∨ b = s1.heap.objs.size ∨ b = s1.heap.objs.size + 1 := by simpa using hb
      rcases z with z | z | z | z | z
      · rw [z]; exact Nat.le_add_right _ _
      · rw [z]; exact Nat.le_add_right _ _
      · rw [z]; exact Nat.le_add_right _ _
      · rw [z]; exact Nat.le_refl _
      · rw [z]; exact Nat.le_add_right _ _
section
variable {X : Cx} {pos : Pos}
def diZipS (ta : DTA) : DTI := fun S G R => ta S G fun ds G1 => match ds with
  | [.str x, .str y] => R (List.zipWith (fun a b => .tup [.str (sgn a), .str (sgn b)]) x.cps.toList y.cps.toList) dNoGuard G1
  | _ => False
theorem di_zipS {e e2 : Expr} {ta : DTA} {p tpos : Pos} {elts : List Expr} {kk : Nat} (hg : Gl X "zip") (hm : X.mg "zip" = none) (ha : DA X [e, e2] ta)
    (hs : starEach [e, e2] X.env = (false, eval e X.env) :: starEach [e2] X.env := by rfl) (hpl : (backTo pos (starEach [e2] X.env)).any (·.1) = false := by rfl) : DI X (.Tuple elts kk tpos) (.Call (.Name "zip" p) [e, e2] [] pos) (diZipS ta) := by
  obtain ⟨t, p1, r⟩ := ha.ex
  refine ⟨_, pi_zipS hg hm p1 hs hpl, fun F H σ S G o R' h R k => ?_⟩
  refine r F H σ S G o _ h _ fun F1 H1 vs ds G1 e1 g1 q1 h1 => ?_
  dsimp only at h1
  split at h1
  · rename_i x y
    cases q1 with
    | cons a b =>
      cases a
      cases b with
      | cons c d =>
        cases c; cases d
        refine ⟨x, y, rfl, k F1 H1 G1 _ _ _ e1 g1 ⟨fun F2 H2 G2 i d e2 g2 _ hd => ?_, fun F2 H2 G2 e2 g2 _ => ?_⟩ h1⟩
        · rw [List.getElem?_zipWith] at hd
          cases ea : x.cps.toList[i]? with
          | none => simp [ea] at hd
          | some a =>
            cases eb : y.cps.toList[i]? with
            | none => simp [ea, eb] at hd
            | some b =>
              simp only [ea, eb] at hd
              cases hd
              have la := (List.getElem?_eq_some_iff.mp ea).1
              have lb := (List.getElem?_eq_some_iff.mp eb).1
              rw [Array.length_toList] at la lb
              refine ⟨by show i < min _ _; omega, fun v H3 hy => ?_⟩
              obtain ⟨T, a', b', rfl, hT, rfl, ha', hb'⟩ := hy
              have za : x.cps[i]? = some a := by rw [← ea]; simp
              have zb : y.cps[i]? = some b := by rw [← eb]; simp
              rw [za] at ha'; rw [zb] at hb'
              cases ha'; cases hb'
              have gr := Gr.new (u := .tup [.str (sgn a), .str (sgn b)]) g2.ex hT
              exact ⟨_, gr.go, g2.grow gr, .tup upd_same (.cons (.str _) (.cons (.str _) .nil))⟩
        · show _ = min _ _
          simp
  · exact h1.elim
/-- zip of two tuples -/
def diZipT (ta : DTA) : DTI := fun S G R => ta S G fun ds G1 => match ds with
  | [.tup xs, .tup ys] => R (List.zipWith (fun a b => .tup [a, b]) xs ys) dNoGuard G1
  | _ => False
theorem di_zipT {e e2 : Expr} {ta : DTA} {p tpos : Pos} {elts : List Expr} {kk : Nat} (hg : Gl X "zip") (hm : X.mg "zip" = none) (ha : DA X [e, e2] ta)
    (hs : starEach [e, e2] X.env = (false, eval e X.env) :: starEach [e2] X.env := by rfl) (hpl : (backTo pos (starEach [e2] X.env)).any (·.1) = false := by rfl) : DI X (.Tuple elts kk tpos) (.Call (.Name "zip" p) [e, e2] [] pos) (diZipT ta) := by
  obtain ⟨t, p1, r⟩ := ha.ex
  refine ⟨_, RZ.pi_zipA hg hm p1 hs hpl, fun F H σ S G o R' h R k => ?_⟩
  refine r F H σ S G o _ h _ fun F1 H1 vs ds G1 e1 g1 q1 h1 => ?_
  dsimp only at h1
  split at h1
  · rename_i xs ys
    cases q1 with
    | cons a b =>
      cases b with
      | cons c d =>
        cases d
        cases a with
        | tup ha ra =>
          cases c with
          | tup hb rb =>
            rename_i pa va pb vb
            refine ⟨pa, pb, va, vb, rfl, .inr ⟨.inl (.inl (g1.ex _ _ ha)), .inl (.inl (g1.ex _ _ hb)), k F1 H1 G1 _ _ _ e1 g1 ⟨fun F2 H2 G2 i d e2 g2 _ hd => ?_, fun F2 H2 G2 e2 g2 _ => ?_⟩ h1⟩⟩
            · have sa : SqT X.K H2 pa va := .inl (.inl (g2.ex _ _ (e2 _ _ ha)))
              have sb : SqT X.K H2 pb vb := .inl (.inl (g2.ex _ _ (e2 _ _ hb)))
              rw [List.getElem?_zipWith] at hd
              cases ea : xs[i]? with
              | none => simp [ea] at hd
              | some a =>
                cases eb : ys[i]? with
                | none => simp [ea, eb] at hd
                | some b =>
                  simp only [ea, eb] at hd
                  cases hd
                  obtain ⟨u, hu, ru⟩ := ra.get ea
                  obtain ⟨w, hw, rw'⟩ := rb.get eb
                  refine ⟨⟨va, vb, u, w, sa, sb, hu, hw⟩, fun v H3 hy => ?_⟩
                  obtain ⟨T, u', w', rfl, hT, rfl, h3, h4⟩ := hy
                  have z1 := h3 va sa
                  have z2 := h4 vb sb
                  rw [hu] at z1; rw [hw] at z2
                  cases z1; cases z2
                  have gr := Gr.new (u := .tup [u, w]) g2.ex hT
                  exact ⟨_, gr.go, g2.grow gr, .tup upd_same (.cons ((ru.mono e2).mono gr.ff) (.cons ((rw'.mono e2).mono gr.ff) .nil))⟩
            · refine ⟨va, vb, .inl (.inl (g2.ex _ _ (e2 _ _ ha))), .inl (.inl (g2.ex _ _ (e2 _ _ hb))), ?_⟩
              rw [ra.length, rb.length, List.length_zipWith]
              omega
  · exact h1.elim
end
end DL
end
section
set_option Elab.async false
set_option linter.all false
set_option maxRecDepth 100000
set_option maxHeartbeats 4000000
namespace DL
open PySem PySem.Spec PyProof.Rows L2
section
variable {X : Cx} {pos : Pos}
theorem dp_par {i j : Nat} {x y : Str} {a b : Expr} {ta : DTA} {px py pt : Pos} {kt k2 pt2} (hc : X.calm = true) (hN : X.N.Nodup) (hi : X.N[i]? = some x := by rfl) (hj : X.N[j]? = some y := by rfl) (hij : i ≠ j := by decide)
    (hx : X.env.scope.names.lookup x = some .local := by rfl) (hy : X.env.scope.names.lookup y = some .local := by rfl) (ha : DA X [a, b] ta)
    (hw : swappedStores [.Tuple [.Name x px, .Name y py] kt pt] (.Tuple [a, b] k2 pt2) X.env = pure (some [x, y]) := by rfl)
    (hs : swapsWithSole [.Tuple [.Name x px, .Name y py] kt pt] (.Tuple [a, b] k2 pt2) pos.line X.env = pure false := by rfl) :
    DP X (.Assign [.Tuple [.Name x px, .Name y py] kt pt] (.Tuple [a, b] k2 pt2) pos) (dPar i j ta) := by
  obtain ⟨t, p, r⟩ := ha.ex
  refine ⟨_, ps_par hc hN hi hj hij hx hy p hw hs, fun F H σ S G o D' h D0 k => ?_⟩
  refine r F H σ S G o _ h _ fun F1 H1 vs ds G1 e1 g1 q1 h1 => ?_
  dsimp only at h1
  split at h1
  · cases q1 with
    | cons a1 b1 =>
      cases b1 with
      | cons a2 b2 =>
        cases b2
        exact ⟨_, _, rfl, k.nx F1 H1 _ _ G1 e1 ⟨g1, (((o.s.mono e1.ex).set a1 i).set a2 j)⟩ h1⟩
  · exact h1.elim
def dPar3 (i j l : Nat) (ta : DTA) : DTS := fun D' S G => ta S G fun ds G1 => match ds with
  | [x, y, z] => D'.nx (((S.set i (some x)).set j (some y)).set l (some z)) G1
  | _ => False
theorem dp_par3 {i j l : Nat} {x y z : Str} {a b c : Expr} {ta : DTA} {px py pz pt : Pos} {kt k2 pt2} (hc : X.calm = true) (hN : X.N.Nodup) (hi : X.N[i]? = some x := by rfl) (hj : X.N[j]? = some y := by rfl) (hl : X.N[l]? = some z := by rfl) (hij : i ≠ j := by decide) (hil : i ≠ l := by decide) (hjl : j ≠ l := by decide)
    (hx : X.env.scope.names.lookup x = some .local := by rfl) (hy : X.env.scope.names.lookup y = some .local := by rfl) (hz : X.env.scope.names.lookup z = some .local := by rfl) (ha : DA X [a, b, c] ta)
    (hw : swappedStores [.Tuple [.Name x px, .Name y py, .Name z pz] kt pt] (.Tuple [a, b, c] k2 pt2) X.env = pure (some [x, y, z]) := by rfl)
    (hs : swapsWithSole [.Tuple [.Name x px, .Name y py, .Name z pz] kt pt] (.Tuple [a, b, c] k2 pt2) pos.line X.env = pure false := by rfl) :
    DP X (.Assign [.Tuple [.Name x px, .Name y py, .Name z pz] kt pt] (.Tuple [a, b, c] k2 pt2) pos) (dPar3 i j l ta) := by
  obtain ⟨t, p, r⟩ := ha.ex
  refine ⟨_, ps_par3 hc hN hi hj hl hij hil hjl hx hy hz p hw hs, fun F H σ S G o D' h D0 k => ?_⟩
  refine r F H σ S G o _ h _ fun F1 H1 vs ds G1 e1 g1 q1 h1 => ?_
  dsimp only at h1
  split at h1
  · cases q1 with
    | cons a1 b1 =>
      cases b1 with
      | cons a2 b2 =>
        cases b2 with
        | cons a3 b3 =>
          cases b3
          exact ⟨_, _, _, rfl, k.nx F1 H1 _ _ G1 e1 ⟨g1, ((((o.s.mono e1.ex).set a1 i).set a2 j).set a3 l)⟩ h1⟩
  · exact h1.elim
/-- x += e, whole numbers -/
def dAug (i : Nat) (te : DTE) (f : Int → Int → Int) : DTS := fun D' S G => match S[i]? with
  | some (some (.int a)) => te S G fun d G1 => (match d with
    | .int b => D'.nx (S.set i (some (.int (f a b)))) G1
    | _ => False)
  | _ => False
theorem dp_aug {i : Nat} {x : Str} {e : Expr} {te : DTE} {op : Operator} {f : Int → Int → Int} {pos' : Pos} (hN : X.N.Nodup) (ho : PIp X op (ipI f)) (he : DE X e te) (hi : X.N[i]? = some x := by rfl) (hx : Loc X.env.scope x := by first | exact Or.inl rfl | exact Or.inr rfl) (hf : X.fn x = true ∨ X.env.scope.names.lookup x = some .local := by first | exact .inl rfl | exact .inr rfl | assumption) :
    DP X (.AugAssign (.Name x pos') op e pos) (dAug i te f) := by
  obtain ⟨t, p, r⟩ := he.ex
  refine ⟨_, ps_aug hN hi hx p ho hf, fun F H σ S G o D' h D0 k => ?_⟩
  unfold dAug at h
  split at h
  · rename_i a ea
    obtain ⟨v, hv, rv⟩ := o.s.get ea
    cases rv
    refine ⟨_, hv, r F H σ S G o _ h _ fun F1 H1 u d G1 e1 g1 q1 h1 => ?_⟩
    dsimp only at h1
    split at h1
    · cases q1
      exact ⟨_, _, rfl, rfl, k.nx F1 H1 _ _ G1 e1 ⟨g1, (o.s.mono e1.ex).set (.int _) i⟩ h1⟩
    · exact h1.elim
  · exact h.elim
def dRevL (te : DTE) : DTE := fun S G Q => te S G fun d G1 => match d.cur G1 with
  | .lst xs => Q (.lst xs.reverse) G1
  | _ => False
def dRevLM (te : DTE) : DTE := fun S G Q => te S G fun d G1 => match d.cur G1 with
  | .lst xs => ∀ p, G1 p = none → Q (.rf p) (gput G1 p (.lst xs.reverse))
  | _ => False
theorem de_revLM {e : Expr} {te : DTE} {k : Nat} {p1 p2 p3 : Pos} (he : DE X e te) : DE X (.Subscript e (.Slice none none (some (.UnaryOp .USub (.Constant (.int 1) k p1) p2)) p3) pos) (dRevLM te) := by
  obtain ⟨t, p, r⟩ := he.ex
  refine ⟨_, pe_revL p, fun F H σ S G o Q' h Q kk => ?_⟩
  refine r F H σ S G o _ h _ fun F1 H1 v d G1 e1 g1 q1 h1 => ?_
  dsimp only at h1
  split at h1
  · rename_i xs ex
    obtain ⟨a, vs, rfl, ha, rs⟩ := cur_list g1 q1 ex
    refine ⟨a, vs, rfl, .inl (.inl ha), fun p hp => ?_⟩
    exact kk _ _ _ _ _ (e1.trans (Go.alloc hp)) (g1.alloc (o := .lst xs.reverse) hp rfl ⟨_, upd_same, rs.reverse⟩) (.rf p) (h1 p (g1.free hp))
  · exact h1.elim
abbrev DTP := DS → GH → (List (D × D) → GH → Prop) → Prop
inductive RepP (K : PySem.W.Frag) (F : Hp) : List (V × V) → List (D × D) → Prop
  | nil : RepP K F [] []
  | cons {a b : V} {c d : D} {ps : List (V × V)} {qs : List (D × D)} : Rep K F a c → Rep K F b d → RepP K F ps qs → RepP K F ((a, b) :: ps) ((c, d) :: qs)
theorem RepP.mono {K : PySem.W.Frag} {F F' : Hp} (e : Ex F F') : ∀ {ps : List (V × V)} {qs : List (D × D)}, RepP K F ps qs → RepP K F' ps qs
  | _, _, .nil => .nil
  | _, _, .cons a b t => .cons (a.mono e) (b.mono e) (RepP.mono e t)
structure DPp (X : Cx) (pos : Pos) (keys : List (Option Expr)) (values : List Expr) (t' : DTP) : Prop where
  ex : ∃ trs, PPs X pos keys values trs ∧ ∀ F H σ S G, Ok X.K F H σ S G → ∀ Q', t' S G Q' → ∀ Q : List (V × V) → Hp → Prop, (∀ F' H' ps qs G', Go F H G F' H' G' → Gok X.K F' H' G' → RepP X.K F' ps qs → Q' qs G' → Q ps H') → tPairs trs σ H Q
def dpNil : DTP := fun _ G Q => Q [] G
def dpCons (tk tv : DTE) (tr : DTP) : DTP := fun S G Q => tk S G fun k G1 => tv S G1 fun v G2 => tr S G2 fun qs G3 => Q ((k, v) :: qs) G3
theorem dpp_nil : DPp X pos [] [] dpNil := ⟨_, pps_nil, fun F H σ S G o Q' h Q k => k F H [] [] G Go.refl o.g .nil h⟩
theorem dpp_cons {k v : Expr} {ks : List (Option Expr)} {vs : List Expr} {tk tv : DTE} {tr : DTP} (hk : DE X k tk) (hv : DE X v tv) (hr : DPp X pos ks vs tr) : DPp X pos (some k :: ks) (v :: vs) (dpCons tk tv tr) := by
  obtain ⟨t1, p1, r1⟩ := hk.ex
  obtain ⟨t2, p2, r2⟩ := hv.ex
  obtain ⟨t3, p3, r3⟩ := hr.ex
  refine ⟨_, pps_cons p1 p2 p3, fun F H σ S G o Q' h Q kk => ?_⟩
  refine r1 F H σ S G o _ h _ fun F1 H1 v1 d1 G1 e1 g1 q1 h1 => ?_
  refine r2 F1 H1 σ S G1 (o.go e1 g1) _ h1 _ fun F2 H2 v2 d2 G2 e2 g2 q2 h2 => ?_
  refine r3 F2 H2 σ S G2 ((o.go e1 g1).go e2 g2) _ h2 _ fun F3 H3 ps qs G3 e3 g3 q3 h3 => ?_
  exact kk F3 H3 _ _ G3 ((e1.trans e2).trans e3) g3 (.cons ((q1.mono e2.ex).mono e3.ex) (q2.mono e3.ex) q3) h3
def keyed : List (D × D) → Option (List (Key × D))
  | [] => some []
  | (k, v) :: r => match k.key, keyed r with
    | some k, some r => some ((k, v) :: r)
    | _, _ => none
theorem keyed_rep {K : PySem.W.Frag} {F : Hp} : ∀ {ps : List (V × V)} {qs : List (D × D)} {kds : List (Key × D)}, RepP K F ps qs → keyed qs = some kds → ∃ kvs : List (Key × V), ps = kvs.map (fun kv => (kV kv.1, kv.2)) ∧ KR K F kvs kds
  | _, _, _, .nil, h => by cases h; exact ⟨[], rfl, .nil⟩
  | _, _, kds, .cons (c := c) (d := d) (qs := qs) a b t, h => by
    unfold keyed at h
    cases e1 : c.key with
    | none => simp [e1] at h
    | some k =>
      cases e2 : keyed qs with
      | none => simp [e1, e2] at h
      | some r =>
        simp only [e1, e2] at h
        cases h
        obtain ⟨kvs, rfl, kr⟩ := keyed_rep t e2
        have := a.key e1
        subst this
        exact ⟨(k, _) :: kvs, rfl, .cons b kr⟩
def mergeD (kds more : List (Key × D)) : List (Key × D) := more.foldl (fun acc kv => putD acc kv.1 kv.2) kds
theorem KR.merge {K : PySem.W.Frag} {F : Hp} : ∀ {more : List (Key × D)} {mv : List (Key × V)} {kds : List (Key × D)} {kvs : List (Key × V)}, KR K F mv more → KR K F kvs kds → KR K F (mergeK kvs mv) (mergeD kds more)
  | [], mv, kds, kvs, h, r => by
    obtain rfl := h.unnil
    exact r
  | (k, d) :: more, mv, kds, kvs, h, r => by
    obtain ⟨v, mv', rfl, rv, t⟩ := h.uncons
    show KR K F (mergeK (putK kvs k v) mv') (mergeD (putD kds k d) more)
    exact KR.merge t (r.put rv)
def dDisp (tp : DTP) : DTE := fun S G Q => tp S G fun qs G1 => match keyed qs with
  | some kds => kds.length ≤ 15 ∧ Q (.dK (mergeD [] kds)) G1
  | none => False
theorem disp_core {keys : List (Option Expr)} {values : List Expr} {tp : DTP} (h : DPp X pos keys values tp) (hall : keys.all (·.isSome) = true) (hl : keys.length = values.length) (h0 : keys ≠ []) (h15 : keys.length ≤ 15) :
    ∃ t, PE X (.Dict keys values pos) t ∧ ∀ F H σ S G, Ok X.K F H σ S G → ∀ Q' : List (Key × D) → GH → Prop, (tp S G fun qs G1 => match keyed qs with | some kds => kds.length ≤ 15 ∧ Q' (mergeD [] kds) G1 | none => False) → ∀ Q : VK,
      (∀ F' H' G' p kvs kds, H p = none → Go F H G F' H' G' → Gok X.K F' H' G' → F' p = none → G' p = none → KR X.K F' kvs kds → Q' kds G' → H' p = some (.dK []) → Q (.ref p) (upd H' p (.dK kvs))) → t σ H Q := by
  obtain ⟨trs, p1, r⟩ := h.ex
  refine ⟨_, pe_disp p1 hall hl h0 h15, fun F H σ S G o Q' h Q k => ?_⟩
  intro p hp
  have gp : G p = none := o.g.free hp
  have fp : F p = none := o.g.ex.nope hp
  have gr : Gr F H F (upd H p (.dK [])) := Gr.only o.g.ex hp
  refine r F _ σ S G ⟨o.g.grow gr, o.s⟩ _ h _ fun F1 H1 ps qs G1 e1 g1 q1 h1 => ?_
  split at h1
  · rename_i kds ek
    obtain ⟨kvs, rfl, kr⟩ := keyed_rep q1 ek
    have fr := e1.fr p _ upd_same gp
    refine ⟨fr.1, kvs, rfl, by rw [kr.len]; exact h1.1, ?_⟩
    exact k F1 H1 G1 p _ _ hp ((gr.go (G := G)).trans e1) g1 (e1.no p _ upd_same gp fp (fun _ z => nomatch z)) fr.2 (KR.merge kr .nil) h1.2 fr.1
  · exact h1.elim
theorem de_disp {keys : List (Option Expr)} {values : List Expr} {tp : DTP} (h : DPp X pos keys values tp) (hall : keys.all (·.isSome) = true := by rfl) (hl : keys.length = values.length := by rfl) (h0 : keys ≠ [] := by intro z; cases z) (h15 : keys.length ≤ 15 := by decide) : DE X (.Dict keys values pos) (dDisp tp) := by
  obtain ⟨t, p1, r⟩ := disp_core h hall hl h0 h15
  refine ⟨t, p1, fun F H σ S G o Q' h Q k => ?_⟩
  refine r F H σ S G o (fun kds G' => Q' (.dK kds) G') h Q fun F' H' G' p kvs kds hp go g fp gp kr q hd => ?_
  have g2 : Gok X.K (upd F' p (.dK kvs)) (upd H' p (.dK kvs)) G' := by
    refine ⟨g.ex.upds _, fun a w e => ?_, g.one⟩
    have nq : a ≠ p := fun y => by rw [y, gp] at e; cases e
    obtain ⟨f, m⟩ := g.at_ a w e
    refine ⟨by rw [upd_ne nq]; exact f, m.move (Ex.new fp) (fun b u hb hc => ?_) fun c z => z⟩
    have n2 : b ≠ p := fun z => by
      rcases hc with hc | hc
      · exact nq (hc ▸ z)
      · rw [z, gp] at hc; cases hc
    rw [upd_ne n2]; exact hb
  have go2 : Go F H G (upd F' p (.dK kvs)) (upd H' p (.dK kvs)) G' := by
    refine ⟨go.ex.trans (Ex.new fp), fun b u hb gb => ?_, fun b u hb gb fb t => ?_, fun b z => go.st b (upd_none z)⟩
    · have n2 : b ≠ p := fun z => by rw [z, hp] at hb; cases hb
      rw [upd_ne n2]; exact go.fr b u hb gb
    · have n2 : b ≠ p := fun z => by rw [z, hp] at hb; cases hb
      rw [upd_ne n2]; exact go.no b u hb gb fb t
  have kr2 := kr.mono (Ex.new (o := .dK kvs) fp)
  exact k _ _ _ _ G' go2 g2 (.dK upd_same kr2.ks kr2.vs) q
def dDispM (tp : DTP) : DTE := fun S G Q => tp S G fun qs G1 => match keyed qs with
  | some kds => kds.length ≤ 15 ∧ ∀ p, G1 p = none → Q (.rf p) (gput G1 p (.dK (mergeD [] kds)))
  | none => False
theorem de_dispM {keys : List (Option Expr)} {values : List Expr} {tp : DTP} (h : DPp X pos keys values tp) (hall : keys.all (·.isSome) = true := by rfl) (hl : keys.length = values.length := by rfl) (h0 : keys ≠ [] := by intro z; cases z) (h15 : keys.length ≤ 15 := by decide) : DE X (.Dict keys values pos) (dDispM tp) := by
  obtain ⟨t, p1, r⟩ := disp_core h hall hl h0 h15
  refine ⟨t, p1, fun F H σ S G o Q' h Q k => ?_⟩
  refine r F H σ S G o (fun kds G' => ∀ p, G' p = none → Q' (.rf p) (gput G' p (.dK kds))) h Q fun F' H' G' p kvs kds hp go g fp gp kr q hd => ?_
  have g2 : Gok X.K F' (upd H' p (.dK kvs)) (gput G' p (.dK kds)) := by
    refine ⟨g.ex.updR fp, fun a w e => ?_, fun a b k1 k2 k3 n j1 j2 j3 m e1 e2 => ?_⟩
    · by_cases nq : a = p
      · subst nq
        rw [gput_same] at e; cases e
        exact ⟨fp, _, upd_same, kr.ks, kr.vs⟩
      · rw [gput_ne nq] at e
        obtain ⟨f, m⟩ := g.at_ a w e
        refine ⟨f, m.move (Ex.refl F') (fun b u hb hc => ?_) fun c z => ?_⟩
        · have n2 : b ≠ p := fun z => by
            rcases hc with hc | hc
            · exact nq (hc ▸ z)
            · rw [z, gp] at hc; cases hc
          rw [upd_ne n2]; exact hb
        · have n2 : c ≠ p := fun y => by rw [y, gp] at z; cases z
          rw [gput_ne n2]; exact z
    · have ha : a ≠ p := fun y => by rw [y, gput_same] at e1; cases e1
      have hb : b ≠ p := fun y => by rw [y, gput_same] at e2; cases e2
      rw [gput_ne ha] at e1; rw [gput_ne hb] at e2
      exact g.one a b k1 k2 k3 n j1 j2 j3 m e1 e2
  have go2 : Go F H G F' (upd H' p (.dK kvs)) (gput G' p (.dK kds)) := by
    refine ⟨go.ex, fun b u hb gb => ?_, go.no, fun b z => go.st b (upd_none z)⟩
    have n2 : b ≠ p := fun z => by rw [z, hp] at hb; cases hb
    rw [upd_ne n2, gput_ne n2]; exact go.fr b u hb gb
  exact k _ _ _ _ _ go2 g2 (.rf p) (q p gp)
def D.shown (d : D) : Str := d.py.shown
structure Cal (P : Program) (w : World) (K : PySem.W.Frag) (mg : Str → Option Value) (base : Heap) (x : Str) (k : Nat) (ps : List Str) (sp : SpD) : Prop where
  ex : ∃ f fd, FnG P w K mg base CX0 k f fd ps (SpOf K sp) ∧ mg x = some (.ref f) ∧ PySem.W.keepIn K (.ref f) = true ∧ Binds K fd ps []
theorem de_cal {x : Str} {k : Nat} {ps : List Str} {sp : SpD} {p : Pos} {e : Expr} {es : List Expr} {ta : DTA} (c : Cal X.prog X.w X.K X.mg X.base x k ps sp) (hA : X.A.guards = some []) (hr : Room k X.A) (ha : DA X (e :: es) ta) (hg : Gl X x := by rfl) (hdb : (x == ("__debug__" : Str)) = false := by decide)
    (he : starEach (e :: es) X.env = (false, eval e X.env) :: starEach es X.env := by rfl) (hpl : (backTo pos (starEach es X.env)).any (·.1) = false := by rfl) : DE X (.Call (.Name x p) (e :: es) [] pos) (dCall sp ta) := by
  obtain ⟨f, fd, Fn, hm, hk, hb⟩ := c.ex
  exact de_call Fn hA hr hg hm hk hb ha hdb he hpl
end
structure Def (K : PySem.W.Frag) (mg : Str → Option Value) (x : Str) (st : Stmt) : Prop where
  ex : ∃ f fd, Fun K x x st f fd ∧ mg x = some (.ref f)
theorem cal_mk {P : Program} {w : World} {K : PySem.W.Frag} {mg : Str → Option Value} {base : Heap} {x : Str} {st : Stmt} {N ps : List Str} {k : Nat} {sp : SpD} (d : Def K mg x st) (sc : FnScope N ps (defScope st)) (len : ∀ ds G Q, sp ds G Q → ds.length = ps.length)
    (bi : ∀ (kV doc pm : Value) (an : Option Addr) (cdv ct : Value) (us : List Value), us.length = ps.length → bindArgs (PySem.W.fnOf x x (defArgs st) (defBody st) (defScope st) .none kV doc pm an cdv ct) ⟨us, []⟩ = pure (ps.zip us))
    (hb : ∀ (f : Addr) (cdv : Value) (A : Around) (outer : List Env) (s : Shared) (H : Hp) (E : XK), A.guards = some [] → Room k (A.deeper (envOfC x (defScope st) s.heap.objs.size f cdv)) →
      ∃ t', DPs (cxOf CX0 P w K mg base N x (defScope st) f cdv A outer s H E).nox (defBody st) t' ∧ ∀ ds G Q, sp ds G Q → t' (fin Q) (dstart N ds) G) : Cal P w K mg base x (k + 1) ps sp := by
  obtain ⟨f, fd, Fu, hm⟩ := d.ex
  exact ⟨f, fd, fn_mk Fu sc len (hb f), hm, Fu.kp, Fu.binds bi⟩
end DL
end
section
set_option Elab.async false
set_option linter.all false
set_option maxRecDepth 100000
namespace DL
open PySem PySem.Spec PyProof.Rows L2
/-- the loop of a for over what is known -/
def ForB (ds : List D) (gd : GH → Prop) (g : DTG) (tb : DTS) (D' : DEnds) (S : DS) (G1 : GH) : Prop := ∃ W : Nat → DS → GH → Prop, W 0 S G1 ∧ (∀ i S G, W i S G → gd G) ∧
  (∀ i S G d, W i S G → ds[i]? = some d → g d S G fun S2 G2 => tb { D' with nx := W (i + 1), ct := W (i + 1), bk := D'.nx } S2 G2) ∧ (∀ S G, W ds.length S G → D'.nx S G)
def WhB (c : DTT) (tb : DTS) (D' : DEnds) (S : DS) (G : GH) : Prop := ∃ W : Nat → DS → GH → Prop, (∃ m, W m S G) ∧ ∀ m S G, W m S G →
  c S G fun b G1 => if b = true then tb { D' with nx := fun S' G' => ∃ m', m' < m ∧ W m' S' G', ct := fun S' G' => ∃ m', m' < m ∧ W m' S' G', bk := D'.nx } S G1 else D'.nx S G1
def LcB (ds : List D) (gd : GH → Prop) (p : Pat) (tt : DTT) (te : DTE) (vs : List Nat) (S : DS) (G1 : GH) (Q : DQ) : Prop := ds.length ≤ sizeLine ∧ ∃ W : Nat → List D → GH → Prop, W 0 [] G1 ∧ (∀ i acc G, W i acc G → gd G) ∧
  (∀ i acc G d, W i acc G → ds[i]? = some d → ∃ S2, p.put d (dwipe S vs) = some S2 ∧ tt S2 G fun b G2 => if b = true then te S2 G2 fun y G3 => W (i + 1) (acc ++ [y]) G3 else W (i + 1) acc G2) ∧
  ∀ acc G, W ds.length acc G → Q (.lst acc) G
theorem x_var (i : Nat) (S : DS) (G : GH) (Q : DQ) : dVar i S G Q = (match S[i]? with | some (some d) => Q d G | _ => False) := rfl
theorem x_C (d : D) (S : DS) (G : GH) (Q : DQ) : dC d S G Q = Q d G := rfl
theorem x_nil (S : DS) (G : GH) (Q : List D → GH → Prop) : dNil S G Q = Q [] G := rfl
theorem x_cons (ta : DTE) (tr : DTA) (S : DS) (G : GH) (Q : List D → GH → Prop) : dCons ta tr S G Q = (ta S G fun d G1 => tr S G1 fun ds G2 => Q (d :: ds) G2) := rfl
theorem x_tup (ta : DTA) (S : DS) (G : GH) (Q : DQ) : dTup ta S G Q = (ta S G fun ds G1 => ds.length ≤ sizeLine ∧ Q (.tup ds) G1) := rfl
theorem x_lst (ta : DTA) (S : DS) (G : GH) (Q : DQ) : dLst ta S G Q = (ta S G fun ds G1 => ds.length ≤ sizeLine ∧ Q (.lst ds) G1) := rfl
theorem x_lstM (ta : DTA) (S : DS) (G : GH) (Q : DQ) : dLstM ta S G Q = (ta S G fun ds G1 => ds.length ≤ sizeLine ∧ ∀ p, G1 p = none → Q (.rf p) (gput G1 p (.lst ds))) := rfl
theorem x_op (r : DR2) (ta tb : DTE) (S : DS) (G : GH) (Q : DQ) : dOp r ta tb S G Q = (ta S G fun x G1 => tb S G1 fun y G2 => r x y G2 Q) := rfl
theorem x_un (r : DR1) (ta : DTE) (S : DS) (G : GH) (Q : DQ) : dUn r ta S G Q = (ta S G fun x G1 => r x G1 Q) := rfl
theorem x_test (ta : DTE) (S : DS) (G : GH) (Q : Bool → GH → Prop) : dTest ta S G Q = (ta S G fun d G1 => match d with | .bl b => Q b G1 | _ => False) := rfl
theorem x_not (t : DTT) (S : DS) (G : GH) (Q : Bool → GH → Prop) : dNot t S G Q = (t S G fun b G1 => Q (!b) G1) := rfl
theorem x_and (t u : DTT) (S : DS) (G : GH) (Q : Bool → GH → Prop) : dAnd t u S G Q = (t S G fun b G1 => if b = true then u S G1 Q else Q false G1) := rfl
theorem x_or (t u : DTT) (S : DS) (G : GH) (Q : Bool → GH → Prop) : dOr t u S G Q = (t S G fun b G1 => if b = true then Q true G1 else u S G1 Q) := rfl
theorem x_if (t : DTT) (ta tb : DTE) (S : DS) (G : GH) (Q : DQ) : dIf t ta tb S G Q = (t S G fun b G1 => if b = true then ta S G1 Q else tb S G1 Q) := rfl
theorem x_andV (ta tb : DTE) (S : DS) (G : GH) (Q : DQ) : dAndV ta tb S G Q = (ta S G fun d G1 => match d with | .bl b => if b = true then tb S G1 Q else Q (.bl false) G1 | _ => False) := rfl
theorem x_orV (ta tb : DTE) (S : DS) (G : GH) (Q : DQ) : dOrV ta tb S G Q = (ta S G fun d G1 => match d with | .bl b => if b = true then Q (.bl true) G1 else tb S G1 Q | _ => False) := rfl
theorem x_notV (ta : DTE) (S : DS) (G : GH) (Q : DQ) : dNotV ta S G Q = (ta S G fun d G1 => match d with | .bl b => Q (.bl (!b)) G1 | _ => False) := rfl
theorem x_gname (i : Nat) (d : D) (S : DS) (G : GH) (Q : DS → GH → Prop) : dgName i d S G Q = Q (S.set i (some d)) G := rfl
theorem x_gkup (n : Nat) (u : DTGs) (ds : List D) (S : DS) (G : GH) (Q : DS → GH → Prop) : dgTup n u (.kup ds) S G Q = (ds.length = n ∧ u ds S G Q) := rfl
theorem x_gtup (n : Nat) (u : DTGs) (ds : List D) (S : DS) (G : GH) (Q : DS → GH → Prop) : dgTup n u (.tup ds) S G Q = (ds.length = n ∧ u ds S G Q) := rfl
theorem x_gnil (S : DS) (G : GH) (Q : DS → GH → Prop) : dgNil [] S G Q = Q S G := rfl
theorem x_gcons (t : DTG) (u : DTGs) (d : D) (ds : List D) (S : DS) (G : GH) (Q : DS → GH → Prop) : dgCons t u (d :: ds) S G Q = (t d S G fun S1 G1 => u ds S1 G1 Q) := rfl
theorem x_next (D' : DEnds) (S : DS) (G : GH) : dNext D' S G = D'.nx S G := rfl
theorem x_seq (t u : DTS) (D' : DEnds) (S : DS) (G : GH) : dSeq t u D' S G = t { D' with nx := u D' } S G := rfl
theorem x_asg (te : DTE) (g : DTG) (D' : DEnds) (S : DS) (G : GH) : dAsg te g D' S G = (te S G fun d G1 => g d S G1 D'.nx) := rfl
theorem x_drop (te : DTE) (D' : DEnds) (S : DS) (G : GH) : dDrop te D' S G = (te S G fun _ G1 => D'.nx S G1) := rfl
theorem x_ret (te : DTE) (D' : DEnds) (S : DS) (G : GH) : dRet te D' S G = te S G D'.rt := rfl
theorem x_retN (D' : DEnds) (S : DS) (G : GH) : dRetN D' S G = D'.rt .non G := rfl
theorem x_ifS (c : DTT) (t u : DTS) (D' : DEnds) (S : DS) (G : GH) : dIfS c t u D' S G = (c S G fun b G1 => if b = true then t D' S G1 else u D' S G1) := rfl
theorem x_never (D' : DEnds) (S : DS) (G : GH) : dNever D' S G = False := rfl
theorem x_break (D' : DEnds) (S : DS) (G : GH) : dBreak D' S G = D'.bk S G := rfl
theorem x_cont (D' : DEnds) (S : DS) (G : GH) : dCont D' S G = D'.ct S G := rfl
theorem x_call (sp : SpD) (ta : DTA) (S : DS) (G : GH) (Q : DQ) : dCall sp ta S G Q = (ta S G fun ds G1 => sp ds G1 Q) := rfl
theorem x_cb (r : List D → GH → DQ → Prop) (ta : DTA) (S : DS) (G : GH) (Q : DQ) : dCB r ta S G Q = (ta S G fun ds G1 => r ds G1 Q) := rfl
theorem x_bm (T : String) (r : D → List D → GH → DQ → Prop) (to : DTE) (ta : DTA) (S : DS) (G : GH) (Q : DQ) : dBM T r to ta S G Q = (to S G fun x G1 => D.hasTy T (x.cur G1) = true ∧ ta S G1 fun ds G2 => r x ds G2 Q) := rfl
theorem x_bm0 (T : String) (r : D → List D → GH → DQ → Prop) (to : DTE) (S : DS) (G : GH) (Q : DQ) : dBM0 T r to S G Q = (to S G fun x G1 => D.hasTy T (x.cur G1) = true ∧ r x [] G1 Q) := rfl
theorem x_nopart (S : DS) (G : GH) (Q : Option Int → GH → Prop) : dNoPart S G Q = Q none G := rfl
theorem x_part (ta : DTE) (S : DS) (G : GH) (Q : Option Int → GH → Prop) : dPart ta S G Q = (ta S G fun d G1 => match d with | .int i => Q (some i) G1 | _ => False) := rfl
theorem x_slice (ta : DTE) (tl th : DTO) (S : DS) (G : GH) (Q : DQ) : dSlice ta tl th S G Q = (ta S G fun x G1 => tl S G1 fun lo G2 => th S G2 fun hi G3 => rSlice x lo hi G3 Q) := rfl
theorem x_newK (S : DS) (G : GH) (Q : DQ) : dNewK S G Q = (∀ p, G p = none → Q (.rf p) (gput G p (.dK []))) := rfl
theorem x_newT (S : DS) (G : GH) (Q : DQ) : dNewT S G Q = (∀ p, G p = none → Q (.rf p) (gput G p (.dT []))) := rfl
theorem x_yes (S : DS) (G : GH) (Q : Bool → GH → Prop) : dYes S G Q = Q true G := rfl
theorem x_pnil (S : DS) (G : GH) (Q : List (D × D) → GH → Prop) : dpNil S G Q = Q [] G := rfl
theorem x_pcons (tk tv : DTE) (tr : DTP) (S : DS) (G : GH) (Q : List (D × D) → GH → Prop) : dpCons tk tv tr S G Q = (tk S G fun k G1 => tv S G1 fun v G2 => tr S G2 fun qs G3 => Q ((k, v) :: qs) G3) := rfl
theorem x_dCold (ta : DTE) (S : DS) (G : GH) (Q : DQ) : dCold ta S G Q = (ta S G fun d G1 => match d with
  | .rf a => (match G1 a with
    | some o => (match o.cold with
      | some d => Q d (gdel G1 a)
      | none => False)
    | none => False)
  | d => Q d G1) := rfl
theorem x_dFld (C : Addr) (f : Str) (ta : DTE) (S : DS) (G : GH) (Q : DQ) : dFld C f ta S G Q = (ta S G fun d G1 => match d.cur G1 with
  | .obj C' fs => C' = C ∧ (match fs.lookup f with
    | some v => Q v G1
    | none => False)
  | _ => False) := rfl
theorem x_dSetFld (C : Addr) (f : Str) (ta tv : DTE) (D' : DEnds) (S : DS) (G : GH) : dSetFld C f ta tv D' S G = (tv S G fun y G1 => ta S G1 fun x G2 => match x with
  | .rf a => (match G2 a with
    | some (.ins C' fs) => C' = C ∧ fs.length < 1000 ∧ D'.nx S (gput G2 a (.ins C (putFD f y fs)))
    | _ => False)
  | _ => False) := rfl
theorem x_dSetSub (to ti : DTE) (v : D) (S : DS) (G : GH) (Q : DS → GH → Prop) : dSetSub to ti v S G Q = (to S G fun x G1 => ti S G1 fun i G2 => match x with
  | .rf a => (match G2 a with
    | some (.lst xs) => (match i with
      | .int j => (match ixN xs.length j with
        | some n => Q S (gput G2 a (.lst (xs.set n v)))
        | none => False)
      | _ => False)
    | some (.dK kds) => (match i.key with
      | some k => kds.length < sizeLine ∧ Q S (gput G2 a (.dK (putD kds k v)))
      | none => False)
    | some (.dT kds) => (match i with
      | .tup ds => (match D.keys ds with
        | some k => kds.length < sizeLine ∧ Q S (gput G2 a (.dT (putD kds k v)))
        | none => False)
      | _ => False)
    | _ => False)
  | _ => False) := rfl
theorem x_dMeth (C : Addr) (m : Str) (sp : SpD) (ta : DTE) (tr : DTA) (S : DS) (G : GH) (Q : DQ) : dMeth C m sp ta tr S G Q = (ta S G fun d G1 => match d.cur G1 with
  | .obj C' fs => C' = C ∧ fs.lookup m = none ∧ tr S G1 fun ds G2 => sp (d :: ds) G2 Q
  | _ => False) := rfl
theorem x_dMake (C : Addr) (sp : SpD) (tr : DTA) (S : DS) (G : GH) (Q : DQ) : dMake C sp tr S G Q = (tr S G fun ds G1 => ∀ y, G1 y = none → sp (.rf y :: ds) (gput G1 y (.ins C [])) fun d G2 => match d with
  | .non => Q (.rf y) G2
  | _ => False) := rfl
theorem x_diTup (te : DTE) (S : DS) (G : GH) (R : List D → (GH → Prop) → GH → Prop) : diTup te S G R = (te S G fun d G1 => match d with
  | .tup ds => R ds dNoGuard G1
  | .kup ds => R ds dNoGuard G1
  | _ => False) := rfl
theorem x_diList (te : DTE) (S : DS) (G : GH) (R : List D → (GH → Prop) → GH → Prop) : diList te S G R = (te S G fun d G1 => match d with
  | .lst ds => R ds dNoGuard G1
  | .rf a => (match G1 a with
    | some (.lst ds) => R ds (fun G => G a = some (.lst ds)) G1
    | _ => False)
  | _ => False) := rfl
theorem x_diStr (te : DTE) (S : DS) (G : GH) (R : List D → (GH → Prop) → GH → Prop) : diStr te S G R = (te S G fun d G1 => match d with
  | .str x => R (signs x) dNoGuard G1
  | _ => False) := rfl
theorem x_diRange1 (ta : DTA) (S : DS) (G : GH) (R : List D → (GH → Prop) → GH → Prop) : diRange1 ta S G R = (ta S G fun ds G1 => match ds with
  | [.int n] => -(2 ^ 62) ≤ n ∧ n < 2 ^ 62 ∧ R ((List.range n.toNat).map fun i => .int (i : Nat)) dNoGuard G1
  | _ => False) := rfl
theorem x_diRange2 (ta : DTA) (S : DS) (G : GH) (R : List D → (GH → Prop) → GH → Prop) : diRange2 ta S G R = (ta S G fun ds G1 => match ds with
  | [.int m, .int n] => (-(2 ^ 62) ≤ m ∧ m < 2 ^ 62 ∧ -(2 ^ 62) ≤ n ∧ n < 2 ^ 62) ∧ R ((List.range (n - m).toNat).map fun i => .int (m + (i : Nat))) dNoGuard G1
  | _ => False) := rfl
theorem x_dLcM (wi : DTI) (p : Pat) (tt : DTT) (te : DTE) (vs : List Nat) (S : DS) (G : GH) (Q : DQ) : dLcM wi p tt te vs S G Q = (dLc wi p tt te vs S G fun d G' => match d with
  | .lst acc => ∀ a, G' a = none → Q (.rf a) (gput G' a (.lst acc))
  | _ => False) := rfl
theorem x_dGet1 (td ty : DTE) (S : DS) (G : GH) (Q : DQ) : dGet1 td ty S G Q = (td S G fun x G1 => D.hasTy "dict" (x.cur G1) = true ∧ ty S G1 fun y G2 => match (x.cur G2).look y with
  | some o => Q (o.getD .non) G2
  | none => False) := rfl
theorem x_dGet2 (td ty tx : DTE) (S : DS) (G : GH) (Q : DQ) : dGet2 td ty tx S G Q = (td S G fun x G1 => D.hasTy "dict" (x.cur G1) = true ∧ ty S G1 fun y G2 => tx S G2 fun z G3 => match (x.cur G3).look y with
  | some o => Q (o.getD z) G3
  | none => False) := rfl
theorem x_diEnumT (ta : DTA) (S : DS) (G : GH) (R : List D → (GH → Prop) → GH → Prop) : diEnumT ta S G R = (ta S G fun ds G1 => match ds with
  | [.tup xs] => R (xs.mapIdx fun i x => .tup [.int (i : Nat), x]) dNoGuard G1
  | [.kup xs] => R (xs.mapIdx fun i x => .tup [.int (i : Nat), x]) dNoGuard G1
  | _ => False) := rfl
theorem x_diZipS (ta : DTA) (S : DS) (G : GH) (R : List D → (GH → Prop) → GH → Prop) : diZipS ta S G R = (ta S G fun ds G1 => match ds with
  | [.str x, .str y] => R (List.zipWith (fun a b => .tup [.str (sgn a), .str (sgn b)]) x.cps.toList y.cps.toList) dNoGuard G1
  | _ => False) := rfl
theorem x_diZipT (ta : DTA) (S : DS) (G : GH) (R : List D → (GH → Prop) → GH → Prop) : diZipT ta S G R = (ta S G fun ds G1 => match ds with
  | [.tup xs, .tup ys] => R (List.zipWith (fun a b => .tup [a, b]) xs ys) dNoGuard G1
  | _ => False) := rfl
theorem x_dPar (i j : Nat) (ta : DTA) (D' : DEnds) (S : DS) (G : GH) : dPar i j ta D' S G = (ta S G fun ds G1 => match ds with
  | [x, y] => D'.nx ((S.set i (some x)).set j (some y)) G1
  | _ => False) := rfl
theorem x_dPar3 (i j l : Nat) (ta : DTA) (D' : DEnds) (S : DS) (G : GH) : dPar3 i j l ta D' S G = (ta S G fun ds G1 => match ds with
  | [x, y, z] => D'.nx (((S.set i (some x)).set j (some y)).set l (some z)) G1
  | _ => False) := rfl
theorem x_dAug (i : Nat) (te : DTE) (f : Int → Int → Int) (D' : DEnds) (S : DS) (G : GH) : dAug i te f D' S G = (match S[i]? with
  | some (some (.int a)) => te S G fun d G1 => (match d with
    | .int b => D'.nx (S.set i (some (.int (f a b)))) G1
    | _ => False)
  | _ => False) := rfl
theorem x_dRevL (te : DTE) (S : DS) (G : GH) (Q : DQ) : dRevL te S G Q = (te S G fun d G1 => match d.cur G1 with
  | .lst xs => Q (.lst xs.reverse) G1
  | _ => False) := rfl
theorem x_dRevLM (te : DTE) (S : DS) (G : GH) (Q : DQ) : dRevLM te S G Q = (te S G fun d G1 => match d.cur G1 with
  | .lst xs => ∀ p, G1 p = none → Q (.rf p) (gput G1 p (.lst xs.reverse))
  | _ => False) := rfl
theorem x_dDisp (tp : DTP) (S : DS) (G : GH) (Q : DQ) : dDisp tp S G Q = (tp S G fun qs G1 => match keyed qs with
  | some kds => kds.length ≤ 15 ∧ Q (.dK (mergeD [] kds)) G1
  | none => False) := rfl
theorem x_dDispM (tp : DTP) (S : DS) (G : GH) (Q : DQ) : dDispM tp S G Q = (tp S G fun qs G1 => match keyed qs with
  | some kds => kds.length ≤ 15 ∧ ∀ p, G1 p = none → Q (.rf p) (gput G1 p (.dK (mergeD [] kds)))
  | none => False) := rfl
theorem x_dChain (r r' : DR2) (ta tb tc : DTE) (S : DS) (G : GH) (Q : DQ) : dChain r r' ta tb tc S G Q = (ta S G fun x G1 => tb S G1 fun y G2 => r x y G2 fun z G3 => match z with
  | .bl k => if k = true then tc S G3 fun w G4 => r' y w G4 Q else Q (.bl false) G3
  | _ => False) := rfl
theorem x_for (wi : DTI) (g : DTG) (tb : DTS) (D' : DEnds) (S : DS) (G : GH) : dFor wi g tb D' S G = (wi S G fun ds gd G1 => ForB ds gd g tb D' S G1) := rfl
theorem x_while (c : DTT) (tb : DTS) (D' : DEnds) (S : DS) (G : GH) : dWhile c tb D' S G = WhB c tb D' S G := rfl
theorem x_lc (wi : DTI) (p : Pat) (tt : DTT) (te : DTE) (vs : List Nat) (S : DS) (G : GH) (Q : DQ) : dLc wi p tt te vs S G Q = (wi S G fun ds gd G1 => LcB ds gd p tt te vs S G1 Q) := rfl
theorem x_curK (G : GH) (a : Addr) : D.cur G (.rf a) = (match G a with
    | some (.lst xs) => .lst xs
    | some (.dK kds) => .dK kds
    | some (.dT kds) => .dT kds
    | some (.ins C kds) => .obj C kds
    | _ => .rf a) := rfl
theorem x_cur_non (G : GH)  : D.cur G (.non ) = .non  := rfl
theorem x_cur_bl (G : GH) (b : Bool) : D.cur G (.bl b) = .bl b := rfl
theorem x_cur_int (G : GH) (i : Int) : D.cur G (.int i) = .int i := rfl
theorem x_cur_str (G : GH) (x : Str) : D.cur G (.str x) = .str x := rfl
theorem x_ty_str (T : String) (x : Str) : D.hasTy T (.str x) = (T == "str") := rfl
theorem x_cur_ty (G : GH) (n : String) : D.cur G (.ty n) = .ty n := rfl
theorem x_cur_tup (G : GH) (xs : List D) : D.cur G (.tup xs) = .tup xs := rfl
theorem x_cur_lst (G : GH) (xs : List D) : D.cur G (.lst xs) = .lst xs := rfl
theorem x_ty_lst (T : String) (xs : List D) : D.hasTy T (.lst xs) = (T == "list") := rfl
theorem x_cur_dK (G : GH) (kvs : List (Key × D)) : D.cur G (.dK kvs) = .dK kvs := rfl
theorem x_ty_dK (T : String) (kvs : List (Key × D)) : D.hasTy T (.dK kvs) = (T == "dict") := rfl
theorem x_cur_dT (G : GH) (kvs : List (List Key × D)) : D.cur G (.dT kvs) = .dT kvs := rfl
theorem x_ty_dT (T : String) (kvs : List (List Key × D)) : D.hasTy T (.dT kvs) = (T == "dict") := rfl
theorem x_cur_obj (G : GH) (C : Addr) (fs : List (Str × D)) : D.cur G (.obj C fs) = .obj C fs := rfl
theorem x_cur_scr (G : GH) (ns : List Int) : D.cur G (.scr ns) = .scr ns := rfl
theorem x_cur_kup (G : GH) (xs : List D) : D.cur G (.kup xs) = .kup xs := rfl
theorem x_item (x y : D) (G : GH) (Q : DQ) : rItem x y G Q = (match D.item (x.cur G) y with | some d => Q d G | none => False) := rfl
theorem x_int (C : Int → Int → Prop) (f : Int → Int → Int) (i j : Int) (G : GH) (Q : DQ) : rIntD C f (.int i) (.int j) G Q = (C i j ∧ Q (.int (f i j)) G) := rfl
theorem x_neg (i : Int) (G : GH) (Q : DQ) : rNegD (.int i) G Q = Q (.int (-i)) G := rfl
theorem dxs : (((((((∀ (i : Nat) (S : DS) (G : GH) (Q : DQ), dVar i S G Q = (match S[i]? with | some (some d) => Q d G | _ => False)) ∧
 (∀ (d : D) (S : DS) (G : GH) (Q : DQ), dC d S G Q = Q d G)) ∧
 ((∀ (S : DS) (G : GH) (Q : List D → GH → Prop), dNil S G Q = Q [] G) ∧
 ((∀ (ta : DTE) (tr : DTA) (S : DS) (G : GH) (Q : List D → GH → Prop), dCons ta tr S G Q = (ta S G fun d G1 => tr S G1 fun ds G2 => Q (d :: ds) G2)) ∧
 (∀ (ta : DTA) (S : DS) (G : GH) (Q : DQ), dTup ta S G Q = (ta S G fun ds G1 => ds.length ≤ sizeLine ∧ Q (.tup ds) G1))))) ∧
 (((∀ (ta : DTA) (S : DS) (G : GH) (Q : DQ), dLst ta S G Q = (ta S G fun ds G1 => ds.length ≤ sizeLine ∧ Q (.lst ds) G1)) ∧
 ((∀ (ta : DTA) (S : DS) (G : GH) (Q : DQ), dLstM ta S G Q = (ta S G fun ds G1 => ds.length ≤ sizeLine ∧ ∀ p, G1 p = none → Q (.rf p) (gput G1 p (.lst ds)))) ∧
 (∀ (r : DR2) (ta tb : DTE) (S : DS) (G : GH) (Q : DQ), dOp r ta tb S G Q = (ta S G fun x G1 => tb S G1 fun y G2 => r x y G2 Q)))) ∧
 ((∀ (r : DR1) (ta : DTE) (S : DS) (G : GH) (Q : DQ), dUn r ta S G Q = (ta S G fun x G1 => r x G1 Q)) ∧
 ((∀ (ta : DTE) (S : DS) (G : GH) (Q : Bool → GH → Prop), dTest ta S G Q = (ta S G fun d G1 => match d with | .bl b => Q b G1 | _ => False)) ∧
 (∀ (t : DTT) (S : DS) (G : GH) (Q : Bool → GH → Prop), dNot t S G Q = (t S G fun b G1 => Q (!b) G1)))))) ∧
 ((((∀ (t u : DTT) (S : DS) (G : GH) (Q : Bool → GH → Prop), dAnd t u S G Q = (t S G fun b G1 => if b = true then u S G1 Q else Q false G1)) ∧
 ((∀ (t u : DTT) (S : DS) (G : GH) (Q : Bool → GH → Prop), dOr t u S G Q = (t S G fun b G1 => if b = true then Q true G1 else u S G1 Q)) ∧
 (∀ (t : DTT) (ta tb : DTE) (S : DS) (G : GH) (Q : DQ), dIf t ta tb S G Q = (t S G fun b G1 => if b = true then ta S G1 Q else tb S G1 Q)))) ∧
 ((∀ (ta tb : DTE) (S : DS) (G : GH) (Q : DQ), dAndV ta tb S G Q = (ta S G fun d G1 => match d with | .bl b => if b = true then tb S G1 Q else Q (.bl false) G1 | _ => False)) ∧
 ((∀ (ta tb : DTE) (S : DS) (G : GH) (Q : DQ), dOrV ta tb S G Q = (ta S G fun d G1 => match d with | .bl b => if b = true then Q (.bl true) G1 else tb S G1 Q | _ => False)) ∧
 (∀ (ta : DTE) (S : DS) (G : GH) (Q : DQ), dNotV ta S G Q = (ta S G fun d G1 => match d with | .bl b => Q (.bl (!b)) G1 | _ => False))))) ∧
 (((∀ (i : Nat) (d : D) (S : DS) (G : GH) (Q : DS → GH → Prop), dgName i d S G Q = Q (S.set i (some d)) G) ∧
 ((∀ (n : Nat) (u : DTGs) (ds : List D) (S : DS) (G : GH) (Q : DS → GH → Prop), dgTup n u (.kup ds) S G Q = (ds.length = n ∧ u ds S G Q)) ∧
 (∀ (n : Nat) (u : DTGs) (ds : List D) (S : DS) (G : GH) (Q : DS → GH → Prop), dgTup n u (.tup ds) S G Q = (ds.length = n ∧ u ds S G Q)))) ∧
 ((∀ (S : DS) (G : GH) (Q : DS → GH → Prop), dgNil [] S G Q = Q S G) ∧
 ((∀ (t : DTG) (u : DTGs) (d : D) (ds : List D) (S : DS) (G : GH) (Q : DS → GH → Prop), dgCons t u (d :: ds) S G Q = (t d S G fun S1 G1 => u ds S1 G1 Q)) ∧
 (∀ (D' : DEnds) (S : DS) (G : GH), dNext D' S G = D'.nx S G)))))) ∧
 (((((∀ (t u : DTS) (D' : DEnds) (S : DS) (G : GH), dSeq t u D' S G = t { D' with nx := u D' } S G) ∧
 (∀ (te : DTE) (g : DTG) (D' : DEnds) (S : DS) (G : GH), dAsg te g D' S G = (te S G fun d G1 => g d S G1 D'.nx))) ∧
 ((∀ (te : DTE) (D' : DEnds) (S : DS) (G : GH), dDrop te D' S G = (te S G fun _ G1 => D'.nx S G1)) ∧
 ((∀ (te : DTE) (D' : DEnds) (S : DS) (G : GH), dRet te D' S G = te S G D'.rt) ∧
 (∀ (D' : DEnds) (S : DS) (G : GH), dRetN D' S G = D'.rt .non G)))) ∧
 (((∀ (c : DTT) (t u : DTS) (D' : DEnds) (S : DS) (G : GH), dIfS c t u D' S G = (c S G fun b G1 => if b = true then t D' S G1 else u D' S G1)) ∧
 ((∀ (D' : DEnds) (S : DS) (G : GH), dNever D' S G = False) ∧
 (∀ (D' : DEnds) (S : DS) (G : GH), dBreak D' S G = D'.bk S G))) ∧
 ((∀ (D' : DEnds) (S : DS) (G : GH), dCont D' S G = D'.ct S G) ∧
 ((∀ (sp : SpD) (ta : DTA) (S : DS) (G : GH) (Q : DQ), dCall sp ta S G Q = (ta S G fun ds G1 => sp ds G1 Q)) ∧
 (∀ (r : List D → GH → DQ → Prop) (ta : DTA) (S : DS) (G : GH) (Q : DQ), dCB r ta S G Q = (ta S G fun ds G1 => r ds G1 Q)))))) ∧
 ((((∀ (T : String) (r : D → List D → GH → DQ → Prop) (to : DTE) (ta : DTA) (S : DS) (G : GH) (Q : DQ), dBM T r to ta S G Q = (to S G fun x G1 => D.hasTy T (x.cur G1) = true ∧ ta S G1 fun ds G2 => r x ds G2 Q)) ∧
 ((∀ (T : String) (r : D → List D → GH → DQ → Prop) (to : DTE) (S : DS) (G : GH) (Q : DQ), dBM0 T r to S G Q = (to S G fun x G1 => D.hasTy T (x.cur G1) = true ∧ r x [] G1 Q)) ∧
 (∀ (S : DS) (G : GH) (Q : Option Int → GH → Prop), dNoPart S G Q = Q none G))) ∧
 ((∀ (ta : DTE) (S : DS) (G : GH) (Q : Option Int → GH → Prop), dPart ta S G Q = (ta S G fun d G1 => match d with | .int i => Q (some i) G1 | _ => False)) ∧
 ((∀ (ta : DTE) (tl th : DTO) (S : DS) (G : GH) (Q : DQ), dSlice ta tl th S G Q = (ta S G fun x G1 => tl S G1 fun lo G2 => th S G2 fun hi G3 => rSlice x lo hi G3 Q)) ∧
 (∀ (S : DS) (G : GH) (Q : DQ), dNewK S G Q = (∀ p, G p = none → Q (.rf p) (gput G p (.dK []))))))) ∧
 (((∀ (S : DS) (G : GH) (Q : DQ), dNewT S G Q = (∀ p, G p = none → Q (.rf p) (gput G p (.dT [])))) ∧
 ((∀ (S : DS) (G : GH) (Q : Bool → GH → Prop), dYes S G Q = Q true G) ∧
 (∀ (S : DS) (G : GH) (Q : List (D × D) → GH → Prop), dpNil S G Q = Q [] G))) ∧
 ((∀ (tk tv : DTE) (tr : DTP) (S : DS) (G : GH) (Q : List (D × D) → GH → Prop), dpCons tk tv tr S G Q = (tk S G fun k G1 => tv S G1 fun v G2 => tr S G2 fun qs G3 => Q ((k, v) :: qs) G3)) ∧
 ((∀ (ta : DTE) (S : DS) (G : GH) (Q : DQ), dCold ta S G Q = (ta S G fun d G1 => match d with
  | .rf a => (match G1 a with
    | some o => (match o.cold with
      | some d => Q d (gdel G1 a)
      | none => False)
    | none => False)
  | d => Q d G1)) ∧
 (∀ (C : Addr) (f : Str) (ta : DTE) (S : DS) (G : GH) (Q : DQ), dFld C f ta S G Q = (ta S G fun d G1 => match d.cur G1 with
  | .obj C' fs => C' = C ∧ (match fs.lookup f with
    | some v => Q v G1
    | none => False)
  | _ => False)))))))) ∧
 ((((((∀ (C : Addr) (f : Str) (ta tv : DTE) (D' : DEnds) (S : DS) (G : GH), dSetFld C f ta tv D' S G = (tv S G fun y G1 => ta S G1 fun x G2 => match x with
  | .rf a => (match G2 a with
    | some (.ins C' fs) => C' = C ∧ fs.length < 1000 ∧ D'.nx S (gput G2 a (.ins C (putFD f y fs)))
    | _ => False)
  | _ => False)) ∧
 (∀ (to ti : DTE) (v : D) (S : DS) (G : GH) (Q : DS → GH → Prop), dSetSub to ti v S G Q = (to S G fun x G1 => ti S G1 fun i G2 => match x with
  | .rf a => (match G2 a with
    | some (.lst xs) => (match i with
      | .int j => (match ixN xs.length j with
        | some n => Q S (gput G2 a (.lst (xs.set n v)))
        | none => False)
      | _ => False)
    | some (.dK kds) => (match i.key with
      | some k => kds.length < sizeLine ∧ Q S (gput G2 a (.dK (putD kds k v)))
      | none => False)
    | some (.dT kds) => (match i with
      | .tup ds => (match D.keys ds with
        | some k => kds.length < sizeLine ∧ Q S (gput G2 a (.dT (putD kds k v)))
        | none => False)
      | _ => False)
    | _ => False)
  | _ => False))) ∧
 ((∀ (C : Addr) (m : Str) (sp : SpD) (ta : DTE) (tr : DTA) (S : DS) (G : GH) (Q : DQ), dMeth C m sp ta tr S G Q = (ta S G fun d G1 => match d.cur G1 with
  | .obj C' fs => C' = C ∧ fs.lookup m = none ∧ tr S G1 fun ds G2 => sp (d :: ds) G2 Q
  | _ => False)) ∧
 ((∀ (C : Addr) (sp : SpD) (tr : DTA) (S : DS) (G : GH) (Q : DQ), dMake C sp tr S G Q = (tr S G fun ds G1 => ∀ y, G1 y = none → sp (.rf y :: ds) (gput G1 y (.ins C [])) fun d G2 => match d with
  | .non => Q (.rf y) G2
  | _ => False)) ∧
 (∀ (te : DTE) (S : DS) (G : GH) (R : List D → (GH → Prop) → GH → Prop), diTup te S G R = (te S G fun d G1 => match d with
  | .tup ds => R ds dNoGuard G1
  | .kup ds => R ds dNoGuard G1
  | _ => False))))) ∧
 (((∀ (te : DTE) (S : DS) (G : GH) (R : List D → (GH → Prop) → GH → Prop), diList te S G R = (te S G fun d G1 => match d with
  | .lst ds => R ds dNoGuard G1
  | .rf a => (match G1 a with
    | some (.lst ds) => R ds (fun G => G a = some (.lst ds)) G1
    | _ => False)
  | _ => False)) ∧
 ((∀ (te : DTE) (S : DS) (G : GH) (R : List D → (GH → Prop) → GH → Prop), diStr te S G R = (te S G fun d G1 => match d with
  | .str x => R (signs x) dNoGuard G1
  | _ => False)) ∧
 (∀ (ta : DTA) (S : DS) (G : GH) (R : List D → (GH → Prop) → GH → Prop), diRange1 ta S G R = (ta S G fun ds G1 => match ds with
  | [.int n] => -(2 ^ 62) ≤ n ∧ n < 2 ^ 62 ∧ R ((List.range n.toNat).map fun i => .int (i : Nat)) dNoGuard G1
  | _ => False)))) ∧
 ((∀ (ta : DTA) (S : DS) (G : GH) (R : List D → (GH → Prop) → GH → Prop), diRange2 ta S G R = (ta S G fun ds G1 => match ds with
  | [.int m, .int n] => (-(2 ^ 62) ≤ m ∧ m < 2 ^ 62 ∧ -(2 ^ 62) ≤ n ∧ n < 2 ^ 62) ∧ R ((List.range (n - m).toNat).map fun i => .int (m + (i : Nat))) dNoGuard G1
  | _ => False)) ∧
 ((∀ (wi : DTI) (p : Pat) (tt : DTT) (te : DTE) (vs : List Nat) (S : DS) (G : GH) (Q : DQ), dLcM wi p tt te vs S G Q = (dLc wi p tt te vs S G fun d G' => match d with
  | .lst acc => ∀ a, G' a = none → Q (.rf a) (gput G' a (.lst acc))
  | _ => False)) ∧
 (∀ (td ty : DTE) (S : DS) (G : GH) (Q : DQ), dGet1 td ty S G Q = (td S G fun x G1 => D.hasTy "dict" (x.cur G1) = true ∧ ty S G1 fun y G2 => match (x.cur G2).look y with
  | some o => Q (o.getD .non) G2
  | none => False)))))) ∧
 ((((∀ (td ty tx : DTE) (S : DS) (G : GH) (Q : DQ), dGet2 td ty tx S G Q = (td S G fun x G1 => D.hasTy "dict" (x.cur G1) = true ∧ ty S G1 fun y G2 => tx S G2 fun z G3 => match (x.cur G3).look y with
  | some o => Q (o.getD z) G3
  | none => False)) ∧
 ((∀ (ta : DTA) (S : DS) (G : GH) (R : List D → (GH → Prop) → GH → Prop), diEnumT ta S G R = (ta S G fun ds G1 => match ds with
  | [.tup xs] => R (xs.mapIdx fun i x => .tup [.int (i : Nat), x]) dNoGuard G1
  | [.kup xs] => R (xs.mapIdx fun i x => .tup [.int (i : Nat), x]) dNoGuard G1
  | _ => False)) ∧
 (∀ (ta : DTA) (S : DS) (G : GH) (R : List D → (GH → Prop) → GH → Prop), diZipS ta S G R = (ta S G fun ds G1 => match ds with
  | [.str x, .str y] => R (List.zipWith (fun a b => .tup [.str (sgn a), .str (sgn b)]) x.cps.toList y.cps.toList) dNoGuard G1
  | _ => False)))) ∧
 ((∀ (ta : DTA) (S : DS) (G : GH) (R : List D → (GH → Prop) → GH → Prop), diZipT ta S G R = (ta S G fun ds G1 => match ds with
  | [.tup xs, .tup ys] => R (List.zipWith (fun a b => .tup [a, b]) xs ys) dNoGuard G1
  | _ => False)) ∧
 ((∀ (i j : Nat) (ta : DTA) (D' : DEnds) (S : DS) (G : GH), dPar i j ta D' S G = (ta S G fun ds G1 => match ds with
  | [x, y] => D'.nx ((S.set i (some x)).set j (some y)) G1
  | _ => False)) ∧
 (∀ (i j l : Nat) (ta : DTA) (D' : DEnds) (S : DS) (G : GH), dPar3 i j l ta D' S G = (ta S G fun ds G1 => match ds with
  | [x, y, z] => D'.nx (((S.set i (some x)).set j (some y)).set l (some z)) G1
  | _ => False))))) ∧
 (((∀ (i : Nat) (te : DTE) (f : Int → Int → Int) (D' : DEnds) (S : DS) (G : GH), dAug i te f D' S G = (match S[i]? with
  | some (some (.int a)) => te S G fun d G1 => (match d with
    | .int b => D'.nx (S.set i (some (.int (f a b)))) G1
    | _ => False)
  | _ => False)) ∧
 ((∀ (te : DTE) (S : DS) (G : GH) (Q : DQ), dRevL te S G Q = (te S G fun d G1 => match d.cur G1 with
  | .lst xs => Q (.lst xs.reverse) G1
  | _ => False)) ∧
 (∀ (te : DTE) (S : DS) (G : GH) (Q : DQ), dRevLM te S G Q = (te S G fun d G1 => match d.cur G1 with
  | .lst xs => ∀ p, G1 p = none → Q (.rf p) (gput G1 p (.lst xs.reverse))
  | _ => False)))) ∧
 ((∀ (tp : DTP) (S : DS) (G : GH) (Q : DQ), dDisp tp S G Q = (tp S G fun qs G1 => match keyed qs with
  | some kds => kds.length ≤ 15 ∧ Q (.dK (mergeD [] kds)) G1
  | none => False)) ∧
 ((∀ (tp : DTP) (S : DS) (G : GH) (Q : DQ), dDispM tp S G Q = (tp S G fun qs G1 => match keyed qs with
  | some kds => kds.length ≤ 15 ∧ ∀ p, G1 p = none → Q (.rf p) (gput G1 p (.dK (mergeD [] kds)))
  | none => False)) ∧
 (∀ (r r' : DR2) (ta tb tc : DTE) (S : DS) (G : GH) (Q : DQ), dChain r r' ta tb tc S G Q = (ta S G fun x G1 => tb S G1 fun y G2 => r x y G2 fun z G3 => match z with
  | .bl k => if k = true then tc S G3 fun w G4 => r' y w G4 Q else Q (.bl false) G3
  | _ => False))))))) ∧
 (((((∀ (wi : DTI) (g : DTG) (tb : DTS) (D' : DEnds) (S : DS) (G : GH), dFor wi g tb D' S G = (wi S G fun ds gd G1 => ForB ds gd g tb D' S G1)) ∧
 (∀ (c : DTT) (tb : DTS) (D' : DEnds) (S : DS) (G : GH), dWhile c tb D' S G = WhB c tb D' S G)) ∧
 ((∀ (wi : DTI) (p : Pat) (tt : DTT) (te : DTE) (vs : List Nat) (S : DS) (G : GH) (Q : DQ), dLc wi p tt te vs S G Q = (wi S G fun ds gd G1 => LcB ds gd p tt te vs S G1 Q)) ∧
 ((∀ (G : GH) (a : Addr), D.cur G (.rf a) = (match G a with
    | some (.lst xs) => .lst xs
    | some (.dK kds) => .dK kds
    | some (.dT kds) => .dT kds
    | some (.ins C kds) => .obj C kds
    | _ => .rf a)) ∧
 (∀ (G : GH), D.cur G (.non ) = .non)))) ∧
 (((∀ (G : GH) (b : Bool), D.cur G (.bl b) = .bl b) ∧
 ((∀ (G : GH) (i : Int), D.cur G (.int i) = .int i) ∧
 (∀ (G : GH) (x : Str), D.cur G (.str x) = .str x))) ∧
 ((∀ (G : GH) (n : String), D.cur G (.ty n) = .ty n) ∧
 ((∀ (G : GH) (xs : List D), D.cur G (.tup xs) = .tup xs) ∧
 (∀ (G : GH) (xs : List D), D.cur G (.lst xs) = .lst xs))))) ∧
 ((((∀ (G : GH) (kvs : List (Key × D)), D.cur G (.dK kvs) = .dK kvs) ∧
 ((∀ (G : GH) (kvs : List (List Key × D)), D.cur G (.dT kvs) = .dT kvs) ∧
 (∀ (G : GH) (C : Addr) (fs : List (Str × D)), D.cur G (.obj C fs) = .obj C fs))) ∧
 ((∀ (G : GH) (ns : List Int), D.cur G (.scr ns) = .scr ns) ∧
 ((∀ (G : GH) (xs : List D), D.cur G (.kup xs) = .kup xs) ∧
 (∀ (T : String) (xs : List D), D.hasTy T (.lst xs) = (T == "list"))))) ∧
 (((∀ (T : String) (x : Str), D.hasTy T (.str x) = (T == "str")) ∧
 ((∀ (T : String) (kvs : List (Key × D)), D.hasTy T (.dK kvs) = (T == "dict")) ∧
 (∀ (T : String) (kvs : List (List Key × D)), D.hasTy T (.dT kvs) = (T == "dict")))) ∧
 ((∀ (x y : D) (G : GH) (Q : DQ), rItem x y G Q = (match D.item (x.cur G) y with | some d => Q d G | none => False)) ∧
 ((∀ (C : Int → Int → Prop) (f : Int → Int → Int) (i j : Int) (G : GH) (Q : DQ), rIntD C f (.int i) (.int j) G Q = (C i j ∧ Q (.int (f i j)) G)) ∧
 (∀ (i : Int) (G : GH) (Q : DQ), rNegD (.int i) G Q = Q (.int (-i)) G)))))))) :=
 ⟨⟨⟨⟨⟨⟨@x_var, @x_C⟩, ⟨@x_nil, ⟨@x_cons, @x_tup⟩⟩⟩, ⟨⟨@x_lst, ⟨@x_lstM, @x_op⟩⟩, ⟨@x_un, ⟨@x_test, @x_not⟩⟩⟩⟩, ⟨⟨⟨@x_and, ⟨@x_or, @x_if⟩⟩, ⟨@x_andV, ⟨@x_orV, @x_notV⟩⟩⟩, ⟨⟨@x_gname, ⟨@x_gkup, @x_gtup⟩⟩, ⟨@x_gnil, ⟨@x_gcons, @x_next⟩⟩⟩⟩⟩, ⟨⟨⟨⟨@x_seq, @x_asg⟩, ⟨@x_drop, ⟨@x_ret, @x_retN⟩⟩⟩, ⟨⟨@x_ifS, ⟨@x_never, @x_break⟩⟩, ⟨@x_cont, ⟨@x_call, @x_cb⟩⟩⟩⟩, ⟨⟨⟨@x_bm, ⟨@x_bm0, @x_nopart⟩⟩, ⟨@x_part, ⟨@x_slice, @x_newK⟩⟩⟩, ⟨⟨@x_newT, ⟨@x_yes, @x_pnil⟩⟩, ⟨@x_pcons, ⟨@x_dCold, @x_dFld⟩⟩⟩⟩⟩⟩, ⟨⟨⟨⟨⟨@x_dSetFld, @x_dSetSub⟩, ⟨@x_dMeth, ⟨@x_dMake, @x_diTup⟩⟩⟩, ⟨⟨@x_diList, ⟨@x_diStr, @x_diRange1⟩⟩, ⟨@x_diRange2, ⟨@x_dLcM, @x_dGet1⟩⟩⟩⟩, ⟨⟨⟨@x_dGet2, ⟨@x_diEnumT, @x_diZipS⟩⟩, ⟨@x_diZipT, ⟨@x_dPar, @x_dPar3⟩⟩⟩, ⟨⟨@x_dAug, ⟨@x_dRevL, @x_dRevLM⟩⟩, ⟨@x_dDisp, ⟨@x_dDispM, @x_dChain⟩⟩⟩⟩⟩, ⟨⟨⟨⟨@x_for, @x_while⟩, ⟨@x_lc, ⟨@x_curK, @x_cur_non⟩⟩⟩, ⟨⟨@x_cur_bl, ⟨@x_cur_int, @x_cur_str⟩⟩, ⟨@x_cur_ty, ⟨@x_cur_tup, @x_cur_lst⟩⟩⟩⟩, ⟨⟨⟨@x_cur_dK, ⟨@x_cur_dT, @x_cur_obj⟩⟩, ⟨@x_cur_scr, ⟨@x_cur_kup, @x_ty_lst⟩⟩⟩, ⟨⟨@x_ty_str, ⟨@x_ty_dK, @x_ty_dT⟩⟩, ⟨@x_item, ⟨@x_int, @x_neg⟩⟩⟩⟩⟩⟩⟩
theorem dl : (∀ (G : GH) (a : Addr) (o : MO), gput G a o a = some o) ∧ (∀ (α : Type) (a : α) (l : List α), (a :: l)[0]? = some a) ∧ (∀ (α : Type) (a : α) (l : List α) (i : Nat), (a :: l)[i + 1]? = l[i]?) ∧
  (∀ (α : Type) (a b : α) (l : List α), (a :: l).set 0 b = b :: l) ∧ (∀ (α : Type) (a b : α) (l : List α) (i : Nat), (a :: l).set (i + 1) b = a :: l.set i b) ∧ (∀ (α : Type) (a : α) (l : List α), (a :: l).length = l.length + 1) ∧ (∀ (α : Type), ([] : List α).length = 0) :=
  ⟨fun _ _ _ => gput_same, fun _ _ _ => rfl, fun _ _ _ _ => rfl, fun _ _ _ _ => rfl, fun _ _ _ _ _ => rfl, fun _ _ _ => rfl, fun _ => rfl⟩
end DL
end
section
set_option Elab.async false
set_option linter.all false
set_option maxRecDepth 100000
namespace DL
open PySem PySem.Spec PyProof.Rows L2
theorem okE_str (a b : Str) : okE (.str a) (.str b) = true := rfl
theorem eqv_str (a b : Str) : D.eqv (.str a) (.str b) = (a == b) := by simp [D.eqv, D.py, PyData.eqv]
theorem okE_int (a b : Int) : okE (.int a) (.int b) = true := rfl
theorem eqv_int (a b : Int) : D.eqv (.int a) (.int b) = (a == b) := by simp [D.eqv, D.py, PyData.eqv]
theorem okL_int (a b : Int) : okL (.int a) (.int b) = true := rfl
theorem okL_str (a b : Str) : okL (.str a) (.str b) = true := rfl
theorem lt_int (a b : Int) : D.lt (.int a) (.int b) = decide (a < b) := PySem.W.dataLt_int a b
theorem lt_str (a b : Str) : D.lt (.str a) (.str b) = decide (a.cps.toList < b.cps.toList) := PySem.W.dataLt_str a b
mutual
def D.si : D → Bool
  | .non | .int _ | .str _ => true
  | .tup xs | .lst xs => D.sis xs
  | _ => false
def D.sis : List D → Bool
  | [] => true
  | x :: xs => D.si x && D.sis xs
end
mutual
theorem D.si_pl : ∀ d : D, d.si = true → d.pl = true
  | .non, _ => rfl
  | .int _, _ => rfl
  | .str _, _ => rfl
  | .tup xs, h => D.sis_pls xs h
  | .lst xs, h => D.sis_pls xs h
  | .bl _, h => by cases h
  | .ty _, h => by cases h
  | .dK _, h => by cases h
  | .dT _, h => by cases h
  | .obj _ _, h => by cases h
  | .rf _, h => by cases h
  | .scr _, h => by cases h
  | .kup _, h => by cases h
theorem D.sis_pls : ∀ xs : List D, D.sis xs = true → D.pls xs = true
  | [], _ => rfl
  | x :: xs, h => by
    simp only [D.sis, Bool.and_eq_true] at h
    simp only [D.pls, Bool.and_eq_true]
    exact ⟨D.si_pl x h.1, D.sis_pls xs h.2⟩
end
mutual
theorem D.si_eqv : ∀ x y : D, x.si = true → y.si = true → (D.eqv x y = true ↔ x = y)
  | .non, y, _, h => by cases y <;> first | (cases h; done) | simp [D.eqv, D.py, PyData.eqv]
  | .int _, y, _, h => by cases y <;> first | (cases h; done) | simp [D.eqv, D.py, PyData.eqv]
  | .str _, y, _, h => by cases y <;> first | (cases h; done) | simp [D.eqv, D.py, PyData.eqv]
  | .tup xs, .tup ys, hx, hy => by
    have := D.sis_eqv xs ys hx hy
    simp only [D.eqv, D.py, PyData.eqv, D.tup.injEq]
    exact this
  | .lst xs, .lst ys, hx, hy => by
    have := D.sis_eqv xs ys hx hy
    simp only [D.eqv, D.py, PyData.eqv, D.lst.injEq]
    exact this
  | .tup xs, .non, _, _ => by simp [D.eqv, D.py, PyData.eqv]
  | .tup xs, .int _, _, _ => by simp [D.eqv, D.py, PyData.eqv]
  | .tup xs, .str _, _, _ => by simp [D.eqv, D.py, PyData.eqv]
  | .tup xs, .lst _, _, _ => by simp [D.eqv, D.py, PyData.eqv]
  | .lst xs, .non, _, _ => by simp [D.eqv, D.py, PyData.eqv]
  | .lst xs, .int _, _, _ => by simp [D.eqv, D.py, PyData.eqv]
  | .lst xs, .str _, _, _ => by simp [D.eqv, D.py, PyData.eqv]
  | .lst xs, .tup _, _, _ => by simp [D.eqv, D.py, PyData.eqv]
  | .tup _, .bl _, _, h => by cases h
  | .tup _, .ty _, _, h => by cases h
  | .tup _, .dK _, _, h => by cases h
  | .tup _, .dT _, _, h => by cases h
  | .tup _, .obj _ _, _, h => by cases h
  | .tup _, .rf _, _, h => by cases h
  | .tup _, .scr _, _, h => by cases h
  | .tup _, .kup _, _, h => by cases h
  | .lst _, .bl _, _, h => by cases h
  | .lst _, .ty _, _, h => by cases h
  | .lst _, .dK _, _, h => by cases h
  | .lst _, .dT _, _, h => by cases h
  | .lst _, .obj _ _, _, h => by cases h
  | .lst _, .rf _, _, h => by cases h
  | .lst _, .scr _, _, h => by cases h
  | .lst _, .kup _, _, h => by cases h
  | .bl _, _, h, _ => by cases h
  | .ty _, _, h, _ => by cases h
  | .dK _, _, h, _ => by cases h
  | .dT _, _, h, _ => by cases h
  | .obj _ _, _, h, _ => by cases h
  | .rf _, _, h, _ => by cases h
  | .scr _, _, h, _ => by cases h
  | .kup _, _, h, _ => by cases h
theorem D.sis_eqv : ∀ xs ys : List D, D.sis xs = true → D.sis ys = true → (PyData.eqvAll (D.pys xs) (D.pys ys) = true ↔ xs = ys)
  | [], [], _, _ => by simp [D.pys, PyData.eqvAll]
  | [], _ :: _, _, _ => by simp [D.pys, PyData.eqvAll]
  | _ :: _, [], _, _ => by simp [D.pys, PyData.eqvAll]
  | x :: xs, y :: ys, hx, hy => by
    simp only [D.sis, Bool.and_eq_true] at hx hy
    have h1 := D.si_eqv x y hx.1 hy.1
    have h2 := D.sis_eqv xs ys hx.2 hy.2
    simp only [D.eqv] at h1
    simp only [D.pys, PyData.eqvAll, Bool.and_eq_true, h1, h2, List.cons.injEq]
end
mutual
def D.dp : D → Nat
  | .tup xs | .lst xs | .kup xs => D.dps xs + 1
  | _ => 0
def D.dps : List D → Nat
  | [] => 0
  | x :: xs => max (D.dp x) (D.dps xs)
end
mutual
theorem D.dp_ok : ∀ d : D, d.py.depth ≤ d.dp
  | .non => by simp [D.py, PyData.depth]
  | .bl _ => by simp [D.py, PyData.depth]
  | .int _ => by simp [D.py, PyData.depth]
  | .str _ => by simp [D.py, PyData.depth]
  | .tup xs => by have := D.dps_ok xs; simp only [D.py, PyData.depth, D.dp]; omega
  | .lst xs => by have := D.dps_ok xs; simp only [D.py, PyData.depth, D.dp]; omega
  | .ty _ => by simp [D.py, PyData.depth]
  | .dK _ => by simp [D.py, PyData.depth]
  | .dT _ => by simp [D.py, PyData.depth]
  | .obj _ _ => by simp [D.py, PyData.depth]
  | .rf _ => by simp [D.py, PyData.depth]
  | .scr _ => by simp [D.py, PyData.depth]
  | .kup xs => by have := D.dps_ok xs; simp only [D.py, PyData.depth, D.dp]; omega
theorem D.dps_ok : ∀ xs : List D, PyData.depthAll (D.pys xs) ≤ D.dps xs
  | [] => by simp [D.pys, PyData.depthAll]
  | x :: xs => by have := D.dp_ok x; have := D.dps_ok xs; simp only [D.pys, PyData.depthAll, D.dps]; omega
end
theorem dps_le {xs : List D} {n : Nat} (h : ∀ x ∈ xs, x.dp ≤ n) : D.dps xs ≤ n := by
  induction xs with
  | nil => simp [D.dps]
  | cons x xs ih =>
    have h1 := h x (by simp)
    have h2 := ih fun y hy => h y (by simp [hy])
    simp only [D.dps]; omega
theorem sis_all {xs : List D} : D.sis xs = true ↔ ∀ x ∈ xs, x.si = true := by
  induction xs with
  | nil => simp [D.sis]
  | cons x xs ih => simp [D.sis, ih]
theorem okE_si {x y : D} (hx : x.si = true) (hy : y.si = true) (hd : x.dp ≤ 60) : okE x y = true := by
  have := D.dp_ok x
  simp only [okE, Bool.and_eq_true, decide_eq_true_eq]
  exact ⟨⟨D.si_pl x hx, D.si_pl y hy⟩, by omega⟩
theorem eqv_si {x y : D} (hx : x.si = true) (hy : y.si = true) : D.eqv x y = true ↔ x = y := D.si_eqv x y hx hy
end DL
end
section
set_option Elab.async false
set_option linter.all false
set_option maxRecDepth 100000
set_option maxHeartbeats 4000000
namespace DL
open PySem PySem.Spec PyProof.Rows L2
abbrev eSet (w : World) : Obj := { cls := .type "set", dict := none, data := .set #[] 0 (.fresh 0 0 (!w.params.followText "set-order")) }
section
variable {P : Program} {w : World} {A : Around} {E : Value → Shared → Prop} {s : Shared}
theorem call_set_lstI {l : Addr} {its : Array Value} (ns : List Int) {Q : Value → Shared → Prop} (zh : A.handled = none) (zl : s.heap.IsList l its) (zit : IntsAre its.toList ns) (zb : ns.length + 1 < scanBound)
    (h : ∀ (h' : Heap) (tk1 c : Nat), SetR w h' s.heap.objs.size (fun j => decide (j ∈ ns)) c → c ≤ ns.length → (∀ b o, s.heap.get? b = some o → h'.get? b = some o) → Q (.ref s.heap.objs.size) { s with heap := h', toks := tk1 }) : wpAny (model P w) A (call (.type "set") [.ref l]) Q E s := by
  have zsz : its.size = ns.length := by
    have q := IntsAre.length zit
    rw [Array.length_toList] at q
    exact q
  obtain ⟨c, tl, zmro⟩ := F.called_set.mro
  have zmade := F.called_set.made
  have zsub := F.called_set.sub
  (refine wpAny_call (codeAny_of_tree ?_))
  (show wpAny _ _ (callAny (.type "set") _) _ _ _)
  (refine wpAny_pure ⟨Code.quiet_builtin _ (by decide +kernel), codeAny_builtin F.entry_type_call ?_⟩)
  (rw [Around.under_plain (weight_type_call_type "set" [.ref l] []) rfl])
  have z1 := F.called_set.notType
  have z2 := F.called_set.canCreate
  have zct := F.typeCall_set_1 (.ref l)
  (repeat (any_goals (first | assumption | wp_step)))
  refine codeAny_mono (code_set_led1 (.ref l) (E := E) (Q₁ := fun ob s1 => ob = .ref s.heap.objs.size ∧ s1 = { s with heap := s.heap.push (eSet w) }) ⟨rfl, rfl⟩) fun r s1 zr => ?_
  cases r with
  | error e => exact zr
  | ok fl1 =>
    cases fl1 with
    | ret ob =>
      obtain ⟨rfl, rfl⟩ := zr
      have zS : (s.heap.push (eSet w)).get? s.heap.objs.size = some (eSet w) := Heap.get?_push_size _ rfl
      have zT : Shared.TypeIs { s with heap := s.heap.push (eSet w) } (.ref s.heap.objs.size) "set" := ⟨_, zS, rfl⟩
      have zli := F.called_set.init.lookup
      have zbi := F.called_set.init.bind (.ref s.heap.objs.size)
      (repeat (any_goals (first | assumption | wp_step)))
      refine codeAny_mono (codeAny_call_builtin (R := wants (fun r s2 => r = .none ∧ ∃ h' tk1 c, s2 = { s with heap := h', toks := tk1 } ∧ SetR w h' s.heap.objs.size (fun j => decide (j ∈ ns)) c ∧ c ≤ ns.length ∧
          (∀ b o, s.heap.get? b = some o → h'.get? b = some o)) E) F.called_set.init.plain F.entry_set_init (check_set_init_1 zT ?_)) fun r2 s2 zr2 => ?_
      · obtain ⟨zo, zol, zcl, zn, zdl⟩ := zl
        obtain ⟨zc1, zc2, zc3, zc4⟩ := zo
        simp only at zcl zdl
        subst zcl; subst zdl
        have zol' : (s.heap.push (eSet w)).get? l = some { cls := .type "list", dict := zc2, data := .seq its zn, slots := zc4 } := Heap.get?_push_of_some _ zol
        have zs1 := F.sub_list_set
        have zs2 := F.sub_list_frozenset
        have zne : (Value.type "list" == Value.type "dict") = false := by decide
        have zl1 : (s.heap.push (eSet w)).IsList l its := ⟨_, zol', rfl, zn, rfl⟩
        (unfold Builtin.«set.__init__» noKeywords Builtin.Frozenset.updateFrom)
        generalize zPI : pyIter = ZI
        wp_walk
        subst zPI
        refine wpAny_pyIter_list zl1 ?_
        (refine wpAny_bind (wpAny_runValue ?_))
        have zlS : l < s.heap.objs.size := Heap.lt_size zol
        have zh3 : A.in1.in1.in1.handled = none := by simp [zh]
        have zz1 : (s.heap.push (eSet w)).objs.size = s.heap.objs.size + 1 := Heap.size_push ..
        have zneI : l ≠ (s.heap.push (eSet w)).objs.size := by
          rw [Heap.size_push]; exact Nat.ne_of_lt (Nat.lt_succ_of_lt zlS)
        have zSf : s.heap.objs.size ∉ [(s.heap.push (eSet w)).objs.size, l] := by
          (rw [Heap.size_push]; simp only [List.mem_cons, List.mem_singleton, List.not_mem_nil, or_false, not_or])
          exact ⟨Nat.ne_of_lt (Nat.lt_succ_self _), Nat.ne_of_gt zlS⟩
        have zval : ∀ (i : Nat) (v : Value), its[i]? = some v → ∃ k t, ns[i]? = some k ∧ v = .int k t := fun i v zv => by
          have zi : i < ns.length := by rw [← zsz]; exact (Array.getElem?_eq_some_iff.mp zv).1
          obtain ⟨t, e⟩ := PyProof.Rows.IntsAre.int_at zit i v (by rw [Array.getElem?_toList]; exact zv)
          refine ⟨ns[i], t, List.getElem?_eq_getElem zi, ?_⟩
          rw [e, List.getD_eq_getElem?_getD, List.getElem?_eq_getElem zi] <;> rfl
        refine set_update_ints ((Walks.list zh3 _ l zneI its).toS) s.heap.objs.size
          zSf ns zsz zb zval (its.size - 0) 0 _ (by omega) (Nat.zero_le _)
          ⟨⟨_, Heap.get?_push_size _ rfl, rfl, rfl⟩, (zl1.push _)⟩ ?hS0 ?hR
        case hS0 =>
          have zget : ((s.heap.push (eSet w)).push { cls := .type "list_iterator", data := .fields #[.ref l, .int 0 0] }).get? s.heap.objs.size
              = some (eSet w) := Heap.get?_push_of_some _ zS
          exact ⟨0, Nat.le_refl 0, setR_new_at zget⟩
        case hR =>
          intro s' c' zm zc' zS'
          obtain ⟨h', q2, q3, q4, q5⟩ := s'
          have y1 : q2 = s.gens := zm.gens
          have y2 : q3 = s.drawn := zm.drawn
          have y3 : q5 = s.os := zm.os
          subst y1; subst y2; subst y3
          show wpAny _ _ _ _ _ _
          refine wpAny_pure ?_
          (show wpAny _ _ (ret Value.none) _ _ _)
          rw [zsz] at zc'
          refine wpAny_pure ⟨rfl, h', q4, c', rfl, zS', zc', fun b o e => ?_⟩
          have y4 : b < s.heap.objs.size := Heap.lt_size e
          have y5 : b ≠ s.heap.objs.size := Nat.ne_of_lt y4
          have y6 : b ≠ (s.heap.push (eSet w)).objs.size := by
            rw [Heap.size_push]; exact Nat.ne_of_lt (Nat.lt_succ_of_lt y4)
          exact zm.heap b o (by simp only [List.mem_cons, List.mem_singleton, List.not_mem_nil, or_false, not_or]; exact ⟨y5, y6⟩) (Heap.get?_push_of_some _ (Heap.get?_push_of_some _ e))
      · cases r2 with
        | error e => exact zr2
        | ok fl2 =>
          cases fl2 with
          | ret r =>
            obtain ⟨rfl, h', tk1, c', rfl, zS', zc', zk'⟩ := zr2
            (repeat (any_goals (first | assumption | wp_step)))
            exact h _ _ _ zS' zc' zk'
          | _ => exact zr2.elim
    | _ => exact zr.elim
end
/-- set(l), l a list of ints -/
def rSetL (w : World) (K : PySem.W.Frag) : List V → Hp → VK → Prop := fun vs H Q => ∃ (a : Addr) (ns : List Int), vs = [.ref a] ∧ SqL K H a (ns.map V.int) ∧ ns.length ≤ 1000 ∧
  ∀ p c, H p = none → c ≤ ns.length → Q (.ref p) (upd H p (SetO w p (fun j => decide (j ∈ ns)) c))
section
variable {X : Cx} {pos : Pos}
theorem cr_setL (hc : X.calm = true) : CallR X (.type "set") (rSetL X.w X.K) := by
  intro pins s σ H vs us Q I r h
  obtain ⟨a, ns, rfl, ha, hl, q⟩ := h
  rw [Vals.ref1 r]
  obtain ⟨its, rv, pl, hz⟩ := I.list ha
  refine call_set_lstI ns (I.ok.hd hc) pl.isList (by simpa using ints_of_vals rv) (by unfold scanBound; omega) fun h' tk c R hcn k => ?_
  exact ⟨.ref _, _, I.laid (t' := tk) k (Nat.le_refl _) (setO_new R), rfl, q _ c (I.hok.fresh (Nat.le_refl _)) hcn⟩
end
end DL
end
section
set_option Elab.async false
set_option linter.all false
set_option maxRecDepth 100000
set_option maxHeartbeats 4000000
namespace DL
open PySem PySem.Spec PyProof.Rows L2
section
variable {α : Type} [DecidableEq α]
/-- each at its first time -/
def addF (ks : List α) (t : α) : List α := if t ∈ ks then ks else ks ++ [t]
def firstsF (ts : List α) : List α := ts.foldl addF []
theorem addF_nodup {ks : List α} {t : α} (h : ks.Nodup) : (addF ks t).Nodup := by
  unfold addF
  split
  · exact h
  · rename_i ht
    rw [List.nodup_append]
    refine ⟨h, by simp, fun a ha b hb => ?_⟩
    simp at hb
    subst hb
    exact fun e => ht (e ▸ ha)
theorem addF_mem {ks : List α} {t k : α} : k ∈ addF ks t ↔ k ∈ ks ∨ k = t := by
  unfold addF
  split
  · rename_i h
    exact ⟨.inl, fun q => q.elim id fun e => e ▸ h⟩
  · simp
theorem foldl_addF_nodup : ∀ (ts ks : List α), ks.Nodup → (ts.foldl addF ks).Nodup
  | [], _, h => h
  | t :: ts, _, h => foldl_addF_nodup ts _ (addF_nodup h)
theorem foldl_addF_mem {k : α} : ∀ (ts ks : List α), k ∈ ts.foldl addF ks ↔ k ∈ ks ∨ k ∈ ts
  | [], ks => by simp
  | t :: ts, ks => by
    rw [List.foldl_cons, foldl_addF_mem ts, addF_mem, List.mem_cons, or_assoc]
theorem firstsF_nodup (ts : List α) : (firstsF ts).Nodup := foldl_addF_nodup ts [] List.nodup_nil
theorem firstsF_mem {ts : List α} {k : α} : k ∈ firstsF ts ↔ k ∈ ts := by
  unfold firstsF
  rw [foldl_addF_mem]
  simp
end
section
variable {X : Cx} {pos : Pos}
def intsD : List D → Option (List Int)
  | [] => some []
  | .int n :: r => (intsD r).map (n :: ·)
  | _ :: _ => none
theorem intsD_rep {K : PySem.W.Frag} {F : Hp} : ∀ {ds : List D} {ns : List Int} {vs : List V}, intsD ds = some ns → Reps K F vs ds → vs = ns.map V.int
  | [], ns, _, h, .nil => by cases h; rfl
  | .int n :: r, ns, _, h, .cons a b => by
    unfold intsD at h
    cases e : intsD r with
    | none => rw [e] at h; cases h
    | some m =>
      rw [e] at h
      cases h
      rw [intsD_rep e b]
      cases a
      rfl
theorem intsD_map (ns : List Int) : intsD (ns.map D.int) = some ns := by
  induction ns with
  | nil => rfl
  | cons n ns ih => simp [intsD, ih]
/-- each once, in order -/
def isort1 (ns : List Int) : List Int := (firstsF ns).mergeSort (· ≤ ·)
theorem isort1_uniq {ns ms : List Int} (s : ms.Pairwise (· < ·)) (h : ∀ k, k ∈ ms ↔ k ∈ ns) : ms = isort1 ns := by
  have nd : ms.Nodup := s.imp fun h => by omega
  have pm : ms.Perm (firstsF ns) := (List.perm_ext_iff_of_nodup nd (firstsF_nodup ns)).mpr fun k => by rw [h k, firstsF_mem]
  exact isort_uniq pm (s.imp fun h => by omega)
def dSortSet (te : DTE) : DTE := fun S G Q => te S G fun d G1 => match d.cur G1 with
  | .lst xs => (match intsD xs with
    | some ns => ns.length < 64 ∧ Q (.lst ((isort1 ns).map .int)) G1
    | none => False)
  | _ => False
theorem de_sortSet {e : Expr} {te : DTE} {p q p2 : Pos} (hc : X.calm = true) (hg : Gl X "sorted") (hm : X.mg "sorted" = none) (hg2 : Gl X "set") (hm2 : X.mg "set" = none) (ha : DE X e te)
    (na : starEach [e] X.env = (false, eval e X.env) :: starEach [] X.env := by rfl)
    (nb : starEach [.Call (.Name "set" p2) [e] [] q] X.env = (false, eval (.Call (.Name "set" p2) [e] [] q) X.env) :: starEach [] X.env := by rfl) : DE X (.Call (.Name "sorted" p) [.Call (.Name "set" p2) [e] [] q] [] pos) (dSortSet te) := by
  obtain ⟨t, p1, r1⟩ := ha.ex
  have ps := pe_callTy (pos := q) (p := p2) (cr_setL hc) hg2 hm2 PyProof.Rows.boot_set (pa_cons p1 pa_nil na) (by decide) (by decide) na (by rfl)
  have pp := pe_callB (pos := pos) (p := p) (cr_sortedSet hc) hg hm PyProof.Rows.boot_sorted (pa_cons ps pa_nil nb) (by decide) (by decide) nb (by rfl)
  refine ⟨_, pp, fun F H σ S G o Q' h Q k => ?_⟩
  refine r1 F H σ S G o _ h _ fun F1 H1 v d G1 e1 g1 q1 h1 => ?_
  dsimp only at h1
  split at h1
  · rename_i xs ex
    split at h1
    · rename_i ns en
      obtain ⟨a, vs, rfl, ha, rs⟩ := cur_list g1 q1 ex
      rw [intsD_rep en rs] at ha
      refine ⟨a, ns, rfl, .inl (.inl ha), by omega, fun z c hz hcn => ?_⟩
      refine ⟨z, _, c, rfl, upd_same, by omega, fun ms z2 hs hk hl hz2 => ?_⟩
      have em : ms = isort1 ns := isort1_uniq hs fun j => by rw [hk j]; simp
      subst em
      have gr1 : Gr F1 H1 F1 (upd H1 z (SetO X.w z (fun j => decide (j ∈ ns)) c)) := ⟨Ex.refl _, g1.ex.trans (Ex.new hz), Ex.new hz, fun _ _ _ w => w⟩
      have g2 := g1.grow gr1
      have gr2 := Gr.new (u := .lst ((isort1 ns).map V.int)) g2.ex hz2
      exact k _ _ _ _ G1 (e1.trans (gr1.go.trans gr2.go)) (g2.grow gr2) (.lst upd_same (Reps.ints _)) h1.2
    · exact h1.elim
  · exact h1.elim
end
end DL
end
section
set_option Elab.async false
set_option linter.all false
set_option maxRecDepth 100000
set_option maxHeartbeats 4000000
namespace DL
open PySem PySem.Spec PyProof.Rows L2
def tkey (e : Int × Value) : Str := match e.2 with | .str k _ => k | _ => ""
def TGood (w : World) (e : Int × Value) : Prop := ∃ k tk, e.2 = Value.str k tk ∧ e.1 = hashStr w k
/-- the set of texts at a: ks its members in some order; the table rises and can be walked -/
def SetS (w : World) (h : Heap) (a : Addr) (ks : List Str) : Prop :=
  ∃ o es ep t, h.get? a = some o ∧ o.ExactSet ∧ o.data = .set es ep t ∧ (∀ e ∈ es.toList, TGood w e) ∧ (es.toList.map tkey).Perm ks ∧ ks.Nodup ∧
    es.size < scanBound ∧ t.fits es.size = true ∧ Ris t.place.toList ∧ (w.params.followText "set-order" = true ∨ t.led = true)
section
variable {P : Program} {w : World} {h h' : Heap} {a : Addr} {ks : List Str}
theorem SetS.keep (R : SetS w h a ks) (k : ∀ o, h.get? a = some o → h'.get? a = some o) : SetS w h' a ks := by
  obtain ⟨o, es, ep, t, q, r⟩ := R
  exact ⟨o, es, ep, t, k o q, r⟩
end
end DL
end
section
set_option Elab.async false
set_option linter.all false
set_option maxRecDepth 100000
set_option maxHeartbeats 4000000
namespace DL
open PySem PySem.Spec PyProof.Rows L2
def tDispT (tk tv : TE) : TE := fun σ H Q => ∀ p, H p = none → tPairs [(tk, tv)] σ (upd H p (.dT [])) fun ps H2 => H2 p = some (.dT []) ∧ ∃ k b v, ps = [(.ref b, v)] ∧ H2 b = some (.tup (k.map kV)) ∧ Q (.ref p) (upd H2 p (.dT [(k, v)]))
section
variable {X : Cx} {pos : Pos}
theorem pe_dispT {ke ve : Expr} {tk tv : TE} (hu : X.A.units + 1 < cLine) (hk : PE X ke tk) (hv : PE X ve tv) : PE X (.Dict [some ke] [ve] pos) (tDispT tk tv) := by
  refine ⟨fun pins s σ H Q I q => ?_⟩
  have hn := I.hok.fresh (Nat.le_refl s.heap.objs.size)
  have I1 := I.laid (a := s.heap.objs.size) (o := .dT []) (h' := s.heap.push { cls := .type "dict", data := .dict #[] }) (t' := s.toks) (fun _ _ q => Heap.get?_push_of_some _ q) (Nat.le_refl _) (dt_empty s.heap I.big)
  have hp := pps_cons (pos := pos) hk hv (pps_nil (X := X))
  have hzip := zip_pairTrees [some ke] [ve] X.env pos rfl rfl
  have hlen := pairTrees_length [some ke] [ve] X.env pos rfl rfl
  rw [arm_eval_Dict, hzip, dictDisplay_pairs _ (by intro z; rw [z] at hlen; cases hlen) (by rw [hlen]; exact (by decide : 1 < 17))]
  refine wpAny_bind (wpAny_standAt (wpAny_bind (wpAny_subDictH (knd := tupleKind (mixKind X.prog X.w)) (Q := fun d s' => wpAny (model X.prog X.w) X.A (pure (Value.ref d)) _ X.xe s') (by show X.A.units < cLine; omega) (by rw [hlen]; exact (by decide : 1 ≤ 15)) ?_)))
  refine thn (hp.run pins _ σ _ _ I1 (q _ hn)) fun ws s2 ⟨ps, H2, I2, rel, e, k, b, v, ep, hb, q2⟩ => ?_
  subst ep
  obtain ⟨z, hd, vs0, r0, dd⟩ := dt_of I2.hok e
  cases r0
  cases rel with
  | cons r1 r2 =>
    cases r2
    rename_i w0 _
    obtain ⟨u1, u2⟩ := w0
    obtain ⟨ra, rv⟩ := r1
    cases (show u1 = Value.ref b from ra)
    refine ⟨[(k, b, u2)], ⟨rfl, rfl, key_of I2.hok hb, trivial⟩, dd, fun h' tk' dd' hs => wpAny_pure ⟨.ref s.heap.objs.size, _, ?_, rfl, q2⟩⟩
    obtain ⟨q', es, ep, hq, h2, h3, h4, _, h5⟩ := dd'
    refine d_write I2 (by rw [e]; exact True.intro) hs ⟨q', hq⟩ ⟨by show 1 ≤ sizeLine; rw [sizeLine_eq]; decide, hd, [(k, b, u2)], .cons ⟨rfl, ?_, rv⟩ .nil, q', es, ep, hq, h2, h3, h4, h5⟩
    rw [upd_ne (ne_of hb e (fun z => nomatch z))]
    exact hb
/-- a new thing that may change, laid out before others -/
theorem own_later {K : PySem.W.Frag} {F H F' H' : Hp} {G G' : GH} {p : Addr} {u : HO} {o : MO} (hp : H p = none) (go : Go F H G F' H' G') (g : Gok K F' H' G') (fp : F' p = none) (gp : G' p = none) (hd : o.isDeck = false) (m0 : MRep K F' (upd H' p u) (gput G' p o) p o) :
    Gok K F' (upd H' p u) (gput G' p o) ∧ Go F H G F' (upd H' p u) (gput G' p o) := by
  constructor
  · refine ⟨g.ex.updR fp, fun a w e => ?_, fun a b k1 k2 k3 n j1 j2 j3 m e1 e2 => ?_⟩
    · by_cases nq : a = p
      · subst nq
        rw [gput_same] at e; cases e
        exact ⟨fp, m0⟩
      · rw [gput_ne nq] at e
        obtain ⟨f, m⟩ := g.at_ a w e
        refine ⟨f, m.move (Ex.refl F') (fun b u hb hc => ?_) fun c z => ?_⟩
        · have n2 : b ≠ p := fun z => by
            rcases hc with hc | hc
            · exact nq (hc ▸ z)
            · rw [z, gp] at hc; cases hc
          rw [upd_ne n2]; exact hb
        · have n2 : c ≠ p := fun y => by rw [y, gp] at z; cases z
          rw [gput_ne n2]; exact z
    · have ha : a ≠ p := fun y => by rw [y, gput_same] at e1; cases e1; cases hd
      have hb : b ≠ p := fun y => by rw [y, gput_same] at e2; cases e2; cases hd
      rw [gput_ne ha] at e1; rw [gput_ne hb] at e2
      exact g.one a b k1 k2 k3 n j1 j2 j3 m e1 e2
  · refine ⟨go.ex, fun b u hb gb => ?_, go.no, fun b z => go.st b (upd_none z)⟩
    have n2 : b ≠ p := fun z => by rw [z, hp] at hb; cases hb
    rw [upd_ne n2, gput_ne n2]; exact go.fr b u hb gb
def dDispT (tk tv : DTE) : DTE := fun S G Q => tk S G fun k G1 => tv S G1 fun v G2 => match k with
  | .tup ds => (match D.keys ds with
    | some ks => ∀ p, G2 p = none → Q (.rf p) (gput G2 p (.dT [(ks, v)]))
    | none => False)
  | _ => False
theorem de_dispT {ke ve : Expr} {tk tv : DTE} (hu : X.A.units + 100 < cLine) (hk : DE X ke tk) (hv : DE X ve tv) : DE X (.Dict [some ke] [ve] pos) (dDispT tk tv) := by
  obtain ⟨t1, p1, r1⟩ := hk.ex
  obtain ⟨t2, p2, r2⟩ := hv.ex
  refine ⟨_, pe_dispT (by omega) p1 p2, fun F H σ S G o Q' h Q kk => ?_⟩
  intro p hp
  have gp : G p = none := o.g.free hp
  have fp : F p = none := o.g.ex.nope hp
  have gr : Gr F H F (upd H p (.dT [])) := Gr.only o.g.ex hp
  refine r1 F _ σ S G ⟨o.g.grow gr, o.s⟩ _ h _ fun F1 H1 v1 d1 G1 e1 g1 q1 h1 => ?_
  refine r2 F1 H1 σ S G1 (Ok.go ⟨o.g.grow gr, o.s⟩ e1 g1) _ h1 _ fun F2 H2 v2 d2 G2 e2 g2 q2 h2 => ?_
  have e12 := e1.trans e2
  have fr := e12.fr p _ upd_same gp
  refine ⟨fr.1, ?_⟩
  dsimp only at h2
  split at h2
  · rename_i ds
    split at h2
    · rename_i ks ek
      cases q1 with
      | tup hb rs =>
        have hvs := rs.keys ek
        subst hvs
        refine ⟨ks, _, v2, rfl, g2.ex _ _ (e2.ex _ _ hb), ?_⟩
        have hz := own_later (K := X.K) (u := .dT [(ks, v2)]) (o := .dT [(ks, d2)]) hp ((gr.go (G := G)).trans e12) g2 (e12.no p _ upd_same gp fp (fun _ z => nomatch z)) fr.2 rfl ⟨[(ks, v2)], upd_same, rfl, .cons q2 .nil⟩
        exact kk _ _ _ _ _ hz.2 hz.1 (.rf p) (h2 p fr.2)
    · exact h2.elim
  · exact h2.elim
/-- int(n) -/
def rIntC (ds : List D) (G : GH) (Q : DQ) : Prop := match ds with
  | [.int i] => Q (.int i) G
  | [.bl b] => Q (.int (if b then 1 else 0)) G
  | _ => False
theorem cd_int : CallD X (.type "int") rIntC := by
  refine ⟨_, call_int1, fun F H G vs ds g rs Q' h Q k => ?_⟩
  unfold rIntC at h
  split at h
  · rename_i i
    cases rs with
    | cons r b =>
      cases b
      cases r
      exact .inl ⟨i, rfl, k _ _ _ _ G Go.refl g (.int i) h⟩
  · rename_i b0
    cases rs with
    | cons r b =>
      cases b
      cases r
      exact .inr ⟨b0, rfl, k _ _ _ _ G Go.refl g (.int _) h⟩
  · exact h.elim
end
end DL
end
section
set_option Elab.async false
set_option linter.all false
set_option maxRecDepth 100000
set_option maxHeartbeats 4000000
namespace DL
open PySem PySem.Spec PyProof.Rows L2
structure DK (X : Cx) (kws : List Keyword) (t' : DTA) : Prop where
  ex : ∃ t, PK X kws t ∧ ∀ F H σ S G, Ok X.K F H σ S G → ∀ Q', t' S G Q' → ∀ Q, KpA X.K F H G Q' Q → t σ H Q
/-- the arguments in the order of the parameters -/
def perm {α : Type} (z : α) (js : List Nat) (us ws : List α) : List α := js.map fun j => (us ++ ws)[j]?.getD z
structure CalK (P : Program) (w : World) (K : PySem.W.Frag) (mg : Str → Option Value) (base : Heap) (x : Str) (k : Nat) (ps : List Str) (sp : SpD) (n : Nat) (ks : List Str) (js : List Nat) : Prop where
  ex : ∃ f fd, FnG P w K mg base CX0 k f fd ps (SpOf K sp) ∧ mg x = some (.ref f) ∧ PySem.W.keepIn K (.ref f) = true ∧
    ∀ (s : Shared) (us ws : List Value), us.length = n → ws.length = ks.length → BindsTo s fd ⟨us, ks.zip ws⟩ (ps.zip (perm .none js us ws))
section
variable {X : Cx} {pos kpos : Pos} {nm : Option Str}
theorem dk_nil : DK X [] dNil := ⟨_, pk_nil, fun F H σ S G o Q' h Q k => k F H [] [] G Go.refl o.g .nil h⟩
theorem dk_cons {e : Expr} {kws : List Keyword} {ta : DTE} {tr : DTA} (ha : DE X e ta) (hr : DK X kws tr) : DK X (⟨nm, e, kpos⟩ :: kws) (dCons ta tr) := by
  obtain ⟨t1, p1, r1⟩ := ha.ex
  obtain ⟨t2, p2, r2⟩ := hr.ex
  refine ⟨_, pk_cons p1 p2, fun F H σ S G o Q' h Q k => ?_⟩
  refine r1 F H σ S G o _ h _ fun F1 H1 v d G1 e1 g1 q1 h1 => ?_
  refine r2 F1 H1 σ S G1 (o.go e1 g1) _ h1 _ fun F2 H2 vs ds G2 e2 g2 q2 h2 => ?_
  exact k F2 H2 _ _ G2 (e1.trans e2) g2 (.cons (q1.mono e2.ex) q2) h2
def dCallK (sp : SpD) (n m : Nat) (js : List Nat) (ta tk : DTA) : DTE := fun S G Q => ta S G fun ds G1 => tk S G1 fun zs G2 => (ds.length = n ∧ zs.length = m) ∧ sp (perm .non js ds zs) G2 Q
theorem vals_at {vs : List V} {us : List Value} (r : Vals vs us) (j : Nat) : RelV (vs[j]?.getD .non) (us[j]?.getD .none) := by
  induction r generalizing j with
  | nil => rfl
  | cons a t ih => cases j with
    | zero => exact a
    | succ j => simpa using ih j
theorem reps_at {K : PySem.W.Frag} {F : Hp} {vs : List V} {ds : List D} (r : Reps K F vs ds) (j : Nat) : Rep K F (vs[j]?.getD .non) (ds[j]?.getD .non) := by
  induction ds generalizing vs j with
  | nil => cases r; exact .non
  | cons d ds ih => cases r with
    | cons a t => cases j with
      | zero => exact a
      | succ j => simpa using ih t j
theorem vals_perm {vs zs : List V} {us ws : List Value} (r : Vals vs us) (q : Vals zs ws) : ∀ js : List Nat, Vals (perm .non js vs zs) (perm .none js us ws)
  | [] => .nil
  | j :: js => .cons (vals_at (r.append q) j) (vals_perm r q js)
theorem reps_app {K : PySem.W.Frag} {F : Hp} : ∀ {vs zs : List V} {ds es : List D}, Reps K F vs ds → Reps K F zs es → Reps K F (vs ++ zs) (ds ++ es)
  | _, _, _, _, .nil, q => q
  | _, _, _, _, .cons a t, q => .cons a (reps_app t q)
theorem reps_perm {K : PySem.W.Frag} {F : Hp} {vs zs : List V} {ds es : List D} (r : Reps K F vs ds) (q : Reps K F zs es) : ∀ js : List Nat, Reps K F (perm .non js vs zs) (perm .non js ds es)
  | [] => .nil
  | j :: js => .cons (reps_at (reps_app r q) j) (reps_perm r q js)
/-- f(k = v, ..) -/
theorem de_calK0 {x : Str} {k : Nat} {ps : List Str} {sp : SpD} {ks : List Str} {js : List Nat} {p : Pos} {kws : List Keyword} {tk : DTA} (c : CalK X.prog X.w X.K X.mg X.base x k ps sp 0 ks js) (hA : X.A.guards = some []) (hr : Room k X.A) (hw : DK X kws tk)
    (hg : Gl X x := by rfl) (hall : (backToKw pos (keywordEach kws X.env)).all (·.1.isSome) = true := by rfl) (hks : (backToKw pos (keywordEach kws X.env)).filterMap (·.1) = ks := by rfl)
    (hdb : (x == ("__debug__" : Str)) = false := by decide)
    (hpl : ((backTo pos (starEach [] X.env)).any (·.1) || (backToKw pos (keywordEach kws X.env)).any (·.1.isNone)) = false := by rfl) : DE X (.Call (.Name x p) [] kws pos) (dCallK sp 0 ks.length js dNil tk) := by
  obtain ⟨f, fd, Fn, hm, hk, hb⟩ := c.ex
  obtain ⟨t2, p2, r2⟩ := hw.ex
  refine ⟨fun σ H Q => t2 σ H fun zs H2 => zs.length = ks.length ∧ SpOf X.K sp (perm .non js [] zs) H2 Q (fun _ _ _ => False), ?_, fun F H σ S G o Q' h Q kk => ?_⟩
  · constructor
    intro pins s σ H Q I h
    apply wpAny_Call_Name_kw
    refine ld_glob I hg hm ?_ hdb
    refine PySem.W.callWith_KW0 (h₀ := X.base) I.ok.mod.kin hk hall (thn (p2.run pos pins s σ H _ I h) ?_) hpl
    rintro ws s2 ⟨zs, H2, I2, rz, l2, q2⟩
    refine ⟨I2.kIn, ?_⟩
    rw [hks]
    exact goes_fn (us := []) Fn hA hr _ (fun s3 i l => hb s3 [] ws rfl (by rw [← rz.length]; exact l2)) pass0 I2 (vals_perm .nil rz js) q2
  · refine r2 F H σ S G o _ h _ fun F2 H2 zs es G2 e2 g2 q2 h2 => ?_
    exact ⟨by rw [q2.length]; exact h2.1.2, F2, G2, _, Q', g2, reps_perm .nil q2 js, h2.2, kk.mono e2⟩
end
theorem cal_mkK {P : Program} {w : World} {K : PySem.W.Frag} {mg : Str → Option Value} {base : Heap} {x : Str} {st : Stmt} {N ps : List Str} {k : Nat} {sp : SpD} {n : Nat} {ks : List Str} {js : List Nat} (d : Def K mg x st) (sc : FnScope N ps (defScope st)) (len : ∀ ds G Q, sp ds G Q → ds.length = ps.length)
    (bi : ∀ (kV doc pm : Value) (an : Option Addr) (cdv ct : Value) (us : List Value), us.length = ps.length → bindArgs (PySem.W.fnOf x x (defArgs st) (defBody st) (defScope st) .none kV doc pm an cdv ct) ⟨us, []⟩ = pure (ps.zip us))
    (bk : ∀ (kV doc pm : Value) (an : Option Addr) (cdv ct : Value) (us ws : List Value), us.length = n → ws.length = ks.length → bindArgs (PySem.W.fnOf x x (defArgs st) (defBody st) (defScope st) .none kV doc pm an cdv ct) ⟨us, ks.zip ws⟩ = pure (ps.zip (perm .none js us ws)))
    (hb : ∀ (f : Addr) (cdv : Value) (A : Around) (outer : List Env) (s : Shared) (H : Hp) (E : XK), A.guards = some [] → Room k (A.deeper (envOfC x (defScope st) s.heap.objs.size f cdv)) →
      ∃ t', DPs (cxOf CX0 P w K mg base N x (defScope st) f cdv A outer s H E).nox (defBody st) t' ∧ ∀ ds G Q, sp ds G Q → t' (fin Q) (dstart N ds) G) : Cal P w K mg base x (k + 1) ps sp ∧ CalK P w K mg base x (k + 1) ps sp n ks js := by
  obtain ⟨f, fd, Fu, hm⟩ := d.ex
  have fn := fn_mk (P := P) (w := w) (mg := mg) (base := base) Fu sc len (hb f)
  refine ⟨⟨f, fd, fn, hm, Fu.kp, Fu.binds bi⟩, f, fd, fn, hm, Fu.kp, fun s us ws h1 h2 => ?_⟩
  obtain ⟨oc, od, kV, doc, pm, an, cdv, ct, osl, rfl, lk, hcd⟩ := Fu.ex
  exact .of_eq (bk kV doc pm an cdv ct us ws h1 h2)
end DL
end
section
set_option Elab.async false
set_option linter.all false
set_option maxRecDepth 100000
set_option maxHeartbeats 4000000
namespace DL
open PySem PySem.Spec PyProof.Rows L2
def keyD : Key → D
  | .inl n => .int n
  | .inr x => .str x
def ktD (ks : List Key) : D := .tup (ks.map keyD)
theorem keyD_rep {K : PySem.W.Frag} {F : Hp} (k : Key) : Rep K F (kV k) (keyD k) := by
  cases k with
  | inl n => exact .int n
  | inr x => exact .str x
theorem keysD_rep {K : PySem.W.Frag} {F : Hp} : ∀ ks : List Key, Reps K F (ks.map kV) (ks.map keyD)
  | [] => .nil
  | k :: ks => .cons (keyD_rep k) (keysD_rep ks)
theorem MRep.noTup {K : PySem.W.Frag} {F H : Hp} {G : GH} {a : Addr} {o : MO} {vs : List V} (m : MRep K F H G a o) : H a ≠ some (.tup vs) := by
  intro z
  cases o with
  | lst xs => obtain ⟨_, e, _⟩ := m; rw [e] at z; cases z
  | dK kds => obtain ⟨_, e, _⟩ := m; rw [e] at z; cases z
  | dT kds => obtain ⟨_, e, _⟩ := m; rw [e] at z; cases z
  | ins C kds => obtain ⟨_, _, e, _⟩ := m; rw [e] at z; cases z
  | deck k1 k2 k3 n => obtain ⟨_, _, _, _, e, _⟩ := m; rw [e] at z; cases z
  | dcell => obtain ⟨_, e⟩ := m; rw [e] at z; cases z
  | lkT o kvs kds => rw [m.1] at z; cases z
  | lkK o kvs kds => rw [m.1] at z; cases z
  | dN w kds => obtain ⟨xs, e, _⟩ := m; rw [e] at z; cases z
  | lkN w o xs kds => rw [m.1] at z; cases z
  | dU w kds => obtain ⟨xs, e, _⟩ := m; rw [e] at z; cases z
  | lkU w o xs kds => rw [m.1] at z; cases z
  | tupU o vs ds => rw [m.1] at z; cases z
/-- a tuple that stands there is frozen -/
theorem Gok.tupF {K : PySem.W.Frag} {F H : Hp} {G : GH} (g : Gok K F H G) {q : Addr} {vs : List V} {ds : List D} (hq : H q = some (.tup vs)) (rs : ∀ F', Reps K F' vs ds) : ∃ F', Go F H G F' H G ∧ Gok K F' H G ∧ Rep K F' (.ref q) (.tup ds) := by
  have ex : Ex F (upd F q (.tup vs)) := fun a o e => by
    by_cases z : a = q
    · subst z
      have := g.ex _ _ e
      rw [hq] at this; cases this
      exact upd_same
    · rw [upd_ne z]; exact e
  refine ⟨upd F q (.tup vs), ⟨ex, fun _ _ h gh => ⟨h, gh⟩, fun b u hb gb fb t => ?_, fun _ z => z⟩, ⟨fun a o e => ?_, fun a o e => ?_, g.one⟩, .tup upd_same (rs _)⟩
  · have z : b ≠ q := fun z => by rw [z, hq] at hb; cases hb; exact t vs rfl
    rw [upd_ne z]; exact fb
  · by_cases z : a = q
    · subst z; rw [upd_same] at e; cases e; exact hq
    · rw [upd_ne z] at e; exact g.ex _ _ e
  · obtain ⟨f, m⟩ := g.at_ a o e
    have z : a ≠ q := fun z => m.noTup (z ▸ hq)
    exact ⟨by rw [upd_ne z]; exact f, m.move ex (fun _ _ h _ => h) fun _ h => h⟩
section
variable {X : Cx} {pos : Pos} {tg : Expr}
def diKeysT (te : DTE) : DTI := fun S G R => te S G fun d G1 => match d with
  | .rf p => (match G1 p with
    | some (.lkT o kvs kds) => R (kds.map fun kv => ktD kv.1) (fun G => G p = some (.lkT o kvs kds)) G1
    | _ => False)
  | _ => False
theorem di_keysT {e : Expr} {te : DTE} (h : DE X e te) : DI X tg e (diKeysT te) := by
  obtain ⟨t, p, r⟩ := h.ex
  refine ⟨_, pi_keys p, fun F H σ S G o R' h R k => ?_⟩
  refine r F H σ S G o _ h _ fun F1 H1 v d G1 e1 g1 q1 h1 => ?_
  dsimp only at h1
  split at h1
  · rename_i a
    split at h1
    · rename_i ob kvs kds ea
      cases q1
      obtain ⟨_, hh, hk, hr⟩ := g1.at_ a _ ea
      refine ⟨a, ob, rfl, .inr ⟨kvs, hh, k F1 H1 G1 _ _ _ e1 g1 ⟨fun F2 H2 G2 i d e2 g2 gd hd => ?_, fun F2 H2 G2 e2 g2 gd => ?_⟩ h1⟩⟩
      · obtain ⟨_, hh2, hk2, _⟩ := g2.at_ a _ gd
        rw [List.getElem?_map] at hd
        have hlen : kvs.length = kds.length := by simpa using congrArg List.length hk2
        cases ei : kds[i]? with
        | none => rw [ei] at hd; cases hd
        | some kv =>
          rw [ei] at hd
          cases hd
          have hi := (List.getElem?_eq_some_iff.mp ei).1
          refine ⟨⟨hh2, by omega⟩, fun x H3 hy => ?_⟩
          obtain ⟨rfl, kk, vv, q, hkv, rfl, hq⟩ := hy
          have ek : kk = kv.1 := by
            have z := congrArg (fun l => l[i]?) hk2
            simp only [List.getElem?_map, hkv, ei, Option.map_some, Option.some.injEq] at z
            exact z
          subst ek
          exact g2.tupF hq fun F' => keysD_rep _
      · obtain ⟨_, hh2, hk2, _⟩ := g2.at_ a _ gd
        have hlen : kvs.length = kds.length := by simpa using congrArg List.length hk2
        exact ⟨hh2, by simp; omega⟩
    · exact h1.elim
  · exact h1.elim
/-- the dict at p is locked while e is worked out -/
def dLock (t : DTE) : DTE := fun S G Q => ∃ p kds, G p = some (.dT kds) ∧ ∀ o kvs, t S (gput G p (.lkT o kvs kds)) fun d G' => G' p = some (.lkT o kvs kds) ∧ Q d (gput G' p (.dT kds))
theorem de_lock {e : Expr} {t' : DTE} (h : DE X e t') : DE X e (dLock t') := by
  obtain ⟨t, p, r⟩ := h.ex
  refine ⟨_, pe_lock p, fun F H σ S G o Q' h Q k => ?_⟩
  obtain ⟨a, kds, ga, h⟩ := h
  obtain ⟨fa, kvs, ha, hk, hr⟩ := o.g.at_ a _ ga
  refine ⟨a, .dT kvs, ha, trivial, fun od => ?_⟩
  have g1 : Gok X.K F (upd H a (.frz od (.dT kvs))) (gput G a (.lkT od kvs kds)) := o.g.put ga rfl rfl ⟨upd_same, hk, hr⟩
  refine r F _ σ S _ ⟨g1, o.s⟩ _ (h od kvs) _ fun F' H' v d G' go g2 rv q => ?_
  obtain ⟨ga2, q⟩ := q
  obtain ⟨fa2, hh2, hk2, hr2⟩ := g2.at_ a _ ga2
  refine ⟨hh2, ?_⟩
  have g3 : Gok X.K F' (upd H' a (.dT kvs)) (gput G' a (.dT kds)) := g2.put ga2 rfl rfl ⟨kvs, upd_same, hk2, hr2⟩
  refine k F' _ v d _ ?_ g3 rv q
  exact ((Go.put (u := .frz od (.dT kvs)) ga).trans go).trans (Go.put ga2)
def rItemL : DR2 := fun x y G Q => match x with
  | .rf p => (match G p with
    | some (.lkT _ _ kds) => (match y with
      | .tup ds => (match D.keys ds with
        | some k => (match valD kds k with
          | some d => Q d G
          | none => False)
        | none => False)
      | _ => False)
    | _ => False)
  | _ => False
theorem de_ixL {a b : Expr} {ta tb : DTE} (hu : X.A.units + 100 < cLine) (ha : DE X a ta) (hb : DE X b tb) (hs : PlainIx b := by intro _ _; rfl) : DE X (.Subscript a b pos) (dOp rItemL ta tb) := by
  obtain ⟨t1, p1, r1⟩ := ha.ex
  obtain ⟨t2, p2, r2⟩ := hb.ex
  refine ⟨_, pe_ix (ix_dict hu) p1 p2 hs, dop_of (a := a) (b := b) ?_ r1 r2⟩
  intro F H G x y dx dy g rx ry Q' h Q k
  unfold rItemL at h
  split at h
  · rename_i p
    split at h
    · rename_i o kvs kds gp
      split at h
      · rename_i ds
        split at h
        · rename_i ks ek
          split at h
          · rename_i d ed
            obtain ⟨_, hh, hk, hr⟩ := g.at_ p _ gp
            cases rx
            cases ry with
            | tup hb rs =>
              have eb := rs.keys ek
              subst eb
              have kr : KR X.K F kvs kds := ⟨hk, hr⟩
              obtain ⟨z, h1, h2⟩ := kr.val.1 d ed
              exact ⟨p, z, rfl, .inr ⟨kvs, ks, _, .inr ⟨o, hh⟩, rfl, g.ex _ _ hb, h1.symm⟩, k F H _ _ G Go.refl g h2 h⟩
          · exact h.elim
        · exact h.elim
      · exact h.elim
    · exact h.elim
  · exact h.elim
end
end DL
end
section
set_option Elab.async false
set_option linter.all false
set_option maxRecDepth 100000
set_option maxHeartbeats 4000000
namespace DL
open PySem PySem.Spec PyProof.Rows L2
structure PT where
  p : Addr
  k : List Key
  b : Addr
  v : V
def mergeT (kvs : List (List Key × V)) (es : List PT) : List (List Key × V) := es.foldl (fun acc e => putK acc e.k e.v) kvs
section
variable {X : Cx} {pos : Pos}
theorem pts_of {pins : List (Addr × Obj)} {σ : L2.St} {H : Hp} {s : Shared} (I : Inv X pins σ H s) : ∀ {es : List PT}, (∀ e ∈ es, H e.p = some (.tup [.ref e.b, e.v])) →
    ∃ ws : List (PT × Value), ws.map (·.1) = es ∧ ∀ x ∈ ws, IsTup s.heap x.1.p #[.ref x.1.b, x.2] ∧ RelV x.1.v x.2
  | [], _ => ⟨[], rfl, fun x hx => by simp at hx⟩
  | e :: es, h => by
    obtain ⟨ws, hw, hx⟩ := pts_of I (es := es) fun y hy => h y (by simp [hy])
    obtain ⟨its, rv, ht, _⟩ := I.tuple (.inl (.inl (h e (by simp))))
    obtain ⟨u, y, ei, ru, ry⟩ := vals2 rv
    subst ei
    cases (show u = Value.ref e.b from ru)
    refine ⟨(e, y) :: ws, by simp [hw], fun x hm => ?_⟩
    rcases List.mem_cons.mp hm with rfl | hm
    · exact ⟨ht, ry⟩
    · exact hx x hm
theorem KT_all {H : Hp} : ∀ {ws : List (PT × Value)} {kvs : List (List Key × V)} {xs : List (List Key × Addr × Value)}, KT H kvs xs → (∀ x ∈ ws, H x.1.b = some (.tup (x.1.k.map kV)) ∧ RelV x.1.v x.2) →
    KT H (mergeT kvs (ws.map (·.1))) (storedAllH xs (ws.map fun x => (x.1.k, x.1.b, x.2)))
  | [], kvs, xs, r, _ => r
  | w :: ws, kvs, xs, r, h => by
    obtain ⟨h1, h2⟩ := h w (by simp)
    exact KT_all (ws := ws) (r.put w.1.k h1 h2) fun x hx => h x (by simp [hx])
theorem mergeT_len : ∀ (es : List PT) (kvs : List (List Key × V)), (mergeT kvs es).length ≤ kvs.length + es.length
  | [], kvs => by simp [mergeT]
  | e :: es, kvs => by
    have h1 := mergeT_len es (putK kvs e.k e.v)
    have h2 := length_putK kvs e.k e.v
    have : mergeT kvs (e :: es) = mergeT (putK kvs e.k e.v) es := rfl
    rw [this, List.length_cons]
    omega
theorem cr_dictT (hc : X.calm = true) (hu : X.A.units + 100 < cLine) : CallR X (.type "dict") (fun xs H Q => ∃ (a : Addr) (es : List PT), xs = [.ref a] ∧ SqL X.K H a (es.map fun e => V.ref e.p) ∧ (∀ e ∈ es, H e.p = some (.tup [.ref e.b, e.v])) ∧ (∀ e ∈ es, H e.b = some (.tup (e.k.map kV))) ∧
    ∀ p, H p = none → Q (.ref p) (upd H p (.dT (mergeT [] es)))) := by
  intro pins s σ H xs us Q I r q
  obtain ⟨a, es, ex, hq, hp, hb, q⟩ := q
  subst ex
  obtain ⟨u, eu, rx⟩ := vals1 r
  subst eu
  cases rx
  obtain ⟨its, rv, pl, hz⟩ := I.list hq
  have ei := refs_at (ps := es.map (·.p)) (by rw [List.map_map]; exact rv)
  subst ei
  rw [List.length_map] at hz
  obtain ⟨ws, hw, hx⟩ := pts_of I hp
  subst hw
  obtain ⟨o, n, ho, hcl, hd, hdat⟩ := pl
  have hitems : PairItems s.heap (((ws.map (·.1)).map (·.p)).map Value.ref).toArray (fun j => ((ws.map fun x => x.1.p)[j]?).getD 0) (ws.map fun x => (Value.ref x.1.b, x.2)) := by
    refine ⟨by simp, fun j k v hj => ?_⟩
    rw [List.getElem?_map] at hj
    cases e : ws[j]? with
    | none => rw [e] at hj; cases hj
    | some x =>
      rw [e] at hj; cases hj
      refine ⟨by simp [e], .inl ?_⟩
      have hh := (hx x (List.mem_of_getElem? e)).1
      have e' : ((ws.map fun x => x.1.p)[j]?).getD 0 = x.1.p := by simp [e]
      show s.heap.IsTuple (((ws.map fun x => x.1.p)[j]?).getD 0) _
      rw [e']
      exact hh
  refine call_dict_pairsH (knd := tupleKind (mixKind X.prog X.w)) (ps := ws.map fun x => (x.1.k, x.1.b, x.2)) (PairArg.list a _ _ _) (I.ok.hd hc) (by show X.A.in1.in1.units < cLine; simp; omega) ⟨⟨o, n, ho, hcl, hd, hdat⟩, hitems⟩ ⟨by simp, fun i key v hr => ?_⟩ (fun h' hk x hxm => ?_) (by simpa using hz) fun h' tk hd' k => ?_
  · rw [PairRel, List.getElem?_map] at hr
    cases e : ws[i]? with
    | none => rw [e] at hr; cases hr
    | some x => rw [e] at hr; cases hr; exact ⟨x.1.k, x.1.b, by simp [e], rfl⟩
  · obtain ⟨y, hy, rfl⟩ := List.mem_map.mp hxm
    have hby := hb y.1 (List.mem_map.mpr ⟨y, hy, rfl⟩)
    obtain ⟨oo, items, n2, h1, h2, h3, h4⟩ := key_of I.hok hby
    have hlt := Heap.lt_size h1
    exact ⟨oo, items, n2, hk _ _ (Nat.ne_of_lt hlt) (by simp) h1, h2, h3, h4⟩
  · have hm : (s.heap.objs.size == sysModules) = false := beq_eq_false_iff_ne.mpr (Nat.ne_of_gt I.big)
    have hn := I.hok.fresh (Nat.le_refl s.heap.objs.size)
    have hlen : (mergeT [] (ws.map (·.1))).length ≤ sizeLine := by
      have := mergeT_len (ws.map (·.1)) []
      simp at this hz
      simp
      omega
    obtain ⟨q', es', ep, hq', h2, h3, h4, _, h5⟩ := hd'
    have kt : KT H (mergeT [] (ws.map (·.1))) (storedAllH [] (ws.map fun x => (x.1.k, x.1.b, x.2))) := KT_all .nil fun x hxm => ⟨hb x.1 (List.mem_map.mpr ⟨x, hxm, rfl⟩), (hx x hxm).2⟩
    refine ⟨.ref s.heap.objs.size, upd H s.heap.objs.size (.dT (mergeT [] (ws.map (·.1)))), I.laid (t' := tk) (fun b ob e => k b ob (by simp) e) (Nat.le_refl _) ⟨hlen, hm, _, kt.keeps fun c ys ec => ?_, q', es', ep, hq', h2, h3, h4, h5⟩, rfl, q _ hn⟩
    rw [upd_ne (ne_of_none ec hn)]
    exact ec
/-- pairs with tuple keys -/
def prsT : List D → Option (List (List Key × D))
  | [] => some []
  | .tup [.tup ks, v] :: r => (match D.keys ks, prsT r with
    | some k, some m => some ((k, v) :: m)
    | _, _ => none)
  | _ :: _ => none
def mergeDT (kds more : List (List Key × D)) : List (List Key × D) := more.foldl (fun acc kv => putD acc kv.1 kv.2) kds
theorem prsT_rep {K : PySem.W.Frag} {F : Hp} : ∀ {xs : List D} {ms : List (List Key × D)} {vs : List V}, prsT xs = some ms → Reps K F vs xs →
    ∃ es : List PT, vs = es.map (fun e => V.ref e.p) ∧ (∀ e ∈ es, F e.p = some (.tup [.ref e.b, e.v])) ∧ (∀ e ∈ es, F e.b = some (.tup (e.k.map kV))) ∧ es.map (·.k) = ms.map (·.1) ∧ Reps K F (es.map (·.v)) (ms.map (·.2))
  | [], ms, _, h, .nil => by
    cases h
    exact ⟨[], rfl, fun e he => by simp at he, fun e he => by simp at he, rfl, .nil⟩
  | x :: r, ms, _, h, .cons a b => by
    unfold prsT at h
    split at h
    · rename_i h1; cases h1
    · rename_i ks v r' h1
      cases h1
      split at h
      · rename_i k m ek em
        cases h
        obtain ⟨es, h2, h3, h4, h5, h6⟩ := prsT_rep em b
        cases a with
        | tup ha rs =>
          rename_i p ws
          cases rs with
          | cons r1 r2 =>
            cases r2 with
            | cons r3 r4 =>
              cases r4
              cases r1 with
              | tup hb rk =>
                rename_i bb wk
                have hk := rk.keys ek
                subst hk
                rename_i vv
                refine ⟨⟨p, k, bb, _⟩ :: es, by rw [h2]; rfl, fun e he => ?_, fun e he => ?_, by simp [h5], .cons r3 h6⟩
                · rcases List.mem_cons.mp he with rfl | he
                  · exact ha
                  · exact h3 e he
                · rcases List.mem_cons.mp he with rfl | he
                  · exact hb
                  · exact h4 e he
      · cases h
    · cases h
theorem KR_mergeT {K : PySem.W.Frag} {F : Hp} : ∀ {es : List PT} {ms : List (List Key × D)} {kvs : List (List Key × V)} {kds : List (List Key × D)}, es.map (·.k) = ms.map (·.1) → Reps K F (es.map (·.v)) (ms.map (·.2)) → KR K F kvs kds → KR K F (mergeT kvs es) (mergeDT kds ms)
  | [], [], kvs, kds, _, _, r => r
  | e :: es, m :: ms, kvs, kds, h, rs, r => by
    simp only [List.map_cons, List.cons.injEq] at h
    cases rs with
    | cons a b =>
      have : mergeT kvs (e :: es) = mergeT (putK kvs e.k e.v) es := rfl
      rw [this]
      show KR K F _ (mergeDT (putD kds m.1 m.2) ms)
      refine KR_mergeT h.2 b ?_
      rw [h.1]
      exact r.put a
  | [], _ :: _, _, _, h, _, _ => by simp at h
  | _ :: _, [], _, _, h, _, _ => by simp at h
def rDictT (ds : List D) (G : GH) (Q : DQ) : Prop := match ds with
  | [d] => (match d.cur G with
    | .lst xs => (match prsT xs with
      | some ms => Q (.dT (mergeDT [] ms)) G
      | none => False)
    | _ => False)
  | _ => False
theorem cd_dictT (hc : X.calm = true) (hu : X.A.units + 100 < cLine) : CallD X (.type "dict") rDictT := by
  refine ⟨_, cr_dictT hc hu, fun F H G vs ds g rs Q' h Q k => ?_⟩
  unfold rDictT at h
  split at h
  · rename_i d
    cases rs with
    | cons r b =>
      cases b
      split at h
      · rename_i xs ex
        split at h
        · rename_i ms em
          obtain ⟨a, ws, rfl, ha, rw'⟩ := cur_list g r ex
          obtain ⟨es, rfl, h3, h4, h5, h6⟩ := prsT_rep em rw'
          refine ⟨a, es, rfl, .inl (.inl ha), fun e he => g.ex _ _ (h3 e he), fun e he => g.ex _ _ (h4 e he), fun p hp => ?_⟩
          have gr := Gr.new (u := .dT (mergeT [] es)) g.ex hp
          have kr : KR X.K F (mergeT [] es) (mergeDT [] ms) := KR_mergeT h5 h6 ⟨rfl, .nil⟩
          have kr2 := kr.mono gr.ff
          exact k _ _ _ _ G gr.go (g.grow gr) (.dT upd_same kr2.ks kr2.vs) h
        · exact h.elim
      · exact h.elim
  · exact h.elim
end
end DL
end
section
set_option Elab.async false
set_option linter.all false
set_option maxRecDepth 100000
set_option maxHeartbeats 4000000
namespace DL
open PySem PySem.Spec PyProof.Rows L2
/-- what is known of the heap by G is known by some G' x, too -/
def Cv (G : GH) {α : Type} (P : α → Prop) (G' : α → GH) : Prop := ∀ K F H, Gok K F H G → ∃ x, P x ∧ Gok K F H (G' x) ∧ ∀ b, G b = none → G' x b = none
def Cv1 (G G' : GH) : Prop := ∀ K F H, Gok K F H G → Gok K F H G' ∧ ∀ b, G b = none → G' b = none
theorem go_view {F H : Hp} {G G' : GH} (h : ∀ b, G b = none → G' b = none) : Go F H G F H G' := ⟨Ex.refl F, fun b u e g => ⟨e, h b g⟩, fun _ _ _ _ f _ => f, fun _ z => z⟩
section
variable {X : Cx} {pos : Pos}
def dIn (t : DTS) : DTS := fun D' S G => ∃ (α : Type) (P : α → Prop) (G' : α → GH), Cv G P G' ∧ ∀ x, P x → t D' S (G' x)
theorem dps_in {body : List Stmt} {t' : DTS} (h : DPs X body t') : DPs X body (dIn t') := by
  obtain ⟨t, p, r⟩ := h.ex
  refine ⟨t, p, fun F H σ S G o D' h D0 k => ?_⟩
  obtain ⟨α, P, G', cv, h⟩ := h
  obtain ⟨x, px, g, fr⟩ := cv X.K F H o.g
  exact r F H σ S (G' x) ⟨g, o.s⟩ D' (h x px) D0 (k.mono (go_view fr))
def outE (D' : DEnds) : DEnds := { nx := fun S G => ∃ G2, Cv1 G G2 ∧ D'.nx S G2, rt := fun d G => ∃ G2, Cv1 G G2 ∧ D'.rt d G2, bk := fun S G => ∃ G2, Cv1 G G2 ∧ D'.bk S G2, ct := fun S G => ∃ G2, Cv1 G G2 ∧ D'.ct S G2 }
def dOut (t : DTS) : DTS := fun D' S G => t (outE D') S G
theorem dps_out {body : List Stmt} {t' : DTS} (h : DPs X body t') : DPs X body (dOut t') := by
  obtain ⟨t, p, r⟩ := h.ex
  refine ⟨t, p, fun F H σ S G o D' h D0 k => r F H σ S G o (outE D') h D0 ⟨?_, ?_, ?_, ?_⟩⟩
  · rintro F1 H1 σ1 S1 G1 e1 o1 ⟨G2, cv, q⟩
    obtain ⟨g, fr⟩ := cv X.K F1 H1 o1.g
    exact k.nx F1 H1 σ1 S1 G2 (e1.trans (go_view fr)) ⟨g, o1.s⟩ q
  · rintro F1 H1 v d G1 e1 g1 r1 ⟨G2, cv, q⟩
    obtain ⟨g, fr⟩ := cv X.K F1 H1 g1
    exact k.rt F1 H1 v d G2 (e1.trans (go_view fr)) g r1 q
  · rintro F1 H1 σ1 S1 G1 e1 o1 ⟨G2, cv, q⟩
    obtain ⟨g, fr⟩ := cv X.K F1 H1 o1.g
    exact k.bk F1 H1 σ1 S1 G2 (e1.trans (go_view fr)) ⟨g, o1.s⟩ q
  · rintro F1 H1 σ1 S1 G1 e1 o1 ⟨G2, cv, q⟩
    obtain ⟨g, fr⟩ := cv X.K F1 H1 o1.g
    exact k.ct F1 H1 σ1 S1 G2 (e1.trans (go_view fr)) ⟨g, o1.s⟩ q
end
/-- what may stand in an open deck -/
structure Deck where
  c : Addr
  g : Int
  t : Int
  ns : List Int
def Deck.ok (x : Deck) (n : Nat) : Prop := 0 ≤ x.t ∧ x.t + n ≤ 1099511627776 ∧ 0 ≤ x.g ∧ x.g < 4294967296 ∧ x.ns.length ≤ 63
def openG (G : GH) (p : Addr) (k1 k2 k3 : Str) (x : Deck) : GH := gput (gput G x.c (.lst (x.ns.map .int))) p (.dK [(.inr k1, .rf x.c), (.inr k2, .int x.g), (.inr k3, .int x.t)])
theorem MRep.other {K : PySem.W.Frag} {F H : Hp} {G G' : GH} {a : Addr} {o : MO} (h : MRep K F H G a o) (nd : ∀ k1 k2 k3 n, o ≠ .deck k1 k2 k3 n) : MRep K F H G' a o := by
  cases o with
  | deck k1 k2 k3 n => exact absurd rfl (nd k1 k2 k3 n)
  | _ => exact h
theorem ints_vs {K : PySem.W.Frag} {F : Hp} {ns : List Int} {vs : List V} (r : Reps K F vs (ns.map .int)) : vs = ns.map V.int := by
  induction ns generalizing vs with
  | nil => cases r; rfl
  | cons n ns ih => cases r with
    | cons a b => cases a; rw [ih b]; rfl
theorem deck_open {G : GH} {p : Addr} {k1 k2 k3 : Str} {n : Nat} (h : G p = some (.deck k1 k2 k3 n)) : Cv G (fun x : Deck => x.ok n ∧ G x.c = some .dcell ∧ x.c ≠ p ∧ ∀ a, a ≠ p → ∀ j1 j2 j3 m, G a ≠ some (.deck j1 j2 j3 m)) (openG G p k1 k2 k3) := by
  intro K F H g
  obtain ⟨fp, c, g0, t, ns, hp, hc, gc, h1, h2, h3, h4, h5⟩ := g.at_ p _ h
  have ne : c ≠ p := fun z => by rw [z, h] at gc; cases gc
  refine ⟨⟨c, g0, t, ns⟩, ⟨⟨h1, h2, h3, h4, h5⟩, gc, ne, fun a na j1 j2 j3 m z => na (g.one a p _ _ _ _ _ _ _ _ z h)⟩, ⟨g.ex, fun a o e => ?_, fun a b j1 j2 j3 m i1 i2 i3 m2 e1 e2 => ?_⟩, fun b hb => ?_⟩
  · unfold openG at e
    by_cases q : a = p
    · subst q
      rw [gput_same] at e; cases e
      exact ⟨fp, _, hp, rfl, .cons (.rf c) (.cons (.int _) (.cons (.int _) .nil))⟩
    · rw [gput_ne q] at e
      by_cases q2 : a = c
      · subst q2
        rw [gput_same] at e; cases e
        exact ⟨(g.at_ a _ gc).1, _, hc, Reps.ints ns⟩
      · rw [gput_ne q2] at e
        obtain ⟨f, m⟩ := g.at_ a o e
        refine ⟨f, m.other fun j1 j2 j3 m z => ?_⟩
        subst z
        exact q (g.one a p _ _ _ _ _ _ _ _ e h)
  · have n1 : ∀ a j1 j2 j3 m, openG G p k1 k2 k3 ⟨c, g0, t, ns⟩ a ≠ some (.deck j1 j2 j3 m) := fun a j1 j2 j3 m z => by
      unfold openG at z
      by_cases q : a = p
      · subst q; rw [gput_same] at z; cases z
      · rw [gput_ne q] at z
        by_cases q2 : a = c
        · subst q2; rw [gput_same] at z; cases z
        · rw [gput_ne q2] at z
          exact q (g.one a p _ _ _ _ _ _ _ _ z h)
    exact absurd e1 (n1 a j1 j2 j3 m)
  · have q : b ≠ p := fun z => by rw [z, h] at hb; cases hb
    have q2 : b ≠ c := fun z => by rw [z, gc] at hb; cases hb
    unfold openG
    rw [gput_ne q, gput_ne q2]; exact hb
def NoDeck (G : GH) : Prop := ∀ a k1 k2 k3 n, G a ≠ some (.deck k1 k2 k3 n)
/-- shut: budget n -/
def shutG (G : GH) (p c : Addr) (k1 k2 k3 : Str) (n : Nat) : GH := gput (gput G c .dcell) p (.deck k1 k2 k3 n)
theorem deck_shut {G : GH} {p : Addr} {k1 k2 k3 : Str} {n : Nat} {x : Deck} (nd : NoDeck G) (hp : G p = some (.dK [(.inr k1, .rf x.c), (.inr k2, .int x.g), (.inr k3, .int x.t)])) (hc : G x.c = some (.lst (x.ns.map .int))) (ok : x.ok n) : Cv1 G (shutG G p x.c k1 k2 k3 n) := by
  intro K F H g
  obtain ⟨fp, kvs, e1, e2, e3⟩ := g.at_ p _ hp
  obtain ⟨fc, vs, f1, f2⟩ := g.at_ x.c _ hc
  have ne : x.c ≠ p := fun z => by rw [z, hp] at hc; cases hc
  have ev := ints_vs f2
  subst ev
  have ek : kvs = [(.inr k1, .ref x.c), (.inr k2, .int x.g), (.inr k3, .int x.t)] := by
    match kvs, e2, e3 with
    | [(a1, b1), (a2, b2), (a3, b3)], e2, e3 =>
      simp only [List.map_cons, List.map_nil, List.cons.injEq, and_true] at e2
      obtain ⟨rfl, rfl, rfl⟩ := e2
      cases e3 with
      | cons r1 r2 => cases r2 with
        | cons r3 r4 => cases r4 with
          | cons r5 r6 => cases r1; cases r3; cases r5; rfl
  subst ek
  obtain ⟨o1, o2, o3, o4, o5⟩ := ok
  refine ⟨⟨g.ex, fun a o e => ?_, fun a b j1 j2 j3 m i1 i2 i3 m2 z1 z2 => ?_⟩, fun b hb => ?_⟩
  · unfold shutG at e
    by_cases q : a = p
    · subst q
      rw [gput_same] at e; cases e
      refine ⟨fp, x.c, x.g, x.t, x.ns, e1, f1, ?_, o1, o2, o3, o4, o5⟩
      unfold shutG
      rw [gput_ne ne, gput_same]
    · rw [gput_ne q] at e
      by_cases q2 : a = x.c
      · subst q2
        rw [gput_same] at e; cases e
        exact ⟨fc, _, f1⟩
      · rw [gput_ne q2] at e
        obtain ⟨f, m⟩ := g.at_ a o e
        exact ⟨f, m.other fun j1 j2 j3 m z => nd a j1 j2 j3 m (z ▸ e)⟩
  · have n1 : ∀ a j1 j2 j3 m, shutG G p x.c k1 k2 k3 n a = some (.deck j1 j2 j3 m) → a = p := fun a j1 j2 j3 m z => by
      unfold shutG at z
      by_cases q : a = p
      · exact q
      · rw [gput_ne q] at z
        by_cases q2 : a = x.c
        · subst q2; rw [gput_same] at z; cases z
        · rw [gput_ne q2] at z; exact absurd z (nd a j1 j2 j3 m)
    rw [n1 _ _ _ _ _ z1, n1 _ _ _ _ _ z2]
  · have q : b ≠ p := fun z => by rw [z, hp] at hb; cases hb
    have q2 : b ≠ x.c := fun z => by rw [z, hc] at hb; cases hb
    unfold shutG
    rw [gput_ne q, gput_ne q2]; exact hb
/-- one draw taken -/
theorem shut_open {G : GH} {p c : Addr} {k1 k2 k3 : Str} {m n : Nat} {o1 o2 : MO} (h : G p = some (.deck k1 k2 k3 m)) (hc : G c = some .dcell) (ne : c ≠ p) : shutG (gput (gput G c o1) p o2) p c k1 k2 k3 n = gput G p (.deck k1 k2 k3 n) := by
  funext b
  unfold shutG
  by_cases q : b = p
  · subst q; rw [gput_same, gput_same]
  · rw [gput_ne q, gput_ne q]
    by_cases q2 : b = c
    · subst q2; rw [gput_same, hc]
    · rw [gput_ne q2, gput_ne q, gput_ne q2]
theorem open_nodeck {G : GH} {p : Addr} {k1 k2 k3 : Str} {x : Deck} (nd : ∀ a, a ≠ p → ∀ j1 j2 j3 m, G a ≠ some (.deck j1 j2 j3 m)) : NoDeck (openG G p k1 k2 k3 x) := by
  intro a j1 j2 j3 m z
  unfold openG at z
  by_cases q : a = p
  · subst q; rw [gput_same] at z; cases z
  · rw [gput_ne q] at z
    by_cases q2 : a = x.c
    · subst q2; rw [gput_same] at z; cases z
    · rw [gput_ne q2] at z; exact nd a q j1 j2 j3 m z
theorem deck_close {G : GH} {p : Addr} {k1 k2 k3 : Str} {m n : Nat} {x : Deck} (h : G p = some (.deck k1 k2 k3 m)) (gc : G x.c = some .dcell) (ne : x.c ≠ p) (nd : ∀ a, a ≠ p → ∀ j1 j2 j3 m, G a ≠ some (.deck j1 j2 j3 m)) (ok : x.ok n) :
    Cv1 (openG G p k1 k2 k3 x) (gput G p (.deck k1 k2 k3 n)) := by
  have := deck_shut (G := openG G p k1 k2 k3 x) (p := p) (k1 := k1) (k2 := k2) (k3 := k3) (n := n) (x := x) (open_nodeck nd) gput_same (by unfold openG; rw [gput_ne ne, gput_same]) ok
  unfold openG at this
  rw [shut_open h gc ne] at this
  exact this
end DL
end
section
set_option Elab.async false
set_option linter.all false
set_option maxRecDepth 100000
namespace DL
open PySem PySem.Spec PyProof.Rows L2
theorem dx2 : (∀ (tk tv : DTE) (S : DS) (G : GH) (Q : DQ), dDispT tk tv S G Q = (tk S G fun k G1 => tv S G1 fun v G2 => match k with
    | .tup ds => (match D.keys ds with
      | some ks => ∀ p, G2 p = none → Q (.rf p) (gput G2 p (.dT [(ks, v)]))
      | none => False)
    | _ => False)) ∧
  (∀ (te : DTE) (S : DS) (G : GH) (Q : DQ), dSortSet te S G Q = (te S G fun d G1 => match d.cur G1 with
    | .lst xs => (match intsD xs with
      | some ns => ns.length < 64 ∧ Q (.lst ((isort1 ns).map .int)) G1
      | none => False)
    | _ => False)) ∧
  (∀ (sp : SpD) (n m : Nat) (js : List Nat) (ta tk : DTA) (S : DS) (G : GH) (Q : DQ), dCallK sp n m js ta tk S G Q = (ta S G fun ds G1 => tk S G1 fun zs G2 => (ds.length = n ∧ zs.length = m) ∧ sp (perm .non js ds zs) G2 Q)) ∧
  (∀ (t : DTS) (D' : DEnds) (S : DS) (G : GH), dOut t D' S G = t (outE D') S G) ∧
  (∀ (te : DTE) (S : DS) (G : GH) (R : List D → (GH → Prop) → GH → Prop), diKeysT te S G R = (te S G fun d G1 => match d with
    | .rf p => (match G1 p with
      | some (.lkT o kvs kds) => R (kds.map fun kv => ktD kv.1) (fun G => G p = some (.lkT o kvs kds)) G1
      | _ => False)
    | _ => False)) := ⟨fun _ _ _ _ _ => rfl, fun _ _ _ _ => rfl, fun _ _ _ _ _ _ _ _ _ => rfl, fun _ _ _ _ => rfl, fun _ _ _ _ => rfl⟩
theorem gput_comm {G : GH} {a b : Addr} {o o' : MO} (h : a ≠ b) : gput (gput G a o) b o' = gput (gput G b o') a o := by
  funext c
  by_cases q : c = a
  · subst q; rw [gput_ne h, gput_same, gput_same]
  · rw [gput_ne q]
    by_cases q2 : c = b
    · subst q2; rw [gput_same, gput_same]
    · rw [gput_ne q2, gput_ne q2, gput_ne q]
/-- a thing changed under another -/
theorem gput_under {G : GH} {a b : Addr} {o o' o2 : MO} (h : a ≠ b) : gput (gput (gput G a o) b o') a o2 = gput (gput G a o2) b o' := by
  rw [gput_comm h, gput_gput, ← gput_comm h]
theorem sub_new2 {G : GH} {p z : Addr} {o o' : MO} (hp : G p = none) (hz : G z = none) (ne : z ≠ p) (h1 : o.isDeck = false) (h2 : o'.isDeck = false) : Sub G (gput (gput G p o) z o') :=
  (sub_new hp h1).trans (sub_new (by rw [gput_ne ne]; exact hz) h2)
theorem item_dT (kds : List (List Key × D)) (ds : List D) : D.item (.dT kds) (.tup ds) = ((D.keys ds).map (valD kds)).join := rfl
theorem item_dKs (kds : List (Key × D)) (x : Str) : D.item (.dK kds) (.str x) = valD kds (.inr x) := rfl
theorem item_lst (xs : List D) (n : Int) : D.item (.lst xs) (.int n) = atI xs n := rfl
theorem inn_dT (kds : List (List Key × D)) (ds : List D) : D.inn (.tup ds) (.dT kds) = ((D.keys ds).map (valD kds)).map Option.isSome := rfl
structure Mak (P : Program) (w : World) (K : PySem.W.Frag) (mg : Str → Option Value) (base : Heap) (x : Str) (C : Addr) (k : Nat) (ps : List Str) (sp : SpD) : Prop where
  ex : ∃ f fd, Mk K C f ∧ FnG P w K mg base CX0 k f fd ps (SpOf K sp) ∧ mg x = some (.ref C) ∧ Binds K fd ps []
theorem de_mak {X : Cx} {pos : Pos} {x : Str} {C : Addr} {k : Nat} {ps : List Str} {sp : SpD} {p : Pos} {e : Expr} {es : List Expr} {ta : DTA} (c : Mak X.prog X.w X.K X.mg X.base x C k ps sp) (hA : X.A.guards = some []) (hr : Room (k + 1) X.A) (ha : DA X (e :: es) ta) (hg : Gl X x := by rfl) (hdb : (x == ("__debug__" : Str)) = false := by decide)
    (he : starEach (e :: es) X.env = (false, eval e X.env) :: starEach es X.env := by rfl) (hpl : (backTo pos (starEach es X.env)).any (·.1) = false := by rfl) : DE X (.Call (.Name x p) (e :: es) [] pos) (dCold (dMake C sp ta)) := by
  obtain ⟨f, fd, M, Fn, hm, hb⟩ := c.ex
  exact de_cold (de_make M Fn hA hr hg hm hb ha hdb he hpl)
/-- the __init__ of the class at C -/
structure DefI (K : PySem.W.Frag) (C : Addr) (qual : Str) (st : Stmt) : Prop where
  ex : ∃ f fd, Fun K "__init__" qual st f fd ∧ Mk K C f
theorem mak_mk {P : Program} {w : World} {K : PySem.W.Frag} {mg : Str → Option Value} {base : Heap} {x qual : Str} {C : Addr} {st : Stmt} {N ps : List Str} {k : Nat} {sp : SpD} (d : DefI K C qual st) (hm : mg x = some (.ref C)) (sc : FnScope N ps (defScope st)) (len : ∀ ds G Q, sp ds G Q → ds.length = ps.length)
    (bi : ∀ (kV doc pm : Value) (an : Option Addr) (cdv ct : Value) (us : List Value), us.length = ps.length → bindArgs (PySem.W.fnOf "__init__" qual (defArgs st) (defBody st) (defScope st) .none kV doc pm an cdv ct) ⟨us, []⟩ = pure (ps.zip us))
    (hb : ∀ (f : Addr) (cdv : Value) (A : Around) (outer : List Env) (s : Shared) (H : Hp) (E : XK), A.guards = some [] → Room k (A.deeper (envOfC qual (defScope st) s.heap.objs.size f cdv)) →
      ∃ t', DPs (cxOf CX0 P w K mg base N qual (defScope st) f cdv A outer s H E).nox (defBody st) t' ∧ ∀ ds G Q, sp ds G Q → t' (fin Q) (dstart N ds) G) : Mak P w K mg base x C (k + 1) ps sp := by
  obtain ⟨f, fd, Fu, M⟩ := d.ex
  exact ⟨f, fd, M, fn_mk Fu sc len (hb f), hm, Fu.binds bi⟩
theorem dx3 : (∀ (x : Str) (G : GH) (Q : DQ), rIsiD [.str x, .ty "str"] G Q = Q (.bl true) G) ∧ (∀ (x : Int) (G : GH) (Q : DQ), rIsiD [.int x, .ty "int"] G Q = Q (.bl true) G) ∧ (∀ (x : Int) (G : GH) (Q : DQ), rIsiD [.int x, .ty "bool"] G Q = Q (.bl false) G) ∧
  (∀ (xs : List D) (G : GH) (Q : DQ), rIsiD [.tup xs, .ty "tuple"] G Q = Q (.bl true) G) ∧
  (∀ (xs : List D) (G : GH) (Q : DQ), rTupleD [.lst xs] G Q = Q (.tup xs) G) ∧ (∀ (xs : List D) (G : GH) (Q : DQ), rTupleD [.tup xs] G Q = Q (.tup xs) G) ∧
  (∀ (xs : List D) (G : GH) (Q : DQ), rLenD [.lst xs] G Q = Q (.int (xs.length : Nat)) G) ∧ (∀ (xs : List D) (G : GH) (Q : DQ), rLenD [.tup xs] G Q = Q (.int (xs.length : Nat)) G) ∧
  (∀ (i : Int) (G : GH) (Q : DQ), rIntC [.int i] G Q = Q (.int i) G) ∧
  (∀ (x : Str) (lo hi : Option Int) (G : GH) (Q : DQ), rSlice (.str x) lo hi G Q = (x.length ≤ sizeLine ∧ Q (.str (cutS x lo hi)) G)) ∧
  (∀ (xs : List D) (lo hi : Option Int) (G : GH) (Q : DQ), rSlice (.tup xs) lo hi G Q = Q (.tup (DL.cutD xs lo hi)) G) ∧
  (∀ (xs : List D) (lo hi : Option Int) (G : GH) (Q : DQ), rSlice (.lst xs) lo hi G Q = Q (.lst (DL.cutD xs lo hi)) G) ∧
  (∀ (ns : List Int) (lo hi : Option Int) (G : GH) (Q : DQ), rSlice (.scr ns) lo hi G Q = Q (.lst ((DL.cutD ns lo hi).map .int)) G) ∧
  (∀ (i j : Int) (G : GH) (Q : DQ), rAddD (.int i) (.int j) G Q = Q (.int (i + j)) G) ∧
  (∀ (a b : Str) (G : GH) (Q : DQ), rAddD (.str a) (.str b) G Q = (a.length + b.length ≤ sizeLine ∧ Q (.str (a ++ b)) G)) ∧
  (∀ (a b : List D) (G : GH) (Q : DQ), rAddD (.tup a) (.tup b) G Q = (a.length + b.length ≤ sizeLine ∧ Q (.tup (a ++ b)) G)) ∧
  (∀ (i j : Int) (G : GH) (Q : DQ), rMulD (.int i) (.int j) G Q = (CMul i j ∧ Q (.int (i * j)) G)) ∧
  (∀ (b : Bool), (!(!b)) = b) ∧ (∀ (x y : D), okE x y = true ∧ True ↔ okE x y = true) :=
  ⟨fun _ _ _ => rfl, fun _ _ _ => rfl, fun _ _ _ => rfl, fun _ _ _ => rfl, fun _ _ _ => rfl, fun _ _ _ => rfl, fun _ _ _ => rfl, fun _ _ _ => rfl, fun _ _ _ => rfl, fun _ _ _ _ _ => rfl, fun _ _ _ _ _ => rfl, fun _ _ _ _ _ => rfl, fun _ _ _ _ _ => rfl, fun _ _ _ _ => rfl, fun _ _ _ _ => rfl, fun _ _ _ _ => rfl, fun _ _ _ _ => rfl, fun b => by cases b <;> rfl, fun _ _ => by simp⟩
theorem len_str {x : Str} (h : x.length ≤ sizeLine) (G : GH) (Q : DQ) : rLenD [.str x] G Q = Q (.int (x.length : Nat)) G := by
  simp [rLenD, D.cur, D.len, h]
theorem all_map {α : Type} (f : α → Bool) (l : List α) (G : GH) (Q : DQ) : rAllD [.lst (l.map fun x => .bl (f x))] G Q = Q (.bl (l.all f)) G := by
  have e : bools (l.map fun x => D.bl (f x)) = some (l.map f) := by
    rw [← bools_map, List.map_map]; rfl
  show (match bools (l.map fun x => D.bl (f x)) with | some bs => Q (.bl (bs.all id)) G | none => False) = _
  rw [e]
  simp [List.all_map]
theorem inn_str (x z : Str) : D.inn (.str x) (.str z) = some (strIn x z) := rfl
theorem lc_someA {α : Type} {ds : List D} {gd : GH → Prop} {p : Pat} {tt : DTT} {te : DTE} {vs : List Nat} {S : DS} {G : GH} {Q : DQ} (l : List α) (g : α → D) (b : α → Bool) (f : α → D) (e0 : ds = l.map g) (hz : l.length ≤ sizeLine) (hg : gd G)
    (h : ∀ a ∈ l, ∃ S2, p.put (g a) (dwipe S vs) = some S2 ∧ (∀ Q : Bool → GH → Prop, Q (b a) G → tt S2 G Q) ∧ (b a = true → ∀ Q : DQ, Q (f a) G → te S2 G Q)) (q : Q (.lst ((l.filter b).map f)) G) : LcB ds gd p tt te vs S G Q := by
  subst e0
  refine ⟨by simpa using hz, fun i acc G' => G' = G ∧ acc = ((l.take i).filter b).map f, ⟨rfl, by simp⟩, fun _ _ _ z => z.1 ▸ hg, ?_, ?_⟩
  · rintro i acc G' d ⟨rfl, rfl⟩ hd
    rw [List.getElem?_map] at hd
    cases ei : l[i]? with
    | none => rw [ei] at hd; cases hd
    | some a =>
      rw [ei] at hd
      cases hd
      obtain ⟨S2, h1, h2, h3⟩ := h a (List.mem_of_getElem? ei)
      have e : l.take (i + 1) = l.take i ++ [a] := by rw [List.take_add_one, ei]; rfl
      refine ⟨S2, h1, h2 _ ?_⟩
      cases hb : b a with
      | true =>
        rw [if_pos rfl]
        refine h3 hb _ ⟨rfl, ?_⟩
        rw [e, List.filter_append, List.map_append]
        simp [hb]
      | false =>
        rw [if_neg Bool.false_ne_true]
        refine ⟨rfl, ?_⟩
        rw [e, List.filter_append, List.map_append]
        simp [hb]
  · rintro acc G' ⟨rfl, rfl⟩
    rw [List.length_map, List.take_length]
    exact q
theorem lc_mapA {α : Type} {ds : List D} {gd : GH → Prop} {p : Pat} {te : DTE} {vs : List Nat} {S : DS} {G : GH} {Q : DQ} (l : List α) (g : α → D) (f : α → D) (e0 : ds = l.map g) (hz : l.length ≤ sizeLine) (hg : gd G)
    (h : ∀ a ∈ l, ∃ S2, p.put (g a) (dwipe S vs) = some S2 ∧ ∀ Q : DQ, Q (f a) G → te S2 G Q) (q : Q (.lst (l.map f)) G) : LcB ds gd p dYes te vs S G Q := by
  refine lc_someA l g (fun _ => true) f e0 hz hg (fun a ha => ?_) (by rw [show l.filter (fun _ => true) = l from List.filter_eq_self.mpr fun _ _ => rfl]; exact q)
  obtain ⟨S2, h1, h2⟩ := h a ha
  exact ⟨S2, h1, fun Q z => z, fun _ => h2⟩
theorem zip_map {α β γ : Type} (f : α → β → γ) : ∀ (l : List α) (m : List β), List.zipWith f l m = (l.zip m).map fun p => f p.1 p.2
  | [], _ => by simp
  | _ :: _, [] => by simp
  | a :: l, b :: m => by simp [zip_map f l m]
end DL
end
section
set_option Elab.async false
set_option linter.all false
set_option maxRecDepth 100000
set_option maxHeartbeats 4000000
namespace DL
open PySem PySem.Spec PyProof.Rows L2
section
variable {X : Cx} {pos : Pos}
theorem Reps.strs {K : PySem.W.Frag} {F : Hp} : ∀ (ns : List Str), Reps K F (ns.map V.str) (ns.map D.str)
  | [] => .nil
  | n :: ns => .cons (.str n) (Reps.strs ns)
def rBestD (le : Int → Int → Prop) (ds : List D) (G : GH) (Q : DQ) : Prop := match ds with
  | [d] => (match d.cur G with
    | .lst xs => (match intsD xs with
      | some ns => 0 < ns.length ∧ ∀ m, m ∈ ns → (∀ n ∈ ns, le n m) → Q (.int m) G
      | none => False)
    | _ => False)
  | _ => False
theorem cd_max (hc : X.calm = true) : CallD X (.builtin "max") (rBestD fun n m => n ≤ m) := by
  refine ⟨_, cr_max hc, fun F H G vs ds g rs Q' h Q k => ?_⟩
  unfold rBestD at h
  split at h
  · rename_i d
    split at h
    · rename_i xs ex
      split at h
      · rename_i ns en
        cases rs with
        | cons a b =>
          cases b
          obtain ⟨p, us, rfl, hp, ru⟩ := cur_list g a ex
          rw [intsD_rep en ru] at hp
          exact ⟨p, ns, rfl, .inl (.inl hp), h.1, fun m hm hle => k F H _ _ G Go.refl g (.int _) (h.2 m hm hle)⟩
      · exact h.elim
    · exact h.elim
  · exact h.elim
end
end DL
end
section
set_option Elab.async false
set_option linter.all false
set_option maxRecDepth 100000
set_option maxHeartbeats 4000000
namespace DL
open PySem PySem.Spec PyProof.Rows L2
section
variable {X : Cx} {pos : Pos}
def lists : List D → Option (List (List D))
  | [] => some []
  | .lst x :: r => (lists r).map (x :: ·)
  | _ :: _ => none
end
end DL
end
section
set_option Elab.async false
set_option linter.all false
set_option maxRecDepth 100000
set_option maxHeartbeats 4000000
namespace DL
open PySem PySem.Spec PyProof.Rows L2
section
variable {X : Cx} {pos : Pos}
def prsK : List D → Option (List (Key × D))
  | [] => some []
  | .tup [k, v] :: r => (match k.key, prsK r with
    | some k, some m => some ((k, v) :: m)
    | _, _ => none)
  | _ :: _ => none
theorem prsK_rep {K : PySem.W.Frag} {F : Hp} : ∀ {xs : List D} {ms : List (Key × D)} {vs : List V}, prsK xs = some ms → Reps K F vs xs →
    ∃ (ps : List Addr) (kvs : List (Key × V)), vs = ps.map V.ref ∧ Paired (fun p kv => F p = some (.tup [kV kv.1, kv.2])) ps kvs ∧ KR K F kvs ms
  | [], ms, _, h, .nil => by cases h; exact ⟨[], [], rfl, .nil, KR.nil⟩
  | x :: r, ms, _, h, .cons a b => by
    unfold prsK at h
    split at h
    · rename_i h1; cases h1
    · rename_i kd v r' h1
      cases h1
      split at h
      · rename_i k m ek em
        cases h
        obtain ⟨ps, kvs, h2, h3, h4⟩ := prsK_rep em b
        cases a with
        | tup ha rs =>
          rename_i p ws
          cases rs with
          | cons r1 r2 =>
            cases r2 with
            | cons r3 r4 =>
              cases r4
              rename_i v1 v2
              have hk : v1 = kV k := r1.key ek
              subst hk
              exact ⟨p :: ps, (k, v2) :: kvs, by rw [h2]; rfl, .cons ha h3, h4.cons r3⟩
      · cases h
    · cases h
def rDictK (ds : List D) (G : GH) (Q : DQ) : Prop := match ds with
  | [d] => (match d.cur G with
    | .lst xs => (match prsK xs with
      | some ms => Q (.dK (mergeD [] ms)) G
      | none => False)
    | _ => False)
  | _ => False
theorem cd_dictK (hc : X.calm = true) : CallD X (.type "dict") rDictK := by
  refine ⟨_, call_dictP hc, fun F H G vs ds g rs Q' h Q k => ?_⟩
  unfold rDictK at h
  split at h
  · rename_i d
    cases rs with
    | cons r b =>
      cases b
      split at h
      · rename_i xs ex
        split at h
        · rename_i ms em
          obtain ⟨a, ws, rfl, ha, rw'⟩ := cur_list g r ex
          obtain ⟨ps, kvs, rfl, h3, h4⟩ := prsK_rep em rw'
          refine ⟨a, ps, kvs, rfl, .inl (.inl ha), L2.Paired.mapP h3 (fun _ _ z => .inl (.inl (g.ex _ _ z))), fun p hp => ?_⟩
          have gr := Gr.new (u := .dK (mergeK [] kvs)) g.ex hp
          have kr : KR X.K F (mergeK [] kvs) (mergeD [] ms) := KR.merge h4 KR.nil
          have kr2 := kr.mono gr.ff
          exact k _ _ _ _ G gr.go (g.grow gr) (.dK upd_same kr2.ks kr2.vs) h
        · exact h.elim
      · exact h.elim
  · exact h.elim
end
end DL
end
section
set_option Elab.async false
set_option linter.all false
set_option maxRecDepth 100000
set_option maxHeartbeats 4000000
namespace DL
open PySem PySem.Spec PyProof.Rows L2
end DL
end
section
set_option Elab.async false
set_option linter.all false
set_option maxRecDepth 100000
set_option maxHeartbeats 4000000
namespace DL
open PySem PySem.Spec PyProof.Rows L2
structure Fine (d : D) (n w : Nat) : Prop where
  pl : d.pl = true
  sh : d.py.showable = true
  dp : d.py.depth ≤ n
  ls : d.py.leavesShort 13 = true
  bk : d.py.bulk ≤ w
theorem Fine.mono {d : D} {n w n' w' : Nat} (h : Fine d n w) (h1 : n ≤ n') (h2 : w ≤ w') : Fine d n' w' := ⟨h.pl, h.sh, Nat.le_trans h.dp h1, h.ls, Nat.le_trans h.bk h2⟩
theorem Fine.len {d : D} {n w : Nat} (h : Fine d n w) (hw : w ≤ 1000000) : (D.shown d).length ≤ sizeLine := PyData.shown_fits_bulk (B := 13) (by decide) (by decide) h.ls (Nat.le_trans h.bk (Nat.le_trans hw (by decide)))
end DL
end
section
set_option Elab.async false
set_option linter.all false
set_option maxRecDepth 100000
set_option maxHeartbeats 4000000
namespace DL
open PySem PySem.Spec PyProof.Rows L2
abbrev AlE : Type := He.AlD × Bool
def obsE (fa : List He.Fa) (fn : List He.DefD) (ex : PySem.W.Frag → Bool) (K : PySem.W.Frag) : AlE := (He.obsD fa fn K, ex K)
def insB (K : PySem.W.Frag) (C : Addr) : Bool := He.eqO (PySem.W.findIn K (.ref C) "__class__") (some (some (.builtin "object.__class__"))) && (He.eqO (PySem.W.specialIn K (.builtin "object.__class__") "__get__") (some (some (.builtin "getset_descriptor.__get__"))) &&
  (decide (PySem.W.takesIn K (.builtin "object.__class__") = some true) && (decide (PySem.W.mroIn K C (.type "object") = some true) && decide (PySem.W.kitOne K (.ref C) (.ref C) = some true))))
theorem insB_ok {K : PySem.W.Frag} {C : Addr} (c : Cls K C) (h : insB K C = true) : C8.InsC K C := by
  unfold insB at h
  simp only [Bool.and_eq_true, decide_eq_true_eq] at h
  exact ⟨c, He.eqO_ok h.1, He.eqO_ok h.2.1, h.2.2.1, h.2.2.2.1, h.2.2.2.2⟩
end DL
end
section
set_option Elab.async false
set_option linter.all false
set_option maxRecDepth 100000
set_option maxHeartbeats 4000000
namespace DL
open PySem PySem.Spec PyProof.Rows L2
section
variable {X : Cx} {pos : Pos}
structure NeO (K : PySem.W.Frag) (C : Addr) : Prop where
  ne : PySem.W.findIn K (.ref C) "__ne__" = some (some (.builtin "object.__ne__"))
  hm : PySem.W.mroIn K C (.type "object") = some true
  sf : PySem.W.selfFirst K C = true
def neB (K : PySem.W.Frag) (C : Addr) : Bool := He.eqO (PySem.W.findIn K (.ref C) "__ne__") (some (some (.builtin "object.__ne__"))) && (decide (PySem.W.mroIn K C (.type "object") = some true) && PySem.W.selfFirst K C)
theorem neB_ok {K : PySem.W.Frag} {C : Addr} (h : neB K C = true) : NeO K C := by
  unfold neB at h
  simp only [Bool.and_eq_true, decide_eq_true_eq] at h
  exact ⟨He.eqO_ok h.1, h.2.1, h.2.2⟩
end
end DL
end
section
set_option Elab.async false
set_option linter.all false
set_option maxRecDepth 100000
set_option maxHeartbeats 4000000
namespace DL
open PySem PySem.Spec PyProof.Rows L2
end DL
end
section
set_option Elab.async false
set_option linter.all false
set_option maxRecDepth 100000
set_option maxHeartbeats 4000000
namespace DL
open PySem PySem.Spec PyProof.Rows L2
end DL
end
section
set_option Elab.async false
set_option linter.all false
set_option maxRecDepth 100000
set_option maxHeartbeats 4000000
namespace DL
open PySem PySem.Spec PyProof.Rows L2
mutual
/-- a value that is a key -/
inductive NkV (H : Hp) : V → NestedKey → Prop
  | non : NkV H .non .none
  | int (i : Int) : NkV H (.int i) (.num i)
  | str (x : Str) : NkV H (.str x) (.text x)
  | tup {a : Addr} {vs : List V} {ks : List NestedKey} : H a = some (.tup vs) → NksV H vs ks → NkV H (.ref a) (.tup ks)
inductive NksV (H : Hp) : List V → List NestedKey → Prop
  | nil : NksV H [] []
  | cons {v : V} {vs : List V} {k : NestedKey} {ks : List NestedKey} : NkV H v k → NksV H vs ks → NksV H (v :: vs) (k :: ks)
end
mutual
theorem Rep.nk {K : PySem.W.Frag} {F H : Hp} (e : Ex F H) : ∀ {v : V} {d : D} {k : NestedKey}, Rep K F v d → d.nkey = some k → NkV H v k
  | _, _, _, .non, h => by cases h; exact .non
  | _, _, _, .bl b, h => by cases h
  | _, _, _, .int i, h => by cases h; exact .int i
  | _, _, _, .str x, h => by cases h; exact .str x
  | _, _, _, .ty n, h => by cases h
  | _, _, _, .tup (ds := ds) q r, h => by
    simp only [D.nkey] at h
    obtain ⟨ks, hk, rfl⟩ := Option.map_eq_some_iff.mp h
    exact .tup (e _ _ q) (Reps.nk e r hk)
  | _, _, _, .lst q r, h => by cases h
  | _, _, _, .dK q l r, h => by cases h
  | _, _, _, .dT q l r, h => by cases h
  | _, _, _, .obj q l r, h => by cases h
  | _, _, _, .rf a, h => by cases h
  | _, _, _, .scr q, h => by cases h
  | _, _, _, .kup q r, h => by cases h
theorem Reps.nk {K : PySem.W.Frag} {F H : Hp} (e : Ex F H) : ∀ {vs : List V} {ds : List D} {ks : List NestedKey}, Reps K F vs ds → D.nkeys ds = some ks → NksV H vs ks
  | _, _, _, .nil, h => by cases h; exact .nil
  | _, _, _, .cons (d := d) (ds := ds) r t, h => by
    simp only [D.nkeys] at h
    split at h
    · rename_i k ks h1 h2
      cases h
      exact .cons (Rep.nk e r h1) (Reps.nk e t h2)
    · cases h
end
mutual
theorem NkV.is {P : Program} {w : World} {H : Hp} {h : Heap} (ok : HOk P w H h) : ∀ {v : V} {k : NestedKey} {u : Value}, NkV H v k → RelV v u → NestedIs h k u
  | _, _, _, .non, r => by cases r; exact .none
  | _, _, _, .int i, r => by obtain ⟨t, rfl⟩ := r; exact .int i t
  | _, _, _, .str x, r => by obtain ⟨t, rfl⟩ := r; exact .text x t
  | _, _, _, .tup q t, r => by
    cases r
    obtain ⟨_, its, rs, o, h1, h2, n, h3⟩ := (show ObjOk P w H h _ (.tup _) from ok _ _ q)
    exact .tup h1 h2 h3 (by simpa using NksV.is ok t rs)
theorem NksV.is {P : Program} {w : World} {H : Hp} {h : Heap} (ok : HOk P w H h) : ∀ {vs : List V} {ks : List NestedKey} {us : List Value}, NksV H vs ks → Vals vs us → NestedAll h ks us
  | _, _, _, .nil, r => by cases r; exact .nil
  | _, _, _, .cons a t, r => by
    cases r with
    | cons r1 r2 => exact .cons (NkV.is ok a r1) (NksV.is ok t r2)
end
/-- the dict stands there -/
def NAt (w : World) (H : Hp) (a : Addr) (xs : List (NestedKey × Addr × Value)) : Prop :=
  H a = some (.ext (RawN w a xs)) ∧ xs.length ≤ sizeLine ∧ ∀ x ∈ xs, NkV H (.ref x.2.1) x.1 ∧ x.1.depth ≤ 8
theorem NAt.dict {P : Program} {w : World} {H : Hp} {h : Heap} {a : Addr} {xs : List (NestedKey × Addr × Value)} (n : NAt w H a xs) (ok : HOk P w H h) : (a == sysModules) = false ∧ h.DictOfH (nestedKind P w) a xs := by
  obtain ⟨e, _, hk⟩ := n
  obtain ⟨⟨hs, o, es, ep, h1, h2, h3, h4, h5⟩, _⟩ := (show ObjOk P w H h a (.ext (RawN w a xs)) from ok _ _ e)
  exact ⟨hs, o, es, ep, h1, h2, h3, h4, fun x hx => ⟨NkV.is ok (hk x hx).1 rfl, (hk x hx).2⟩, h5⟩
theorem KN.keys {K : PySem.W.Frag} {F H : Hp} (e : Ex F H) : ∀ {kds : List (NestedKey × D)} {xs : List (NestedKey × Addr × Value)}, KN K F kds xs → ∀ x ∈ xs, NkV H (.ref x.2.1) x.1 ∧ x.1.depth ≤ 8
  | _, _, .nil, x, hx => by cases hx
  | _, _, .cons (a := p) (b := q) h t, x, hx => by
    rcases List.mem_cons.mp hx with rfl | hx
    · obtain ⟨z1, ⟨d, z2, zd, z3⟩, _⟩ := h
      rw [← z1]
      exact ⟨Rep.nk e z3 z2, zd⟩
    · exact KN.keys e t x hx
theorem KN.val {K : PySem.W.Frag} {F : Hp} (k : NestedKey) : ∀ {kds : List (NestedKey × D)} {xs : List (NestedKey × Addr × Value)}, KN K F kds xs → (valD kds k = none ∧ atKey xs k = none) ∨ ∃ d p v, valD kds k = some d ∧ atKey xs k = some p ∧ RelV v p.2 ∧ Rep K F v d
  | _, _, .nil => .inl ⟨rfl, rfl⟩
  | _, _, .cons (a := p) (b := q) h t => by
    obtain ⟨z1, _, v, z4, z5⟩ := h
    by_cases e : p.1 = k
    · refine .inr ⟨p.2, q.2, v, ?_, ?_, z4, z5⟩
      · simp [valD, List.find?_cons, e]
      · simp [atKey, List.find?_cons, ← z1, e]
    · have e2 : ¬ q.1 = k := fun z => e (z1.trans z)
      rcases KN.val k t with ⟨h1, h2⟩ | ⟨d, p', v', h1, h2, h3, h4⟩
      · refine .inl ⟨?_, ?_⟩
        · simpa [valD, List.find?_cons, e] using h1
        · simpa [atKey, List.find?_cons, e2] using h2
      · refine .inr ⟨d, p', v', ?_, ?_, h3, h4⟩
        · simpa [valD, List.find?_cons, e] using h1
        · simpa [atKey, List.find?_cons, e2] using h2
theorem KN.len {K : PySem.W.Frag} {F : Hp} {kds : List (NestedKey × D)} {xs : List (NestedKey × Addr × Value)} (h : KN K F kds xs) : kds.length = xs.length := Paired.length h
theorem any_val {kds : List (NestedKey × D)} {k : NestedKey} : (kds.any fun kv => decide (kv.1 = k)) = (valD kds k).isSome := by
  unfold valD
  induction kds with
  | nil => rfl
  | cons a l ih =>
    by_cases e : a.1 = k
    · simp [List.find?_cons, e]
    · simp only [List.any_cons, e, decide_false, Bool.false_or, List.find?_cons]
      exact ih
theorem KN.put {K : PySem.W.Frag} {F : Hp} {kds : List (NestedKey × D)} {xs : List (NestedKey × Addr × Value)} (h : KN K F kds xs) {k : NestedKey} {b : Addr} {r : Value} {dk d : D} {v : V} (hk : dk.nkey = some k) (hd : k.depth ≤ 8) (rk : Rep K F (.ref b) dk) (rv : RelV v r) (rd : Rep K F v d) :
    KN K F (putD kds k d) (storedH xs k b r) := by
  have ev := KN.val k h
  unfold putD storedH
  rw [any_val]
  rcases ev with ⟨h1, h2⟩ | ⟨d', p', v', h1, h2, _⟩
  · rw [h1, h2]
    rw [if_neg (by simp), if_neg (by simp)]
    exact Paired.snoc h ⟨rfl, ⟨dk, hk, hd, rk⟩, v, rv, rd⟩
  · rw [h1, h2, if_pos (show (some d').isSome = true from rfl), if_pos (show (some p').isSome = true from rfl)]
    clear h1 h2
    induction h with
    | nil => exact .nil
    | @cons p q ps qs hq t ih =>
      refine .cons ?_ ih
      obtain ⟨z1, z2, v2, z4, z5⟩ := hq
      unfold putAt
      dsimp only
      by_cases e : p.1 = k
      · rw [if_pos e, if_pos (by rw [← z1]; exact e)]
        exact ⟨z1, z2, v, rv, rd⟩
      · rw [if_neg e, if_neg (by rw [← z1]; exact e)]
        exact ⟨z1, z2, v2, z4, z5⟩
end DL
end
section
set_option Elab.async false
set_option linter.all false
set_option maxRecDepth 100000
set_option maxHeartbeats 4000000
namespace DL
open PySem PySem.Spec PyProof.Rows L2
end DL
end
section
set_option Elab.async false
set_option linter.all false
set_option maxRecDepth 100000
set_option maxHeartbeats 4000000
namespace DL
open PySem PySem.Spec PyProof.Rows L2
end DL
end
section
set_option Elab.async false
set_option linter.all false
set_option maxRecDepth 100000
set_option maxHeartbeats 4000000
namespace DL
open PySem PySem.Spec PyProof.Rows L2
section
variable {X : Cx}
def vNil (neg : Bool) : R2 := fun x y H Q => ∃ a b xs, x = .ref a ∧ y = .ref b ∧ H a = some (.lst xs) ∧ H b = some (.lst []) ∧ Q (.bl (if neg then !xs.isEmpty else xs.isEmpty)) H
theorem nil_at {pins : List (Addr × Obj)} {σ : L2.St} {H : Hp} {s : Shared} {a : Addr} {xs : List V} (I : Inv X pins σ H s) (h : H a = some (.lst xs)) : ∃ its : List Value, its.length = xs.length ∧ s.heap.IsList a its.toArray := by
  obtain ⟨_, its, n, r, hl, e⟩ := I.lstM h
  exact ⟨its, hl.symm, _, e, rfl, n, rfl⟩
theorem op_eqNil (hu : X.A.units + 100 < cLine) : OpR X (compareOp .Eq) (vNil false) := by
  intro pins s σ H x y v u Q I rx ry h
  obtain ⟨a, b, xs, rfl, rfl, ha, hb, q⟩ := h
  cases rx
  cases ry
  obtain ⟨its, hl, la⟩ := nil_at I ha
  obtain ⟨jts, hj, lb⟩ := nil_at I hb
  show wpAny (model X.prog X.w) X.A (richCompare .Eq (.ref a) (.ref b)) (EP X pins σ Q) X.xe s
  have hj0 : jts = [] := List.length_eq_zero_iff.mp hj
  subst hj0
  cases xs with
  | nil =>
    have hi0 : its = [] := List.length_eq_zero_iff.mp hl
    subst hi0
    exact PySem.SeqAt.RcAt.lists (e := fun _ => true) la lb rfl (by omega) (fun j h1 _ => absurd h1 (by simp)) X.prog X.w _ _ ⟨.bl true, H, I, rfl, q⟩
  | cons z zs =>
    exact PySem.SeqAt.RcAt.lists_lengths la lb (by simp only [List.length_cons] at hl; simp [hl]) (by omega) X.prog X.w _ _ ⟨.bl false, H, I, rfl, q⟩
def rNil (neg : Bool) : DR2 := fun x y G Q => match x.cur G, y.cur G with
  | .lst xs, .lst [] => Q (.bl (if neg then !xs.isEmpty else xs.isEmpty)) G
  | _, _ => False
theorem nil_core {neg : Bool} {F H : Hp} {G : GH} {x y : V} {dx dy : D} (g : Gok X.K F H G) (rx : Rep X.K F x dx) (ry : Rep X.K F y dy) {Q' : DQ} (h : rNil neg dx dy G Q') {Q : VK} (k : KpE X.K F H G Q' Q) : vNil neg x y H Q := by
  unfold rNil at h
  split at h
  · rename_i xs e1 e2
    obtain ⟨a, vs, rfl, ha, rs⟩ := cur_list g rx e1
    obtain ⟨b, ws, rfl, hb, rt⟩ := cur_list g ry e2
    cases rt
    refine ⟨a, b, vs, rfl, rfl, ha, hb, ?_⟩
    have e : vs.isEmpty = xs.isEmpty := by
      have := rs.length
      cases vs <;> cases xs <;> simp_all
    rw [e]
    exact k F H _ _ G Go.refl g (.bl _) h
  · exact h.elim
theorem od_eqNil (hu : X.A.units + 100 < cLine) : OpD X (compareOp .Eq) (rNil false) := ⟨_, op_eqNil hu, fun F H G x y dx dy g rx ry Q' h Q k => nil_core g rx ry h k⟩
end
end DL
end
section
set_option Elab.async false
set_option linter.all false
set_option maxRecDepth 100000
set_option maxHeartbeats 4000000
namespace DL
open PySem PySem.Spec PyProof.Rows L2
end DL
end
section
set_option Elab.async false
set_option linter.all false
set_option maxRecDepth 100000
set_option maxHeartbeats 4000000
namespace DL
open PySem PySem.Spec PyProof.Rows L2 HT
end DL
end
section
set_option Elab.async false
set_option linter.all false
set_option maxRecDepth 100000
set_option maxHeartbeats 4000000
namespace DL
open PySem PySem.Spec PyProof.Rows L2
mutual
def D.pyR : D → PyData
  | .non => .none
  | .bl b => .bool b
  | .int i => .int i
  | .str x => .str x
  | .tup xs | .kup xs => .tuple (D.pysR xs)
  | .lst xs => .list (D.pysR xs)
  | .dK _ => .dict []
  | _ => .none
def D.pysR : List D → List PyData
  | [] => []
  | x :: xs => D.pyR x :: D.pysR xs
end
mutual
def D.plR : D → Bool
  | .non | .bl _ | .int _ | .str _ => true
  | .tup xs | .lst xs | .kup xs => D.plsR xs
  | .dK kds => kds.isEmpty
  | _ => false
def D.plsR : List D → Bool
  | [] => true
  | x :: xs => D.plR x && D.plsR xs
end
/-- the place of the modules is in the written part -/
def SysM (K : PySem.W.Frag) : Prop := ∃ o, K.lookup sysModules = some o
section
variable {X : Cx} {pins : List (Addr × Obj)} {σ : L2.St} {F H : Hp} {s : Shared}
theorem sysM_free (I : Inv X pins σ H s) (h : SysM X.K) : H sysModules = none := by
  obtain ⟨o, e⟩ := h
  exact (I.bs _ o (I.ok.mod.kin _ _ e)).2
mutual
theorem Rep.readsR (I : Inv X pins σ H s) (e : Ex F H) (hs : H sysModules = none) : ∀ (d : D) (v : V) (u : Value), Rep X.K F v d → d.plR = true → RelV v u → ∃ as, Reads s.heap u d.pyR as ∧ sysModules ∉ as
  | .non, _, _, h, _, r => by cases h; cases r; exact ⟨_, Reads.none, by simp⟩
  | .bl b, _, _, h, _, r => by cases h; cases r; exact ⟨_, Reads.bool b, by simp⟩
  | .int i, _, _, h, _, r => by cases h; obtain ⟨t, rfl⟩ := r; exact ⟨_, Reads.int i t, by simp⟩
  | .str x, _, _, h, _, r => by cases h; obtain ⟨t, rfl⟩ := r; exact ⟨_, Reads.str x t, by simp⟩
  | .tup xs, _, _, h, p, r => by
    cases h with
    | tup ha rs =>
      cases r
      obtain ⟨its, rv, ⟨o, ho, hc, n, hd⟩, _⟩ := I.tuple (.inl (.inl (e _ _ ha)))
      obtain ⟨as, hr, hn⟩ := Reps.readsR I e hs xs _ its rs p rv
      exact ⟨_, Reads.tuple ho hc hd hr, hn⟩
  | .kup xs, _, _, h, p, r => by
    cases h with
    | kup ha rs =>
      cases r
      obtain ⟨its, rv, ⟨o, ho, hc, n, hd⟩, _⟩ := I.tuple (e.sqt ha)
      obtain ⟨as, hr, hn⟩ := Reps.readsR I e hs xs _ its rs p rv
      exact ⟨_, Reads.tuple ho hc hd hr, hn⟩
  | .lst xs, _, _, h, p, r => by
    cases h with
    | lst ha rs =>
      cases r
      obtain ⟨its, rv, ⟨o, n, ho, hc, _, hd⟩, _⟩ := I.list (.inl (.inl (e _ _ ha)))
      obtain ⟨as, hr, hn⟩ := Reps.readsR I e hs xs _ its rs p rv
      refine ⟨_, Reads.list ho hc hd hr, ?_⟩
      rw [List.mem_cons, not_or]
      exact ⟨fun z => (by rw [← z] at ha; rw [e _ _ ha] at hs; cases hs), hn⟩
  | .dK kds, _, _, h, p, r => by
    cases h with
    | dK ha hk rs =>
      cases r
      have : kds = [] := List.isEmpty_iff.mp p
      subst this
      rename_i a kvs
      have : kvs = [] := by simpa using hk
      subst this
      obtain ⟨hz, hs0, vs, kv, hdo⟩ := I.hok a _ (e _ _ ha)
      cases kv
      have rd : Reads s.heap (.ref a) (.dict []) [a] := PyProof.V.reads_dictOf (enc := fun k : Key => match k with | .inl i => PyData.int i | .inr x => PyData.str x) (bs := []) (D := []) (fun k key h => by
        have r := relV_key (show keyIs k key = true from h)
        cases k with
        | inl i => obtain ⟨t, rfl⟩ := r; exact .int i t
        | inr x => obtain ⟨t, rfl⟩ := r; exact .str x t) hdo .nil
      refine ⟨_, rd, ?_⟩
      rw [List.mem_singleton]
      exact fun z => by rw [← z] at ha; rw [e _ _ ha] at hs; cases hs
  | .ty _, _, _, _, p, _ => by cases p
  | .dT _, _, _, _, p, _ => by cases p
  | .obj _ _, _, _, _, p, _ => by cases p
  | .rf _, _, _, _, p, _ => by cases p
  | .scr _, _, _, _, p, _ => by cases p
theorem Reps.readsR (I : Inv X pins σ H s) (e : Ex F H) (hs : H sysModules = none) : ∀ (ds : List D) (vs : List V) (us : List Value), Reps X.K F vs ds → D.plsR ds = true → Vals vs us → ∃ as, ReadsAll s.heap us (D.pysR ds) as ∧ sysModules ∉ as
  | [], _, _, h, _, r => by
    cases h
    cases r
    exact ⟨_, ReadsAll.nil, by simp⟩
  | d :: ds, _, _, h, p, r => by
    have p' : d.plR = true ∧ D.plsR ds = true := by simpa [D.plsR] using p
    cases h with
    | cons h1 h2 =>
      cases r with
      | cons r1 r2 =>
        obtain ⟨as, q1, n1⟩ := Rep.readsR I e hs d _ _ h1 p'.1 r1
        obtain ⟨bs, q2, n2⟩ := Reps.readsR I e hs ds _ _ h2 p'.2 r2
        refine ⟨_, ReadsAll.cons q1 q2, ?_⟩
        rw [List.mem_append, not_or]
        exact ⟨n1, n2⟩
end
end
section
variable {X : Cx} {pos : Pos}
def rReprG (ds : List D) (G : GH) (Q : DQ) : Prop := match ds with
  | [d] => d.plR = true ∧ d.pyR.showable = true ∧ d.pyR.depth ≤ 60 ∧ d.pyR.shown.length ≤ sizeLine ∧ Q (.str d.pyR.shown) G
  | _ => False
theorem cr_reprG (hu : X.A.units + 100 < cLine) (hA : X.A.guards = some []) (hm : SysM X.K) : CallR X (.builtin "repr") (fun vs H Q => ∃ F v d, vs = [v] ∧ Ex F H ∧ Rep X.K F v d ∧ d.plR = true ∧ d.pyR.showable = true ∧ d.pyR.depth ≤ 60 ∧ d.pyR.shown.length ≤ sizeLine ∧ Q (.str d.pyR.shown) H) := by
  intro pins s σ H vs us Q I r h
  obtain ⟨F, v, d, rfl, ex, hd, hp, hs, hde, hz, q⟩ := h
  cases r with
  | cons r rr =>
    cases rr
    obtain ⟨as, rd, hn⟩ := Rep.readsR I ex (sysM_free I hm) d _ _ hd hp r
    revert rd hs hde hz q
    generalize d.pyR = py
    intro hs hde hz q rd
    have gen : ∀ {a : Addr}, Reads s.heap (.ref a) py as → wpAny (model X.prog X.w) X.A (call (.builtin "repr") [.ref a]) (EP X pins σ Q) X.xe s := fun rd => by
      refine repr_of_reads' (h₀ := s.heap) rd hs (fun _ => hn) hA (by omega) (fun _ _ z => z) (fun h' u tk hk => ?_) hz
      exact ⟨.str _, H, I.kept (t' := tk) hk, ⟨_, rfl⟩, q⟩
    cases rd with
    | none => exact P.repr_of_none ⟨.str _, H, I.tok _, ⟨_, rfl⟩, q⟩
    | bool b => exact P.repr_of_bool ⟨.str _, H, I.tok _, ⟨_, rfl⟩, by cases b <;> exact q⟩
    | int i t => exact P.repr_of_int (of_decide_eq_true hs) ⟨.str _, H, I.tok _, ⟨_, rfl⟩, q⟩
    | str x t => exact P.repr_of_str ⟨.str _, H, I.tok _, ⟨_, rfl⟩, q⟩ hz
    | list h1 h2 h3 h4 => exact gen (.list h1 h2 h3 h4)
    | tuple h1 h2 h3 h4 => exact gen (.tuple h1 h2 h3 h4)
    | dict h1 h2 h3 h4 h5 => exact gen (.dict h1 h2 h3 h4 h5)
theorem cd_reprG (hu : X.A.units + 100 < cLine) (hA : X.A.guards = some []) (hm : SysM X.K) : CallD X (.builtin "repr") rReprG := by
  refine ⟨_, cr_reprG hu hA hm, fun F H G vs ds g rs Q' h Q k => ?_⟩
  unfold rReprG at h
  split at h
  · rename_i d
    cases rs with
    | cons r b =>
      cases b
      obtain ⟨h1, h2, h3, h4, h5⟩ := h
      exact ⟨F, _, d, rfl, g.ex, r, h1, h2, h3, h4, k F H _ _ G Go.refl g (.str _) h5⟩
  · exact h.elim
end
def obsSG (n : Nat) (fa : List He.Fa) (fn : List He.DefD) (ex : PySem.W.Frag → Bool) (g : Addr → Option Obj) : AlE := obsE fa fn ex (He.frG g (sysModules :: He.asD g n))
def hookS (n : Nat) (fa : List He.Fa) (fn : List He.DefD) (ex : PySem.W.Frag → Bool) : PySem.W.Hook where
  α := AlE
  obs := fun s => obsSG n fa fn ex s.heap.get?
  val := fun _ => (He.valD fn, true)
  says := fun _ h => ∃ K : PySem.W.Frag, K.In h ∧ He.SaysD fa fn K ∧ ex K = true
  of := fun _ _ e => ⟨_, He.frG_in, congrArg Prod.fst e, congrArg Prod.snd e⟩
  keeps := fun _ _ _ ⟨K, hK, c⟩ k => ⟨K, PySem.W.Frag.In.keeps hK k, c⟩
theorem obsSG_eq {n : Nat} {fa : List He.Fa} {fn : List He.DefD} {ex : PySem.W.Frag → Bool} {g : Addr → Option Obj} {s : Shared} (h : ∀ a, g a = s.heap.get? a) : obsSG n fa fn ex g = (hookS n fa fn ex).obs s := by
  have e : g = s.heap.get? := funext h
  rw [e] <;> rfl
def sysB (K : PySem.W.Frag) : Bool := (K.lookup sysModules).isSome
theorem sysB_ok {K : PySem.W.Frag} (h : sysB K = true) : SysM K := Option.isSome_iff_exists.mp h
end DL
end
section
set_option Elab.async false
set_option linter.all false
set_option maxRecDepth 100000
set_option maxHeartbeats 4000000
namespace DL
open PySem PySem.Spec PyProof.Rows L2
end DL
end
section
set_option Elab.async false
set_option linter.all false
set_option maxRecDepth 100000
set_option maxHeartbeats 4000000
namespace DL
open PySem PySem.Spec PyProof.Rows L2
end DL
end
section
set_option Elab.async false
set_option linter.all false
set_option maxRecDepth 100000
set_option maxHeartbeats 4000000
namespace DL
open PySem PySem.Spec PyProof.Rows L2 ClX
end DL
end
section
set_option Elab.async false
set_option linter.all false
set_option maxRecDepth 100000
set_option maxHeartbeats 4000000
namespace DL
open PySem PySem.Spec PyProof.Rows L2 ClX
end DL
end
section
set_option Elab.async false
set_option linter.all false
set_option maxRecDepth 100000
set_option maxHeartbeats 4000000
namespace DL
open PySem PySem.Spec PyProof.Rows L2
end DL
end
section
set_option Elab.async false
set_option linter.all false
set_option maxRecDepth 100000
set_option maxHeartbeats 4000000
namespace DL
open PySem PySem.Spec PyProof.Rows L2
end DL
end
section
set_option Elab.async false
set_option linter.all false
set_option maxRecDepth 100000
set_option maxHeartbeats 4000000
namespace DL
open PySem PySem.Spec PyProof.Rows L2
section
variable {X : Cx} {pos : Pos}
def dStar (te : DTE) (tr : DTA) : DTA := fun S G Q => te S G fun d G1 => match d.cur G1 with
  | .tup xs => tr S G1 fun ys G2 => Q (xs ++ ys) G2
  | .lst xs => tr S G1 fun ys G2 => Q (xs ++ ys) G2
  | _ => False
theorem da_star {e : Expr} {es : List Expr} {te : DTE} {tr : DTA} {p : Pos} (he : DE X e te) (hr : DA X es tr) (hs : starEach (.Starred e p :: es) X.env = (true, eval e X.env) :: starEach es X.env := by rfl) : DA X (.Starred e p :: es) (dStar te tr) := by
  obtain ⟨t1, p1, r1⟩ := he.ex
  obtain ⟨t2, p2, r2⟩ := hr.ex
  refine ⟨_, StX.pa_star p1 p2 hs, fun F H σ S G o Q' h Q k => ?_⟩
  refine r1 F H σ S G o _ h _ fun F1 H1 v d G1 e1 g1 q1 h1 => ?_
  dsimp only at h1
  split at h1
  · rename_i xs ex
    obtain ⟨a, vs, rfl, ha, rs⟩ := cur_tup q1 ex
    refine ⟨a, vs, rfl, .inl (.inl (.inl (g1.ex _ _ ha))), r2 F1 H1 σ S G1 (o.go e1 g1) _ h1 _ fun F2 H2 zs ds G2 e2 g2 q2 h2 => ?_⟩
    exact k F2 H2 _ _ G2 (e1.trans e2) g2 ((rs.mono e2.ex).append q2) h2
  · rename_i xs ex
    obtain ⟨a, vs, rfl, ha, rs⟩ := cur_list g1 q1 ex
    refine ⟨a, vs, rfl, .inr (.inl (.inl ha)), r2 F1 H1 σ S G1 (o.go e1 g1) _ h1 _ fun F2 H2 zs ds G2 e2 g2 q2 h2 => ?_⟩
    exact k F2 H2 _ _ G2 (e1.trans e2) g2 ((rs.mono e2.ex).append q2) h2
  · exact h1.elim
end
end DL
end
section
set_option Elab.async false
set_option linter.all false
set_option maxRecDepth 100000
set_option maxHeartbeats 4000000
namespace DL
open PySem PySem.Spec PyProof.Rows L2
end DL
end
section
set_option Elab.async false
set_option linter.all false
set_option maxRecDepth 100000
set_option maxHeartbeats 4000000
namespace DL
open PySem PySem.Spec PyProof.Rows L2
abbrev KB := Addr × List Key
end DL
end
section
set_option Elab.async false
set_option linter.all false
set_option maxRecDepth 100000
set_option maxHeartbeats 4000000
namespace DL
open PySem PySem.Spec PyProof.Rows L2
abbrev KTup (P : Program) (w : World) (h : Heap) (k : List Key) (b : Addr) : Prop := IsTupleKey (mixKind P w) h k b
abbrev kh (P : Program) (w : World) (k : List Key) : Int := tupleKeyHash (mixKind P w) k
section
variable {P : Program} {w : World} {A : Around} {E : Value → Shared → Prop} {s : Shared}
def krows (P : Program) (w : World) (L : List KB) : List (Int × Value) := L.map fun p => (kh P w p.2, Value.ref p.1)
theorem krows_len (L : List KB) : (krows P w L).length = L.length := by simp [krows]
/-- all but the keys themselves -/
structure KSet0 (P : Program) (w : World) (h : Heap) (a : Addr) (L : List KB) (es : Array (Int × Value)) (ep : Nat) (t : SetTable) : Prop where
  ob : ∃ o, h.get? a = some o ∧ o.ExactSet ∧ o.data = .set es ep t
  rows : es.toList = krows P w L
  tab : TabOk t (L.map fun p => kh P w p.2)
  nd : (L.map (·.2)).Nodup
  led : w.params.followText "set-order" = true ∨ t.led = true
  room : L.length * 5 < t.mask * 3
  few : L.length < 64
structure KSet (P : Program) (w : World) (h : Heap) (a : Addr) (L : List KB) (es : Array (Int × Value)) (ep : Nat) (t : SetTable) : Prop extends KSet0 P w h a L es ep t where
  tup : ∀ p ∈ L, KTup P w h p.2 p.1
variable {a : Addr} {L : List KB} {es : Array (Int × Value)} {ep : Nat} {t : SetTable}
theorem rows_size (h : es.toList = krows P w L) : es.size = L.length := by
  rw [← Array.length_toList, h, krows_len]
theorem fits_of (sz : t.place.size = es.size) (dm : t.dummies = #[]) (hl : es.size ≤ t.mask) : t.fits es.size = true := by
  unfold SetTable.fits SetTable.fill
  rw [dm, Bool.and_eq_true, beq_iff_eq, decide_eq_true_eq]
  show t.place.size = es.size ∧ t.place.size + 0 ≤ t.mask
  omega
theorem KSet0.psize (R : KSet0 P w s.heap a L es ep t) : t.place.size = L.length := by
  have := R.tab.sz
  rwa [List.length_map] at this
theorem KSet0.fits (R : KSet0 P w s.heap a L es ep t) : t.fits es.size = true := by
  have h1 := R.psize
  have h2 := rows_size R.rows
  have h3 := R.room
  exact fits_of (by omega) R.tab.dm (by omega)
/-- the places that a hash looks at, one behind the other -/
abbrev pr0 (t : SetTable) (hv : Int) : SetTable.Probe := runAt t.mask (SetTable.bits hv % (t.mask + 1)) (SetTable.bits hv)
theorem KSet.keep {h h' : Heap} (R : KSet P w h a L es ep t) (ha : ∀ o, h.get? a = some o → h'.get? a = some o) (ht : ∀ p ∈ L, KTup P w h' p.2 p.1) : KSet P w h' a L es ep t := by
  obtain ⟨⟨⟨o, ho, r⟩, r1, r2, r3, r4, r5, r6⟩, _⟩ := R
  exact ⟨⟨⟨o, ha o ho, r⟩, r1, r2, r3, r4, r5, r6⟩, ht⟩
end
end DL
end
section
set_option Elab.async false
set_option linter.all false
set_option maxRecDepth 100000
set_option maxHeartbeats 4000000
namespace DL
open PySem PySem.Spec PyProof.Rows L2
end DL
end
section
set_option Elab.async false
set_option linter.all false
set_option maxRecDepth 100000
set_option maxHeartbeats 4000000
namespace DL
open PySem PySem.Spec PyProof.Rows L2
end DL
end
section
set_option Elab.async false
set_option linter.all false
set_option maxRecDepth 100000
set_option maxHeartbeats 4000000
namespace DL
open PySem PySem.Spec PyProof.Rows L2
end DL
end
section
set_option Elab.async false
set_option linter.all false
set_option maxRecDepth 100000
set_option maxHeartbeats 4000000
namespace DL
open PySem PySem.Spec PyProof.Rows L2
end DL
end
section
set_option Elab.async false
set_option linter.all false
set_option maxRecDepth 100000
set_option maxHeartbeats 4000000
namespace DL
open PySem PySem.Spec PyProof.Rows L2
end DL
end
section
set_option Elab.async false
set_option linter.all false
set_option maxRecDepth 100000
set_option maxHeartbeats 4000000
namespace DL
open PySem PySem.Spec PyProof.Rows L2
end DL
end
section
set_option Elab.async false
set_option linter.all false
set_option maxRecDepth 100000
set_option maxHeartbeats 4000000
namespace DL
open PySem PySem.Spec PyProof.Rows L2
end DL
end
section
set_option Elab.async false
set_option linter.all false
set_option maxRecDepth 100000
set_option maxHeartbeats 4000000
namespace DL
open PySem PySem.Spec PyProof.Rows L2
end DL
end
section
set_option Elab.async false
set_option linter.all false
set_option maxRecDepth 100000
set_option maxHeartbeats 4000000
namespace DL
open PySem PySem.Spec PyProof.Rows L2
/-- what is merged -/
def mergedH {K : Type} [DecidableEq K] (xs more : List (K × Addr × Value)) : List (K × Addr × Value) := more.foldl (fun acc x => storedH acc x.1 x.2.1 x.2.2) xs
def mergeN {κ : Type} [DecidableEq κ] (kds more : List (κ × D)) : List (κ × D) := more.foldl (fun acc x => putD acc x.1 x.2) kds
end DL
end
section
set_option Elab.async false
set_option linter.all false
set_option maxRecDepth 100000
set_option maxHeartbeats 4000000
namespace DL
open PySem PySem.Spec PyProof.Rows L2
theorem KN.merge {K : PySem.W.Frag} {F : Hp} : ∀ {ms : List (NestedKey × D)} {ys : List (NestedKey × Addr × Value)} {kds : List (NestedKey × D)} {xs : List (NestedKey × Addr × Value)}, KN K F ms ys → KN K F kds xs → KN K F (mergeN kds ms) (mergedH xs ys)
  | _, _, _, _, .nil, h => h
  | _, _, _, _, .cons (a := p) (b := q) ⟨z1, ⟨d, z2, zd, z3⟩, v, z4, z5⟩ t, h => by
    have h2 := h.put (k := p.1) (b := q.2.1) (r := q.2.2) (dk := d) (d := p.2) (v := v) z2 zd z3 z4 z5
    rw [z1] at h2
    have h3 := KN.merge t h2
    simp only [mergeN, mergedH, List.foldl_cons] at h3 ⊢
    rw [z1]
    exact h3
end DL
end
section
set_option Elab.async false
set_option linter.all false
set_option maxRecDepth 100000
set_option maxHeartbeats 4000000
namespace DL
open PySem PySem.Spec PyProof.Rows L2
mutual
def kupB (K : PySem.W.Frag) : D → Value → Bool
  | .int i, .int j _ => decide (i = j)
  | .str x, .str y _ => decide (x = y)
  | .non, .none => true
  | .kup ds, .ref a => (match K.lookup a with
    | some ⟨.type n, _, .seq its _, _⟩ => decide (n = "tuple") && (decide (its.size ≤ sizeLine) && kupsB K ds its.toList)
    | _ => false)
  | _, _ => false
def kupsB (K : PySem.W.Frag) : List D → List Value → Bool
  | [], [] => true
  | d :: ds, u :: us => kupB K d u && kupsB K ds us
  | _, _ => false
end
mutual
theorem kupB_ok {K : PySem.W.Frag} : ∀ (d : D) (u : Value), kupB K d u = true → ∃ v, RelV v u ∧ ∀ F, Rep K F v d
  | .int i, .int j t, h => by
    have h : decide (i = j) = true := h
    obtain rfl := of_decide_eq_true h
    exact ⟨.int i, ⟨t, rfl⟩, fun F => .int i⟩
  | .str x, .str y t, h => by
    have h : decide (x = y) = true := h
    obtain rfl := of_decide_eq_true h
    exact ⟨.str x, ⟨t, rfl⟩, fun F => .str x⟩
  | .non, .none, _ => ⟨.non, rfl, fun F => .non⟩
  | .kup ds, .ref a, h => by
    rw [kupB] at h
    split at h
    · rename_i n dd its ep sl e
      simp only [Bool.and_eq_true, decide_eq_true_eq] at h
      obtain ⟨rfl, hz, hs⟩ := h
      obtain ⟨vs, rv, rs⟩ := kupsB_ok ds its.toList hs
      exact ⟨.ref a, rfl, fun F => .kup (.inr ⟨_, its, ep, e, rfl, rfl, hz, rv⟩) (rs F)⟩
    · cases h
theorem kupsB_ok {K : PySem.W.Frag} : ∀ (ds : List D) (us : List Value), kupsB K ds us = true → ∃ vs, Vals vs us ∧ ∀ F, Reps K F vs ds
  | [], [], _ => ⟨[], .nil, fun F => .nil⟩
  | d :: ds, u :: us, h => by
    have h : (kupB K d u && kupsB K ds us) = true := h
    rw [Bool.and_eq_true] at h
    obtain ⟨v, r1, q1⟩ := kupB_ok d u h.1
    obtain ⟨vs, r2, q2⟩ := kupsB_ok ds us h.2
    exact ⟨v :: vs, .cons r1 r2, fun F => .cons (q1 F) (q2 F)⟩
end
theorem kup_ref {K : PySem.W.Frag} {d : D} {a : Addr} (h : kupB K d (.ref a) = true) : ∀ F, Rep K F (.ref a) d := by
  obtain ⟨v, r, q⟩ := kupB_ok d _ h
  cases v <;> first | (cases r; done) | (cases r; exact q) | (obtain ⟨_, r⟩ := r; cases r; done)
mutual
def D.up : D → D
  | .tup ds => .kup (D.ups ds)
  | .kup ds => .kup (D.ups ds)
  | d => d
def D.ups : List D → List D
  | [] => []
  | d :: ds => d.up :: D.ups ds
end
mutual
theorem Rep.up {K : PySem.W.Frag} {F : Hp} : ∀ {v : V} {d : D}, Rep K F v d → Rep K F v d.up
  | _, _, .non => .non
  | _, _, .bl b => .bl b
  | _, _, .int i => .int i
  | _, _, .str x => .str x
  | _, _, .ty n => .ty n
  | _, _, .tup q r => .kup (.inl (.inl q)) (Reps.ups r)
  | _, _, .lst q r => .lst q r
  | _, _, .dK q l r => .dK q l r
  | _, _, .dT q l r => .dT q l r
  | _, _, .obj q l r => .obj q l r
  | _, _, .rf a => .rf a
  | _, _, .scr q => .scr q
  | _, _, .kup q r => .kup q (Reps.ups r)
theorem Reps.ups {K : PySem.W.Frag} {F : Hp} : ∀ {vs : List V} {ds : List D}, Reps K F vs ds → Reps K F vs (D.ups ds)
  | _, _, .nil => .nil
  | _, _, .cons r t => .cons (Rep.up r) (Reps.ups t)
end
def dUp (t : DTE) : DTE := fun S G Q => t S G fun d G1 => Q d.up G1
theorem de_up {X : Cx} {e : Expr} {t : DTE} (h : DE X e t) : DE X e (dUp t) := by
  obtain ⟨t1, p, r⟩ := h.ex
  exact ⟨t1, p, fun F H σ S G o Q' h Q k => r F H σ S G o _ h _ fun F1 H1 v d G1 e1 g1 q1 h1 => k F1 H1 v _ G1 e1 g1 (Rep.up q1) h1⟩
theorem x_up (t : DTE) (S : DS) (G : GH) (Q : DQ) : dUp t S G Q = (t S G fun d G1 => Q d.up G1) := rfl
section
variable {X : Cx} {pins : List (Addr × Obj)} {σ : L2.St} {H : Hp} {s : Shared}
mutual
theorem urep_is (I : Inv X pins σ H s) : ∀ (k : NestedKey) {v : V} {u : Value}, Rep X.K H v (kToU k) → RelV v u → NestedIs s.heap k u
  | .none, v, _, h, r => by
    have h : Rep X.K H v .non := h
    cases h; cases r; exact .none
  | .num i, v, _, h, r => by
    have h : Rep X.K H v (.int i) := h
    cases h; obtain ⟨t, rfl⟩ := r; exact .int i t
  | .text x, v, _, h, r => by
    have h : Rep X.K H v (.str x) := h
    cases h; obtain ⟨t, rfl⟩ := r; exact .text x t
  | .tup ks, v, _, h, r => by
    have h : Rep X.K H v (.kup (ksToU ks)) := h
    cases h with
    | kup q t =>
      cases r
      obtain ⟨its, rv, ⟨o, h1, h2, n, h3⟩, _⟩ := I.tuple q
      exact .tup h1 h2 h3 (by simpa using ureps_is I ks t rv)
theorem ureps_is (I : Inv X pins σ H s) : ∀ (ks : List NestedKey) {vs : List V} {us : List Value}, Reps X.K H vs (ksToU ks) → Vals vs us → NestedAll s.heap ks us
  | [], vs, _, h, r => by
    have h : Reps X.K H vs [] := h
    cases h; cases r; exact .nil
  | k :: ks, vs, _, h, r => by
    have h : Reps X.K H vs (kToU k :: ksToU ks) := h
    cases h with
    | cons a t =>
      cases r with
      | cons r1 r2 => exact .cons (urep_is I k a r1) (ureps_is I ks t r2)
end
end
/-- the dict stands there -/
def UAt (K : PySem.W.Frag) (w : World) (H : Hp) (a : Addr) (xs : List (NestedKey × Addr × Value)) : Prop :=
  H a = some (.ext (RawN w a xs)) ∧ xs.length ≤ sizeLine ∧ ∀ x ∈ xs, Rep K H (.ref x.2.1) (kToU x.1) ∧ x.1.depth ≤ 8
theorem UAt.dict {X : Cx} {pins : List (Addr × Obj)} {σ : L2.St} {H : Hp} {s : Shared} {a : Addr} {xs : List (NestedKey × Addr × Value)} (n : UAt X.K X.w H a xs) (I : Inv X pins σ H s) : (a == sysModules) = false ∧ s.heap.DictOfH (nestedKind X.prog X.w) a xs := by
  obtain ⟨e, _, hk⟩ := n
  obtain ⟨⟨hs, o, es, ep, h1, h2, h3, h4, h5⟩, _⟩ := (show ObjOk X.prog X.w H s.heap a (.ext (RawN X.w a xs)) from I.hok _ _ e)
  exact ⟨hs, o, es, ep, h1, h2, h3, h4, fun x hx => ⟨urep_is I x.1 (hk x hx).1 rfl, (hk x hx).2⟩, h5⟩
theorem KU.keys {K : PySem.W.Frag} {F H : Hp} (e : Ex F H) : ∀ {kds : List (NestedKey × D)} {xs : List (NestedKey × Addr × Value)}, KU K F kds xs → ∀ x ∈ xs, Rep K H (.ref x.2.1) (kToU x.1) ∧ x.1.depth ≤ 8
  | _, _, .nil, x, hx => by cases hx
  | _, _, .cons (a := p) (b := q) h t, x, hx => by
    rcases List.mem_cons.mp hx with rfl | hx
    · obtain ⟨z1, zd, z3, _⟩ := h
      rw [← z1]
      exact ⟨z3.mono e, zd⟩
    · exact KU.keys e t x hx
theorem KU.val {K : PySem.W.Frag} {F : Hp} (k : NestedKey) : ∀ {kds : List (NestedKey × D)} {xs : List (NestedKey × Addr × Value)}, KU K F kds xs → (valD kds k = none ∧ atKey xs k = none) ∨ ∃ d p v, valD kds k = some d ∧ atKey xs k = some p ∧ RelV v p.2 ∧ Rep K F v d
  | _, _, .nil => .inl ⟨rfl, rfl⟩
  | _, _, .cons (a := p) (b := q) h t => by
    obtain ⟨z1, _, _, v, z4, z5⟩ := h
    by_cases e : p.1 = k
    · refine .inr ⟨p.2, q.2, v, ?_, ?_, z4, z5⟩
      · simp [valD, List.find?_cons, e]
      · simp [atKey, List.find?_cons, ← z1, e]
    · have e2 : ¬ q.1 = k := fun z => e (z1.trans z)
      rcases KU.val k t with ⟨h1, h2⟩ | ⟨d, p', v', h1, h2, h3, h4⟩
      · refine .inl ⟨?_, ?_⟩
        · simpa [valD, List.find?_cons, e] using h1
        · simpa [atKey, List.find?_cons, e2] using h2
      · refine .inr ⟨d, p', v', ?_, ?_, h3, h4⟩
        · simpa [valD, List.find?_cons, e] using h1
        · simpa [atKey, List.find?_cons, e2] using h2
theorem KU.len {K : PySem.W.Frag} {F : Hp} {kds : List (NestedKey × D)} {xs : List (NestedKey × Addr × Value)} (h : KU K F kds xs) : kds.length = xs.length := Paired.length h
theorem KU.put {K : PySem.W.Frag} {F : Hp} {kds : List (NestedKey × D)} {xs : List (NestedKey × Addr × Value)} (h : KU K F kds xs) {k : NestedKey} {b : Addr} {r : Value} {d : D} {v : V} (hd : k.depth ≤ 8) (rk : Rep K F (.ref b) (kToU k)) (rv : RelV v r) (rd : Rep K F v d) :
    KU K F (putD kds k d) (storedH xs k b r) := by
  have ev := KU.val k h
  unfold putD storedH
  rw [any_val]
  rcases ev with ⟨h1, h2⟩ | ⟨d', p', v', h1, h2, _⟩
  · rw [h1, h2]
    rw [if_neg (by simp), if_neg (by simp)]
    exact Paired.snoc h ⟨rfl, hd, rk, v, rv, rd⟩
  · rw [h1, h2, if_pos (show (some d').isSome = true from rfl), if_pos (show (some p').isSome = true from rfl)]
    clear h1 h2
    induction h with
    | nil => exact .nil
    | @cons p q ps qs hq t ih =>
      refine .cons ?_ ih
      obtain ⟨z1, z2, z3, v2, z4, z5⟩ := hq
      unfold putAt
      dsimp only
      by_cases e : p.1 = k
      · rw [if_pos e, if_pos (by rw [← z1]; exact e)]
        exact ⟨z1, z2, z3, v, rv, rd⟩
      · rw [if_neg e, if_neg (by rw [← z1]; exact e)]
        exact ⟨z1, z2, z3, v2, z4, z5⟩
section
variable {X : Cx} {pos : Pos}
theorem de_gkup {x : Str} {d : D} (hg : Gl X x) (hm : ∃ C, X.mg x = some (.ref C) ∧ ∀ F, Rep X.K F (.ref C) d) (hd : (x == ("__debug__" : Str)) = false := by decide) : DE X (.Name x pos) (dC d) := by
  obtain ⟨C, h1, h2⟩ := hm
  exact dc_of (pe_glob (v := .ref C) hg h1 rfl hd) fun F => h2 F
end
end DL
end
section
set_option Elab.async false
set_option linter.all false
set_option maxRecDepth 100000
set_option maxHeartbeats 4000000
namespace Pace
open PySem PySem.Spec PyProof.Rows L2 DL
def top (i : Nat) : Stmt := PySem.Challenge.pw_pacehouse_k51_lists_of_speeches.main.body.getD i (.Pass ⟨0, 0, 0, 0⟩)
abbrev s__wall : Stmt := top 0
abbrev s_states_behind : Stmt := top 2
abbrev s_mute : Stmt := top 3
abbrev s_check_full : Stmt := top 11
abbrev s_signs_at : Stmt := top 12
abbrev s_list_behind : Stmt := top 15
abbrev s_list_of : Stmt := top 16
abbrev s_are_letters : Stmt := top 27
abbrev s_number_in : Stmt := top 28
abbrev s_text_of : Stmt := top 29
abbrev s_first_line : Stmt := top 30
abbrev s_move_line : Stmt := top 31
abbrev s_parts_in : Stmt := top 32
abbrev s_is_integer : Stmt := top 37
abbrev s_is_letter_of : Stmt := top 38
abbrev s_is_move : Stmt := top 39
abbrev s_is_row : Stmt := top 40
abbrev s_steps_of : Stmt := top 41
abbrev s_states_met : Stmt := top 42
abbrev s_classes_of : Stmt := top 43
abbrev s_least_rows : Stmt := top 44
abbrev s_step_at : Stmt := top 45
abbrev s_paired_steps : Stmt := top 46
abbrev s_one_keys : Stmt := top 47
abbrev s_check_letters : Stmt := top 48
abbrev s_Rules_u__init_u_ : Stmt := inClass (top 49) 0
abbrev s__law_deck : Stmt := top 51
abbrev s__law_draw : Stmt := top 52
abbrev s__law_pick : Stmt := top 53
abbrev s__law_moves : Stmt := top 54
abbrev s__law_on : Stmt := top 55
abbrev s__law_mute : Stmt := top 56
abbrev s__law_set : Stmt := top 57
abbrev s__law_drawn : Stmt := top 58
abbrev s__law_made : Stmt := top 59
abbrev s__law_known : Stmt := top 60
abbrev s__law_some : Stmt := top 61
abbrev s__law_speech : Stmt := top 62
abbrev s__law_step : Stmt := top 63
abbrev s__law_list : Stmt := top 64
abbrev s__law_by_captions : Stmt := top 65
abbrev s_law : Stmt := top 66
structure Txt (K : PySem.W.Frag) (mg : Str → Option Value) (C : Addr) : Prop where
  f_Exception : mg "Exception" = none
  f_classmethod : mg "classmethod" = none
  f_tuple : mg "tuple" = none
  f_enumerate : mg "enumerate" = none
  f_all : mg "all" = none
  f_dict : mg "dict" = none
  f_range : mg "range" = none
  f_sorted : mg "sorted" = none
  f_len : mg "len" = none
  f_max : mg "max" = none
  f_isinstance : mg "isinstance" = none
  f_str : mg "str" = none
  f_int : mg "int" = none
  f_list : mg "list" = none
  f_repr : mg "repr" = none
  f_bool : mg "bool" = none
  f_set : mg "set" = none
  f_super : mg "super" = none
  f_zip : mg "zip" = none
  c_BEGIN : ∃ a, mg "BEGIN" = some (.ref a) ∧ ∀ F, Rep K F (.ref a) (.kup [(.kup [(.int 0), (.int 0)])])
  c_RULES_WORD : ∃ t, mg "RULES_WORD" = some (.str "rules" t)
  c_MOVE_WORD : ∃ t, mg "MOVE_WORD" = some (.str "move" t)
  c_BREAK : ∃ t, mg "BREAK" = some (.str "\n" t)
  c_BLANK : ∃ t, mg "BLANK" = some (.str " " t)
  c_DIGITS : ∃ t, mg "DIGITS" = some (.str "0123456789" t)
  c_MOST_DIGITS : ∃ t, mg "MOST_DIGITS" = some (.int (3) t)
  c_FIRST_PARTS : ∃ t, mg "FIRST_PARTS" = some (.int (4) t)
  c_MOVE_PARTS_ruletexts : ∃ t, mg "MOVE_PARTS_ruletexts" = some (.int (5) t)
  c_LETTERS : ∃ t, mg "LETTERS" = some (.str "abcdefghijklmnopqrstuvwxyz" t)
  c_MOST_STATES : ∃ t, mg "MOST_STATES" = some (.int (999) t)
  c_MOVE_PARTS_rules : ∃ t, mg "MOVE_PARTS_rules" = some (.int (3) t)
  c_NOWHERE : ∃ t, mg "NOWHERE" = some (.int (-1) t)
  clR : Cls K C
  mgR : mg "Rules" = some (.ref C)
  insR : C8.InsC K C
  neR : NeO K C
  no_heard : NoAttr K C "heard"
  no_written : NoAttr K C "written"
  no_rows : NoAttr K C "rows"
  no_steps : NoAttr K C "steps"
  sysM : SysM K
end Pace
end
section
set_option Elab.async false
set_option linter.all false
set_option maxRecDepth 100000
set_option maxHeartbeats 4000000
namespace DL
open PySem PySem.Spec PyProof.Rows L2
end DL
end
section
set_option Elab.async false
set_option linter.all false
set_option maxRecDepth 100000
set_option maxHeartbeats 4000000
namespace DL
open PySem PySem.Spec PyProof.Rows L2 PySem.Calls
end DL
end
section
set_option Elab.async false
set_option linter.all false
set_option maxRecDepth 100000
set_option maxHeartbeats 4000000
namespace DL
open PySem PySem.Spec PyProof.Rows L2
abbrev XFs := List (Str × D)
abbrev DXQ := Addr → XFs → GH → Prop
/-- an error: its class, its attributes -/
def XRep (K : PySem.W.Frag) (F H : Hp) (G : GH) (cls : Value) (d : Option Addr) (C : Addr) (fs : XFs) : Prop :=
  cls = .ref C ∧ ((d = none ∧ fs = []) ∨ ∃ dx vs, d = some dx ∧ H dx = some (.xd vs) ∧ G dx = none ∧ fs ≠ [] ∧ vs.map (·.1) = fs.map (·.1) ∧ Reps K F (vs.map (·.2)) (fs.map (·.2)))
def KpX (K : PySem.W.Frag) (F H : Hp) (G : GH) (σ : L2.St) (E' : DXQ) (W : WX) : Prop := ∀ F' H' G' cls d C fs, Go F H G F' H' G' → Gok K F' H' G' → XRep K F' H' G' cls d C fs → E' C fs G' → W cls d σ H'
def KpXS (K : PySem.W.Frag) (F H : Hp) (G : GH) (E' : DS → DXQ) (W : WX) : Prop := ∀ F' H' σ S G' cls d C fs, Go F H G F' H' G' → Ok K F' H' σ S G' → XRep K F' H' G' cls d C fs → E' S C fs G' → W cls d σ H'
section
variable {K : PySem.W.Frag} {F H F1 H1 : Hp} {G G1 : GH}
theorem XRep.sub {cls : Value} {d : Option Addr} {C : Addr} {fs : XFs} {G0 : GH} (s : Sub G0 G) (h : XRep K F H G cls d C fs) : XRep K F H G0 cls d C fs := by
  refine ⟨h.1, h.2.imp id ?_⟩
  rintro ⟨dx, vs, h1, h2, h3, h4⟩
  refine ⟨dx, vs, h1, h2, ?_, h4⟩
  cases q : G0 dx with
  | none => rfl
  | some o => rw [s.le dx o q] at h3; cases h3
theorem KpX.mono {σ : L2.St} {E' : DXQ} {W : WX} (e : Go F H G F1 H1 G1) (h : KpX K F H G σ E' W) : KpX K F1 H1 G1 σ E' W := fun F' H' G' cls d C fs a b c q => h F' H' G' cls d C fs (e.trans a) b c q
theorem KpXS.mono {E' : DS → DXQ} {W : WX} (e : Go F H G F1 H1 G1) (h : KpXS K F H G E' W) : KpXS K F1 H1 G1 E' W := fun F' H' σ S G' cls d C fs a b c q => h F' H' σ S G' cls d C fs (e.trans a) b c q
theorem KpXS.at_ {σ : L2.St} {S : DS} {E' : DS → DXQ} {W : WX} (s : Slots K F σ S) (h : KpXS K F H G E' W) : KpX K F H G σ (E' S) W := fun F' H' G' cls d C fs a b c q => h F' H' σ S G' cls d C fs a ⟨b, s.mono a.ex⟩ c q
end
end DL
namespace DL
open PySem PySem.Spec PyProof.Rows L2
end DL
end
section
set_option Elab.async false
set_option linter.all false
set_option maxRecDepth 100000
set_option maxHeartbeats 4000000
namespace DL
open PySem PySem.Spec PyProof.Rows L2
end DL
end
section
set_option Elab.async false
set_option linter.all false
set_option maxRecDepth 100000
set_option maxHeartbeats 4000000
namespace DL
open PySem PySem.Spec PyProof.Rows L2
abbrev FnX : Type := Option (Str × Str × Arguments × FuncBody × Scope × Addr × List Str × Addr)
/-- the __init__ of an own error -/
structure ErrD where
  cls : Str
  qual : Str
  params : Arguments
  body : List Stmt
  scope : Scope
def ErrD.val (d : ErrD) : FnX := some ("__init__", d.qual, d.params, .stmts d.body, d.scope, mainGlobals, ["__class__"], builtinsNs)
end DL
end
section
set_option Elab.async false
set_option linter.all false
set_option maxRecDepth 100000
set_option maxHeartbeats 4000000
namespace DL
open PySem PySem.Spec PyProof.Rows L2
end DL
end
section
set_option Elab.async false
set_option linter.all false
set_option maxRecDepth 100000
set_option maxHeartbeats 0
namespace Pace
open PySem PySem.Spec PyProof.Rows L2 DL
def d__wall : He.DefD := ⟨("_wall", none), "_wall", "_wall", defArgs s__wall, defBody s__wall, defScope s__wall, [], []⟩
def d_states_behind : He.DefD := ⟨("states_behind", none), "states_behind", "states_behind", defArgs s_states_behind, defBody s_states_behind, defScope s_states_behind, [], []⟩
def d_mute : He.DefD := ⟨("mute", none), "mute", "mute", defArgs s_mute, defBody s_mute, defScope s_mute, [], []⟩
def d_check_full : He.DefD := ⟨("check_full", none), "check_full", "check_full", defArgs s_check_full, defBody s_check_full, defScope s_check_full, [], []⟩
def d_signs_at : He.DefD := ⟨("signs_at", none), "signs_at", "signs_at", defArgs s_signs_at, defBody s_signs_at, defScope s_signs_at, [], []⟩
def d_list_behind : He.DefD := ⟨("list_behind", none), "list_behind", "list_behind", defArgs s_list_behind, defBody s_list_behind, defScope s_list_behind, [], []⟩
def d_list_of : He.DefD := ⟨("list_of", none), "list_of", "list_of", defArgs s_list_of, defBody s_list_of, defScope s_list_of, [], []⟩
def d_are_letters : He.DefD := ⟨("are_letters", none), "are_letters", "are_letters", defArgs s_are_letters, defBody s_are_letters, defScope s_are_letters, [], []⟩
def d_number_in : He.DefD := ⟨("number_in", none), "number_in", "number_in", defArgs s_number_in, defBody s_number_in, defScope s_number_in, [], []⟩
def d_text_of : He.DefD := ⟨("text_of", none), "text_of", "text_of", defArgs s_text_of, defBody s_text_of, defScope s_text_of, [], []⟩
def d_first_line : He.DefD := ⟨("first_line", none), "first_line", "first_line", defArgs s_first_line, defBody s_first_line, defScope s_first_line, [], []⟩
def d_move_line : He.DefD := ⟨("move_line", none), "move_line", "move_line", defArgs s_move_line, defBody s_move_line, defScope s_move_line, [], []⟩
def d_parts_in : He.DefD := ⟨("parts_in", none), "parts_in", "parts_in", defArgs s_parts_in, defBody s_parts_in, defScope s_parts_in, [], []⟩
def d_is_integer : He.DefD := ⟨("is_integer", none), "is_integer", "is_integer", defArgs s_is_integer, defBody s_is_integer, defScope s_is_integer, [], []⟩
def d_is_letter_of : He.DefD := ⟨("is_letter_of", none), "is_letter_of", "is_letter_of", defArgs s_is_letter_of, defBody s_is_letter_of, defScope s_is_letter_of, [], []⟩
def d_is_move : He.DefD := ⟨("is_move", none), "is_move", "is_move", defArgs s_is_move, defBody s_is_move, defScope s_is_move, [], []⟩
def d_is_row : He.DefD := ⟨("is_row", none), "is_row", "is_row", defArgs s_is_row, defBody s_is_row, defScope s_is_row, [], []⟩
def d_steps_of : He.DefD := ⟨("steps_of", none), "steps_of", "steps_of", defArgs s_steps_of, defBody s_steps_of, defScope s_steps_of, [], []⟩
def d_states_met : He.DefD := ⟨("states_met", none), "states_met", "states_met", defArgs s_states_met, defBody s_states_met, defScope s_states_met, [], []⟩
def d_classes_of : He.DefD := ⟨("classes_of", none), "classes_of", "classes_of", defArgs s_classes_of, defBody s_classes_of, defScope s_classes_of, [], []⟩
def d_least_rows : He.DefD := ⟨("least_rows", none), "least_rows", "least_rows", defArgs s_least_rows, defBody s_least_rows, defScope s_least_rows, [], []⟩
def d_step_at : He.DefD := ⟨("step_at", none), "step_at", "step_at", defArgs s_step_at, defBody s_step_at, defScope s_step_at, [], []⟩
def d_paired_steps : He.DefD := ⟨("paired_steps", none), "paired_steps", "paired_steps", defArgs s_paired_steps, defBody s_paired_steps, defScope s_paired_steps, [], []⟩
def d_one_keys : He.DefD := ⟨("one_keys", none), "one_keys", "one_keys", defArgs s_one_keys, defBody s_one_keys, defScope s_one_keys, [], []⟩
def d_check_letters : He.DefD := ⟨("check_letters", none), "check_letters", "check_letters", defArgs s_check_letters, defBody s_check_letters, defScope s_check_letters, [], []⟩
def d__law_deck : He.DefD := ⟨("_law_deck", none), "_law_deck", "_law_deck", defArgs s__law_deck, defBody s__law_deck, defScope s__law_deck, [], []⟩
def d__law_draw : He.DefD := ⟨("_law_draw", none), "_law_draw", "_law_draw", defArgs s__law_draw, defBody s__law_draw, defScope s__law_draw, [], []⟩
def d__law_pick : He.DefD := ⟨("_law_pick", none), "_law_pick", "_law_pick", defArgs s__law_pick, defBody s__law_pick, defScope s__law_pick, [], []⟩
def d__law_moves : He.DefD := ⟨("_law_moves", none), "_law_moves", "_law_moves", defArgs s__law_moves, defBody s__law_moves, defScope s__law_moves, [], []⟩
def d__law_on : He.DefD := ⟨("_law_on", none), "_law_on", "_law_on", defArgs s__law_on, defBody s__law_on, defScope s__law_on, [], []⟩
def d__law_mute : He.DefD := ⟨("_law_mute", none), "_law_mute", "_law_mute", defArgs s__law_mute, defBody s__law_mute, defScope s__law_mute, [], []⟩
def d__law_set : He.DefD := ⟨("_law_set", none), "_law_set", "_law_set", defArgs s__law_set, defBody s__law_set, defScope s__law_set, [], []⟩
def d__law_drawn : He.DefD := ⟨("_law_drawn", none), "_law_drawn", "_law_drawn", defArgs s__law_drawn, defBody s__law_drawn, defScope s__law_drawn, [], []⟩
def d__law_made : He.DefD := ⟨("_law_made", none), "_law_made", "_law_made", defArgs s__law_made, defBody s__law_made, defScope s__law_made, [], []⟩
def d__law_known : He.DefD := ⟨("_law_known", none), "_law_known", "_law_known", defArgs s__law_known, defBody s__law_known, defScope s__law_known, [], []⟩
def d__law_some : He.DefD := ⟨("_law_some", none), "_law_some", "_law_some", defArgs s__law_some, defBody s__law_some, defScope s__law_some, [], []⟩
def d__law_speech : He.DefD := ⟨("_law_speech", none), "_law_speech", "_law_speech", defArgs s__law_speech, defBody s__law_speech, defScope s__law_speech, [], []⟩
def d__law_step : He.DefD := ⟨("_law_step", none), "_law_step", "_law_step", defArgs s__law_step, defBody s__law_step, defScope s__law_step, [], []⟩
def d__law_list : He.DefD := ⟨("_law_list", none), "_law_list", "_law_list", defArgs s__law_list, defBody s__law_list, defScope s__law_list, [], []⟩
def d__law_by_captions : He.DefD := ⟨("_law_by_captions", none), "_law_by_captions", "_law_by_captions", defArgs s__law_by_captions, defBody s__law_by_captions, defScope s__law_by_captions, [], []⟩
def d_law : He.DefD := ⟨("law", none), "law", "law", defArgs s_law, defBody s_law, defScope s_law, [], []⟩
def d_RI : He.DefD := ⟨("Rules", some "__init__"), "__init__", "Rules.__init__", defArgs s_Rules_u__init_u_, defBody s_Rules_u__init_u_, defScope s_Rules_u__init_u_, [], []⟩
def hfn0 : List He.DefD := [d__wall, d_states_behind, d_mute, d_check_full, d_signs_at, d_list_behind, d_list_of, d_are_letters, d_number_in, d_text_of, d_first_line, d_move_line, d_parts_in, d_is_integer, d_is_letter_of, d_is_move, d_is_row, d_steps_of, d_states_met, d_classes_of]
def hfn1 : List He.DefD := [d_least_rows, d_step_at, d_paired_steps, d_one_keys, d_check_letters, d__law_deck, d__law_draw, d__law_pick, d__law_moves, d__law_on, d__law_mute, d__law_set, d__law_drawn, d__law_made, d__law_known, d__law_some, d__law_speech, d__law_step, d__law_list, d__law_by_captions]
def hfn2 : List He.DefD := [d_law, d_RI]
def hfn : List He.DefD := hfn0 ++ hfn1 ++ hfn2
def hfa0 : List He.Fa := [.glo "_wall", .glo "states_behind", .glo "mute", .glo "check_full", .glo "signs_at", .glo "list_behind", .glo "list_of", .glo "are_letters", .glo "number_in", .glo "text_of", .glo "first_line", .glo "move_line", .glo "parts_in", .glo "is_integer", .glo "is_letter_of", .glo "is_move", .glo "is_row", .glo "steps_of", .glo "states_met", .glo "classes_of"]
def hfa1 : List He.Fa := [.glo "least_rows", .glo "step_at", .glo "paired_steps", .glo "one_keys", .glo "check_letters", .glo "_law_deck", .glo "_law_draw", .glo "_law_pick", .glo "_law_moves", .glo "_law_on", .glo "_law_mute", .glo "_law_set", .glo "_law_drawn", .glo "_law_made", .glo "_law_known", .glo "_law_some", .glo "_law_speech", .glo "_law_step", .glo "_law_list", .glo "_law_by_captions"]
def hfa2 : List He.Fa := [.glo "law", .free "Exception", .free "classmethod", .free "tuple", .free "enumerate", .free "all", .free "dict", .free "range", .free "sorted", .free "len", .free "max", .free "isinstance", .free "str", .free "int", .free "list", .free "repr", .free "bool", .free "set", .free "super", .free "zip"]
def hfa3 : List He.Fa := [.glo "BEGIN", .str "RULES_WORD" "rules", .str "MOVE_WORD" "move", .str "BREAK" "\n", .str "BLANK" " ", .str "DIGITS" "0123456789", .int "MOST_DIGITS" (3), .int "FIRST_PARTS" (4), .int "MOVE_PARTS_ruletexts" (5), .str "LETTERS" "abcdefghijklmnopqrstuvwxyz", .int "MOST_STATES" (999), .int "MOVE_PARTS_rules" (3), .int "NOWHERE" (-1), .glo "Rules", .cls "Rules", .mkr "Rules", .noat "Rules" "heard", .noat "Rules" "written", .noat "Rules" "rows", .noat "Rules" "steps"]
def hfa : List He.Fa := hfa0 ++ hfa1 ++ hfa2 ++ hfa3
def hnm0 : List PySem.Str := ["_wall", "states_behind", "mute", "CaptionError", "BadRules", "BadText", "OtherLetters", "Mute", "check_full", "signs_at", "BEGIN", "list_behind", "list_of", "RULES_WORD", "MOVE_WORD", "BREAK", "BLANK", "DIGITS", "MOST_DIGITS", "FIRST_PARTS"]
def hnm1 : List PySem.Str := ["MOVE_PARTS_ruletexts", "LETTERS", "are_letters", "number_in", "text_of", "first_line", "move_line", "parts_in", "MOST_STATES", "MOVE_PARTS_rules", "NOWHERE", "is_integer", "is_letter_of", "is_move", "is_row", "steps_of", "states_met", "classes_of", "least_rows", "step_at"]
def hnm2 : List PySem.Str := ["paired_steps", "one_keys", "check_letters", "Rules", "_law_deck", "_law_draw", "_law_pick", "_law_moves", "_law_on", "_law_mute", "_law_set", "_law_drawn", "_law_made", "_law_known", "_law_some", "_law_speech", "_law_step", "_law_list", "_law_by_captions"]
def hnm : List PySem.Str := hnm0 ++ hnm1 ++ hnm2
abbrev hR : PySem.W.OpenRow := PySem.W.OpenLaw.row PySem.Challenge.rw_pacehouse_k51_lists_of_speeches
def hkup (K : PySem.W.Frag) : Bool := kupB K (.kup [(.kup [(.int 0), (.int 0)])]) (.ref (He.ga K "BEGIN"))
def hex0 (K : PySem.W.Frag) : Bool := (insB K (He.ga K "Rules") && neB K (He.ga K "Rules")) && sysB K
def hex (K : PySem.W.Frag) : Bool := hex0 K && hkup K
abbrev hhk : PySem.W.Hook := hookS 6 hfa hfn hex
def hob (s : PySem.W.SharedT) : AlE := obsSG 6 hfa hfn hex  (HandSHeadRun.getT s)
theorem hob_eq (s : PySem.W.SharedT) : hob s = hhk.obs s.abs := obsSG_eq (HandSHeadRun.getT_eq s)
theorem hrun (w : World) : HandSHeadRun.RunEq hR (PySem.W.view hR.prog [66]) hhk hob 20000 hnm w := by
  intro os
  kernel_rfl
end Pace
end
section
set_option Elab.async false
set_option linter.all false
set_option maxRecDepth 100000
set_option maxHeartbeats 4000000
namespace Pace
open PySem PySem.Spec PyProof.Rows L2 DL
/-- a move: heard letter, written letter (codes), state -/
structure Mv where
  h : Nat
  c : Nat
  t : Nat
  deriving DecidableEq
def Mv.d (m : Mv) : D := .tup [.str (sgn m.h), .str (sgn m.c), .int (m.t : Int)]
def rowD (r : List Mv) : D := .tup (r.map Mv.d)
def rowsD (rs : List (List Mv)) : D := .tup (rs.map rowD)
def natsD (ns : List Nat) : List D := ns.map fun (n : Nat) => D.int (n : Int)
structure Rul where
  heard : Str
  written : Str
  rows : List (List Mv)
def stepsD (rs : List (List Mv)) : D := .lst (rs.map fun r => .dT (r.map fun m => ([.inr (sgn m.h), .inr (sgn m.c)], .int (m.t : Int))))
def rulF (R : Rul) : List (Str × D) := [("heard", .str R.heard), ("written", .str R.written), ("rows", rowsD R.rows), ("steps", stepsD R.rows)]
def rulD (C : Addr) (R : Rul) : D := .obj C (rulF R)
theorem rulF_heard (R : Rul) : (rulF R).lookup ("heard" : Str) = some (.str R.heard) := rfl
theorem rulF_rows (R : Rul) : (rulF R).lookup ("rows" : Str) = some (rowsD R.rows) := rfl
/-- what Python's rules ask, as far as the walk needs it -/
structure Rul.Ok (R : Rul) : Prop where
  few : R.rows.length ≤ 1000
  at_ : ∀ r ∈ R.rows, r.length ≤ 1000 ∧ ∀ m ∈ r, m.t < R.rows.length
def hits (rs : List (List Mv)) (s c : Nat) : List Nat := ((rs.getD s []).filter fun m => m.h == c).map (·.t)
def nins (a : Nat) : List Nat → List Nat
  | [] => [a]
  | b :: l => if a ≤ b then a :: b :: l else b :: nins a l
def nsort : List Nat → List Nat
  | [] => []
  | a :: l => nins a (nsort l)
theorem nins_perm (a : Nat) : ∀ l : List Nat, (nins a l).Perm (a :: l)
  | [] => .refl _
  | b :: l => by
    unfold nins
    split
    · exact .refl _
    · exact ((nins_perm a l).cons b).trans (.swap a b l)
theorem nsort_perm : ∀ l : List Nat, (nsort l).Perm l
  | [] => .refl _
  | a :: l => (nins_perm a (nsort l)).trans ((nsort_perm l).cons a)
theorem nins_le (a : Nat) : ∀ l : List Nat, l.Pairwise (· ≤ ·) → (nins a l).Pairwise (· ≤ ·)
  | [], _ => by simp [nins]
  | b :: l, h => by
    unfold nins
    rw [List.pairwise_cons] at h
    split
    · rename_i hab
      refine List.pairwise_cons.mpr ⟨fun c hc => ?_, List.pairwise_cons.mpr h⟩
      rcases List.mem_cons.mp hc with rfl | hc
      · exact hab
      · have := h.1 c hc; omega
    · rename_i hab
      refine List.pairwise_cons.mpr ⟨fun c hc => ?_, nins_le a l h.2⟩
      rcases List.mem_cons.mp ((nins_perm a l).mem_iff.mp hc) with rfl | hc
      · omega
      · exact h.1 c hc
theorem nsort_le : ∀ l : List Nat, (nsort l).Pairwise (· ≤ ·)
  | [] => .nil
  | a :: l => nins_le a _ (nsort_le l)
/-- the states behind a letter -/
def behind (rs : List (List Mv)) (ss : List Nat) (c : Nat) : List Nat := nsort (firstsF (ss.flatMap fun s => hits rs s c))
theorem addF_lt {n : Nat} {ks : List Nat} {t : Nat} (h : ∀ k ∈ ks, k < n) (ht : t < n) : ∀ k ∈ addF ks t, k < n := by
  unfold addF
  split
  · exact h
  · intro k hk
    rcases List.mem_append.mp hk with hk | hk
    · exact h k hk
    · simp at hk; omega
/-- the pairs of the dict -/
def kds (ks : List Nat) : List (Key × D) := ks.map fun (t : Nat) => (.inl (t : Int), .bl true)
theorem kds_put (ks : List Nat) (t : Nat) : putD (kds ks) (.inl (t : Int)) (.bl true) = kds (addF ks t) := by
  have e : ((kds ks).any fun kv => decide (kv.1 = (Sum.inl (t : Int) : Key))) = decide (t ∈ ks) := by
    unfold kds
    rw [List.any_map]
    rw [Bool.eq_iff_iff]
    simp only [List.any_eq_true, Function.comp, decide_eq_true_eq]
    constructor
    · rintro ⟨x, hx, e⟩
      have e' : (x : Int) = (t : Int) := Sum.inl.inj e
      have : x = t := by omega
      exact this ▸ hx
    · intro h
      exact ⟨t, h, rfl⟩
  unfold putD addF
  rw [e]
  by_cases h : t ∈ ks
  · rw [if_pos (decide_eq_true h), if_pos h]
    unfold kds
    rw [List.map_map]
    apply List.map_congr_left
    intro x hx
    simp only [Function.comp]
    split
    · rfl
    · rfl
  · rw [if_neg (by simp [h]), if_neg h]
    simp [kds]
theorem kds_ints (ks : List Nat) : intKeys (kds ks) = some (ks.map fun (t : Nat) => (t : Int)) := by
  induction ks with
  | nil => rfl
  | cons t ks ih =>
    have : kds (t :: ks) = (.inl (t : Int), .bl true) :: kds ks := rfl
    rw [this]
    simp [intKeys, ih]
theorem isort_nat (ks : List Nat) : ((ks.map fun (t : Nat) => (t : Int)).mergeSort (· ≤ ·)).map D.int = natsD (nsort ks) := by
  have e : (nsort ks).map (fun (t : Nat) => (t : Int)) = (ks.map fun (t : Nat) => (t : Int)).mergeSort (· ≤ ·) := by
    refine isort_uniq ((nsort_perm ks).map _) ?_
    rw [List.pairwise_map]
    exact (nsort_le ks).imp fun h => by omega
  rw [← e, List.map_map]
  rfl
theorem nodup_lt_len {n : Nat} {ks : List Nat} (h : ks.Nodup) (hl : ∀ k ∈ ks, k < n) : ks.length ≤ n := by
  have := List.Nodup.length_le_of_subset h (l₂ := List.range n) (fun k hk => List.mem_range.mpr (hl k hk))
  simpa using this
theorem natsD_get {ns : List Nat} {i : Nat} {d : D} (h : (natsD ns)[i]? = some d) : ∃ n, ns[i]? = some n ∧ d = .int (n : Int) := by
  unfold natsD at h
  rw [List.getElem?_map] at h
  cases e : ns[i]? with
  | none => rw [e] at h; cases h
  | some n => rw [e] at h; cases h; exact ⟨n, rfl, rfl⟩
theorem sgn_inj {a b : Nat} (h : sgn a = sgn b) : a = b := by
  have : (sgn a).cps.toList = (sgn b).cps.toList := by rw [h]
  simpa [sgn] using this
theorem sgn_beq (a b : Nat) : (sgn a == sgn b) = (a == b) := by
  rw [Bool.eq_iff_iff]
  simp only [beq_iff_eq]
  exact ⟨sgn_inj, fun h => by rw [h]⟩
theorem hu100 {k : Nat} {A : Around} (hr : Room k A) : A.units + 100 < cLine := by have := hr.un; omega
end Pace
end
section
set_option Elab.async false
set_option linter.all false
set_option maxRecDepth 100000
set_option maxHeartbeats 4000000
namespace Pace
open PySem PySem.Spec PyProof.Rows L2 DL
theorem sz {n : Nat} (h : n ≤ 5000) : n ≤ sizeLine := by rw [sizeLine_eq]; omega
theorem szl {n : Nat} (h : n ≤ 5000) : n < sizeLine := by rw [sizeLine_eq]; omega
/-- what is reached by a speech -/
def run (rs : List (List Mv)) (ss : List Nat) (cs : List Nat) : List Nat := cs.foldl (behind rs) ss
theorem behind_mem {rs : List (List Mv)} {ss : List Nat} {c k : Nat} : k ∈ behind rs ss c ↔ ∃ s ∈ ss, ∃ m ∈ rs.getD s [], m.h = c ∧ m.t = k := by
  unfold behind
  rw [(nsort_perm _).mem_iff, firstsF_mem]
  simp [hits, and_assoc]
theorem behind_lt {rs : List (List Mv)} {n : Nat} (h : ∀ r ∈ rs, ∀ m ∈ r, m.t < n) {ss : List Nat} {c : Nat} : ∀ k ∈ behind rs ss c, k < n := by
  intro k hk
  obtain ⟨s, _, m, hm, _, rfl⟩ := behind_mem.mp hk
  cases e : rs[s]? with
  | none => simp [List.getD, e] at hm
  | some r =>
    simp [List.getD, e] at hm
    exact h r (List.mem_of_getElem? e) m hm
theorem lt_of_le_nd : ∀ {l : List Nat}, l.Pairwise (· ≤ ·) → l.Nodup → l.Pairwise (· < ·)
  | [], _, _ => .nil
  | a :: l, h, nd => by
    rw [List.pairwise_cons] at h
    rw [List.nodup_cons] at nd
    refine List.pairwise_cons.mpr ⟨fun b hb => ?_, lt_of_le_nd h.2 nd.2⟩
    have h1 := h.1 b hb
    have h2 : a ≠ b := fun e => nd.1 (e ▸ hb)
    omega
theorem behind_sorted {rs : List (List Mv)} {ss : List Nat} {c : Nat} : (behind rs ss c).Pairwise (· < ·) := by
  unfold behind
  refine lt_of_le_nd (nsort_le _) ?_
  exact (nsort_perm _).nodup_iff.mpr (firstsF_nodup _)
/-- the sets of numbers below n -/
def subs : Nat → List (List Nat)
  | 0 => [[]]
  | n + 1 => subs n ++ (subs n).map (· ++ [n])
theorem subs_len : ∀ n, (subs n).length = 2 ^ n
  | 0 => rfl
  | n + 1 => by simp [subs, subs_len n]; omega
theorem subs_mem : ∀ (n : Nat) (l : List Nat), l.Pairwise (· < ·) → (∀ k ∈ l, k < n) → l ∈ subs n
  | 0, l, _, h => by
    cases l with
    | nil => simp [subs]
    | cons a l => exact absurd (h a (by simp)) (by omega)
  | n + 1, l, hp, h => by
    rcases List.eq_nil_or_concat l with rfl | ⟨l', a, rfl⟩
    · exact List.mem_append.mpr (.inl (subs_mem n [] .nil (by simp)))
    · rw [List.concat_eq_append] at *
      rw [List.pairwise_append] at hp
      obtain ⟨h1, _, h3⟩ := hp
      have ha := h a (by simp)
      by_cases e : a = n
      · subst e
        refine List.mem_append.mpr (.inr (List.mem_map.mpr ⟨l', subs_mem a l' h1 fun k hk => h3 k hk a (by simp), rfl⟩))
      · refine List.mem_append.mpr (.inl (subs_mem n _ (List.pairwise_append.mpr ⟨h1, by simp, h3⟩) fun k hk => ?_))
        rcases List.mem_append.mp hk with hk | hk
        · have := h3 k hk a (by simp); omega
        · simp at hk; omega
theorem sets_len {ls : List (List Nat)} {n : Nat} (nd : ls.Nodup) (h : ∀ l ∈ ls, l.Pairwise (· < ·) ∧ ∀ k ∈ l, k < n) : ls.length ≤ 2 ^ n := by
  rw [← subs_len n]
  exact List.Nodup.length_le_of_subset nd fun l hl => subs_mem n l (h l hl).1 (h l hl).2
/-- sets met, each with its speech -/
abbrev Ord := List (List Nat × List Nat)
def stepL (rs : List (List Mv)) (here : List Nat × List Nat) : Ord → List Nat → List Nat ⊕ Ord
  | ord, [] => .inr ord
  | ord, c :: cs => if behind rs here.1 c = [] then .inl (here.2 ++ [c]) else if behind rs here.1 c ∈ ord.map (·.1) then stepL rs here ord cs else stepL rs here (ord ++ [(behind rs here.1 c, here.2 ++ [c])]) cs
theorem stepL_nil {rs : List (List Mv)} {here : List Nat × List Nat} {ord : Ord} : stepL rs here ord [] = .inr ord := rfl
theorem stepL_cons {rs : List (List Mv)} {here : List Nat × List Nat} {ord : Ord} {c : Nat} {cs : List Nat} : stepL rs here ord (c :: cs) = if behind rs here.1 c = [] then .inl (here.2 ++ [c]) else if behind rs here.1 c ∈ ord.map (·.1) then stepL rs here ord cs else stepL rs here (ord ++ [(behind rs here.1 c, here.2 ++ [c])]) cs := rfl
def bfs (rs : List (List Mv)) (hs : List Nat) : Nat → Nat → Ord → Option (List Nat)
  | 0, _, _ => none
  | f + 1, i, ord => match ord[i]? with
    | none => none
    | some here => match stepL rs here ord hs with
      | .inl p => some p
      | .inr ord' => bfs rs hs f (i + 1) ord'
def muteOf (rs : List (List Mv)) (hs : List Nat) : Option (List Nat) := bfs rs hs (2 ^ rs.length) 0 [([0], [])]
structure OrdOk (rs : List (List Mv)) (hs : List Nat) (ord : Ord) : Prop where
  nd : (ord.map (·.1)).Nodup
  st : ∀ x ∈ ord, x.1.Pairwise (· < ·) ∧ ∀ k ∈ x.1, k < rs.length
  ln : ∀ (i : Nat) (x : List Nat × List Nat), ord[i]? = some x → x.2.length ≤ i
  rn : ∀ x ∈ ord, run rs [0] x.2 = x.1 ∧ x.1 ≠ [] ∧ ∀ c ∈ x.2, c ∈ hs
theorem OrdOk.len {rs : List (List Mv)} {hs : List Nat} {ord : Ord} (h : OrdOk rs hs ord) : ord.length ≤ 2 ^ rs.length := by
  have := sets_len (ls := ord.map (·.1)) (n := rs.length) h.nd fun l hl => by
    obtain ⟨x, hx, rfl⟩ := List.mem_map.mp hl
    exact h.st x hx
  simpa using this
theorem OrdOk.start {rs : List (List Mv)} {hs : List Nat} (h : 0 < rs.length) : OrdOk rs hs [([0], [])] where
  nd := by simp
  st := fun x hx => by simp at hx; subst hx; exact ⟨by simp, by simpa using h⟩
  ln := fun i x hx => by
    cases i with
    | zero => simp at hx; subst hx; simp
    | succ i => simp at hx
  rn := fun x hx => by simp at hx; subst hx; exact ⟨rfl, by simp, by simp⟩
theorem run_lt {rs : List (List Mv)} {n : Nat} (h : ∀ r ∈ rs, ∀ m ∈ r, m.t < n) {ss : List Nat} (hs : ∀ k ∈ ss, k < n) : ∀ {cs : List Nat}, ∀ k ∈ run rs ss cs, k < n := by
  intro cs
  rcases List.eq_nil_or_concat cs with rfl | ⟨l, a, rfl⟩
  · exact hs
  · intro k hk
    rw [List.concat_eq_append] at hk
    have : run rs ss (l ++ [a]) = behind rs (run rs ss l) a := by simp [run]
    rw [this] at hk
    exact behind_lt h k hk
/-- a text of codes -/
def strOf (cs : List Nat) : Str := ⟨cs.toArray⟩
theorem strOf_app (a b : List Nat) : strOf a ++ strOf b = strOf (a ++ b) := by
  show (⟨a.toArray ++ b.toArray⟩ : Str) = ⟨(a ++ b).toArray⟩
  simp
theorem strOf_sgn (a : List Nat) (c : Nat) : strOf a ++ sgn c = strOf (a ++ [c]) := strOf_app a [c]
theorem strOf_len (a : List Nat) : (strOf a).length = a.length := by
  show a.toArray.size = _
  simp
theorem strOf_inj {a b : List Nat} (h : strOf a = strOf b) : a = b := by
  have : (strOf a).cps.toList = (strOf b).cps.toList := by rw [h]
  simpa [strOf] using this
theorem signs_get {cs : List Nat} {i : Nat} {d : D} (h : (DL.signs (strOf cs))[i]? = some d) : ∃ c, cs[i]? = some c ∧ d = .str (sgn c) := by
  unfold DL.signs strOf at h
  rw [List.getElem?_map] at h
  simp only at h
  cases e : cs[i]? with
  | none => rw [e] at h; cases h
  | some c => rw [e] at h; cases h; exact ⟨c, rfl, rfl⟩
theorem signs_len (cs : List Nat) : (DL.signs (strOf cs)).length = cs.length := by simp [DL.signs, strOf]
theorem run_snoc {rs : List (List Mv)} {ss cs : List Nat} {c : Nat} : run rs ss (cs ++ [c]) = behind rs (run rs ss cs) c := by simp [run]
theorem OrdOk.add {rs : List (List Mv)} {hs : List Nat} {ord : Ord} (h : OrdOk rs hs ord) (tl : ∀ r ∈ rs, ∀ m ∈ r, m.t < rs.length) {i : Nat} {here : List Nat × List Nat} (hi : ord[i]? = some here) {c : Nat} (hc : c ∈ hs) (h1 : behind rs here.1 c ≠ []) (h2 : behind rs here.1 c ∉ ord.map (·.1)) :
    OrdOk rs hs (ord ++ [(behind rs here.1 c, here.2 ++ [c])]) where
  nd := by
    rw [List.map_append, List.nodup_append]
    refine ⟨h.nd, by simp, fun a ha b hb => ?_⟩
    simp at hb
    subst hb
    exact fun e => h2 (e ▸ ha)
  st := fun x hx => by
    rcases List.mem_append.mp hx with hx | hx
    · exact h.st x hx
    · simp at hx; subst hx; exact ⟨behind_sorted, behind_lt tl⟩
  ln := fun j x hx => by
    by_cases hj : j < ord.length
    · rw [List.getElem?_append_left hj] at hx; exact h.ln j x hx
    · rw [List.getElem?_append_right (by omega)] at hx
      have hj' : j - ord.length = 0 := by
        cases e : j - ord.length with
        | zero => rfl
        | succ k => rw [e] at hx; simp at hx
      rw [hj'] at hx
      simp at hx
      subst hx
      have := h.ln i here hi
      have := (List.getElem?_eq_some_iff.mp hi).1
      simp; omega
  rn := fun x hx => by
    rcases List.mem_append.mp hx with hx | hx
    · exact h.rn x hx
    · simp at hx; subst hx
      obtain ⟨a, b, d⟩ := h.rn here (List.mem_of_getElem? hi)
      refine ⟨by rw [run_snoc, a], h1, fun e he => ?_⟩
      rcases List.mem_append.mp he with he | he
      · exact d e he
      · simp at he; subst he; exact hc
/-- a speech that ends the way -/
def MutP (rs : List (List Mv)) (hs : List Nat) (p : List Nat) : Prop := ∃ q c, p = q ++ [c] ∧ c ∈ hs ∧ (∀ x ∈ q, x ∈ hs) ∧ run rs [0] q ≠ [] ∧ run rs [0] p = [] ∧ q.length ≤ 2 ^ rs.length
theorem stepL_ok {rs : List (List Mv)} {hs : List Nat} (tl : ∀ r ∈ rs, ∀ m ∈ r, m.t < rs.length) {i : Nat} {here : List Nat × List Nat} : ∀ (cs : List Nat) (ord : Ord), (∀ c ∈ cs, c ∈ hs) → OrdOk rs hs ord → ord[i]? = some here →
    (∀ p, stepL rs here ord cs = .inl p → MutP rs hs p) ∧ ∀ ord', stepL rs here ord cs = .inr ord' → OrdOk rs hs ord'
  | [], ord, _, h, hi => ⟨fun p e => by simp [stepL] at e, fun o e => by simp [stepL] at e; exact e ▸ h⟩
  | c :: cs, ord, hc, h, hi => by
    unfold stepL
    obtain ⟨a, b, d⟩ := h.rn here (List.mem_of_getElem? hi)
    split
    · rename_i e
      refine ⟨fun p q => ?_, fun o q => by cases q⟩
      cases q
      exact ⟨here.2, c, rfl, hc c (by simp), d, by rw [a]; exact b, by rw [run_snoc, a]; exact e, by have h1 := h.ln i here hi; have h2 := h.len; have h3 := (List.getElem?_eq_some_iff.mp hi).1; omega⟩
    · rename_i e
      split
      · exact stepL_ok tl cs ord (fun x hx => hc x (by simp [hx])) h hi
      · rename_i e2
        refine stepL_ok (i := i) tl cs _ (fun x hx => hc x (by simp [hx])) (h.add tl hi (hc c (by simp)) e e2) ?_
        rw [List.getElem?_append_left (List.getElem?_eq_some_iff.mp hi).1]
        exact hi
theorem bfs_some {rs : List (List Mv)} {hs : List Nat} (tl : ∀ r ∈ rs, ∀ m ∈ r, m.t < rs.length) : ∀ (f i : Nat) (ord : Ord) (p : List Nat), OrdOk rs hs ord → bfs rs hs f i ord = some p → MutP rs hs p
  | 0, _, _, _, _, e => by simp [bfs] at e
  | f + 1, i, ord, p, h, e => by
    unfold bfs at e
    split at e
    · cases e
    · rename_i here hi
      have hs2 := stepL_ok (hs := hs) tl hs ord (fun _ z => z) h hi
      split at e
      · rename_i p' e'
        cases e
        exact hs2.1 _ e'
      · rename_i o' e'
        exact bfs_some tl f (i + 1) o' p (hs2.2 _ e') e
theorem muteOf_some {rs : List (List Mv)} {hs : List Nat} (tl : ∀ r ∈ rs, ∀ m ∈ r, m.t < rs.length) (h0 : 0 < rs.length) {p : List Nat} (h : muteOf rs hs = some p) : MutP rs hs p := bfs_some tl _ _ _ _ (.start h0) h
/-- the two things that mute keeps -/
def ordL (ord : Ord) : List D := ord.map fun x => .tup (natsD x.1)
def ordT (ord : Ord) : List (List Key × D) := ord.map fun x => (x.1.map fun (n : Nat) => (.inl (n : Int)), .str (strOf x.2))
theorem natsD_keys : ∀ ns : List Nat, D.keys (natsD ns) = some (ns.map fun (n : Nat) => (.inl (n : Int)))
  | [] => rfl
  | n :: ns => by
    show D.keys (.int (n : Int) :: natsD ns) = _
    simp [D.keys, D.key, natsD_keys ns]
theorem nkey_inj {a b : List Nat} (h : (a.map fun (n : Nat) => (Sum.inl (n : Int) : Key)) = b.map fun (n : Nat) => (.inl (n : Int))) : a = b := by
  refine List.map_inj_right (f := fun (n : Nat) => (Sum.inl (n : Int) : Key)) (fun x y e => ?_) |>.mp h
  have : (x : Int) = (y : Int) := Sum.inl.inj e
  omega
theorem natsD_inj {a b : List Nat} (h : natsD a = natsD b) : a = b := by
  refine List.map_inj_right (f := fun (n : Nat) => D.int (n : Int)) (fun x y e => ?_) |>.mp h
  have : (x : Int) = (y : Int) := D.int.inj e
  omega
theorem natsD_si (ns : List Nat) : D.sis (natsD ns) = true := by
  rw [sis_all]
  intro x hx
  obtain ⟨n, _, rfl⟩ := List.mem_map.mp hx
  rfl
theorem natsD_dps (ns : List Nat) : D.dps (natsD ns) ≤ 0 := dps_le fun x hx => by
  obtain ⟨n, _, rfl⟩ := List.mem_map.mp hx
  simp [D.dp]
theorem natsD_eqv (a b : List Nat) : D.eqv (.tup (natsD a)) (.tup (natsD b)) = decide (a = b) := by
  rw [Bool.eq_iff_iff, eqv_si (x := .tup (natsD a)) (y := .tup (natsD b)) (natsD_si a) (natsD_si b)]
  simp only [D.tup.injEq, decide_eq_true_eq]
  exact ⟨natsD_inj, fun e => by rw [e]⟩
theorem natsD_okE (a b : List Nat) : okE (.tup (natsD a)) (.tup (natsD b)) = true := okE_si (natsD_si a) (natsD_si b) (by have := natsD_dps a; simp only [D.dp]; omega)
theorem natsD_eqvL (a b : List Nat) : D.eqv (.lst (natsD a)) (.lst (natsD b)) = decide (a = b) := by
  rw [Bool.eq_iff_iff, eqv_si (x := .lst (natsD a)) (y := .lst (natsD b)) (natsD_si a) (natsD_si b)]
  simp only [D.lst.injEq, decide_eq_true_eq]
  exact ⟨natsD_inj, fun e => by rw [e]⟩
theorem natsD_okEL (a b : List Nat) : okE (.lst (natsD a)) (.lst (natsD b)) = true := okE_si (natsD_si a) (natsD_si b) (by have := natsD_dps a; simp only [D.dp]; omega)
theorem find_key {β : Type} {f : List Nat × List Nat → β} {ord : Ord} {l : List Nat} (h : l ∉ ord.map (·.1)) : (ord.map fun x => ((x.1.map fun (n : Nat) => (Sum.inl (n : Int) : Key)), f x)).find? (fun kv => decide (kv.1 = l.map fun (n : Nat) => (.inl (n : Int)))) = none := by
  rw [List.find?_eq_none]
  intro x hx
  obtain ⟨y, hy, rfl⟩ := List.mem_map.mp hx
  simp only [decide_eq_true_eq]
  intro e
  exact h (nkey_inj e ▸ List.mem_map.mpr ⟨y, hy, rfl⟩)
theorem val_no {f : List Nat × List Nat → D} {ord : Ord} {l : List Nat} (h : l ∉ ord.map (·.1)) : valD (ord.map fun x => ((x.1.map fun (n : Nat) => (Sum.inl (n : Int) : Key)), f x)) (l.map fun (n : Nat) => (.inl (n : Int))) = none := by
  unfold valD
  rw [find_key h]
  rfl
theorem val_at {f : List Nat × List Nat → D} : ∀ {ord : Ord} {i : Nat} {x : List Nat × List Nat}, (ord.map (·.1)).Nodup → ord[i]? = some x → valD (ord.map fun x => ((x.1.map fun (n : Nat) => (Sum.inl (n : Int) : Key)), f x)) (x.1.map fun (n : Nat) => (.inl (n : Int))) = some (f x)
  | [], _, _, _, h => by simp at h
  | y :: ord, i, x, nd, h => by
    rw [List.map_cons, List.nodup_cons] at nd
    cases i with
    | zero =>
      simp at h; subst h
      simp [valD]
    | succ i =>
      simp at h
      have hne : ¬ ((y.1.map fun (n : Nat) => (Sum.inl (n : Int) : Key)) = x.1.map fun (n : Nat) => (.inl (n : Int))) := fun e => nd.1 (nkey_inj e ▸ List.mem_map.mpr ⟨x, List.mem_of_getElem? h, rfl⟩)
      have ih := val_at (f := f) nd.2 h
      unfold valD at ih ⊢
      rw [List.map_cons, List.find?_cons]
      simp only [hne, decide_false]
      exact ih
theorem val_isSome {f : List Nat × List Nat → D} {ord : Ord} {l : List Nat} (nd : (ord.map (·.1)).Nodup) : (valD (ord.map fun x => ((x.1.map fun (n : Nat) => (Sum.inl (n : Int) : Key)), f x)) (l.map fun (n : Nat) => (.inl (n : Int)))).isSome = decide (l ∈ ord.map (·.1)) := by
  by_cases h : l ∈ ord.map (·.1)
  · obtain ⟨x, hx, rfl⟩ := List.mem_map.mp h
    obtain ⟨i, hi⟩ := List.mem_iff_getElem?.mp hx
    rw [val_at nd hi]
    simp [h]
  · rw [val_no h]; simp [h]
theorem put_new {κ : Type} [DecidableEq κ] {kds : List (κ × D)} {k : κ} {d : D} (h : valD kds k = none) : putD kds k d = kds ++ [(k, d)] := by
  unfold putD
  rw [if_neg]
  intro z
  unfold valD at h
  rw [Option.map_eq_none_iff, List.find?_eq_none] at h
  rw [List.any_eq_true] at z
  obtain ⟨x, hx, e⟩ := z
  exact h x hx e
theorem natsD_eqv0 (a : List Nat) : D.eqv (.tup (natsD a)) (.tup []) = decide (a = []) := natsD_eqv a []
theorem natsD_okE0 (a : List Nat) : okE (.tup (natsD a)) (.tup []) = true := natsD_okE a []
theorem ordL_at {ord : Ord} {i : Nat} {x : List Nat × List Nat} (h : ord[i]? = some x) : atI (ordL ord) (i : Int) = some (.tup (natsD x.1)) := atI_nat (by rw [ordL, List.getElem?_map, h]; rfl)
theorem ordL_len (ord : Ord) : (ordL ord).length = ord.length := by simp [ordL]
theorem ordT_len (ord : Ord) : (ordT ord).length = ord.length := by simp [ordT]
theorem ordT_at {ord : Ord} {i : Nat} {x : List Nat × List Nat} (nd : (ord.map (·.1)).Nodup) (h : ord[i]? = some x) : valD (ordT ord) (x.1.map fun (n : Nat) => (.inl (n : Int))) = some (.str (strOf x.2)) := val_at (f := fun x => .str (strOf x.2)) nd h
theorem ordT_is {ord : Ord} {l : List Nat} (nd : (ord.map (·.1)).Nodup) : (valD (ordT ord) (l.map fun (n : Nat) => (.inl (n : Int)))).isSome = decide (l ∈ ord.map (·.1)) := val_isSome (f := fun x => .str (strOf x.2)) nd
theorem ordT_put {ord : Ord} {l p : List Nat} (h : l ∉ ord.map (·.1)) : putD (ordT ord) (l.map fun (n : Nat) => (.inl (n : Int))) (.str (strOf p)) = ordT (ord ++ [(l, p)]) := by
  have h1 : valD (ordT ord) (l.map fun (n : Nat) => (.inl (n : Int))) = none := val_no (f := fun x => .str (strOf x.2)) h
  rw [put_new h1]
  simp [ordT]
theorem ordL_put {ord : Ord} {l p : List Nat} : ordL ord ++ [.tup (natsD l)] = ordL (ord ++ [(l, p)]) := by simp [ordL]
end Pace
end
section
set_option Elab.async false
set_option linter.all false
set_option maxRecDepth 100000
set_option maxHeartbeats 4000000
namespace Pace
open PySem PySem.Spec PyProof.Rows L2 DL
theorem strIn_sgn (c : Nat) (a : List Nat) : strIn (sgn c) (strOf a) = decide (c ∈ a) := by
  exact (StrLaws.found_one (strOf a) c).trans (decide_eq_decide.mpr (by simp [strOf]))
theorem cut_last {α : Type} (xs : List α) : DL.cutD xs none (some (-1)) = xs.dropLast := by
  unfold DL.cutD
  rw [HT.sIx_none, List.drop_zero, Nat.sub_zero, List.dropLast_eq_take]
  congr 1
  show (if (-1 : Int) < 0 then ((-1 : Int) + (xs.length : Int)).toNat else min (-1 : Int).toNat xs.length) = _
  rw [if_pos (by decide)]
  omega
theorem cut_tail {α : Type} (xs : List α) : DL.cutD xs (some 1) none = xs.tail := by
  unfold DL.cutD
  have e : HT.sIx xs.length 0 (some 1) = min 1 xs.length := HT.sIx_nat xs.length 0 1
  rw [HT.sIx_none, e]
  cases xs with
  | nil => rfl
  | cons x xs =>
    have : min 1 (x :: xs).length = 1 := by simp
    rw [this]
    simp
theorem cutS_strOf (cs : List Nat) (lo hi : Option Int) : cutS (strOf cs) lo hi = strOf (DL.cutD cs lo hi) := by
  unfold cutS DL.cutD
  rw [strOf_len]
  simp [strOf]
def abc : List Nat := [97, 98, 99, 100, 101, 102, 103, 104, 105, 106, 107, 108, 109, 110, 111, 112, 113, 114, 115, 116, 117, 118, 119, 120, 121, 122]
theorem abc_str : (Str.ofString "abcdefghijklmnopqrstuvwxyz") = strOf abc := by decide +kernel
/-- neighbours -/
def nbr {α : Type} (r : α → α → Bool) (l : List α) : Bool := (List.zipWith r l.dropLast l.tail).all id
def lettersB (cs : List Nat) : Bool := !cs.isEmpty && cs.all (fun c => decide (c ∈ abc)) && nbr (fun a b => decide (a < b)) cs
def mvB (hs ws : List Nat) (n : Nat) (m : Mv) : Bool := decide (m.h ∈ hs) && decide (m.c ∈ ws) && decide (m.t < n)
def mvLt (a b : Mv) : Bool := decide (a.h < b.h ∨ (a.h = b.h ∧ a.c < b.c))
def rowB (hs ws : List Nat) (n : Nat) (r : List Mv) : Bool := r.all (mvB hs ws n) && nbr mvLt r
theorem sgn_lt (a b : Nat) : D.lt (.str (sgn a)) (.str (sgn b)) = decide (a < b) := by
  rw [DL.lt_str]
  refine decide_eq_decide.mpr ?_
  simp [sgn, List.cons_lt_cons_iff]
theorem mv_lt (a b : Mv) : D.lt (.tup [.str (sgn a.h), .str (sgn a.c)]) (.tup [.str (sgn b.h), .str (sgn b.c)]) = mvLt a b := by
  have e : D.lt (.tup [.str (sgn a.h), .str (sgn a.c)]) (.tup [.str (sgn b.h), .str (sgn b.c)]) = PySem.W.dataLt (.tuple [.str (sgn a.h), .str (sgn a.c)]) (.tuple [.str (sgn b.h), .str (sgn b.c)]) := rfl
  rw [e, PySem.W.dataLt_pair rfl rfl]
  have e1 : ∀ x y : Nat, PyData.eqv (.str (sgn x)) (.str (sgn y)) = (x == y) := fun x y => by
    have := eqv_str (sgn x) (sgn y)
    rw [sgn_beq] at this
    exact this
  have e2 : ∀ x y : Nat, PySem.W.dataLt (.str (sgn x)) (.str (sgn y)) = decide (x < y) := fun x y => sgn_lt x y
  rw [e1, e1, e2, e2]
  unfold mvLt
  by_cases h : a.h = b.h
  · rw [if_pos (by simp [h])]
    by_cases h2 : a.c = b.c
    · rw [if_pos (by simp [h2])]; simp [h, h2]
    · rw [if_neg (by simp [h2])]; simp [h]
  · rw [if_neg (by simp [h])]; simp [h]
theorem mv_okL (a b : Mv) : okL (.tup [.str (sgn a.h), .str (sgn a.c)]) (.tup [.str (sgn b.h), .str (sgn b.c)]) = true := rfl
theorem str_nil : Str.ofString "" = strOf [] := by decide +kernel
theorem mv0 (m : Mv) : D.item (.tup [.str (sgn m.h), .str (sgn m.c), .int (m.t : Int)]) (.int 0) = some (.str (sgn m.h)) := rfl
theorem mv1 (m : Mv) : D.item (.tup [.str (sgn m.h), .str (sgn m.c), .int (m.t : Int)]) (.int 1) = some (.str (sgn m.c)) := rfl
theorem mv2 (m : Mv) : D.item (.tup [.str (sgn m.h), .str (sgn m.c), .int (m.t : Int)]) (.int 2) = some (.int (m.t : Int)) := rfl
theorem mv_cut (m : Mv) : DL.cutD [.str (sgn m.h), .str (sgn m.c), .int (m.t : Int)] none (some 2) = [D.str (sgn m.h), .str (sgn m.c)] := rfl
theorem nbr_cons {α : Type} (r : α → α → Bool) (a b : α) (l : List α) : nbr r (a :: b :: l) = (r a b && nbr r (b :: l)) := by
  unfold nbr
  simp [List.dropLast]
theorem nbr_pair {α : Type} {r : α → α → Bool} (tr : ∀ a b c, r a b = true → r b c = true → r a c = true) : ∀ l : List α, nbr r l = true → l.Pairwise fun a b => r a b = true
  | [], _ => .nil
  | [a], _ => by simp
  | a :: b :: l, h => by
    rw [nbr_cons, Bool.and_eq_true] at h
    have ih := nbr_pair tr (b :: l) h.2
    refine List.pairwise_cons.mpr ⟨fun c hc => ?_, ih⟩
    rcases List.mem_cons.mp hc with rfl | hc
    · exact h.1
    · exact tr a b c h.1 ((List.pairwise_cons.mp ih).1 c hc)
theorem mvLt_tr (a b c : Mv) (h1 : mvLt a b = true) (h2 : mvLt b c = true) : mvLt a c = true := by
  unfold mvLt at *
  simp only [decide_eq_true_eq] at *
  omega
/-- a row's keys -/
def mvK (m : Mv) : List Key × D := ([.inr (sgn m.h), .inr (sgn m.c)], .int (m.t : Int))
theorem mvK_ne {a b : Mv} (h : mvLt a b = true) : (mvK a).1 ≠ (mvK b).1 := by
  intro e
  simp only [mvK, List.cons.injEq, Sum.inr.injEq, and_true] at e
  have h1 := sgn_inj e.1
  have h2 := sgn_inj e.2
  unfold mvLt at h
  simp only [decide_eq_true_eq] at h
  omega
theorem merge_row : ∀ (r : List Mv) (acc : List (List Key × D)), (∀ m ∈ r, ∀ x ∈ acc, x.1 ≠ (mvK m).1) → r.Pairwise (fun a b => mvLt a b = true) → mergeDT acc (r.map mvK) = acc ++ r.map mvK
  | [], acc, _, _ => by simp [mergeDT]
  | m :: r, acc, h, hp => by
    rw [List.pairwise_cons] at hp
    have hv : valD acc (mvK m).1 = none := by
      unfold valD
      rw [Option.map_eq_none_iff, List.find?_eq_none]
      intro x hx
      simpa using h m (by simp) x hx
    show mergeDT (putD acc (mvK m).1 (mvK m).2) (r.map mvK) = _
    rw [put_new hv, merge_row r _ (fun m' hm' x hx => ?_) hp.2]
    · simp
    · rcases List.mem_append.mp hx with hx | hx
      · exact h m' (by simp [hm']) x hx
      · simp at hx; subst hx
        exact mvK_ne (hp.1 m' hm')
theorem merge_rowB {hs ws : List Nat} {n : Nat} {r : List Mv} (h : rowB hs ws n r = true) : mergeDT [] (r.map mvK) = r.map mvK := by
  unfold rowB at h
  rw [Bool.and_eq_true] at h
  have := merge_row r [] (fun _ _ x hx => by simp at hx) (nbr_pair mvLt_tr r h.2)
  simpa using this
theorem prsT_row : ∀ r : List Mv, prsT (r.map fun m => .tup [.tup [.str (sgn m.h), .str (sgn m.c)], .int (m.t : Int)]) = some (r.map mvK)
  | [] => rfl
  | m :: r => by
    simp only [List.map_cons, prsT, D.keys, D.key, prsT_row r]
    rfl
/-- rules that Rules takes -/
structure RulV (hs ws : List Nat) (rs : List (List Mv)) : Prop where
  lh : lettersB hs = true
  lw : lettersB ws = true
  sh : hs.length ≤ 1000
  sw : ws.length ≤ 1000
  n1 : 1 ≤ rs.length
  n2 : rs.length ≤ 999
  row : ∀ r ∈ rs, rowB hs ws rs.length r = true ∧ r.length ≤ 1000
def mkR (hs ws : List Nat) (rs : List (List Mv)) : Rul := ⟨strOf hs, strOf ws, rs⟩
theorem RulV.ok {hs ws : List Nat} {rs : List (List Mv)} (h : RulV hs ws rs) : (mkR hs ws rs).Ok where
  few := by have := h.n2; show rs.length ≤ 1000; omega
  at_ := fun r hr => by
    obtain ⟨a, b⟩ := h.row r hr
    refine ⟨b, fun m hm => ?_⟩
    unfold rowB at a
    rw [Bool.and_eq_true, List.all_eq_true] at a
    have := a.1 m hm
    unfold mvB at this
    simp only [Bool.and_eq_true, decide_eq_true_eq] at this
    exact this.2
theorem pf1 (a : D) : putFD "heard" a [] = [(("heard" : Str), a)] := rfl
theorem pf2 (a b : D) : putFD "written" b [(("heard" : Str), a)] = [(("heard" : Str), a), (("written" : Str), b)] := rfl
theorem pf3 (a b c : D) : putFD "rows" c [(("heard" : Str), a), (("written" : Str), b)] = [(("heard" : Str), a), (("written" : Str), b), (("rows" : Str), c)] := rfl
theorem pf4 (a b c d : D) : putFD "steps" d [(("heard" : Str), a), (("written" : Str), b), (("rows" : Str), c)] = [(("heard" : Str), a), (("written" : Str), b), (("rows" : Str), c), (("steps" : Str), d)] := rfl
end Pace
end
section
set_option Elab.async false
set_option linter.all false
set_option maxRecDepth 100000
set_option maxHeartbeats 4000000
namespace Pace
open PySem PySem.Spec PyProof.Rows L2 DL
def wD (hs ws : List Nat) (rs : List (List Mv)) : D := .dK [(.inr "heard", .str (strOf hs)), (.inr "written", .str (strOf ws)), (.inr "rows", rowsD rs)]
theorem wD_cur (G : GH) (hs ws : List Nat) (rs : List (List Mv)) : D.cur G (wD hs ws rs) = wD hs ws rs := rfl
theorem wD_heard (hs ws : List Nat) (rs : List (List Mv)) : D.item (wD hs ws rs) (.str "heard") = some (.str (strOf hs)) := rfl
theorem wD_written (hs ws : List Nat) (rs : List (List Mv)) : D.item (wD hs ws rs) (.str "written") = some (.str (strOf ws)) := rfl
theorem wD_rows (hs ws : List Nat) (rs : List (List Mv)) : D.item (wD hs ws rs) (.str "rows") = some (rowsD rs) := rfl
theorem rowsD_cur (G : GH) (rs : List (List Mv)) : D.cur G (rowsD rs) = rowsD rs := rfl
theorem rowsD_at {rs : List (List Mv)} {i : Nat} {r : List Mv} (h : rs[i]? = some r) : D.item (rowsD rs) (.int (i : Int)) = some (rowD r) := atI_nat (by rw [List.getElem?_map, h]; rfl)
/-- a move without what is heard -/
def ctD (m : Mv) : D := .tup [.str (sgn m.c), .int (m.t : Int)]
/-- few enough for the set of what is reached -/
structure Few (rs : List (List Mv)) : Prop where
  few : ∃ B, (∀ r ∈ rs, r.length ≤ B) ∧ rs.length * B < 64
theorem flat_len {α β : Type} (f : α → List β) (B : Nat) : ∀ l : List α, (∀ a ∈ l, (f a).length ≤ B) → (l.flatMap f).length ≤ l.length * B
  | [], _ => by simp
  | a :: l, h => by
    have h1 := h a (by simp)
    have h2 := flat_len f B l fun b hb => h b (by simp [hb])
    simp only [List.flatMap_cons, List.length_append, List.length_cons]
    rw [Nat.add_mul]
    omega
theorem hits_len {rs : List (List Mv)} {B : Nat} (h : ∀ r ∈ rs, r.length ≤ B) (s c : Nat) : (hits rs s c).length ≤ B := by
  unfold hits
  rw [List.length_map]
  refine Nat.le_trans (List.length_filter_le _ _) ?_
  cases e : rs[s]? with
  | none => simp [List.getD, e]
  | some r => simpa [List.getD, e] using h r (List.mem_of_getElem? e)
theorem Few.len {rs : List (List Mv)} (h : Few rs) {ss : List Nat} (nd : ss.Nodup) (hl : ∀ s ∈ ss, s < rs.length) (c : Nat) : (ss.flatMap fun s => hits rs s c).length < 64 := by
  obtain ⟨B, h1, h2⟩ := h.few
  have h3 := flat_len (fun s => hits rs s c) B ss fun s _ => hits_len h1 s c
  have h4 := nodup_lt_len nd hl
  have h5 := Nat.mul_le_mul_right B h4
  omega
theorem isort1_nat (ts : List Nat) : (isort1 (ts.map fun (t : Nat) => (t : Int))).map D.int = natsD (nsort (firstsF ts)) := by
  have e : firstsF (ts.map fun (t : Nat) => (t : Int)) = (firstsF ts).map fun (t : Nat) => (t : Int) := by
    have aux : ∀ (l acc : List Nat), (l.map fun (t : Nat) => (t : Int)).foldl addF (acc.map fun (t : Nat) => (t : Int)) = (l.foldl addF acc).map fun (t : Nat) => (t : Int) := by
      intro l
      induction l with
      | nil => intro acc; rfl
      | cons t l ih =>
        intro acc
        rw [List.map_cons, List.foldl_cons, List.foldl_cons, ← ih]
        congr 1
        unfold addF
        have : ((t : Int) ∈ acc.map fun (t : Nat) => (t : Int)) ↔ t ∈ acc := by
          rw [List.mem_map]
          constructor
          · rintro ⟨a, ha, e⟩
            have : a = t := by omega
            exact this ▸ ha
          · exact fun h => ⟨t, h, rfl⟩
        by_cases h : t ∈ acc
        · rw [if_pos (this.mpr h), if_pos h]
        · rw [if_neg (fun z => h (this.mp z)), if_neg h]; simp
    exact aux ts []
  unfold isort1
  rw [e, isort_nat]
theorem intsD_nats (ts : List Nat) : intsD (natsD ts) = some (ts.map fun (t : Nat) => (t : Int)) := by
  have := intsD_map (ts.map fun (t : Nat) => (t : Int))
  rw [List.map_map] at this
  exact this
theorem behind_nodup {rs : List (List Mv)} {ss : List Nat} {c : Nat} : (behind rs ss c).Nodup := behind_sorted.imp fun h => by omega
theorem run_nodup {rs : List (List Mv)} {ss : List Nat} (h : ss.Nodup) : ∀ {cs : List Nat}, (run rs ss cs).Nodup := by
  intro cs
  rcases List.eq_nil_or_concat cs with rfl | ⟨l, a, rfl⟩
  · exact h
  · rw [List.concat_eq_append, run_snoc]; exact behind_nodup
def ordLw (ord : Ord) : List D := ord.map fun x => .tup [.lst (natsD x.1), .str (strOf x.2)]
def ordTw (ord : Ord) : List (List Key × D) := ord.map fun x => (x.1.map fun (n : Nat) => (.inl (n : Int)), .bl true)
theorem ordLw_at {ord : Ord} {i : Nat} {x : List Nat × List Nat} (h : ord[i]? = some x) : atI (ordLw ord) (i : Int) = some (.tup [.lst (natsD x.1), .str (strOf x.2)]) := atI_nat (by rw [ordLw, List.getElem?_map, h]; rfl)
theorem ordLw_len (ord : Ord) : (ordLw ord).length = ord.length := by simp [ordLw]
theorem ordTw_len (ord : Ord) : (ordTw ord).length = ord.length := by simp [ordTw]
theorem ordTw_is {ord : Ord} {l : List Nat} (nd : (ord.map (·.1)).Nodup) : (valD (ordTw ord) (l.map fun (n : Nat) => (.inl (n : Int)))).isSome = decide (l ∈ ord.map (·.1)) := val_isSome (f := fun _ => .bl true) nd
theorem ordTw_put {ord : Ord} {l p : List Nat} (h : l ∉ ord.map (·.1)) : putD (ordTw ord) (l.map fun (n : Nat) => (.inl (n : Int))) (.bl true) = ordTw (ord ++ [(l, p)]) := by
  have h1 : valD (ordTw ord) (l.map fun (n : Nat) => (.inl (n : Int))) = none := val_no (f := fun _ => .bl true) h
  rw [put_new h1]
  simp [ordTw]
theorem ordLw_put {ord : Ord} {l p : List Nat} : ordLw ord ++ [.tup [.lst (natsD l), .str (strOf p)]] = ordLw (ord ++ [(l, p)]) := by simp [ordLw]
theorem natsD_len (a : List Nat) : (natsD a).length = a.length := by simp [natsD]
theorem natsD_app (a b : List Nat) : natsD a ++ natsD b = natsD (a ++ b) := by simp [natsD]
theorem natsD_eqvL0 (a : List Nat) : D.eqv (.lst (natsD a)) (.lst []) = decide (a = []) := natsD_eqvL a []
theorem natsD_okEL0 (a : List Nat) : okE (.lst (natsD a)) (.lst []) = true := natsD_okEL a []
theorem pr0 (a b : D) : D.item (.tup [a, b]) (.int 0) = some a := rfl
theorem pr1 (a b : D) : D.item (.tup [a, b]) (.int 1) = some b := rfl
def pageD : Option (List Nat) → D
  | none => .non
  | some p => .str (strOf p)
end Pace
end
section
set_option Elab.async false
set_option linter.all false
set_option maxRecDepth 100000
set_option maxHeartbeats 4000000
namespace Pace
open PySem PySem.Spec PyProof.Rows L2 DL
/-- a lot: states, moves -/
abbrev Lot := List (Nat × Mv)
def lotK (x : Nat × Mv) : List Key := [.inl (x.1 : Int), .inr (sgn x.2.h), .inr (sgn x.2.c)]
def lotD (lot : Lot) : List (List Key × D) := lot.map fun x => (lotK x, .int (x.2.t : Int))
def lt3 (a b : Mv) : Bool := if a.h == b.h then (if a.c == b.c then decide (a.t < b.t) else decide (a.c < b.c)) else decide (a.h < b.h)
def le3 (a b : Mv) : Bool := !lt3 b a
theorem mvD_lt (a b : Mv) : D.lt (Mv.d a) (Mv.d b) = lt3 a b := by
  have e1 : ∀ x y : Nat, PyData.eqv (.str (sgn x)) (.str (sgn y)) = (x == y) := fun x y => by
    have := eqv_str (sgn x) (sgn y)
    rw [sgn_beq] at this
    exact this
  have e2 : ∀ x y : Nat, PySem.W.dataLt (.str (sgn x)) (.str (sgn y)) = decide (x < y) := fun x y => sgn_lt x y
  have e : D.lt (Mv.d a) (Mv.d b) = PySem.W.dataLt (.tuple [.str (sgn a.h), .str (sgn a.c), .int (a.t : Int)]) (.tuple [.str (sgn b.h), .str (sgn b.c), .int (b.t : Int)]) := rfl
  rw [e, PySem.W.dataLt_tuple, PySem.W.dataLt_cons rfl, PySem.W.dataLt_cons rfl, PySem.W.dataLt_cons rfl, e1, e1, e2, e2, PySem.W.dataLt_int]
  unfold lt3
  split
  · split
    · by_cases h : a.t = b.t
      · have : PyData.eqv (.int (a.t : Int)) (.int (b.t : Int)) = true := by simp [PyData.eqv, h]
        rw [if_pos this, ← PySem.W.dataLt_tuple, PySem.W.dataLt_self]
        simp [h]
      · have : ¬ PyData.eqv (.int (a.t : Int)) (.int (b.t : Int)) = true := by
          intro z
          simp [PyData.eqv] at z
          omega
        rw [if_neg this]
        simp
    · rfl
  · rfl
theorem mvD_le (a b : Mv) : D.le (Mv.d a) (Mv.d b) = le3 a b := by
  have := mvD_lt b a
  unfold le3
  rw [← this]
  rfl
theorem lt3_iff (a b : Mv) : lt3 a b = true ↔ a.h < b.h ∨ (a.h = b.h ∧ (a.c < b.c ∨ (a.c = b.c ∧ a.t < b.t))) := by
  unfold lt3
  by_cases h : a.h = b.h
  · rw [if_pos (by simp [h])]
    by_cases h2 : a.c = b.c
    · rw [if_pos (by simp [h2])]; simp [h, h2]
    · rw [if_neg (by simp [h2])]; simp [h, h2]
  · rw [if_neg (by simp [h])]; simp [h]
theorem le3_tr (a b c : Mv) (h1 : le3 a b = true) (h2 : le3 b c = true) : le3 a c = true := by
  unfold le3 at *
  simp only [Bool.not_eq_true', Bool.eq_false_iff, ne_eq, lt3_iff] at *
  omega
theorem le3_tot (a b : Mv) : (le3 a b || le3 b a) = true := by
  unfold le3
  rw [Bool.or_eq_true, Bool.not_eq_true', Bool.not_eq_true', Bool.eq_false_iff, Bool.eq_false_iff, ne_eq, ne_eq, lt3_iff, lt3_iff]
  omega
def rowOf (lot : Lot) (s : Nat) : List Mv := ((lot.filter fun x => x.1 == s).map (·.2)).mergeSort le3
def rowsOf (lot : Lot) (n : Nat) : List (List Mv) := (List.range n).map (rowOf lot)
theorem sortD_mv (ms : List Mv) : sortD (ms.map Mv.d) = (ms.mergeSort le3).map Mv.d := by
  unfold sortD
  exact (PySem.W.sort_maps (r := le3) (s := D.le) Mv.d (l := ms) fun a _ b _ => (mvD_le a b).symm).symm
theorem okS_mv (ms : List Mv) : okS (ms.map Mv.d) = true := by
  unfold okS
  simp only [Bool.and_eq_true, Bool.or_eq_true, List.all_map, List.all_eq_true, Function.comp]
  refine ⟨⟨⟨?_, fun x _ y _ => rfl⟩, fun x _ => rfl⟩, .inl fun x _ => rfl⟩
  rw [D.pls_all]
  simp only [List.all_map, List.all_eq_true, Function.comp]
  exact fun x _ => rfl
theorem rowOf_mem {lot : Lot} {s : Nat} {m : Mv} : m ∈ rowOf lot s ↔ (s, m) ∈ lot := by
  unfold rowOf
  rw [(List.mergeSort_perm _ _).mem_iff, List.mem_map]
  constructor
  · rintro ⟨x, hx, rfl⟩
    rw [List.mem_filter] at hx
    have : x.1 = s := by simpa using hx.2
    rw [← this]
    exact hx.1
  · exact fun h => ⟨(s, m), List.mem_filter.mpr ⟨h, by simp⟩, rfl⟩
/-- keys are met once -/
def LotNd (lot : Lot) : Prop := (lot.map fun x => (x.1, x.2.h, x.2.c)).Nodup
theorem lotK_inj {x y : Nat × Mv} (h : lotK x = lotK y) : (x.1, x.2.h, x.2.c) = (y.1, y.2.h, y.2.c) := by
  unfold lotK at h
  simp only [List.cons.injEq, Sum.inl.injEq, Sum.inr.injEq, and_true] at h
  have h1 : x.1 = y.1 := by omega
  rw [h1, sgn_inj h.2.1, sgn_inj h.2.2]
theorem nbr_of_pair {α : Type} {r : α → α → Bool} : ∀ {l : List α}, l.Pairwise (fun a b => r a b = true) → nbr r l = true
  | [], _ => rfl
  | [a], _ => rfl
  | a :: b :: l, h => by
    rw [nbr_cons, Bool.and_eq_true]
    rw [List.pairwise_cons] at h
    exact ⟨h.1 b (by simp), nbr_of_pair h.2⟩
theorem rowOf_lt {lot : Lot} (nd : LotNd lot) (s : Nat) : (rowOf lot s).Pairwise fun a b => mvLt a b = true := by
  have h1 : (rowOf lot s).Pairwise fun a b => le3 a b = true := List.pairwise_mergeSort (le := le3) le3_tr le3_tot _
  have h2 : (rowOf lot s).Pairwise fun a b => (a.h, a.c) ≠ (b.h, b.c) := by
    have pm : (rowOf lot s).Perm ((lot.filter fun x => x.1 == s).map (·.2)) := List.mergeSort_perm _ _
    refine (pm.pairwise_iff fun h => fun e => h e.symm).mpr ?_
    rw [List.pairwise_map]
    have h3 : lot.Pairwise fun x y => (x.1, x.2.h, x.2.c) ≠ (y.1, y.2.h, y.2.c) := by
      unfold LotNd at nd
      rw [List.nodup_iff_pairwise_ne, List.pairwise_map] at nd
      exact nd
    have h4 := h3.sublist (List.filter_sublist (p := fun x => x.1 == s))
    refine h4.imp_of_mem fun {x y} hx hy h e => h ?_
    rw [List.mem_filter] at hx hy
    have e1 : x.1 = s := by simpa using hx.2
    have e2 : y.1 = s := by simpa using hy.2
    simp only [Prod.mk.injEq] at e
    rw [e1, e2, e.1, e.2]
  refine (h1.and h2).imp fun {a b} h => ?_
  obtain ⟨h, n⟩ := h
  unfold le3 at h
  rw [Bool.not_eq_true', Bool.eq_false_iff, ne_eq, lt3_iff] at h
  unfold mvLt
  simp only [decide_eq_true_eq]
  simp only [ne_eq, Prod.mk.injEq] at n
  omega
theorem val_lot {lot : Lot} (nd : LotNd lot) {x : Nat × Mv} (h : x ∈ lot) : valD (lotD lot) (lotK x) = some (.int (x.2.t : Int)) := by
  induction lot with
  | nil => simp at h
  | cons y lot ih =>
    unfold LotNd at nd
    rw [List.map_cons, List.nodup_cons] at nd
    rcases List.mem_cons.mp h with rfl | h
    · simp [valD, lotD]
    · have hne : ¬ lotK y = lotK x := fun e => nd.1 (by rw [lotK_inj e]; exact List.mem_map.mpr ⟨x, h, rfl⟩)
      have := ih nd.2 h
      unfold valD lotD at this ⊢
      rw [List.map_cons, List.find?_cons]
      simp only [hne, decide_false]
      exact this
theorem nat_beq (a b : Nat) : ((a : Int) == (b : Int)) = (a == b) := by
  rw [Bool.eq_iff_iff, beq_iff_eq, beq_iff_eq]
  omega
theorem rows_eq (lot : Lot) (n : Nat) : D.tup ((List.range n).map fun s => rowD (rowOf lot s)) = rowsD (rowsOf lot n) := by simp [rowsD, rowsOf]
theorem intL_si (ns : List Int) : D.sis (ns.map D.int) = true := by
  rw [sis_all]
  intro x hx
  obtain ⟨n, _, rfl⟩ := List.mem_map.mp hx
  rfl
theorem intL_ok (ns : List Int) : okE (.lst (ns.map D.int)) (.lst []) = true := by
  refine okE_si (x := .lst (ns.map D.int)) (y := .lst []) (intL_si ns) rfl ?_
  have : D.dps (ns.map D.int) ≤ 0 := dps_le fun x hx => by
    obtain ⟨n, _, rfl⟩ := List.mem_map.mp hx
    simp [D.dp]
  simp only [D.dp]
  omega
theorem intL_eqv (ns : List Int) : D.eqv (.lst (ns.map D.int)) (.lst []) = decide (ns = []) := by
  rw [Bool.eq_iff_iff, eqv_si (x := .lst (ns.map D.int)) (y := .lst []) (intL_si ns) rfl]
  simp
theorem pop_last (ns : List Int) (a : Int) : ((ns ++ [a]).map D.int)[((ns ++ [a]).map D.int).length - 1]? = some (.int a) := by simp
theorem pop_rest (ns : List Int) (a : Int) : ((ns ++ [a]).map D.int).dropLast = ns.map D.int := by simp
end Pace
end
section
set_option Elab.async false
set_option linter.all false
set_option maxRecDepth 100000
set_option maxHeartbeats 4000000
namespace Pace
open PySem PySem.Spec PyProof.Rows L2 DL
theorem s_a : Str.ofString "a" = sgn 97 := by decide +kernel
theorem s_b : Str.ofString "b" = sgn 98 := by decide +kernel
theorem s_x : Str.ofString "x" = sgn 120 := by decide +kernel
theorem s_a' : sgn 97 = strOf [97] := rfl
theorem s_ab : Str.ofString "ab" = strOf [97, 98] := by decide +kernel
theorem s_abx : Str.ofString "abx" = strOf [97, 98, 120] := by decide +kernel
theorem s_xy : Str.ofString "xy" = strOf [120, 121] := by decide +kernel
theorem s_abc : Str.ofString "abc" = strOf [97, 98, 99] := by decide +kernel
def kTop : List Mv := [⟨97, 97, 1⟩, ⟨97, 98, 2⟩, ⟨98, 97, 1⟩, ⟨98, 98, 2⟩]
def kLate : List (List Mv) := [kTop, [⟨97, 97, 1⟩, ⟨97, 98, 2⟩], [⟨98, 97, 1⟩, ⟨98, 98, 2⟩]]
def kVow : List (List Mv) := [kTop, [⟨97, 97, 1⟩], [⟨97, 97, 2⟩, ⟨98, 97, 2⟩]]
def kTurn : List (List Mv) := [kTop, [⟨97, 97, 0⟩, ⟨97, 98, 0⟩], [⟨98, 97, 0⟩, ⟨98, 98, 0⟩]]
def kFar : List (List Mv) := [kTop ++ [⟨120, 97, 1⟩, ⟨120, 98, 2⟩], [⟨97, 97, 3⟩, ⟨120, 97, 1⟩], [⟨98, 97, 3⟩, ⟨120, 97, 2⟩], [⟨97, 97, 3⟩, ⟨98, 97, 3⟩, ⟨120, 97, 3⟩]]
def knownT : List (List Nat × List (List Mv)) := [([97, 98], kLate), ([97, 98], kVow), ([97, 98], kTurn), ([97, 98, 120], kFar)]
theorem known_mute : ∀ k ∈ knownT, muteOf k.2 k.1 = none := by decide +kernel
theorem known_val : ∀ k ∈ knownT, (lettersB k.1 && lettersB [97, 98] && decide (k.1.length ≤ 1000) && decide (1 ≤ k.2.length) && decide (k.2.length ≤ 4) && k.2.all fun r => rowB k.1 [97, 98] k.2.length r && decide (r.length ≤ 6)) = true := by decide +kernel
/-- what the law's rules are like -/
structure Some_ (top : Nat) (hs ws : List Nat) (rs : List (List Mv)) : Prop where
  val : RulV hs ws rs
  mute : muteOf rs hs = none
  few : Few rs
  n : rs.length ≤ top
theorem known_some {k : List Nat × List (List Mv)} (h : k ∈ knownT) : Some_ 4 k.1 [97, 98] k.2 := by
  have := known_val k h
  simp only [Bool.and_eq_true, decide_eq_true_eq, List.all_eq_true] at this
  obtain ⟨⟨⟨⟨⟨h1, h2⟩, h3⟩, h4⟩, h5⟩, h6⟩ := this
  exact ⟨⟨h1, h2, h3, by decide, h4, by omega, fun r hr => ⟨(h6 r hr).1, by have := (h6 r hr).2; omega⟩⟩, known_mute k h, ⟨6, fun r hr => (h6 r hr).2, by omega⟩, h5⟩
theorem texts_sgn : ∀ cs : List Nat, texts (cs.map fun c => .str (sgn c)) = some (cs.map sgn)
  | [] => rfl
  | c :: cs => by simp [texts, texts_sgn cs]
theorem join_sgn : ∀ cs : List Nat, Txt.join (Str.ofString "") (cs.map sgn) = strOf cs := by
  have hn : ∀ x : Str, Str.ofString "" ++ x = x := fun x => by
    rw [str_nil]
    show (⟨#[] ++ x.cps⟩ : Str) = x
    simp
  intro cs
  rw [TL.join_eq]
  induction cs with
  | nil => rw [← str_nil]; rfl
  | cons c cs ih =>
    cases cs with
    | nil => rfl
    | cons d cs =>
      show sgn c ++ Str.ofString "" ++ Str.join (Str.ofString "") ((d :: cs).map sgn) = _
      rw [ih]
      have : sgn c ++ Str.ofString "" = sgn c := by
        rw [str_nil]
        show (⟨#[c] ++ #[]⟩ : Str) = _
        rfl
      rw [this]
      exact strOf_app [c] (d :: cs)
theorem sgn_sum (cs : List Nat) : ((cs.map sgn).map (·.length)).sum = cs.length := by
  induction cs with
  | nil => rfl
  | cons c cs ih =>
    simp only [List.map_cons, List.sum_cons, ih, List.length_cons]
    have : (sgn c).length = 1 := rfl
    omega
end Pace
end
section
set_option Elab.async false
set_option linter.all false
set_option maxRecDepth 100000
set_option maxHeartbeats 4000000
namespace Pace
open PySem PySem.Spec PyProof.Rows L2 DL
def key3 (x : Nat × Mv) : Nat × Nat × Nat := (x.1, x.2.h, x.2.c)
def lotPut (lot : Lot) (x : Nat × Mv) : Lot := if lot.any (fun y => decide (key3 y = key3 x)) then lot.map (fun y => if key3 y = key3 x then x else y) else lot ++ [x]
structure LotOk (sz : Nat) (hs ws : List Nat) (lot : Lot) : Prop where
  nd : LotNd lot
  at_ : ∀ x ∈ lot, x.1 < sz ∧ x.2.h ∈ hs ∧ x.2.c ∈ ws ∧ x.2.t < sz
theorem lotK_iff (x y : Nat × Mv) : lotK x = lotK y ↔ key3 x = key3 y := by
  constructor
  · exact lotK_inj
  · intro h
    unfold key3 at h
    simp only [Prod.mk.injEq] at h
    unfold lotK
    rw [h.1, h.2.1, h.2.2]
theorem lotD_put (lot : Lot) (x : Nat × Mv) : putD (lotD lot) (lotK x) (.int (x.2.t : Int)) = lotD (lotPut lot x) := by
  have e : ((lotD lot).any fun kv => decide (kv.1 = lotK x)) = lot.any fun y => decide (key3 y = key3 x) := by
    unfold lotD
    rw [List.any_map]
    congr 1
    funext y
    exact decide_eq_decide.mpr (lotK_iff y x)
  unfold putD lotPut
  rw [e]
  split
  · unfold lotD
    rw [List.map_map, List.map_map]
    refine List.map_congr_left fun y _ => ?_
    simp only [Function.comp]
    by_cases h : key3 y = key3 x
    · rw [if_pos ((lotK_iff y x).mpr h), if_pos h]
      rw [(lotK_iff y x).mpr h]
    · rw [if_neg (fun z => h ((lotK_iff y x).mp z)), if_neg h]
  · simp [lotD]
theorem lotPut_keys (lot : Lot) (x : Nat × Mv) : (lotPut lot x).map key3 = if lot.any (fun y => decide (key3 y = key3 x)) then lot.map key3 else lot.map key3 ++ [key3 x] := by
  unfold lotPut
  split
  · rw [List.map_map]
    refine List.map_congr_left fun y _ => ?_
    simp only [Function.comp]
    split
    · rename_i h; exact h.symm
    · rfl
  · simp
theorem lotPut_mem {lot : Lot} {x y : Nat × Mv} (h : y ∈ lotPut lot x) : y ∈ lot ∨ y = x := by
  unfold lotPut at h
  split at h
  · obtain ⟨z, hz, rfl⟩ := List.mem_map.mp h
    split
    · exact .inr rfl
    · exact .inl hz
  · rcases List.mem_append.mp h with h | h
    · exact .inl h
    · simp at h; exact .inr h
theorem LotOk.put {sz : Nat} {hs ws : List Nat} {lot : Lot} (h : LotOk sz hs ws lot) {x : Nat × Mv} (hx : x.1 < sz ∧ x.2.h ∈ hs ∧ x.2.c ∈ ws ∧ x.2.t < sz) : LotOk sz hs ws (lotPut lot x) where
  nd := by
    have e := lotPut_keys lot x
    have n0 : (lot.map key3).Nodup := h.nd
    show ((lotPut lot x).map key3).Nodup
    rw [e]
    split
    · exact n0
    · rename_i hn
      rw [List.nodup_append]
      refine ⟨n0, by simp, fun a ha b hb => ?_⟩
      simp at hb
      subst hb
      intro e
      subst e
      obtain ⟨y, hy, e2⟩ := List.mem_map.mp ha
      exact hn (List.any_eq_true.mpr ⟨y, hy, by simpa using e2⟩)
  at_ := fun y hy => by
    rcases lotPut_mem hy with hy | rfl
    · exact h.at_ y hy
    · exact hx
theorem prod_len (a b : List Nat) : (a.flatMap fun x => b.map fun y => (x, y)).length = a.length * b.length := by
  induction a with
  | nil => simp
  | cons x a ih => simp only [List.flatMap_cons, List.length_append, List.length_map, ih, List.length_cons, Nat.add_mul]; omega
theorem row_few {sz : Nat} {hs ws : List Nat} {lot : Lot} (h : LotOk sz hs ws lot) (s : Nat) : (rowOf lot s).length ≤ hs.length * ws.length := by
  have hp := rowOf_lt h.nd s
  have nd : ((rowOf lot s).map fun m => (m.h, m.c)).Nodup := by
    rw [List.nodup_iff_pairwise_ne, List.pairwise_map]
    refine hp.imp fun {a b} hab e => ?_
    unfold mvLt at hab
    simp only [decide_eq_true_eq] at hab
    simp only [Prod.mk.injEq] at e
    omega
  have := List.Nodup.length_le_of_subset nd (l₂ := hs.flatMap fun x => ws.map fun y => (x, y)) fun p hp => by
    obtain ⟨m, hm, rfl⟩ := List.mem_map.mp hp
    obtain ⟨_, h2, h3, _⟩ := h.at_ _ (rowOf_mem.mp hm)
    exact List.mem_flatMap.mpr ⟨m.h, h2, List.mem_map.mpr ⟨m.c, h3, rfl⟩⟩
  rw [List.length_map, prod_len] at this
  exact this
theorem lot_few {sz : Nat} {hs ws : List Nat} {lot : Lot} (h : LotOk sz hs ws lot) : lot.length ≤ sz * (hs.length * ws.length) := by
  have nd : (lot.map key3).Nodup := h.nd
  have := List.Nodup.length_le_of_subset nd (l₂ := (List.range sz).flatMap fun s => (hs.flatMap fun x => ws.map fun y => (x, y)).map fun p => (s, p)) fun p hp => by
    obtain ⟨x, hx, rfl⟩ := List.mem_map.mp hp
    obtain ⟨h1, h2, h3, _⟩ := h.at_ _ hx
    exact List.mem_flatMap.mpr ⟨x.1, List.mem_range.mpr h1, List.mem_map.mpr ⟨(x.2.h, x.2.c), List.mem_flatMap.mpr ⟨x.2.h, h2, List.mem_map.mpr ⟨x.2.c, h3, rfl⟩⟩, rfl⟩⟩
  have e : ((List.range sz).flatMap fun s => (hs.flatMap fun x => ws.map fun y => (x, y)).map fun p => (s, p)).length ≤ sz * (hs.length * ws.length) := by
    have := flat_len (fun s => (hs.flatMap fun x => ws.map fun y => (x, y)).map fun p => (s, p)) (hs.length * ws.length) (List.range sz) fun s _ => by rw [List.length_map, prod_len]; exact Nat.le_refl _
    simpa using this
  rw [List.length_map] at this
  omega
theorem rowsOf_len (lot : Lot) (n : Nat) : (rowsOf lot n).length = n := by simp [rowsOf]
theorem rowsOf_at {lot : Lot} {n s : Nat} (h : s < n) : (rowsOf lot n).getD s [] = rowOf lot s := by simp [rowsOf, List.getD, h]
theorem rowsOf_val {sz : Nat} {hs ws : List Nat} {lot : Lot} (h : LotOk sz hs ws lot) (lh : lettersB hs = true) (lw : lettersB ws = true) (s1 : 1 ≤ sz) (s4 : sz ≤ 4) (h2 : hs.length ≤ 2) (w3 : ws.length ≤ 3) : RulV hs ws (rowsOf lot sz) where
  lh := lh
  lw := lw
  sh := by omega
  sw := by omega
  n1 := by rw [rowsOf_len]; exact s1
  n2 := by rw [rowsOf_len]; omega
  row := fun r hr => by
    obtain ⟨s, _, rfl⟩ := List.mem_map.mp hr
    have h6 := row_few h s
    have h7 : hs.length * ws.length ≤ 2 * 3 := Nat.mul_le_mul h2 w3
    refine ⟨?_, by omega⟩
    rw [rowsOf_len]
    unfold rowB
    rw [Bool.and_eq_true, List.all_eq_true]
    refine ⟨fun m hm => ?_, nbr_of_pair (rowOf_lt h.nd s)⟩
    obtain ⟨_, a, b, c⟩ := h.at_ _ (rowOf_mem.mp hm)
    unfold mvB
    simp [a, b, c]
theorem rowsOf_few {sz : Nat} {hs ws : List Nat} {lot : Lot} (h : LotOk sz hs ws lot) (s4 : sz ≤ 4) (h2 : hs.length ≤ 2) (w3 : ws.length ≤ 3) : Few (rowsOf lot sz) := by
  have h7 : hs.length * ws.length ≤ 2 * 3 := Nat.mul_le_mul h2 w3
  refine ⟨6, fun r hr => ?_, by rw [rowsOf_len]; omega⟩
  obtain ⟨s, _, rfl⟩ := List.mem_map.mp hr
  have := row_few h s
  omega
theorem rowsOf_ok {sz : Nat} {hs ws : List Nat} {lot : Lot} (h : LotOk sz hs ws lot) (h2 : hs.length ≤ 2) (w3 : ws.length ≤ 3) : ∀ r ∈ rowsOf lot sz, r.length ≤ 1000 ∧ ∀ m ∈ r, m.t < (rowsOf lot sz).length := by
  intro r hr
  have h7 : hs.length * ws.length ≤ 2 * 3 := Nat.mul_le_mul h2 w3
  obtain ⟨s, _, rfl⟩ := List.mem_map.mp hr
  have := row_few h s
  refine ⟨by omega, fun m hm => ?_⟩
  rw [rowsOf_len]
  exact (h.at_ _ (rowOf_mem.mp hm)).2.2.2
/-- states and letters without a move -/
def missing (sz : Nat) (hs : List Nat) (lot : Lot) : Nat := (((List.range sz).flatMap fun s => hs.map fun h => (s, h)).filter fun p => !lot.any fun x => decide ((x.1, x.2.h) = p)).length
theorem missing_le (sz : Nat) (hs : List Nat) (lot : Lot) : missing sz hs lot ≤ sz * hs.length := by
  unfold missing
  refine Nat.le_trans (List.length_filter_le _ _) ?_
  rw [prod_len, List.length_range]
  exact Nat.le_refl _
theorem any_put (lot : Lot) (x : Nat × Mv) (p : Nat × Nat) : ((lotPut lot x).any fun y => decide ((y.1, y.2.h) = p)) = ((lot.any fun y => decide ((y.1, y.2.h) = p)) || decide ((x.1, x.2.h) = p)) := by
  have e : ∀ l : Lot, (l.any fun y => decide ((y.1, y.2.h) = p)) = (l.map key3).any fun k => decide ((k.1, k.2.1) = p) := fun l => by
    rw [List.any_map]; rfl
  rw [e, e, lotPut_keys]
  split
  · rename_i hx
    obtain ⟨y, hy, e2⟩ := List.any_eq_true.mp hx
    have e3 : key3 y = key3 x := of_decide_eq_true e2
    rw [Bool.eq_iff_iff, Bool.or_eq_true]
    constructor
    · exact .inl
    · rintro (h | h)
      · exact h
      · refine List.any_eq_true.mpr ⟨key3 x, e3 ▸ List.mem_map.mpr ⟨y, hy, rfl⟩, ?_⟩
        exact h
  · rw [List.any_append]
    simp [key3]
theorem missing_put {sz : Nat} {hs : List Nat} {lot : Lot} {x : Nat × Mv} (h1 : x.1 < sz) (h2 : x.2.h ∈ hs) (h3 : ∀ m, (x.1, m) ∈ lot → m.h ≠ x.2.h) : missing sz hs (lotPut lot x) < missing sz hs lot := by
  unfold missing
  have e : (((List.range sz).flatMap fun s => hs.map fun h => (s, h)).filter fun p => !(lotPut lot x).any fun y => decide ((y.1, y.2.h) = p)) =
      ((((List.range sz).flatMap fun s => hs.map fun h => (s, h)).filter fun p => !lot.any fun y => decide ((y.1, y.2.h) = p)).filter fun p => !decide ((x.1, x.2.h) = p)) := by
    rw [List.filter_filter]
    congr 1
    funext p
    rw [any_put]
    cases (lot.any fun y => decide ((y.1, y.2.h) = p)) <;> cases decide ((x.1, x.2.h) = p) <;> rfl
  rw [e]
  refine List.length_filter_lt_length_iff_exists.mpr ⟨(x.1, x.2.h), ?_, by simp⟩
  refine List.mem_filter.mpr ⟨List.mem_flatMap.mpr ⟨x.1, List.mem_range.mpr h1, List.mem_map.mpr ⟨x.2.h, h2, rfl⟩⟩, ?_⟩
  rw [Bool.not_eq_true', Bool.eq_false_iff]
  intro z
  obtain ⟨y, hy, e2⟩ := List.any_eq_true.mp z
  have e3 := of_decide_eq_true e2
  simp only [Prod.mk.injEq] at e3
  obtain ⟨a, m⟩ := y
  simp only at e3 hy
  exact h3 m (e3.1 ▸ hy) e3.2
theorem no_move {sz : Nat} {hs : List Nat} {lot : Lot} {q : List Nat} {c s : Nat} (hr : run (rowsOf lot sz) [0] (q ++ [c]) = []) (hs' : s ∈ run (rowsOf lot sz) [0] q) (h1 : s < sz) : ∀ m, (s, m) ∈ lot → m.h ≠ c := by
  intro m hm e
  rw [run_snoc] at hr
  have : m.t ∈ behind (rowsOf lot sz) (run (rowsOf lot sz) [0] q) c := behind_mem.mpr ⟨s, hs', m, by rw [rowsOf_at h1]; exact rowOf_mem.mpr hm, e, rfl⟩
  rw [hr] at this
  simp at this
theorem last_sgn {q : List Nat} {c : Nat} (h : (strOf (q ++ [c])).length ≤ sizeLine) : D.item (.str (strOf (q ++ [c]))) (.int (-1)) = some (.str (sgn c)) := by
  show (if (strOf (q ++ [c])).length ≤ sizeLine then (atI (strOf (q ++ [c])).cps.toList (-1)).map _ else _) = _
  rw [if_pos h]
  have : atI (strOf (q ++ [c])).cps.toList (-1) = some c := by
    have e : (strOf (q ++ [c])).cps.toList = q ++ [c] := by simp [strOf]
    rw [e]
    unfold atI
    have e2 : ixN (q ++ [c]).length (-1) = some q.length := by
      unfold ixN
      simp
      omega
    rw [e2]
    simp
  rw [this]
  rfl
end Pace
end
section
set_option Elab.async false
set_option linter.all false
set_option maxRecDepth 100000
set_option maxHeartbeats 4000000
namespace Pace
open PySem PySem.Spec PyProof.Rows L2 DL
theorem snoc_ind {α : Type} {P : List α → Prop} (nil : P []) (snoc : ∀ l a, P l → P (l ++ [a])) (l : List α) : P l := by
  rw [← List.reverse_reverse l]
  induction l.reverse with
  | nil => exact nil
  | cons a l ih => rw [List.reverse_cons]; exact snoc _ _ ih
theorem map_get {α : Type} {f : α → D} {l : List α} {i : Nat} {d : D} (h : (l.map f)[i]? = some d) : ∃ a, l[i]? = some a ∧ d = f a := by
  rw [List.getElem?_map] at h
  cases e : l[i]? with
  | none => rw [e] at h; cases h
  | some a => rw [e] at h; cases h; exact ⟨a, rfl, rfl⟩
theorem cut_take {α : Type} (xs : List α) (k : Nat) : DL.cutD xs none (some (k : Int)) = xs.take k := by
  unfold DL.cutD
  rw [HT.sIx_none, HT.sIx_nat]
  simp only [List.drop_zero, Nat.sub_zero]
  by_cases h : k ≤ xs.length
  · rw [Nat.min_eq_left h]
  · rw [Nat.min_eq_right (by omega), List.take_length, List.take_of_length_le (by omega)]
def capD (x : List Nat × Nat) : D := .tup [.str (strOf x.1), .int (x.2 : Int)]
def capsStep (rs : List (List Mv)) (l : List (List Nat × Nat)) (c : Nat) : List (List Nat × Nat) := l.flatMap fun x => ((rs.getD x.2 []).filter fun m => m.h == c).map fun m => (x.1 ++ [m.c], m.t)
def caps (rs : List (List Mv)) (s : Nat) (cs : List Nat) : List (List Nat × Nat) := cs.foldl (capsStep rs) [([], s)]
theorem caps_snoc {rs : List (List Mv)} {s : Nat} {cs : List Nat} {c : Nat} : caps rs s (cs ++ [c]) = capsStep rs (caps rs s cs) c := by simp [caps]
theorem caps_run {rs : List (List Mv)} {s : Nat} (cs : List Nat) : ∀ k, (k ∈ (caps rs s cs).map (·.2)) ↔ k ∈ run rs [s] cs := by
  induction cs using snoc_ind with
  | nil => intro k; simp [caps, run]
  | snoc cs c ih =>
    intro k
    rw [caps_snoc, run_snoc, behind_mem]
    simp only [capsStep, List.mem_map, List.mem_flatMap, List.mem_filter]
    constructor
    · rintro ⟨y, ⟨x, hx, m, ⟨hm, he⟩, rfl⟩, rfl⟩
      exact ⟨x.2, (ih _).mp (List.mem_map.mpr ⟨x, hx, rfl⟩), m, hm, by simpa using he, rfl⟩
    · rintro ⟨t, ht, m, hm, he, rfl⟩
      obtain ⟨x, hx, rfl⟩ := List.mem_map.mp ((ih t).mpr ht)
      exact ⟨(x.1 ++ [m.c], m.t), ⟨x, hx, m, ⟨hm, by simpa using he⟩, rfl⟩, rfl⟩
/-- drawn rules -/
structure Wor (top : Nat) (tot : Bool) (hs ws : List Nat) (rs : List (List Mv)) : Prop where
  val : RulV hs ws rs
  n : rs.length ≤ top
  hs3 : hs.length ≤ 3
  ws3 : ws.length ≤ 3
  row : ∀ r ∈ rs, r.length ≤ 9
  full : tot = true → ∀ r ∈ rs, ∀ h ∈ hs, ∃ m ∈ r, m.h = h
/-- a row as far as its first letters -/
structure RowP (hs ws : List Nat) (n : Nat) (tot : Bool) (j : Nat) (row : List Mv) : Prop where
  mv : ∀ m ∈ row, mvB hs ws n m = true
  lt : row.Pairwise fun a b => mvLt a b = true
  le : ∀ m ∈ row, m.h ∈ hs.take j
  len : row.length ≤ 3 * j
  full : tot = true → ∀ h ∈ hs.take j, ∃ m ∈ row, m.h = h
theorem RowP.start {hs ws : List Nat} {n : Nat} {tot : Bool} : RowP hs ws n tot 0 [] := ⟨by simp, by simp, by simp, by simp, by simp⟩
theorem letters_lt {cs : List Nat} (h : lettersB cs = true) : cs.Pairwise (· < ·) := by
  unfold lettersB at h
  simp only [Bool.and_eq_true] at h
  exact (nbr_pair (r := fun a b => decide (a < b)) (fun a b c h1 h2 => by simp at h1 h2 ⊢; omega) cs h.2).imp fun h => by simpa using h
theorem RowP.row {hs ws : List Nat} {n : Nat} {tot : Bool} {row : List Mv} (rp : RowP hs ws n tot hs.length row) : rowB hs ws n row = true := by
  unfold rowB
  rw [Bool.and_eq_true, List.all_eq_true]
  exact ⟨rp.mv, nbr_of_pair rp.lt⟩
theorem Wor.few {top : Nat} {tot : Bool} {hs ws : List Nat} {rs : List (List Mv)} (w : Wor top tot hs ws rs) (h5 : top ≤ 5 := by decide) : Few rs := ⟨9, w.row, by have := w.n; omega⟩
theorem row_hits {hs ws : List Nat} {n : Nat} {r : List Mv} (h : rowB hs ws n r = true) (c : Nat) : (r.filter fun m => m.h == c).length ≤ ws.length := by
  unfold rowB at h
  rw [Bool.and_eq_true, List.all_eq_true] at h
  have pw := nbr_pair (r := mvLt) mvLt_tr r h.2
  have nd : ((r.filter fun m => m.h == c).map (·.c)).Nodup := by
    rw [List.Nodup, List.pairwise_map]
    refine (pw.sublist List.filter_sublist).imp_of_mem fun {a b} ha hb hab => ?_
    have h1 := (List.mem_filter.mp ha).2
    have h2 := (List.mem_filter.mp hb).2
    simp only [beq_iff_eq] at h1 h2
    simp only [mvLt, decide_eq_true_eq] at hab
    omega
  have := List.Nodup.length_le_of_subset (l₂ := ws) nd fun x hx => by
    obtain ⟨m, hm, rfl⟩ := List.mem_map.mp hx
    have := h.1 m (List.mem_filter.mp hm).1
    simp only [mvB, Bool.and_eq_true, decide_eq_true_eq] at this
    exact this.1.2
  simpa using this
theorem caps_len {hs ws : List Nat} {rs : List (List Mv)} (v : RulV hs ws rs) (w3 : ws.length ≤ 3) (s : Nat) (cs : List Nat) : (caps rs s cs).length ≤ 3 ^ cs.length := by
  induction cs using snoc_ind with
  | nil => simp [caps]
  | snoc cs c ih =>
    rw [caps_snoc, List.length_append, List.length_singleton, Nat.pow_succ]
    refine Nat.le_trans (flat_len _ 3 _ fun x _ => ?_) (Nat.mul_le_mul_right 3 ih)
    rw [List.length_map]
    cases e : rs[x.2]? with
    | none => simp [List.getD, e]
    | some r =>
      have := row_hits (v.row r (List.mem_of_getElem? e)).1 c
      simp only [List.getD, e, Option.getD_some]
      omega
theorem rowB_sub {hs ws : List Nat} {n : Nat} {r r' : List Mv} (h : rowB hs ws n r = true) (sb : r'.Sublist r) : rowB hs ws n r' = true := by
  unfold rowB at h ⊢
  rw [Bool.and_eq_true, List.all_eq_true] at h ⊢
  exact ⟨fun m hm => h.1 m (sb.subset hm), nbr_of_pair ((nbr_pair (r := mvLt) mvLt_tr r h.2).sublist sb)⟩
theorem Wor.less {top : Nat} {tot : Bool} {hs ws : List Nat} {rs : List (List Mv)} (w : Wor top tot hs ws rs) {s a : Nat} {r : List Mv} (h : rs[s]? = some r) : Wor top false hs ws (rs.take s ++ [r.take a ++ r.drop (a + 1)] ++ rs.drop (s + 1)) := by
  have hs1 := (List.getElem?_eq_some_iff.mp h).1
  have el : (rs.take s ++ [r.take a ++ r.drop (a + 1)] ++ rs.drop (s + 1)).length = rs.length := by
    simp only [List.length_append, List.length_take, List.length_drop, List.length_singleton]
    omega
  have sub : (r.take a ++ r.drop (a + 1)).Sublist r := by
    have e : r.drop (a + 1) = (r.drop a).drop 1 := by rw [List.drop_drop, Nat.add_comm]
    calc (r.take a ++ r.drop (a + 1)).Sublist (r.take a ++ r.drop a) := by rw [e]; exact (List.Sublist.refl _).append (List.drop_sublist _ _)
      _ = r := List.take_append_drop a r
  have mem : ∀ r' ∈ rs.take s ++ [r.take a ++ r.drop (a + 1)] ++ rs.drop (s + 1), ∃ r0 ∈ rs, r'.Sublist r0 := fun r' hr => by
    rcases List.mem_append.mp hr with hr | hr
    · rcases List.mem_append.mp hr with hr | hr
      · exact ⟨r', List.mem_of_mem_take hr, List.Sublist.refl _⟩
      · rw [List.mem_singleton.mp hr]
        exact ⟨r, List.mem_of_getElem? h, sub⟩
    · exact ⟨r', List.mem_of_mem_drop hr, List.Sublist.refl _⟩
  refine ⟨⟨w.val.lh, w.val.lw, w.val.sh, w.val.sw, by rw [el]; exact w.val.n1, by rw [el]; exact w.val.n2, fun r' hr => ?_⟩, by rw [el]; exact w.n, w.hs3, w.ws3, fun r' hr => ?_, fun z => by cases z⟩
  · obtain ⟨r0, h0, sb⟩ := mem r' hr
    obtain ⟨h1, h2⟩ := w.val.row r0 h0
    rw [el]
    exact ⟨rowB_sub h1 sb, Nat.le_trans sb.length_le h2⟩
  · obtain ⟨r0, h0, sb⟩ := mem r' hr
    exact Nat.le_trans sb.length_le (w.row r0 h0)
end Pace
end
section
set_option Elab.async false
set_option linter.all false
set_option maxRecDepth 100000
set_option maxHeartbeats 4000000
namespace Pace
open PySem PySem.Spec PyProof.Rows L2 DL
def sl (p q : List Nat) : Prop := p.length < q.length ∨ (p.length = q.length ∧ p < q)
def sle (p q : List Nat) : Prop := p = q ∨ sl p q
theorem lt_app : ∀ {p q : List Nat} (x y : List Nat), p.length = q.length → p < q → p ++ x < q ++ y
  | [], [], x, y, _, h => absurd h (List.not_lt_nil _)
  | [], _ :: _, x, y, h, _ => by simp at h
  | _ :: _, [], x, y, h, _ => by simp at h
  | a :: p, b :: q, x, y, h, hl => by
    rw [List.cons_append, List.cons_append, List.cons_lt_cons_iff]
    rw [List.cons_lt_cons_iff] at hl
    rcases hl with hl | ⟨e, hl⟩
    · exact .inl hl
    · exact .inr ⟨e, lt_app x y (by simpa using h) hl⟩
theorem sl.snoc {p q : List Nat} (c d : Nat) (h : sl p q) : sl (p ++ [c]) (q ++ [d]) := by
  rcases h with h | ⟨h, hl⟩
  · left; simpa using h
  · right; exact ⟨by simpa using h, lt_app _ _ h hl⟩
theorem sl.last {p : List Nat} {c d : Nat} (h : c < d) : sl (p ++ [c]) (p ++ [d]) := by
  right
  refine ⟨by simp, ?_⟩
  induction p with
  | nil => simpa [List.cons_lt_cons_iff] using h
  | cons a p ih => rw [List.cons_append, List.cons_append, List.cons_lt_cons_iff]; exact .inr ⟨rfl, ih⟩
theorem sl.trans {p q r : List Nat} (h1 : sl p q) (h2 : sl q r) : sl p r := by
  rcases h1 with h1 | ⟨e1, h1⟩ <;> rcases h2 with h2 | ⟨e2, h2⟩
  · left; omega
  · left; omega
  · left; omega
  · right; exact ⟨by omega, List.lt_trans h1 h2⟩
theorem sl.irrefl {p : List Nat} (h : sl p p) : False := by
  rcases h with h | ⟨_, h⟩
  · omega
  · exact List.lt_irrefl p h
theorem sle.trans {p q r : List Nat} (h1 : sle p q) (h2 : sle q r) : sle p r := by
  rcases h1 with rfl | h1
  · exact h2
  · rcases h2 with rfl | h2
    · exact .inr h1
    · exact .inr (h1.trans h2)
theorem sle.sl {p q r : List Nat} (h1 : sle p q) (h2 : sl q r) : Pace.sl p r := by
  rcases h1 with rfl | h1
  · exact h2
  · exact h1.trans h2
theorem sle.snoc {p q : List Nat} (c : Nat) (h : sle p q) : sle (p ++ [c]) (q ++ [c]) := by
  rcases h with rfl | h
  · exact .inl rfl
  · exact .inr (h.snoc c c)
theorem sl_snoc (p : List Nat) (c : Nat) : sl p (p ++ [c]) := by left; simp
def Done (rs : List (List Mv)) (ord : Ord) (y : List Nat × List Nat) (c : Nat) : Prop := behind rs y.1 c ≠ [] ∧ ∃ z ∈ ord, z.1 = behind rs y.1 c ∧ sle z.2 (y.2 ++ [c])
theorem Done.mono {rs : List (List Mv)} {ord more : Ord} {y : List Nat × List Nat} {c : Nat} (h : Done rs ord y c) : Done rs (ord ++ more) y c := by
  obtain ⟨h1, z, hz, h2⟩ := h
  exact ⟨h1, z, List.mem_append_left _ hz, h2⟩
theorem found {rs : List (List Mv)} {hs : List Nat} {ord : Ord} (st : ([0], []) ∈ ord) (p : List Nat) : (∀ c ∈ p, c ∈ hs) → (∀ y ∈ ord, ∀ c ∈ hs, sle (y.2 ++ [c]) p → Done rs ord y c) → ∃ z ∈ ord, z.1 = run rs [0] p ∧ sle z.2 p := by
  induction p using snoc_ind with
  | nil => intro _ _; exact ⟨_, st, rfl, .inl rfl⟩
  | snoc u c ih =>
    intro hp hd
    obtain ⟨y, hy, e1, e2⟩ := ih (fun x hx => hp x (by simp [hx])) fun y hy x hx hle => hd y hy x hx (hle.trans (.inr (sl_snoc u c)))
    obtain ⟨_, z, hz, e3, e4⟩ := hd y hy c (hp c (by simp)) (e2.snoc c)
    refine ⟨z, hz, ?_, e4.trans (e2.snoc c)⟩
    rw [e3, e1, run_snoc]
/-- what holds ahead of the entry at i -/
structure BI (rs : List (List Mv)) (hs : List Nat) (i : Nat) (pre : List Nat) (ord : Ord) : Prop where
  ok : OrdOk rs hs ord
  st : ([0], []) ∈ ord
  inc : (ord.map (·.2)).Pairwise sl
  frm : ∀ x ∈ ord, x.2 = [] ∨ ∃ (j : Nat) (y : List Nat × List Nat) (c : Nat), ord[j]? = some y ∧ x.2 = y.2 ++ [c] ∧ (j < i ∨ (j = i ∧ c ∈ pre))
  dn : ∀ (j : Nat) (y : List Nat × List Nat), j < i → ord[j]? = some y → ∀ c ∈ hs, Done rs ord y c
  dh : ∀ (y : List Nat × List Nat), ord[i]? = some y → ∀ c ∈ pre, Done rs ord y c
theorem inc_at {ord : Ord} (h : (ord.map (·.2)).Pairwise sl) {i j : Nat} {x y : List Nat × List Nat} (hi : ord[i]? = some x) (hj : ord[j]? = some y) (hij : i < j) : sl x.2 y.2 := by
  obtain ⟨h1, h2⟩ := List.getElem?_eq_some_iff.mp hi
  obtain ⟨h3, h4⟩ := List.getElem?_eq_some_iff.mp hj
  have := List.pairwise_iff_getElem.mp h i j (by simpa using h1) (by simpa using h3) hij
  simpa [h2, h4] using this
theorem BI.next {rs : List (List Mv)} {hs : List Nat} {i : Nat} {ord : Ord} (h : BI rs hs i hs ord) : BI rs hs (i + 1) [] ord where
  ok := h.ok
  st := h.st
  inc := h.inc
  frm := fun x hx => by
    rcases h.frm x hx with e | ⟨j, y, c, h1, h2, h3⟩
    · exact .inl e
    · exact .inr ⟨j, y, c, h1, h2, .inl (by omega)⟩
  dn := fun j y hj hy c hc => by
    by_cases e : j < i
    · exact h.dn j y e hy c hc
    · have : j = i := by omega
      subst this
      exact h.dh y hy c hc
  dh := fun _ _ _ hc => by cases hc
/-- all that is less than what stops is done -/
def StopAt (rs : List (List Mv)) (hs : List Nat) (d : List Nat) : Prop := ∃ ord : Ord, OrdOk rs hs ord ∧ ([0], []) ∈ ord ∧ ∀ y ∈ ord, ∀ c ∈ hs, sl (y.2 ++ [c]) d → Done rs ord y c
theorem stepL_bi {rs : List (List Mv)} {hs : List Nat} (tl : ∀ r ∈ rs, ∀ m ∈ r, m.t < rs.length) (so : hs.Pairwise (· < ·)) {i : Nat} {here : List Nat × List Nat} : ∀ (cs pre : List Nat) (ord : Ord), hs = pre ++ cs → BI rs hs i pre ord → ord[i]? = some here →
    (∀ d, stepL rs here ord cs = .inl d → StopAt rs hs d) ∧ (∀ ord', stepL rs here ord cs = .inr ord' → BI rs hs i hs ord' ∧ ord'[i]? = some here)
  | [], pre, ord, e, b, hh => by
    rw [List.append_nil] at e
    subst e
    refine ⟨fun d h => (by rw [stepL_nil] at h; cases h), fun ord' h => ?_⟩
    rw [stepL_nil] at h
    cases h
    exact ⟨b, hh⟩
  | c :: cs, pre, ord, e, b, hh => by
    have hc : c ∈ hs := by rw [e]; simp
    have pre_lt : ∀ x ∈ pre, x < c := fun x hx => by
      rw [e, List.pairwise_append] at so
      exact so.2.2 x hx c (by simp)
    have post : ∀ x ∈ hs, x < c → x ∈ pre := fun x hx hlt => by
      rw [e] at hx so
      rcases List.mem_append.mp hx with hx | hx
      · exact hx
      · exfalso
        rcases List.mem_cons.mp hx with rfl | hx
        · omega
        · have := (List.pairwise_cons.mp (List.pairwise_append.mp so).2.1).1 x hx
          omega
    rw [stepL_cons]
    by_cases h1 : behind rs here.1 c = []
    · rw [if_pos h1]
      refine ⟨fun d h => ?_, fun ord' h => by cases h⟩
      cases h
      refine ⟨ord, b.ok, b.st, fun y hy x hx hlt => ?_⟩
      obtain ⟨j, hj⟩ := List.getElem?_of_mem hy
      rcases Nat.lt_trichotomy j i with hji | rfl | hji
      · exact b.dn j y hji hj x hx
      · have ey : y = here := Option.some.inj (hj.symm.trans hh)
        subst ey
        refine b.dh y hj x (post x hx ?_)
        rcases Nat.lt_trichotomy x c with z | rfl | z
        · exact z
        · exact (sl.irrefl hlt).elim
        · exact (sl.irrefl (hlt.trans (sl.last z))).elim
      · exact (sl.irrefl (hlt.trans ((inc_at b.inc hh hj hji).snoc c x))).elim
    · rw [if_neg h1]
      by_cases h2 : behind rs here.1 c ∈ ord.map (·.1)
      · rw [if_pos h2]
        refine stepL_bi tl so cs (pre ++ [c]) ord (by simp [e]) ⟨b.ok, b.st, b.inc, fun x hx => ?_, b.dn, fun y hy x hx => ?_⟩ hh
        · rcases b.frm x hx with z | ⟨j, y, d, z1, z2, z3⟩
          · exact .inl z
          · refine .inr ⟨j, y, d, z1, z2, ?_⟩
            rcases z3 with z3 | ⟨z3, z4⟩
            · exact .inl z3
            · exact .inr ⟨z3, by simp [z4]⟩
        · rcases List.mem_append.mp hx with hx | hx
          · exact b.dh y hy x hx
          · rw [List.mem_singleton] at hx
            subst hx
            rw [hy] at hh
            cases hh
            obtain ⟨z, hz, ez⟩ := List.mem_map.mp h2
            refine ⟨h1, z, hz, ez, ?_⟩
            rcases b.frm z hz with w | ⟨j, y2, d, w1, w2, w3⟩
            · rw [w]; right; left; simp
            · right
              rw [w2]
              rcases w3 with w3 | ⟨rfl, w4⟩
              · exact (inc_at b.inc w1 hy w3).snoc d x
              · rw [hy] at w1
                cases w1
                exact sl.last (pre_lt d w4)
      · rw [if_neg h2]
        have hlt := (List.getElem?_eq_some_iff.mp hh).1
        have hh' : (ord ++ [(behind rs here.1 c, here.2 ++ [c])])[i]? = some here := by rw [List.getElem?_append_left hlt]; exact hh
        have up : ∀ {j : Nat} {y : List Nat × List Nat}, ord[j]? = some y → (ord ++ [(behind rs here.1 c, here.2 ++ [c])])[j]? = some y := fun {j y} z => by
          rw [List.getElem?_append_left (List.getElem?_eq_some_iff.mp z).1]; exact z
        refine stepL_bi tl so cs (pre ++ [c]) _ (by simp [e]) ⟨b.ok.add tl hh hc h1 h2, List.mem_append_left _ b.st, ?_, fun x hx => ?_, fun j y hj hy x hx => ?_, fun y hy x hx => ?_⟩ hh'
        · rw [List.map_append, List.pairwise_append]
          refine ⟨b.inc, by simp, fun w hw v hv => ?_⟩
          simp only [List.map_cons, List.map_nil, List.mem_singleton] at hv
          subst hv
          obtain ⟨x, hx, rfl⟩ := List.mem_map.mp hw
          rcases b.frm x hx with z | ⟨j, y2, d, w1, w2, w3⟩
          · rw [z]; left; simp
          · rw [w2]
            rcases w3 with w3 | ⟨rfl, w4⟩
            · exact (inc_at b.inc w1 hh w3).snoc d c
            · rw [hh] at w1
              cases w1
              exact sl.last (pre_lt d w4)
        · rcases List.mem_append.mp hx with hx | hx
          · rcases b.frm x hx with z | ⟨j, y, d, z1, z2, z3⟩
            · exact .inl z
            · refine .inr ⟨j, y, d, up z1, z2, ?_⟩
              rcases z3 with z3 | ⟨z3, z4⟩
              · exact .inl z3
              · exact .inr ⟨z3, by simp [z4]⟩
          · rw [List.mem_singleton] at hx
            subst hx
            exact .inr ⟨i, here, c, hh', rfl, .inr ⟨rfl, by simp⟩⟩
        · have hj2 : j < ord.length := by omega
          rw [List.getElem?_append_left hj2] at hy
          exact (b.dn j y hj hy x hx).mono
        · rw [hh'] at hy
          cases hy
          rcases List.mem_append.mp hx with hx | hx
          · exact (b.dh here hh x hx).mono
          · rw [List.mem_singleton] at hx
            subst hx
            exact ⟨h1, (behind rs here.1 x, here.2 ++ [x]), List.mem_append_right _ (by simp), rfl, .inl rfl⟩
theorem bfs_bi {rs : List (List Mv)} {hs : List Nat} (tl : ∀ r ∈ rs, ∀ m ∈ r, m.t < rs.length) (so : hs.Pairwise (· < ·)) : ∀ (f i : Nat) (ord : Ord), i + f = 2 ^ rs.length → BI rs hs i [] ord →
    (∀ d, bfs rs hs f i ord = some d → StopAt rs hs d) ∧ (bfs rs hs f i ord = none → ∃ ord : Ord, OrdOk rs hs ord ∧ ([0], []) ∈ ord ∧ ∀ y ∈ ord, ∀ c ∈ hs, Done rs ord y c)
  | 0, i, ord, e, b => by
    refine ⟨fun d h => (by cases h), fun _ => ⟨ord, b.ok, b.st, fun y hy c hc => ?_⟩⟩
    obtain ⟨j, hj⟩ := List.getElem?_of_mem hy
    have h1 := (List.getElem?_eq_some_iff.mp hj).1
    have h2 := b.ok.len
    exact b.dn j y (by omega) hj c hc
  | f + 1, i, ord, e, b => by
    unfold bfs
    cases hh : ord[i]? with
    | none =>
      simp only
      refine ⟨fun d h => (by cases h), fun _ => ⟨ord, b.ok, b.st, fun y hy c hc => ?_⟩⟩
      obtain ⟨j, hj⟩ := List.getElem?_of_mem hy
      have h1 := (List.getElem?_eq_some_iff.mp hj).1
      have h2 := List.getElem?_eq_none_iff.mp hh
      exact b.dn j y (by omega) hj c hc
    | some here =>
      simp only
      obtain ⟨s1, s2⟩ := stepL_bi tl so hs [] ord rfl b hh
      cases hst : stepL rs here ord hs with
      | inl d =>
        simp only
        exact ⟨fun d' h => (by cases h; exact s1 d hst), fun h => (by cases h)⟩
      | inr ord' =>
        simp only
        exact bfs_bi tl so f (i + 1) ord' (by omega) (s2 ord' hst).1.next
theorem mute_first {rs : List (List Mv)} {hs : List Nat} (tl : ∀ r ∈ rs, ∀ m ∈ r, m.t < rs.length) (so : hs.Pairwise (· < ·)) (h0 : 0 < rs.length) (p : List Nat) (hp : ∀ c ∈ p, c ∈ hs) (h : ∀ d, muteOf rs hs = some d → sl p d) : run rs [0] p ≠ [] := by
  have b0 : BI rs hs 0 [] [([0], [])] := ⟨.start h0, by simp, by simp, fun x hx => by simp at hx; subst hx; exact .inl rfl, fun _ _ z => by omega, fun _ _ _ z => by cases z⟩
  obtain ⟨b1, b2⟩ := bfs_bi tl so (2 ^ rs.length) 0 [([0], [])] (by omega) b0
  have key : ∃ ord : Ord, OrdOk rs hs ord ∧ ([0], []) ∈ ord ∧ ∀ y ∈ ord, ∀ c ∈ hs, sle (y.2 ++ [c]) p → Done rs ord y c := by
    cases e : muteOf rs hs with
    | none =>
      obtain ⟨ord, o1, o2, o3⟩ := b2 e
      exact ⟨ord, o1, o2, fun y hy c hc _ => o3 y hy c hc⟩
    | some d =>
      obtain ⟨ord, o1, o2, o3⟩ := b1 d e
      exact ⟨ord, o1, o2, fun y hy c hc hle => o3 y hy c hc (hle.sl (h d e))⟩
  obtain ⟨ord, o1, o2, o3⟩ := key
  obtain ⟨z, hz, e1, _⟩ := found o2 p hp o3
  rw [← e1]
  exact (o1.rn z hz).2.1
end Pace
end
section
set_option Elab.async false
set_option linter.all false
set_option maxRecDepth 100000
set_option maxHeartbeats 4000000
namespace Pace
open PySem PySem.Spec PyProof.Rows L2 DL
def step1 (rs : List (List Mv)) (s h c : Nat) : Option Nat := ((rs.getD s []).find? fun m => m.h == h && m.c == c).map (·.t)
def ledN (rs : List (List Mv)) (s : Nat) (ks : List (Nat × Nat)) : Option Nat := ks.foldl (fun o k => o.bind fun s => step1 rs s k.1 k.2) (some s)
theorem ledN_snoc {rs : List (List Mv)} {s : Nat} {ks : List (Nat × Nat)} {k : Nat × Nat} : ledN rs s (ks ++ [k]) = (ledN rs s ks).bind fun s => step1 rs s k.1 k.2 := by simp [ledN]
theorem foldl_none {rs : List (List Mv)} : ∀ ks : List (Nat × Nat), ks.foldl (fun o k => o.bind fun s => step1 rs s k.1 k.2) none = none
  | [] => rfl
  | _ :: ks => foldl_none ks
theorem step1_lt {rs : List (List Mv)} (tl : ∀ r ∈ rs, ∀ m ∈ r, m.t < rs.length) {s h c t : Nat} (e : step1 rs s h c = some t) : t < rs.length := by
  unfold step1 at e
  obtain ⟨m, hm, rfl⟩ := Option.map_eq_some_iff.mp e
  have h1 := List.mem_of_find?_eq_some hm
  cases er : rs[s]? with
  | none => simp [List.getD, er] at h1
  | some r =>
    simp only [List.getD, er, Option.getD_some] at h1
    exact tl r (List.mem_of_getElem? er) m h1
theorem ledN_lt {rs : List (List Mv)} (tl : ∀ r ∈ rs, ∀ m ∈ r, m.t < rs.length) {s : Nat} (hs : s < rs.length) (ks : List (Nat × Nat)) : ∀ {t : Nat}, ledN rs s ks = some t → t < rs.length := by
  induction ks using snoc_ind with
  | nil => intro t h; simp [ledN] at h; omega
  | snoc ks k ih =>
    intro t h
    rw [ledN_snoc] at h
    obtain ⟨u, hu, h⟩ := Option.bind_eq_some_iff.mp h
    exact step1_lt tl h
theorem mv_in {hs ws : List Nat} {rs : List (List Mv)} (v : RulV hs ws rs) {r : List Mv} (hr : r ∈ rs) {m : Mv} (hm : m ∈ r) : m.h ∈ hs ∧ m.c ∈ ws ∧ m.t < rs.length := by
  have h := (v.row r hr).1
  unfold rowB at h
  rw [Bool.and_eq_true, List.all_eq_true] at h
  have := h.1 m hm
  simp only [mvB, Bool.and_eq_true, decide_eq_true_eq] at this
  exact ⟨this.1.1, this.1.2, this.2⟩
end Pace
end
section
set_option Elab.async false
set_option linter.all false
set_option maxRecDepth 100000
set_option maxHeartbeats 4000000
namespace DL
open PySem PySem.Spec PyProof.Rows L2
end DL
end
section
set_option Elab.async false
set_option linter.all false
set_option maxRecDepth 100000
set_option maxHeartbeats 4000000
namespace Pace
open PySem PySem.Spec PyProof.Rows L2 DL
theorem atI_last {α : Type} (l : List α) (x : α) : atI (l ++ [x]) (-1) = some x := by
  unfold atI ixN
  have e : (-1 + ((l.length : Int) + 1)).toNat = l.length := by omega
  have e2 : (1 : Int) ≤ (l.length : Int) + 1 := by omega
  simp [e, e2]
end Pace
end
section
set_option Elab.async false
set_option linter.all false
set_option maxRecDepth 100000
set_option maxHeartbeats 4000000
namespace Pace
open PySem PySem.Spec PyProof.Rows L2 DL
def movesAt (rs : List (List Mv)) (s c : Nat) : List Mv := (rs.getD s []).filter fun m => m.h == c
theorem caps_from (rs : List (List Mv)) : ∀ (cs : List Nat) (l : List (List Nat × Nat)), cs.foldl (capsStep rs) l = l.flatMap fun x => (caps rs x.2 cs).map fun y => (x.1 ++ y.1, y.2)
  | [], l => by
    simp only [caps, List.foldl_nil, List.map_cons, List.map_nil, List.append_nil]
    induction l with
    | nil => rfl
    | cons a l ih => rw [List.flatMap_cons, ← ih]; rfl
  | c :: cs, l => by
    have h0 : ∀ s, caps rs s (c :: cs) = (capsStep rs [([], s)] c).flatMap fun x => (caps rs x.2 cs).map fun y => (x.1 ++ y.1, y.2) := fun s => caps_from rs cs _
    rw [List.foldl_cons, caps_from rs cs]
    simp only [h0]
    unfold capsStep
    simp only [List.flatMap_cons, List.flatMap_nil, List.append_nil, List.nil_append]
    rw [List.flatMap_assoc]
    congr 1
    funext x
    rw [List.map_flatMap, List.flatMap_map, List.flatMap_map]
    congr 1
    funext m
    rw [List.map_map]
    congr 1
    funext y
    simp
theorem caps_cons (rs : List (List Mv)) (s c : Nat) (cs : List Nat) : caps rs s (c :: cs) = (movesAt rs s c).flatMap fun m => (caps rs m.t cs).map fun y => (m.c :: y.1, y.2) := by
  have h := caps_from rs cs (capsStep rs [([], s)] c)
  have e : caps rs s (c :: cs) = cs.foldl (capsStep rs) (capsStep rs [([], s)] c) := rfl
  rw [e, h]
  unfold capsStep movesAt
  simp only [List.flatMap_cons, List.flatMap_nil, List.append_nil, List.nil_append]
  rw [List.flatMap_map]
  rfl
/-- rows whose moves stand in order -/
def Ordered (rs : List (List Mv)) : Prop := ∀ r ∈ rs, r.Pairwise fun a b => mvLt a b = true
theorem RulV.ordered {hs ws : List Nat} {rs : List (List Mv)} (v : RulV hs ws rs) : Ordered rs := fun r hr => by
  have := (v.row r hr).1
  unfold rowB at this
  rw [Bool.and_eq_true] at this
  exact nbr_pair (r := mvLt) mvLt_tr r this.2
theorem moves_ordered {rs : List (List Mv)} (o : Ordered rs) (s c : Nat) : (movesAt rs s c).Pairwise fun a b => a.c < b.c := by
  unfold movesAt
  cases e : rs[s]? with
  | none => simp [List.getD, e]
  | some r =>
    have er : rs.getD s [] = r := by simp [List.getD, e]
    rw [er]
    have := (o r (List.mem_of_getElem? e)).sublist (List.filter_sublist (p := fun m => m.h == c))
    refine List.Pairwise.imp_of_mem ?_ this
    intro a b ha hb hab
    have h1 := (List.mem_filter.mp ha).2
    have h2 := (List.mem_filter.mp hb).2
    simp only [beq_iff_eq] at h1 h2
    simp only [mvLt, decide_eq_true_eq] at hab
    omega
theorem caps_ordered {rs : List (List Mv)} (o : Ordered rs) : ∀ (cs : List Nat) (s : Nat), (caps rs s cs).Pairwise fun x y => x.1 < y.1
  | [], s => by simp [caps]
  | c :: cs, s => by
    rw [caps_cons]
    rw [List.pairwise_flatMap]
    refine ⟨fun m hm => ?_, ?_⟩
    · rw [List.pairwise_map]
      refine (caps_ordered o cs m.t).imp fun {a b} h => ?_
      exact List.cons_lt_cons_iff.mpr (.inr ⟨rfl, h⟩)
    · refine (moves_ordered o s c).imp fun {a b} h x hx y hy => ?_
      obtain ⟨x', _, rfl⟩ := List.mem_map.mp hx
      obtain ⟨y', _, rfl⟩ := List.mem_map.mp hy
      exact List.cons_lt_cons_iff.mpr (.inl h)
theorem capD_le {x y : List Nat × Nat} (h : x.1 < y.1) : D.le (capD x) (capD y) = true := by
  show (!PySem.W.dataLt (.tuple [.str (strOf y.1), .int (y.2 : Int)]) (.tuple [.str (strOf x.1), .int (x.2 : Int)])) = true
  rw [PySem.W.dataLt_pair rfl rfl, if_neg, PySem.W.dataLt_str]
  · simp only [strOf, Bool.not_eq_true']
    exact decide_eq_false fun z => absurd (List.lt_trans h z) (List.lt_irrefl _)
  · have : ¬ D.eqv (.str (strOf y.1)) (.str (strOf x.1)) = true := by
      rw [eqv_str]
      intro z
      have e : strOf y.1 = strOf x.1 := by simpa using z
      have e2 : y.1 = x.1 := by
        have := congrArg (fun s : Str => s.cps.toList) e
        simpa [strOf] using this
      rw [e2] at h
      exact absurd h (List.lt_irrefl _)
    exact this
theorem caps_okS (l : List (List Nat × Nat)) : okS (l.map capD) = true := by
  unfold okS
  simp only [Bool.and_eq_true, Bool.or_eq_true, List.all_map, List.all_eq_true, Function.comp]
  refine ⟨⟨⟨?_, fun x _ y _ => rfl⟩, fun x _ => rfl⟩, .inl fun x _ => rfl⟩
  rw [D.pls_all]
  simp only [List.all_map, List.all_eq_true, Function.comp]
  exact fun x _ => rfl
end Pace
end
section
set_option Elab.async false
set_option linter.all false
set_option maxRecDepth 100000
set_option maxHeartbeats 4000000
namespace Pace
open PySem PySem.Spec PyProof.Rows L2 DL
def lcp : List Nat → List Nat → Nat
  | a :: u, b :: v => if a = b then lcp u v + 1 else 0
  | _, _ => 0
theorem lcp_chain : ∀ {u v w : List Nat}, u < v → v < w → lcp u w = min (lcp u v) (lcp v w)
  | [], v, w, _, _ => by
    have h1 : lcp [] w = 0 := by unfold lcp; rfl
    have h2 : lcp [] v = 0 := by unfold lcp; rfl
    rw [h1, h2]; simp
  | a :: u, [], w, h, _ => absurd h (List.not_lt_nil _)
  | a :: u, b :: v, [], _, h => absurd h (List.not_lt_nil _)
  | a :: u, b :: v, c :: w, h1, h2 => by
    rw [List.cons_lt_cons_iff] at h1 h2
    unfold lcp
    rcases h1 with h1 | ⟨rfl, h1⟩ <;> rcases h2 with h2 | ⟨rfl, h2⟩
    · rw [if_neg (by omega), if_neg (by omega), if_neg (by omega)]; rfl
    · rw [if_neg (by omega), if_neg (by omega)]; simp
    · rw [if_neg (by omega), if_pos rfl, if_neg (by omega)]; simp
    · rw [if_pos rfl, if_pos rfl, if_pos rfl, lcp_chain h1 h2]; omega
theorem lcp_le : ∀ (u v : List Nat), lcp u v ≤ u.length
  | [], v => by unfold lcp; simp
  | a :: u, [] => by unfold lcp; simp
  | a :: u, b :: v => by
    unfold lcp
    have := lcp_le u v
    split <;> simp <;> omega
theorem lcp_app : ∀ {u v : List Nat} (x y : List Nat), u.length = v.length → u ≠ v → lcp (u ++ x) (v ++ y) = lcp u v
  | [], [], _, _, _, h => absurd rfl h
  | [], _ :: _, _, _, h, _ => by simp at h
  | _ :: _, [], _, _, h, _ => by simp at h
  | a :: u, b :: v, x, y, h, hn => by
    have h' : u.length = v.length := by simpa using h
    rw [List.cons_append, List.cons_append, lcp, lcp]
    by_cases e : a = b
    · subst e
      rw [if_pos rfl, if_pos rfl, lcp_app x y h' fun z => hn (by rw [z])]
    · rw [if_neg e, if_neg e]
theorem lcp_self : ∀ (u : List Nat) {x y : Nat}, x ≠ y → lcp (u ++ [x]) (u ++ [y]) = u.length
  | [], x, y, h => by simp [lcp, h]
  | a :: u, x, y, h => by
    rw [List.cons_append, List.cons_append, lcp, if_pos rfl, lcp_self u h]; rfl
def dedS {α : Type} : List Nat → List (α × Nat) → List (α × Nat)
  | _, [] => []
  | T, x :: l => if x.2 ∈ T then dedS T l else x :: dedS (x.2 :: T) l
theorem dedS_cons {α : Type} (T : List Nat) (x : α × Nat) (l : List (α × Nat)) : dedS T (x :: l) = if x.2 ∈ T then dedS T l else x :: dedS (x.2 :: T) l := rfl
theorem dedS_congr {α : Type} : ∀ {l : List (α × Nat)} {T T' : List Nat}, (∀ k, k ∈ T ↔ k ∈ T') → dedS T l = dedS T' l
  | [], _, _, _ => rfl
  | x :: l, T, T', h => by
    unfold dedS
    have e := h x.2
    have h2 : dedS (x.2 :: T) l = dedS (x.2 :: T') l := dedS_congr fun k => by simp [h k]
    by_cases hx : x.2 ∈ T
    · rw [if_pos hx, if_pos (e.mp hx), dedS_congr h]
    · rw [if_neg hx, if_neg (fun z => hx (e.mpr z)), h2]
theorem dedS_app {α : Type} : ∀ (a b : List (α × Nat)) (T : List Nat), dedS T (a ++ b) = dedS T a ++ dedS (a.map (·.2) ++ T) b
  | [], b, T => rfl
  | x :: a, b, T => by
    rw [List.cons_append, dedS_cons, dedS_cons]
    by_cases hx : x.2 ∈ T
    · rw [if_pos hx, if_pos hx, dedS_app a b T]
      congr 1
      exact dedS_congr fun k => by
        simp only [List.map_cons, List.cons_append, List.mem_cons, List.mem_append]
        constructor
        · intro h; exact .inr h
        · rintro (rfl | h)
          · exact .inr hx
          · exact h
    · rw [if_neg hx, if_neg hx, List.cons_append, dedS_app a b (x.2 :: T)]
      congr 2
      exact dedS_congr fun k => by
        simp only [List.map_cons, List.cons_append, List.mem_cons, List.mem_append]
        constructor
        · rintro (h | rfl | h)
          · exact .inr (.inl h)
          · exact .inl rfl
          · exact .inr (.inr h)
        · rintro (rfl | h | h)
          · exact .inr (.inl rfl)
          · exact .inl h
          · exact .inr (.inr h)
theorem dedS_none {α : Type} : ∀ {l : List (α × Nat)} {T : List Nat}, (∀ x ∈ l, x.2 ∈ T) → dedS T l = []
  | [], _, _ => rfl
  | x :: l, T, h => by
    unfold dedS
    rw [if_pos (h x (by simp)), dedS_none fun y hy => h y (by simp [hy])]
theorem dedS_map {α β : Type} (g : α → β) : ∀ (l : List (α × Nat)) (T : List Nat), dedS T (l.map fun x => (g x.1, x.2)) = (dedS T l).map fun x => (g x.1, x.2)
  | [], _ => rfl
  | x :: l, T => by
    rw [List.map_cons]
    unfold dedS
    by_cases hx : x.2 ∈ T
    · rw [if_pos hx, if_pos hx, dedS_map g l T]
    · rw [if_neg hx, if_neg hx, dedS_map g l, List.map_cons]
theorem dedS_sub {α : Type} : ∀ (l : List (α × Nat)) (T : List Nat), (dedS T l).Sublist l
  | [], _ => .slnil
  | x :: l, T => by
    unfold dedS
    split
    · exact (dedS_sub l T).cons _
    · exact (dedS_sub l _).cons₂ _
theorem dedS_not {α : Type} : ∀ (l : List (α × Nat)) (T : List Nat), ∀ x ∈ dedS T l, x.2 ∉ T
  | [], _, x, h => by cases h
  | y :: l, T, x, h => by
    unfold dedS at h
    split at h
    · exact dedS_not l T x h
    · rename_i hy
      rcases List.mem_cons.mp h with rfl | h
      · exact hy
      · exact fun z => dedS_not l _ x h (by simp [z])
theorem dedS_nodup {α : Type} : ∀ (l : List (α × Nat)) (T : List Nat), ((dedS T l).map (·.2)).Nodup
  | [], _ => List.nodup_nil
  | y :: l, T => by
    unfold dedS
    split
    · exact dedS_nodup l T
    · rw [List.map_cons, List.nodup_cons]
      refine ⟨fun h => ?_, dedS_nodup l _⟩
      obtain ⟨x, hx, e⟩ := List.mem_map.mp h
      exact dedS_not l _ x hx (by simp [e])
theorem dedS_has {α : Type} : ∀ (l : List (α × Nat)) (T : List Nat), ∀ x ∈ l, x.2 ∉ T → ∃ y ∈ dedS T l, y.2 = x.2
  | [], _, x, h, _ => by cases h
  | y :: l, T, x, h, hT => by
    unfold dedS
    by_cases hy : y.2 ∈ T
    · rw [if_pos hy]
      rcases List.mem_cons.mp h with rfl | h
      · exact absurd hy hT
      · exact dedS_has l T x h hT
    · rw [if_neg hy]
      by_cases e : x.2 = y.2
      · exact ⟨y, by simp, e.symm⟩
      · rcases List.mem_cons.mp h with rfl | h
        · exact absurd rfl e
        · obtain ⟨z, hz, ez⟩ := dedS_has l (y.2 :: T) x h (by simp [e, hT])
          exact ⟨z, by simp [hz], ez⟩
/-- what comes behind: only the first one of each state counts -/
theorem dedS_flat {α β : Type} (f : α × Nat → List (β × Nat)) (tg : Nat → List Nat) (hf : ∀ x, (f x).map (·.2) = tg x.2) : ∀ (C : List (α × Nat)) (S T : List Nat), (∀ s ∈ S, ∀ k ∈ tg s, k ∈ T) → dedS T (C.flatMap f) = dedS T ((dedS S C).flatMap f)
  | [], _, _, _ => rfl
  | x :: C, S, T, h => by
    rw [List.flatMap_cons, dedS_app]
    rw [dedS]
    by_cases hx : x.2 ∈ S
    · rw [if_pos hx]
      have hin : ∀ y ∈ f x, y.2 ∈ T := fun y hy => h _ hx _ (by rw [← hf x]; exact List.mem_map.mpr ⟨y, hy, rfl⟩)
      rw [dedS_none hin, List.nil_append]
      rw [dedS_congr (T' := T) fun k => by
        rw [List.mem_append]
        constructor
        · rintro (z | z)
          · obtain ⟨y, hy, rfl⟩ := List.mem_map.mp z
            exact hin y hy
          · exact z
        · exact .inr]
      exact dedS_flat f tg hf C S T h
    · rw [if_neg hx, List.flatMap_cons, dedS_app]
      congr 1
      refine dedS_flat f tg hf C (x.2 :: S) _ fun s hs k hk => ?_
      rw [List.mem_append]
      rcases List.mem_cons.mp hs with rfl | hs
      · exact .inl (by rw [hf x]; exact hk)
      · exact .inr (h s hs k hk)
def maxL (l : List Nat) : Nat := l.foldl max 0
theorem foldl_max (l : List Nat) : ∀ a, l.foldl max a = max a (l.foldl max 0) := by
  induction l with
  | nil => intro a; simp
  | cons x l ih =>
    intro a
    rw [List.foldl_cons, List.foldl_cons, ih (max a x), ih (max 0 x)]
    omega
theorem maxL_app (a b : List Nat) : maxL (a ++ b) = max (maxL a) (maxL b) := by
  unfold maxL
  rw [List.foldl_append, foldl_max]
theorem maxL_one (x : Nat) : maxL [x] = x := by simp [maxL]
theorem maxL_cons (x : Nat) (l : List Nat) : maxL (x :: l) = max x (maxL l) := maxL_app [x] l |>.trans (by rw [maxL_one])
def toLs (n : Nat) : Option (List Nat) → List (List Nat × Nat) → List (Nat × Nat)
  | _, [] => []
  | none, x :: l => (x.2, 0) :: toLs n (some x.1) l
  | some u, x :: l => (x.2, n - lcp u x.1) :: toLs n (some x.1) l
theorem toLs_fst (n : Nat) : ∀ (o : Option (List Nat)) (W : List (List Nat × Nat)), (toLs n o W).map (·.1) = W.map (·.2)
  | _, [] => by cases ‹Option (List Nat)› <;> rfl
  | none, x :: l => by rw [toLs, List.map_cons, List.map_cons, toLs_fst n]
  | some u, x :: l => by rw [toLs, List.map_cons, List.map_cons, toLs_fst n]
theorem toLs_len (n : Nat) (o : Option (List Nat)) (W : List (List Nat × Nat)) : (toLs n o W).length = W.length := by
  have := congrArg List.length (toLs_fst n o W)
  simpa using this
/-- the forks of a list -/
def fk (L : List (Nat × Nat)) : List Nat := L.map (·.2)
theorem toLs_some (n : Nat) : ∀ (W : List (List Nat × Nat)) (u : List Nat) (k : Nat), k < W.length → (fk (toLs n (some u) W))[k]? = some (n - lcp (if k = 0 then u else (W.getD (k - 1) ([], 0)).1) (W.getD k ([], 0)).1)
  | [], _, _, h => by simp at h
  | x :: l, u, 0, _ => by simp [toLs, fk]
  | x :: l, u, k + 1, h => by
    have ih := toLs_some n l x.1 k (by simpa using h)
    simp only [toLs, fk, List.map_cons, List.getElem?_cons_succ] at ih ⊢
    rw [ih]
    cases k with
    | zero => simp
    | succ k => simp
theorem toLs_at (n : Nat) (W : List (List Nat × Nat)) (k : Nat) (h0 : k + 1 < W.length) : (fk (toLs n none W))[k + 1]? = some (n - lcp (W.getD k ([], 0)).1 (W.getD (k + 1) ([], 0)).1) := by
  cases W with
  | nil => simp at h0
  | cons x l =>
    have := toLs_some n l x.1 k (by simpa using h0)
    simp only [toLs, fk, List.map_cons, List.getElem?_cons_succ] at this ⊢
    rw [this]
    cases k with
    | zero => simp
    | succ k => simp
/-- the greatest fork between two places -/
theorem fork_max {n : Nat} {W : List (List Nat × Nat)} (hs : W.Pairwise fun x y => x.1 < y.1) (hl : ∀ x ∈ W, x.1.length = n) {a : Nat} : ∀ {b : Nat}, a < b → b < W.length → maxL (((fk (toLs n none W)).take (b + 1)).drop (a + 1)) = n - lcp (W.getD a ([], 0)).1 (W.getD b ([], 0)).1 := by
  intro b hab hb
  obtain ⟨k, rfl⟩ : ∃ k, b = a + 1 + k := ⟨b - (a + 1), by omega⟩
  induction k with
  | zero =>
    have e := toLs_at n W a (by omega)
    rw [List.take_add_one, List.drop_append_of_le_length (by rw [List.length_take, fk, List.length_map, toLs_len]; omega)]
    have : ((fk (toLs n none W)).take (a + 1 + 0)).drop (a + 1) = [] := by rw [List.drop_eq_nil_iff, List.length_take]; omega
    rw [this, List.nil_append]
    rw [show a + 1 + 0 = a + 1 from rfl, e]
    exact maxL_one _
  | succ k ih =>
    have ih := ih (by omega) (by omega)
    have e := toLs_at n W (a + 1 + k) (by omega)
    rw [List.take_add_one, List.drop_append_of_le_length (by rw [List.length_take, fk, List.length_map, toLs_len]; omega), maxL_app]
    rw [show a + 1 + (k + 1) = a + 1 + k + 1 from rfl, ih, e]
    have g1 : W.getD a ([], 0) = W[a]'(by omega) := by rw [List.getD_eq_getElem?_getD, List.getElem?_eq_getElem (by omega)]; rfl
    have g2 : W.getD (a + 1 + k) ([], 0) = W[a + 1 + k]'(by omega) := by rw [List.getD_eq_getElem?_getD, List.getElem?_eq_getElem (by omega)]; rfl
    have g3 : W.getD (a + 1 + k + 1) ([], 0) = W[a + 1 + k + 1]'(by omega) := by rw [List.getD_eq_getElem?_getD, List.getElem?_eq_getElem (by omega)]; rfl
    have p := List.pairwise_iff_getElem.mp hs
    have l1 := p a (a + 1 + k) (by omega) (by omega) (by omega)
    have l2 := p (a + 1 + k) (a + 1 + k + 1) (by omega) (by omega) (by omega)
    rw [g1, g2, g3, lcp_chain l1 l2]
    show max _ (maxL [_]) = _
    rw [maxL_one]
    omega
def fdW (F : List Nat) : Option Nat → List (Nat × Nat) → List (Nat × Nat)
  | _, [] => []
  | none, x :: r => (x.2, 0) :: fdW F (some x.1) r
  | some a, x :: r => (x.2, 1 + maxL ((F.take (x.1 + 1)).drop (a + 1))) :: fdW F (some x.1) r
/-- the moves behind a list by a letter, with their places -/
def evW {α : Type} (rs : List (List Mv)) (c : Nat) (W : List (α × Nat)) : List ((Nat × Nat) × Nat) := (W.zipIdx).flatMap fun x => (movesAt rs x.1.2 c).map fun m => ((x.2, m.c), m.t)
/-- what comes, each state once: (place, state) -/
def cameW {α : Type} (rs : List (List Mv)) (c : Nat) (W : List (α × Nat)) : List (Nat × Nat) := (dedS [] (evW rs c W)).map fun x => (x.1.1, x.2)
def stepW (rs : List (List Mv)) (c : Nat) (L : List (Nat × Nat)) : List (Nat × Nat) := fdW (fk L) none (cameW rs c (L.map fun x => ((), x.1)))
theorem evW_lt {α : Type} {rs : List (List Mv)} (o : Ordered rs) (c : Nat) (W : List (α × Nat)) : (evW rs c W).Pairwise fun x y => x.1.1 < y.1.1 ∨ x.1.1 = y.1.1 ∧ x.1.2 < y.1.2 := by
  unfold evW
  rw [List.pairwise_flatMap]
  refine ⟨fun x hx => ?_, ?_⟩
  · rw [List.pairwise_map]
    exact (moves_ordered o x.1.2 c).imp fun h => .inr ⟨rfl, h⟩
  · have : (W.zipIdx).Pairwise fun x y => x.2 < y.2 := by
      rw [List.pairwise_iff_getElem]
      intro i j hi hj hij
      simp only [List.getElem_zipIdx]
      omega
    refine this.imp fun {x y} h a ha b hb => ?_
    obtain ⟨m, _, rfl⟩ := List.mem_map.mp ha
    obtain ⟨m', _, rfl⟩ := List.mem_map.mp hb
    exact .inl h
theorem evW_at {α : Type} {rs : List (List Mv)} {c : Nat} {W : List (α × Nat)} : ∀ x ∈ evW rs c W, x.1.1 < W.length := fun x hx => by
  unfold evW at hx
  obtain ⟨y, hy, hm⟩ := List.mem_flatMap.mp hx
  obtain ⟨m, _, rfl⟩ := List.mem_map.mp hm
  obtain ⟨h1, h2, _⟩ := List.mem_zipIdx hy
  show y.2 < W.length
  omega
/-- the text of an event -/
def txW (W : List (List Nat × Nat)) (x : Nat × Nat) : List Nat := (W.getD x.1 ([], 0)).1 ++ [x.2]
theorem fdW_toLs {n : Nat} {W : List (List Nat × Nat)} (hs : W.Pairwise fun x y => x.1 < y.1) (hl : ∀ x ∈ W, x.1.length = n) : ∀ (E : List ((Nat × Nat) × Nat)) (e0 : Option (Nat × Nat)), (∀ x ∈ E, x.1.1 < W.length) → (∀ z, e0 = some z → z.1 < W.length) →
    (E.Pairwise fun x y => x.1.1 < y.1.1 ∨ x.1.1 = y.1.1 ∧ x.1.2 < y.1.2) → (∀ z, e0 = some z → ∀ y ∈ E, z.1 < y.1.1 ∨ z.1 = y.1.1 ∧ z.2 < y.1.2) →
    fdW (fk (toLs n none W)) (e0.map (·.1)) (E.map fun x => (x.1.1, x.2)) = toLs (n + 1) (e0.map (txW W)) (E.map fun x => (txW W x.1, x.2))
  | [], e0, _, _, _, _ => by cases e0 <;> rfl
  | x :: E, none, h1, _, h3, _ => by
    rw [List.pairwise_cons] at h3
    have ih := fdW_toLs hs hl E (some x.1) (fun y hy => h1 y (by simp [hy])) (fun z e => by cases e; exact h1 x (by simp)) h3.2 (fun z e => by cases e; exact h3.1)
    simp only [List.map_cons, Option.map_none, fdW, toLs]
    exact congrArg _ ih
  | x :: E, some z, h1, h2, h3, h4 => by
    rw [List.pairwise_cons] at h3
    have ih := fdW_toLs hs hl E (some x.1) (fun y hy => h1 y (by simp [hy])) (fun z e => by cases e; exact h1 x (by simp)) h3.2 (fun z e => by cases e; exact h3.1)
    simp only [List.map_cons, Option.map_some, fdW, toLs]
    have hx := h1 x (by simp)
    have hz := h2 z rfl
    have gx : W.getD x.1.1 ([], 0) = W[x.1.1] := by rw [List.getD_eq_getElem?_getD, List.getElem?_eq_getElem hx]; rfl
    have gz : W.getD z.1 ([], 0) = W[z.1] := by rw [List.getD_eq_getElem?_getD, List.getElem?_eq_getElem hz]; rfl
    have lx : (W.getD x.1.1 ([], 0)).1.length = n := by rw [gx]; exact hl _ (List.getElem_mem hx)
    have lz : (W.getD z.1 ([], 0)).1.length = n := by rw [gz]; exact hl _ (List.getElem_mem hz)
    have e : 1 + maxL (((fk (toLs n none W)).take (x.1.1 + 1)).drop (z.1 + 1)) = n + 1 - lcp (txW W z) (txW W x.1) := by
      unfold txW
      rcases h4 z rfl x (by simp) with h | ⟨h, h'⟩
      · have := fork_max hs hl h hx
        rw [this, lcp_app _ _ (lz.trans lx.symm) fun q => ?_]
        · have := lcp_le (W.getD z.1 ([], 0)).1 (W.getD x.1.1 ([], 0)).1
          omega
        · have p := List.pairwise_iff_getElem.mp hs z.1 x.1.1 hz hx h
          rw [gz, gx] at q
          rw [q] at p
          exact absurd p (List.lt_irrefl _)
      · rw [← h, lcp_self _ (by omega), lz]
        have : ((fk (toLs n none W)).take (z.1 + 1)).drop (z.1 + 1) = [] := by rw [List.drop_eq_nil_iff, List.length_take]; omega
        rw [this]
        simp [maxL]
    rw [e]
    exact congrArg _ ih
def capsOn (rs : List (List Mv)) (c : Nat) (x : List Nat × Nat) : List (List Nat × Nat) := (movesAt rs x.2 c).map fun m => (x.1 ++ [m.c], m.t)
/-- the first caption of each state, in order -/
def firstsW (rs : List (List Mv)) (p : List Nat) : List (List Nat × Nat) := dedS [] (caps rs 0 p)
def listW (rs : List (List Mv)) (p : List Nat) : List (Nat × Nat) := toLs p.length none (firstsW rs p)
theorem ev_txt (rs : List (List Mv)) (c : Nat) (W : List (List Nat × Nat)) : (evW rs c W).map (fun x => (txW W x.1, x.2)) = W.flatMap (capsOn rs c) := by
  unfold evW
  rw [List.map_flatMap]
  have : ∀ (l : List (List Nat × Nat)) (k : Nat), (∀ i, i < l.length → W.getD (k + i) ([], 0) = l.getD i ([], 0)) → ((l.zipIdx k).flatMap fun x => ((movesAt rs x.1.2 c).map fun m => ((x.2, m.c), m.t)).map fun x => (txW W x.1, x.2)) = l.flatMap (capsOn rs c) := by
    intro l
    induction l with
    | nil => intro k _; rfl
    | cons a l ih =>
      intro k h
      rw [List.zipIdx_cons, List.flatMap_cons, List.flatMap_cons, ih (k + 1) fun i hi => by
        have := h (i + 1) (by simpa using hi)
        rw [show k + 1 + i = k + (i + 1) by omega]
        simpa using this]
      congr 1
      unfold capsOn
      rw [List.map_map]
      refine List.map_congr_left fun m _ => ?_
      have := h 0 (by simp)
      simp only [Nat.add_zero, List.getD_cons_zero] at this
      show (txW W (k, m.c), m.t) = _
      unfold txW
      simp only [this]
  exact this W 0 fun i _ => by simp
theorem caps_lenS {rs : List (List Mv)} (s : Nat) (p : List Nat) : ∀ x ∈ caps rs s p, x.1.length = p.length := by
  induction p generalizing s with
  | nil => intro x hx; simp [caps] at hx; rw [hx]
  | cons c p ih =>
    intro x hx
    rw [caps_cons] at hx
    obtain ⟨m, _, hy⟩ := List.mem_flatMap.mp hx
    obtain ⟨y, hy', rfl⟩ := List.mem_map.mp hy
    simp [ih m.t y hy']
theorem firstsW_snoc (rs : List (List Mv)) (p : List Nat) (c : Nat) : firstsW rs (p ++ [c]) = dedS [] ((firstsW rs p).flatMap (capsOn rs c)) := by
  unfold firstsW
  rw [caps_snoc, show capsStep rs (caps rs 0 p) c = (caps rs 0 p).flatMap (capsOn rs c) from rfl]
  exact dedS_flat (capsOn rs c) (fun s => (movesAt rs s c).map (·.t)) (fun x => by unfold capsOn; rw [List.map_map]; rfl) _ [] [] fun s hs => by cases hs
theorem evW_map {α β : Type} (rs : List (List Mv)) (c : Nat) (f : α → β) (W : List (α × Nat)) : evW rs c (W.map fun x => (f x.1, x.2)) = evW rs c W := by
  unfold evW
  have : ∀ (l : List (α × Nat)) (k : Nat), ((l.map fun x => (f x.1, x.2)).zipIdx k).flatMap (fun x => (movesAt rs x.1.2 c).map fun m => ((x.2, m.c), m.t)) = (l.zipIdx k).flatMap fun x => (movesAt rs x.1.2 c).map fun m => ((x.2, m.c), m.t) := by
    intro l
    induction l with
    | nil => intro k; rfl
    | cons a l ih =>
      intro k
      rw [List.map_cons, List.zipIdx_cons, List.zipIdx_cons, List.flatMap_cons, List.flatMap_cons, ih]
  exact this W 0
/-- a step leads to the list behind -/
theorem listW_snoc {rs : List (List Mv)} (o : Ordered rs) (p : List Nat) (c : Nat) : stepW rs c (listW rs p) = listW rs (p ++ [c]) := by
  have hs : (firstsW rs p).Pairwise fun x y => x.1 < y.1 := (caps_ordered o p 0).sublist (dedS_sub _ _)
  have hl : ∀ x ∈ firstsW rs p, x.1.length = p.length := fun x hx => caps_lenS 0 p x ((dedS_sub _ _).subset hx)
  unfold stepW cameW
  have e1 : (listW rs p).map (fun x => ((), x.1)) = (firstsW rs p).map fun x => ((), x.2) := by
    have := toLs_fst p.length none (firstsW rs p)
    have h2 := congrArg (List.map fun k : Nat => ((), k)) this
    rw [List.map_map, List.map_map] at h2
    exact h2
  rw [e1, evW_map rs c (fun _ => ()) (firstsW rs p)]
  have sub : (dedS [] (evW rs c (firstsW rs p))).Sublist (evW rs c (firstsW rs p)) := dedS_sub _ _
  have key := fdW_toLs hs hl (dedS [] (evW rs c (firstsW rs p))) none (fun x hx => evW_at x (sub.subset hx)) (fun z e => by cases e) ((evW_lt o c _).sublist sub) (fun z e => by cases e)
  have e2 : (dedS [] (evW rs c (firstsW rs p))).map (fun x => (txW (firstsW rs p) x.1, x.2)) = firstsW rs (p ++ [c]) := by
    rw [firstsW_snoc, ← ev_txt, dedS_map]
  rw [e2] at key
  rw [show listW rs (p ++ [c]) = toLs (p.length + 1) none (firstsW rs (p ++ [c])) by unfold listW; rw [List.length_append]; rfl]
  exact key
end Pace
end
section
set_option Elab.async false
set_option linter.all false
set_option maxRecDepth 100000
set_option maxHeartbeats 4000000
namespace Pace
open PySem PySem.Spec PyProof.Rows L2 DL
mutual
def leafD (m : Nat) : D → Bool
  | .int i => decide (i.natAbs ≤ 10 ^ 39 + m)
  | .str x => x.cps.toList.all fun c => decide (c < 128)
  | .tup xs | .lst xs => leafsD m xs
  | .kup _ => false
  | _ => true
def leafsD (m : Nat) : List D → Bool
  | [] => true
  | x :: xs => leafD m x && leafsD m xs
end
def bkD (x : D) : Nat := x.pyR.bulk
def bksD (xs : List D) : Nat := (xs.map fun x => bkD x + 1).sum
structure One (m n : Nat) (d : D) : Prop where
  pl : d.plR = true
  lf : leafD m d = true
  dp : d.pyR.depth ≤ n
structure Odd (m n w : Nat) (d : D) : Prop where
  one : One m n d
  bk : bkD d ≤ w
theorem plsR_all : ∀ xs : List D, D.plsR xs = true ↔ ∀ x ∈ xs, x.plR = true
  | [] => by simp [D.plsR]
  | x :: xs => by simp [D.plsR, plsR_all xs]
theorem leafsD_all (m : Nat) : ∀ xs : List D, leafsD m xs = true ↔ ∀ x ∈ xs, leafD m x = true
  | [] => by simp [leafsD]
  | x :: xs => by simp [leafsD, leafsD_all m xs]
theorem depthsR (n : Nat) : ∀ xs : List D, PyData.depthAll (D.pysR xs) ≤ n ↔ ∀ x ∈ xs, x.pyR.depth ≤ n
  | [] => by simp [D.pysR, PyData.depthAll]
  | x :: xs => by
    have := depthsR n xs
    simp only [D.pysR, PyData.depthAll, List.forall_mem_cons, ← this]
    exact Nat.max_le
theorem bulksR : ∀ xs : List D, PyData.bulkAll (D.pysR xs) = bksD xs
  | [] => rfl
  | x :: xs => by
    have := bulksR xs
    simp only [D.pysR, PyData.bulkAll, this, bksD, bkD, List.map_cons, List.sum_cons]
theorem One.mono {m n m' n' : Nat} {d : D} (h : One m n d) (h1 : m ≤ m') (h2 : n ≤ n') : One m' n' d := by
  have aux : ∀ k : Nat, (∀ d : D, sizeOf d ≤ k → leafD m d = true → leafD m' d = true) ∧ (∀ ds : List D, sizeOf ds ≤ k → leafsD m ds = true → leafsD m' ds = true) := by
    intro k
    induction k with
    | zero =>
      refine ⟨fun d hd => ?_, fun ds hd => ?_⟩
      · cases d <;> simp at hd
      · cases ds <;> simp at hd
    | succ k ih =>
      refine ⟨fun d hd hl => ?_, fun ds hd hl => ?_⟩
      · cases d with
        | int i => simp only [leafD, decide_eq_true_eq] at hl ⊢; omega
        | tup xs => exact ih.2 xs (by simp at hd; omega) hl
        | lst xs => exact ih.2 xs (by simp at hd; omega) hl
        | str x => exact hl
        | kup xs => cases hl
        | _ => rfl
      · cases ds with
        | nil => rfl
        | cons x xs =>
          have l' : leafD m x = true ∧ leafsD m xs = true := by simpa [leafsD] using hl
          show (leafD m' x && leafsD m' xs) = true
          rw [ih.1 x (by simp at hd; omega) l'.1, ih.2 xs (by simp at hd; omega) l'.2]; rfl
  exact ⟨h.pl, (aux (sizeOf d)).1 d (Nat.le_refl _) h.lf, Nat.le_trans h.dp h2⟩
theorem one_tup {m n : Nat} {xs : List D} : One m (n + 1) (.tup xs) ↔ ∀ x ∈ xs, One m n x := by
  constructor
  · intro h x hx
    exact ⟨(plsR_all xs).mp h.pl x hx, (leafsD_all m xs).mp h.lf x hx, (depthsR n xs).mp (Nat.le_of_succ_le_succ h.dp) x hx⟩
  · intro h
    exact ⟨(plsR_all xs).mpr fun x hx => (h x hx).pl, (leafsD_all m xs).mpr fun x hx => (h x hx).lf, Nat.succ_le_succ ((depthsR n xs).mpr fun x hx => (h x hx).dp)⟩
theorem one_lst {m n : Nat} {xs : List D} : One m (n + 1) (.lst xs) ↔ ∀ x ∈ xs, One m n x := by
  constructor
  · intro h x hx
    exact ⟨(plsR_all xs).mp h.pl x hx, (leafsD_all m xs).mp h.lf x hx, (depthsR n xs).mp (Nat.le_of_succ_le_succ h.dp) x hx⟩
  · intro h
    exact ⟨(plsR_all xs).mpr fun x hx => (h x hx).pl, (leafsD_all m xs).mpr fun x hx => (h x hx).lf, Nat.succ_le_succ ((depthsR n xs).mpr fun x hx => (h x hx).dp)⟩
theorem bk_tup (xs : List D) : bkD (.tup xs) = bksD xs := bulksR xs
theorem bk_lst (xs : List D) : bkD (.lst xs) = bksD xs := bulksR xs
theorem Odd.mono {m n w m' n' w' : Nat} {d : D} (h : Odd m n w d) (h1 : m ≤ m') (h2 : n ≤ n') (h3 : w ≤ w') : Odd m' n' w' d := ⟨h.one.mono h1 h2, Nat.le_trans h.bk h3⟩
theorem bks_cons (x : D) (xs : List D) : bksD (x :: xs) = bkD x + 1 + bksD xs := by simp [bksD]
theorem bks_nil : bksD [] = 0 := rfl
theorem oddP_int {m n w : Nat} {i : Int} (h : i.natAbs ≤ 10 ^ 39 + m) : Odd m n w (.int i) := ⟨⟨rfl, by simp only [leafD, decide_eq_true_eq]; exact h, Nat.zero_le _⟩, Nat.zero_le _⟩
theorem oddP_tup {m n w : Nat} {xs : List D} (h : ∀ x ∈ xs, One m n x) (hb : bksD xs ≤ w) : Odd m (n + 1) w (.tup xs) := ⟨one_tup.mpr h, by rw [bk_tup]; exact hb⟩
theorem oddP_lst {m n w : Nat} {xs : List D} (h : ∀ x ∈ xs, One m n x) (hb : bksD xs ≤ w) : Odd m (n + 1) w (.lst xs) := ⟨one_lst.mpr h, by rw [bk_lst]; exact hb⟩
theorem leaf_short : ∀ (m : Nat), m ≤ 1000 → ∀ d : D, d.plR = true → leafD m d = true → d.pyR.showable = true ∧ d.pyR.leavesShort 45 = true := by
  intro m hm
  have aux : ∀ k : Nat, (∀ d : D, sizeOf d ≤ k → d.plR = true → leafD m d = true → d.pyR.showable = true ∧ d.pyR.leavesShort 45 = true) ∧ (∀ ds : List D, sizeOf ds ≤ k → D.plsR ds = true → leafsD m ds = true → PyData.showableAll (D.pysR ds) = true ∧ PyData.leavesShortAll 45 (D.pysR ds) = true) := by
    intro k
    induction k with
    | zero =>
      refine ⟨fun d hd => ?_, fun ds hd => ?_⟩
      · cases d <;> simp at hd
      · cases ds <;> simp at hd
    | succ k ih =>
      refine ⟨fun d hd hp hl => ?_, fun ds hd hp hl => ?_⟩
      · cases d with
        | non => exact ⟨rfl, rfl⟩
        | bl b => exact ⟨rfl, rfl⟩
        | int i =>
          have hi : i.natAbs ≤ 10 ^ 39 + m := by simpa [leafD] using hl
          have h40 : i.natAbs < 10 ^ 40 := by
            have : (10 : Nat) ^ 39 + m < 10 ^ 40 := by
              have e : (10 : Nat) ^ 40 = 10 * 10 ^ 39 := by decide
              have e2 : (1000 : Nat) ≤ 10 ^ 39 := by decide
              omega
            omega
          constructor
          · show decide (i.natAbs.log2 < 1920) = true
            rw [decide_eq_true_eq]
            by_cases h0 : i.natAbs = 0
            · rw [h0]; decide
            · have : i.natAbs.log2 < 140 := (Nat.log2_lt h0).mpr (Nat.lt_trans h40 (by decide))
              omega
          · show decide ((PyData.shown (.int i)).length ≤ 45) = true
            rw [decide_eq_true_eq]
            have e := int_text_length_le10 (k := 40) (by decide) h40
            show (Str.ofString (toString i)).length ≤ 45
            rw [PySem.ofString_length]; omega
        | str x =>
          refine ⟨rfl, ?_⟩
          show (x.cps.toList.all fun c => decide (c < 16 ^ 8)) = true
          rw [List.all_eq_true]
          intro c hc
          have : (x.cps.toList.all fun c => decide (c < 128)) = true := hl
          have := List.all_eq_true.mp this c hc
          simp only [decide_eq_true_eq] at this ⊢
          omega
        | tup xs => exact ih.2 xs (by simp at hd; omega) hp hl
        | lst xs => exact ih.2 xs (by simp at hd; omega) hp hl
        | dK kds => exact ⟨rfl, rfl⟩
        | ty n => cases hp
        | dT k => cases hp
        | obj C f => cases hp
        | rf a => cases hp
        | scr ns => cases hp
        | kup xs => cases hl
      · cases ds with
        | nil => exact ⟨rfl, rfl⟩
        | cons x xs =>
          have p' : x.plR = true ∧ D.plsR xs = true := by simpa [D.plsR] using hp
          have l' : leafD m x = true ∧ leafsD m xs = true := by simpa [leafsD] using hl
          have a := ih.1 x (by simp at hd; omega) p'.1 l'.1
          have b := ih.2 xs (by simp at hd; omega) p'.2 l'.2
          constructor
          · show (x.pyR.showable && PyData.showableAll (D.pysR xs)) = true
            rw [a.1, b.1]; rfl
          · show (x.pyR.leavesShort 45 && PyData.leavesShortAll 45 (D.pysR xs)) = true
            rw [a.2, b.2]; rfl
  exact fun d => (aux (sizeOf d)).1 d (Nat.le_refl _)
theorem Odd.repr {m n w : Nat} {d : D} (h : Odd m n w d) (hm : m ≤ 1000) (hn : n ≤ 60) (hw : w ≤ 100000) {G : GH} {Q : DQ} (q : Q (.str d.pyR.shown) G) : rReprG [d] G Q := by
  obtain ⟨h1, h2⟩ := leaf_short m hm d h.one.pl h.one.lf
  refine ⟨h.one.pl, h1, Nat.le_trans h.one.dp hn, ?_, q⟩
  have := PyData.shown_le_bulk 45 (by decide) d.pyR h2
  have hb : d.pyR.bulk ≤ w := h.bk
  have : (45 + 2) * d.pyR.bulk ≤ 47 * 100000 := Nat.mul_le_mul (by omega) (by omega)
  rw [sizeLine_eq]
  omega
end Pace
end
section
set_option Elab.async false
set_option linter.all false
set_option maxRecDepth 100000
set_option maxHeartbeats 4000000
namespace DL
open PySem PySem.Spec PyProof.Rows L2
end DL
end
section
set_option Elab.async false
set_option linter.all false
set_option maxRecDepth 100000
set_option maxHeartbeats 4000000
namespace Pace
open PySem PySem.Spec PyProof.Rows L2 DL
abbrev Rows := List (List Mv)
def rowS (A : Rows) (s : Nat) : List Mv := A.getD s []
/-- two rows with the same letters, and targets that go with each other -/
def rowsLike (P : Nat → Nat → Bool) : List Mv → List Mv → Bool
  | [], [] => true
  | m :: r, m' :: r' => (m.h == m'.h && m.c == m'.c && P m.t m'.t) && rowsLike P r r'
  | _, _ => false
/-- the same for k rounds -/
def sim : Nat → Rows → Nat → Rows → Nat → Bool
  | 0, _, _, _, _ => true
  | k + 1, A, s, B, t => rowsLike (fun x y => sim k A x B y) (rowS A s) (rowS B t)
def bis (A : Rows) (s : Nat) (B : Rows) (t : Nat) : Prop := ∀ k, sim k A s B t = true
theorem sim_refl (A : Rows) : ∀ k s, sim k A s A s = true := by
  intro k
  induction k with
  | zero => intro s; rfl
  | succ k ih =>
    intro s
    show rowsLike _ (rowS A s) (rowS A s) = true
    generalize rowS A s = r
    induction r with
    | nil => rfl
    | cons m r ihr => simp only [rowsLike, ih, ihr, beq_self_eq_true, Bool.and_self]
theorem sim_symm {A B : Rows} : ∀ {k s t}, sim k A s B t = true → sim k B t A s = true := by
  intro k
  induction k with
  | zero => intro s t _; rfl
  | succ k ih =>
    intro s t h
    show rowsLike _ (rowS B t) (rowS A s) = true
    have h : rowsLike _ (rowS A s) (rowS B t) = true := h
    generalize rowS A s = r at h
    generalize rowS B t = r' at h
    induction r generalizing r' with
    | nil => cases r' with
      | nil => rfl
      | cons _ _ => cases h
    | cons m r ihr => cases r' with
      | nil => cases h
      | cons m' r' =>
        simp only [rowsLike, Bool.and_eq_true, beq_iff_eq] at h ⊢
        exact ⟨⟨⟨h.1.1.1.symm, h.1.1.2.symm⟩, ih h.1.2⟩, ihr r' h.2⟩
theorem sim_trans {A B D : Rows} : ∀ {k s t u}, sim k A s B t = true → sim k B t D u = true → sim k A s D u = true := by
  intro k
  induction k with
  | zero => intro s t u _ _; rfl
  | succ k ih =>
    intro s t u h1 h2
    show rowsLike _ (rowS A s) (rowS D u) = true
    have h1 : rowsLike _ (rowS A s) (rowS B t) = true := h1
    have h2 : rowsLike _ (rowS B t) (rowS D u) = true := h2
    generalize rowS A s = r at h1
    generalize rowS B t = r' at h1 h2
    generalize rowS D u = r'' at h2
    induction r generalizing r' r'' with
    | nil => cases r' with
      | nil => cases r'' with
        | nil => rfl
        | cons _ _ => cases h2
      | cons _ _ => cases h1
    | cons m r ihr => cases r' with
      | nil => cases h1
      | cons m' r' => cases r'' with
        | nil => cases h2
        | cons m'' r'' =>
          simp only [rowsLike, Bool.and_eq_true, beq_iff_eq] at h1 h2 ⊢
          exact ⟨⟨⟨h1.1.1.1.trans h2.1.1.1, h1.1.1.2.trans h2.1.1.2⟩, ih h1.1.2 h2.1.2⟩, ihr r' h1.2 r'' h2.2⟩
theorem bis.refl (A : Rows) (s : Nat) : bis A s A s := fun k => sim_refl A k s
theorem bis.symm {A B : Rows} {s t : Nat} (h : bis A s B t) : bis B t A s := fun k => sim_symm (h k)
theorem bis.trans {A B D : Rows} {s t u : Nat} (h : bis A s B t) (g : bis B t D u) : bis A s D u := fun k => sim_trans (h k) (g k)
/-- what a bisimulation says of two rows -/
inductive Like (R : Nat → Nat → Prop) : List Mv → List Mv → Prop
  | nil : Like R [] []
  | cons {m m' : Mv} {r r' : List Mv} : m.h = m'.h → m.c = m'.c → R m.t m'.t → Like R r r' → Like R (m :: r) (m' :: r')
theorem bis.row {A B : Rows} {s t : Nat} (h : bis A s B t) : Like (fun x y => bis A x B y) (rowS A s) (rowS B t) := by
  have h : ∀ k, rowsLike (fun x y => sim k A x B y) (rowS A s) (rowS B t) = true := fun k => h (k + 1)
  generalize rowS A s = r at h
  generalize rowS B t = r' at h
  induction r generalizing r' with
  | nil => cases r' with
    | nil => exact .nil
    | cons _ _ => cases h 0
  | cons m r ih => cases r' with
    | nil => cases h 0
    | cons m' r' =>
      simp only [rowsLike, Bool.and_eq_true, beq_iff_eq] at h
      exact .cons (h 0).1.1.1 (h 0).1.1.2 (fun k => (h k).1.2) (ih r' fun k => (h k).2)
theorem Like.imp {R R' : Nat → Nat → Prop} (f : ∀ x y, R x y → R' x y) {r r' : List Mv} (l : Like R r r') : Like R' r r' := by
  induction l with
  | nil => exact .nil
  | cons e1 e2 e3 _ ih => exact .cons e1 e2 (f _ _ e3) ih
inductive All2 (R : Nat → Nat → Prop) : List Nat → List Nat → Prop
  | nil : All2 R [] []
  | cons {x y : Nat} {l l' : List Nat} : R x y → All2 R l l' → All2 R (x :: l) (y :: l')
theorem All2.len {R : Nat → Nat → Prop} {l l' : List Nat} (h : All2 R l l') : l.length = l'.length := by
  induction h with
  | nil => rfl
  | cons _ _ ih => rw [List.length_cons, List.length_cons, ih]
theorem All2.snoc {R : Nat → Nat → Prop} {l l' : List Nat} {x y : Nat} (h : All2 R l l') (r : R x y) : All2 R (l ++ [x]) (l' ++ [y]) := by
  induction h with
  | nil => exact .cons r .nil
  | cons r' _ ih => exact .cons r' ih
theorem All2.get {R : Nat → Nat → Prop} {l l' : List Nat} (h : All2 R l l') : ∀ {i : Nat} {x : Nat}, l[i]? = some x → ∃ y, l'[i]? = some y ∧ R x y := by
  induction h with
  | nil => intro i x e; simp at e
  | cons r _ ih =>
    intro i x e
    cases i with
    | zero => simp at e; subst e; exact ⟨_, rfl, r⟩
    | succ i => simpa using ih (by simpa using e)
end Pace
end
section
set_option Elab.async false
set_option linter.all false
set_option maxRecDepth 100000
set_option maxHeartbeats 4000000
namespace Pace
open PySem PySem.Spec PyProof.Rows L2 DL
/-- targets lie within -/
def Closed (A : Rows) : Prop := 1 ≤ A.length ∧ ∀ r ∈ A, ∀ m ∈ r, m.t < A.length
theorem rowS_mem {A : Rows} {s : Nat} {m : Mv} (h : m ∈ rowS A s) : ∃ r ∈ A, m ∈ r := by
  unfold rowS at h
  rw [List.getD_eq_getElem?_getD] at h
  cases e : A[s]? with
  | none => rw [e] at h; simp at h
  | some r => rw [e] at h; exact ⟨r, List.mem_of_getElem? e, h⟩
theorem Closed.t {A : Rows} (c : Closed A) {s : Nat} {m : Mv} (h : m ∈ rowS A s) : m.t < A.length := by
  obtain ⟨r, hr, hm⟩ := rowS_mem h
  exact c.2 r hr m hm
theorem Like.mem {R : Nat → Nat → Prop} {r r' : List Mv} (l : Like R r r') : ∀ m ∈ r, ∃ t, R m.t t := by
  induction l with
  | nil => intro m hm; cases hm
  | cons e1 e2 e3 _ ih =>
    intro x hx
    rcases List.mem_cons.mp hx with rfl | hx
    · exact ⟨_, e3⟩
    · exact ih x hx
end Pace
end
section
set_option Elab.async false
set_option linter.all false
set_option maxRecDepth 100000
set_option maxHeartbeats 4000000
namespace DL
open PySem PySem.Spec PyProof.Rows L2
end DL
end
section
set_option Elab.async false
set_option linter.all false
set_option maxRecDepth 100000
set_option maxHeartbeats 4000000
namespace Pace
open PySem PySem.Spec PyProof.Rows L2 DL
/-- rows as the walks need them -/
structure Steps (A : Rows) : Prop where
  cl : Closed A
  n : A.length ≤ 999
  pw : ∀ r ∈ A, r.Pairwise fun a b => mvLt a b = true
  l : ∀ r ∈ A, r.length ≤ 1000
theorem RulV.steps {hs ws : List Nat} {rs : List (List Mv)} (v : RulV hs ws rs) : Steps rs where
  cl := ⟨v.n1, fun r hr m hm => (v.ok.at_ r hr).2 m hm⟩
  n := v.n2
  pw := fun r hr => by
    have := (v.row r hr).1
    unfold rowB at this
    rw [Bool.and_eq_true] at this
    exact nbr_pair (r := mvLt) mvLt_tr _ this.2
  l := fun r hr => (v.row r hr).2
theorem Steps.row {A : Rows} (h : Steps A) (s : Nat) : (rowS A s).Pairwise (fun a b => mvLt a b = true) ∧ (rowS A s).length ≤ 1000 := by
  unfold rowS
  rw [List.getD_eq_getElem?_getD]
  cases e : A[s]? with
  | none => exact ⟨.nil, Nat.zero_le _⟩
  | some r => exact ⟨h.pw r (List.mem_of_getElem? e), h.l r (List.mem_of_getElem? e)⟩
end Pace
end
section
set_option Elab.async false
set_option linter.all false
set_option maxRecDepth 100000
set_option maxHeartbeats 4000000
namespace Pace
open PySem PySem.Spec PyProof.Rows L2 DL
theorem _root_.DL.Sub.no {G G' : GH} (s : Sub G G') {p : Addr} (h : G' p = none) : G p = none := by
  cases q : G p with
  | none => rfl
  | some o => rw [s.le p o q] at h; cases h
theorem inn_dK (n : Nat) (kds : List (Key × D)) : D.inn (.int (n : Int)) (.dK kds) = some (valD kds (.inl (n : Int))).isSome := rfl
theorem cur_l {G : GH} {p : Addr} {xs : List D} (h : G p = some (.lst xs)) : D.cur G (.rf p) = .lst xs := by unfold D.cur; simp only [h]
end Pace
end
section
set_option Elab.async false
set_option linter.all false
set_option maxRecDepth 100000
set_option maxHeartbeats 4000000
namespace Pace
open PySem PySem.Spec PyProof.Rows L2 DL
/-- all moves, one behind the other -/
def flatM (rs : List (List Mv)) : List (Nat × Mv) := (List.range rs.length).flatMap fun s => (rs.getD s []).map fun m => (s, m)
/-- rules that can be written -/
structure Wri (hs ws : List Nat) (rs : List (List Mv)) : Prop where
  val : RulV hs ws rs
  few : (flatM rs).length ≤ 5000
theorem flat_mem {rs : List (List Mv)} {x : Nat × Mv} (h : x ∈ flatM rs) : x.1 < rs.length ∧ ∃ r ∈ rs, x.2 ∈ r := by
  obtain ⟨s, hs, hx⟩ := List.mem_flatMap.mp h
  obtain ⟨m, hm, rfl⟩ := List.mem_map.mp hx
  have hs := List.mem_range.mp hs
  refine ⟨hs, rs[s], List.getElem_mem hs, ?_⟩
  rwa [List.getD_eq_getElem?_getD, List.getElem?_eq_getElem hs] at hm
structure MvP (hs ws : List Nat) (n : Nat) (x : Nat × Mv) : Prop where
  s : x.1 < n
  h : x.2.h ∈ hs
  c : x.2.c ∈ ws
  t : x.2.t < n
theorem Wri.mv {hs ws : List Nat} {rs : List (List Mv)} (w : Wri hs ws rs) : ∀ x ∈ flatM rs, MvP hs ws rs.length x := fun x hx => by
  obtain ⟨h1, r, hr, hm⟩ := flat_mem hx
  have := (w.val.row r hr).1
  unfold rowB at this
  simp only [Bool.and_eq_true, List.all_eq_true] at this
  have := this.1 _ hm
  unfold mvB at this
  simp only [Bool.and_eq_true, decide_eq_true_eq] at this
  exact ⟨h1, this.1.1, this.1.2, this.2⟩
end Pace
end
section
set_option Elab.async false
set_option linter.all false
set_option maxRecDepth 100000
set_option maxHeartbeats 4000000
namespace Pace
open PySem PySem.Spec PyProof.Rows L2 DL
/-- the same rows, each in any order -/
structure RP (B A : Rows) : Prop where
  len : B.length = A.length
  pm : ∀ s, (rowS B s).Perm (rowS A s)
theorem RP.refl (A : Rows) : RP A A := ⟨rfl, fun _ => .refl _⟩
theorem RP.lt {B A : Rows} (h : RP B A) {s : Nat} (hs : s < A.length) : s < B.length := by rw [h.len]; exact hs
theorem mv_key_inj {r : List Mv} (pw : r.Pairwise fun a b => mvLt a b = true) {a b : Mv} (ha : a ∈ r) (hb : b ∈ r) (h : a.h = b.h) (c : a.c = b.c) : a = b := by
  have irr : ∀ x y : Mv, x.h = y.h → x.c = y.c → ¬ mvLt x y = true := fun x y e1 e2 z => by
    unfold mvLt at z
    rw [decide_eq_true_eq] at z
    omega
  induction r with
  | nil => cases ha
  | cons x r ih =>
    rw [List.pairwise_cons] at pw
    rcases List.mem_cons.mp ha with e1 | h1
    · rcases List.mem_cons.mp hb with e2 | h2
      · rw [e1, e2]
      · rw [e1] at h c
        exact absurd (pw.1 b h2) (irr _ _ h c)
    · rcases List.mem_cons.mp hb with e2 | h2
      · rw [e2] at h c
        exact absurd (pw.1 a h1) (irr _ _ h.symm c.symm)
      · exact ih pw.2 h1 h2
end Pace
end
section
set_option Elab.async false
set_option linter.all false
set_option maxRecDepth 100000
set_option maxHeartbeats 4000000
namespace Pace
open PySem PySem.Spec PyProof.Rows L2 DL
abbrev Ky := Nat × Nat
def kLt (a b : Ky) : Bool := decide (a.1 < b.1 ∨ (a.1 = b.1 ∧ a.2 < b.2))
theorem step1_some {A : Rows} {s : Nat} {k : Ky} : (step1 A s k.1 k.2).isSome = true ↔ k ∈ (rowS A s).map fun m => (m.h, m.c) := by
  show (((rowS A s).find? fun m => m.h == k.1 && m.c == k.2).map (·.t)).isSome = true ↔ _
  rw [Option.isSome_map, List.find?_isSome, List.mem_map]
  simp only [Bool.and_eq_true, beq_iff_eq]
  exact ⟨fun ⟨m, hm, h1, h2⟩ => ⟨m, hm, Prod.ext h1 h2⟩, fun ⟨m, hm, e⟩ => ⟨m, hm, by rw [← e], by rw [← e]⟩⟩
abbrev Trail := (Nat × Nat) × List Ky
/-- as far as the search has come -/
structure TrI (A B : Rows) (L : List Trail) (n : Nat) : Prop where
  nd : (L.map (·.1)).Nodup
  zero : L[0]? = some ((0, 0), [])
  led : ∀ x ∈ L, ledN A 0 x.2 = some x.1.1 ∧ ledN B 0 x.2 = some x.1.2
  cl : ∀ (i : Nat) x, i < n → L[i]? = some x → ∀ (k : Ky) (s t : Nat), step1 A x.1.1 k.1 k.2 = some s → step1 B x.1.2 k.1 k.2 = some t → (s, t) ∈ L.map (·.1)
  le : n ≤ L.length
  ln : ∀ (i : Nat) x, L[i]? = some x → x.2.length ≤ i
theorem TrI.lt {A B : Rows} {L : List Trail} {n : Nat} (h : TrI A B L n) (sa : Steps A) (sb : Steps B) {x : Trail} (hx : x ∈ L) : x.1.1 < A.length ∧ x.1.2 < B.length := by
  obtain ⟨h1, h2⟩ := h.led x hx
  exact ⟨ledN_lt sa.cl.2 sa.cl.1 _ h1, ledN_lt sb.cl.2 sb.cl.1 _ h2⟩
theorem TrI.few {A B : Rows} {L : List Trail} {n : Nat} (h : TrI A B L n) (sa : Steps A) (sb : Steps B) : L.length ≤ A.length * B.length := by
  have := List.Nodup.length_le_of_subset h.nd (l₂ := (List.range A.length).flatMap fun x => (List.range B.length).map fun y => (x, y)) fun p hp => by
    obtain ⟨x, hx, rfl⟩ := List.mem_map.mp hp
    obtain ⟨h1, h2⟩ := h.lt sa sb hx
    exact List.mem_flatMap.mpr ⟨x.1.1, List.mem_range.mpr h1, List.mem_map.mpr ⟨x.1.2, List.mem_range.mpr h2, rfl⟩⟩
  rw [List.length_map, prod_len, List.length_range, List.length_range] at this
  exact this
theorem TrI.add {A B : Rows} {L : List Trail} {n : Nat} (h : TrI A B L n) {i : Nat} {x : Trail} (hx : L[i]? = some x) {k : Ky} {s t : Nat} (hs : step1 A x.1.1 k.1 k.2 = some s) (ht : step1 B x.1.2 k.1 k.2 = some t) (hn : (s, t) ∉ L.map (·.1)) :
    TrI A B (L ++ [((s, t), x.2 ++ [k])]) n where
  nd := by
    rw [List.map_append, List.nodup_append]
    refine ⟨h.nd, by simp, fun a h1 b h2 e => hn ?_⟩
    rw [List.map_cons, List.map_nil, List.mem_singleton] at h2
    rw [e, h2] at h1
    exact h1
  zero := by rw [List.getElem?_append_left (List.getElem?_eq_some_iff.mp h.zero).1]; exact h.zero
  led := fun y hy => by
    rcases List.mem_append.mp hy with hy | hy
    · exact h.led y hy
    · rw [List.mem_singleton.mp hy]
      obtain ⟨h1, h2⟩ := h.led x (List.mem_of_getElem? hx)
      exact ⟨by rw [ledN_snoc, h1]; exact hs, by rw [ledN_snoc, h2]; exact ht⟩
  cl := fun j y hj hy k s t h1 h2 => by
    rw [List.getElem?_append_left (by have := h.le; omega)] at hy
    rw [List.map_append]
    exact List.mem_append_left _ (h.cl j y hj hy k s t h1 h2)
  le := by have := h.le; simp; omega
  ln := fun j y hy => by
    by_cases hj : j < L.length
    · rw [List.getElem?_append_left hj] at hy
      exact h.ln j y hy
    · have hj2 := (List.getElem?_eq_some_iff.mp hy).1
      rw [List.length_append] at hj2
      have ej : j = L.length := by simp at hj2; omega
      subst ej
      rw [List.getElem?_append_right (Nat.le_refl _), Nat.sub_self] at hy
      cases hy
      have := h.ln i x hx
      have := (List.getElem?_eq_some_iff.mp hx).1
      rw [List.length_append, List.length_singleton]
      omega
end Pace
end
section
set_option Elab.async false
set_option linter.all false
set_option maxRecDepth 100000
set_option maxHeartbeats 4000000
namespace DL
open PySem PySem.Spec PyProof.Rows L2
end DL
end
section
set_option Elab.async false
set_option linter.all false
set_option maxRecDepth 100000
set_option maxHeartbeats 4000000
namespace Pace
open PySem PySem.Spec PyProof.Rows L2 DL
/-- a move, by its letters -/
theorem step1_iff {A : Rows} (st : Steps A) {s h c t : Nat} : step1 A s h c = some t ↔ ⟨h, c, t⟩ ∈ rowS A s := by
  show ((rowS A s).find? fun m => m.h == h && m.c == c).map (·.t) = some t ↔ _
  have pw := (st.row s).1
  constructor
  · intro e
    obtain ⟨m, hm, rfl⟩ := Option.map_eq_some_iff.mp e
    have h1 := List.find?_some hm
    have h2 := List.mem_of_find?_eq_some hm
    simp only [Bool.and_eq_true, beq_iff_eq] at h1
    obtain ⟨rfl, rfl⟩ := h1
    exact h2
  · intro hm
    cases e : (rowS A s).find? fun m => m.h == h && m.c == c with
    | none =>
      have := List.find?_eq_none.mp e _ hm
      simp at this
    | some m =>
      have h1 := List.find?_some e
      have h2 := List.mem_of_find?_eq_some e
      simp only [Bool.and_eq_true, beq_iff_eq] at h1
      have := mv_key_inj pw h2 hm h1.1 h1.2
      subst this
      rfl
/-- words, letter by letter -/
theorem ledN_step {A : Rows} {s : Nat} (k : Ky) (w : List Ky) : ledN A s (k :: w) = (step1 A s k.1 k.2).bind fun x => ledN A x w := by
  show List.foldl _ ((some s).bind fun s => step1 A s k.1 k.2) w = _
  rw [Option.bind_some]
  cases step1 A s k.1 k.2 with
  | none => exact foldl_none w
  | some x => rfl
end Pace
end
section
set_option Elab.async false
set_option linter.all false
set_option maxRecDepth 100000
set_option maxHeartbeats 4000000
namespace DL
open PySem PySem.Spec PyProof.Rows L2
end DL
end
section
set_option Elab.async false
set_option linter.all false
set_option maxRecDepth 100000
set_option maxHeartbeats 4000000
namespace Pace
open PySem PySem.Spec PyProof.Rows L2 DL
theorem isN_f {α : Type} {o : Option α} : o.isNone = false ↔ o.isSome = true := by cases o <;> simp
theorem isN_n {α : Type} {o : Option α} : (¬ o.isNone = true) ↔ o.isSome = true := by cases o <;> simp
def ledS (A : Rows) (ss : List Nat) (k : Ky) : List Nat := nsort (firstsF (ss.flatMap fun s => ((rowS A s).filter fun m => m.h == k.1 && m.c == k.2).map (·.t)))
theorem ledS_mem {A : Rows} (st : Steps A) {ss : List Nat} {k : Ky} {t : Nat} : t ∈ ledS A ss k ↔ ∃ s ∈ ss, step1 A s k.1 k.2 = some t := by
  unfold ledS
  rw [(nsort_perm _).mem_iff, firstsF_mem, List.mem_flatMap]
  constructor
  · rintro ⟨s, hs, h⟩
    obtain ⟨m, hm, rfl⟩ := List.mem_map.mp h
    rw [List.mem_filter] at hm
    obtain ⟨h1, h2⟩ := hm
    simp only [Bool.and_eq_true, beq_iff_eq] at h2
    refine ⟨s, hs, (step1_iff st).mpr ?_⟩
    rw [← h2.1, ← h2.2]
    exact h1
  · rintro ⟨s, hs, h⟩
    exact ⟨s, hs, List.mem_map.mpr ⟨_, List.mem_filter.mpr ⟨(step1_iff st).mp h, by simp⟩, rfl⟩⟩
def ledW (A : Rows) (ss : List Nat) (w : List Ky) : List Nat := w.foldl (ledS A) ss
theorem ledW_snoc (A : Rows) (ss : List Nat) (w : List Ky) (k : Ky) : ledW A ss (w ++ [k]) = ledS A (ledW A ss w) k := by simp [ledW]
theorem ledW_mem {A : Rows} (st : Steps A) {ss : List Nat} (w : List Ky) : ∀ {t : Nat}, t ∈ ledW A ss w ↔ ∃ s ∈ ss, ledN A s w = some t := by
  induction w using snoc_ind with
  | nil => intro t; simp [ledW, ledN]
  | snoc w k ih =>
    intro t
    rw [ledW_snoc, ledS_mem st]
    constructor
    · rintro ⟨u, hu, h⟩
      obtain ⟨s, hs, h2⟩ := ih.mp hu
      exact ⟨s, hs, by rw [ledN_snoc, h2]; exact h⟩
    · rintro ⟨s, hs, h⟩
      rw [ledN_snoc] at h
      obtain ⟨u, hu, h⟩ := Option.bind_eq_some_iff.mp h
      exact ⟨u, ih.mpr ⟨s, hs, hu⟩, h⟩
theorem ledW_nil {A : Rows} (st : Steps A) {ss : List Nat} (w : List Ky) : ledW A ss w = [] ↔ ∀ s ∈ ss, ledN A s w = none := by
  rw [List.eq_nil_iff_forall_not_mem]
  constructor
  · intro h s hs
    cases e : ledN A s w with
    | none => rfl
    | some t => exact absurd ((ledW_mem st w).mpr ⟨s, hs, e⟩) (h t)
  · intro h t ht
    obtain ⟨s, hs, e⟩ := (ledW_mem st w).mp ht
    rw [h s hs] at e
    cases e
inductive Reach (A : Rows) : Nat → Prop
  | one {m : Mv} : m ∈ rowS A 0 → Reach A m.t
  | more {s : Nat} {m : Mv} : Reach A s → m ∈ rowS A s → Reach A m.t
structure Inn (A : Rows) (l : List Nat) : Prop where
  so : l.Pairwise (· < ·)
  mem : ∀ t, t ∈ l ↔ Reach A t
theorem Inn.uniq {A : Rows} {a b : List Nat} (ha : Inn A a) (hb : Inn A b) : a = b := by
  refine List.Perm.eq_of_pairwise (le := (· < ·)) (fun x y _ _ h1 h2 => by omega) ha.so hb.so ?_
  refine (List.perm_ext_iff_of_nodup (ha.so.imp fun h => by omega) (hb.so.imp fun h => by omega)).mpr fun t => by rw [ha.mem, hb.mem]
theorem Reach.lt {A : Rows} (st : Steps A) {t : Nat} (h : Reach A t) : t < A.length := by
  cases h with
  | one h => exact st.cl.t h
  | more _ h => exact st.cl.t h
theorem Inn.lt {A : Rows} (st : Steps A) {l : List Nat} (h : Inn A l) : ∀ t ∈ l, t < A.length := fun t ht => ((h.mem t).mp ht).lt st
theorem Inn.nd {A : Rows} {l : List Nat} (h : Inn A l) : l.Nodup := h.so.imp fun h => by omega
/-- the window that ends at k is not led -/
def bad (A : Rows) (inn : List Nat) (n : Nat) (ps : List Ky) (k : Nat) : Bool :=
  if k ≤ n then (ledN A 0 (ps.take k)).isNone else inn.all fun s => (ledN A s ((ps.take k).drop (k - n))).isNone
theorem bad_zero {A : Rows} {inn : List Nat} {n : Nat} {ps : List Ky} : bad A inn n ps 0 = false := by simp [bad, ledN]
end Pace
end
section
set_option Elab.async false
set_option linter.all false
set_option maxRecDepth 100000
set_option maxHeartbeats 4000000
namespace DL
open PySem PySem.Spec PyProof.Rows L2
end DL
end
section
set_option Elab.async false
set_option linter.all false
set_option maxRecDepth 100000
set_option maxHeartbeats 4000000
namespace Pace
open PySem PySem.Spec PyProof.Rows L2 DL
structure GoOk (hs ws : List Nat) (n : Nat) (lot : Lot) : Prop where
  ok : LotOk n hs ws lot
  lh : lettersB hs = true
  lw : lettersB ws = true
  h3 : hs.length ≤ 3
  w3 : ws.length ≤ 3
  n1 : 1 ≤ n
  n6 : n ≤ 6
theorem GoOk.v {hs ws : List Nat} {n : Nat} {lot : Lot} (g : GoOk hs ws n lot) : RulV hs ws (rowsOf lot n) where
  lh := g.lh
  lw := g.lw
  sh := by have := g.h3; omega
  sw := by have := g.w3; omega
  n1 := by rw [rowsOf_len]; exact g.n1
  n2 := by have := g.n6; rw [rowsOf_len]; omega
  row := fun r hr => by
    obtain ⟨s, _, rfl⟩ := List.mem_map.mp hr
    have h6 := row_few g.ok s
    have h7 : hs.length * ws.length ≤ 3 * 3 := Nat.mul_le_mul g.h3 g.w3
    refine ⟨?_, by omega⟩
    rw [rowsOf_len]
    unfold rowB
    rw [Bool.and_eq_true, List.all_eq_true]
    refine ⟨fun m hm => ?_, nbr_of_pair (rowOf_lt g.ok.nd s)⟩
    obtain ⟨_, a, b, c⟩ := g.ok.at_ _ (rowOf_mem.mp hm)
    unfold mvB
    simp [a, b, c]
theorem GoOk.st {hs ws : List Nat} {n : Nat} {lot : Lot} (g : GoOk hs ws n lot) : Steps (rowsOf lot n) := g.v.steps
theorem GoOk.few {hs ws : List Nat} {n : Nat} {lot : Lot} (g : GoOk hs ws n lot) : lot.length ≤ 54 := by
  have h9 := lot_few g.ok
  have h7 : hs.length * ws.length ≤ 3 * 3 := Nat.mul_le_mul g.h3 g.w3
  have h8 : n * (hs.length * ws.length) ≤ 6 * (3 * 3) := Nat.mul_le_mul g.n6 h7
  omega
def knSets (A : Rows) (inn : List Nat) (n : Nat) (ps : List Ky) : List (List Nat) := (List.range (min ps.length (n - 1))).map fun j => ledW A inn (ps.drop (ps.length - (j + 1)))
def knLots (A : Rows) (inn : List Nat) (n : Nat) (ps : List Ky) : List (List Nat) := (List.range (min ps.length (n - 1) + 1)).map fun j => ledW A inn (ps.drop (ps.length - j))
theorem knLots_eq (A : Rows) (inn : List Nat) (n : Nat) (ps : List Ky) : inn :: knSets A inn n ps = knLots A inn n ps := by
  unfold knLots knSets
  rw [List.range_succ_eq_map, List.map_cons, List.map_map]
  congr 1
  simp [ledW]
theorem knLots_led (A : Rows) (inn : List Nat) (n : Nat) (ps : List Ky) (k : Ky) : ((knLots A inn n ps).map fun l => ledS A l k) = (List.range (min ps.length (n - 1) + 1)).map fun j => ledW A inn ((ps ++ [k]).drop (ps.length - j)) := by
  unfold knLots
  rw [List.map_map]
  refine List.map_congr_left fun j _ => ?_
  simp only [Function.comp]
  rw [← ledW_snoc, List.drop_append_of_le_length (by omega)]
theorem knLots_next {A : Rows} {inn : List Nat} {n : Nat} (ps : List Ky) (k : Ky) : ((knLots A inn n ps).map fun l => ledS A l k).take (n - 1) = knSets A inn n (ps ++ [k]) := by
  rw [knLots_led, ← List.map_take, List.take_range]
  unfold knSets
  have e : min (n - 1) (min ps.length (n - 1) + 1) = min (ps ++ [k]).length (n - 1) := by simp; omega
  rw [e]
  refine List.map_congr_left fun j _ => ?_
  have : (ps ++ [k]).length - (j + 1) = ps.length - j := by simp
  rw [this]
theorem knLots_last {A : Rows} {inn : List Nat} {n : Nat} (hn : 1 ≤ n) (ps : List Ky) (k : Ky) (h : n ≤ ps.length) : ((knLots A inn n ps).map fun l => ledS A l k)[(knLots A inn n ps).length - 1]? = some (ledW A inn ((ps ++ [k]).drop (ps.length + 1 - n))) := by
  have el : (knLots A inn n ps).length - 1 = n - 1 := by unfold knLots; simp; omega
  rw [el, knLots_led, List.getElem?_map, List.getElem?_range (by omega)]
  have : ps.length - (n - 1) = ps.length + 1 - n := by omega
  simp only [Option.map_some, this]
end Pace
end
section
set_option Elab.async false
set_option linter.all false
set_option maxRecDepth 100000
set_option maxHeartbeats 4000000
namespace Pace
open PySem PySem.Spec PyProof.Rows L2 DL
theorem cut_mid {α : Type} (xs : List α) (a b : Nat) : DL.cutD xs (some (a : Int)) (some (b : Int)) = (xs.take b).drop a := by
  unfold DL.cutD
  rw [HT.sIx_nat, HT.sIx_nat, List.drop_take]
  by_cases h : a ≤ xs.length
  · rw [Nat.min_eq_left h]
    by_cases h2 : b ≤ xs.length
    · rw [Nat.min_eq_left h2]
    · rw [Nat.min_eq_right (by omega), List.take_of_length_le (by simp), List.take_of_length_le (by simp; omega)]
  · have e1 : min a xs.length = xs.length := Nat.min_eq_right (by omega)
    rw [e1, List.drop_of_length_le (l := xs) (i := a) (by omega), List.drop_of_length_le (l := xs) (i := xs.length) (Nat.le_refl _)]
    simp
theorem bad_pre {A : Rows} {inn : List Nat} {n k : Nat} {ps : List Ky} (h : k ≤ n) : bad A inn n ps k = (ledN A 0 (ps.take k)).isNone := by
  unfold bad
  rw [if_pos h]
end Pace
end
section
set_option Elab.async false
set_option linter.all false
set_option maxRecDepth 100000
set_option maxHeartbeats 4000000
namespace Pace
open PySem PySem.Spec PyProof.Rows L2 DL
abbrev Cost := Option Nat
def lessO : Cost → Cost → Cost
  | none, b => b
  | some a, none => some a
  | some a, some b => some (min a b)
def b2n (b : Bool) : Nat := if b then 1 else 0
def rbMv (h c x : Nat) (f : List Cost) (m : Mv) : List Cost := if m.h = h then f.set m.t (lessO (f.getD m.t none) (some (x + b2n (decide (m.c ≠ c))))) else f
def rbSt (A : Rows) (h c : Nat) (f : List Cost) (s : Nat) : Cost → List Cost
  | none => f
  | some x => (rowS A s).foldl (rbMv h c x) f
def rbAll (A : Rows) (row : List Cost) (h c : Nat) : Nat → List Cost
  | 0 => List.replicate row.length none
  | j + 1 => rbSt A h c (rbAll A row h c j) j (row.getD j none)
def rowNx (A : Rows) (row : List Cost) (k : Ky) : List Cost := rbAll A row k.1 k.2 row.length
theorem rbMv_len (h c x : Nat) (f : List Cost) (m : Mv) : (rbMv h c x f m).length = f.length := by
  unfold rbMv
  split <;> simp
theorem rbFold_len (h c x : Nat) (ms : List Mv) : ∀ f : List Cost, (ms.foldl (rbMv h c x) f).length = f.length := by
  induction ms with
  | nil => intro f; rfl
  | cons m ms ih => intro f; rw [List.foldl_cons, ih, rbMv_len]
theorem rbSt_len (A : Rows) (h c : Nat) (f : List Cost) (s : Nat) (o : Cost) : (rbSt A h c f s o).length = f.length := by
  cases o with
  | none => rfl
  | some x => exact rbFold_len h c x _ f
theorem rbAll_len (A : Rows) (row : List Cost) (h c : Nat) : ∀ j, (rbAll A row h c j).length = row.length
  | 0 => by simp [rbAll]
  | j + 1 => by rw [rbAll, rbSt_len, rbAll_len A row h c j]
theorem rowNx_len (A : Rows) (row : List Cost) (k : Ky) : (rowNx A row k).length = row.length := rbAll_len A row _ _ _
theorem take_step {α : Type} {l : List α} {i : Nat} {k : α} (h : l[i]? = some k) : l.take (i + 1) = l.take i ++ [k] := by rw [List.take_add_one, h]; rfl
theorem sgn_eqv (a b : Nat) : D.eqv (.str (sgn a)) (.str (sgn b)) = decide (a = b) := by
  rw [Bool.eq_iff_iff, eqv_si rfl rfl, decide_eq_true_eq]
  exact ⟨fun e => sgn_inj (D.str.inj e), fun e => by rw [e]⟩
theorem sgn_okE (a b : Nat) : okE (.str (sgn a)) (.str (sgn b)) = true := okE_si rfl rfl (Nat.zero_le _)
end Pace
end
section
set_option Elab.async false
set_option linter.all false
set_option maxRecDepth 100000
set_option maxHeartbeats 4000000
namespace Pace
open PySem PySem.Spec PyProof.Rows L2 DL
def IsMin (o : Cost) (S : Nat → Prop) : Prop := match o with
  | none => ∀ n, ¬ S n
  | some m => S m ∧ ∀ n, S n → m ≤ n
theorem IsMin.uniq {a b : Cost} {S : Nat → Prop} (h : IsMin a S) (g : IsMin b S) : a = b := by
  cases a with
  | none => cases b with
    | none => rfl
    | some m => exact absurd g.1 (h m)
  | some m => cases b with
    | none => exact absurd h.1 (g m)
    | some n => rw [show m = n from Nat.le_antisymm (h.2 n g.1) (g.2 m h.1)]
theorem IsMin.congr {a : Cost} {S T : Nat → Prop} (h : IsMin a S) (e : ∀ n, S n ↔ T n) : IsMin a T := by
  have : S = T := funext fun n => propext (e n)
  rw [← this]; exact h
theorem IsMin.less {a b : Cost} {S T : Nat → Prop} (h : IsMin a S) (g : IsMin b T) : IsMin (lessO a b) fun n => S n ∨ T n := by
  cases a with
  | none => exact g.congr fun n => ⟨.inr, fun z => z.resolve_left (h n)⟩
  | some m => cases b with
    | none => exact h.congr fun n => ⟨.inl, fun z => z.resolve_right (g n)⟩
    | some k =>
      refine ⟨?_, fun n z => ?_⟩
      · show S (min m k) ∨ T (min m k)
        rcases Nat.le_total m k with l | l
        · rw [Nat.min_eq_left l]; exact .inl h.1
        · rw [Nat.min_eq_right l]; exact .inr g.1
      · show min m k ≤ n
        rcases z with z | z
        · exact Nat.le_trans (Nat.min_le_left _ _) (h.2 n z)
        · exact Nat.le_trans (Nat.min_le_right _ _) (g.2 n z)
theorem isMin_one (x : Nat) : IsMin (some x) fun n => n = x := ⟨rfl, fun n e => Nat.le_of_eq e.symm⟩
theorem rbMv_at {h c x : Nat} {f : List Cost} {m : Mv} {t : Nat} (ht : t < f.length) {S : Nat → Prop} (hf : IsMin (f.getD t none) S) :
    IsMin ((rbMv h c x f m).getD t none) fun n => S n ∨ (m.h = h ∧ m.t = t ∧ n = x + b2n (decide (m.c ≠ c))) := by
  unfold rbMv
  by_cases e : m.h = h
  · rw [if_pos e]
    by_cases et : m.t = t
    · subst et
      have : (f.set m.t (lessO (f.getD m.t none) (some (x + b2n (decide (m.c ≠ c)))))).getD m.t none = lessO (f.getD m.t none) (some (x + b2n (decide (m.c ≠ c)))) := by
        rw [List.getD_eq_getElem?_getD, List.getElem?_set_self ht]
        rfl
      rw [this]
      exact (hf.less (isMin_one _)).congr fun n => by simp [e]
    · have : (f.set m.t (lessO (f.getD m.t none) (some (x + b2n (decide (m.c ≠ c)))))).getD t none = f.getD t none := by
        rw [List.getD_eq_getElem?_getD, List.getElem?_set_ne et, ← List.getD_eq_getElem?_getD]
      rw [this]
      exact hf.congr fun n => by simp [et]
  · rw [if_neg e]
    exact hf.congr fun n => by simp [e]
theorem rbFold_at {h c x : Nat} {t : Nat} : ∀ (ms : List Mv) (f : List Cost) (S : Nat → Prop), t < f.length → IsMin (f.getD t none) S →
    IsMin ((ms.foldl (rbMv h c x) f).getD t none) fun n => S n ∨ ∃ m ∈ ms, m.h = h ∧ m.t = t ∧ n = x + b2n (decide (m.c ≠ c))
  | [], f, S, _, hf => hf.congr fun n => by simp
  | m :: ms, f, S, ht, hf => by
    rw [List.foldl_cons]
    refine (rbFold_at ms _ _ (by rw [rbMv_len]; exact ht) (rbMv_at ht hf)).congr fun n => ?_
    constructor
    · rintro ((z | z) | ⟨m', hm, z⟩)
      · exact .inl z
      · exact .inr ⟨m, by simp, z⟩
      · exact .inr ⟨m', by simp [hm], z⟩
    · rintro (z | ⟨m', hm, z⟩)
      · exact .inl (.inl z)
      · rcases List.mem_cons.mp hm with rfl | hm
        · exact .inl (.inr z)
        · exact .inr ⟨m', hm, z⟩
/-- what a step may cost -/
def StepC (A : Rows) (row : List Cost) (k : Ky) (t n : Nat) : Prop := ∃ s x m, row.getD s none = some x ∧ s < row.length ∧ m ∈ rowS A s ∧ m.h = k.1 ∧ m.t = t ∧ n = x + b2n (decide (m.c ≠ k.2))
theorem rbAll_at {A : Rows} {row : List Cost} {h c t : Nat} (ht : t < row.length) : ∀ j, j ≤ row.length →
    IsMin ((rbAll A row h c j).getD t none) fun n => ∃ s x m, s < j ∧ row.getD s none = some x ∧ m ∈ rowS A s ∧ m.h = h ∧ m.t = t ∧ n = x + b2n (decide (m.c ≠ c))
  | 0, _ => by
    have : (rbAll A row h c 0).getD t none = none := by
      unfold rbAll
      rw [List.getD_eq_getElem?_getD, List.getElem?_replicate]
      split <;> rfl
    rw [this]
    rintro n ⟨s, x, m, z, _⟩
    omega
  | j + 1, hj => by
    have ih := rbAll_at (A := A) (h := h) (c := c) ht j (by omega)
    rw [rbAll]
    cases e : row.getD j none with
    | none =>
      refine ih.congr fun n => ⟨fun ⟨s, x, m, z1, z⟩ => ⟨s, x, m, by omega, z⟩, fun ⟨s, x, m, z1, z2, z⟩ => ?_⟩
      have : s ≠ j := fun q => by rw [q, e] at z2; cases z2
      exact ⟨s, x, m, by omega, z2, z⟩
    | some x =>
      refine (rbFold_at (rowS A j) _ _ (by rw [rbAll_len]; exact ht) ih).congr fun n => ?_
      constructor
      · rintro (⟨s, y, m, z1, z⟩ | ⟨m, hm, z⟩)
        · exact ⟨s, y, m, by omega, z⟩
        · exact ⟨j, x, m, by omega, e, hm, z⟩
      · rintro ⟨s, y, m, z1, z2, z3, z⟩
        by_cases q : s = j
        · subst q
          rw [e] at z2
          cases z2
          exact .inr ⟨m, z3, z⟩
        · exact .inl ⟨s, y, m, by omega, z2, z3, z⟩
theorem rowNx_min {A : Rows} {row : List Cost} {k : Ky} {t : Nat} (ht : t < row.length) : IsMin ((rowNx A row k).getD t none) (StepC A row k t) :=
  (rbAll_at ht row.length (Nat.le_refl _)).congr fun n => ⟨fun ⟨s, x, m, h1, h2, h⟩ => ⟨s, x, m, h2, h1, h⟩, fun ⟨s, x, m, h2, h1, h⟩ => ⟨s, x, m, h1, h2, h⟩⟩
end Pace
end
section
set_option Elab.async false
set_option linter.all false
set_option maxRecDepth 100000
set_option maxHeartbeats 4000000
namespace Pace
open PySem PySem.Spec PyProof.Rows L2 DL
structure KS where
  many : Nat
  st : Option Nat
  sets : List (List Nat)
  deriving DecidableEq
def ksOf (A : Rows) (inn : List Nat) (n : Nat) (ps : List Ky) : KS := ⟨min ps.length n, if ps.length < n then ledN A 0 ps else none, knSets A inn n ps⟩
/-- no window has been bad -/
def okW (A : Rows) (inn : List Nat) (n : Nat) (w : List Ky) : Prop := ∀ j, j ≤ w.length → bad A inn n w j = false
theorem bad_cut {A : Rows} {inn : List Nat} {n j : Nat} {w v : List Ky} (h : j ≤ w.length) : bad A inn n (w ++ v) j = bad A inn n w j := by
  unfold bad
  rw [List.take_append_of_le_length h]
theorem okW_snoc {A : Rows} {inn : List Nat} {n : Nat} {w : List Ky} {k : Ky} : okW A inn n (w ++ [k]) ↔ okW A inn n w ∧ bad A inn n (w ++ [k]) (w.length + 1) = false := by
  constructor
  · intro h
    exact ⟨fun j hj => by rw [← bad_cut (v := [k]) hj]; exact h j (by simp; omega), h _ (by simp)⟩
  · rintro ⟨h1, h2⟩ j hj
    simp only [List.length_append, List.length_cons, List.length_nil] at hj
    by_cases e : j ≤ w.length
    · rw [bad_cut e]; exact h1 j e
    · have : j = w.length + 1 := by omega
      rw [this]; exact h2
theorem okW_nil {A : Rows} {inn : List Nat} {n : Nat} : okW A inn n [] := fun j hj => by rw [Nat.le_zero.mp hj]; exact bad_zero
def nextK (A : Rows) (inn : List Nat) (n : Nat) (x : KS) (k : Ky) : Option KS :=
  if x.many < n then (x.st.bind fun s => step1 A s k.1 k.2).map fun t => ⟨x.many + 1, if x.many + 1 < n then some t else none, ((inn :: x.sets).map fun l => ledS A l k).take (n - 1)⟩
  else if (((inn :: x.sets).map fun l => ledS A l k)[(inn :: x.sets).length - 1]?).getD [] = [] then none else some ⟨x.many, none, ((inn :: x.sets).map fun l => ledS A l k).take (n - 1)⟩
theorem next_eq {A : Rows} (st : Steps A) {inn : List Nat} {n : Nat} (hn : 1 ≤ n) {w : List Ky} (k : Ky) (hw : okW A inn n w) : nextK A inn n (ksOf A inn n w) k = if bad A inn n (w ++ [k]) (w.length + 1) = true then none else some (ksOf A inn n (w ++ [k])) := by
  have epl : (w ++ [k]).take (w.length + 1) = w ++ [k] := List.take_of_length_le (by simp)
  have es : inn :: (ksOf A inn n w).sets = knLots A inn n w := knLots_eq A inn n w
  unfold nextK
  rw [es, knLots_next]
  have el : (w ++ [k]).length = w.length + 1 := by simp
  by_cases h : w.length < n
  · have em : (ksOf A inn n w).many = w.length := by show min _ _ = _; omega
    have e2 : (ksOf A inn n w).st = ledN A 0 w := by show (if _ then _ else _) = _; rw [if_pos h]
    have eb : bad A inn n (w ++ [k]) (w.length + 1) = (ledN A 0 (w ++ [k])).isNone := by rw [bad_pre (by omega), epl]
    rw [em, if_pos h, e2, eb, ledN_snoc]
    cases e : (ledN A 0 w).bind fun s => step1 A s k.1 k.2 with
    | none => rfl
    | some t =>
      rw [if_neg (by simp)]
      simp only [Option.map_some, Option.some.injEq]
      unfold ksOf
      rw [el, ledN_snoc, e]
      have : min (w.length + 1) n = w.length + 1 := by omega
      rw [this]
  · have em : (ksOf A inn n w).many = n := by show min _ _ = _; omega
    rw [em, if_neg (by omega), knLots_last hn w k (by omega)]
    have eb : bad A inn n (w ++ [k]) (w.length + 1) = decide (ledW A inn ((w ++ [k]).drop (w.length + 1 - n)) = []) := by
      unfold bad
      rw [if_neg (by omega), epl, Bool.eq_iff_iff, List.all_eq_true, decide_eq_true_eq, ledW_nil st]
      simp only [Option.isNone_iff_eq_none]
    rw [eb]
    simp only [Option.getD_some, decide_eq_true_eq]
    split
    · rfl
    · unfold ksOf
      rw [el]
      have : min (w.length + 1) n = n := by omega
      rw [this, if_neg (by omega)]
theorem next_some {A : Rows} (st : Steps A) {inn : List Nat} {n : Nat} (hn : 1 ≤ n) {w v : List Ky} (k : Ky) (hw : okW A inn n w) (hv : okW A inn n v) (e : ksOf A inn n w = ksOf A inn n v) : (okW A inn n (w ++ [k]) ↔ okW A inn n (v ++ [k])) ∧ (okW A inn n (w ++ [k]) → ksOf A inn n (w ++ [k]) = ksOf A inn n (v ++ [k])) := by
  have h1 := next_eq st hn k hw
  have h2 := next_eq st hn k hv
  rw [e, h2] at h1
  rw [okW_snoc, okW_snoc]
  generalize bad A inn n (w ++ [k]) (w.length + 1) = bw at h1 ⊢
  generalize bad A inn n (v ++ [k]) (v.length + 1) = bv at h1 ⊢
  cases bw with
  | true =>
    cases bv with
    | true => exact ⟨⟨fun z => (nomatch z.2), fun z => (nomatch z.2)⟩, fun z => nomatch z.2⟩
    | false => simp at h1
  | false =>
    cases bv with
    | true => simp at h1
    | false =>
      simp only [Bool.false_eq_true, if_false, Option.some.injEq] at h1
      exact ⟨⟨fun z => ⟨hv, rfl⟩, fun z => ⟨hw, rfl⟩⟩, fun _ => h1.symm⟩
def wordsN (K : List Ky) : Nat → List (List Ky)
  | 0 => [[]]
  | m + 1 => (wordsN K m).flatMap fun w => K.map fun k => k :: w
theorem wordsN_mem {K : List Ky} : ∀ {m : Nat} {w : List Ky}, w.length = m → (∀ k ∈ w, k ∈ K) → w ∈ wordsN K m
  | 0, w, h, _ => by
    have : w = [] := List.length_eq_zero_iff.mp h
    subst this
    simp [wordsN]
  | m + 1, [], h, _ => by simp at h
  | m + 1, k :: w, h, hk => by
    unfold wordsN
    refine List.mem_flatMap.mpr ⟨w, wordsN_mem (by simpa using h) fun x hx => hk x (by simp [hx]), List.mem_map.mpr ⟨k, hk k (by simp), rfl⟩⟩
theorem wordsN_len (K : List Ky) : ∀ m, (wordsN K m).length = K.length ^ m
  | 0 => rfl
  | m + 1 => by
    have ih := wordsN_len K m
    unfold wordsN
    rw [List.length_flatMap]
    simp only [List.length_map]
    have : ∀ l : List (List Ky), (l.map fun _ => K.length).sum = l.length * K.length := fun l => by
      induction l with
      | nil => simp
      | cons a l ih => rw [List.map_cons, List.sum_cons, ih, List.length_cons, Nat.add_mul]; omega
    rw [this, ih, Nat.pow_succ]
/-- what a state is told by -/
def canon (n : Nat) (w : List Ky) : Bool × List Ky := if w.length < n then (false, w) else (true, w.drop (w.length - (n - 1)))
theorem canon_ks {A : Rows} {inn : List Nat} {n : Nat} (hn : 1 ≤ n) {v w : List Ky} (h : canon n v = canon n w) : ksOf A inn n v = ksOf A inn n w := by
  unfold canon at h
  by_cases h1 : v.length < n
  · rw [if_pos h1] at h
    by_cases h2 : w.length < n
    · rw [if_pos h2] at h
      have : v = w := (Prod.mk.inj h).2
      rw [this]
    · rw [if_neg h2] at h
      exact absurd (Prod.mk.inj h).1 (by simp)
  · rw [if_neg h1] at h
    by_cases h2 : w.length < n
    · rw [if_pos h2] at h
      exact absurd (Prod.mk.inj h).1 (by simp)
    · rw [if_neg h2] at h
      have e := (Prod.mk.inj h).2
      unfold ksOf
      have m1 : min v.length n = n := by omega
      have m2 : min w.length n = n := by omega
      rw [m1, m2, if_neg h1, if_neg h2]
      congr 1
      unfold knSets
      have r1 : min v.length (n - 1) = n - 1 := by omega
      have r2 : min w.length (n - 1) = n - 1 := by omega
      rw [r1, r2]
      refine List.map_congr_left fun j hj => ?_
      have hj := List.mem_range.mp hj
      have dd : ∀ u : List Ky, ¬ u.length < n → u.drop (u.length - (j + 1)) = (u.drop (u.length - (n - 1))).drop (n - 1 - (j + 1)) := fun u hu => by
        rw [List.drop_drop]
        congr 1
        omega
      rw [dd v h1, dd w h2, e]
def many (m n : Nat) : Nat := ((List.range n).map fun k => m ^ k).sum + m ^ (n - 1)
theorem few_states {A : Rows} {inn : List Nat} {n : Nat} (hn : 1 ≤ n) {K : List Ky} {ws : List (List Ky)} (hk : ∀ w ∈ ws, ∀ k ∈ w, k ∈ K) (nd : (ws.map (ksOf A inn n)).Nodup) : ws.length ≤ many K.length n := by
  have nd2 : (ws.map (canon n)).Nodup := by
    rw [List.nodup_iff_pairwise_ne, List.pairwise_map] at nd ⊢
    exact nd.imp fun h e => h (canon_ks hn e)
  have sub := List.Nodup.length_le_of_subset nd2 (l₂ := (((List.range n).flatMap (wordsN K)).map fun w => (false, w)) ++ (wordsN K (n - 1)).map fun w => (true, w)) fun p hp => by
    obtain ⟨w, hw, rfl⟩ := List.mem_map.mp hp
    unfold canon
    by_cases h : w.length < n
    · rw [if_pos h]
      exact List.mem_append_left _ (List.mem_map.mpr ⟨w, List.mem_flatMap.mpr ⟨w.length, List.mem_range.mpr h, wordsN_mem rfl (hk w hw)⟩, rfl⟩)
    · rw [if_neg h]
      refine List.mem_append_right _ (List.mem_map.mpr ⟨_, wordsN_mem (by simp; omega) fun k hk' => hk w hw k (List.mem_of_mem_drop hk'), rfl⟩)
  rw [List.length_map, List.length_append, List.length_map, List.length_map, wordsN_len, List.length_flatMap] at sub
  unfold many
  have e : ((List.range n).map fun k => (wordsN K k).length) = (List.range n).map fun k => K.length ^ k := List.map_congr_left fun k _ => wordsN_len K k
  rw [e] at sub
  exact sub
end Pace
end
section
set_option Elab.async false
set_option linter.all false
set_option maxRecDepth 100000
set_option maxHeartbeats 4000000
namespace Pace
open PySem PySem.Spec PyProof.Rows L2 DL
def keysL (hs ws : List Nat) : List Ky := hs.flatMap fun h => ws.map fun c => (h, c)
theorem keysL_mem {hs ws : List Nat} {k : Ky} : k ∈ keysL hs ws ↔ k.1 ∈ hs ∧ k.2 ∈ ws := by
  unfold keysL
  rw [List.mem_flatMap]
  constructor
  · rintro ⟨h, hh, hk⟩
    obtain ⟨c, hc, rfl⟩ := List.mem_map.mp hk
    exact ⟨hh, hc⟩
  · rintro ⟨h1, h2⟩
    exact ⟨k.1, h1, List.mem_map.mpr ⟨k.2, h2, rfl⟩⟩
theorem keysL_len (hs ws : List Nat) : (keysL hs ws).length = hs.length * ws.length := by
  unfold keysL
  induction hs with
  | nil => simp
  | cons a hs ih => rw [List.flatMap_cons, List.length_append, ih, List.length_map, List.length_cons, Nat.add_mul]; omega
def kyLt (a b : Ky) : Prop := a.1 < b.1 ∨ (a.1 = b.1 ∧ a.2 < b.2)
theorem keysL_lt {hs ws : List Nat} (lh : hs.Pairwise (· < ·)) (lw : ws.Pairwise (· < ·)) : (keysL hs ws).Pairwise kyLt := by
  unfold keysL
  induction hs with
  | nil => simp
  | cons a hs ih =>
    rw [List.pairwise_cons] at lh
    rw [List.flatMap_cons, List.pairwise_append]
    refine ⟨?_, ih lh.2, fun x hx y hy => ?_⟩
    · rw [List.pairwise_map]
      exact lw.imp fun h => .inr ⟨rfl, h⟩
    · obtain ⟨c, _, rfl⟩ := List.mem_map.mp hx
      obtain ⟨h, hh, hy⟩ := List.mem_flatMap.mp hy
      obtain ⟨d, _, rfl⟩ := List.mem_map.mp hy
      exact .inl (lh.1 h hh)
def mkey (m : Mv) : Ky := (m.h, m.c)
theorem row_sub {hs ws : List Nat} (lh : hs.Pairwise (· < ·)) (lw : ws.Pairwise (· < ·)) {r : List Mv} (h : (r.map mkey).Sublist (keysL hs ws)) : r.Pairwise fun a b => mvLt a b = true := by
  have := (keysL_lt lh lw).sublist h
  rw [List.pairwise_map] at this
  refine this.imp fun {a b} h => ?_
  unfold mvLt
  rw [decide_eq_true_eq]
  unfold kyLt mkey at h
  simp only at h
  omega
/-- a state that stands there -/
def At (A : Rows) (inn : List Nat) (n : Nat) (ws : List (List Ky)) (t : Nat) (w : List Ky) : Prop := ∃ w', ws[t]? = some w' ∧ ksOf A inn n w' = ksOf A inn n w
structure RowAt (A : Rows) (inn : List Nat) (n : Nat) (ws : List (List Ky)) (K : List Ky) (w : List Ky) (r : List Mv) : Prop where
  sub : (r.map mkey).Sublist K
  at_ : ∀ m ∈ r, okW A inn n (w ++ [mkey m]) ∧ At A inn n ws m.t (w ++ [mkey m])
  all : ∀ k ∈ K, okW A inn n (w ++ [k]) → ∃ m ∈ r, mkey m = k
structure Sts (A : Rows) (inn : List Nat) (n : Nat) (K : List Ky) (ws : List (List Ky)) : Prop where
  zero : ws[0]? = some []
  ok : ∀ w ∈ ws, okW A inn n w
  nd : (ws.map (ksOf A inn n)).Nodup
  ky : ∀ w ∈ ws, ∀ k ∈ w, k ∈ K
theorem At.grow {A : Rows} {inn : List Nat} {n : Nat} {ws : List (List Ky)} {t : Nat} {w : List Ky} (h : At A inn n ws t w) (ext : List (List Ky)) : At A inn n (ws ++ ext) t w := by
  obtain ⟨w', h1, h2⟩ := h
  exact ⟨w', by rw [List.getElem?_append_left (List.getElem?_eq_some_iff.mp h1).1]; exact h1, h2⟩
theorem At.lt {A : Rows} {inn : List Nat} {n : Nat} {ws : List (List Ky)} {t : Nat} {w : List Ky} (h : At A inn n ws t w) : t < ws.length := by
  obtain ⟨w', h1, _⟩ := h
  exact (List.getElem?_eq_some_iff.mp h1).1
theorem RowAt.grow {A : Rows} {inn : List Nat} {n : Nat} {ws : List (List Ky)} {K : List Ky} {w : List Ky} {r : List Mv} (h : RowAt A inn n ws K w r) (ext : List (List Ky)) : RowAt A inn n (ws ++ ext) K w r :=
  ⟨h.sub, fun m hm => ⟨(h.at_ m hm).1, (h.at_ m hm).2.grow ext⟩, h.all⟩
/-- the whole -/
structure Aut (A : Rows) (inn : List Nat) (n : Nat) (hs ws : List Nat) (L : List (List Ky)) (rs : Rows) : Prop where
  sts : Sts A inn n (keysL hs ws) L
  len : rs.length = L.length
  row : ∀ (j : Nat) (r : List Mv) (w : List Ky), rs[j]? = some r → L[j]? = some w → RowAt A inn n L (keysL hs ws) w r
theorem Aut.val {A : Rows} {inn : List Nat} {n : Nat} {hs ws : List Nat} {L : List (List Ky)} {rs : Rows} (a : Aut A inn n hs ws L rs) (lh : lettersB hs = true) (lw : lettersB ws = true) (h3 : hs.length ≤ 3) (w3 : ws.length ≤ 3) (l9 : L.length ≤ 999) : RulV hs ws rs where
  lh := lh
  lw := lw
  sh := by omega
  sw := by omega
  n1 := by rw [a.len]; have := (List.getElem?_eq_some_iff.mp a.sts.zero).1; omega
  n2 := by rw [a.len]; exact l9
  row := fun r hr => by
    obtain ⟨j, hj⟩ := List.mem_iff_getElem?.mp hr
    obtain ⟨w, hw⟩ : ∃ w, L[j]? = some w := ⟨_, List.getElem?_eq_getElem (by rw [← a.len]; exact (List.getElem?_eq_some_iff.mp hj).1)⟩
    have ra := a.row j r w hj hw
    have hl := ra.sub.length_le
    rw [List.length_map, keysL_len] at hl
    have h9 : hs.length * ws.length ≤ 3 * 3 := Nat.mul_le_mul h3 w3
    refine ⟨?_, by omega⟩
    unfold rowB
    rw [Bool.and_eq_true, List.all_eq_true]
    refine ⟨fun m hm => ?_, nbr_of_pair (row_sub (letters_lt lh) (letters_lt lw) ra.sub)⟩
    have mk := keysL_mem.mp (ra.sub.subset (List.mem_map.mpr ⟨m, hm, rfl⟩))
    have mt := (ra.at_ m hm).2.lt
    rw [← a.len] at mt
    unfold mvB
    have m1 : m.h ∈ hs := mk.1
    have m2 : m.c ∈ ws := mk.2
    simp [m1, m2, mt]
theorem Aut.few {A : Rows} {inn : List Nat} {n : Nat} {hs ws : List Nat} {L : List (List Ky)} {rs : Rows} (a : Aut A inn n hs ws L rs) (hn : 1 ≤ n) : L.length ≤ many (hs.length * ws.length) n := by
  have := few_states hn (K := keysL hs ws) a.sts.ky a.sts.nd
  rwa [keysL_len] at this
theorem Aut.led {A : Rows} (st : Steps A) {inn : List Nat} {n : Nat} (hn : 1 ≤ n) {hs ws : List Nat} {L : List (List Ky)} {rs : Rows} (a : Aut A inn n hs ws L rs) (sr : Steps rs) (hK : ∀ s (k : Ky) t, step1 A s k.1 k.2 = some t → k ∈ keysL hs ws) (w : List Ky) :
    (∀ j, ledN rs 0 w = some j → okW A inn n w ∧ At A inn n L j w) ∧ (okW A inn n w → (ledN rs 0 w).isSome = true) := by
  induction w using snoc_ind with
  | nil =>
    refine ⟨fun j hj => ?_, fun _ => rfl⟩
    simp [ledN] at hj
    subst hj
    exact ⟨okW_nil, [], a.sts.zero, rfl⟩
  | snoc w k ih =>
    obtain ⟨ih1, ih2⟩ := ih
    have stepJ : ∀ j, ledN rs 0 w = some j → ∃ r w', rs[j]? = some r ∧ L[j]? = some w' ∧ ksOf A inn n w' = ksOf A inn n w ∧ okW A inn n w' ∧ okW A inn n w ∧ RowAt A inn n L (keysL hs ws) w' r ∧ rowS rs j = r := fun j hj => by
      obtain ⟨o1, w', h1, h2⟩ := ih1 j hj
      obtain ⟨r, hr⟩ : ∃ r, rs[j]? = some r := ⟨_, List.getElem?_eq_getElem (by rw [a.len]; exact (List.getElem?_eq_some_iff.mp h1).1)⟩
      exact ⟨r, w', hr, h1, h2, a.sts.ok w' (List.mem_of_getElem? h1), o1, a.row j r w' hr h1, by simp [rowS, List.getD, hr]⟩
    constructor
    · intro t ht
      rw [ledN_snoc] at ht
      obtain ⟨j, hj, ht⟩ := Option.bind_eq_some_iff.mp ht
      obtain ⟨r, w', hr, h1, h2, o', o, ra, er⟩ := stepJ j hj
      have hm := (step1_iff sr).mp ht
      rw [er] at hm
      obtain ⟨q1, w2, q2, q3⟩ := ra.at_ _ hm
      have ns := next_some st hn k o' o h2
      have q1 : okW A inn n (w' ++ [k]) := q1
      have q3 : ksOf A inn n w2 = ksOf A inn n (w' ++ [k]) := q3
      exact ⟨ns.1.mp q1, w2, q2, q3.trans (ns.2 q1)⟩
    · intro ho
      have ow := (okW_snoc.mp ho).1
      obtain ⟨j, hj⟩ := Option.isSome_iff_exists.mp (ih2 ow)
      obtain ⟨r, w', hr, h1, h2, o', o, ra, er⟩ := stepJ j hj
      have ns := next_some st hn k o' o h2
      have kk : k ∈ keysL hs ws := by
        have hb := (okW_snoc.mp ho).2
        have epl : (w ++ [k]).take (w.length + 1) = w ++ [k] := List.take_of_length_le (by simp)
        unfold bad at hb
        split at hb
        · rw [epl] at hb
          obtain ⟨t, ht⟩ := Option.isSome_iff_exists.mp (isN_f.mp hb)
          rw [ledN_snoc] at ht
          obtain ⟨s, _, ht⟩ := Option.bind_eq_some_iff.mp ht
          exact hK s k t ht
        · rename_i hl
          rw [List.all_eq_false] at hb
          obtain ⟨s, _, hb⟩ := hb
          rw [epl] at hb
          have hd : (w ++ [k]).drop (w.length + 1 - n) = w.drop (w.length + 1 - n) ++ [k] := List.drop_append_of_le_length (by omega)
          rw [hd] at hb
          obtain ⟨t, ht⟩ := Option.isSome_iff_exists.mp (isN_n.mp hb)
          rw [ledN_snoc] at ht
          obtain ⟨s, _, ht⟩ := Option.bind_eq_some_iff.mp ht
          exact hK s k t ht
      obtain ⟨m, hm, rfl⟩ := ra.all k kk (ns.1.mpr ho)
      rw [ledN_snoc, hj]
      have : step1 rs j (mkey m).1 (mkey m).2 = some m.t := (step1_iff sr).mpr (by rw [er]; exact hm)
      show (step1 rs j (mkey m).1 (mkey m).2).isSome = true
      rw [this]
      rfl
end Pace
end
section
set_option Elab.async false
set_option linter.all false
set_option maxRecDepth 100000
set_option maxHeartbeats 4000000
namespace Pace
open PySem PySem.Spec PyProof.Rows L2 DL
structure UnI (A : Rows) (n : Nat) (K : List (Nat × Nat)) : Prop where
  nd : K.Nodup
  lt : ∀ x ∈ K, x.1 < n ∧ x.2 < n
  un : ∀ x ∈ K, ¬ bis A x.1 A x.2
theorem UnI.nil (A : Rows) (n : Nat) : UnI A n [] := ⟨List.nodup_nil, by simp, by simp⟩
theorem UnI.add {A : Rows} {n : Nat} {K : List (Nat × Nat)} (h : UnI A n K) {x : Nat × Nat} (h1 : x.1 < n) (h2 : x.2 < n) (h3 : ¬ bis A x.1 A x.2) : UnI A n (addF K x) := by
  unfold addF
  split
  · exact h
  · rename_i hx
    refine ⟨?_, fun y hy => ?_, fun y hy => ?_⟩
    · rw [List.nodup_append]
      exact ⟨h.nd, by simp, fun a ha b hb e => by rw [List.mem_singleton] at hb; subst hb; exact hx (e ▸ ha)⟩
    · rcases List.mem_append.mp hy with hy | hy
      · exact h.lt y hy
      · rw [List.mem_singleton] at hy; subst hy; exact ⟨h1, h2⟩
    · rcases List.mem_append.mp hy with hy | hy
      · exact h.un y hy
      · rw [List.mem_singleton] at hy; subst hy; exact h3
theorem UnI.few {A : Rows} {n : Nat} {K : List (Nat × Nat)} (h : UnI A n K) : K.length ≤ n * n := by
  have := List.Nodup.length_le_of_subset h.nd (l₂ := (List.range n).flatMap fun x => (List.range n).map fun y => (x, y)) fun p hp => by
    obtain ⟨h1, h2⟩ := h.lt p hp
    exact List.mem_flatMap.mpr ⟨p.1, List.mem_range.mpr h1, List.mem_map.mpr ⟨p.2, List.mem_range.mpr h2, rfl⟩⟩
  rwa [prod_len, List.length_range] at this
end Pace
end
section
set_option Elab.async false
set_option linter.all false
set_option maxRecDepth 100000
set_option maxHeartbeats 4000000
namespace DL
open PySem PySem.Spec PyProof.Rows L2
end DL
end
section
set_option Elab.async false
set_option linter.all false
set_option maxRecDepth 100000
set_option maxHeartbeats 4000000
namespace Pace
open PySem PySem.Spec PyProof.Rows L2 DL
def lexB : List Ky → List Ky → Bool
  | [], [] => false
  | [], _ :: _ => true
  | _ :: _, [] => false
  | a :: as, b :: bs => kLt a b || (decide (a = b) && lexB as bs)
theorem kLt_irr (a : Ky) : kLt a a = false := by unfold kLt; simp
theorem kLt_tr {a b c : Ky} (h : kLt a b = true) (g : kLt b c = true) : kLt a c = true := by
  unfold kLt at *
  rw [decide_eq_true_eq] at *
  omega
theorem kLt_tot {a b : Ky} (h : a ≠ b) : kLt a b = true ∨ kLt b a = true := by
  unfold kLt
  rw [decide_eq_true_eq, decide_eq_true_eq]
  by_cases e : a.1 = b.1
  · have : a.2 ≠ b.2 := fun z => h (Prod.ext e z)
    omega
  · omega
theorem lexB_irr : ∀ a : List Ky, lexB a a = false
  | [] => rfl
  | x :: a => by simp [lexB, kLt_irr, lexB_irr a]
theorem lexB_tr : ∀ {a b c : List Ky}, lexB a b = true → lexB b c = true → lexB a c = true
  | [], [], _, h, _ => by simp [lexB] at h
  | [], _ :: _, [], _, g => by simp [lexB] at g
  | [], _ :: _, _ :: _, _, _ => rfl
  | _ :: _, [], _, h, _ => by simp [lexB] at h
  | _ :: _, _ :: _, [], _, g => by simp [lexB] at g
  | x :: a, y :: b, z :: c, h, g => by
    simp only [lexB, Bool.or_eq_true, Bool.and_eq_true, decide_eq_true_eq] at h g ⊢
    rcases h with h | ⟨rfl, h⟩
    · rcases g with g | ⟨rfl, g⟩
      · exact .inl (kLt_tr h g)
      · exact .inl h
    · rcases g with g | ⟨rfl, g⟩
      · exact .inl g
      · exact .inr ⟨rfl, lexB_tr h g⟩
theorem lexB_tot : ∀ {a b : List Ky}, a.length = b.length → a ≠ b → lexB a b = true ∨ lexB b a = true
  | [], [], _, h => absurd rfl h
  | [], _ :: _, l, _ => by simp at l
  | _ :: _, [], l, _ => by simp at l
  | x :: a, y :: b, l, h => by
    simp only [lexB, Bool.or_eq_true, Bool.and_eq_true, decide_eq_true_eq]
    by_cases e : x = y
    · subst e
      have := lexB_tot (a := a) (b := b) (by simpa using l) fun z => h (by rw [z])
      rcases this with z | z
      · exact .inl (.inr ⟨rfl, z⟩)
      · exact .inr (.inr ⟨rfl, z⟩)
    · rcases kLt_tot e with z | z
      · exact .inl (.inl z)
      · exact .inr (.inl z)
theorem lexB_app : ∀ {a b : List Ky} (x y : List Ky), a.length = b.length → lexB a b = true → lexB (a ++ x) (b ++ y) = true
  | [], [], _, _, _, h => by simp [lexB] at h
  | [], _ :: _, _, _, l, _ => by simp at l
  | _ :: _, [], _, _, l, _ => by simp at l
  | p :: a, q :: b, x, y, l, h => by
    simp only [List.cons_append, lexB, Bool.or_eq_true, Bool.and_eq_true, decide_eq_true_eq] at h ⊢
    rcases h with h | ⟨rfl, h⟩
    · exact .inl h
    · exact .inr ⟨rfl, lexB_app x y (by simpa using l) h⟩
theorem lexB_end : ∀ (a : List Ky) {x y : List Ky}, lexB x y = true → lexB (a ++ x) (a ++ y) = true
  | [], _, _, h => h
  | p :: a, x, y, h => by
    simp only [List.cons_append, lexB, Bool.or_eq_true, Bool.and_eq_true, decide_eq_true_eq]
    exact .inr ⟨trivial, lexB_end a h⟩
/-- not behind: shorter, or as long and not behind by its signs -/
def sLe (a b : List Ky) : Prop := a.length < b.length ∨ (a.length = b.length ∧ lexB b a = false)
theorem sLe_refl (a : List Ky) : sLe a a := .inr ⟨rfl, lexB_irr a⟩
theorem lex_le_tr {a b c : List Ky} (l1 : a.length = b.length) (l2 : b.length = c.length) (h : lexB b a = false) (g : lexB c b = false) : lexB c a = false := by
  rw [Bool.eq_false_iff]
  intro z
  by_cases e : a = b
  · subst e; rw [z] at g; cases g
  · rcases lexB_tot l1 e with q | q
    · rw [lexB_tr z q] at g; cases g
    · rw [q] at h; cases h
end Pace
end
section
set_option Elab.async false
set_option linter.all false
set_option maxRecDepth 100000
set_option maxHeartbeats 4000000
namespace Pace
open PySem PySem.Spec PyProof.Rows L2 DL
theorem bis_pair {A : Rows} (w : List Ky) : ∀ {p q p' : Nat}, bis A p A q → ledN A p w = some p' → ∃ q', ledN A q w = some q' ∧ bis A p' A q' := by
  have find : ∀ {R : Nat → Nat → Prop} {r q : List Mv}, Like R r q → ∀ k : Ky, ((r.find? fun m => m.h == k.1 && m.c == k.2) = none ∧ (q.find? fun m => m.h == k.1 && m.c == k.2) = none) ∨ ∃ m m', (r.find? fun m => m.h == k.1 && m.c == k.2) = some m ∧ (q.find? fun m => m.h == k.1 && m.c == k.2) = some m' ∧ R m.t m'.t := by
    intro R r q l k
    induction l with
    | nil => exact .inl ⟨rfl, rfl⟩
    | @cons m m' r r' e1 e2 e3 _ ih =>
      rw [List.find?_cons, List.find?_cons]
      rw [← e1, ← e2]
      cases hb : (m.h == k.1 && m.c == k.2) with
      | true => exact .inr ⟨m, m', rfl, rfl, e3⟩
      | false => exact ih
  induction w using snoc_ind with
  | nil => intro p q p' b h; simp [ledN] at h; subst h; exact ⟨q, rfl, b⟩
  | snoc w k ih =>
    intro p q p' b h
    rw [ledN_snoc] at h
    cases e : ledN A p w with
    | none => rw [e] at h; cases h
    | some s =>
      rw [e] at h
      have h : step1 A s k.1 k.2 = some p' := h
      obtain ⟨s', h1, b1⟩ := ih b e
      rcases find b1.row k with ⟨z1, z2⟩ | ⟨m, m', z1, z2, z3⟩
      · unfold step1 at h
        have z1' : (A.getD s []).find? (fun m => m.h == k.1 && m.c == k.2) = none := z1
        simp only [rowS] at z1
        rw [show ((A.getD s []).find? fun m => m.h == k.1 && m.c == k.2) = none from z1] at h
        cases h
      · unfold step1 at h
        have hp : m.t = p' := by
          have z1' : ((A.getD s []).find? fun m => m.h == k.1 && m.c == k.2) = some m := z1
          rw [z1'] at h
          simpa using h
        refine ⟨m'.t, ?_, hp ▸ z3⟩
        rw [ledN_snoc, h1]
        show step1 A s' k.1 k.2 = some m'.t
        unfold step1
        have z2' : ((A.getD s' []).find? fun m => m.h == k.1 && m.c == k.2) = some m' := z2
        rw [z2']
        rfl
/-- both are led so far, to unlike states -/
def Far (A : Rows) (n p q : Nat) : Prop := ∃ v : List Ky, v.length = n ∧ ∃ p' q', ledN A p v = some p' ∧ ledN A q v = some q' ∧ ¬ bis A p' A q'
theorem Far.symm {A : Rows} {n p q : Nat} (h : Far A n p q) : Far A n q p := by
  obtain ⟨v, hv, p', q', h1, h2, h3⟩ := h
  exact ⟨v, hv, q', p', h2, h1, fun b => h3 b.symm⟩
theorem far_zero {A : Rows} {p q : Nat} : Far A 0 p q ↔ ¬ bis A p A q := by
  constructor
  · rintro ⟨v, hv, p', q', h1, h2, h3⟩
    have : v = [] := List.length_eq_zero_iff.mp hv
    subst this
    simp [ledN] at h1 h2
    subst h1 h2
    exact h3
  · intro h
    exact ⟨[], rfl, p, q, rfl, rfl, h⟩
theorem far_step {A : Rows} {n p q : Nat} : Far A (n + 1) p q ↔ ∃ (k : Ky) (t t' : Nat), step1 A p k.1 k.2 = some t ∧ step1 A q k.1 k.2 = some t' ∧ Far A n t t' := by
  constructor
  · rintro ⟨v, hv, p', q', h1, h2, h3⟩
    cases v with
    | nil => simp at hv
    | cons k v =>
      rw [ledN_step] at h1 h2
      cases e1 : step1 A p k.1 k.2 with
      | none => rw [e1] at h1; cases h1
      | some t =>
        cases e2 : step1 A q k.1 k.2 with
        | none => rw [e2] at h2; cases h2
        | some t' =>
          rw [e1] at h1
          rw [e2] at h2
          exact ⟨k, t, t', e1, e2, v, by simpa using hv, p', q', h1, h2, h3⟩
  · rintro ⟨k, t, t', e1, e2, v, hv, p', q', h1, h2, h3⟩
    refine ⟨k :: v, by simp [hv], p', q', ?_, ?_, h3⟩
    · rw [ledN_step, e1]; exact h1
    · rw [ledN_step, e2]; exact h2
theorem far_unlike {A : Rows} {n p q : Nat} (h : Far A n p q) : ¬ bis A p A q := fun b => by
  obtain ⟨v, _, p', q', h1, h2, h3⟩ := h
  obtain ⟨q2, h4, b2⟩ := bis_pair v b h1
  rw [h2] at h4
  cases h4
  exact h3 b2
theorem far_down {A : Rows} : ∀ {n p q : Nat}, Far A (n + 1) p q → Far A n p q
  | 0, p, q, h => far_zero.mpr (far_unlike h)
  | n + 1, p, q, h => by
    obtain ⟨k, t, t', e1, e2, h2⟩ := far_step.mp h
    exact far_step.mpr ⟨k, t, t', e1, e2, far_down h2⟩
theorem far_le {A : Rows} {m n p q : Nat} (hm : m ≤ n) (h : Far A n p q) : Far A m p q := by
  induction n with
  | zero => rw [Nat.le_zero.mp hm]; exact h
  | succ n ih =>
    by_cases e : m = n + 1
    · rw [e]; exact h
    · exact ih (by omega) (far_down h)
def HasR (A : Rows) (p q r : Nat) : Prop := Far A r p q ∧ ¬ Far A (r + 1) p q
theorem HasR.uniq {A : Rows} {p q r s : Nat} (h : HasR A p q r) (g : HasR A p q s) : r = s := by
  have h1 : ¬ r < s := fun z => h.2 (far_le z g.1)
  have h2 : ¬ s < r := fun z => g.2 (far_le z h.1)
  omega
theorem HasR.symm {A : Rows} {p q r : Nat} (h : HasR A p q r) : HasR A q p r := ⟨h.1.symm, fun z => h.2 z.symm⟩
abbrev Pr := Nat × Nat
def ascP (x : Pr) : Pr := (min x.1 x.2, max x.1 x.2)
abbrev Rk := Pr × Nat
structure RkI (A : Rows) (P : List Pr) (K : List Rk) : Prop where
  nd : (K.map (·.1)).Nodup
  at_ : ∀ z ∈ K, z.1 ∈ P ∧ HasR A z.1.1 z.1.2 z.2
theorem RkI.nil (A : Rows) (P : List Pr) : RkI A P [] := ⟨by simp, by simp⟩
theorem RkI.add {A : Rows} {P : List Pr} {K : List Rk} (h : RkI A P K) {x : Pr} {r : Nat} (hx : x ∈ P) (hn : x ∉ K.map (·.1)) (hr : HasR A x.1 x.2 r) : RkI A P (K ++ [(x, r)]) where
  nd := by
    rw [List.map_append, List.nodup_append]
    exact ⟨h.nd, by simp, fun a ha b hb e => by simp at hb; subst hb; exact hn (e ▸ ha)⟩
  at_ := fun z hz => by
    rcases List.mem_append.mp hz with hz | hz
    · exact h.at_ z hz
    · rw [List.mem_singleton] at hz
      subst hz
      exact ⟨hx, hr⟩
end Pace
end
section
set_option Elab.async false
set_option linter.all false
set_option maxRecDepth 100000
set_option maxHeartbeats 4000000
namespace Pace
open PySem PySem.Spec PyProof.Rows L2 DL
abbrev Wk := Nat × KS
def wk (A : Rows) (inn : List Nat) (n : Nat) (w : List Ky) : Wk := ((ledN A 0 w).getD 0, ksOf A inn n w)
def Led (A : Rows) (w : List Ky) : Prop := (ledN A 0 w).isSome = true
def Wr (A : Rows) (inn : List Nat) (n : Nat) (w : List Ky) : Prop := okW A inn n w ∧ ledN A 0 w = none
section
variable {A : Rows} {inn : List Nat} {n : Nat}
/-- as far as the search has come -/
structure Lv (A : Rows) (inn : List Nat) (n L : Nat) (sw lv : List (List Ky)) : Prop where
  led : ∀ w ∈ lv, w.length = L ∧ Led A w
  nd : ((sw ++ lv).map (wk A inn n)).Nodup
  all : ∀ u, u.length = L → Led A u → wk A inn n u ∈ sw.map (wk A inn n) ∨ ∃ w ∈ lv, wk A inn n w = wk A inn n u ∧ lexB u w = false
  sn : ∀ w ∈ sw, w.length < L ∧ Led A w
  al : ∀ u, u.length < L → Led A u → wk A inn n u ∈ sw.map (wk A inn n)
  nw : ∀ u k, u.length < L → Led A u → ¬ Wr A inn n (u ++ [k])
theorem Lv.zero (A : Rows) (inn : List Nat) (n : Nat) : Lv A inn n 0 [] [[]] where
  led := fun w hw => by rw [List.mem_singleton] at hw; subst hw; exact ⟨rfl, rfl⟩
  nd := by simp
  all := fun u hu _ => by
    have : u = [] := List.length_eq_zero_iff.mp hu
    subst this
    exact .inr ⟨[], by simp, rfl, rfl⟩
  sn := by simp
  al := fun u hu => by omega
  nw := fun u k hu => by omega
theorem Lv.at_ {L : Nat} {sw lv : List (List Ky)} (h : Lv A inn n L sw lv) {u : List Ky} (hu : u.length = L) (hl : Led A u) (hn : wk A inn n u ∉ sw.map (wk A inn n)) : ∃ w ∈ lv, wk A inn n w = wk A inn n u ∧ lexB u w = false := (h.all u hu hl).resolve_left hn
end
/-- a word put in its key's place -/
def setW (A : Rows) (inn : List Nat) (n : Nat) (ws : List (List Ky)) (w : List Ky) : List (List Ky) := if ws.any (fun v => decide (wk A inn n v = wk A inn n w)) then ws.map (fun v => if wk A inn n v = wk A inn n w then w else v) else ws ++ [w]
theorem setW_keys {A : Rows} {inn : List Nat} {n : Nat} {ws : List (List Ky)} {w : List Ky} (nd : (ws.map (wk A inn n)).Nodup) : ((setW A inn n ws w).map (wk A inn n)).Nodup := by
  unfold setW
  split
  · have : (ws.map fun v => if wk A inn n v = wk A inn n w then w else v).map (wk A inn n) = ws.map (wk A inn n) := by
      rw [List.map_map]
      refine List.map_congr_left fun v _ => ?_
      simp only [Function.comp]
      split
      · rename_i z; exact z.symm
      · rfl
    rw [this]; exact nd
  · rename_i h
    rw [List.map_append, List.nodup_append]
    refine ⟨nd, by simp, fun a ha b hb e => ?_⟩
    simp at hb
    subst hb
    obtain ⟨v, hv, e2⟩ := List.mem_map.mp ha
    exact h (List.any_eq_true.mpr ⟨v, hv, decide_eq_true (e2.trans e)⟩)
theorem setW_mem {A : Rows} {inn : List Nat} {n : Nat} {ws : List (List Ky)} {w x : List Ky} (h : x ∈ setW A inn n ws w) : x = w ∨ (x ∈ ws ∧ wk A inn n x ≠ wk A inn n w) := by
  unfold setW at h
  split at h
  · obtain ⟨v, hv, rfl⟩ := List.mem_map.mp h
    by_cases e : wk A inn n v = wk A inn n w
    · rw [if_pos e]; exact .inl rfl
    · rw [if_neg e]; exact .inr ⟨hv, e⟩
  · rename_i hno
    rcases List.mem_append.mp h with h | h
    · exact .inr ⟨h, fun e => hno (List.any_eq_true.mpr ⟨x, h, decide_eq_true e⟩)⟩
    · rw [List.mem_singleton] at h
      exact .inl h
theorem setW_in {A : Rows} {inn : List Nat} {n : Nat} {ws : List (List Ky)} {w : List Ky} : w ∈ setW A inn n ws w ∧ ∀ v ∈ ws, wk A inn n v ≠ wk A inn n w → v ∈ setW A inn n ws w := by
  unfold setW
  split
  · rename_i h
    obtain ⟨v, hv, e⟩ := List.any_eq_true.mp h
    refine ⟨List.mem_map.mpr ⟨v, hv, by rw [if_pos (of_decide_eq_true e)]⟩, fun v hv e => List.mem_map.mpr ⟨v, hv, by rw [if_neg e]⟩⟩
  · exact ⟨by simp, fun v hv _ => List.mem_append_left _ hv⟩
end Pace
end
section
set_option Elab.async false
set_option linter.all false
set_option maxRecDepth 100000
set_option maxHeartbeats 4000000
namespace Pace
open PySem PySem.Spec PyProof.Rows L2 DL
def sLt (a b : List Ky) : Prop := sLe a b ∧ a ≠ b
theorem sLt_snoc {a b : List Ky} (x y : Ky) (h : sLt a b) : sLt (a ++ [x]) (b ++ [y]) := by
  obtain ⟨h, ne⟩ := h
  have ne2 : a ++ [x] ≠ b ++ [y] := fun e => ne (by
    have := congrArg List.dropLast e
    simpa using this)
  refine ⟨?_, ne2⟩
  rcases h with h | ⟨l, h⟩
  · exact .inl (by simp; omega)
  · refine .inr ⟨by simp; omega, ?_⟩
    rcases lexB_tot l ne with q | q
    · rw [Bool.eq_false_iff]
      intro z
      have := lexB_tr z (lexB_app [x] [y] l q)
      rw [lexB_irr] at this; cases this
    · rw [q] at h; cases h
theorem sLt_key {a : List Ky} {x y : Ky} (h : kLt x y = true) : sLt (a ++ [x]) (a ++ [y]) := by
  have h1 : lexB [x] [y] = true := by simp [lexB, h]
  have h2 := lexB_end a h1
  refine ⟨.inr ⟨by simp, ?_⟩, fun e => ?_⟩
  · rw [Bool.eq_false_iff]
    intro z
    have := lexB_tr z h2
    rw [lexB_irr] at this; cases this
  · rw [e, lexB_irr] at h2; cases h2
theorem sLt_nil {a : List Ky} {k : Ky} : sLt [] (a ++ [k]) := ⟨.inl (by simp), fun e => by simp at e⟩
/-- the order of the search -/
structure TrO (A B : Rows) (L : List Trail) (n : Nat) : Prop where
  so : L.Pairwise fun x y => sLt x.2 y.2
  par : ∀ y ∈ L, y.2 = [] ∨ ∃ (i : Nat) (x : Trail) (k : Ky), i < n ∧ L[i]? = some x ∧ y.2 = x.2 ++ [k]
  cl : ∀ (i : Nat) x, i < n → L[i]? = some x → ∀ (k : Ky) (s t : Nat), step1 A x.1.1 k.1 k.2 = some s → step1 B x.1.2 k.1 k.2 = some t → ∃ y ∈ L, y.1 = (s, t) ∧ sLe y.2 (x.2 ++ [k])
theorem TrO.zero (A B : Rows) : TrO A B [((0, 0), [])] 0 := ⟨by simp, fun y hy => by simp at hy; subst hy; exact .inl rfl, fun i x hi => by omega⟩
/-- within a turn: x is at n, its keys ls have been looked at -/
structure TrJ (A B : Rows) (L : List Trail) (n : Nat) (x : Trail) (ls : List Ky) : Prop where
  so : L.Pairwise fun x y => sLt x.2 y.2
  at_ : L[n]? = some x
  par : ∀ y ∈ L, y.2 = [] ∨ (∃ (i : Nat) (z : Trail) (k : Ky), i < n ∧ L[i]? = some z ∧ y.2 = z.2 ++ [k]) ∨ ∃ k ∈ ls, y.2 = x.2 ++ [k]
  cl : ∀ (i : Nat) z, i < n → L[i]? = some z → ∀ (k : Ky) (s t : Nat), step1 A z.1.1 k.1 k.2 = some s → step1 B z.1.2 k.1 k.2 = some t → ∃ y ∈ L, y.1 = (s, t) ∧ sLe y.2 (z.2 ++ [k])
  here : ∀ k ∈ ls, ∀ (s t : Nat), step1 A x.1.1 k.1 k.2 = some s → step1 B x.1.2 k.1 k.2 = some t → ∃ y ∈ L, y.1 = (s, t) ∧ sLe y.2 (x.2 ++ [k])
theorem TrJ.behind {A B : Rows} {L : List Trail} {n : Nat} {x : Trail} {ls : List Ky} (h : TrJ A B L n x ls) {k : Ky} (hk : ∀ l ∈ ls, kLt l k = true) : ∀ y ∈ L, sLt y.2 (x.2 ++ [k]) := by
  intro y hy
  rcases h.par y hy with e | ⟨i, z, k', h1, h2, h3⟩ | ⟨k', hk', e⟩
  · rw [e]; exact sLt_nil
  · rw [h3]
    refine sLt_snoc _ _ ?_
    have hi := (List.getElem?_eq_some_iff.mp h2)
    have hn := (List.getElem?_eq_some_iff.mp h.at_)
    obtain ⟨hi1, hi2⟩ := hi
    obtain ⟨hn1, hn2⟩ := hn
    have := List.pairwise_iff_getElem.mp h.so i n hi1 hn1 h1
    rw [hi2, hn2] at this
    exact this
  · rw [e]; exact sLt_key (hk k' hk')
theorem TrJ.add {A B : Rows} {L : List Trail} {n : Nat} {x : Trail} {ls : List Ky} (h : TrJ A B L n x ls) {k : Ky} (hk : ∀ l ∈ ls, kLt l k = true) {s t : Nat} (hs : step1 A x.1.1 k.1 k.2 = some s) (ht : step1 B x.1.2 k.1 k.2 = some t) : TrJ A B (L ++ [((s, t), x.2 ++ [k])]) n x (ls ++ [k]) := by
  have lift : ∀ {i : Nat} {z : Trail}, L[i]? = some z → (L ++ [((s, t), x.2 ++ [k])])[i]? = some z := fun {i z} e => by
    rw [List.getElem?_append_left (List.getElem?_eq_some_iff.mp e).1]; exact e
  have nl := (List.getElem?_eq_some_iff.mp h.at_).1
  refine ⟨?_, lift h.at_, fun y hy => ?_, fun i z hi hz l s' t' h1 h2 => ?_, fun l hl s' t' h1 h2 => ?_⟩
  · rw [List.pairwise_append]
    exact ⟨h.so, by simp, fun a ha b hb => by rw [List.mem_singleton] at hb; subst hb; exact h.behind hk a ha⟩
  · rcases List.mem_append.mp hy with hy | hy
    · rcases h.par y hy with e | ⟨i, z, l, h1, h2, h3⟩ | ⟨l, hl, e⟩
      · exact .inl e
      · exact .inr (.inl ⟨i, z, l, h1, lift h2, h3⟩)
      · exact .inr (.inr ⟨l, List.mem_append_left _ hl, e⟩)
    · rw [List.mem_singleton] at hy
      subst hy
      exact .inr (.inr ⟨k, by simp, rfl⟩)
  · rw [List.getElem?_append_left (by omega)] at hz
    obtain ⟨y, hy, e⟩ := h.cl i z hi hz l s' t' h1 h2
    exact ⟨y, List.mem_append_left _ hy, e⟩
  · rcases List.mem_append.mp hl with hl | hl
    · obtain ⟨y, hy, e⟩ := h.here l hl s' t' h1 h2
      exact ⟨y, List.mem_append_left _ hy, e⟩
    · rw [List.mem_singleton] at hl
      subst hl
      rw [hs] at h1
      rw [ht] at h2
      cases h1; cases h2
      exact ⟨((s, t), x.2 ++ [l]), by simp, rfl, sLe_refl _⟩
end Pace
end
section
set_option Elab.async false
set_option linter.all false
set_option maxRecDepth 100000
set_option maxHeartbeats 4000000
namespace Pace
open PySem PySem.Spec PyProof.Rows L2 DL
/-- as far as a turn has come: D tells which words and signs were looked at -/
structure FwT (A : Rows) (inn : List Nat) (n L : Nat) (sw lv wr lt : List (List Ky)) (D : List Ky → Ky → Prop) : Prop where
  w1 : ∀ x ∈ wr, ∃ w ∈ lv, ∃ k, x = w ++ [k] ∧ Wr A inn n x
  w2 : ∀ w k, D w k → Wr A inn n (w ++ [k]) → w ++ [k] ∈ wr
  l1 : ∀ x ∈ lt, ∃ w ∈ lv, ∃ k, x = w ++ [k] ∧ Led A x ∧ wk A inn n x ∉ (sw ++ lv).map (wk A inn n)
  nd : (lt.map (wk A inn n)).Nodup
  l2 : ∀ w k, D w k → Led A (w ++ [k]) → wk A inn n (w ++ [k]) ∈ (sw ++ lv).map (wk A inn n) ∨ ∃ y ∈ lt, wk A inn n y = wk A inn n (w ++ [k]) ∧ lexB (w ++ [k]) y = false
section
variable {A : Rows} {inn : List Nat} {n L : Nat} {sw lv wr lt : List (List Ky)} {D D' : List Ky → Ky → Prop}
theorem FwT.zero : FwT A inn n L sw lv [] [] fun _ _ => False := ⟨by simp, fun _ _ h => h.elim, by simp, by simp, fun _ _ h => h.elim⟩
theorem FwT.put (h : FwT A inn n L sw lv wr lt D) (hL : ∀ w ∈ lv, w.length = L) {w : List Ky} {k : Ky} (hw : w ∈ lv) (hl : Led A (w ++ [k])) (hm : wk A inn n (w ++ [k]) ∉ (sw ++ lv).map (wk A inn n)) (hD : ∀ w k, D w k → w ∈ lv) {m : List Ky}
    (h1 : m = w ++ [k] ∨ (m ∈ lt ∧ wk A inn n m = wk A inn n (w ++ [k]))) (h2 : lexB (w ++ [k]) m = false) (h3 : ∀ y ∈ lt, wk A inn n y = wk A inn n (w ++ [k]) → lexB y m = false) : FwT A inn n L sw lv wr (setW A inn n lt m) fun w' k' => D w' k' ∨ (w' = w ∧ k' = k) where
  w1 := h.w1
  w2 := fun w' k' d hx => by
    rcases d with d | ⟨rfl, rfl⟩
    · exact h.w2 w' k' d hx
    · unfold Led at hl
      rw [hx.2] at hl; cases hl
  l1 := fun x hx => by
    rcases setW_mem hx with rfl | ⟨hx, _⟩
    · rcases h1 with rfl | ⟨h1, _⟩
      · exact ⟨w, hw, k, rfl, hl, hm⟩
      · exact h.l1 _ h1
    · exact h.l1 x hx
  nd := setW_keys h.nd
  l2 := fun w' k' d hx => by
    have ek : wk A inn n m = wk A inn n (w ++ [k]) := by
      rcases h1 with rfl | ⟨_, h1⟩
      · rfl
      · exact h1
    have len : ∀ y ∈ lt, y.length = L + 1 := fun y hy => by
      obtain ⟨v, hv, l, rfl, _⟩ := h.l1 y hy
      simp [hL v hv]
    have lm : m.length = L + 1 := by
      rcases h1 with rfl | ⟨h1, _⟩
      · simp [hL w hw]
      · exact len m h1
    rcases d with d | ⟨rfl, rfl⟩
    · rcases h.l2 w' k' d hx with z | ⟨y, hy, e, le⟩
      · exact .inl z
      · by_cases e2 : wk A inn n y = wk A inn n m
        · refine .inr ⟨m, setW_in.1, e2.symm.trans e, ?_⟩
          exact lex_le_tr (by rw [lm, len y hy]) (by rw [len y hy]; simp [hL w' (hD _ _ d)]) (h3 y hy (e2.trans ek)) le
        · exact .inr ⟨y, setW_in.2 y hy e2, e, le⟩
    · exact .inr ⟨m, setW_in.1, ek, h2⟩
end
end Pace
end
section
set_option Elab.async false
set_option linter.all false
set_option maxRecDepth 100000
set_option maxHeartbeats 4000000
namespace Pace
open PySem PySem.Spec PyProof.Rows L2 DL
section
variable {A : Rows} {inn : List Nat} {n : Nat} {β : Type} {κ : List Ky → β}
/-- as far as the search has come -/
structure LvK {β : Type} (κ : List Ky → β) (A : Rows) (inn : List Nat) (n L : Nat) (sw lv : List (List Ky)) : Prop where
  led : ∀ w ∈ lv, w.length = L ∧ Led A w
  nd : ((sw ++ lv).map κ).Nodup
  all : ∀ u, u.length = L → Led A u → κ u ∈ sw.map κ ∨ ∃ w ∈ lv, κ w = κ u ∧ lexB u w = false
  sn : ∀ w ∈ sw, w.length < L ∧ Led A w
  al : ∀ u, u.length < L → Led A u → κ u ∈ sw.map κ
  nw : ∀ u k, u.length < L → Led A u → ¬ Wr A inn n (u ++ [k])
theorem LvK.zero (A : Rows) (inn : List Nat) (n : Nat) : LvK κ A inn n 0 [] [[]] where
  led := fun w hw => by rw [List.mem_singleton] at hw; subst hw; exact ⟨rfl, rfl⟩
  nd := by simp
  all := fun u hu _ => by
    have : u = [] := List.length_eq_zero_iff.mp hu
    subst this
    exact .inr ⟨[], by simp, rfl, rfl⟩
  sn := by simp
  al := fun u hu => by omega
  nw := fun u k hu => by omega
theorem LvK.at_ {L : Nat} {sw lv : List (List Ky)} (h : LvK κ A inn n L sw lv) {u : List Ky} (hu : u.length = L) (hl : Led A u) (hn : κ u ∉ sw.map κ) : ∃ w ∈ lv, κ w = κ u ∧ lexB u w = false := (h.all u hu hl).resolve_left hn
end
end Pace
end
section
set_option Elab.async false
set_option linter.all false
set_option maxRecDepth 100000
set_option maxHeartbeats 4000000
namespace Pace
open PySem PySem.Spec PyProof.Rows L2 DL
def SoL (lv : List (List Ky)) : Prop := lv.Pairwise fun a b => lexB a b = true
section
variable {A : Rows} {inn : List Nat} {n : Nat} {β : Type} {κ : List Ky → β}
/-- how far it has come within a layer: P was looked at -/
structure Srch {β : Type} (κ : List Ky → β) (A : Rows) (inn : List Nat) (n : Nat) (bs P lt : List (List Ky)) : Prop where
  on : ∀ x ∈ lt, x ∈ P ∧ Led A x ∧ κ x ∉ bs.map κ
  nd : (lt.map κ).Nodup
  so : SoL lt
  ok : ∀ x ∈ P, ¬ Wr A inn n x ∧ (Led A x → κ x ∈ bs.map κ ∨ ∃ y ∈ lt, κ y = κ x ∧ lexB x y = false)
theorem Srch.nil (κ : List Ky → β) (A : Rows) (inn : List Nat) (n : Nat) (bs : List (List Ky)) : Srch κ A inn n bs [] [] := ⟨by simp, by simp, by simp [SoL], by simp⟩
theorem Srch.keep {bs P lt : List (List Ky)} (h : Srch κ A inn n bs P lt) {x : List Ky} (hp : ∀ p ∈ P, lexB p x = true) (hw : ¬ Wr A inn n x) (hx : Led A x → κ x ∈ (bs ++ lt).map κ) : Srch κ A inn n bs (P ++ [x]) lt := by
  refine ⟨fun y hy => ⟨List.mem_append_left _ (h.on y hy).1, (h.on y hy).2⟩, h.nd, h.so, fun y hy => ?_⟩
  rcases List.mem_append.mp hy with hy | hy
  · exact h.ok y hy
  · rw [List.mem_singleton] at hy
    subst hy
    refine ⟨hw, fun l => ?_⟩
    have := hx l
    rw [List.map_append, List.mem_append] at this
    rcases this with z | z
    · exact .inl z
    · obtain ⟨v, hv, e⟩ := List.mem_map.mp z
      refine .inr ⟨v, hv, e, ?_⟩
      rw [Bool.eq_false_iff]
      intro q
      have := lexB_tr q (hp v (h.on v hv).1)
      rw [lexB_irr] at this; cases this
theorem Srch.add {bs P lt : List (List Ky)} (h : Srch κ A inn n bs P lt) {x : List Ky} (hp : ∀ p ∈ P, lexB p x = true) (hw : ¬ Wr A inn n x) (hl : Led A x) (hx : κ x ∉ (bs ++ lt).map κ) : Srch κ A inn n bs (P ++ [x]) (lt ++ [x]) := by
  rw [List.map_append, List.mem_append, not_or] at hx
  refine ⟨fun y hy => ?_, ?_, ?_, fun y hy => ?_⟩
  · rcases List.mem_append.mp hy with hy | hy
    · exact ⟨List.mem_append_left _ (h.on y hy).1, (h.on y hy).2⟩
    · rw [List.mem_singleton] at hy
      subst hy
      exact ⟨by simp, hl, hx.1⟩
  · rw [List.map_append, List.nodup_append]
    refine ⟨h.nd, by simp, fun a ha b hb e => ?_⟩
    simp at hb
    subst hb
    exact hx.2 (e ▸ ha)
  · unfold SoL
    rw [List.pairwise_append]
    refine ⟨h.so, by simp, fun a ha b hb => ?_⟩
    rw [List.mem_singleton] at hb
    subst hb
    exact hp a (h.on a ha).1
  · rcases List.mem_append.mp hy with hy | hy
    · refine ⟨(h.ok y hy).1, fun l => ((h.ok y hy).2 l).imp id ?_⟩
      rintro ⟨z, hz, e⟩
      exact ⟨z, List.mem_append_left _ hz, e⟩
    · rw [List.mem_singleton] at hy
      subst hy
      exact ⟨hw, fun _ => .inr ⟨y, by simp, rfl, lexB_irr _⟩⟩
end
end Pace
end
section
set_option Elab.async false
set_option linter.all false
set_option maxRecDepth 100000
set_option maxHeartbeats 4000000
namespace Pace
open PySem PySem.Spec PyProof.Rows L2 DL
/-- pairs that are not ranked -/
structure NoRk (A : Rows) (inn : List Nat) (f : Nat → Nat) (K : List Rk) (x : Pr) : Prop where
  a : x.1 ∈ inn
  b : x.2 ∈ inn
  ne : f x.1 ≠ f x.2
  no : ascP x ∉ K.map (·.1)
structure WR (A : Rows) (inn : List Nat) (f : Nat → Nat) (K : List Rk) (ps : List Pr) (w : List Ky) (x : Pr) : Prop where
  nd : ps.Nodup
  on : ∀ p ∈ ps, NoRk A inn f K p
  len : ps.length = w.length + 1
  last : ps[w.length]? = some x
  led : ∀ i p, ps[i]? = some p → ledN A p.1 (w.drop i) = some x.1 ∧ ledN A p.2 (w.drop i) = some x.2
theorem WR.zero {A : Rows} {inn : List Nat} {f : Nat → Nat} {K : List Rk} {x : Pr} (h : NoRk A inn f K x) : WR A inn f K [x] [] x where
  nd := by simp
  on := fun p hp => by rw [List.mem_singleton] at hp; subst hp; exact h
  len := rfl
  last := rfl
  led := fun i p hp => by
    cases i with
    | zero => cases hp; exact ⟨rfl, rfl⟩
    | succ i => simp at hp
theorem WR.few {A : Rows} {inn : List Nat} {f : Nat → Nat} {K : List Rk} {ps : List Pr} {w : List Ky} {x : Pr} (h : WR A inn f K ps w x) : ps.length ≤ inn.length * inn.length := by
  have := List.Nodup.length_le_of_subset h.nd (l₂ := inn.flatMap fun x => inn.map fun y => (x, y)) fun p hp => by
    have := h.on p hp
    exact List.mem_flatMap.mpr ⟨p.1, this.a, List.mem_map.mpr ⟨p.2, this.b, rfl⟩⟩
  rwa [prod_len] at this
structure TB (A : Rows) (x : Pr) (L : List Trail) (n : Nat) : Prop where
  nd : (L.map (·.1)).Nodup
  zero : L[0]? = some (x, [])
  led : ∀ y ∈ L, ledN A x.1 y.2 = some y.1.1 ∧ ledN A x.2 y.2 = some y.1.2
  cl : ∀ (i : Nat) y, i < n → L[i]? = some y → ∀ k : Ky, (step1 A y.1.1 k.1 k.2).isSome = (step1 A y.1.2 k.1 k.2).isSome ∧ ∀ s t, step1 A y.1.1 k.1 k.2 = some s → step1 A y.1.2 k.1 k.2 = some t → (s, t) ∈ L.map (·.1)
  le : n ≤ L.length
  ln : ∀ (i : Nat) y, L[i]? = some y → y.2.length ≤ i
theorem TB.start (A : Rows) (x : Pr) : TB A x [(x, [])] 0 where
  nd := by simp
  zero := rfl
  led := fun y hy => by rw [List.mem_singleton] at hy; subst hy; exact ⟨rfl, rfl⟩
  cl := fun i y h => by omega
  le := by simp
  ln := fun i y h => by
    cases i with
    | zero => cases h; simp
    | succ i => simp at h
theorem TB.few {A : Rows} (st : Steps A) {x : Pr} (h1 : x.1 < A.length) (h2 : x.2 < A.length) {L : List Trail} {n : Nat} (h : TB A x L n) : L.length ≤ A.length * A.length ∧ ∀ y ∈ L, y.1.1 < A.length ∧ y.1.2 < A.length := by
  have lt : ∀ y ∈ L, y.1.1 < A.length ∧ y.1.2 < A.length := fun y hy => by
    obtain ⟨e1, e2⟩ := h.led y hy
    exact ⟨ledN_lt st.cl.2 h1 _ e1, ledN_lt st.cl.2 h2 _ e2⟩
  have := List.Nodup.length_le_of_subset h.nd (l₂ := (List.range A.length).flatMap fun x => (List.range A.length).map fun y => (x, y)) fun p hp => by
    obtain ⟨y, hy, rfl⟩ := List.mem_map.mp hp
    obtain ⟨h1, h2⟩ := lt y hy
    exact List.mem_flatMap.mpr ⟨y.1.1, List.mem_range.mpr h1, List.mem_map.mpr ⟨y.1.2, List.mem_range.mpr h2, rfl⟩⟩
  rw [prod_len] at this
  exact ⟨by simpa using this, lt⟩
abbrev Way := Nat × List Ky
structure WT (A : Rows) (L : List Way) (n : Nat) : Prop where
  nd : (L.map (·.1)).Nodup
  led : ∀ y ∈ L, y.2 ≠ [] ∧ ledN A 0 y.2 = some y.1
  c0 : ∀ m ∈ rowS A 0, m.t ∈ L.map (·.1)
  cl : ∀ (i : Nat) y, i < n → L[i]? = some y → ∀ m ∈ rowS A y.1, m.t ∈ L.map (·.1)
  le : n ≤ L.length
  ln : ∀ (i : Nat) y, L[i]? = some y → y.2.length ≤ i + 1
theorem WT.few {A : Rows} (st : Steps A) {L : List Way} {n : Nat} (h : WT A L n) : L.length ≤ A.length ∧ ∀ y ∈ L, y.1 < A.length := by
  have lt : ∀ y ∈ L, y.1 < A.length := fun y hy => ledN_lt st.cl.2 st.cl.1 _ (h.led y hy).2
  have := nodup_lt_len h.nd (n := A.length) fun p hp => by
    obtain ⟨y, hy, rfl⟩ := List.mem_map.mp hp
    exact lt y hy
  exact ⟨by simpa using this, lt⟩
end Pace
end
section
set_option Elab.async false
set_option linter.all false
set_option maxRecDepth 100000
set_option maxHeartbeats 4000000
namespace Pace
open PySem PySem.Spec PyProof.Rows L2 DL
structure WB (A : Rows) (L : List Way) : Prop where
  nd : (L.map (·.1)).Nodup
  led : ∀ y ∈ L, y.2 ≠ [] ∧ ledN A 0 y.2 = some y.1
  ln : ∀ (i : Nat) y, L[i]? = some y → y.2.length ≤ i + 1
theorem WB.nil (A : Rows) : WB A [] := ⟨by simp, by simp, by simp⟩
theorem WB.add {A : Rows} {L : List Way} (h : WB A L) {t : Nat} {w : List Ky} (hn : t ∉ L.map (·.1)) (w0 : w ≠ []) (hl : ledN A 0 w = some t) (hw : w.length ≤ L.length + 1) : WB A (L ++ [(t, w)]) where
  nd := by
    rw [List.map_append, List.nodup_append]
    exact ⟨h.nd, by simp, fun a ha b hb e => by simp at hb; subst hb; exact hn (e ▸ ha)⟩
  led := fun y hy => by
    rcases List.mem_append.mp hy with hy | hy
    · exact h.led y hy
    · rw [List.mem_singleton] at hy
      subst hy
      exact ⟨w0, hl⟩
  ln := fun i y hy => by
    by_cases il : i < L.length
    · rw [List.getElem?_append_left il] at hy
      exact h.ln i y hy
    · rw [List.getElem?_append_right (by omega)] at hy
      have : i - L.length = 0 := by
        have := (List.getElem?_eq_some_iff.mp hy).1
        simp at this
        omega
      rw [this] at hy
      cases hy
      simp only
      omega
theorem WB.few {A : Rows} (st : Steps A) {L : List Way} (h : WB A L) : L.length ≤ A.length := by
  have := nodup_lt_len h.nd (n := A.length) fun p hp => by
    obtain ⟨y, hy, rfl⟩ := List.mem_map.mp hp
    exact ledN_lt st.cl.2 st.cl.1 _ (h.led y hy).2
  simpa using this
structure TBj (A : Rows) (x : Pr) (L : List Trail) (n : Nat) (y : Trail) (ks : List Ky) : Prop where
  nd : (L.map (·.1)).Nodup
  zero : L[0]? = some (x, [])
  led : ∀ y ∈ L, ledN A x.1 y.2 = some y.1.1 ∧ ledN A x.2 y.2 = some y.1.2
  cl : ∀ (i : Nat) y, i < n → L[i]? = some y → ∀ k : Ky, (step1 A y.1.1 k.1 k.2).isSome = (step1 A y.1.2 k.1 k.2).isSome ∧ ∀ s t, step1 A y.1.1 k.1 k.2 = some s → step1 A y.1.2 k.1 k.2 = some t → (s, t) ∈ L.map (·.1)
  at_ : L[n]? = some y
  ln : ∀ (i : Nat) y, L[i]? = some y → y.2.length ≤ i
  here : ∀ k ∈ ks, (step1 A y.1.1 k.1 k.2).isSome = (step1 A y.1.2 k.1 k.2).isSome ∧ ∀ s t, step1 A y.1.1 k.1 k.2 = some s → step1 A y.1.2 k.1 k.2 = some t → (s, t) ∈ L.map (·.1)
theorem TBj.add {A : Rows} {x : Pr} {L : List Trail} {n : Nat} {y : Trail} {ks : List Ky} (h : TBj A x L n y ks) {k : Ky} {s t : Nat} (e1 : step1 A y.1.1 k.1 k.2 = some s) (e2 : step1 A y.1.2 k.1 k.2 = some t) (hm : (s, t) ∉ L.map (·.1)) : TBj A x (L ++ [((s, t), y.2 ++ [k])]) n y (ks ++ [k]) := by
  have nl := (List.getElem?_eq_some_iff.mp h.at_).1
  have z0 := (List.getElem?_eq_some_iff.mp h.zero).1
  have hl := h.led y (List.mem_of_getElem? h.at_)
  have up : ∀ p, p ∈ L.map (·.1) → p ∈ (L ++ [((s, t), y.2 ++ [k])]).map (·.1) := fun p hp => by rw [List.map_append]; exact List.mem_append_left _ hp
  refine ⟨?_, by rw [List.getElem?_append_left z0]; exact h.zero, fun z hz => ?_, fun i z hi hz l => ?_, by rw [List.getElem?_append_left nl]; exact h.at_, fun i z hz => ?_, fun l hl => ?_⟩
  · rw [List.map_append, List.nodup_append]
    exact ⟨h.nd, by simp, fun a ha b hb e => by simp at hb; subst hb; exact hm (e ▸ ha)⟩
  · rcases List.mem_append.mp hz with hz | hz
    · exact h.led z hz
    · rw [List.mem_singleton] at hz
      subst hz
      exact ⟨by rw [ledN_snoc, hl.1]; exact e1, by rw [ledN_snoc, hl.2]; exact e2⟩
  · rw [List.getElem?_append_left (by omega)] at hz
    obtain ⟨c1, c2⟩ := h.cl i z hi hz l
    exact ⟨c1, fun s' t' f1 f2 => up _ (c2 s' t' f1 f2)⟩
  · by_cases il : i < L.length
    · rw [List.getElem?_append_left il] at hz
      exact h.ln i z hz
    · rw [List.getElem?_append_right (by omega)] at hz
      have e0 : i - L.length = 0 := by
        have := (List.getElem?_eq_some_iff.mp hz).1
        simp at this
        omega
      rw [e0] at hz
      cases hz
      have := h.ln n y h.at_
      simp only [List.length_append, List.length_singleton]
      omega
  · rcases List.mem_append.mp hl with hl | hl
    · obtain ⟨c1, c2⟩ := h.here l hl
      exact ⟨c1, fun s' t' f1 f2 => up _ (c2 s' t' f1 f2)⟩
    · rw [List.mem_singleton] at hl
      subst hl
      refine ⟨by rw [e1, e2]; rfl, fun s' t' f1 f2 => ?_⟩
      rw [e1] at f1
      rw [e2] at f2
      cases f1; cases f2
      simp
end Pace
end
section
set_option Elab.async false
set_option linter.all false
set_option maxRecDepth 100000
set_option maxHeartbeats 4000000
namespace Pace
open PySem PySem.Spec PyProof.Rows L2 DL
def stI : Option Nat → Int
  | none => -1
  | some n => (n : Int)
def stepZ (A : Rows) (s : Int) (k : Ky) : Int := if s = -1 then -1 else stI (step1 A s.toNat k.1 k.2)
def InZ (A : Rows) (s : Int) : Prop := s = -1 ∨ ∃ n : Nat, s = (n : Int) ∧ n < A.length
def ledZ (A : Rows) (w : List Ky) : Int := stI (ledN A 0 w)
theorem stepZ_stI (A : Rows) (o : Option Nat) (k : Ky) : stepZ A (stI o) k = stI (o.bind fun s => step1 A s k.1 k.2) := by
  cases o with
  | none => rfl
  | some s =>
    unfold stepZ
    rw [if_neg (by simp only [stI]; omega)]
    rfl
theorem ledZ_snoc (A : Rows) (w : List Ky) (k : Ky) : ledZ A (w ++ [k]) = stepZ A (ledZ A w) k := by
  unfold ledZ
  rw [stepZ_stI, ledN_snoc]
theorem stI_some (o : Option Nat) : stI o ≠ -1 ↔ o.isSome = true := by
  cases o with
  | none => simp [stI]
  | some n => simp only [stI, Option.isSome_some, iff_true]; omega
theorem stepZ_in {A : Rows} (st : Steps A) (s : Int) (k : Ky) : InZ A (stepZ A s k) := by
  unfold stepZ
  split
  · exact .inl rfl
  · cases e : step1 A s.toNat k.1 k.2 with
    | none => exact .inl rfl
    | some t => exact .inr ⟨t, rfl, step1_lt st.cl.2 e⟩
abbrev ZP := Int × Int
def Live (e : Bool) (p : ZP) : Prop := p ≠ (-1, -1) ∧ (e = true ∨ (p.1 ≠ -1 ∧ p.2 ≠ -1))
instance (e : Bool) (p : ZP) : Decidable (Live e p) := by unfold Live; infer_instance
def toZ (A B : Rows) (p : ZP) (k : Ky) : ZP := (stepZ A p.1 k, stepZ B p.2 k)
structure RowJ (A B : Rows) (e : Bool) (L : List ZP) (p : ZP) (P : Ky → Prop) (r : List Mv) : Prop where
  pw : r.Pairwise fun a b => mvLt a b = true
  to : ∀ m ∈ r, P (m.h, m.c) ∧ Live e (toZ A B p (m.h, m.c)) ∧ L[m.t]? = some (toZ A B p (m.h, m.c))
  all : ∀ k, P k → Live e (toZ A B p k) → ∃ m ∈ r, m.h = k.1 ∧ m.c = k.2
  len : r.length ≤ 62
structure JoinI (A B : Rows) (e : Bool) (L : List ZP) (F : Rows) : Prop where
  nd : L.Nodup
  zero : L[0]? = some (0, 0)
  rng : ∀ p ∈ L, InZ A p.1 ∧ InZ B p.2 ∧ Live e p
  le : F.length ≤ L.length
  row : ∀ (i : Nat) p r, L[i]? = some p → F[i]? = some r → RowJ A B e L p (fun _ => True) r
theorem RowJ.mono {A B : Rows} {e : Bool} {L : List ZP} {p : ZP} {P : Ky → Prop} {r : List Mv} (h : RowJ A B e L p P r) (q : ZP) : RowJ A B e (L ++ [q]) p P r :=
  ⟨h.pw, fun m hm => by
    obtain ⟨h1, h2, h3⟩ := h.to m hm
    exact ⟨h1, h2, by rw [List.getElem?_append_left (List.getElem?_eq_some_iff.mp h3).1]; exact h3⟩, h.all, h.len⟩
theorem JoinI.grow {A B : Rows} {e : Bool} {L : List ZP} {F : Rows} (h : JoinI A B e L F) (sa : Steps A) (sb : Steps B) {p : ZP} {k : Ky} (hl : Live e (toZ A B p k)) (hn : toZ A B p k ∉ L) : JoinI A B e (L ++ [toZ A B p k]) F where
  nd := by rw [List.nodup_append]; exact ⟨h.nd, by simp, fun a h1 b h2 e => hn (by rw [List.mem_singleton.mp h2] at e; exact e ▸ h1)⟩
  zero := by rw [List.getElem?_append_left (List.getElem?_eq_some_iff.mp h.zero).1]; exact h.zero
  rng := fun q hq => by
    rcases List.mem_append.mp hq with hq | hq
    · exact h.rng q hq
    · rw [List.mem_singleton.mp hq]
      exact ⟨stepZ_in sa _ _, stepZ_in sb _ _, hl⟩
  le := by rw [List.length_append]; exact Nat.le_trans h.le (Nat.le_add_right _ _)
  row := fun i q r hq hr => by
    have := h.le
    have hi := (List.getElem?_eq_some_iff.mp hr).1
    rw [List.getElem?_append_left (by omega)] at hq
    exact (h.row i q r hq hr).mono _
theorem JoinI.few {A B : Rows} {e : Bool} {L : List ZP} {F : Rows} (h : JoinI A B e L F) : L.length ≤ (A.length + 1) * (B.length + 1) := by
  have sub : L ⊆ (List.range (A.length + 1)).flatMap fun i : Nat => (List.range (B.length + 1)).map fun j : Nat => (((i : Int) - 1, (j : Int) - 1) : ZP) := fun p hp => by
    obtain ⟨h1, h2, _⟩ := h.rng p hp
    have one : ∀ (A : Rows) (s : Int), InZ A s → ∃ i, i ∈ List.range (A.length + 1) ∧ (i : Int) - 1 = s := fun A s hs => by
      rcases hs with rfl | ⟨n, rfl, hn⟩
      · exact ⟨0, by simp, rfl⟩
      · exact ⟨n + 1, by rw [List.mem_range]; omega, by omega⟩
    obtain ⟨i, hi, ei⟩ := one A p.1 h1
    obtain ⟨j, hj, ej⟩ := one B p.2 h2
    exact List.mem_flatMap.mpr ⟨i, hi, List.mem_map.mpr ⟨j, hj, Prod.ext ei ej⟩⟩
  have := List.Nodup.length_le_of_subset h.nd sub
  have e2 : ((List.range (A.length + 1)).flatMap fun i : Nat => (List.range (B.length + 1)).map fun j : Nat => (((i : Int) - 1, (j : Int) - 1) : ZP)).length = (A.length + 1) * (B.length + 1) := by
    have g : ∀ l : List Nat, (l.map fun _ => B.length + 1).sum = l.length * (B.length + 1) := fun l => by
      induction l with
      | nil => simp
      | cons a l ih => rw [List.map_cons, List.sum_cons, ih, List.length_cons, Nat.succ_mul, Nat.add_comm]
    rw [List.length_flatMap]
    simp only [List.length_map, List.length_range]
    rw [g, List.length_range]
  omega
theorem JoinI.push {A B : Rows} {e : Bool} {L : List ZP} {F : Rows} (h : JoinI A B e L F) {p : ZP} (hp : L[F.length]? = some p) {r : List Mv} (hr : RowJ A B e L p (fun _ => True) r) : JoinI A B e L (F ++ [r]) where
  nd := h.nd
  zero := h.zero
  rng := h.rng
  le := by rw [List.length_append]; exact (List.getElem?_eq_some_iff.mp hp).1
  row := fun i q r' hq hr' => by
    by_cases hi : i < F.length
    · rw [List.getElem?_append_left hi] at hr'
      exact h.row i q r' hq hr'
    · have hl := (List.getElem?_eq_some_iff.mp hr').1
      rw [List.length_append, List.length_singleton] at hl
      have : i = F.length := by omega
      subst this
      rw [hp] at hq
      rw [List.getElem?_append_right (Nat.le_refl _), Nat.sub_self] at hr'
      cases hq; cases hr'
      exact hr
theorem RowJ.nil {A B : Rows} {e : Bool} {L : List ZP} {p : ZP} {P : Ky → Prop} (hP : ∀ k, ¬ P k) : RowJ A B e L p P [] :=
  ⟨.nil, fun m hm => (by cases hm), fun k hk => absurd hk (hP k), Nat.zero_le _⟩
theorem RowJ.put {A B : Rows} {e : Bool} {L : List ZP} {p : ZP} {ls : List Ky} {r : List Mv} (h : RowJ A B e L p (· ∈ ls) r) {k : Ky} (hk : ∀ l ∈ ls, kLt l k = true) (hl : Live e (toZ A B p k)) {j : Nat} (hj : L[j]? = some (toZ A B p k)) (hr : r.length ≤ ls.length) (hls : ls.length < 62) :
    RowJ A B e L p (· ∈ ls ++ [k]) (r ++ [⟨k.1, k.2, j⟩]) where
  pw := by
    rw [List.pairwise_append]
    refine ⟨h.pw, List.pairwise_singleton _ _, fun a ha b hb => ?_⟩
    rw [List.mem_singleton.mp hb]
    have := hk _ (h.to a ha).1
    unfold kLt at this
    unfold mvLt
    exact this
  to := fun m hm => by
    rcases List.mem_append.mp hm with hm | hm
    · exact ⟨List.mem_append_left _ (h.to m hm).1, (h.to m hm).2⟩
    · rw [List.mem_singleton.mp hm]
      exact ⟨by simp, hl, hj⟩
  all := fun k' hk' z => by
    rcases List.mem_append.mp hk' with hk' | hk'
    · obtain ⟨m, hm, h1⟩ := h.all k' hk' z
      exact ⟨m, List.mem_append_left _ hm, h1⟩
    · rw [List.mem_singleton.mp hk']
      exact ⟨⟨k.1, k.2, j⟩, by simp, rfl, rfl⟩
  len := by rw [List.length_append, List.length_singleton]; omega
theorem row_step {A B : Rows} {e : Bool} {L : List ZP} {F : Rows} (h : JoinI A B e L F) {i : Nat} {p : ZP} (hp : L[i]? = some p) (hi : i < F.length) (k : Ky) :
    (∀ j, step1 F i k.1 k.2 = some j → Live e (toZ A B p k) ∧ L[j]? = some (toZ A B p k)) ∧ (step1 F i k.1 k.2 = none → ¬ Live e (toZ A B p k)) := by
  have rj := h.row i p _ hp (List.getElem?_eq_getElem hi)
  have er : rowS F i = F[i] := by
    unfold rowS
    rw [List.getD_eq_getElem?_getD, List.getElem?_eq_getElem hi]
    rfl
  refine ⟨fun j hj => ?_, fun hn hl => ?_⟩
  · change ((rowS F i).find? fun m => m.h == k.1 && m.c == k.2).map (·.t) = some j at hj
    rw [er, Option.map_eq_some_iff] at hj
    obtain ⟨m, hm, rfl⟩ := hj
    have h1 := List.find?_some hm
    simp only [Bool.and_eq_true, beq_iff_eq] at h1
    have h2 := rj.to m (List.mem_of_find?_eq_some hm)
    rw [show ((m.h, m.c) : Ky) = k from Prod.ext h1.1 h1.2] at h2
    exact h2.2
  · obtain ⟨m, hm, h1, h2⟩ := rj.all k trivial hl
    have : (step1 F i k.1 k.2).isSome = true := step1_some.mpr (by rw [er]; exact List.mem_map.mpr ⟨m, hm, Prod.ext h1 h2⟩)
    rw [hn] at this
    cases this
theorem JoinI.led {A B : Rows} {e : Bool} {L : List ZP} {F : Rows} (h : JoinI A B e L F) (done : F.length = L.length) (w : List Ky) :
    (∀ j, ledN F 0 w = some j → L[j]? = some (ledZ A w, ledZ B w)) ∧ (ledN F 0 w = none → ¬ Live e (ledZ A w, ledZ B w)) := by
  induction w using snoc_ind with
  | nil =>
    refine ⟨fun j hj => ?_, fun hn => by cases hn⟩
    cases hj
    exact h.zero
  | snoc w k ih =>
    have e1 : (ledZ A (w ++ [k]), ledZ B (w ++ [k])) = toZ A B (ledZ A w, ledZ B w) k := by rw [ledZ_snoc, ledZ_snoc]; rfl
    rw [e1, ledN_snoc]
    cases hw : ledN F 0 w with
    | some i =>
      have hp := ih.1 i hw
      have hi := (List.getElem?_eq_some_iff.mp hp).1
      obtain ⟨g1, g2⟩ := row_step h hp (by omega) k
      exact ⟨fun j hj => (g1 j hj).2, fun hn => g2 hn⟩
    | none =>
      refine ⟨fun j hj => (by cases hj), fun _ z => ih.2 hw ?_⟩
      have s1 : ∀ (A : Rows) (s : Int), stepZ A s k ≠ -1 → s ≠ -1 := fun A s h e => h (by unfold stepZ; rw [if_pos e])
      refine ⟨fun e2 => z.1 ?_, ?_⟩
      · have e3 : ledZ A w = -1 ∧ ledZ B w = -1 := ⟨congrArg Prod.fst e2, congrArg Prod.snd e2⟩
        unfold toZ
        rw [e3.1, e3.2]
        rfl
      · rcases z.2 with z | z
        · exact .inl z
        · exact .inr ⟨s1 _ _ z.1, s1 _ _ z.2⟩
/-- what the rules of both, or of either, are -/
structure JoinP (A B : Rows) (e : Bool) (J : Rows) : Prop where
  st : Steps J
  ks : ∀ r ∈ J, ∀ m ∈ r, (∃ s, (step1 A s m.h m.c).isSome = true) ∨ ∃ s, (step1 B s m.h m.c).isSome = true
  lang : ∀ w, (ledN J 0 w).isSome = if e then (ledN A 0 w).isSome || (ledN B 0 w).isSome else (ledN A 0 w).isSome && (ledN B 0 w).isSome
  len : J.length ≤ (A.length + 1) * (B.length + 1)
  rl : ∀ r ∈ J, r.length ≤ 62
theorem live_led {A B : Rows} {e : Bool} {w : List Ky} : Live e (ledZ A w, ledZ B w) ↔ (if e then (ledN A 0 w).isSome || (ledN B 0 w).isSome else (ledN A 0 w).isSome && (ledN B 0 w).isSome) = true := by
  have h1 := stI_some (ledN A 0 w)
  have h2 := stI_some (ledN B 0 w)
  unfold Live ledZ
  simp only [ne_eq, Prod.mk.injEq] at h1 h2 ⊢
  cases e
  · simp only [Bool.false_eq_true, if_false, Bool.and_eq_true, false_or]
    rw [← h1, ← h2]
    exact ⟨fun h => h.2, fun h => ⟨fun z => h.1 z.1, h⟩⟩
  · simp only [if_true, Bool.or_eq_true, true_or, and_true]
    rw [← h1, ← h2, Classical.not_and_iff_not_or_not]
theorem JoinI.done {A B : Rows} {e : Bool} {L : List ZP} {F : Rows} (h : JoinI A B e L F) (done : F.length = L.length) (n : (A.length + 1) * (B.length + 1) ≤ 999) : JoinP A B e F := by
  have fw := h.few
  have at_ : ∀ r ∈ F, ∃ (i : Nat) (p : ZP), L[i]? = some p ∧ RowJ A B e L p (fun _ => True) r := fun r hr => by
    obtain ⟨i, hi⟩ := List.mem_iff_getElem?.mp hr
    have hl := (List.getElem?_eq_some_iff.mp hi).1
    obtain ⟨p, hp⟩ : ∃ p, L[i]? = some p := ⟨_, List.getElem?_eq_getElem (by omega)⟩
    exact ⟨i, p, hp, h.row i p r hp hi⟩
  have l0 := (List.getElem?_eq_some_iff.mp h.zero).1
  refine ⟨⟨⟨by omega, fun r hr m hm => ?_⟩, by omega, fun r hr => ?_, fun r hr => ?_⟩, fun r hr m hm => ?_, fun w => ?_, by omega, fun r hr => ?_⟩
  · obtain ⟨i, p, hp, rj⟩ := at_ r hr
    have := (List.getElem?_eq_some_iff.mp (rj.to m hm).2.2).1
    omega
  · obtain ⟨i, p, hp, rj⟩ := at_ r hr
    exact rj.pw
  · obtain ⟨i, p, hp, rj⟩ := at_ r hr
    exact Nat.le_trans rj.len (by decide)
  · obtain ⟨i, p, hp, rj⟩ := at_ r hr
    have hl := (rj.to m hm).2.1
    have one : ∀ (A : Rows) (s : Int), stepZ A s (m.h, m.c) ≠ -1 → ∃ s, (step1 A s m.h m.c).isSome = true := fun A s z => by
      unfold stepZ at z
      split at z
      · exact absurd rfl z
      · exact ⟨_, (stI_some _).mp z⟩
    by_cases h1 : stepZ A p.1 (m.h, m.c) = -1
    · exact .inr (one B p.2 fun h2 => hl.1 (Prod.ext h1 h2))
    · exact .inl (one A p.1 h1)
  · obtain ⟨g1, g2⟩ := h.led done w
    rw [Bool.eq_iff_iff, ← live_led]
    cases hw : ledN F 0 w with
    | none => simp only [Option.isSome_none, Bool.false_eq_true, false_iff]; exact g2 hw
    | some j =>
      simp only [Option.isSome_some, true_iff]
      exact (h.rng _ (List.mem_of_getElem? (g1 j hw))).2.2
  · obtain ⟨i, p, hp, rj⟩ := at_ r hr
    exact rj.len
end Pace
namespace Pace
open PySem PySem.Spec PyProof.Rows L2 DL
theorem JoinP.val {hs ws : List Nat} {rs rs' : Rows} (v : RulV hs ws rs) (v' : RulV hs ws rs') {e : Bool} {J : Rows} (j : JoinP rs rs' e J) : RulV hs ws J := by
  have key : ∀ {A : Rows} (v : RulV hs ws A) {s h c : Nat}, (step1 A s h c).isSome = true → h ∈ hs ∧ c ∈ ws := fun {A} v {s h c} z => by
    obtain ⟨t, ht⟩ := Option.isSome_iff_exists.mp z
    have := (step1_iff v.steps).mp ht
    unfold rowS at this
    rw [List.getD_eq_getElem?_getD] at this
    cases er : A[s]? with
    | none => rw [er] at this; cases this
    | some r =>
      rw [er] at this
      have := mv_in v (List.mem_of_getElem? er) this
      exact ⟨this.1, this.2.1⟩
  refine ⟨v.lh, v.lw, v.sh, v.sw, j.st.cl.1, j.st.n, fun r hr => ⟨?_, j.st.l r hr⟩⟩
  unfold rowB
  rw [Bool.and_eq_true, List.all_eq_true]
  refine ⟨fun m hm => ?_, nbr_of_pair (j.st.pw r hr)⟩
  have hk : m.h ∈ hs ∧ m.c ∈ ws := by
    rcases j.ks r hr m hm with ⟨s, z⟩ | ⟨s, z⟩
    · exact key v z
    · exact key v' z
  unfold mvB
  rw [Bool.and_eq_true, Bool.and_eq_true, decide_eq_true_eq, decide_eq_true_eq, decide_eq_true_eq]
  exact ⟨hk, j.st.cl.2 r hr m hm⟩
end Pace
end
section
set_option Elab.async false
set_option linter.all false
set_option maxRecDepth 100000
set_option maxHeartbeats 4000000
namespace Pace
open PySem PySem.Spec PyProof.Rows L2 DL
def startR (n s : Nat) : List Cost := (List.range n).map fun t => if t = s then some 0 else none
theorem startR_len (n s : Nat) : (startR n s).length = n := by simp [startR]
theorem startR_at {n s t : Nat} (ht : t < n) : (startR n s).getD t none = if t = s then some 0 else none := by
  unfold startR
  rw [List.getD_eq_getElem?_getD, List.getElem?_map, List.getElem?_range ht]
  rfl
end Pace
end
section
set_option Elab.async false
set_option linter.all false
set_option maxRecDepth 100000
set_option maxHeartbeats 4000000
namespace Pace
open PySem PySem.Spec PyProof.Rows L2 DL
abbrev CL := List (Nat × Nat)
def lkC (L : CL) (t : Nat) : Cost := (L.find? fun x => decide (x.1 = t)).map (·.2)
def setC (L : CL) (t n : Nat) : CL := L.map fun x => if x.1 = t then (t, n) else x
def putC (L : CL) (t n : Nat) : CL := if (L.any fun x => decide (x.1 = t)) = true then setC L t n else L ++ [(t, n)]
theorem lkC_cons (x : Nat × Nat) (L : CL) (s : Nat) : lkC (x :: L) s = if x.1 = s then some x.2 else lkC L s := by
  unfold lkC
  rw [List.find?_cons]
  by_cases h : x.1 = s
  · rw [if_pos h, decide_eq_true h]; rfl
  · rw [if_neg h, decide_eq_false h]
theorem lkC_none {L : CL} {t : Nat} : lkC L t = none ↔ (L.any fun x => decide (x.1 = t)) = false := by
  unfold lkC
  rw [Option.map_eq_none_iff, List.find?_eq_none, List.any_eq_false]
theorem lkC_set (t n s : Nat) : ∀ L : CL, lkC (setC L t n) s = if s = t then (lkC L t).map fun _ => n else lkC L s
  | [] => by simp [setC, lkC]
  | x :: L => by
    have ih := lkC_set t n s L
    have e : setC (x :: L) t n = (if x.1 = t then (t, n) else x) :: setC L t n := rfl
    rw [e, lkC_cons, ih, lkC_cons, lkC_cons]
    by_cases h : x.1 = t
    · subst h
      simp only [if_true]
      by_cases h2 : s = x.1
      · subst h2; simp
      · rw [if_neg (fun z => h2 z.symm), if_neg h2, if_neg h2, if_neg (fun z => h2 z.symm)]
    · simp only [if_neg h]
      by_cases h2 : s = t
      · subst h2; simp [h]
      · simp [h2]
theorem lkC_app (L M : CL) (s : Nat) : lkC (L ++ M) s = (lkC L s).or (lkC M s) := by
  unfold lkC
  rw [List.find?_append]
  cases L.find? fun x => decide (x.1 = s) <;> rfl
theorem lkC_put (L : CL) (t n s : Nat) : lkC (putC L t n) s = if s = t then some n else lkC L s := by
  unfold putC
  split
  · rename_i h
    rw [lkC_set]
    by_cases e : s = t
    · rw [if_pos e, if_pos e]
      cases z : lkC L t with
      | none => rw [lkC_none.mp z] at h; cases h
      | some m => rfl
    · rw [if_neg e, if_neg e]
  · rename_i h
    rw [lkC_app, lkC_cons]
    by_cases e : s = t
    · subst e
      rw [lkC_none.mpr (Bool.eq_false_iff.mpr h)]
      simp
    · rw [if_neg e, if_neg (fun z => e z.symm)]
      cases lkC L s <;> rfl
theorem setC_keys (L : CL) (t n : Nat) : (setC L t n).map (·.1) = L.map (·.1) := by
  unfold setC
  rw [List.map_map]
  refine List.map_congr_left fun x _ => ?_
  show (if x.1 = t then (t, n) else x).1 = x.1
  split
  · rename_i h; exact h.symm
  · rfl
theorem putC_keys {L : CL} {t n : Nat} : (putC L t n).map (·.1) = if t ∈ L.map (·.1) then L.map (·.1) else L.map (·.1) ++ [t] := by
  unfold putC
  have e : ((L.any fun x => decide (x.1 = t)) = true) ↔ t ∈ L.map (·.1) := by
    rw [List.any_eq_true, List.mem_map]
    constructor
    · rintro ⟨x, hx, h⟩; exact ⟨x, hx, of_decide_eq_true h⟩
    · rintro ⟨x, hx, h⟩; exact ⟨x, hx, decide_eq_true h⟩
  by_cases h : t ∈ L.map (·.1)
  · rw [if_pos h, if_pos (e.mpr h), setC_keys]
  · rw [if_neg h, if_neg (fun z => h (e.mp z)), List.map_append]; rfl
/-- keys once each, below a bound -/
structure CK (n : Nat) (L : CL) : Prop where
  nd : (L.map (·.1)).Nodup
  lt : ∀ t ∈ L.map (·.1), t < n
theorem CK.nil (n : Nat) : CK n [] := ⟨.nil, by simp⟩
theorem CK.put {n : Nat} {L : CL} (h : CK n L) {t x : Nat} (ht : t < n) : CK n (putC L t x) := by
  refine ⟨?_, ?_⟩
  · rw [putC_keys]
    split
    · exact h.nd
    · rename_i z
      exact List.nodup_append.mpr ⟨h.nd, by simp, fun a ha b hb e => by rw [List.mem_singleton.mp hb] at e; subst e; exact z ha⟩
  · intro s hs
    rw [putC_keys] at hs
    split at hs
    · exact h.lt s hs
    · rcases List.mem_append.mp hs with hs | hs
      · exact h.lt s hs
      · rw [List.mem_singleton.mp hs]; exact ht
theorem CK.len {n : Nat} {L : CL} (h : CK n L) : L.length ≤ n := by
  have := nodup_lt_len h.nd h.lt
  rwa [List.length_map] at this
theorem CK.mem {n : Nat} {L : CL} (h : CK n L) {s x : Nat} : (s, x) ∈ L ↔ lkC L s = some x := by
  have key : ∀ L : CL, (L.map (·.1)).Nodup → ((s, x) ∈ L ↔ lkC L s = some x) := by
    intro L
    induction L with
    | nil => intro _; simp [lkC]
    | cons y L ih =>
      intro nd
      rw [List.map_cons, List.nodup_cons] at nd
      rw [lkC_cons, List.mem_cons]
      by_cases e : y.1 = s
      · rw [if_pos e]
        constructor
        · rintro (z | z)
          · rw [← z]
          · exact absurd (List.mem_map.mpr ⟨_, z, e.symm⟩) nd.1
        · intro z
          left
          cases z
          rw [← e]
      · rw [if_neg e, ← ih nd.2]
        exact ⟨fun z => z.resolve_left fun z => e (by rw [← z]), .inr⟩
  exact key L h.nd
theorem CK.out {n : Nat} {L : CL} (h : CK n L) {t : Nat} (ht : n ≤ t) : lkC L t = none := by
  cases e : lkC L t with
  | none => rfl
  | some x =>
    have := h.lt t (List.mem_map.mpr ⟨_, h.mem.mpr e, rfl⟩)
    omega
/-- the dict tells the costs of a row -/
structure CD (L : CL) (row : List Cost) : Prop where
  ck : CK row.length L
  at_ : ∀ t, lkC L t = row.getD t none
/-- a cost is taken in -/
theorem IsMin.put {L : CL} {t x : Nat} {S : Nat → Nat → Prop} (h : ∀ s, IsMin (lkC L s) (S s)) : ∀ s, IsMin (lkC (putC L t (min x ((lkC L t).getD x))) s) fun n => S s n ∨ (s = t ∧ n = x) := fun s => by
  rw [lkC_put]
  by_cases e : s = t
  · subst e
    rw [if_pos rfl]
    have := (h s).less (isMin_one x)
    have e : lessO (lkC L s) (some x) = some (min x ((lkC L s).getD x)) := by
      cases lkC L s with
      | none => show some x = some (min x x); rw [Nat.min_self]
      | some y => show some (min y x) = some (min x y); rw [Nat.min_comm]
    rw [e] at this
    exact this.congr fun n => by simp
  · rw [if_neg e]
    exact (h s).congr fun n => by simp [e]
/-- what is found so far: behind the first states of the dict, and some moves of the next one -/
def StepL (A : Rows) (d : CL) (k : Ky) (j : Nat) (ms : List Mv) (t n : Nat) : Prop :=
  (∃ s x m, (s, x) ∈ d.take j ∧ m ∈ rowS A s ∧ m.h = k.1 ∧ m.t = t ∧ n = x + b2n (decide (m.c ≠ k.2))) ∨ ∃ x s m, d[j]? = some (s, x) ∧ m ∈ ms ∧ m.h = k.1 ∧ m.t = t ∧ n = x + b2n (decide (m.c ≠ k.2))
theorem StepL.zero {A : Rows} {d : CL} {k : Ky} {t n : Nat} : ¬ StepL A d k 0 [] t n := by
  rintro (⟨s, x, m, h, _⟩ | ⟨x, s, m, _, h, _⟩)
  · simp at h
  · cases h
theorem StepL.next {A : Rows} {d : CL} {k : Ky} {j s x t n : Nat} (hj : d[j]? = some (s, x)) : StepL A d k j (rowS A s) t n ↔ StepL A d k (j + 1) [] t n := by
  unfold StepL
  rw [take_step hj]
  constructor
  · rintro (⟨s', x', m, h, z⟩ | ⟨x', s', m, h, z⟩)
    · exact .inl ⟨s', x', m, List.mem_append_left _ h, z⟩
    · rw [hj] at h
      cases h
      exact .inl ⟨s, x, m, by simp, z⟩
  · rintro (⟨s', x', m, h, z⟩ | ⟨x', s', m, _, h, _⟩)
    · rcases List.mem_append.mp h with h | h
      · exact .inl ⟨s', x', m, h, z⟩
      · rw [List.mem_singleton] at h
        cases h
        exact .inr ⟨x, s, m, hj, z⟩
    · cases h
theorem StepL.move {A : Rows} {d : CL} {k : Ky} {j s x t n : Nat} {ms : List Mv} {m : Mv} (hj : d[j]? = some (s, x)) : StepL A d k j (ms ++ [m]) t n ↔ StepL A d k j ms t n ∨ (m.h = k.1 ∧ t = m.t ∧ n = x + b2n (decide (m.c ≠ k.2))) := by
  unfold StepL
  constructor
  · rintro (z | ⟨x', s', m', h1, h2, h3, h4, h5⟩)
    · exact .inl (.inl z)
    · rcases List.mem_append.mp h2 with h2 | h2
      · exact .inl (.inr ⟨x', s', m', h1, h2, h3, h4, h5⟩)
      · rw [List.mem_singleton] at h2
        subst h2
        rw [hj] at h1
        cases h1
        exact .inr ⟨h3, h4.symm, h5⟩
  · rintro ((z | ⟨x', s', m', h1, h2, z⟩) | ⟨h3, h4, h5⟩)
    · exact .inl z
    · exact .inr ⟨x', s', m', h1, List.mem_append_left _ h2, z⟩
    · exact .inr ⟨x, s, m, hj, by simp, h3, h4.symm, h5⟩
/-- all of the dict taken in: the next row -/
theorem CD.next {A : Rows} {d L : CL} {row : List Cost} {k : Ky} (cl : ∀ s, s < A.length → ∀ m ∈ rowS A s, m.t < A.length) (rl : row.length = A.length) (cd : CD d row) (ck : CK A.length L) (h : ∀ s, IsMin (lkC L s) fun n => StepL A d k d.length [] s n) : CD L (rowNx A row k) := by
  refine ⟨by rw [rowNx_len, rl]; exact ck, fun t => ?_⟩
  by_cases ht : t < A.length
  · refine (h t).uniq ((rowNx_min (A := A) (row := row) (k := k) (by omega)).congr fun n => ?_)
    unfold StepL StepC
    rw [List.take_length]
    constructor
    · rintro ⟨s, x, m, h1, h2, z⟩
      exact .inl ⟨s, x, m, cd.ck.mem.mpr (by rw [cd.at_, h1]), z⟩
    · rintro (⟨s, x, m, h1, z⟩ | ⟨x, s, m, _, h, _⟩)
      · refine ⟨s, x, m, by rw [← cd.at_]; exact cd.ck.mem.mp h1, cd.ck.lt s (List.mem_map.mpr ⟨_, h1, rfl⟩), z⟩
      · cases h
  · rw [ck.out (by omega), List.getD_eq_getElem?_getD, List.getElem?_eq_none (by rw [rowNx_len]; omega)]
    rfl
end Pace
end
section
set_option Elab.async false
set_option linter.all false
set_option maxRecDepth 100000
set_option maxHeartbeats 4000000
namespace Pace
open PySem PySem.Spec PyProof.Rows L2 DL
theorem CD.start {n s : Nat} (h : s < n) : CD [(s, 0)] (startR n s) := by
  refine ⟨⟨by simp, fun t ht => ?_⟩, fun t => ?_⟩
  · rw [startR_len]
    simp at ht
    omega
  · rw [lkC_cons]
    have e0 : lkC [] t = none := rfl
    rw [e0]
    by_cases ht : t < n
    · rw [startR_at ht]
      by_cases e : s = t
      · rw [if_pos e, if_pos e.symm]
      · rw [if_neg e, if_neg (fun h => e h.symm)]
    · rw [if_neg (by omega), List.getD_eq_getElem?_getD, List.getElem?_eq_none (by rw [startR_len]; omega)]
      rfl
end Pace
end
section
set_option Elab.async false
set_option linter.all false
set_option maxRecDepth 100000
set_option maxHeartbeats 4000000
namespace Pace
open PySem PySem.Spec PyProof.Rows L2 DL
def lpD (p : Nat × Nat) : D := .tup [.int (p.1 : Nat), .int (p.2 : Nat)]
def lsD (L : List (Nat × Nat)) : D := .tup (L.map lpD)
def lpU (p : Nat × Nat) : D := .kup [.int (p.1 : Nat), .int (p.2 : Nat)]
def lsU (L : List (Nat × Nat)) : D := .kup (L.map lpU)
theorem ups_map (L : List (Nat × Nat)) : D.ups (L.map lpD) = L.map lpU := by
  induction L with
  | nil => rfl
  | cons p L ih => rw [List.map_cons, List.map_cons, ← ih]; rfl
theorem lsD_up (L : List (Nat × Nat)) : (lsD L).up = lsU L := by
  show D.kup (D.ups (L.map lpD)) = _
  rw [ups_map]; rfl
theorem lsU_py (L : List (Nat × Nat)) : (lsU L).py = (lsD L).py := by
  show PyData.tuple (D.pys (L.map lpU)) = .tuple (D.pys (L.map lpD))
  congr 1
  rw [D.pys_map, D.pys_map, List.map_map, List.map_map]
  rfl
theorem pysR_mapU (xs : List D) : D.pysR xs = xs.map D.pyR := by
  induction xs with
  | nil => rfl
  | cons x xs ih => simp [D.pysR, ih]
theorem lsU_pyR (L : List (Nat × Nat)) : (lsU L).pyR = (lsD L).pyR := by
  show PyData.tuple (D.pysR (L.map lpU)) = .tuple (D.pysR (L.map lpD))
  congr 1
  rw [pysR_mapU, pysR_mapU, List.map_map, List.map_map]
  rfl
theorem lsU_plR (L : List (Nat × Nat)) : (lsU L).plR = true := by
  show D.plsR (L.map lpU) = true
  induction L with
  | nil => rfl
  | cons p L ih => rw [List.map_cons]; show (true && D.plsR (L.map lpU)) = true; rw [ih]; rfl
theorem lsU_pl (L : List (Nat × Nat)) : (lsU L).pl = true := by
  show D.pls (L.map lpU) = true
  rw [D.pls_all, List.all_map, List.all_eq_true]
  intro p _; rfl
theorem lsD_si (L : List (Nat × Nat)) : (lsD L).si = true := sis_all.mpr fun x hx => by
  obtain ⟨p, _, rfl⟩ := List.mem_map.mp hx
  rfl
theorem lsD_dp (L : List (Nat × Nat)) : (lsD L).dp ≤ 60 := by
  have : D.dps (L.map lpD) ≤ 2 := dps_le fun x hx => by
    obtain ⟨p, _, rfl⟩ := List.mem_map.mp hx
    simp [lpD, D.dp, D.dps]
  simp only [lsD, D.dp]; omega
theorem lpD_inj : ∀ {p q : Nat × Nat}, lpD p = lpD q → p = q := by
  rintro ⟨a, b⟩ ⟨c, d⟩ h
  simp only [lpD, D.tup.injEq, List.cons.injEq, D.int.injEq, and_true] at h
  have h1 : a = c := by have := h.1; omega
  have h2 : b = d := by have := h.2; omega
  rw [h1, h2]
theorem lsD_inj {L M : List (Nat × Nat)} (h : lsD L = lsD M) : L = M := by
  simp only [lsD, D.tup.injEq] at h
  exact List.map_inj_right (fun _ _ e => lpD_inj e) |>.mp h
theorem ls_eqv (L M : List (Nat × Nat)) : D.eqv (lsU L) (lsD M) = decide (L = M) := by
  have e : D.eqv (lsU L) (lsD M) = D.eqv (lsD L) (lsD M) := by unfold D.eqv; rw [lsU_py]
  rw [e, Bool.eq_iff_iff, eqv_si (lsD_si L) (lsD_si M), decide_eq_true_eq]
  exact ⟨lsD_inj, fun h => by rw [h]⟩
theorem ls_okE (L M : List (Nat × Nat)) : okE (lsU L) (lsD M) = true := by
  have h : okE (lsD L) (lsD M) = true := okE_si (lsD_si L) (lsD_si M) (lsD_dp L)
  unfold okE at h ⊢
  rw [lsU_py, lsU_pl]
  simp only [Bool.and_eq_true] at h ⊢
  exact ⟨⟨trivial, h.1.2⟩, h.2⟩
theorem dedS_mem {α : Type} (l : List (α × Nat)) (T : List Nat) (k : Nat) : k ∈ l.map (·.2) ∧ k ∉ T ↔ k ∈ (dedS T l).map (·.2) := by
  constructor
  · rintro ⟨h, hT⟩
    obtain ⟨x, hx, rfl⟩ := List.mem_map.mp h
    obtain ⟨y, hy, e⟩ := dedS_has l T x hx hT
    exact List.mem_map.mpr ⟨y, hy, e⟩
  · intro h
    obtain ⟨y, hy, rfl⟩ := List.mem_map.mp h
    exact ⟨List.mem_map.mpr ⟨y, (dedS_sub l T).subset hy, rfl⟩, dedS_not l T y hy⟩
theorem dedS_snoc {α : Type} (l : List (α × Nat)) (x : α × Nat) : dedS [] (l ++ [x]) = if x.2 ∈ (dedS [] l).map (·.2) then dedS [] l else dedS [] l ++ [x] := by
  rw [dedS_app]
  have e : x.2 ∈ l.map (·.2) ++ [] ↔ x.2 ∈ (dedS [] l).map (·.2) := by
    rw [List.append_nil, ← dedS_mem l [] x.2]; simp
  rw [dedS_cons]
  by_cases h : x.2 ∈ (dedS [] l).map (·.2)
  · rw [if_pos h, if_pos (e.mpr h)]; simp [dedS]
  · rw [if_neg h, if_neg (fun z => h (e.mp z))]; simp [dedS]
def lastP (o : Option Nat) (l : List (Nat × Nat)) : Option Nat := match l.getLast? with
  | some x => some x.1
  | none => o
def frkW (F : List Nat) : Option Nat → Nat → Nat
  | none, _ => 0
  | some a, i => 1 + maxL ((F.take (i + 1)).drop (a + 1))
theorem fdW_snoc (F : List Nat) : ∀ (l : List (Nat × Nat)) (o : Option Nat) (x : Nat × Nat), fdW F o (l ++ [x]) = fdW F o l ++ [(x.2, frkW F (lastP o l) x.1)]
  | [], none, x => rfl
  | [], some a, x => rfl
  | y :: l, none, x => by
    rw [List.cons_append, fdW, fdW, fdW_snoc F l (some y.1) x, List.cons_append]
    congr 4
    cases l with
    | nil => rfl
    | cons z l =>
      obtain ⟨w, hw⟩ : ∃ w, (z :: l).getLast? = some w := by
        cases h : (z :: l).getLast? with
        | none => simp at h
        | some w => exact ⟨w, rfl⟩
      simp only [lastP, List.getLast?_cons_cons, hw]
  | y :: l, some a, x => by
    rw [List.cons_append, fdW, fdW, fdW_snoc F l (some y.1) x, List.cons_append]
    congr 4
    cases l with
    | nil => rfl
    | cons z l =>
      obtain ⟨w, hw⟩ : ∃ w, (z :: l).getLast? = some w := by
        cases h : (z :: l).getLast? with
        | none => simp at h
        | some w => exact ⟨w, rfl⟩
      simp only [lastP, List.getLast?_cons_cons, hw]
theorem fdW_len (F : List Nat) : ∀ (l : List (Nat × Nat)) (o : Option Nat), (fdW F o l).length = l.length
  | [], _ => by cases ‹Option Nat› <;> rfl
  | x :: l, none => by rw [fdW, List.length_cons, List.length_cons, fdW_len]
  | x :: l, some a => by rw [fdW, List.length_cons, List.length_cons, fdW_len]
theorem le_maxL : ∀ {l : List Nat} {x : Nat}, x ∈ l → x ≤ maxL l
  | y :: l, x, h => by
    rw [maxL_cons]
    rcases List.mem_cons.mp h with rfl | h
    · exact Nat.le_max_left _ _
    · exact Nat.le_trans (le_maxL h) (Nat.le_max_right _ _)
theorem maxL_mem : ∀ (l : List Nat), maxL l ∈ 0 :: l
  | [] => by simp [maxL]
  | y :: l => by
    rw [maxL_cons]
    have := maxL_mem l
    rcases Nat.le_total y (maxL l) with h | h
    · rw [Nat.max_eq_right h]
      rcases List.mem_cons.mp this with e | e
      · rw [e]; simp
      · simp [e]
    · rw [Nat.max_eq_left h]; simp
/-- max([0, *l]) -/
theorem best_zero {G : GH} {l : List Nat} {Q : DQ} (q : Q (.int (maxL l : Nat)) G) : rBestD (fun x m => x ≤ m) [.lst (.int 0 :: natsD l)] G Q := by
  have cl : ∀ (G : GH), D.cur G (.lst (.int 0 :: natsD l)) = .lst (natsD (0 :: l)) := fun _ => rfl
  simp only [rBestD, cl, intsD_nats]
  refine ⟨by simp, fun m hm hle => ?_⟩
  obtain ⟨k, hk, rfl⟩ := List.mem_map.mp hm
  have h1 := hle _ (List.mem_map.mpr ⟨_, maxL_mem l, rfl⟩)
  have h2 : k ≤ maxL l := by
    rcases List.mem_cons.mp hk with e | e
    · rw [e]; exact Nat.zero_le _
    · exact le_maxL e
  have : k = maxL l := by omega
  rw [this]
  exact q
theorem best_zeroR {G : GH} {l : List Nat} {Q : DQ} (q : Q (.int (maxL l : Nat)) G) : rBestD (fun x m => x ≤ m) [.lst (natsD l ++ [.int 0])] G Q := by
  have e : natsD l ++ [D.int 0] = natsD (l ++ [0]) := by simp [natsD]
  have cl : ∀ (G : GH), D.cur G (.lst (natsD (l ++ [0]))) = .lst (natsD (l ++ [0])) := fun _ => rfl
  rw [e]
  simp only [rBestD, cl, intsD_nats]
  refine ⟨by simp, fun m hm hle => ?_⟩
  obtain ⟨k, hk, rfl⟩ := List.mem_map.mp hm
  have hz : maxL l ∈ l ++ [0] := by
    rcases List.mem_cons.mp (maxL_mem l) with e | e
    · rw [e]; simp
    · simp [e]
  have h1 := hle _ (List.mem_map.mpr ⟨_, hz, rfl⟩)
  have h2 : k ≤ maxL l := by
    rcases List.mem_append.mp hk with e | e
    · exact le_maxL e
    · rw [List.mem_singleton.mp e]; exact Nat.zero_le _
  have : k = maxL l := by omega
  rw [this]
  exact q
def g3 (G : GH) (a b c : Addr) (x y z : MO) : GH := gput (gput (gput G a x) b y) c z
section
variable {G : GH} {a b c : Addr} {x y z x' : MO}
theorem g3_1 (ab : a ≠ b) (ac : a ≠ c) : g3 G a b c x y z a = some x := by unfold g3; rw [gput_ne ac, gput_ne ab, gput_same]
theorem g3_2 (bc : b ≠ c) : g3 G a b c x y z b = some y := by unfold g3; rw [gput_ne bc, gput_same]
theorem g3_3 : g3 G a b c x y z c = some z := gput_same
theorem gput_comm {G : GH} {a b : Addr} {x y : MO} (h : a ≠ b) : gput (gput G a x) b y = gput (gput G b y) a x := by
  funext d
  by_cases h1 : d = a
  · subst h1; rw [gput_ne h, gput_same, gput_same]
  · by_cases h2 : d = b
    · subst h2; rw [gput_same, gput_ne h1, gput_same]
    · rw [gput_ne h2, gput_ne h1, gput_ne h1, gput_ne h2]
theorem g3_p1 (ab : a ≠ b) (ac : a ≠ c) : gput (g3 G a b c x y z) a x' = g3 G a b c x' y z := by
  unfold g3
  rw [gput_comm (Ne.symm ac), gput_comm (Ne.symm ab), gput_gput]
theorem g3_p2 (bc : b ≠ c) : gput (g3 G a b c x y z) b x' = g3 G a b c x x' z := by
  unfold g3
  rw [gput_comm (Ne.symm bc), gput_gput]
theorem g3_p3 : gput (g3 G a b c x y z) c x' = g3 G a b c x y x' := gput_gput
end
def mtD (ks : List Nat) : List (Key × D) := ks.map fun (k : Nat) => (.inl (k : Int), .bl true)
theorem mtD_val (ks : List Nat) (t : Nat) : (valD (mtD ks) (.inl (t : Int))).isSome = decide (t ∈ ks) := by
  unfold valD mtD
  induction ks with
  | nil => rfl
  | cons k ks ih =>
    rw [List.map_cons, List.find?_cons]
    by_cases e : k = t
    · subst e; simp
    · have : decide ((Sum.inl (k : Int) : Key) = .inl (t : Int)) = false := by simp; omega
      simp only [this]
      rw [ih]
      simp [Ne.symm e]
theorem mtD_put {ks : List Nat} {t : Nat} (h : t ∉ ks) : putD (mtD ks) (.inl (t : Int)) (.bl true) = mtD (ks ++ [t]) := by
  have e : ((mtD ks).any fun kv => decide (kv.1 = (.inl (t : Int)))) = false := by
    rw [List.any_eq_false]
    intro kv hkv
    obtain ⟨k, hk, rfl⟩ := List.mem_map.mp hkv
    have : k ≠ t := fun e => h (e ▸ hk)
    simp
    omega
  unfold putD
  rw [e, if_neg (by simp)]
  simp [mtD]
theorem moves_tl {rs : List (List Mv)} {n : Nat} (tl : ∀ r ∈ rs, ∀ m ∈ r, m.t < n) {s c : Nat} : ∀ m ∈ movesAt rs s c, m.t < n := fun m hm => by
  unfold movesAt at hm
  have h := (List.mem_filter.mp hm).1
  rw [List.getD_eq_getElem?_getD] at h
  cases e : rs[s]? with
  | none => rw [e] at h; cases h
  | some r => rw [e] at h; exact tl r (List.mem_of_getElem? e) m h
theorem evW_tl {α : Type} {rs : List (List Mv)} {n c : Nat} (tl : ∀ r ∈ rs, ∀ m ∈ r, m.t < n) {W : List (α × Nat)} : ∀ x ∈ evW rs c W, x.2 < n := fun x hx => by
  unfold evW at hx
  obtain ⟨y, _, hy⟩ := List.mem_flatMap.mp hx
  obtain ⟨m, hm, rfl⟩ := List.mem_map.mp hy
  exact moves_tl tl m hm
theorem evW_succ {α : Type} {rs : List (List Mv)} {c : Nat} {W : List (α × Nat)} {i : Nat} {x : α × Nat} (h : W[i]? = some x) : evW rs c (W.take (i + 1)) = evW rs c (W.take i) ++ (movesAt rs x.2 c).map fun m => ((i, m.c), m.t) := by
  have hi := (List.getElem?_eq_some_iff.mp h).1
  unfold evW
  rw [List.take_add_one, h]
  simp only [Option.toList_some]
  rw [List.zipIdx_append, List.flatMap_append]
  congr 1
  simp [List.length_take, Nat.min_eq_left (Nat.le_of_lt hi)]
end Pace
end
section
set_option Elab.async false
set_option linter.all false
set_option maxRecDepth 100000
set_option maxHeartbeats 4000000
namespace DL
open PySem PySem.Spec PyProof.Rows L2
section
variable {X : Cx} {pos : Pos} {tg : Expr}
def diKeysK (te : DTE) : DTI := fun S G R => te S G fun d G1 => match d with
  | .rf p => (match G1 p with
    | some (.lkK o kvs kds) => R (kds.map fun kv => keyD kv.1) (fun G => G p = some (.lkK o kvs kds)) G1
    | _ => False)
  | _ => False
theorem di_keysK {e : Expr} {te : DTE} (h : DE X e te) : DI X tg e (diKeysK te) := by
  obtain ⟨t, p, r⟩ := h.ex
  refine ⟨_, pi_keys p, fun F H σ S G o R' h R k => ?_⟩
  refine r F H σ S G o _ h _ fun F1 H1 v d G1 e1 g1 q1 h1 => ?_
  dsimp only at h1
  split at h1
  · rename_i a
    split at h1
    · rename_i ob kvs kds ea
      cases q1
      obtain ⟨_, hh, hk, hr⟩ := g1.at_ a _ ea
      refine ⟨a, ob, rfl, .inl ⟨kvs, hh, k F1 H1 G1 _ _ _ e1 g1 ⟨fun F2 H2 G2 i d e2 g2 gd hd => ?_, fun F2 H2 G2 e2 g2 gd => ?_⟩ h1⟩⟩
      · obtain ⟨_, hh2, hk2, _⟩ := g2.at_ a _ gd
        rw [List.getElem?_map] at hd
        have hlen : kvs.length = kds.length := by simpa using congrArg List.length hk2
        cases ei : kds[i]? with
        | none => rw [ei] at hd; cases hd
        | some kv =>
          rw [ei] at hd
          cases hd
          have hi := (List.getElem?_eq_some_iff.mp ei).1
          refine ⟨⟨hh2, by omega⟩, fun x H3 hy => ?_⟩
          obtain ⟨rfl, kk, vv, hkv, rfl⟩ := hy
          have ek : kk = kv.1 := by
            have z := congrArg (fun l => l[i]?) hk2
            simp only [List.getElem?_map, hkv, ei, Option.map_some, Option.some.injEq] at z
            exact z
          subst ek
          exact ⟨F2, Go.refl, g2, keyD_rep _⟩
      · obtain ⟨_, hh2, hk2, _⟩ := g2.at_ a _ gd
        have hlen : kvs.length = kds.length := by simpa using congrArg List.length hk2
        exact ⟨hh2, by simp; omega⟩
    · exact h1.elim
  · exact h1.elim
/-- the dict at p is locked while the statement runs -/
def dLockK (t : DTS) : DTS := fun D' S G => ∃ p kds, G p = some (.dK kds) ∧ ∀ o kvs, t ⟨fun S' G' => G' p = some (.lkK o kvs kds) ∧ D'.nx S' (gput G' p (.dK kds)), fun d G' => G' p = some (.lkK o kvs kds) ∧ D'.rt d (gput G' p (.dK kds)),
  fun S' G' => G' p = some (.lkK o kvs kds) ∧ D'.bk S' (gput G' p (.dK kds)), fun S' G' => G' p = some (.lkK o kvs kds) ∧ D'.ct S' (gput G' p (.dK kds))⟩ S (gput G p (.lkK o kvs kds))
theorem dp_lockK {st : Stmt} {t' : DTS} (h : DP X st t') : DP X st (dLockK t') := by
  obtain ⟨t, p, r⟩ := h.ex
  refine ⟨_, ps_lock p, fun F H σ S G o D' h D0 k => ?_⟩
  obtain ⟨a, kds, ga, h⟩ := h
  obtain ⟨fa, kvs, ha, hk, hr⟩ := o.g.at_ a _ ga
  refine ⟨a, .dK kvs, ha, trivial, fun od => ?_⟩
  have g1 : Gok X.K F (upd H a (.frz od (.dK kvs))) (gput G a (.lkK od kvs kds)) := o.g.put ga rfl rfl ⟨upd_same, hk, hr⟩
  have back : ∀ F' H' G', Go F (upd H a (.frz od (.dK kvs))) (gput G a (.lkK od kvs kds)) F' H' G' → Gok X.K F' H' G' → G' a = some (.lkK od kvs kds) →
      H' a = some (.frz od (.dK kvs)) ∧ Gok X.K F' (upd H' a (.dK kvs)) (gput G' a (.dK kds)) ∧ Go F H G F' (upd H' a (.dK kvs)) (gput G' a (.dK kds)) := fun F' H' G' go g2 ga2 => by
    obtain ⟨fa2, hh2, hk2, hr2⟩ := g2.at_ a _ ga2
    exact ⟨hh2, g2.put ga2 rfl rfl ⟨kvs, upd_same, hk2, hr2⟩, ((Go.put (u := .frz od (.dK kvs)) ga).trans go).trans (Go.put ga2)⟩
  refine r F _ σ S _ ⟨g1, o.s⟩ _ (h od kvs) _ ⟨fun F' H' σ' S' G' go o2 q => ?_, fun F' H' v d G' go g2 rv q => ?_, fun F' H' σ' S' G' go o2 q => ?_, fun F' H' σ' S' G' go o2 q => ?_⟩
  · obtain ⟨b1, b2, b3⟩ := back F' H' G' go o2.g q.1
    exact ⟨b1, k.nx F' _ σ' S' _ b3 ⟨b2, o2.s⟩ q.2⟩
  · obtain ⟨b1, b2, b3⟩ := back F' H' G' go g2 q.1
    exact ⟨b1, k.rt F' _ v d _ b3 b2 rv q.2⟩
  · obtain ⟨b1, b2, b3⟩ := back F' H' G' go o2.g q.1
    exact ⟨b1, k.bk F' _ σ' S' _ b3 ⟨b2, o2.s⟩ q.2⟩
  · obtain ⟨b1, b2, b3⟩ := back F' H' G' go o2.g q.1
    exact ⟨b1, k.ct F' _ σ' S' _ b3 ⟨b2, o2.s⟩ q.2⟩
def rItemK : DR2 := fun x y G Q => match x with
  | .rf p => (match G p with
    | some (.lkK _ _ kds) => (match y.key with
      | some k => (match valD kds k with
        | some d => Q d G
        | none => False)
      | none => False)
    | _ => False)
  | _ => False
theorem de_ixK {a b : Expr} {ta tb : DTE} (hu : X.A.units + 100 < cLine) (ha : DE X a ta) (hb : DE X b tb) (hs : PlainIx b := by intro _ _; rfl) : DE X (.Subscript a b pos) (dOp rItemK ta tb) := by
  obtain ⟨t1, p1, r1⟩ := ha.ex
  obtain ⟨t2, p2, r2⟩ := hb.ex
  refine ⟨_, pe_ix (ix_dict hu) p1 p2 hs, dop_of (a := a) (b := b) ?_ r1 r2⟩
  intro F H G x y dx dy g rx ry Q' h Q k
  unfold rItemK at h
  split at h
  · rename_i p
    split at h
    · rename_i o kvs kds gp
      split at h
      · rename_i kk ek
        split at h
        · rename_i d ed
          obtain ⟨_, hh, hk, hr⟩ := g.at_ p _ gp
          cases rx
          have ey := ry.key ek
          subst ey
          have kr : KR X.K F kvs kds := ⟨hk, hr⟩
          obtain ⟨z, h1, h2⟩ := kr.val.1 d ed
          exact ⟨p, z, rfl, .inl ⟨kvs, kk, .inr ⟨o, hh⟩, rfl, h1.symm⟩, k F H _ _ G Go.refl g h2 h⟩
        · exact h.elim
      · exact h.elim
    · exact h.elim
  · exact h.elim
end
end DL
end
section
set_option Elab.async false
set_option linter.all false
set_option maxRecDepth 100000
set_option maxHeartbeats 4000000
namespace DL
open PySem PySem.Spec PyProof.Rows L2
section
variable {X : Cx} {pos : Pos}
def strKeys : List (Key × D) → Option (List Str)
  | [] => some []
  | (.inr x, _) :: r => (strKeys r).map (x :: ·)
  | _ => none
theorem strKeys_map : ∀ {kds : List (Key × D)} {xs : List Str}, strKeys kds = some xs → kds.map (·.1) = xs.map Sum.inr
  | [], xs, h => by cases h; rfl
  | (.inr x, d) :: r, xs, h => by
    unfold strKeys at h
    obtain ⟨ys, hy, rfl⟩ := Option.map_eq_some_iff.mp h
    simp [strKeys_map hy]
  | (.inl i, d) :: r, xs, h => by cases h
end
end DL
end
section
set_option Elab.async false
set_option linter.all false
set_option maxRecDepth 100000
set_option maxHeartbeats 4000000
namespace DL
open PySem PySem.Spec PyProof.Rows L2 PySem.W
end DL
end
section
set_option Elab.async false
set_option linter.all false
set_option maxRecDepth 100000
set_option maxHeartbeats 4000000
namespace DL
open PySem PySem.Spec PyProof.Rows L2 PySem.W
section
variable {X : Cx} {pos : Pos}
def vUpdK : V → List V → Hp → VK → Prop := fun x vs H Q => ∃ (a b : Addr) (kvs mvs : List (Key × V)), x = .ref a ∧ vs = [.ref b] ∧ a ≠ b ∧ H a = some (.dK kvs) ∧ H b = some (.dK mvs) ∧ kvs.length + mvs.length ≤ sizeLine ∧ Q .non (upd H a (.dK (mergeK kvs mvs)))
theorem mt_updK : MtR X "dict.update" vUpdK := by
  intro pins s σ H x xs v us Q I rx rxs h
  obtain ⟨a, b, kvs, mvs, rfl, rfl, ne, ha, hb, hz, q⟩ := h
  cases rx
  rw [Vals.ref1 rxs]
  obtain ⟨z, hd, vs, rel, dd⟩ := dk_of I.hok ha
  obtain ⟨z2, hd2, ws, rel2, dd2⟩ := dk_of I.hok hb
  refine call_meetsIn PySem.F.slot_dict_update dd.typeIs PySem.F.entry_dict_update (PySem.F.args_dict_update_2 _ _) (meets_dict_update (mixKind X.prog X.w) a b ne hd2) ⟨vs, ws, dd, dd2, by rw [← rel.length, ← rel2.length]; exact hz, fun h' dd' _ hs => ?_⟩
  have hl : (mergeK kvs mvs).length ≤ sizeLine := Nat.le_trans (length_mergeK mvs kvs) hz
  exact (⟨.non, _, d_write (t' := s.toks) I (by rw [ha]; exact True.intro) hs (let ⟨q, _, _, hq, _⟩ := dd'; ⟨q, hq⟩) (dk_new hl hd (rel2.merge rel) dd'), rfl, q⟩ : EP X pins σ Q _ _)
theorem KR.mergeU {K : PySem.W.Frag} {F : Hp} : ∀ {mvs : List (Key × V)} {ms : List (Key × D)} {kvs : List (Key × V)} {kds : List (Key × D)}, KR K F mvs ms → KR K F kvs kds → KR K F (mergeK kvs mvs) (mergeN kds ms)
  | [], [], _, _, _, h => h
  | [], _ :: _, _, _, r, _ => by have := r.ks; simp at this
  | _ :: _, [], _, _, r, _ => by have := r.ks; simp at this
  | (k, v) :: mvs, (k', d) :: ms, kvs, kds, r, h => by
    obtain ⟨k1, k2⟩ := r
    simp only [List.map_cons, List.cons.injEq] at k1
    obtain ⟨rfl, k1⟩ := k1
    cases k2 with
    | cons r1 r2 => exact KR.mergeU (mvs := mvs) (ms := ms) ⟨k1, r2⟩ (h.put r1)
def rUpdK (x : D) (ds : List D) (G : GH) (Q : DQ) : Prop := match x, ds with
  | .rf a, [.dK ms] => (match G a with
    | some (.dK kds) => kds.length + ms.length ≤ sizeLine ∧ Q .non (gput G a (.dK (mergeN kds ms)))
    | _ => False)
  | _, _ => False
theorem md_updK : MtD X "dict.update" rUpdK := by
  refine ⟨_, mt_updK, fun F H G x dx vs ds g rx rs Q' h Q k => ?_⟩
  unfold rUpdK at h
  split at h
  · rename_i a ms
    split at h
    · rename_i kds eg
      cases rx
      cases rs with
      | cons r b =>
        cases b
        obtain ⟨fa, kvs, ha, hk, hr⟩ := g.at_ a _ eg
        cases r with
        | dK hb kb rb =>
          rename_i b mvs
          have ne : a ≠ b := fun e => by rw [e, hb] at fa; cases fa
          have k1 : KR X.K F kvs kds := ⟨hk, hr⟩
          have k2 : KR X.K F mvs ms := ⟨kb, rb⟩
          refine ⟨a, b, kvs, mvs, rfl, rfl, ne, ha, g.ex _ _ hb, by rw [k1.len, k2.len]; exact h.1, ?_⟩
          have k3 := KR.mergeU k2 k1
          exact k F _ _ _ _ (Go.put eg) (g.put (o := .dK (mergeN kds ms)) eg rfl rfl ⟨_, upd_same, k3.ks, k3.vs⟩) .non h.2
    · exact h.elim
  · exact h.elim
def dLockEK (t : DTE) : DTE := fun S G Q => ∃ p kds, G p = some (.dK kds) ∧ ∀ o kvs, t S (gput G p (.lkK o kvs kds)) fun d G' => G' p = some (.lkK o kvs kds) ∧ Q d (gput G' p (.dK kds))
theorem de_lockK {e : Expr} {t' : DTE} (h : DE X e t') : DE X e (dLockEK t') := by
  obtain ⟨t, p, r⟩ := h.ex
  refine ⟨_, pe_lock p, fun F H σ S G o Q' h Q k => ?_⟩
  obtain ⟨a, kds, ga, h⟩ := h
  obtain ⟨fa, kvs, ha, hk, hr⟩ := o.g.at_ a _ ga
  refine ⟨a, .dK kvs, ha, trivial, fun od => ?_⟩
  have g1 : Gok X.K F (upd H a (.frz od (.dK kvs))) (gput G a (.lkK od kvs kds)) := o.g.put ga rfl rfl ⟨upd_same, hk, hr⟩
  refine r F _ σ S _ ⟨g1, o.s⟩ _ (h od kvs) _ fun F' H' v d G' go g2 rv q => ?_
  obtain ⟨ga2, q⟩ := q
  obtain ⟨fa2, hh2, hk2, hr2⟩ := g2.at_ a _ ga2
  refine ⟨hh2, ?_⟩
  have g3 : Gok X.K F' (upd H' a (.dK kvs)) (gput G' a (.dK kds)) := g2.put ga2 rfl rfl ⟨kvs, upd_same, hk2, hr2⟩
  refine k F' _ v d _ ?_ g3 rv q
  exact ((Go.put (u := .frz od (.dK kvs)) ga).trans go).trans (Go.put ga2)
theorem each_valsS : ∀ {l : List Value} {ys : List Str}, EachIs (fun v (x : Str) => RelV (.str x) v) l ys → Vals (ys.map V.str) l
  | _, _, .nil => .nil
  | _, _, .cons a t => .cons a (each_valsS t)
theorem crk_sortYR (hu : X.A.units + 100 < cLine) (hc : X.calm = true) : CallRK X (.builtin "sorted") [Str.ofString "reverse"] (fun vs zs H Q => ∃ (a : Addr) (kvs : List (Key × V)) (xs : List Str), vs = [.ref a] ∧ zs = [.bl true] ∧ Rd H a (.dK kvs) ∧ kvs.map (·.1) = xs.map Sum.inr ∧ xs.length < 100000 ∧
    ∀ (p : Addr), H p = none → Q (.ref p) (upd H p (.lst ((xs.mergeSort (dataLe true PyData.str)).map V.str)))) := by
  intro pins s σ H vs zs us ws0 Q I r rz h
  obtain ⟨a, kvs, xs, rfl, rfl, hd, hk, hz, q⟩ := h
  rw [Vals.ref1 r]
  obtain ⟨w1, rfl, e1⟩ := vals1 rz
  obtain rfl : w1 = Value.bool true := e1
  show wpAny (model X.prog X.w) X.A (call (.builtin "sorted") [.ref a] [(Str.ofString "reverse", .bool true)]) _ _ s
  obtain ⟨z, lo, ws, rel, dd⟩ := dk_rd I.hok hd
  obtain ⟨ep, hat⟩ := dd.dictAt
  have wk : ws.map (·.1) = xs.map Sum.inr := rel.keys.symm.trans hk
  have wl : ws.length = xs.length := by simpa using congrArg List.length wk
  have big : 100000 < sizeLine := by rw [sizeLine_eq]; omega
  refine PyProof.Rows.call_function_entry_kw PyProof.Rows.kind_sorted PyProof.Rows.plain_sorted PyProof.Rows.entry_sorted (PyProof.Rows.args_sorted_rev _ _) ?_
  unfold Builtin.«sorted»
  refine wpAny_bind (m := checkCount "sorted" 1 1 _) (wpAny_pure ?_)
  refine wpAny_bind (PySem.W.kdu_collect (A := X.A.in1) (PySem.W.kdl_dict (knd := mixKind X.prog X.w) (kvs := ws) (ep := ep) lo) (I.ok.hd hc) hat (by omega) fun h' tk acc hs hacc => ?_)
  have al : acc.toList.length = xs.length := by rw [Array.length_toList, hacc.1, wl]
  have at_ : ∀ (j : Nat) (v : Value), acc.toList[j]? = some v → ∃ x t, xs[j]? = some x ∧ v = .str x t := fun j v e => by
    obtain ⟨k, x, e1, e2⟩ := hacc.2 j v (by rw [← Array.getElem?_toList]; exact e)
    have e3 : (xs.map (Sum.inr (α := Int)))[j]? = some k := by rw [← wk, List.getElem?_map, e1]; rfl
    obtain ⟨n, e4, rfl⟩ : ∃ n, xs[j]? = some n ∧ Sum.inr n = k := by
      rw [List.getElem?_map] at e3
      cases e4 : xs[j]? with
      | none => rw [e4] at e3; cases e3
      | some n => rw [e4] at e3; exact ⟨n, rfl, by simpa using e3⟩
    rcases keyIs_shape (show keyIs (Sum.inr n) v = true from e2) with ⟨i, t, ek, ev⟩ | ⟨y, t, ek, ev⟩
    · cases ek
    · cases ek
      exact ⟨n, t, e4, ev⟩
  have each : ∀ (l : List Value) (ys : List Str), l.length = ys.length → (∀ (j : Nat) (v : Value), l[j]? = some v → ∃ x t, ys[j]? = some x ∧ v = .str x t) → EachIs (fun v (x : Str) => RelV (.str x) v) l ys := by
    intro l
    induction l with
    | nil => intro ys hl _; cases ys with
      | nil => exact .nil
      | cons y ys => simp at hl
    | cons v l ih =>
      intro ys hl hat
      cases ys with
      | nil => simp at hl
      | cons y ys =>
        obtain ⟨x, t, hx, rfl⟩ := hat 0 v rfl
        obtain rfl : y = x := by simpa using hx
        exact .cons ⟨t, rfl⟩ (ih ys (by simpa using hl) fun j v hv => by simpa using hat (j + 1) v (by simpa using hv))
  have x1 := each _ _ al at_
  have x3 : acc.toList.length ≤ sizeLine := by rw [al]; omega
  have I1 : Inv X pins σ H { s with heap := h', toks := tk } := I.kept hs
  refine wpAny_bind (wpAny_newList ?_ x3)
  have atL : (h'.push (seqObj "list" acc.toList.toArray 0)).get? h'.objs.size = some (seqObj "list" acc.toList.toArray 0) := Heap.get?_push_size _ rfl
  show wpAny _ _ _ _ _ { s with heap := h'.push (seqObj "list" acc.toList.toArray 0), toks := tk }
  have alike_ : AllAlike (xs.map PyData.str) := fun d hd e he => by
    obtain ⟨x, _, rfl⟩ := List.mem_map.mp hd
    obtain ⟨y, _, rfl⟩ := List.mem_map.mp he
    rfl
  have sortable_ : Sortable (xs.map PyData.str) := .inr fun d hd => by
    obtain ⟨x, _, rfl⟩ := List.mem_map.mp hd
    exact ⟨by simp, fun ys => by simp⟩
  refine wpAny_bind (wpAny_holding (list_sort_rev_data (enc := PyData.str) (s := { s with heap := h'.push (seqObj "list" acc.toList.toArray 0), toks := tk }) atL x1 (x1.mono fun v x r => ?_) alike_ sortable_ (by omega) (fun x _ => ?_) fun out ol eo => ?_))
  · obtain ⟨t, rfl⟩ := r
    exact ⟨[], Reads.str x t, by simp⟩
  · show _ + 1 + 0 < cLine
    simp only [Around.in1_units]
    omega
  · obtain ⟨e', he'⟩ := sortedHeap_at (vs := acc.toList) (out := out.toArray) atL
    refine wpAny_pure ⟨_, rfl, .ref h'.objs.size, upd H h'.objs.size (.lst ((xs.mergeSort (dataLe true PyData.str)).map V.str)), I1.laid (t' := tk) (fun b u e => ?_) (Nat.le_refl _)
      (show ObjOk X.prog X.w _ _ _ (.lst _) from ⟨by rw [List.length_map, List.length_mergeSort]; omega, _, e', each_valsS eo, by simpa using he'⟩), rfl, q _ (I1.hok.fresh (Nat.le_refl _))⟩
    have hb : b < h'.objs.size := Heap.lt_size e
    rw [PyProof.Rows.sortedHeap_old (Nat.ne_of_lt hb) (by rw [size_push']; exact Nat.lt_succ_of_lt hb)]
    exact Heap.get?_push_of_some _ e
def rSortYR (ds : List D) (G : GH) (Q : DQ) : Prop := match ds with
  | [d] => (match d.cur G with
    | .dK kds => (match strKeys kds with
      | some xs => xs.length < 100000 ∧ Q (.lst ((xs.mergeSort (dataLe true PyData.str)).map .str)) G
      | none => False)
    | _ => False)
  | _ => False
theorem de_sortYR {x : Str} {e : Expr} {ta : DTA} {p kpos cpos : Pos} {jj} (hu : X.A.units + 100 < cLine) (hc : X.calm = true) (hg : Gl X x) (hm : X.mg x = none) (hv : bootBuiltins x = some (.builtin "sorted")) (ha : DA X [e] ta)
    (hn : x ≠ "__name__" := by decide) (hdb : (x == ("__debug__" : Str)) = false := by decide)
    (he : backTo pos (starEach (e :: []) X.env) = (false, eval e X.env) :: backTo pos (starEach [] X.env) := by rfl) (hpl : (backTo pos (starEach (e :: []) X.env)).any (·.1) = false := by rfl) :
    DE X (.Call (.Name x p) [e] [⟨some "reverse", .Constant (.bool true) jj cpos, kpos⟩] pos) (dCB rSortYR ta) := by
  obtain ⟨t, p1, r⟩ := ha.ex
  refine ⟨_, pe_callBK (crk_sortYR hu hc) hg hm hv p1 (pk_cons pe_bl pk_nil) hn hdb he hpl, fun F H σ S G o Q' h Q k => ?_⟩
  refine r F H σ S G o _ h _ fun F1 H1 vs ds G1 e1 g1 q1 h1 => ?_
  have h1 : rSortYR ds G1 Q' := h1
  unfold rSortYR at h1
  split at h1
  · rename_i d
    cases q1 with
    | cons a b =>
      cases b
      split at h1
      · rename_i kds ex
        split at h1
        · rename_i xs en
          obtain ⟨a', kvs, rfl, ha', kr⟩ := cur_dK g1 a ex
          refine ⟨a', kvs, xs, rfl, rfl, .inl ha', by rw [kr.ks, strKeys_map en], h1.1, fun p hp => ?_⟩
          have gr := Gr.new (u := .lst ((xs.mergeSort (dataLe true PyData.str)).map V.str)) g1.ex hp
          exact k _ _ _ _ G1 (e1.trans gr.go) (g1.grow gr) (.lst upd_same (Reps.strs _)) h1.2
        · exact h1.elim
      · exact h1.elim
  · exact h1.elim
end
end DL
end
section
set_option Elab.async false
set_option linter.all false
set_option maxRecDepth 100000
set_option maxHeartbeats 4000000
namespace Pace
open PySem PySem.Spec PyProof.Rows L2 DL
def capK (l : List (List Nat × Nat)) : List (Key × D) := l.map fun x => (.inr (strOf x.1), .int (x.2 : Nat))
theorem strOf_injO {a b : List Nat} (h : strOf a = strOf b) : a = b := by
  have := congrArg (fun s : Str => s.cps.toList) h
  simpa [strOf] using this
theorem putD_fresh {κ : Type} [DecidableEq κ] {kds : List (κ × D)} {k : κ} {d : D} (h : ∀ x ∈ kds, x.1 ≠ k) : putD kds k d = kds ++ [(k, d)] := by
  unfold putD
  have : (kds.any fun kv => decide (kv.1 = k)) = false := List.any_eq_false.mpr fun x hx => by simp [h x hx]
  rw [this, if_neg (by simp)]
theorem merge_new {κ : Type} [DecidableEq κ] : ∀ (ms kds : List (κ × D)), ((kds ++ ms).map (·.1)).Nodup → ms.foldl (fun acc x => putD acc x.1 x.2) kds = kds ++ ms
  | [], kds, _ => by simp
  | m :: ms, kds, h => by
    have h1 : ∀ x ∈ kds, x.1 ≠ m.1 := fun x hx e => by
      rw [List.map_append, List.nodup_append] at h
      exact h.2.2 _ (List.mem_map.mpr ⟨x, hx, rfl⟩) _ (List.mem_map.mpr ⟨m, by simp, rfl⟩) e
    rw [List.foldl_cons, putD_fresh h1, merge_new ms (kds ++ [(m.1, m.2)]) (by rw [List.append_assoc]; exact h), List.append_assoc]
    rfl
theorem capK_nodup {l : List (List Nat × Nat)} (h : l.Pairwise fun x y => x.1 < y.1) : ((capK l).map (·.1)).Nodup := by
  unfold capK
  rw [List.map_map]
  refine List.pairwise_map.mpr (h.imp fun {x y} hxy e => ?_)
  have : x.1 = y.1 := strOf_injO (by simpa using e)
  rw [this] at hxy
  exact absurd hxy (List.lt_irrefl _)
theorem capK_val {l : List (List Nat × Nat)} (h : l.Pairwise fun x y => x.1 < y.1) {x : List Nat × Nat} (hx : x ∈ l) : valD (capK l) (.inr (strOf x.1)) = some (.int (x.2 : Nat)) := by
  induction l with
  | nil => cases hx
  | cons y l ih =>
    rw [List.pairwise_cons] at h
    unfold valD capK
    rw [List.map_cons, List.find?_cons]
    rcases List.mem_cons.mp hx with rfl | hx
    · simp
    · have ne : ¬ strOf y.1 = strOf x.1 := fun e => by
        have := h.1 x hx
        rw [strOf_injO e] at this
        exact absurd this (List.lt_irrefl _)
      have : decide ((Sum.inr (strOf y.1) : Key) = .inr (strOf x.1)) = false := by simp [ne]
      simp only [this]
      exact ih h.2 hx
theorem strKeys_capK (l : List (List Nat × Nat)) : strKeys (capK l) = some (l.map fun x => strOf x.1) := by
  induction l with
  | nil => rfl
  | cons x l ih =>
    show (strKeys (capK l)).map (strOf x.1 :: ·) = _
    rw [ih]; rfl
theorem prsK_cap (l : List (List Nat × Nat)) : prsK (l.map capD) = some (capK l) := by
  induction l with
  | nil => rfl
  | cons x l ih =>
    show (match (D.str (strOf x.1)).key, prsK (l.map capD) with
      | some k, some r => some ((k, D.int (x.2 : Nat)) :: r)
      | _, _ => none) = _
    rw [ih]; rfl
theorem lt_strOf (a b : List Nat) : decide ((strOf a).cps.toList < (strOf b).cps.toList) = decide (a < b) := by
  have e : ∀ x : List Nat, (strOf x).cps.toList = x := fun x => by simp [strOf]
  by_cases h : a < b
  · rw [decide_eq_true h]
    exact decide_eq_true (by rw [e, e]; exact h)
  · rw [decide_eq_false h]
    exact decide_eq_false (by rw [e, e]; exact h)
theorem le_not_lt (a b : List Nat) : decide (b ≤ a) = !decide ((strOf a).cps.toList < (strOf b).cps.toList) := by
  rw [lt_strOf]
  by_cases h : a < b
  · rw [decide_eq_true h]
    exact decide_eq_false (List.not_le.mpr h)
  · rw [decide_eq_false h]
    exact decide_eq_true (List.not_lt.mp h)
theorem rev_sorted {l : List (List Nat × Nat)} (h : l.Pairwise fun x y => x.1 < y.1) : (l.map fun x => strOf x.1).mergeSort (PySem.W.dataLe true PyData.str) = l.reverse.map fun x => strOf x.1 := by
  have e1 : (l.map fun x => strOf x.1) = (l.map (·.1)).map strOf := by rw [List.map_map]; rfl
  have e2 : (l.reverse.map fun x => strOf x.1) = ((l.map (·.1)).reverse).map strOf := by rw [← List.map_reverse, List.map_map]; rfl
  rw [e1, e2, ← PySem.W.sort_maps (r := fun a b : List Nat => decide (b ≤ a)) strOf fun a _ b _ => ?_]
  · congr 1
    refine List.Perm.eq_of_pairwise (le := fun a b : List Nat => b ≤ a) (fun a b _ _ h1 h2 => List.le_antisymm h2 h1) ((List.pairwise_mergeSort (le := fun a b : List Nat => decide (b ≤ a)) (fun a b c h1 h2 => ?_) (fun a b => ?_) _).imp fun h => of_decide_eq_true h) ?_ ((List.mergeSort_perm _ _).trans (List.reverse_perm _).symm)
    · simp only [decide_eq_true_eq] at h1 h2 ⊢
      exact List.le_trans h2 h1
    · simp only [Bool.or_eq_true, decide_eq_true_eq]
      exact List.le_total b a
    · rw [List.pairwise_reverse, List.pairwise_map]
      exact h.imp fun hxy => List.le_of_lt hxy
  · show decide (b ≤ a) = (!PySem.W.dataLt (.str (strOf a)) (.str (strOf b)))
    rw [PySem.W.dataLt_str]
    exact le_not_lt a b
def putL (l : List (Nat × List Nat)) (t : Nat) (u : List Nat) : List (Nat × List Nat) := if (l.any fun p => decide (p.1 = t)) = true then l.map (fun p => if p.1 = t then (p.1, u) else p) else l ++ [(t, u)]
def fsR : List (List Nat × Nat) → List (Nat × List Nat)
  | [] => []
  | x :: C => putL (fsR C) x.2 x.1
def fsD (l : List (Nat × List Nat)) : List (Key × D) := l.map fun p => (.inl (p.1 : Int), .str (strOf p.2))
theorem fsD_put (l : List (Nat × List Nat)) (t : Nat) (u : List Nat) : putD (fsD l) (.inl (t : Int)) (.str (strOf u)) = fsD (putL l t u) := by
  have ea : ((fsD l).any fun kv => decide (kv.1 = (.inl (t : Int) : Key))) = l.any fun p => decide (p.1 = t) := by
    unfold fsD
    rw [List.any_map]
    congr 1
    funext p
    show decide ((Sum.inl (p.1 : Int) : Key) = .inl (t : Int)) = _
    rw [decide_eq_decide]
    constructor
    · intro h; have := Sum.inl.inj h; omega
    · rintro rfl; rfl
  unfold putD putL
  rw [ea]
  by_cases h : (l.any fun p => decide (p.1 = t)) = true
  · rw [if_pos h, if_pos h]
    unfold fsD
    rw [List.map_map, List.map_map]
    refine List.map_congr_left fun p _ => ?_
    show (if (Sum.inl (p.1 : Int) : Key) = .inl (t : Int) then _ else _) = _
    by_cases e : p.1 = t
    · subst e; simp
    · rw [if_neg (fun z => e (by have := Sum.inl.inj z; omega))]
      simp [e]
  · rw [if_neg h, if_neg h]
    simp [fsD]
theorem putL_mem {l : List (Nat × List Nat)} {t k : Nat} {u v : List Nat} : (t, u) ∈ putL l k v ↔ (t = k ∧ u = v) ∨ (t ≠ k ∧ (t, u) ∈ l) := by
  unfold putL
  by_cases h : (l.any fun p => decide (p.1 = k)) = true
  · rw [if_pos h, List.mem_map]
    constructor
    · rintro ⟨p, hp, e⟩
      by_cases hk : p.1 = k
      · rw [if_pos hk] at e
        cases e
        exact .inl ⟨hk, rfl⟩
      · rw [if_neg hk] at e
        subst e
        exact .inr ⟨hk, hp⟩
    · rintro (⟨rfl, rfl⟩ | ⟨h1, h2⟩)
      · obtain ⟨p, hp, e⟩ := List.any_eq_true.mp h
        have e := of_decide_eq_true e
        exact ⟨p, hp, by rw [if_pos e, e]⟩
      · exact ⟨_, h2, by rw [if_neg h1]⟩
  · rw [if_neg h, List.mem_append, List.mem_singleton]
    have nk : ∀ p ∈ l, p.1 ≠ k := fun p hp e => h (List.any_eq_true.mpr ⟨p, hp, decide_eq_true e⟩)
    constructor
    · rintro (h1 | h1)
      · exact .inr ⟨nk _ h1, h1⟩
      · cases h1; exact .inl ⟨rfl, rfl⟩
    · rintro (⟨rfl, rfl⟩ | ⟨_, h2⟩)
      · exact .inr rfl
      · exact .inl h2
theorem putL_nodup {l : List (Nat × List Nat)} {k : Nat} {v : List Nat} (h : (l.map (·.1)).Nodup) : ((putL l k v).map (·.1)).Nodup := by
  unfold putL
  by_cases hk : (l.any fun p => decide (p.1 = k)) = true
  · rw [if_pos hk, List.map_map]
    have : ((fun p : Nat × List Nat => p.1) ∘ fun p => if p.1 = k then (p.1, v) else p) = fun p => p.1 := by
      funext p
      show (if p.1 = k then (p.1, v) else p).1 = p.1
      split <;> rfl
    rw [this]
    exact h
  · rw [if_neg hk, List.map_append, List.nodup_append]
    refine ⟨h, by simp, fun a ha b hb e => ?_⟩
    obtain ⟨p, hp, rfl⟩ := List.mem_map.mp ha
    have hb : b = k := by simpa using hb
    exact hk (List.any_eq_true.mpr ⟨p, hp, decide_eq_true (e.trans hb)⟩)
theorem fsR_nodup : ∀ C : List (List Nat × Nat), ((fsR C).map (·.1)).Nodup
  | [] => List.nodup_nil
  | x :: C => putL_nodup (fsR_nodup C)
theorem dedS_drop {α : Type} : ∀ (l : List (α × Nat)) (T : List Nat) (k : Nat) (y : α × Nat), y ∈ dedS (k :: T) l ↔ y ∈ dedS T l ∧ y.2 ≠ k
  | [], _, _, _ => by simp [dedS]
  | x :: l, T, k, y => by
    rw [dedS_cons, dedS_cons]
    by_cases hT : x.2 ∈ T
    · rw [if_pos (by simp [hT]), if_pos hT]
      exact dedS_drop l T k y
    · by_cases hk : x.2 = k
      · rw [if_pos (by simp [hk]), if_neg hT, List.mem_cons]
        subst hk
        constructor
        · intro h
          have n := dedS_not l (x.2 :: T) y h
          exact ⟨.inr h, fun e => n (by simp [e])⟩
        · rintro ⟨rfl | h, e⟩
          · exact absurd rfl e
          · exact h
      · rw [if_neg (by simp [hk, hT]), if_neg hT, List.mem_cons, List.mem_cons]
        have ih := dedS_drop l (x.2 :: T) k y
        rw [dedS_congr (T := x.2 :: k :: T) (T' := k :: x.2 :: T) fun z => by simp only [List.mem_cons]; constructor <;> (rintro (h | h | h) <;> simp [h]), ih]
        constructor
        · rintro (rfl | ⟨h1, h2⟩)
          · exact ⟨.inl rfl, hk⟩
          · exact ⟨.inr h1, h2⟩
        · rintro ⟨rfl | h1, h2⟩
          · exact .inl rfl
          · exact .inr ⟨h1, h2⟩
theorem fsR_mem : ∀ (C : List (List Nat × Nat)) (t : Nat) (u : List Nat), (t, u) ∈ fsR C ↔ (u, t) ∈ dedS [] C
  | [], t, u => by simp [fsR, dedS]
  | x :: C, t, u => by
    rw [fsR, putL_mem, fsR_mem C t u, dedS_cons, if_neg (by simp), List.mem_cons, dedS_drop]
    constructor
    · rintro (⟨rfl, rfl⟩ | ⟨h1, h2⟩)
      · exact .inl rfl
      · exact .inr ⟨h2, h1⟩
    · rintro (h | ⟨h1, h2⟩)
      · rw [← h]; exact .inl ⟨rfl, rfl⟩
      · exact .inr ⟨h2, h1⟩
theorem fsR_val (C : List (List Nat × Nat)) {p : Nat × List Nat} (h : p ∈ fsR C) : valD (fsD (fsR C)) (.inl (p.1 : Int)) = some (.str (strOf p.2)) := by
  have nd := fsR_nodup C
  generalize fsR C = l at h nd
  induction l with
  | nil => cases h
  | cons y l ih =>
    rw [List.map_cons, List.nodup_cons] at nd
    unfold valD fsD
    rw [List.map_cons, List.find?_cons]
    rcases List.mem_cons.mp h with rfl | h
    · simp
    · have ne : y.1 ≠ p.1 := fun e => nd.1 (by rw [e]; exact List.mem_map.mpr ⟨p, h, rfl⟩)
      have : decide ((Sum.inl (y.1 : Int) : Key) = .inl (p.1 : Int)) = false := decide_eq_false fun e => ne (by have := Sum.inl.inj e; omega)
      simp only [this]
      exact ih h nd.2
theorem cap_lt {x y : List Nat × Nat} (h : x.1 ≠ y.1) : PySem.W.dataLt (capD x).py (capD y).py = decide (x.1 < y.1) := by
  show PySem.W.dataLt (.tuple [.str (strOf x.1), .int (x.2 : Int)]) (.tuple [.str (strOf y.1), .int (y.2 : Int)]) = _
  have : ¬ PyData.eqv (.str (strOf x.1)) (.str (strOf y.1)) = true := by
    show ¬ D.eqv (.str (strOf x.1)) (.str (strOf y.1)) = true
    rw [eqv_str]
    intro z
    exact h (strOf_injO (by simpa using z))
  rw [PySem.W.dataLt_pair rfl rfl, if_neg this, PySem.W.dataLt_str]
  exact lt_strOf _ _
/-- the states by their first texts, ascending -/
theorem order_sorted {C : List (List Nat × Nat)} (h : C.Pairwise fun x y => x.1 < y.1) : sortD ((fsR C).map fun p => capD (p.2, p.1)) = (dedS [] C).map capD := by
  have hd : (dedS [] C).Pairwise fun x y => x.1 < y.1 := h.sublist (dedS_sub _ _)
  have pm : ((fsR C).map fun p => (p.2, p.1)).Perm (dedS [] C) := by
    have n1 : ((fsR C).map fun p => (p.2, p.1)).Nodup := by
      refine List.pairwise_map.mpr ((List.pairwise_map.mp (fsR_nodup C)).imp fun {a b} hab e => hab ?_)
      exact congrArg (·.2) e
    have n2 : (dedS [] C).Nodup := hd.imp fun {a b} hab e => by rw [e] at hab; exact absurd hab (List.lt_irrefl _)
    refine (List.perm_ext_iff_of_nodup n1 n2).mpr fun x => ?_
    rw [List.mem_map]
    constructor
    · rintro ⟨p, hp, rfl⟩
      exact (fsR_mem C p.1 p.2).mp hp
    · intro hx
      exact ⟨(x.2, x.1), (fsR_mem C x.2 x.1).mpr hx, rfl⟩
  have e1 : (fsR C).map (fun p => capD (p.2, p.1)) = ((fsR C).map fun p => (p.2, p.1)).map capD := by rw [List.map_map]; rfl
  rw [e1]
  generalize ((fsR C).map fun p => (p.2, p.1)) = L at pm
  have inj : ∀ a ∈ L, ∀ b ∈ L, a.1 = b.1 → a = b := fun a ha b hb e => by
    have ha := pm.mem_iff.mp ha
    have hb := pm.mem_iff.mp hb
    generalize dedS [] C = M at hd ha hb
    clear pm h
    induction M with
    | nil => cases ha
    | cons y M ih =>
      rw [List.pairwise_cons] at hd
      rcases List.mem_cons.mp ha with ea | ha' <;> rcases List.mem_cons.mp hb with eb | hb'
      · rw [ea, eb]
      · have := hd.1 b hb'
        rw [← e, ea] at this
        exact absurd this (List.lt_irrefl _)
      · have := hd.1 a ha'
        rw [e, eb] at this
        exact absurd this (List.lt_irrefl _)
      · exact ih hd.2 ha' hb'
  unfold sortD
  rw [← PySem.W.sort_maps (r := fun a b : List Nat × Nat => decide (a.1 ≤ b.1)) capD fun a ha b hb => ?_]
  · congr 1
    refine List.Perm.eq_of_pairwise (le := fun a b : List Nat × Nat => a.1 ≤ b.1) (fun a b ha hb h1 h2 => ?_) ((List.pairwise_mergeSort (le := fun a b : List Nat × Nat => decide (a.1 ≤ b.1)) (fun a b c h1 h2 => ?_) (fun a b => ?_) _).imp fun h => of_decide_eq_true h) (hd.imp fun hxy => List.le_of_lt hxy) ((List.mergeSort_perm _ _).trans pm)
    · exact inj a ((List.mergeSort_perm _ _).mem_iff.mp ha) b (pm.mem_iff.mpr hb) (List.le_antisymm h1 h2)
    · simp only [decide_eq_true_eq] at h1 h2 ⊢
      exact List.le_trans h1 h2
    · simp only [Bool.or_eq_true, decide_eq_true_eq]
      exact List.le_total _ _
  · show decide (a.1 ≤ b.1) = (!PySem.W.dataLt (capD b).py (capD a).py)
    by_cases e : a.1 = b.1
    · have := inj a ha b hb e
      subst this
      have h1 : decide (a.1 ≤ a.1) = true := decide_eq_true (List.le_refl _)
      rw [h1]
      show true = !PySem.W.dataLt (.tuple [.str (strOf a.1), .int (a.2 : Int)]) (.tuple [.str (strOf a.1), .int (a.2 : Int)])
      have : PyData.eqv (.str (strOf a.1)) (.str (strOf a.1)) = true := by
        show D.eqv (.str (strOf a.1)) (.str (strOf a.1)) = true
        rw [eqv_str]; simp
      rw [PySem.W.dataLt_pair rfl rfl, if_pos this]
      have e2 : PyData.eqv (.int (a.2 : Int)) (.int (a.2 : Int)) = true := by
        show D.eqv (.int (a.2 : Int)) (.int (a.2 : Int)) = true
        rw [eqv_int]; simp
      simp [PySem.W.dataLt, e2]
    · rw [cap_lt (fun z => e z.symm)]
      by_cases h : b.1 < a.1
      · rw [decide_eq_true h]
        exact decide_eq_false (List.not_le.mpr h)
      · rw [decide_eq_false h]
        exact decide_eq_true (List.not_lt.mp h)
theorem lcp_eq : ∀ {u v : List Nat} {k : Nat}, k < lcp u v → u[k]? = v[k]?
  | [], _, _, h => by simp [lcp] at h
  | _ :: _, [], _, h => by simp [lcp] at h
  | a :: u, b :: v, k, h => by
    rw [lcp] at h
    by_cases e : a = b
    · rw [if_pos e] at h
      cases k with
      | zero => simp [e]
      | succ k => simpa using lcp_eq (u := u) (v := v) (k := k) (by omega)
    · rw [if_neg e] at h; omega
theorem lcp_ne : ∀ {u v : List Nat}, u.length = v.length → u ≠ v → lcp u v < u.length ∧ u[lcp u v]? ≠ v[lcp u v]?
  | [], [], _, h => absurd rfl h
  | [], _ :: _, h, _ => by simp at h
  | _ :: _, [], h, _ => by simp at h
  | a :: u, b :: v, h, hn => by
    rw [lcp]
    by_cases e : a = b
    · rw [if_pos e]
      obtain ⟨h1, h2⟩ := lcp_ne (u := u) (v := v) (by simpa using h) fun z => hn (by rw [e, z])
      exact ⟨by simpa using h1, by simpa using h2⟩
    · rw [if_neg e]
      exact ⟨by simp, by simpa using e⟩
def lastW (o : Option (List Nat)) (l : List (List Nat × Nat)) : Option (List Nat) := match l.getLast? with
  | some x => some x.1
  | none => o
def frkL (n : Nat) : Option (List Nat) → List Nat → Nat
  | none, _ => 0
  | some u, v => n - lcp u v
theorem toLs_snoc (n : Nat) : ∀ (l : List (List Nat × Nat)) (o : Option (List Nat)) (x : List Nat × Nat), toLs n o (l ++ [x]) = toLs n o l ++ [(x.2, frkL n (lastW o l) x.1)]
  | [], none, x => rfl
  | [], some a, x => rfl
  | y :: l, none, x => by
    rw [List.cons_append, toLs, toLs, toLs_snoc n l (some y.1) x, List.cons_append]
    congr 4
    cases l with
    | nil => rfl
    | cons z l =>
      obtain ⟨w, hw⟩ : ∃ w, (z :: l).getLast? = some w := by
        cases h : (z :: l).getLast? with
        | none => simp at h
        | some w => exact ⟨w, rfl⟩
      simp only [lastW, List.getLast?_cons_cons, hw]
  | y :: l, some a, x => by
    rw [List.cons_append, toLs, toLs, toLs_snoc n l (some y.1) x, List.cons_append]
    congr 4
    cases l with
    | nil => rfl
    | cons z l =>
      obtain ⟨w, hw⟩ : ∃ w, (z :: l).getLast? = some w := by
        cases h : (z :: l).getLast? with
        | none => simp at h
        | some w => exact ⟨w, rfl⟩
      simp only [lastW, List.getLast?_cons_cons, hw]
end Pace
end
section
set_option Elab.async false
set_option linter.all false
set_option maxRecDepth 100000
set_option maxHeartbeats 4000000
namespace Pace
open PySem PySem.Spec PyProof.Rows L2 DL
section
variable {P : Program} {w : World} {K : PySem.W.Frag} {mg : Str → Option Value} {base : Heap} {C : Addr}
abbrev dk (n : Nat) : MO := .deck "left" "blend" "lap" n
def spDraw : SpD := fun ds G Q => ∃ (p : Addr) (n b : Nat), ds = [.rf p, .int (n : Int)] ∧ 1 ≤ n ∧ n ≤ 1000 ∧ G p = some (dk (b + 1)) ∧ ∀ r : Nat, r < n → Q (.int (r : Int)) (gput G p (dk b))
abbrev N__law_draw : List Str := ["_law_deck_here", "_law_many", "_law_cell", "_law_lap", "_law_blend"]
theorem sc__law_draw : FnScope N__law_draw ["_law_deck_here", "_law_many"] (defScope s__law_draw) := ⟨rfl, rfl, rfl, by decide +kernel, rfl, by decide +kernel, by decide +kernel⟩
theorem c__law_draw (T : Txt K mg C) (d : Def K mg "_law_draw" s__law_draw) : Cal P w K mg base "_law_draw" 1 ["_law_deck_here", "_law_many"] (spDraw) := by
  refine cal_mk (N := N__law_draw) d sc__law_draw (fun ds G Q h => ?_) (fun _ _ _ _ _ _ us hl => match us, hl with | [_, _], _ => rfl) (fun f cdv A outer s H E hg hr => ?_)
  · obtain ⟨p, n, b, rfl, _⟩ := h
    rfl
  · have hu := hu100 hr
    have nd := sc__law_draw.nd
    have hA := deeper_guards (env := envOfC "_law_draw" (defScope s__law_draw) s.heap.objs.size f cdv) hg
    refine ⟨_, (dps_out (dps_in (dps_cons (dp_if (dt_cmp (od_ne hu) (de_ix hu (de_var 0) de_str) (de_lst da_nil) (nomark _))
  (dps_cons (dp_asg (de_callTy cd_int rfl T.f_int (by decide +kernel) (da_cons (de_bm0 PySem.F.plainAttrs_list PySem.F.slot_list_pop PySem.F.type_list_pop md_pop (de_ix hu (de_var 0) de_str)) da_nil)) (dg_name 2 nd))
  (dps_cons (dp_if (dt_cmp (od_ge hu) (de_var 2) (de_var 1) (nomark _))
  (dps_one (dp_expr (de_bm PySem.F.plainAttrs_list PySem.F.slot_list_append PySem.F.type_list_append md_append (de_ix hu (de_var 0) de_str) (da_cons (de_op od_fdiv (de_var 2) (de_var 1)) da_nil))))
  dps_nil)
  (dps_one (dp_ret (de_op od_mod (de_var 2) (de_var 1))))))
  dps_nil)
  (dps_cons (dp_asg (de_op od_add (de_ix hu (de_var 0) de_str) de_int) (dg_name 3 nd))
  (dps_cons (dp_asg (de_var 3) (dg_sub hu (de_var 0) de_str))
  (dps_cons (dp_asg (de_op od_mod (de_callTy cd_int rfl T.f_int (by decide +kernel) (da_cons (de_op od_mul (de_callTy cd_int rfl T.f_int (by decide +kernel) (da_cons (de_op od_add (de_op od_add (de_ix hu (de_var 0) de_str) (de_op od_mul (de_op od_mul de_int (de_var 3)) (de_var 3))) de_int) da_nil)) de_int) da_nil)) de_int) (dg_name 4 nd))
  (dps_cons (dp_asg (de_op od_mod (de_callTy cd_int rfl T.f_int (by decide +kernel) (da_cons (de_op od_add (de_op od_mul (de_var 4) (de_var 4)) (de_op od_mul de_int (de_var 3))) da_nil)) de_int) (dg_name 4 nd))
  (dps_one (dp_ret (de_op od_mod (de_op od_fdiv (de_op od_mod (de_callTy cd_int rfl T.f_int (by decide +kernel) (da_cons (de_op od_mul (de_var 4) de_int) da_nil)) de_int) de_int) (de_var 1))))))))))), fun ds G Q h => ?_⟩
    obtain ⟨p, n, b, rfl, n1, n2, gp, q⟩ := h
    rw [show dstart N__law_draw [.rf p, .int (n : Int)] = [some (.rf p), some (.int (n : Int)), none, none, none] from rfl]
    simp only [dx2]
    refine ⟨Deck, _, _, deck_open gp, ?_⟩
    rintro x ⟨ok, gc, ne, nd0⟩
    have fin0 : ∀ (r : Int) (x' : Deck) (G' : GH), x'.c = x.c → G' = openG G p "left" "blend" "lap" x' → x'.ok b → 0 ≤ r → r < n → (outE (fin Q)).rt (.int r) G' := by
      rintro r x' G' e rfl ok' h0 h1
      refine ⟨_, deck_close gp (by rw [e]; exact gc) (by rw [e]; exact ne) nd0 ok', _, Sub.refl _, ?_⟩
      obtain ⟨k, rfl⟩ := Int.eq_ofNat_of_zero_le h0
      exact q k (by omega)
    obtain ⟨c, g, t, ns⟩ := x
    obtain ⟨o1, o2, o3, o4, o5⟩ := ok
    have hu1 : ∀ G0 o, gput G0 p o c = G0 c := fun _ _ => gput_ne ne
    unfold openG
    simp only at gc ne hu1 o1 o2 o3 o4 o5 ⊢
    have e1 : D.item (.dK [(.inr "left", .rf c), (.inr "blend", .int g), (.inr "lap", .int t)]) (.str "left") = some (.rf c) := rfl
    simp only [dxs, dl, e1, hu1]
    have e2 : D.item (.dK [(.inr "left", .rf c), (.inr "blend", .int g), (.inr "lap", .int t)]) (.str "lap") = some (.int t) := rfl
    have e3 : ∀ u : D, putD ([(.inr "left", .rf c), (.inr "blend", .int g), (.inr "lap", .int t)] : List (Key × D)) (.inr "lap") u = ([(.inr "left", .rf c), (.inr "blend", .int g), (.inr "lap", u)] : List (Key × D)) := fun u => rfl
    have e4 : ∀ u : D, D.item (.dK [(.inr "left", .rf c), (.inr "blend", .int g), (.inr "lap", u)]) (.str "blend") = some (.int g) := fun u => rfl
    have hc : G c = some .dcell := gc
    refine ⟨Nat.zero_le _, intL_ok ns, ?_⟩
    rw [intL_eqv]
    rcases List.eq_nil_or_concat ns with rfl | ⟨ns', a, rfl⟩
    · rw [if_neg (by simp)]
      simp only [e2, dx3, dxs, dl, D.key, e3, gput_gput]
      refine ⟨szl (by decide), ?_⟩
      simp only [e4, dx3, dxs, dl]
      refine ⟨.inl (by omega), .inr (by omega), .inr (by omega), by omega, .inl (by omega), .inl (by omega), by omega, .inr (by omega), by omega, ⟨by omega, by omega⟩, by omega, ?_⟩
      refine fin0 _ ⟨c, g, t + 1, []⟩ _ rfl ?_ ⟨by simp only; omega, by simp only; omega, o3, o4, by simp⟩ (Int.emod_nonneg _ (by omega)) (Int.emod_lt_of_pos _ (by omega))
      rfl
    · rw [List.concat_eq_append] at *
      rw [if_pos (by simp)]
      have o6 : ns'.length + 1 ≤ 63 := by simpa using o5
      refine ⟨rfl, ?_⟩
      simp only [rPopD, hu1, dl, pop_last, pop_rest, gput_under ne, dx3, dxs, okL_int, DL.lt_int, true_and, e1, beq_self_eq_true, rAppendD]
      by_cases han : a < (n : Int)
      · rw [if_neg (by simpa using han)]
        refine ⟨by omega, fin0 _ ⟨c, g, t, ns'⟩ _ rfl rfl ⟨o1, by simp only; omega, o3, o4, by simp only; omega⟩ (Int.emod_nonneg _ (by omega)) (Int.emod_lt_of_pos _ (by omega))⟩
      · rw [if_pos (by simpa using han)]
        refine ⟨⟨by omega, by omega⟩, szl (by simp; omega), by omega, fin0 _ ⟨c, g, t, ns' ++ [a / (n : Int)]⟩ _ rfl ?_ ⟨o1, by simp only; omega, o3, o4, by simp; omega⟩ (Int.emod_nonneg _ (by omega)) (Int.emod_lt_of_pos _ (by omega))⟩
        simp [openG]
end
end Pace
end
section
set_option Elab.async false
set_option linter.all false
set_option maxRecDepth 100000
set_option maxHeartbeats 4000000
namespace Pace
open PySem PySem.Spec PyProof.Rows L2 DL
section
variable {P : Program} {w : World} {K : PySem.W.Frag} {mg : Str → Option Value} {base : Heap} {C : Addr}
def Src (src : D) (xs : List D) : Prop := src = .lst xs ∨ ∃ cs : List Nat, src = .str (strOf cs) ∧ xs = cs.map fun c => .str (sgn c)
def spPick : SpD := fun ds G Q => ∃ (p : Addr) (b : Nat) (src : D) (xs : List D), ds = [.rf p, src] ∧ Src src xs ∧ 1 ≤ xs.length ∧ xs.length ≤ 1000 ∧ G p = some (dk (b + 1)) ∧ ∀ x ∈ xs, Q x (gput G p (dk b))
abbrev N__law_pick : List Str := ["_law_deck_here", "_law_some_here"]
theorem sc__law_pick : FnScope N__law_pick ["_law_deck_here", "_law_some_here"] (defScope s__law_pick) := ⟨rfl, rfl, rfl, by decide +kernel, rfl, by decide +kernel, by decide +kernel⟩
theorem c__law_pick (T : Txt K mg C) (d : Def K mg "_law_pick" s__law_pick) (C__law_draw : Cal P w K mg base "_law_draw" 1 ["_law_deck_here", "_law_many"] (spDraw)) : Cal P w K mg base "_law_pick" 2 ["_law_deck_here", "_law_some_here"] (spPick) := by
  refine cal_mk (N := N__law_pick) d sc__law_pick (fun ds G Q h => ?_) (fun _ _ _ _ _ _ us hl => match us, hl with | [_, _], _ => rfl) (fun f cdv A outer s H E hg hr => ?_)
  · obtain ⟨p, b, src, xs, rfl, _⟩ := h
    rfl
  · have hu := hu100 hr
    have nd := sc__law_pick.nd
    have hA := deeper_guards (env := envOfC "_law_pick" (defScope s__law_pick) s.heap.objs.size f cdv) hg
    refine ⟨_, (dps_one (dp_ret (de_ix hu (de_var 1) (de_cal C__law_draw hA (hr.mono (by decide)) (da_cons (de_var 0) (da_cons (de_callB cd_len rfl T.f_len (by decide +kernel) (da_cons (de_var 1) da_nil)) da_nil)))))), fun ds G Q h => ?_⟩
    obtain ⟨p, b, src, xs, rfl, hs, n1, n2, gp, q⟩ := h
    rcases hs with rfl | ⟨cs, rfl, rfl⟩
    · rw [show dstart N__law_pick [.rf p, .lst xs] = [some (.rf p), some (.lst xs)] from rfl]
      simp only [dxs, dl, dx3]
      refine ⟨p, xs.length, b, rfl, n1, n2, gp, fun r hr => ?_⟩
      obtain ⟨x, hx⟩ : ∃ x, xs[r]? = some x := ⟨_, List.getElem?_eq_getElem hr⟩
      simp only [dxs, dl, item_lst, atI_nat hx]
      exact ⟨_, Sub.refl _, q x (List.mem_of_getElem? hx)⟩
    · rw [show dstart N__law_pick [.rf p, .str (strOf cs)] = [some (.rf p), some (.str (strOf cs))] from rfl]
      have n1' : 1 ≤ cs.length := by simpa using n1
      have n2' : cs.length ≤ 1000 := by simpa using n2
      have hsz : (strOf cs).length ≤ sizeLine := by rw [strOf_len]; exact sz (by omega)
      simp only [dxs, dl, len_str hsz, strOf_len]
      refine ⟨p, cs.length, b, rfl, n1', n2', gp, fun r hr => ?_⟩
      obtain ⟨x, hx⟩ : ∃ x, cs[r]? = some x := ⟨_, List.getElem?_eq_getElem hr⟩
      have e : D.item (.str (strOf cs)) (.int (r : Int)) = some (.str (sgn x)) := by
        show (if (strOf cs).length ≤ sizeLine then _ else _) = _
        rw [if_pos hsz]
        have : atI (strOf cs).cps.toList (r : Int) = some x := atI_nat (by simpa [strOf] using hx)
        rw [this]
        rfl
      simp only [dxs, dl, e]
      exact ⟨_, Sub.refl _, q _ (List.mem_map.mpr ⟨x, List.mem_of_getElem? hx, rfl⟩)⟩
end
section
variable {P : Program} {w : World} {K : PySem.W.Frag} {mg : Str → Option Value} {base : Heap} {C : Addr}
def spDeck : SpD := fun ds G Q => ∃ ns : List Int, ds = [.scr ns] ∧ NoDeck G ∧ ∀ p c, G p = none → G c = none → c ≠ p → Q (.rf p) (shutG G p c "left" "blend" "lap" 1000000)
abbrev N__law_deck : List Str := ["_law_script", "_law_blend", "_law_cell"]
theorem sc__law_deck : FnScope N__law_deck ["_law_script"] (defScope s__law_deck) := ⟨rfl, rfl, rfl, by decide +kernel, rfl, by decide +kernel, by decide +kernel⟩
theorem c__law_deck (T : Txt K mg C) (d : Def K mg "_law_deck" s__law_deck) : Cal P w K mg base "_law_deck" 1 ["_law_script"] (spDeck) := by
  refine cal_mk (N := N__law_deck) d sc__law_deck (fun ds G Q h => ?_) (fun _ _ _ _ _ _ us hl => match us, hl with | [_], _ => rfl) (fun f cdv A outer s H E hg hr => ?_)
  · obtain ⟨ns, rfl, _⟩ := h
    rfl
  · have hu := hu100 hr
    have nd := sc__law_deck.nd
    have hA := deeper_guards (env := envOfC "_law_deck" (defScope s__law_deck) s.heap.objs.size f cdv) hg
    refine ⟨_, (dps_out (dps_cons (dp_asg de_int (dg_name 1 nd))
  (dps_cons (dp_for PassesOwn.never rfl (di_list (de_slice (de_var 0) do_none (do_some de_int))) (dg_name 2 nd)
  (dps_one (dp_asg (de_op od_mod (de_callTy cd_int rfl T.f_int (by decide +kernel) (da_cons (de_op od_add (de_op od_add (de_op od_mul (de_var 1) de_int) (de_op od_mod (de_callTy cd_int rfl T.f_int (by decide +kernel) (da_cons (de_var 2) da_nil)) de_int)) de_int) da_nil)) de_int) (dg_name 1 nd))))
  (dps_one (dp_ret (de_dispM (dpp_cons de_str (de_revLM (de_lc (own := [("_law_cell", 2)]) (p := (.nm 2)) rfl nd (di_list (de_slice (de_var 0) do_none (do_some de_int))) (blkOk_by (by show blkC N__law_deck (defScope s__law_deck) _ _ = true; decide +kernel)) (by decide) (fun _ _ _ _ _ => pg_name (i := 2) nd rfl (Or.inl rfl)) (fun _ _ _ _ _ => (dts_one (dt_cmp (od_ge hu) (de_var 2) (de_op od_pow de_int de_int) (nomark _)))) (fun _ _ _ _ _ => (de_var 2)))) (dpp_cons de_str (de_var 1) (dpp_cons de_str de_int dpp_nil))))))))), fun ds G Q h => ?_⟩
    obtain ⟨ns, rfl, nd0, q⟩ := h
    rw [show dstart N__law_deck [.scr ns] = [some (.scr ns), none, none] from rfl]
    have hcut : (DL.cutD ns none (some 63)).length ≤ 63 := by
      unfold DL.cutD
      rw [List.length_take]
      have : HT.sIx ns.length ns.length (some 63) = min 63 ns.length := HT.sIx_nat ns.length ns.length 63
      rw [this]
      omega
    generalize hcs : DL.cutD ns none (some 63) = cells at hcut
    simp only [dx2, dxs, dl, dx3, hcs]
    refine ⟨fun i S' G' => ∃ (b : Int) (x2 : Option D), S' = [some (.scr ns), some (.int b), x2] ∧ G' = G ∧ 0 ≤ b ∧ b < 2147483587, ⟨_, none, rfl, rfl, by omega, by omega⟩, fun _ _ _ _ => trivial, ?_, ?_⟩
    · rintro i S' G' dd ⟨b, x2, rfl, rfl, h1, h2⟩ hd
      rw [List.getElem?_map] at hd
      cases e : cells[i]? with
      | none => rw [e] at hd; cases hd
      | some v =>
        rw [e] at hd
        cases hd
        simp only [dxs, dl, dx3]
        refine ⟨.inl (by omega), by omega, by omega, _, _, rfl, trivial, Int.emod_nonneg _ (by omega), Int.emod_lt_of_pos _ (by omega)⟩
    · rintro S' G' ⟨b, x2, rfl, rfl, h1, h2⟩
      simp only [dxs, dl, dx3, hcs]
      refine lc_someA cells .int (fun v => !decide (v < 10 ^ 18)) .int rfl (sz (by omega)) trivial (fun v _ => ⟨_, rfl, fun Q z => ?_, fun _ Q z => ?_⟩) ?_
      · simp only [dxs, dl, dwipe, List.map_cons, List.map_nil, okL_int, DL.lt_int, true_and]
        exact ⟨⟨by omega, by omega, by decide⟩, z⟩
      · simp only [dxs, dl, dwipe, List.map_cons, List.map_nil]
        exact z
      · simp only [dxs, dl]
        intro c hc
        refine ⟨by show (3 : Nat) ≤ 15; decide, fun p hp => ?_⟩
        have hcp : c ≠ p := fun z => by rw [← z, gput_same] at hp; cases hp
        have hp' : G' p = none := by rw [gput_ne (fun z => hcp z.symm)] at hp; exact hp
        have hl := List.length_filter_le (fun v => !decide (v < (10 : Int) ^ 18)) cells
        generalize hv : cells.filter (fun v => !decide (v < (10 : Int) ^ 18)) = vs at hl ⊢
        have ndG : NoDeck (openG G' p "left" "blend" "lap" ⟨c, b, 0, vs.reverse⟩) := open_nodeck fun a _ => nd0 a
        refine ⟨_, deck_shut (x := ⟨c, b, 0, vs.reverse⟩) (n := 1000000) (k1 := "left") (k2 := "blend") (k3 := "lap") (p := p) ?_ ?_ ?_ ⟨by simp only; omega, by simp only; omega, h1, by simp only; omega, by simp; omega⟩, _, Sub.refl _, ?_⟩
        · have e : openG G' p "left" "blend" "lap" ⟨c, b, 0, vs.reverse⟩ = gput (gput G' c (.lst (vs.map D.int).reverse)) p (.dK [(.inr "left", .rf c), (.inr "blend", .int b), (.inr "lap", .int 0)]) := by
            unfold openG
            rw [List.map_reverse]
          rw [e] at ndG
          exact ndG
        · exact gput_same
        · rw [gput_ne hcp, gput_same, List.map_reverse]
        · have e : ∀ o1 o2, shutG (gput (gput G' c o1) p o2) p c "left" "blend" "lap" 1000000 = shutG G' p c "left" "blend" "lap" 1000000 := fun o1 o2 => by
            funext a
            unfold shutG
            by_cases z1 : a = p
            · subst z1; rw [gput_same, gput_same]
            · rw [gput_ne z1, gput_ne z1]
              by_cases z2 : a = c
              · subst z2; rw [gput_same, gput_same]
              · rw [gput_ne z2, gput_ne z2, gput_ne z1, gput_ne z2]
          show Q _ (shutG (gput (gput G' c _) p _) p c _ _ _ _)
          rw [e]
          exact q p c hp' hc hcp
end
end Pace
end
section
set_option Elab.async false
set_option linter.all false
set_option maxRecDepth 100000
set_option maxHeartbeats 4000000
namespace Pace
open PySem PySem.Spec PyProof.Rows L2 DL
section
variable {P : Program} {w : World} {K : PySem.W.Frag} {mg : Str → Option Value} {base : Heap} {C : Addr}
def spKnown : SpD := fun ds G Q => ∃ (p : Addr) (b : Nat), ds = [.rf p] ∧ G p = some (dk (b + 1)) ∧ ∀ k ∈ knownT, Q (wD k.1 [97, 98] k.2) (gput G p (dk b))
abbrev N__law_known : List Str := ["_law_deck_here", "_law_top", "_law_late", "_law_vow", "_law_turn", "_law_far", "_law_way"]
theorem sc__law_known : FnScope N__law_known ["_law_deck_here"] (defScope s__law_known) := ⟨rfl, rfl, rfl, by decide +kernel, rfl, by decide +kernel, by decide +kernel⟩
theorem c__law_known (T : Txt K mg C) (d : Def K mg "_law_known" s__law_known) (C__law_draw : Cal P w K mg base "_law_draw" 1 ["_law_deck_here", "_law_many"] (spDraw)) : Cal P w K mg base "_law_known" 2 ["_law_deck_here"] (spKnown) := by
  refine cal_mk (N := N__law_known) d sc__law_known (fun ds G Q h => ?_) (fun _ _ _ _ _ _ us hl => match us, hl with | [_], _ => rfl) (fun f cdv A outer s H E hg hr => ?_)
  · obtain ⟨p, b, rfl, _⟩ := h
    rfl
  · have hu := hu100 hr
    have nd := sc__law_known.nd
    have hA := deeper_guards (env := envOfC "_law_known" (defScope s__law_known) s.heap.objs.size f cdv) hg
    refine ⟨_, (dps_cons (dp_asg (de_tup (da_cons (de_tup (da_cons de_str (da_cons de_str (da_cons de_int da_nil)))) (da_cons (de_tup (da_cons de_str (da_cons de_str (da_cons de_int da_nil)))) (da_cons (de_tup (da_cons de_str (da_cons de_str (da_cons de_int da_nil)))) (da_cons (de_tup (da_cons de_str (da_cons de_str (da_cons de_int da_nil)))) da_nil))))) (dg_name 1 nd))
  (dps_cons (dp_asg (de_tup (da_cons (de_var 1) (da_cons (de_tup (da_cons (de_tup (da_cons de_str (da_cons de_str (da_cons de_int da_nil)))) (da_cons (de_tup (da_cons de_str (da_cons de_str (da_cons de_int da_nil)))) da_nil))) (da_cons (de_tup (da_cons (de_tup (da_cons de_str (da_cons de_str (da_cons de_int da_nil)))) (da_cons (de_tup (da_cons de_str (da_cons de_str (da_cons de_int da_nil)))) da_nil))) da_nil)))) (dg_name 2 nd))
  (dps_cons (dp_asg (de_tup (da_cons (de_var 1) (da_cons (de_tup (da_cons (de_tup (da_cons de_str (da_cons de_str (da_cons de_int da_nil)))) da_nil)) (da_cons (de_tup (da_cons (de_tup (da_cons de_str (da_cons de_str (da_cons de_int da_nil)))) (da_cons (de_tup (da_cons de_str (da_cons de_str (da_cons de_int da_nil)))) da_nil))) da_nil)))) (dg_name 3 nd))
  (dps_cons (dp_asg (de_tup (da_cons (de_var 1) (da_cons (de_tup (da_cons (de_tup (da_cons de_str (da_cons de_str (da_cons de_int da_nil)))) (da_cons (de_tup (da_cons de_str (da_cons de_str (da_cons de_int da_nil)))) da_nil))) (da_cons (de_tup (da_cons (de_tup (da_cons de_str (da_cons de_str (da_cons de_int da_nil)))) (da_cons (de_tup (da_cons de_str (da_cons de_str (da_cons de_int da_nil)))) da_nil))) da_nil)))) (dg_name 4 nd))
  (dps_cons (dp_asg (de_tup (da_cons (de_op od_add (de_var 1) (de_tup (da_cons (de_tup (da_cons de_str (da_cons de_str (da_cons de_int da_nil)))) (da_cons (de_tup (da_cons de_str (da_cons de_str (da_cons de_int da_nil)))) da_nil)))) (da_cons (de_tup (da_cons (de_tup (da_cons de_str (da_cons de_str (da_cons de_int da_nil)))) (da_cons (de_tup (da_cons de_str (da_cons de_str (da_cons de_int da_nil)))) da_nil))) (da_cons (de_tup (da_cons (de_tup (da_cons de_str (da_cons de_str (da_cons de_int da_nil)))) (da_cons (de_tup (da_cons de_str (da_cons de_str (da_cons de_int da_nil)))) da_nil))) da_nil)))) (dg_name 5 nd))
  (dps_cons (dp_asg (de_op od_add (de_var 5) (de_tup (da_cons (de_tup (da_cons (de_tup (da_cons de_str (da_cons de_str (da_cons de_int da_nil)))) (da_cons (de_tup (da_cons de_str (da_cons de_str (da_cons de_int da_nil)))) (da_cons (de_tup (da_cons de_str (da_cons de_str (da_cons de_int da_nil)))) da_nil)))) da_nil))) (dg_name 5 nd))
  (dps_cons (dp_asg (de_cal C__law_draw hA (hr.mono (by decide)) (da_cons (de_var 0) (da_cons de_int da_nil))) (dg_name 6 nd))
  (dps_one (dp_ret (de_disp (dpp_cons de_str (de_ix hu (de_lst (da_cons de_str (da_cons de_str (da_cons de_str (da_cons de_str da_nil))))) (de_var 6)) (dpp_cons de_str de_str (dpp_cons de_str (de_ix hu (de_lst (da_cons (de_var 2) (da_cons (de_var 3) (da_cons (de_var 4) (da_cons (de_var 5) da_nil))))) (de_var 6)) dpp_nil))))))))))))), fun ds G Q h => ?_⟩
    obtain ⟨p, b, rfl, gp, q⟩ := h
    rw [show dstart N__law_known [.rf p] = [some (.rf p), none, none, none, none, none, none] from rfl]
    simp only [dxs, dl, dx3, sizeLine_eq, Nat.reduceAdd, Nat.reduceLeDiff, true_and, List.cons_append, List.nil_append, s_a, s_b, s_x, s_ab, s_abx]
    refine ⟨p, 4, b, rfl, by decide, by decide, gp, fun r hr => ?_⟩
    match r, hr with
    | 0, _ => exact ⟨by decide, _, Sub.refl _, q ([97, 98], kLate) (by simp [knownT])⟩
    | 1, _ => exact ⟨by decide, _, Sub.refl _, q ([97, 98], kVow) (by simp [knownT])⟩
    | 2, _ => exact ⟨by decide, _, Sub.refl _, q ([97, 98], kTurn) (by simp [knownT])⟩
    | 3, _ => exact ⟨by decide, _, Sub.refl _, q ([97, 98, 120], kFar) (by simp [knownT])⟩
end
section
variable {P : Program} {w : World} {K : PySem.W.Frag} {mg : Str → Option Value} {base : Heap} {C : Addr}
def spSpeech : SpD := fun ds G Q => ∃ (p : Addr) (hs ws : List Nat) (rs : List (List Mv)) (most n : Nat), ds = [.rf p, wD hs ws rs, .int (most : Int)] ∧ most ≤ 100 ∧ 1 ≤ hs.length ∧ hs.length ≤ 1000 ∧ G p = some (dk (n + 101)) ∧
  ∀ (cs : List Nat) (m : Nat), n ≤ m → cs.length ≤ most → (∀ c ∈ cs, c ∈ hs) → Q (.str (strOf cs)) (gput G p (dk m))
abbrev N__law_speech : List Str := ["_law_deck_here", "_law_w", "_law_most", "_law_k"]
theorem sc__law_speech : FnScope N__law_speech ["_law_deck_here", "_law_w", "_law_most"] (defScope s__law_speech) := ⟨rfl, rfl, rfl, by decide +kernel, rfl, by decide +kernel, by decide +kernel⟩
theorem c__law_speech (T : Txt K mg C) (d : Def K mg "_law_speech" s__law_speech) (C__law_pick : Cal P w K mg base "_law_pick" 2 ["_law_deck_here", "_law_some_here"] (spPick)) (C__law_draw : Cal P w K mg base "_law_draw" 1 ["_law_deck_here", "_law_many"] (spDraw)) : Cal P w K mg base "_law_speech" 3 ["_law_deck_here", "_law_w", "_law_most"] (spSpeech) := by
  refine cal_mk (N := N__law_speech) d sc__law_speech (fun ds G Q h => ?_) (fun _ _ _ _ _ _ us hl => match us, hl with | [_, _, _], _ => rfl) (fun f cdv A outer s H E hg hr => ?_)
  · obtain ⟨p, hs, ws, rs, most, n, rfl, _⟩ := h
    rfl
  · have hu := hu100 hr
    have nd := sc__law_speech.nd
    have hA := deeper_guards (env := envOfC "_law_speech" (defScope s__law_speech) s.heap.objs.size f cdv) hg
    refine ⟨_, (dps_one (dp_ret (de_bm PySem.F.plainAttrs_str PySem.F.slot_str_join PySem.F.type_str_join md_join de_str (da_cons (de_lc (own := [("_law_k", 3)]) (p := (.nm 3)) rfl nd (di_range1 rfl T.f_range (da_cons (de_cal C__law_draw hA (hr.mono (by decide)) (da_cons (de_var 0) (da_cons (de_op od_add (de_var 2) de_int) da_nil))) da_nil)) (blkOk_by (by show blkC N__law_speech (defScope s__law_speech) _ _ = true; decide +kernel)) (by decide) (fun _ _ _ _ _ => pg_name (i := 3) nd rfl (Or.inl rfl)) (fun _ _ _ _ _ => dts_nil) (fun _ _ _ _ _ => (de_cal C__law_pick hA (hr.mono (by decide)) (da_cons (de_var 0) (da_cons (de_ix hu (de_var 1) de_str) da_nil))))) da_nil)))), fun ds G Q h => ?_⟩
    obtain ⟨p, hs, ws, rs, most, n, rfl, hm, h1, h2, gp, q⟩ := h
    rw [show dstart N__law_speech [.rf p, wD hs ws rs, .int (most : Int)] = [some (.rf p), some (wD hs ws rs), some (.int (most : Int)), none] from rfl]
    simp only [dxs, dl, dx3, beq_self_eq_true, true_and]
    refine ⟨p, most + 1, n + 100, rfl, by omega, by omega, gp, fun r hr => ?_⟩
    simp only [dxs, dl]
    refine ⟨by omega, by omega, ?_⟩
    refine ⟨sz (by simp; omega), fun i acc G' => ∃ cs : List Nat, acc = cs.map (fun c => .str (sgn c)) ∧ cs.length = i ∧ i ≤ r ∧ G' = gput G p (dk (n + 100 - i)) ∧ ∀ c ∈ cs, c ∈ hs, ⟨[], rfl, rfl, Nat.zero_le _, rfl, by simp⟩, fun _ _ _ _ => trivial, ?_, ?_⟩
    · rintro i acc G' d ⟨cs, rfl, hl, hi, rfl, hcs⟩ hd
      have hi2 : i < r := by
        have := (List.getElem?_eq_some_iff.mp hd).1
        simpa using this
      refine ⟨_, rfl, ?_⟩
      simp only [dxs, dl, dwipe, List.map_cons, List.map_nil, wD_cur, wD_heard, if_true]
      refine ⟨p, n + 100 - (i + 1), _, _, rfl, .inr ⟨hs, rfl, rfl⟩, by simpa using h1, by simpa using h2, ?_, fun x hx => ?_⟩
      · rw [gput_same]
        congr 2
        omega
      · obtain ⟨c, hc, rfl⟩ := List.mem_map.mp hx
        refine ⟨cs ++ [c], by simp, by simp [hl], hi2, by rw [gput_gput], fun y hy => ?_⟩
        rcases List.mem_append.mp hy with hy | hy
        · exact hcs y hy
        · rw [List.mem_singleton.mp hy]; exact hc
    · rintro acc G' ⟨cs, rfl, hl, hi, rfl, hcs⟩
      simp only [rJoinD, dxs, dl, texts_sgn, join_sgn, sgn_sum]
      have hl2 : cs.length = r := by rw [hl]; simp
      have h0 : (Str.ofString "").length = 0 := by rw [str_nil]; rfl
      refine ⟨by rw [h0]; simp; omega, _, Sub.refl _, q cs _ (by omega) (by omega) hcs⟩
end
end Pace
end
section
set_option Elab.async false
set_option linter.all false
set_option maxRecDepth 100000
set_option maxHeartbeats 4000000
namespace Pace
open PySem PySem.Spec PyProof.Rows L2 DL
section
variable {P : Program} {w : World} {K : PySem.W.Frag} {mg : Str → Option Value} {base : Heap} {C : Addr}
def spLMoves : SpD := fun ds G Q => ∃ (hs ws : List Nat) (rs : List (List Mv)) (s c : Nat) (r : List Mv), ds = [wD hs ws rs, .int (s : Int), .str (sgn c)] ∧ rs[s]? = some r ∧ r.length ≤ 1000 ∧ Q (.lst ((r.filter fun m => m.h == c).map ctD)) G
abbrev N__law_moves : List Str := ["_law_w", "_law_state", "_law_letter", "_law_h", "_law_c", "_law_t"]
theorem sc__law_moves : FnScope N__law_moves ["_law_w", "_law_state", "_law_letter"] (defScope s__law_moves) := ⟨rfl, rfl, rfl, by decide +kernel, rfl, by decide +kernel, by decide +kernel⟩
theorem c__law_moves (T : Txt K mg C) (d : Def K mg "_law_moves" s__law_moves) : Cal P w K mg base "_law_moves" 1 ["_law_w", "_law_state", "_law_letter"] (spLMoves) := by
  refine cal_mk (N := N__law_moves) d sc__law_moves (fun ds G Q h => ?_) (fun _ _ _ _ _ _ us hl => match us, hl with | [_, _, _], _ => rfl) (fun f cdv A outer s H E hg hr => ?_)
  · obtain ⟨hs, ws, rs, s, c, r, rfl, _⟩ := h
    rfl
  · have hu := hu100 hr
    have nd := sc__law_moves.nd
    have hA := deeper_guards (env := envOfC "_law_moves" (defScope s__law_moves) s.heap.objs.size f cdv) hg
    refine ⟨_, (dps_one (dp_ret (de_lc (own := [("_law_h", 3), ("_law_c", 4), ("_law_t", 5)]) (p := (.tp [3, 4, 5])) rfl nd (di_tup (de_ix hu (de_ix hu (de_var 0) de_str) (de_var 1))) (blkOk_by (by show blkC N__law_moves (defScope s__law_moves) _ _ = true; decide +kernel)) (by decide) (fun _ _ _ _ _ => pg_tup rfl (pgs_cons (pg_name (i := 3) nd rfl (Or.inl rfl)) (pgs_cons (pg_name (i := 4) nd rfl (Or.inl rfl)) (pgs_cons (pg_name (i := 5) nd rfl (Or.inl rfl)) pgs_nil)))) (fun _ _ _ _ _ => (dts_one (dt_cmp (od_eq hu) (de_var 3) (de_var 2) (nomark _)))) (fun _ _ _ _ _ => (de_tup (da_cons (de_var 4) (da_cons (de_var 5) da_nil))))))), fun ds G Q h => ?_⟩
    obtain ⟨hs, ws, rs, s0, c, r, rfl, hr0, hl, q⟩ := h
    rw [show dstart N__law_moves [wD hs ws rs, .int (s0 : Int), .str (sgn c)] = [some (wD hs ws rs), some (.int (s0 : Int)), some (.str (sgn c)), none, none, none] from rfl]
    simp only [dxs, dl, wD_cur, wD_rows, rowsD_cur, rowsD_at hr0, rowD]
    refine lc_someA r Mv.d (fun m => m.h == c) ctD rfl (sz (by omega)) trivial (fun m _ => ⟨_, rfl, fun Q z => ?_, fun _ Q z => ?_⟩) ⟨_, Sub.refl _, q⟩
    · simp only [dxs, dl, dwipe, List.map_cons, List.map_nil, Mv.d, okE_str, eqv_str, sgn_beq, true_and]
      exact z
    · simp only [dxs, dl, dwipe, List.map_cons, List.map_nil, Mv.d]
      exact ⟨sz (by simp), z⟩
end
section
variable {P : Program} {w : World} {K : PySem.W.Frag} {mg : Str → Option Value} {base : Heap} {C : Addr}
def spOn : SpD := fun ds G Q => ∃ (hs ws : List Nat) (rs : List (List Mv)) (ss cs : List Nat), ds = [wD hs ws rs, .lst (natsD ss), .str (strOf cs)] ∧ Few rs ∧ (∀ r ∈ rs, r.length ≤ 1000 ∧ ∀ m ∈ r, m.t < rs.length) ∧ ss.Nodup ∧ (∀ s ∈ ss, s < rs.length) ∧ Q (.lst (natsD (run rs ss cs))) G
abbrev N__law_on : List Str := ["_law_w", "_law_spots", "_law_page", "_law_letter", "_law_fresh", "_law_state", "_law_c", "_law_t"]
theorem sc__law_on : FnScope N__law_on ["_law_w", "_law_spots", "_law_page"] (defScope s__law_on) := ⟨rfl, rfl, rfl, by decide +kernel, rfl, by decide +kernel, by decide +kernel⟩
theorem c__law_on (T : Txt K mg C) (d : Def K mg "_law_on" s__law_on) (C__law_moves : Cal P w K mg base "_law_moves" 1 ["_law_w", "_law_state", "_law_letter"] (spLMoves)) : Cal P w K mg base "_law_on" 2 ["_law_w", "_law_spots", "_law_page"] (spOn) := by
  refine cal_mk (N := N__law_on) d sc__law_on (fun ds G Q h => ?_) (fun _ _ _ _ _ _ us hl => match us, hl with | [_, _, _], _ => rfl) (fun f cdv A outer s H E hg hr => ?_)
  · obtain ⟨hs, ws, rs, ss, cs, rfl, _⟩ := h
    rfl
  · have hu := hu100 hr
    have nd := sc__law_on.nd
    have hA := deeper_guards (env := envOfC "_law_on" (defScope s__law_on) s.heap.objs.size f cdv) hg
    refine ⟨_, (dps_cons (dp_for PassesOwn.never rfl (di_str (de_var 2)) (dg_name 3 nd)
  (dps_cons (dp_asg (de_lstM da_nil) (dg_name 4 nd))
  (dps_cons (dp_for PassesOwn.never rfl (di_list (de_var 1)) (dg_name 5 nd)
  (dps_one (dp_expr (de_bm PySem.F.plainAttrs_list PySem.F.slot_list_extend PySem.F.type_list_extend md_extend (de_var 4) (da_cons (de_lc (own := [("_law_c", 6), ("_law_t", 7)]) (p := (.tp [6, 7])) rfl nd (di_list (de_cal C__law_moves hA (hr.mono (by decide)) (da_cons (de_var 0) (da_cons (de_var 5) (da_cons (de_var 3) da_nil))))) (blkOk_by (by show blkC N__law_on (defScope s__law_on) _ _ = true; decide +kernel)) (by decide) (fun _ _ _ _ _ => pg_tup rfl (pgs_cons (pg_name (i := 6) nd rfl (Or.inl rfl)) (pgs_cons (pg_name (i := 7) nd rfl (Or.inl rfl)) pgs_nil))) (fun _ _ _ _ _ => dts_nil) (fun _ _ _ _ _ => (de_var 7))) da_nil)))))
  (dps_one (dp_asg (de_sortSet rfl rfl T.f_sorted rfl T.f_set (de_var 4)) (dg_name 1 nd))))))
  (dps_one (dp_ret (de_var 1)))), fun ds G Q h => ?_⟩
    obtain ⟨hs, ws, rs, ss, cs, rfl, few, at_, nd0, hlt, q⟩ := h
    rw [show dstart N__law_on [wD hs ws rs, .lst (natsD ss), .str (strOf cs)] = [some (wD hs ws rs), some (.lst (natsD ss)), some (.str (strOf cs)), none, none, none, none, none] from rfl]
    simp only [dxs, dl]
    refine ⟨fun i S' G' => ∃ x3 x4 x5 x6 x7, S' = [some (wD hs ws rs), some (.lst (natsD (run rs ss (cs.take i)))), some (.str (strOf cs)), x3, x4, x5, x6, x7] ∧ Sub G G', ⟨none, none, none, none, none, rfl, Sub.refl _⟩, fun _ _ _ _ => trivial, ?_, ?_⟩
    · rintro i S' G' dd ⟨x3, x4, x5, x6, x7, rfl, sb⟩ hd
      obtain ⟨c, hc, rfl⟩ := signs_get hd
      simp only [dxs, dl]
      have hlt2 : ∀ k ∈ run rs ss (cs.take i), k < rs.length := run_lt (fun r hr => (at_ r hr).2) hlt
      have nd2 : (run rs ss (cs.take i)).Nodup := run_nodup nd0
      have e : cs.take (i + 1) = cs.take i ++ [c] := by rw [List.take_add_one, hc]; rfl
      rw [e, run_snoc]
      generalize run rs ss (cs.take i) = ts at hlt2 nd2 ⊢
      have h64 := few.len nd2 hlt2 c
      refine ⟨Nat.zero_le _, fun p hp => ?_⟩
      refine ⟨fun j S' G2 => ∃ x5 x6 x7, S' = [some (wD hs ws rs), some (.lst (natsD ts)), some (.str (strOf cs)), some (.str (sgn c)), some (.rf p), x5, x6, x7] ∧
        G2 = gput G' p (.lst (natsD ((ts.take j).flatMap fun s => hits rs s c))), ⟨_, _, _, rfl, rfl⟩, fun _ _ _ _ => trivial, ?_, ?_⟩
      · rintro j S' G2 dd ⟨x5, x6, x7, rfl, rfl⟩ hd
        obtain ⟨s1, hs1, rfl⟩ := natsD_get hd
        obtain ⟨r, hrr⟩ : ∃ r, rs[s1]? = some r := ⟨_, List.getElem?_eq_getElem (hlt2 s1 (List.mem_of_getElem? hs1))⟩
        have hl := (at_ r (List.mem_of_getElem? hrr)).1
        simp only [dxs, dl, beq_self_eq_true, true_and]
        refine ⟨hs, ws, rs, s1, c, r, rfl, hrr, hl, ?_⟩
        have hf : (r.filter fun m => m.h == c).length ≤ 1000 := Nat.le_trans (List.length_filter_le _ _) hl
        have e4 : hits rs s1 c = (r.filter fun m => m.h == c).map (·.t) := by unfold hits; simp [List.getD, hrr]
        refine lc_mapA (r.filter fun m => m.h == c) ctD (fun m => .int (m.t : Int)) rfl (sz (by omega)) trivial (fun m _ => ⟨_, rfl, fun Q z => ?_⟩) ?_
        · simp only [dxs, dl, dwipe, List.map_cons, List.map_nil, ctD]
          exact z
        · have e3 : ts.take (j + 1) = ts.take j ++ [s1] := by rw [List.take_add_one, hs1]; rfl
          have e5 : (r.filter fun m => m.h == c).map (fun m => D.int (m.t : Int)) = natsD (hits rs s1 c) := by rw [e4]; simp [natsD]
          rw [e5]
          have hb := few.len (ss := ts.take (j + 1)) (nd2.sublist (List.take_sublist _ _)) (fun s hs => hlt2 s (List.mem_of_mem_take hs)) c
          rw [e3, List.flatMap_append, List.length_append] at hb
          simp only [List.flatMap_cons, List.flatMap_nil, List.append_nil] at hb
          simp only [rExtendD, dxs, dl, gput_gput]
          refine ⟨sz (by rw [natsD_len, natsD_len]; omega), some (.int (s1 : Int)), x6, x7, rfl, ?_⟩
          rw [e3, natsD_app, List.flatMap_append]
          simp
      · rintro S' G2 ⟨x5, x6, x7, rfl, rfl⟩
        have hl : (natsD ts).length = ts.length := by simp [natsD]
        rw [hl, List.take_length]
        simp only [dxs, dl, dx2, intsD_nats, isort1_nat, List.length_map]
        refine ⟨h64, _, _, _, _, _, rfl, sb.trans (sub_new hp rfl)⟩
    · rintro S' G' ⟨x3, x4, x5, x6, x7, rfl, sb⟩
      simp only [dxs, dl]
      refine ⟨G, sb, ?_⟩
      rw [signs_len, List.take_length]
      exact q
end
end Pace
end
section
set_option Elab.async false
set_option linter.all false
set_option maxRecDepth 100000
set_option maxHeartbeats 4000000
namespace Pace
open PySem PySem.Spec PyProof.Rows L2 DL
section
variable {P : Program} {w : World} {K : PySem.W.Frag} {mg : Str → Option Value} {base : Heap} {C : Addr}
def spLMute : SpD := fun ds G Q => ∃ (hs ws : List Nat) (rs : List (List Mv)), ds = [wD hs ws rs] ∧ Few rs ∧ (∀ r ∈ rs, r.length ≤ 1000 ∧ ∀ m ∈ r, m.t < rs.length) ∧ 0 < rs.length ∧ rs.length ≤ 10 ∧ Q (pageD (muteOf rs hs)) G
abbrev N__law_mute : List Str := ["_law_w", "_law_order", "_law_seen", "_law_at", "_law_letter", "_law_spots", "_law_page"]
theorem sc__law_mute : FnScope N__law_mute ["_law_w"] (defScope s__law_mute) := ⟨rfl, rfl, rfl, by decide +kernel, rfl, by decide +kernel, by decide +kernel⟩
theorem c__law_mute (T : Txt K mg C) (d : Def K mg "_law_mute" s__law_mute) (C__law_on : Cal P w K mg base "_law_on" 2 ["_law_w", "_law_spots", "_law_page"] (spOn)) : Cal P w K mg base "_law_mute" 3 ["_law_w"] (spLMute) := by
  refine cal_mk (N := N__law_mute) d sc__law_mute (fun ds G Q h => ?_) (fun _ _ _ _ _ _ us hl => match us, hl with | [_], _ => rfl) (fun f cdv A outer s H E hg hr => ?_)
  · obtain ⟨hs, ws, rs, rfl, _⟩ := h
    rfl
  · have hu := hu100 hr
    have nd := sc__law_mute.nd
    have hA := deeper_guards (env := envOfC "_law_mute" (defScope s__law_mute) s.heap.objs.size f cdv) hg
    refine ⟨_, (dps_cons (dp_par3 (i := 1) (j := 2) (l := 3) rfl nd (ha := (da_cons (de_lstM (da_cons (de_tup (da_cons (de_lst (da_cons de_int da_nil)) (da_cons de_str da_nil))) da_nil)) (da_cons (de_dispT hu (de_tup (da_cons de_int da_nil)) de_bl) (da_cons de_int da_nil)))))
  (dps_cons (dp_while PassesOwn.never (dt_cmp (od_lt hu) (de_var 3) (de_callB cd_len rfl T.f_len (by decide +kernel) (da_cons (de_var 1) da_nil)) (nomark _))
  (dps_cons (dp_for PassesOwn.never rfl (di_str (de_ix hu (de_var 0) de_str)) (dg_name 4 nd)
  (dps_cons (dp_par (i := 5) (j := 6) rfl nd (ha := (da_cons (de_cal C__law_on hA (hr.mono (by decide)) (da_cons (de_var 0) (da_cons (de_ix hu (de_ix hu (de_var 1) (de_var 3)) de_int) (da_cons (de_var 4) da_nil)))) (da_cons (de_op od_add (de_ix hu (de_ix hu (de_var 1) (de_var 3)) de_int) (de_var 4)) da_nil))))
  (dps_cons (dp_if (dt_cmp (od_eq hu) (de_var 5) (de_lst da_nil) (nomark _))
  (dps_one (dp_ret (de_var 6)))
  dps_nil)
  (dps_one (dp_if (dt_cmp (od_notIn hu) (de_callTy cd_tuple rfl T.f_tuple (by decide +kernel) (da_cons (de_var 5) da_nil)) (de_var 2) (by rfl))
  (dps_cons (dp_asg de_bl (dg_sub hu (de_var 2) (de_callTy cd_tuple rfl T.f_tuple (by decide +kernel) (da_cons (de_var 5) da_nil))))
  (dps_one (dp_expr (de_bm PySem.F.plainAttrs_list PySem.F.slot_list_append PySem.F.type_list_append md_append (de_var 1) (da_cons (de_tup (da_cons (de_var 5) (da_cons (de_var 6) da_nil))) da_nil)))))
  dps_nil)))))
  (dps_one (dp_asg (de_op od_add (de_var 3) de_int) (dg_name 3 nd)))))
  (dps_one (dp_ret de_non)))), fun ds G Q h => ?_⟩
    obtain ⟨hs, ws, rs, rfl, few, at0, h0, h10, q⟩ := h
    have tl : ∀ r ∈ rs, ∀ m ∈ r, m.t < rs.length := fun r hr => (at0 r hr).2
    have hB : 2 ^ rs.length ≤ 1024 := Nat.pow_le_pow_right (by decide) h10
    rw [show dstart N__law_mute [wD hs ws rs] = [some (wD hs ws rs), none, none, none, none, none, none] from rfl]
    simp only [dxs, dl, dx2, D.keys, D.key]
    refine ⟨sz (by simp), sz (by simp), sz (by simp), fun p hp => ⟨sz (by simp), fun z hz => ?_⟩⟩
    have hzp : z ≠ p := fun e => by rw [e, gput_same] at hz; cases hz
    have hpz : p ≠ z := fun e => hzp e.symm
    have hz' : G z = none := by rw [gput_ne hzp] at hz; exact hz
    have np : ∀ G0 o, gput G0 z o p = G0 p := fun _ _ => gput_ne hpz
    refine ⟨fun m S' G' => ∃ (at_ : Nat) (ord : Ord) (x4 x5 x6 : Option D), m = 2 ^ rs.length - at_ ∧ S' = [some (wD hs ws rs), some (.rf p), some (.rf z), some (.int (at_ : Int)), x4, x5, x6] ∧
      G' = gput (gput G p (.lst (ordLw ord))) z (.dT (ordTw ord)) ∧ OrdOk rs hs ord ∧ bfs rs hs (2 ^ rs.length - at_) at_ ord = muteOf rs hs,
      ⟨_, 0, [([0], [])], none, none, none, rfl, rfl, rfl, .start h0, rfl⟩, ?_⟩
    rintro m S' G' ⟨at_, ord, x4, x5, x6, rfl, rfl, rfl, oo, hb⟩
    have ol := oo.len
    simp only [dxs, dl, np, rLenD, D.len, okL_int, DL.lt_int, true_and, ordLw_len]
    by_cases hat : at_ < ord.length
    · rw [if_pos (by simpa using hat)]
      obtain ⟨here, hhere⟩ : ∃ x, ord[at_]? = some x := ⟨_, List.getElem?_eq_getElem hat⟩
      obtain ⟨f, hf⟩ : ∃ f, 2 ^ rs.length - at_ = f + 1 := ⟨2 ^ rs.length - at_ - 1, by omega⟩
      rw [hf] at hb
      unfold bfs at hb
      rw [hhere] at hb
      simp only at hb
      simp only [dxs, dl, wD_cur, wD_heard]
      refine ⟨fun j S' G' => ∃ (ord' : Ord) (x4 x5 x6 : Option D), S' = [some (wD hs ws rs), some (.rf p), some (.rf z), some (.int (at_ : Int)), x4, x5, x6] ∧
        G' = gput (gput G p (.lst (ordLw ord'))) z (.dT (ordTw ord')) ∧ OrdOk rs hs ord' ∧ ord'[at_]? = some here ∧ stepL rs here ord hs = stepL rs here ord' (hs.drop j),
        ⟨ord, x4, x5, x6, rfl, rfl, oo, hhere, by simp⟩, fun _ _ _ _ => trivial, ?_, ?_⟩
      · rintro j S' G' dd ⟨ord', x4, x5, x6, rfl, rfl, oo', hh', hst⟩ hd
        obtain ⟨c, hc, rfl⟩ := signs_get hd
        have hch : c ∈ hs := List.mem_of_getElem? hc
        have hdr : hs.drop j = c :: hs.drop (j + 1) := by
          obtain ⟨h1, h2⟩ := List.getElem?_eq_some_iff.mp hc
          rw [List.drop_eq_getElem_cons h1, h2]
        rw [hdr, stepL_cons] at hst
        have ol' := oo'.len
        have hl2 := oo'.ln at_ here hh'
        have hst' := oo'.st here (List.mem_of_getElem? hh')
        simp only [dxs, dl, np, item_lst, ordLw_at hh', pr0, pr1]
        refine ⟨hs, ws, rs, here.1, [c], rfl, few, at0, hst'.1.imp (fun h => by omega), hst'.2, ?_⟩
        have e1 : run rs here.1 [c] = behind rs here.1 c := rfl
        simp only [dxs, dl, np, item_lst, ordLw_at hh', pr0, pr1, dx3, strOf_sgn, e1, natsD_okEL0, natsD_eqvL0, Nat.zero_le, true_and]
        refine ⟨by rw [strOf_len]; exact sz (by simp [sgn, Str.length]; omega), ?_⟩
        by_cases hbe : behind rs here.1 c = []
        · rw [if_pos (by simpa using hbe)]
          rw [if_pos hbe] at hst
          rw [hst] at hb
          refine ⟨G, sub_new2 hp hz' hzp rfl rfl, ?_⟩
          rw [← hb] at q
          exact q
        · rw [if_neg (by simpa using hbe)]
          rw [if_neg hbe] at hst
          simp only [dxs, dl, dx3, inn_dT, natsD_keys, Option.map_some, ordTw_is oo'.nd]
          by_cases hin : behind rs here.1 c ∈ ord'.map (·.1)
          · rw [if_pos hin] at hst
            rw [if_neg (by simp [hin])]
            exact ⟨ord', _, _, _, rfl, rfl, oo', hh', hst⟩
          · rw [if_neg hin] at hst
            rw [if_pos (by simp [hin])]
            simp only [dxs, dl, dx3, natsD_keys, ordTw_put (p := here.2 ++ [c]) hin, gput_gput, np, rAppendD, gput_under hpz, ordLw_len, ordTw_len, beq_self_eq_true, true_and]
            refine ⟨szl (by omega), sz (by simp), szl (by omega), ord' ++ [(behind rs here.1 c, here.2 ++ [c])], _, _, _, rfl, ?_, oo'.add tl hh' hch hbe hin, ?_, hst⟩
            · rw [← ordLw_put]
            · rw [List.getElem?_append_left (List.getElem?_eq_some_iff.mp hh').1]; exact hh'
      · rintro S' G' ⟨ord', x4, x5, x6, rfl, rfl, oo', hh', hst⟩
        rw [signs_len, List.drop_length, stepL_nil] at hst
        rw [hst] at hb
        simp only [dxs, dl, dx3]
        refine ⟨2 ^ rs.length - (at_ + 1), by omega, at_ + 1, ord', x4, x5, x6, rfl, ?_, rfl, oo', ?_⟩
        · simp
        · have : 2 ^ rs.length - (at_ + 1) = f := by omega
          rw [this]; exact hb
    · rw [if_neg (by simpa using hat)]
      have hn : muteOf rs hs = none := by
        rw [← hb]
        cases e : 2 ^ rs.length - at_ with
        | zero => rfl
        | succ f =>
          unfold bfs
          have : ord[at_]? = none := List.getElem?_eq_none (by omega)
          rw [this]
      refine ⟨G, sub_new2 hp hz' hzp rfl rfl, ?_⟩
      rw [hn] at q
      exact q
end
end Pace
end
section
set_option Elab.async false
set_option linter.all false
set_option maxRecDepth 100000
set_option maxHeartbeats 4000000
namespace Pace
open PySem PySem.Spec PyProof.Rows L2 DL
section
variable {P : Program} {w : World} {K : PySem.W.Frag} {mg : Str → Option Value} {base : Heap} {C : Addr}
def spLSet : SpD := fun ds G Q => ∃ (hs ws : List Nat) (n : Nat) (p : Addr) (lot : Lot), ds = [.str (strOf hs), .str (strOf ws), .int (n : Int), .rf p] ∧ G p = some (.dT (lotD lot)) ∧ LotNd lot ∧ lot.length ≤ 1000 ∧ n ≤ 1000 ∧ Q (wD hs ws (rowsOf lot n)) G
abbrev N__law_set : List Str := ["_law_heard_now", "_law_written_now", "_law_size", "_law_lot", "_law_rows_now", "_law_s", "_law_t", "_law_h", "_law_c"]
theorem sc__law_set : FnScope N__law_set ["_law_heard_now", "_law_written_now", "_law_size", "_law_lot"] (defScope s__law_set) := ⟨rfl, rfl, rfl, by decide +kernel, rfl, by decide +kernel, by decide +kernel⟩
theorem c__law_set (T : Txt K mg C) (d : Def K mg "_law_set" s__law_set) : Cal P w K mg base "_law_set" 1 ["_law_heard_now", "_law_written_now", "_law_size", "_law_lot"] (spLSet) := by
  refine cal_mk (N := N__law_set) d sc__law_set (fun ds G Q h => ?_) (fun _ _ _ _ _ _ us hl => match us, hl with | [_, _, _, _], _ => rfl) (fun f cdv A outer s H E hg hr => ?_)
  · obtain ⟨hs, ws, n, p, lot, rfl, _⟩ := h
    rfl
  · have hu := hu100 hr
    have nd := sc__law_set.nd
    have hA := deeper_guards (env := envOfC "_law_set" (defScope s__law_set) s.heap.objs.size f cdv) hg
    refine ⟨_, (dps_cons (dp_asg (de_lstM da_nil) (dg_name 4 nd))
  (dps_cons (dp_for PassesOwn.never rfl (di_range1 rfl T.f_range (da_cons (de_var 2) da_nil)) (dg_name 5 nd)
  (dps_one (dp_expr (de_bm PySem.F.plainAttrs_list PySem.F.slot_list_append PySem.F.type_list_append md_append (de_var 4) (da_cons (de_callTy cd_tuple rfl T.f_tuple (by decide +kernel) (da_cons (de_callB (cd_sorted hu rfl) rfl T.f_sorted (by decide +kernel) (da_cons (de_lock (de_lc (own := [("_law_t", 6), ("_law_h", 7), ("_law_c", 8)]) (p := (.tp [6, 7, 8])) rfl nd (di_keysT (de_var 3)) (blkOk_by (by show blkC N__law_set (defScope s__law_set) _ _ = true; decide +kernel)) (by decide) (fun _ _ _ _ _ => pg_tup rfl (pgs_cons (pg_name (i := 6) nd rfl (Or.inl rfl)) (pgs_cons (pg_name (i := 7) nd rfl (Or.inl rfl)) (pgs_cons (pg_name (i := 8) nd rfl (Or.inl rfl)) pgs_nil)))) (fun _ _ _ _ _ => (dts_one (dt_cmp (od_eq hu) (de_var 6) (de_var 5) (nomark _)))) (fun _ _ _ _ _ => (de_tup (da_cons (de_var 7) (da_cons (de_var 8) (da_cons (de_ixL hu (de_var 3) (de_tup (da_cons (de_var 6) (da_cons (de_var 7) (da_cons (de_var 8) da_nil))))) da_nil))))))) da_nil)) da_nil)) da_nil)))))
  (dps_one (dp_ret (de_disp (dpp_cons de_str (de_var 0) (dpp_cons de_str (de_var 1) (dpp_cons de_str (de_callTy cd_tuple rfl T.f_tuple (by decide +kernel) (da_cons (de_var 4) da_nil)) dpp_nil)))))))), fun ds G Q h => ?_⟩
    obtain ⟨hs, ws, n, p, lot, rfl, gp, nl, hl, hn, q⟩ := h
    rw [show dstart N__law_set [.str (strOf hs), .str (strOf ws), .int (n : Int), .rf p] = [some (.str (strOf hs)), some (.str (strOf ws)), some (.int (n : Int)), some (.rf p), none, none, none, none, none] from rfl]
    simp only [dxs, dl]
    refine ⟨Nat.zero_le _, fun z hz => ?_⟩
    have hpz : p ≠ z := fun e => by rw [e, hz] at gp; cases gp
    refine ⟨by omega, by omega, ?_⟩
    refine ⟨fun i S' G' => ∃ x5 x6 x7 x8, S' = [some (.str (strOf hs)), some (.str (strOf ws)), some (.int (n : Int)), some (.rf p), some (.rf z), x5, x6, x7, x8] ∧
      G' = gput G z (.lst (((List.range n).take i).map fun s => rowD (rowOf lot s))), ⟨none, none, none, none, rfl, by simp⟩, fun _ _ _ _ => trivial, ?_, ?_⟩
    · rintro i S' G' dd ⟨x5, x6, x7, x8, rfl, rfl⟩ hd
      have hd2 : ∃ s0, (List.range n)[i]? = some s0 ∧ dd = .int (s0 : Int) := by
        simp only [Int.toNat_natCast] at hd
        rw [List.getElem?_map] at hd
        cases e : (List.range n)[i]? with
        | none => rw [e] at hd; cases hd
        | some s0 => rw [e] at hd; cases hd; exact ⟨s0, rfl, rfl⟩
      obtain ⟨s0, hs0, rfl⟩ := hd2
      simp only [dxs, dl, beq_self_eq_true, true_and]
      have hpg : gput G z (.lst (((List.range n).take i).map fun s => rowD (rowOf lot s))) p = some (.dT (lotD lot)) := by rw [gput_ne hpz]; exact gp
      refine ⟨p, lotD lot, hpg, fun o kvs => ?_⟩
      simp only [dxs, dl, dx2]
      refine lc_someA lot (fun x => ktD (lotK x)) (fun x => x.1 == s0) (fun x => Mv.d x.2) (by simp [lotD]) (sz (by omega)) gput_same (fun x hx => ⟨_, rfl, fun Q z => ?_, fun hb Q z => ?_⟩) ?_
      · simp only [dxs, dl, dwipe, List.map_cons, List.map_nil, keyD, okE_int, eqv_int, true_and, nat_beq]
        exact z
      · have hv := val_lot nl hx
        unfold lotK at hv
        simp only [dxs, dl, dwipe, List.map_cons, List.map_nil, keyD, rItemL, D.keys, D.key, hv]
        exact ⟨sz (by simp), sz (by simp), z⟩
      · refine ⟨gput_same, ?_⟩
        rw [gput_gput, gput_self hpg]
        have e1 : ((lot.filter fun x => x.1 == s0).map fun x => Mv.d x.2) = ((lot.filter fun x => x.1 == s0).map (·.2)).map Mv.d := by rw [List.map_map]; rfl
        rw [e1]
        refine ⟨okS_mv _, ?_⟩
        rw [sortD_mv]
        simp only [dx3, rAppendD, dl, gput_gput]
        have e3 : (List.range n).take (i + 1) = (List.range n).take i ++ [s0] := by rw [List.take_add_one, hs0]; rfl
        refine ⟨szl (by simp; omega), some (.int (s0 : Int)), x6, x7, x8, rfl, ?_⟩
        rw [e3, List.map_append]
        rfl
    · rintro S' G' ⟨x5, x6, x7, x8, rfl, rfl⟩
      simp only [dxs, dl, rTupleD, Int.toNat_natCast, List.length_map, List.length_range]
      have e : (List.range n).take n = List.range n := by rw [List.take_of_length_le]; simp
      rw [e, rows_eq]
      exact ⟨by show (3 : Nat) ≤ 15; decide, G, sub_new hz rfl, q⟩
end
end Pace
end
section
set_option Elab.async false
set_option linter.all false
set_option maxRecDepth 100000
set_option maxHeartbeats 4000000
namespace Pace
open PySem PySem.Spec PyProof.Rows L2 DL
section
variable {P : Program} {w : World} {K : PySem.W.Frag} {mg : Str → Option Value} {base : Heap} {C : Addr}
def spDrawn : SpD := fun ds G Q => ∃ (p : Addr) (top : Nat) (hs ws : List Nat) (n : Nat), ds = [.rf p, .int (top : Int), .str (strOf hs), .str (strOf ws)] ∧ 1 ≤ top ∧ top ≤ 4 ∧ lettersB hs = true ∧ lettersB ws = true ∧ 1 ≤ hs.length ∧ hs.length ≤ 2 ∧ 1 ≤ ws.length ∧ ws.length ≤ 3 ∧ G p = some (dk (n + 1000)) ∧
  ∀ (rs : List (List Mv)) (m : Nat), n ≤ m → Some_ top hs ws rs → Q (wD hs ws rs) (gput G p (dk m))
abbrev N__law_drawn : List Str := ["_law_deck_here", "_law_top", "_law_heard_now", "_law_written_now", "_law_size", "_law_lot", "_law_s", "_law_h", "_law_c", "_law_w", "_law_page", "_law_spot"]
theorem sc__law_drawn : FnScope N__law_drawn ["_law_deck_here", "_law_top", "_law_heard_now", "_law_written_now"] (defScope s__law_drawn) := ⟨rfl, rfl, rfl, by decide +kernel, rfl, by decide +kernel, by decide +kernel⟩
theorem c__law_drawn (T : Txt K mg C) (d : Def K mg "_law_drawn" s__law_drawn) (C__law_draw : Cal P w K mg base "_law_draw" 1 ["_law_deck_here", "_law_many"] (spDraw)) (C__law_pick : Cal P w K mg base "_law_pick" 2 ["_law_deck_here", "_law_some_here"] (spPick)) (C__law_on : Cal P w K mg base "_law_on" 2 ["_law_w", "_law_spots", "_law_page"] (spOn)) (C__law_mute : Cal P w K mg base "_law_mute" 3 ["_law_w"] (spLMute)) (C__law_set : Cal P w K mg base "_law_set" 1 ["_law_heard_now", "_law_written_now", "_law_size", "_law_lot"] (spLSet)) : Cal P w K mg base "_law_drawn" 4 ["_law_deck_here", "_law_top", "_law_heard_now", "_law_written_now"] (spDrawn) := by
  refine cal_mk (N := N__law_drawn) d sc__law_drawn (fun ds G Q h => ?_) (fun _ _ _ _ _ _ us hl => match us, hl with | [_, _, _, _], _ => rfl) (fun f cdv A outer s H E hg hr => ?_)
  · obtain ⟨p, top, hs, ws, n, rfl, _⟩ := h
    rfl
  · have hu := hu100 hr
    have nd := sc__law_drawn.nd
    have hA := deeper_guards (env := envOfC "_law_drawn" (defScope s__law_drawn) s.heap.objs.size f cdv) hg
    refine ⟨_, (dps_cons (dp_par (i := 4) (j := 5) rfl nd (ha := (da_cons (de_op od_add de_int (de_cal C__law_draw hA (hr.mono (by decide)) (da_cons (de_var 0) (da_cons (de_var 1) da_nil)))) (da_cons de_newT da_nil))))
  (dps_cons (dp_for PassesOwn.never rfl (di_range1 rfl T.f_range (da_cons (de_var 4) da_nil)) (dg_name 6 nd)
  (dps_one (dp_for PassesOwn.never rfl (di_str (de_var 2)) (dg_name 7 nd)
  (dps_one (dp_for PassesOwn.never rfl (di_str (de_var 3)) (dg_name 8 nd)
  (dps_one (dp_if (dt_cmp (od_lt hu) (de_cal C__law_draw hA (hr.mono (by decide)) (da_cons (de_var 0) (da_cons de_int da_nil))) de_int (nomark _))
  (dps_one (dp_asg (de_cal C__law_draw hA (hr.mono (by decide)) (da_cons (de_var 0) (da_cons (de_var 4) da_nil))) (dg_sub hu (de_var 5) (de_tup (da_cons (de_var 6) (da_cons (de_var 7) (da_cons (de_var 8) da_nil)))))))
  dps_nil)))))))
  (dps_cons (dp_asg (de_cal C__law_set hA (hr.mono (by decide)) (da_cons (de_var 2) (da_cons (de_var 3) (da_cons (de_var 4) (da_cons (de_var 5) da_nil))))) (dg_name 9 nd))
  (dps_cons (dp_asg (de_cal C__law_mute hA (hr.mono (by decide)) (da_cons (de_var 9) da_nil)) (dg_name 10 nd))
  (dps_cons (dp_while PassesOwn.never (dt_cmp od_notN (de_var 10) de_non (nomark _))
  (dps_cons (dp_asg (de_cal C__law_pick hA (hr.mono (by decide)) (da_cons (de_var 0) (da_cons (de_cal C__law_on hA (hr.mono (by decide)) (da_cons (de_var 9) (da_cons (de_lst (da_cons de_int da_nil)) (da_cons (de_slice (de_var 10) do_none (do_some (de_un ud_neg de_int))) da_nil)))) da_nil))) (dg_name 11 nd))
  (dps_cons (dp_asg (de_cal C__law_draw hA (hr.mono (by decide)) (da_cons (de_var 0) (da_cons (de_var 4) da_nil))) (dg_sub hu (de_var 5) (de_tup (da_cons (de_var 11) (da_cons (de_ix hu (de_var 10) (de_un ud_neg de_int)) (da_cons (de_cal C__law_pick hA (hr.mono (by decide)) (da_cons (de_var 0) (da_cons (de_var 3) da_nil))) da_nil))))))
  (dps_cons (dp_asg (de_cal C__law_set hA (hr.mono (by decide)) (da_cons (de_var 2) (da_cons (de_var 3) (da_cons (de_var 4) (da_cons (de_var 5) da_nil))))) (dg_name 9 nd))
  (dps_one (dp_asg (de_cal C__law_mute hA (hr.mono (by decide)) (da_cons (de_var 9) da_nil)) (dg_name 10 nd)))))))
  (dps_one (dp_ret (de_var 9)))))))), fun ds G Q h => ?_⟩
    obtain ⟨p, top, hs, ws, n, rfl, t1, t4, lh, lw, h1, h2, w1, w3, gp, q⟩ := h
    rw [show dstart N__law_drawn [.rf p, .int (top : Int), .str (strOf hs), .str (strOf ws)] = [some (.rf p), some (.int (top : Int)), some (.str (strOf hs)), some (.str (strOf ws)), none, none, none, none, none, none, none, none] from rfl]
    simp only [dxs, dl, dx3]
    refine ⟨p, top, n + 999, rfl, t1, by omega, gp, fun r0 hr0 => ?_⟩
    simp only [dx3]
    intro z hz
    have hzp : z ≠ p := fun e => by rw [e, gput_same] at hz; cases hz
    have hpz : p ≠ z := fun e => hzp e.symm
    have hz' : G z = none := by rw [gput_ne hzp] at hz; exact hz
    have np : ∀ G0 o, gput G0 z o p = G0 p := fun _ _ => gput_ne hpz
    have ez : (1 : Int) + (r0 : Int) = ((1 + r0 : Nat) : Int) := by omega
    rw [ez]
    have hsz1 : 1 ≤ 1 + r0 := by omega
    have hsz4 : 1 + r0 ≤ top := by omega
    generalize 1 + r0 = sz at hsz1 hsz4 ⊢
    clear ez hr0
    have hg : ∀ (m : Nat) (kds : List (List Key × D)) (b : Nat), gput (gput (gput G p (dk m)) z (.dT kds)) p (dk b) = gput (gput G p (dk b)) z (.dT kds) := fun m kds b => gput_under hpz
    -- the loops
    have hf : ∀ (x : D) (b m : Nat) (Q0 : DQ) (G' : GH), True := fun _ _ _ _ _ => trivial
    refine ⟨by omega, by omega, ?_⟩
    refine ⟨fun i S' G' => ∃ (lot : Lot) (m : Nat) (x6 x7 x8 : Option D), S' = [some (.rf p), some (.int (top : Int)), some (.str (strOf hs)), some (.str (strOf ws)), some (.int (sz : Int)), some (.rf z), x6, x7, x8, none, none, none] ∧
      G' = gput (gput G p (dk m)) z (.dT (lotD lot)) ∧ LotOk sz hs ws lot ∧ n + 999 ≤ m + 12 * i, ⟨[], n + 999, none, none, none, rfl, rfl, ⟨by simp [LotNd], by simp⟩, by omega⟩, fun _ _ _ _ => trivial, ?_, ?_⟩
    · rintro i S' G' dd ⟨lot, m, x6, x7, x8, rfl, rfl, ok, hm⟩ hd
      have hd2 : ∃ s0, s0 < sz ∧ i < 4 ∧ dd = .int (s0 : Int) := by
        simp only [Int.toNat_natCast] at hd
        rw [List.getElem?_map] at hd
        cases e : (List.range sz)[i]? with
        | none => rw [e] at hd; cases hd
        | some s0 =>
          rw [e] at hd; cases hd
          have h3 := (List.getElem?_eq_some_iff.mp e).1
          rw [List.length_range] at h3
          exact ⟨s0, List.mem_range.mp (List.mem_of_getElem? e), by omega, rfl⟩
      obtain ⟨s0, hs0, hi4, rfl⟩ := hd2
      simp only [dxs, dl]
      refine ⟨fun j S' G' => ∃ (lot : Lot) (m : Nat) (x7 x8 : Option D), S' = [some (.rf p), some (.int (top : Int)), some (.str (strOf hs)), some (.str (strOf ws)), some (.int (sz : Int)), some (.rf z), some (.int (s0 : Int)), x7, x8, none, none, none] ∧
        G' = gput (gput G p (dk m)) z (.dT (lotD lot)) ∧ LotOk sz hs ws lot ∧ n + 999 ≤ m + 12 * i + 6 * j, ⟨lot, m, _, _, rfl, rfl, ok, by omega⟩, fun _ _ _ _ => trivial, ?_, ?_⟩
      · clear hm ok
        rintro j S' G' dd ⟨lot, m, x7, x8, rfl, rfl, ok, hm⟩ hd
        obtain ⟨h0, hh0, rfl⟩ := signs_get hd
        have hj : j < 2 := by have := (List.getElem?_eq_some_iff.mp hh0).1; omega
        simp only [dxs, dl]
        refine ⟨fun k S' G' => ∃ (lot : Lot) (m : Nat) (x8 : Option D), S' = [some (.rf p), some (.int (top : Int)), some (.str (strOf hs)), some (.str (strOf ws)), some (.int (sz : Int)), some (.rf z), some (.int (s0 : Int)), some (.str (sgn h0)), x8, none, none, none] ∧
          G' = gput (gput G p (dk m)) z (.dT (lotD lot)) ∧ LotOk sz hs ws lot ∧ n + 999 ≤ m + 12 * i + 6 * j + 2 * k, ⟨lot, m, _, rfl, rfl, ok, by omega⟩, fun _ _ _ _ => trivial, ?_, ?_⟩
        · clear hm ok
          rintro k S' G' dd ⟨lot, m, x8, rfl, rfl, ok, hm⟩ hd
          obtain ⟨c0, hc0, rfl⟩ := signs_get hd
          have hk : k < 3 := by have := (List.getElem?_eq_some_iff.mp hc0).1; omega
          simp only [dxs, dl]
          obtain ⟨m', rfl⟩ : ∃ m', m = m' + 2 := ⟨m - 2, by omega⟩
          refine ⟨p, 5, m' + 1, rfl, by decide, by decide, by rw [np, gput_same], fun r1 hr1 => ?_⟩
          rw [hg]
          simp only [dxs, dl, okL_int, DL.lt_int, true_and]
          split
          · refine ⟨p, sz, m', rfl, hsz1, by omega, by rw [np, gput_same], fun r2 hr2 => ?_⟩
            rw [hg]
            simp only [dxs, dl, D.keys, D.key]
            refine ⟨Pace.sz (by simp), ?_, lotPut lot (s0, ⟨h0, c0, r2⟩), m', _, rfl, ?_, ok.put ⟨hs0, List.mem_of_getElem? hh0, List.mem_of_getElem? hc0, hr2⟩, by omega⟩
            · have h9 := lot_few ok
              have h7 : hs.length * ws.length ≤ 2 * 3 := Nat.mul_le_mul h2 w3
              have h8 : sz * (hs.length * ws.length) ≤ 4 * (2 * 3) := Nat.mul_le_mul (by omega) h7
              exact szl (by simp [lotD]; omega)
            · rw [gput_gput]
              have := lotD_put lot (s0, ⟨h0, c0, r2⟩)
              unfold lotK at this
              simp only at this
              rw [this]
          · exact ⟨lot, m' + 1, _, rfl, rfl, ok, by omega⟩
        · clear hm ok
          rintro S' G' ⟨lot, m, x8, rfl, rfl, ok, hm⟩
          rw [signs_len] at hm
          exact ⟨lot, m, _, _, rfl, rfl, ok, by omega⟩
      · clear hm ok
        rintro S' G' ⟨lot, m, x7, x8, rfl, rfl, ok, hm⟩
        rw [signs_len] at hm
        exact ⟨lot, m, _, _, _, rfl, rfl, ok, by omega⟩
    · rintro S' G' ⟨lot, m, x6, x7, x8, rfl, rfl, ok, hm⟩
      simp only [dxs, dl]
      have hm2 : n + 900 ≤ m := by simp at hm; omega
      clear hm
      have fewL : ∀ lot, LotOk sz hs ws lot → lot.length ≤ 1000 := fun lot ok => by
        have h9 := lot_few ok
        have h7 : hs.length * ws.length ≤ 2 * 3 := Nat.mul_le_mul h2 w3
        have h8 : sz * (hs.length * ws.length) ≤ 4 * (2 * 3) := Nat.mul_le_mul (by omega) h7
        omega
      refine ⟨hs, ws, sz, z, lot, rfl, gput_same, ok.nd, fewL lot ok, by omega, ?_⟩
      simp only [dxs, dl]
      refine ⟨hs, ws, rowsOf lot sz, rfl, rowsOf_few ok (by omega) h2 w3, rowsOf_ok ok h2 w3, by rw [rowsOf_len]; omega, by rw [rowsOf_len]; omega, ?_⟩
      refine ⟨fun mu S' G' => ∃ (lot : Lot) (m : Nat) (x11 : Option D), S' = [some (.rf p), some (.int (top : Int)), some (.str (strOf hs)), some (.str (strOf ws)), some (.int (sz : Int)), some (.rf z), x6, x7, x8, some (wD hs ws (rowsOf lot sz)), some (pageD (muteOf (rowsOf lot sz) hs)), x11] ∧
        G' = gput (gput G p (dk m)) z (.dT (lotD lot)) ∧ LotOk sz hs ws lot ∧ mu = missing sz hs lot ∧ n + 3 * mu ≤ m, ⟨_, lot, m, none, rfl, rfl, ok, rfl, ?_⟩, ?_⟩
      · have := missing_le sz hs lot
        have h8 : sz * hs.length ≤ 4 * 2 := Nat.mul_le_mul (by omega) h2
        omega
      · clear hm2 ok
        rintro mu S' G' ⟨lot, m, x11, rfl, rfl, ok, rfl, hm⟩
        simp only [dxs, dl]
        have hf1 := rowsOf_few ok (by omega) h2 w3
        have hf2 := rowsOf_ok ok h2 w3
        cases hmu : muteOf (rowsOf lot sz) hs with
        | none =>
          rw [if_neg (by simp [pageD, D.isNon])]
          refine ⟨gput G p (dk m), sub_new (by rw [gput_ne hzp]; exact hz') rfl, q _ m (by omega) ⟨rowsOf_val ok lh lw hsz1 (by omega) h2 w3, hmu, hf1, by rw [rowsOf_len]; omega⟩⟩
        | some pg =>
          rw [if_pos (by simp [pageD, D.isNon])]
          obtain ⟨qq, c0, rfl, hc0, hq0, hq1, hq2, hq3⟩ := muteOf_some (fun r hr => (hf2 r hr).2) (by rw [rowsOf_len]; omega) hmu
          simp only [pageD, dxs, dl, dx3]
          have hB : 2 ^ (rowsOf lot sz).length ≤ 2 ^ 4 := Nat.pow_le_pow_right (by decide) (by rw [rowsOf_len]; omega)
          have hln : (strOf (qq ++ [c0])).length ≤ sizeLine := by rw [strOf_len]; exact Pace.sz (by simp; omega)
          refine ⟨Pace.sz (by simp), hln, ?_⟩
          rw [cutS_strOf, cut_last, List.dropLast_concat]
          have hrl : ∀ k ∈ run (rowsOf lot sz) [0] qq, k < sz := fun k hk => by
            have := run_lt (rs := rowsOf lot sz) (n := (rowsOf lot sz).length) (fun r hr => (hf2 r hr).2) (ss := [0]) (by simp [rowsOf_len]; omega) k hk
            rw [rowsOf_len] at this
            exact this
          have hnd : (run (rowsOf lot sz) [0] qq).Nodup := run_nodup (by simp)
          have hl5 := nodup_lt_len hnd hrl
          refine ⟨hs, ws, rowsOf lot sz, [0], qq, rfl, hf1, hf2, by simp, by simp [rowsOf_len]; omega, ?_⟩
          have hl6 : 1 ≤ (run (rowsOf lot sz) [0] qq).length := by
            cases e : run (rowsOf lot sz) [0] qq with
            | nil => exact absurd e hq1
            | cons a l => simp
          have hmis : 1 ≤ missing sz hs lot := by
            cases e : run (rowsOf lot sz) [0] qq with
            | nil => exact absurd e hq1
            | cons a l =>
              have ha : a ∈ run (rowsOf lot sz) [0] qq := by rw [e]; simp
              have := missing_put (sz := sz) (hs := hs) (lot := lot) (x := (a, ⟨c0, 0, 0⟩)) (hrl a ha) hc0 (no_move (hs := hs) hq2 ha (hrl a ha))
              omega
          obtain ⟨m', rfl⟩ : ∃ m', m = m' + 3 := ⟨m - 3, by omega⟩
          refine ⟨p, m' + 2, _, natsD (run (rowsOf lot sz) [0] qq), rfl, .inl rfl, by rw [natsD_len]; exact hl6, by rw [natsD_len]; omega, by rw [np, gput_same], fun x hx => ?_⟩
          obtain ⟨spot, hspot, rfl⟩ := List.mem_map.mp hx
          rw [hg]
          refine ⟨p, sz, m' + 1, rfl, hsz1, by omega, by rw [np, gput_same], fun r2 hr2 => ?_⟩
          rw [hg]
          simp only [last_sgn hln]
          refine ⟨p, m', _, ws.map (fun c => .str (sgn c)), rfl, .inr ⟨ws, rfl, rfl⟩, by simpa using w1, by simp; omega, by rw [np, gput_same], fun x hx => ?_⟩
          obtain ⟨c1, hc1, rfl⟩ := List.mem_map.mp hx
          rw [hg]
          simp only [dl, D.keys, D.key]
          refine ⟨Pace.sz (by simp), ?_, ?_⟩
          · have := fewL lot ok
            exact szl (by simp [lotD]; omega)
          · rw [gput_gput]
            have hput := lotD_put lot (spot, ⟨c0, c1, r2⟩)
            unfold lotK at hput
            simp only at hput
            rw [hput]
            have ok2 := ok.put (x := (spot, ⟨c0, c1, r2⟩)) ⟨hrl spot hspot, hc0, hc1, hr2⟩
            have hmp := missing_put (sz := sz) (hs := hs) (lot := lot) (x := (spot, ⟨c0, c1, r2⟩)) (hrl spot hspot) hc0 (no_move (hs := hs) hq2 hspot (hrl spot hspot))
            refine ⟨hs, ws, sz, z, lotPut lot (spot, ⟨c0, c1, r2⟩), rfl, gput_same, ok2.nd, fewL _ ok2, by omega, ?_⟩
            refine ⟨hs, ws, rowsOf (lotPut lot (spot, ⟨c0, c1, r2⟩)) sz, rfl, rowsOf_few ok2 (by omega) h2 w3, rowsOf_ok ok2 h2 w3, by rw [rowsOf_len]; omega, by rw [rowsOf_len]; omega, ?_⟩
            exact ⟨_, hmp, lotPut lot (spot, ⟨c0, c1, r2⟩), m', some (.int (spot : Int)), rfl, rfl, ok2, rfl, by omega⟩
end
end Pace
end
section
set_option Elab.async false
set_option linter.all false
set_option maxRecDepth 100000
set_option maxHeartbeats 4000000
namespace Pace
open PySem PySem.Spec PyProof.Rows L2 DL
section
variable {P : Program} {w : World} {K : PySem.W.Frag} {mg : Str → Option Value} {base : Heap} {C : Addr}
def spSome51 : SpD := fun ds G Q => ∃ (p : Addr) (n : Nat), ds = [.rf p, .int 4] ∧ G p = some (dk (n + 1010)) ∧ ∀ (hs ws : List Nat) (rs : List (List Mv)) (m : Nat), n ≤ m → Some_ 4 hs ws rs → ws.length ≤ 3 → Q (wD hs ws rs) (gput G p (dk m))
abbrev N__law_some : List Str := ["_law_deck_here", "_law_top", "_law_heard_now"]
theorem sc__law_some : FnScope N__law_some ["_law_deck_here", "_law_top"] (defScope s__law_some) := ⟨rfl, rfl, rfl, by decide +kernel, rfl, by decide +kernel, by decide +kernel⟩
theorem c__law_some (T : Txt K mg C) (d : Def K mg "_law_some" s__law_some) (C__law_draw : Cal P w K mg base "_law_draw" 1 ["_law_deck_here", "_law_many"] (spDraw)) (C__law_known : Cal P w K mg base "_law_known" 2 ["_law_deck_here"] (spKnown)) (C__law_pick : Cal P w K mg base "_law_pick" 2 ["_law_deck_here", "_law_some_here"] (spPick)) (C__law_drawn : Cal P w K mg base "_law_drawn" 4 ["_law_deck_here", "_law_top", "_law_heard_now", "_law_written_now"] (spDrawn)) : Cal P w K mg base "_law_some" 5 ["_law_deck_here", "_law_top"] (spSome51) := by
  refine cal_mk (N := N__law_some) d sc__law_some (fun ds G Q h => ?_) (fun _ _ _ _ _ _ us hl => match us, hl with | [_, _], _ => rfl) (fun f cdv A outer s H E hg hr => ?_)
  · obtain ⟨p, n, rfl, _⟩ := h
    rfl
  · have hu := hu100 hr
    have nd := sc__law_some.nd
    have hA := deeper_guards (env := envOfC "_law_some" (defScope s__law_some) s.heap.objs.size f cdv) hg
    refine ⟨_, (dps_cons (dp_if (dt_cmp (od_eq hu) (de_cal C__law_draw hA (hr.mono (by decide)) (da_cons (de_var 0) (da_cons de_int da_nil))) de_int (nomark _))
  (dps_one (dp_ret (de_cal C__law_known hA (hr.mono (by decide)) (da_cons (de_var 0) da_nil))))
  dps_nil)
  (dps_cons (dp_asg (de_cal C__law_pick hA (hr.mono (by decide)) (da_cons (de_var 0) (da_cons (de_lst (da_cons de_str (da_cons de_str (da_cons de_str (da_cons de_str da_nil))))) da_nil))) (dg_name 2 nd))
  (dps_one (dp_ret (de_cal C__law_drawn hA (hr.mono (by decide)) (da_cons (de_var 0) (da_cons (de_var 1) (da_cons (de_var 2) (da_cons (de_cal C__law_pick hA (hr.mono (by decide)) (da_cons (de_var 0) (da_cons (de_lst (da_cons de_str (da_cons de_str (da_cons de_str (da_cons de_str da_nil))))) da_nil))) da_nil))))))))), fun ds G Q h => ?_⟩
    obtain ⟨p, n, rfl, gp, q⟩ := h
    rw [show dstart N__law_some [.rf p, .int 4] = [some (.rf p), some (.int 4), none] from rfl]
    simp only [dxs, dl, dx3]
    refine ⟨p, 4, n + 1009, rfl, by decide, by decide, gp, fun r hr => ?_⟩
    simp only [dxs, dl, okE_int, eqv_int, true_and]
    split
    · refine ⟨p, n + 1008, rfl, gput_same, fun k hk => ?_⟩
      rw [gput_gput]
      exact ⟨_, Sub.refl _, q _ _ _ _ (by omega) (known_some hk) (by decide)⟩
    · refine ⟨Pace.sz (by simp), p, n + 1008, _, _, rfl, .inl rfl, by simp, by simp, gput_same, fun x hx => ?_⟩
      rw [gput_gput]
      have hx2 : ∃ hs, x = .str (strOf hs) ∧ lettersB hs = true ∧ 1 ≤ hs.length ∧ hs.length ≤ 2 := by
        simp only [s_ab, s_a, s_a', List.mem_cons, List.not_mem_nil, or_false] at hx
        rcases hx with rfl | rfl | rfl | rfl
        · exact ⟨_, rfl, by decide +kernel, by decide, by decide⟩
        · exact ⟨_, rfl, by decide +kernel, by decide, by decide⟩
        · exact ⟨_, rfl, by decide +kernel, by decide, by decide⟩
        · exact ⟨_, rfl, by decide +kernel, by decide, by decide⟩
      obtain ⟨hs, rfl, lh, h1, h2⟩ := hx2
      refine ⟨Pace.sz (by simp), p, n + 1007, _, _, rfl, .inl rfl, by simp, by simp, gput_same, fun x hx => ?_⟩
      rw [gput_gput]
      have hx2 : ∃ ws, x = .str (strOf ws) ∧ lettersB ws = true ∧ 1 ≤ ws.length ∧ ws.length ≤ 3 := by
        simp only [s_ab, s_xy, s_abc, List.mem_cons, List.not_mem_nil, or_false] at hx
        rcases hx with rfl | rfl | rfl | rfl
        · exact ⟨_, rfl, by decide +kernel, by decide, by decide⟩
        · exact ⟨_, rfl, by decide +kernel, by decide, by decide⟩
        · exact ⟨_, rfl, by decide +kernel, by decide, by decide⟩
        · exact ⟨_, rfl, by decide +kernel, by decide, by decide⟩
      obtain ⟨ws, rfl, lw, w1, w2⟩ := hx2
      refine ⟨p, 4, hs, ws, n + 7, rfl, by decide, by decide, lh, lw, h1, h2, w1, w2, gput_same, fun rs m hm so => ?_⟩
      rw [gput_gput]
      exact ⟨_, Sub.refl _, q _ _ _ _ (by omega) so w2⟩
end
end Pace
end
section
set_option Elab.async false
set_option linter.all false
set_option maxRecDepth 100000
set_option maxHeartbeats 4000000
namespace Pace
open PySem PySem.Spec PyProof.Rows L2 DL
section
variable {P : Program} {w : World} {K : PySem.W.Frag} {mg : Str → Option Value} {base : Heap} {C : Addr}
def spInteger : SpD := fun ds G Q => ∃ n : Int, ds = [.int n] ∧ Q (.bl true) G
abbrev N_is_integer : List Str := ["thing"]
theorem sc_is_integer : FnScope N_is_integer ["thing"] (defScope s_is_integer) := ⟨rfl, rfl, rfl, by decide +kernel, rfl, by decide +kernel, by decide +kernel⟩
theorem c_is_integer (T : Txt K mg C) (d : Def K mg "is_integer" s_is_integer) : Cal P w K mg base "is_integer" 1 ["thing"] (spInteger) := by
  refine cal_mk (N := N_is_integer) d sc_is_integer (fun ds G Q h => ?_) (fun _ _ _ _ _ _ us hl => match us, hl with | [_], _ => rfl) (fun f cdv A outer s H E hg hr => ?_)
  · obtain ⟨n, rfl, _⟩ := h
    rfl
  · have hu := hu100 hr
    have nd := sc_is_integer.nd
    have hA := deeper_guards (env := envOfC "is_integer" (defScope s_is_integer) s.heap.objs.size f cdv) hg
    refine ⟨_, (dps_one (dp_ret (de_and (de_callB cd_isi rfl T.f_isinstance (by decide +kernel) (da_cons (de_var 0) (da_cons (de_ty (T := "int") rfl T.f_int (by decide +kernel)) da_nil))) (de_one (de_not (de_callB cd_isi rfl T.f_isinstance (by decide +kernel) (da_cons (de_var 0) (da_cons (de_ty (T := "bool") rfl T.f_bool (by decide +kernel)) da_nil)))))))), fun ds G Q h => ?_⟩
    obtain ⟨n, rfl, q⟩ := h
    exact ⟨_, Sub.refl _, q⟩
end
section
variable {P : Program} {w : World} {K : PySem.W.Frag} {mg : Str → Option Value} {base : Heap} {C : Addr}
def spLetterOf : SpD := fun ds G Q => ∃ (ls : List Nat) (c : Nat), ds = [.str (strOf ls), .str (sgn c)] ∧ Q (.bl (decide (c ∈ ls))) G
abbrev N_is_letter_of : List Str := ["letters", "thing"]
theorem sc_is_letter_of : FnScope N_is_letter_of ["letters", "thing"] (defScope s_is_letter_of) := ⟨rfl, rfl, rfl, by decide +kernel, rfl, by decide +kernel, by decide +kernel⟩
theorem c_is_letter_of (T : Txt K mg C) (d : Def K mg "is_letter_of" s_is_letter_of) : Cal P w K mg base "is_letter_of" 1 ["letters", "thing"] (spLetterOf) := by
  refine cal_mk (N := N_is_letter_of) d sc_is_letter_of (fun ds G Q h => ?_) (fun _ _ _ _ _ _ us hl => match us, hl with | [_, _], _ => rfl) (fun f cdv A outer s H E hg hr => ?_)
  · obtain ⟨ls, c, rfl, _⟩ := h
    rfl
  · have hu := hu100 hr
    have nd := sc_is_letter_of.nd
    have hA := deeper_guards (env := envOfC "is_letter_of" (defScope s_is_letter_of) s.heap.objs.size f cdv) hg
    refine ⟨_, (dps_one (dp_ret (de_and (de_callB cd_isi rfl T.f_isinstance (by decide +kernel) (da_cons (de_var 1) (da_cons (de_ty (T := "str") rfl T.f_str (by decide +kernel)) da_nil))) (de_and (de_cmp (od_eq hu) (de_callB cd_len rfl T.f_len (by decide +kernel) (da_cons (de_var 1) da_nil)) de_int (nomark _)) (de_one (de_cmp (od_in hu) (de_var 1) (de_var 0) (by rfl))))))), fun ds G Q h => ?_⟩
    obtain ⟨ls, c, rfl, q⟩ := h
    rw [show dstart N_is_letter_of [.str (strOf ls), .str (sgn c)] = [some (.str (strOf ls)), some (.str (sgn c))] from rfl]
    have e1 : rLenD [.str (sgn c)] = fun G Q => Q (.int (1 : Nat)) G := by
      funext G Q
      exact len_str (x := sgn c) (sz (by show (1 : Nat) ≤ 5000; decide)) G Q
    simp only [dxs, dl, dx3, e1, inn_str, strIn_sgn, okE_int, eqv_int, true_and, if_true, beq_self_eq_true, Int.ofNat_one]
    exact ⟨_, Sub.refl _, q⟩
end
section
variable {P : Program} {w : World} {K : PySem.W.Frag} {mg : Str → Option Value} {base : Heap} {C : Addr}
def spLetters : SpD := fun ds G Q => ∃ cs : List Nat, ds = [.str (strOf cs)] ∧ cs.length ≤ 1000 ∧ Q (.bl (lettersB cs)) G
abbrev N_are_letters : List Str := ["thing", "sign", "one", "other"]
theorem sc_are_letters : FnScope N_are_letters ["thing"] (defScope s_are_letters) := ⟨rfl, rfl, rfl, by decide +kernel, rfl, by decide +kernel, by decide +kernel⟩
theorem c_are_letters (T : Txt K mg C) (d : Def K mg "are_letters" s_are_letters) : Cal P w K mg base "are_letters" 1 ["thing"] (spLetters) := by
  refine cal_mk (N := N_are_letters) d sc_are_letters (fun ds G Q h => ?_) (fun _ _ _ _ _ _ us hl => match us, hl with | [_], _ => rfl) (fun f cdv A outer s H E hg hr => ?_)
  · obtain ⟨cs, rfl, _⟩ := h
    rfl
  · have hu := hu100 hr
    have nd := sc_are_letters.nd
    have hA := deeper_guards (env := envOfC "are_letters" (defScope s_are_letters) s.heap.objs.size f cdv) hg
    refine ⟨_, (dps_cons (dp_if (DW.dt (dw_or (dt_not (dt_val (de_callB cd_isi rfl T.f_isinstance (by decide +kernel) (da_cons (de_var 0) (da_cons (de_ty (T := "str") rfl T.f_str (by decide +kernel)) da_nil))))) (dw_or (dt_cmp (od_eq hu) (de_var 0) de_str (nomark _)) (dw_or1 (dt_not (dt_val (de_callB (cd_all rfl) rfl T.f_all (by decide +kernel) (da_cons (de_lc (own := [("sign", 1)]) (p := (.nm 1)) rfl nd (di_str (de_var 0)) (blkOk_by (by show blkC N_are_letters (defScope s_are_letters) _ _ = true; decide +kernel)) (by decide) (fun _ _ _ _ _ => pg_name (i := 1) nd rfl (Or.inl rfl)) (fun _ _ _ _ _ => dts_nil) (fun _ _ _ _ _ => (de_cmp (od_in hu) (de_var 1) (de_gstr rfl T.c_LETTERS) (by rfl)))) da_nil))))))))
  (dps_one (dp_ret de_bl))
  dps_nil)
  (dps_one (dp_ret (de_callB (cd_all rfl) rfl T.f_all (by decide +kernel) (da_cons (de_lc (own := [("one", 2), ("other", 3)]) (p := (.tp [2, 3])) rfl nd (di_zipS rfl T.f_zip (da_cons (de_slice (de_var 0) do_none (do_some (de_un ud_neg de_int))) (da_cons (de_slice (de_var 0) (do_some de_int) do_none) da_nil))) (blkOk_by (by show blkC N_are_letters (defScope s_are_letters) _ _ = true; decide +kernel)) (by decide) (fun _ _ _ _ _ => pg_tup rfl (pgs_cons (pg_name (i := 2) nd rfl (Or.inl rfl)) (pgs_cons (pg_name (i := 3) nd rfl (Or.inl rfl)) pgs_nil))) (fun _ _ _ _ _ => dts_nil) (fun _ _ _ _ _ => (de_cmp (od_lt hu) (de_var 2) (de_var 3) (nomark _)))) da_nil))))), fun ds G Q h => ?_⟩
    obtain ⟨cs, rfl, hl, q⟩ := h
    rw [show dstart N_are_letters [.str (strOf cs)] = [some (.str (strOf cs)), none, none, none] from rfl]
    simp only [dxs, dl, dx3, Bool.not_true, Bool.false_eq_true, if_false, okE_str, eqv_str, true_and]
    by_cases h0 : cs = []
    · subst h0
      rw [if_pos (by decide +kernel), if_pos trivial]
      exact ⟨_, Sub.refl _, q⟩
    · rw [if_neg (by
        intro z
        have z2 : strOf cs = strOf [] := by rw [← str_nil]; simpa using z
        exact h0 (strOf_inj z2))]
      have hsz : (strOf cs).length ≤ sizeLine := by rw [strOf_len]; exact sz (by omega)
      refine lc_mapA cs (fun c => .str (sgn c)) (fun c => .bl (decide (c ∈ abc))) (by simp [DL.signs, strOf, sgn]) (sz (by omega)) trivial (fun c _ => ⟨_, rfl, fun Q z => ?_⟩) ?_
      · simp only [dxs, dl, dwipe, List.map_cons, List.map_nil, inn_str, abc_str, strIn_sgn]
        exact z
      · rw [all_map]
        simp only
        by_cases ha : cs.all (fun c => decide (c ∈ abc)) = true
        · rw [if_neg (by simp [ha])]
          refine ⟨hsz, hsz, ?_⟩
          rw [cutS_strOf, cutS_strOf, cut_last, cut_tail]
          refine lc_mapA (cs.dropLast.zip cs.tail) (fun p => .tup [.str (sgn p.1), .str (sgn p.2)]) (fun p => .bl (decide (p.1 < p.2))) (by rw [zip_map]; simp [strOf]) (sz (by simp; omega)) trivial (fun p _ => ⟨_, rfl, fun Q z => ?_⟩) ?_
          · simp only [dxs, dl, dwipe, List.map_cons, List.map_nil, okL_str, sgn_lt, true_and]
            exact z
          · rw [all_map]
            refine ⟨_, Sub.refl _, ?_⟩
            have e : lettersB cs = (cs.dropLast.zip cs.tail).all fun p => decide (p.1 < p.2) := by
              unfold lettersB nbr
              rw [ha, zip_map]
              have : cs.isEmpty = false := by simpa using h0
              simp [this, List.all_map]
            rw [← e]
            exact q
        · rw [if_pos (by simpa using ha)]
          have e : lettersB cs = false := by
            unfold lettersB
            simp only [Bool.not_eq_true] at ha
            simp [ha]
          rw [e] at q
          exact ⟨_, Sub.refl _, q⟩
end
end Pace
end
section
set_option Elab.async false
set_option linter.all false
set_option maxRecDepth 100000
set_option maxHeartbeats 4000000
namespace Pace
open PySem PySem.Spec PyProof.Rows L2 DL
section
variable {P : Program} {w : World} {K : PySem.W.Frag} {mg : Str → Option Value} {base : Heap} {C : Addr}
def spMove : SpD := fun ds G Q => ∃ (hs ws : List Nat) (n : Nat) (m : Mv), ds = [.str (strOf hs), .str (strOf ws), .int (n : Int), Mv.d m] ∧ Q (.bl (mvB hs ws n m)) G
abbrev N_is_move : List Str := ["heard", "written", "many", "thing"]
theorem sc_is_move : FnScope N_is_move ["heard", "written", "many", "thing"] (defScope s_is_move) := ⟨rfl, rfl, rfl, by decide +kernel, rfl, by decide +kernel, by decide +kernel⟩
theorem c_is_move (T : Txt K mg C) (d : Def K mg "is_move" s_is_move) (C_is_letter_of : Cal P w K mg base "is_letter_of" 1 ["letters", "thing"] (spLetterOf)) (C_is_integer : Cal P w K mg base "is_integer" 1 ["thing"] (spInteger)) : Cal P w K mg base "is_move" 2 ["heard", "written", "many", "thing"] (spMove) := by
  refine cal_mk (N := N_is_move) d sc_is_move (fun ds G Q h => ?_) (fun _ _ _ _ _ _ us hl => match us, hl with | [_, _, _, _], _ => rfl) (fun f cdv A outer s H E hg hr => ?_)
  · obtain ⟨hs, ws, n, m, rfl, _⟩ := h
    rfl
  · have hu := hu100 hr
    have nd := sc_is_move.nd
    have hA := deeper_guards (env := envOfC "is_move" (defScope s_is_move) s.heap.objs.size f cdv) hg
    refine ⟨_, (dps_cons (dp_if (DW.dt (dw_or (dt_not (dt_val (de_callB cd_isi rfl T.f_isinstance (by decide +kernel) (da_cons (de_var 3) (da_cons (de_ty (T := "tuple") rfl T.f_tuple (by decide +kernel)) da_nil))))) (dw_or1 (dt_cmp (od_ne hu) (de_callB cd_len rfl T.f_len (by decide +kernel) (da_cons (de_var 3) da_nil)) (de_gint rfl T.c_MOVE_PARTS_rules) (nomark _)))))
  (dps_one (dp_ret de_bl))
  dps_nil)
  (dps_cons (dp_if (DW.dt (dw_or (dt_not (dt_val (de_cal C_is_letter_of hA (hr.mono (by decide)) (da_cons (de_var 0) (da_cons (de_ix hu (de_var 3) de_int) da_nil))))) (dw_or1 (dt_not (dt_val (de_cal C_is_letter_of hA (hr.mono (by decide)) (da_cons (de_var 1) (da_cons (de_ix hu (de_var 3) de_int) da_nil))))))))
  (dps_one (dp_ret de_bl))
  dps_nil)
  (dps_one (dp_ret (de_and (de_cal C_is_integer hA (hr.mono (by decide)) (da_cons (de_ix hu (de_var 3) de_int) da_nil)) (de_one (de_chain (od_le hu) (od_lt hu) de_int (de_ix hu (de_var 3) de_int) (de_var 2)))))))), fun ds G Q h => ?_⟩
    obtain ⟨hs, ws, n, m, rfl, q⟩ := h
    rw [show dstart N_is_move [.str (strOf hs), .str (strOf ws), .int (n : Int), Mv.d m] = [some (.str (strOf hs)), some (.str (strOf ws)), some (.int (n : Int)), some (Mv.d m)] from rfl]
    simp only [Mv.d, dxs, dl, dx3, Bool.not_true, Bool.false_eq_true, if_false, okE_int, eqv_int, true_and, mv0, mv1, mv2]
    rw [if_neg (by decide)]
    refine ⟨hs, m.h, rfl, ?_⟩
    by_cases h1 : m.h ∈ hs
    · simp only [h1, decide_true, Bool.not_true, Bool.false_eq_true, if_false]
      refine ⟨ws, m.c, rfl, ?_⟩
      by_cases h2 : m.c ∈ ws
      · simp only [h2, decide_true, Bool.not_true, Bool.false_eq_true, if_false]
        refine ⟨_, rfl, ?_⟩
        simp only [dxs, dl, mv2, okL_int, DL.lt_int, true_and, if_true]
        have e1 : (!decide ((m.t : Int) < 0)) = true := by simp
        rw [e1, if_pos rfl]
        refine ⟨_, Sub.refl _, ?_⟩
        have e2 : decide ((m.t : Int) < (n : Int)) = mvB hs ws n m := by
          unfold mvB
          simp [h1, h2]
        rw [e2]
        exact q
      · simp only [h2, decide_false, Bool.not_false, if_true]
        refine ⟨_, Sub.refl _, ?_⟩
        have : mvB hs ws n m = false := by unfold mvB; simp [h2]
        rw [this] at q
        exact q
    · simp only [h1, decide_false, Bool.not_false, if_true]
      refine ⟨_, Sub.refl _, ?_⟩
      have : mvB hs ws n m = false := by unfold mvB; simp [h1]
      rw [this] at q
      exact q
end
section
variable {P : Program} {w : World} {K : PySem.W.Frag} {mg : Str → Option Value} {base : Heap} {C : Addr}
def spRow : SpD := fun ds G Q => ∃ (hs ws : List Nat) (n : Nat) (r : List Mv), ds = [.str (strOf hs), .str (strOf ws), .int (n : Int), rowD r] ∧ r.length ≤ 1000 ∧ Q (.bl (rowB hs ws n r)) G
abbrev N_is_row : List Str := ["heard", "written", "many", "thing", "move", "one", "other"]
theorem sc_is_row : FnScope N_is_row ["heard", "written", "many", "thing"] (defScope s_is_row) := ⟨rfl, rfl, rfl, by decide +kernel, rfl, by decide +kernel, by decide +kernel⟩
theorem c_is_row (T : Txt K mg C) (d : Def K mg "is_row" s_is_row) (C_is_move : Cal P w K mg base "is_move" 2 ["heard", "written", "many", "thing"] (spMove)) : Cal P w K mg base "is_row" 3 ["heard", "written", "many", "thing"] (spRow) := by
  refine cal_mk (N := N_is_row) d sc_is_row (fun ds G Q h => ?_) (fun _ _ _ _ _ _ us hl => match us, hl with | [_, _, _, _], _ => rfl) (fun f cdv A outer s H E hg hr => ?_)
  · obtain ⟨hs, ws, n, r, rfl, _⟩ := h
    rfl
  · have hu := hu100 hr
    have nd := sc_is_row.nd
    have hA := deeper_guards (env := envOfC "is_row" (defScope s_is_row) s.heap.objs.size f cdv) hg
    refine ⟨_, (dps_cons (dp_if (DW.dt (dw_or (dt_not (dt_val (de_callB cd_isi rfl T.f_isinstance (by decide +kernel) (da_cons (de_var 3) (da_cons (de_ty (T := "tuple") rfl T.f_tuple (by decide +kernel)) da_nil))))) (dw_or1 (dt_not (dt_val (de_callB (cd_all rfl) rfl T.f_all (by decide +kernel) (da_cons (de_lc (own := [("move", 4)]) (p := (.nm 4)) rfl nd (di_tup (de_var 3)) (blkOk_by (by show blkC N_is_row (defScope s_is_row) _ _ = true; decide +kernel)) (by decide) (fun _ _ _ _ _ => pg_name (i := 4) nd rfl (Or.inl rfl)) (fun _ _ _ _ _ => dts_nil) (fun _ _ _ _ _ => (de_cal C_is_move hA (hr.mono (by decide)) (da_cons (de_var 0) (da_cons (de_var 1) (da_cons (de_var 2) (da_cons (de_var 4) da_nil))))))) da_nil)))))))
  (dps_one (dp_ret de_bl))
  dps_nil)
  (dps_one (dp_ret (de_callB (cd_all rfl) rfl T.f_all (by decide +kernel) (da_cons (de_lc (own := [("one", 5), ("other", 6)]) (p := (.tp [5, 6])) rfl nd (di_zipT rfl T.f_zip (da_cons (de_slice (de_var 3) do_none (do_some (de_un ud_neg de_int))) (da_cons (de_slice (de_var 3) (do_some de_int) do_none) da_nil))) (blkOk_by (by show blkC N_is_row (defScope s_is_row) _ _ = true; decide +kernel)) (by decide) (fun _ _ _ _ _ => pg_tup rfl (pgs_cons (pg_name (i := 5) nd rfl (Or.inl rfl)) (pgs_cons (pg_name (i := 6) nd rfl (Or.inl rfl)) pgs_nil))) (fun _ _ _ _ _ => dts_nil) (fun _ _ _ _ _ => (de_cmp (od_lt hu) (de_slice (de_var 5) do_none (do_some de_int)) (de_slice (de_var 6) do_none (do_some de_int)) (nomark _)))) da_nil))))), fun ds G Q h => ?_⟩
    obtain ⟨hs, ws, n, r, rfl, hl, q⟩ := h
    rw [show dstart N_is_row [.str (strOf hs), .str (strOf ws), .int (n : Int), rowD r] = [some (.str (strOf hs)), some (.str (strOf ws)), some (.int (n : Int)), some (rowD r), none, none, none] from rfl]
    simp only [rowD, dxs, dl, dx3, Bool.not_true, Bool.false_eq_true, if_false, true_and]
    refine lc_mapA r Mv.d (fun m => .bl (mvB hs ws n m)) rfl (sz (by omega)) trivial (fun m _ => ⟨_, rfl, fun Q z => ?_⟩) ?_
    · simp only [dxs, dl, dwipe, List.map_cons, List.map_nil]
      exact ⟨hs, ws, n, m, rfl, z⟩
    · rw [all_map]
      simp only
      by_cases ha : r.all (mvB hs ws n) = true
      · rw [if_neg (by simp [ha])]
        rw [cut_last, cut_tail]
        refine lc_mapA (r.dropLast.zip r.tail) (fun p => .tup [Mv.d p.1, Mv.d p.2]) (fun p => .bl (mvLt p.1 p.2)) ?_ (sz (by simp; omega)) trivial (fun p _ => ⟨_, rfl, fun Q z => ?_⟩) ?_
        · rw [← List.map_dropLast, ← List.map_tail, List.zipWith_map, zip_map]
        · simp only [dxs, dl, dx3, dwipe, List.map_cons, List.map_nil, Mv.d, mv_cut, mv_okL, mv_lt, true_and]
          exact z
        · rw [all_map]
          refine ⟨_, Sub.refl _, ?_⟩
          have e : rowB hs ws n r = (r.dropLast.zip r.tail).all fun p => mvLt p.1 p.2 := by
            unfold rowB nbr
            rw [ha, zip_map]
            simp [List.all_map]
          rw [← e]
          exact q
      · rw [if_pos (by simpa using ha)]
        have e : rowB hs ws n r = false := by
          unfold rowB
          simp only [Bool.not_eq_true] at ha
          simp [ha]
        rw [e] at q
        exact ⟨_, Sub.refl _, q⟩
end
section
variable {P : Program} {w : World} {K : PySem.W.Frag} {mg : Str → Option Value} {base : Heap} {C : Addr}
def spSteps : SpD := fun ds G Q => ∃ (r : List Mv), ds = [rowD r] ∧ r.length ≤ 1000 ∧ mergeDT [] (r.map mvK) = r.map mvK ∧ Q (.dT (r.map mvK)) G
abbrev N_steps_of : List Str := ["row", "sign", "letter", "target"]
theorem sc_steps_of : FnScope N_steps_of ["row"] (defScope s_steps_of) := ⟨rfl, rfl, rfl, by decide +kernel, rfl, by decide +kernel, by decide +kernel⟩
theorem c_steps_of (T : Txt K mg C) (d : Def K mg "steps_of" s_steps_of) : Cal P w K mg base "steps_of" 1 ["row"] (spSteps) := by
  refine cal_mk (N := N_steps_of) d sc_steps_of (fun ds G Q h => ?_) (fun _ _ _ _ _ _ us hl => match us, hl with | [_], _ => rfl) (fun f cdv A outer s H E hg hr => ?_)
  · obtain ⟨r, rfl, _⟩ := h
    rfl
  · have hu := hu100 hr
    have nd := sc_steps_of.nd
    have hA := deeper_guards (env := envOfC "steps_of" (defScope s_steps_of) s.heap.objs.size f cdv) hg
    refine ⟨_, (dps_one (dp_ret (de_callTy (cd_dictT rfl hu) rfl T.f_dict (by decide +kernel) (da_cons (de_lc (own := [("sign", 1), ("letter", 2), ("target", 3)]) (p := (.tp [1, 2, 3])) rfl nd (di_tup (de_var 0)) (blkOk_by (by show blkC N_steps_of (defScope s_steps_of) _ _ = true; decide +kernel)) (by decide) (fun _ _ _ _ _ => pg_tup rfl (pgs_cons (pg_name (i := 1) nd rfl (Or.inl rfl)) (pgs_cons (pg_name (i := 2) nd rfl (Or.inl rfl)) (pgs_cons (pg_name (i := 3) nd rfl (Or.inl rfl)) pgs_nil)))) (fun _ _ _ _ _ => dts_nil) (fun _ _ _ _ _ => (de_tup (da_cons (de_tup (da_cons (de_var 1) (da_cons (de_var 2) da_nil))) (da_cons (de_var 3) da_nil))))) da_nil)))), fun ds G Q h => ?_⟩
    obtain ⟨r, rfl, hl, hm, q⟩ := h
    rw [show dstart N_steps_of [rowD r] = [some (rowD r), none, none, none] from rfl]
    simp only [rowD, dxs, dl]
    refine lc_mapA r Mv.d (fun m => .tup [.tup [.str (sgn m.h), .str (sgn m.c)], .int (m.t : Int)]) rfl (sz (by omega)) trivial (fun m _ => ⟨_, rfl, fun Q z => ?_⟩) ?_
    · simp only [dxs, dl, dwipe, List.map_cons, List.map_nil, Mv.d]
      exact ⟨sz (by simp), sz (by simp), z⟩
    · show (match prsT _ with | some ms => _ | none => False)
      rw [prsT_row]
      refine ⟨_, Sub.refl _, ?_⟩
      rw [hm]
      exact q
end
end Pace
end
section
set_option Elab.async false
set_option linter.all false
set_option maxRecDepth 100000
set_option maxHeartbeats 4000000
namespace Pace
open PySem PySem.Spec PyProof.Rows L2 DL
section
variable {P : Program} {w : World} {K : PySem.W.Frag} {mg : Str → Option Value} {base : Heap} {C : Addr}
def spInit (C : Addr) : SpD := fun ds G Q => ∃ (y : Addr) (hs ws : List Nat) (rs : List (List Mv)), ds = [.rf y, .str (strOf hs), .str (strOf ws), rowsD rs] ∧ G y = some (.ins C []) ∧ RulV hs ws rs ∧ Q .non (gput G y (.ins C (rulF (mkR hs ws rs))))
abbrev N_Rules_u__init_u_ : List Str := ["self", "heard", "written", "rows", "state", "row"]
theorem sc_Rules_u__init_u_ : FnScope N_Rules_u__init_u_ ["self", "heard", "written", "rows"] (defScope s_Rules_u__init_u_) := ⟨rfl, rfl, rfl, by decide +kernel, rfl, by decide +kernel, by decide +kernel⟩
theorem c_Rules_u__init_u_ (T : Txt K mg C) (d : DefI K C "Rules.__init__" s_Rules_u__init_u_) (C_are_letters : Cal P w K mg base "are_letters" 1 ["thing"] (spLetters)) (C_is_row : Cal P w K mg base "is_row" 3 ["heard", "written", "many", "thing"] (spRow)) (C_steps_of : Cal P w K mg base "steps_of" 1 ["row"] (spSteps)) : Mak P w K mg base "Rules" C 4 ["self", "heard", "written", "rows"] (spInit C) := by
  refine mak_mk (N := N_Rules_u__init_u_) d T.mgR sc_Rules_u__init_u_ (fun ds G Q h => ?_) (fun _ _ _ _ _ _ us hl => match us, hl with | [_, _, _, _], _ => rfl) (fun f cdv A outer s H E hg hr => ?_)
  · obtain ⟨y, hs, ws, rs, rfl, _⟩ := h
    rfl
  · have hu := hu100 hr
    have nd := sc_Rules_u__init_u_.nd
    have hA := deeper_guards (env := envOfC "Rules.__init__" (defScope s_Rules_u__init_u_) s.heap.objs.size f cdv) hg
    refine ⟨_, (dps_cons (dp_if (dt_not (dt_val (de_cal C_are_letters hA (hr.mono (by decide)) (da_cons (de_var 1) da_nil))))
  (dps_one dp_never)
  dps_nil)
  (dps_cons (dp_if (dt_not (dt_val (de_cal C_are_letters hA (hr.mono (by decide)) (da_cons (de_var 2) da_nil))))
  (dps_one dp_never)
  dps_nil)
  (dps_cons (dp_if (DW.dt (dw_or (dt_not (dt_val (de_callB cd_isi rfl T.f_isinstance (by decide +kernel) (da_cons (de_var 3) (da_cons (de_ty (T := "tuple") rfl T.f_tuple (by decide +kernel)) da_nil))))) (dw_or1 (dt_not (dt_chain (od_le hu) (od_le hu) de_int (de_callB cd_len rfl T.f_len (by decide +kernel) (da_cons (de_var 3) da_nil)) (de_gint rfl T.c_MOST_STATES))))))
  (dps_one dp_never)
  dps_nil)
  (dps_cons (dp_for PassesOwn.never rfl (di_enumT rfl T.f_enumerate (da_cons (de_var 3) da_nil)) (dg_tup (n := 2) rfl (dgs_cons (dg_name 4 nd) (dgs_cons (dg_name 5 nd) dgs_nil)))
  (dps_one (dp_if (dt_not (dt_val (de_cal C_is_row hA (hr.mono (by decide)) (da_cons (de_var 1) (da_cons (de_var 2) (da_cons (de_callB cd_len rfl T.f_len (by decide +kernel) (da_cons (de_var 3) da_nil)) (da_cons (de_var 5) da_nil)))))))
  (dps_one dp_never)
  dps_nil)))
  (dps_cons (dp_setFld T.clR T.no_heard (de_var 0) (de_var 1))
  (dps_cons (dp_setFld T.clR T.no_written (de_var 0) (de_var 2))
  (dps_cons (dp_setFld T.clR T.no_rows (de_var 0) (de_var 3))
  (dps_one (dp_setFld T.clR T.no_steps (de_var 0) (de_lc (own := [("row", 5)]) (p := (.nm 5)) rfl nd (di_tup (de_var 3)) (blkOk_by (by show blkC N_Rules_u__init_u_ (defScope s_Rules_u__init_u_) _ _ = true; decide +kernel)) (by decide) (fun _ _ _ _ _ => pg_name (i := 5) nd rfl (Or.inl rfl)) (fun _ _ _ _ _ => dts_nil) (fun _ _ _ _ _ => (de_cal C_steps_of hA (hr.mono (by decide)) (da_cons (de_var 5) da_nil))))))))))))), fun ds G Q h => ?_⟩
    obtain ⟨y, hs, ws, rs, rfl, hy, v, q⟩ := h
    rw [show dstart N_Rules_u__init_u_ [.rf y, .str (strOf hs), .str (strOf ws), rowsD rs] = [some (.rf y), some (.str (strOf hs)), some (.str (strOf ws)), some (rowsD rs), none, none] from rfl]
    simp only [rowsD, dxs, dl, dx3]
    refine ⟨hs, rfl, v.sh, ?_⟩
    rw [v.lh]
    simp only [dxs, dl, dx3, Bool.not_true, Bool.false_eq_true, if_false]
    refine ⟨ws, rfl, v.sw, ?_⟩
    rw [v.lw]
    simp only [dxs, dl, dx3, Bool.not_true, Bool.false_eq_true, if_false, okL_int, DL.lt_int, true_and, List.length_map]
    have n1 := v.n1
    have n2 := v.n2
    rw [if_pos (by simp; omega), if_neg (by simp; omega)]
    refine ⟨fun i S' G' => ∃ x4 x5, S' = [some (.rf y), some (.str (strOf hs)), some (.str (strOf ws)), some (.tup (rs.map rowD)), x4, x5] ∧ G' = G, ⟨none, none, rfl, rfl⟩, fun _ _ _ _ => trivial, ?_, ?_⟩
    · rintro i S' G' dd ⟨x4, x5, rfl, rfl⟩ hd
      rw [List.getElem?_mapIdx, List.getElem?_map] at hd
      cases er : rs[i]? with
      | none => rw [er] at hd; cases hd
      | some r =>
        rw [er] at hd
        cases hd
        obtain ⟨hr1, hr2⟩ := v.row r (List.mem_of_getElem? er)
        simp only [dxs, dl, dx3, true_and, List.length_map]
        refine ⟨hs, ws, rs.length, r, rfl, hr2, ?_⟩
        rw [hr1]
        exact ⟨_, _, rfl, rfl⟩
    · rintro S' G' ⟨x4, x5, rfl, rfl⟩
      simp only [dxs, dl, hy, pf1, pf2, pf3]
      refine ⟨trivial, by decide, trivial, by decide, trivial, by decide, ?_⟩
      refine lc_mapA rs rowD (fun r => .dT (r.map mvK)) rfl (sz (by omega)) trivial (fun r hr => ⟨_, rfl, fun Q z => ?_⟩) ?_
      · obtain ⟨hr1, hr2⟩ := v.row r hr
        simp only [dxs, dl, dwipe, List.map_cons, List.map_nil]
        exact ⟨r, rfl, hr2, merge_rowB hr1, z⟩
      · simp only [dxs, dl, gput_gput, pf4]
        exact ⟨trivial, by decide, _, Sub.refl _, q⟩
end
end Pace
end
section
set_option Elab.async false
set_option linter.all false
set_option maxRecDepth 100000
set_option maxHeartbeats 4000000
namespace Pace
open PySem PySem.Spec PyProof.Rows L2 DL
section
variable {P : Program} {w : World} {K : PySem.W.Frag} {mg : Str → Option Value} {base : Heap} {C : Addr}
def spMade (C : Addr) : SpD := fun ds G Q => ∃ (hs ws : List Nat) (rs : List (List Mv)), ds = [wD hs ws rs] ∧ RulV hs ws rs ∧ Q (rulD C (mkR hs ws rs)) G
abbrev N__law_made : List Str := ["_law_w"]
theorem sc__law_made : FnScope N__law_made ["_law_w"] (defScope s__law_made) := ⟨rfl, rfl, rfl, by decide +kernel, rfl, by decide +kernel, by decide +kernel⟩
theorem c__law_made (T : Txt K mg C) (d : Def K mg "_law_made" s__law_made) (M_Rules : Mak P w K mg base "Rules" C 4 ["self", "heard", "written", "rows"] (spInit C)) : Cal P w K mg base "_law_made" 6 ["_law_w"] (spMade C) := by
  refine cal_mk (N := N__law_made) d sc__law_made (fun ds G Q h => ?_) (fun _ _ _ _ _ _ us hl => match us, hl with | [_], _ => rfl) (fun f cdv A outer s H E hg hr => ?_)
  · obtain ⟨hs, ws, rs, rfl, _⟩ := h
    rfl
  · have hu := hu100 hr
    have nd := sc__law_made.nd
    have hA := deeper_guards (env := envOfC "_law_made" (defScope s__law_made) s.heap.objs.size f cdv) hg
    refine ⟨_, (dps_one (dp_ret (de_mak M_Rules hA (hr.mono (by decide)) (da_cons (de_ix hu (de_var 0) de_str) (da_cons (de_ix hu (de_var 0) de_str) (da_cons (de_ix hu (de_var 0) de_str) da_nil)))))), fun ds G Q h => ?_⟩
    obtain ⟨hs, ws, rs, rfl, v, q⟩ := h
    rw [show dstart N__law_made [wD hs ws rs] = [some (wD hs ws rs)] from rfl]
    simp only [dxs, dl, wD_cur, wD_heard, wD_written, wD_rows]
    intro y hy
    refine ⟨y, hs, ws, rs, rfl, gput_same, v, ?_⟩
    simp only [dxs, dl, gput_gput, MO.cold, gdel_gput hy]
    exact ⟨_, Sub.refl _, q⟩
end
end Pace
end
section
set_option Elab.async false
set_option linter.all false
set_option maxRecDepth 100000
set_option maxHeartbeats 4000000
namespace Pace
open PySem PySem.Spec PyProof.Rows L2 DL
section
variable {P : Program} {w : World} {K : PySem.W.Frag} {mg : Str → Option Value} {base : Heap} {C : Addr}
def spSignsAt (C : Addr) : SpD := fun ds G Q => ∃ (R : Rul) (s c : Nat), ds = [rulD C R, .int (s : Int), .str (sgn c)] ∧ R.Ok ∧ s < R.rows.length ∧ Q (.lst ((movesAt R.rows s c).map ctD)) G
abbrev N_signs_at : List Str := ["rules", "state", "letter", "heard", "sign", "target"]
theorem sc_signs_at : FnScope N_signs_at ["rules", "state", "letter"] (defScope s_signs_at) := ⟨rfl, rfl, rfl, by decide +kernel, rfl, by decide +kernel, by decide +kernel⟩
theorem c_signs_at (T : Txt K mg C) (d : Def K mg "signs_at" s_signs_at) : Cal P w K mg base "signs_at" 1 ["rules", "state", "letter"] (spSignsAt C) := by
  refine cal_mk (N := N_signs_at) d sc_signs_at (fun ds G Q h => ?_) (fun _ _ _ _ _ _ us hl => match us, hl with | [_, _, _], _ => rfl) (fun f cdv A outer s H E hg hr => ?_)
  · obtain ⟨R, s, c, rfl, _⟩ := h
    rfl
  · have hu := hu100 hr
    have nd := sc_signs_at.nd
    have hA := deeper_guards (env := envOfC "signs_at" (defScope s_signs_at) s.heap.objs.size f cdv) hg
    refine ⟨_, (dps_one (dp_ret (de_lc (own := [("heard", 3), ("sign", 4), ("target", 5)]) (p := (.tp [3, 4, 5])) rfl nd (di_tup (de_ix hu (de_fld T.clR T.no_rows (de_var 0)) (de_var 1))) (blkOk_by (by show blkC N_signs_at (defScope s_signs_at) _ _ = true; decide +kernel)) (by decide) (fun _ _ _ _ _ => pg_tup rfl (pgs_cons (pg_name (i := 3) nd rfl (Or.inl rfl)) (pgs_cons (pg_name (i := 4) nd rfl (Or.inl rfl)) (pgs_cons (pg_name (i := 5) nd rfl (Or.inl rfl)) pgs_nil)))) (fun _ _ _ _ _ => (dts_one (dt_cmp (od_eq hu) (de_var 3) (de_var 2) (nomark _)))) (fun _ _ _ _ _ => (de_tup (da_cons (de_var 4) (da_cons (de_var 5) da_nil))))))), fun ds G Q h => ?_⟩
    obtain ⟨R, s0, c, rfl, ok, hs, q⟩ := h
    rw [show dstart N_signs_at [rulD C R, .int (s0 : Int), .str (sgn c)] = [some (rulD C R), some (.int (s0 : Int)), some (.str (sgn c)), none, none, none] from rfl]
    have e0 : ∀ (G : GH), D.cur G (.obj C (rulF R)) = .obj C (rulF R) := fun _ => rfl
    have hr0 : R.rows[s0]? = some (R.rows[s0]) := List.getElem?_eq_getElem hs
    have hm : movesAt R.rows s0 c = (R.rows[s0]).filter fun m => m.h == c := by unfold movesAt; rw [List.getD_eq_getElem?_getD, hr0]; rfl
    have hl := (ok.at_ _ (List.getElem_mem hs)).1
    rw [hm] at q
    simp only [dxs, dl, rulD, e0, rulF_rows, rowsD_cur, rowsD_at hr0, rowD]
    refine ⟨trivial, ?_⟩
    refine lc_someA (R.rows[s0]) Mv.d (fun m => m.h == c) ctD rfl (sz (by omega)) trivial (fun m _ => ⟨_, rfl, fun Q z => ?_, fun _ Q z => ?_⟩) ⟨_, Sub.refl _, q⟩
    · simp only [dxs, dl, dwipe, List.map_cons, List.map_nil, Mv.d, okE_str, eqv_str, sgn_beq, true_and]
      exact z
    · simp only [dxs, dl, dwipe, List.map_cons, List.map_nil]
      exact ⟨sz (by decide), z⟩
end
end Pace
end
section
set_option Elab.async false
set_option linter.all false
set_option maxRecDepth 100000
set_option maxHeartbeats 4000000
namespace Pace
open PySem PySem.Spec PyProof.Rows L2 DL
section
variable {P : Program} {w : World} {K : PySem.W.Frag} {mg : Str → Option Value} {base : Heap} {C : Addr}
def placesW (rs : List (List Mv)) (c : Nat) (L : List (Nat × Nat)) : List Nat := (cameW rs c (L.map fun x => ((), x.1))).map (·.1)
def takenW (F : List Nat) : List Nat → Nat
  | [] => 0
  | i :: _ => maxL ((F.take (i + 1)).drop 1)
theorem slice51 {L : List (Nat × Nat)} {a b : Nat} (ha : 1 ≤ a) (hL : 0 < L.length) {G : GH} {Q : DQ} (q : Q (.tup (((L.take b).drop a).map lpU)) G) : rSlice (lsU L) (some (a : Int)) (some (b : Int)) G Q := by
  have hc : D.cur G (lsU L) = .kup (L.map lpU) := rfl
  have hn : ¬ (HT.sIx (L.map lpU).length 0 (some (a : Int)) = 0 ∧ HT.sIx (L.map lpU).length (L.map lpU).length (some (b : Int)) = (L.map lpU).length) := by
    rintro ⟨h, _⟩
    rw [List.length_map] at h
    simp only [HT.sIx] at h
    split at h <;> omega
  unfold rSlice
  rw [hc]
  simp only
  rw [if_neg hn, cut_mid, ← List.map_take, ← List.map_drop]
  exact q
theorem x_dStar51 (te : DTE) (tr : DTA) (S : DS) (G : GH) (Q : List D → GH → Prop) : dStar te tr S G Q = (te S G fun d G1 => match d.cur G1 with
  | .tup xs => tr S G1 fun ys G2 => Q (xs ++ ys) G2
  | .lst xs => tr S G1 fun ys G2 => Q (xs ++ ys) G2
  | _ => False) := rfl
/-- the forks of a piece of the list -/
theorem lc51 {M : List (Nat × Nat)} {x0 x1 x2 x3 x4 x5 x6 x7 x8 x9 x10 x11 x12 : Option D} {G : GH} {Q : DQ} (hM : M.length ≤ 1000) (q : Q (.lst (natsD (fk M))) G) : LcB (M.map lpU) dNoGuard (Pat.tp [7, 8]) dYes (dVar 8) [7, 8] [x0, x1, x2, x3, x4, x5, x6, x7, x8, x9, x10, x11, x12] G Q := by
  refine lc_mapA M lpU (fun p : Nat × Nat => .int (p.2 : Nat)) rfl (sz (by omega)) trivial (fun p hp => ⟨_, rfl, fun Q z => ?_⟩) ?_
  · simp only [dxs, dl, dwipe, List.map_cons, List.map_nil]
    exact z
  · have : M.map (fun p : Nat × Nat => D.int (p.2 : Nat)) = natsD (fk M) := by simp [natsD, fk]
    rw [this]
    exact q
def spListBehind (C : Addr) : SpD := fun ds G Q => ∃ (R : Rul) (c : Nat) (L : List (Nat × Nat)), ds = [rulD C R, lsU L, .str (sgn c)] ∧ R.Ok ∧ L.length ≤ 1000 ∧ (∀ p ∈ L, p.1 < R.rows.length) ∧
  Q (.tup [lsD (stepW R.rows c L), .tup (natsD (placesW R.rows c L)), .int (takenW (fk L) (placesW R.rows c L) : Nat)]) G
abbrev N_list_behind : List Str := ["rules", "one", "letter", "found", "places", "met", "place", "state", "fork", "sign", "target", "further", "taken"]
theorem sc_list_behind : FnScope N_list_behind ["rules", "one", "letter"] (defScope s_list_behind) := ⟨rfl, rfl, rfl, by decide +kernel, rfl, by decide +kernel, by decide +kernel⟩
theorem c_list_behind (T : Txt K mg C) (d : Def K mg "list_behind" s_list_behind) (C_signs_at : Cal P w K mg base "signs_at" 1 ["rules", "state", "letter"] (spSignsAt C)) : Cal P w K mg base "list_behind" 2 ["rules", "one", "letter"] (spListBehind C) := by
  refine cal_mk (N := N_list_behind) d sc_list_behind (fun ds G Q h => ?_) (fun _ _ _ _ _ _ us hl => match us, hl with | [_, _, _], _ => rfl) (fun f cdv A outer s H E hg hr => ?_)
  · obtain ⟨R, c, L, rfl, _⟩ := h
    rfl
  · have hu := hu100 hr
    have nd := sc_list_behind.nd
    have hA := deeper_guards (env := envOfC "list_behind" (defScope s_list_behind) s.heap.objs.size f cdv) hg
    refine ⟨_, (dps_cons (dp_par3 (i := 3) (j := 4) (l := 5) rfl nd (ha := (da_cons (de_lstM da_nil) (da_cons (de_lstM da_nil) (da_cons de_newK da_nil)))))
  (dps_cons (dp_for PassesOwn.never rfl (di_enumT rfl T.f_enumerate (da_cons (de_var 1) da_nil)) (dg_tup (n := 2) rfl (dgs_cons (dg_name 6 nd) (dgs_cons (dg_tup (n := 2) rfl (dgs_cons (dg_name 7 nd) (dgs_cons (dg_name 8 nd) dgs_nil))) dgs_nil)))
  (dps_one (dp_for PassesOwn.never rfl (di_list (de_cal C_signs_at hA (hr.mono (by decide)) (da_cons (de_var 0) (da_cons (de_var 7) (da_cons (de_var 2) da_nil))))) (dg_tup (n := 2) rfl (dgs_cons (dg_name 9 nd) (dgs_cons (dg_name 10 nd) dgs_nil)))
  (dps_one (dp_if (dt_cmp (od_notIn hu) (de_var 10) (de_var 5) (by rfl))
  (dps_cons (dp_asg de_bl (dg_sub hu (de_var 5) (de_var 10)))
  (dps_cons (dp_asg (de_if (dt_cmp (od_eqNil hu) (de_var 3) (de_lst da_nil) (nomark _)) de_int (de_op od_add de_int (de_callB (cd_max rfl) rfl T.f_max (by decide +kernel) (da_cons (de_lst (da_cons de_int (da_star (de_lc (own := [("state", 7), ("fork", 8)]) (p := (.tp [7, 8])) rfl nd (di_tup (de_slice (de_var 1) (do_some (de_op od_add (de_ix hu (de_var 4) (de_un ud_neg de_int)) de_int)) (do_some (de_op od_add (de_var 6) de_int)))) (blkOk_by (by show blkC N_list_behind (defScope s_list_behind) _ _ = true; decide +kernel)) (by decide) (fun _ _ _ _ _ => pg_tup rfl (pgs_cons (pg_name (i := 7) nd rfl (Or.inl rfl)) (pgs_cons (pg_name (i := 8) nd rfl (Or.inl rfl)) pgs_nil))) (fun _ _ _ _ _ => dts_nil) (fun _ _ _ _ _ => (de_var 8))) da_nil))) da_nil)))) (dg_name 11 nd))
  (dps_cons (dp_expr (de_bm PySem.F.plainAttrs_list PySem.F.slot_list_append PySem.F.type_list_append md_append (de_var 3) (da_cons (de_tup (da_cons (de_var 10) (da_cons (de_var 11) da_nil))) da_nil)))
  (dps_one (dp_expr (de_bm PySem.F.plainAttrs_list PySem.F.slot_list_append PySem.F.type_list_append md_append (de_var 4) (da_cons (de_var 6) da_nil)))))))
  dps_nil)))))
  (dps_cons (dp_asg (de_if (dt_cmp (od_ne hu) (de_var 4) (de_lst da_nil) (nomark _)) (de_callB (cd_max rfl) rfl T.f_max (by decide +kernel) (da_cons (de_lst (da_cons de_int (da_star (de_lc (own := [("state", 7), ("fork", 8)]) (p := (.tp [7, 8])) rfl nd (di_tup (de_slice (de_var 1) (do_some de_int) (do_some (de_op od_add (de_ix hu (de_var 4) de_int) de_int)))) (blkOk_by (by show blkC N_list_behind (defScope s_list_behind) _ _ = true; decide +kernel)) (by decide) (fun _ _ _ _ _ => pg_tup rfl (pgs_cons (pg_name (i := 7) nd rfl (Or.inl rfl)) (pgs_cons (pg_name (i := 8) nd rfl (Or.inl rfl)) pgs_nil))) (fun _ _ _ _ _ => dts_nil) (fun _ _ _ _ _ => (de_var 8))) da_nil))) da_nil)) de_int) (dg_name 12 nd))
  (dps_one (dp_ret (de_tup (da_cons (de_callTy cd_tuple rfl T.f_tuple (by decide +kernel) (da_cons (de_var 3) da_nil)) (da_cons (de_callTy cd_tuple rfl T.f_tuple (by decide +kernel) (da_cons (de_var 4) da_nil)) (da_cons (de_var 12) da_nil))))))))), fun ds G Q h => ?_⟩
    obtain ⟨R, c, L, rfl, ok, l1, ls, q⟩ := h
    rw [show dstart N_list_behind [rulD C R, lsU L, .str (sgn c)] = [some (rulD C R), some (lsU L), some (.str (sgn c)), none, none, none, none, none, none, none, none, none, none] from rfl]
    simp only [dxs, dl]
    refine ⟨Nat.zero_le _, fun f hf => ⟨Nat.zero_le _, fun pl hpl => fun mt hmt => ?_⟩⟩
    have fp : f ≠ pl := fun e => by rw [← e, gput_same] at hpl; cases hpl
    have pm : pl ≠ mt := fun e => by rw [← e, gput_same] at hmt; cases hmt
    have fm : f ≠ mt := fun e => by rw [← e, gput_ne fp, gput_same] at hmt; cases hmt
    have sub : ∀ A B Cc, Sub G (g3 G f pl mt (.lst A) (.lst B) (.dK Cc)) := fun A B Cc => ((sub_new hf (o := .lst []) rfl).trans (sub_new hpl (o := .lst []) rfl)).trans (sub_new hmt (o := .dK []) rfl) |> fun _ => by
      refine ((sub_new hf rfl).trans (sub_new ?_ rfl)).trans (sub_new ?_ rfl)
      · rw [gput_ne (Ne.symm fp)] at hpl ⊢; exact hpl
      · rw [gput_ne (Ne.symm pm), gput_ne (Ne.symm fm)] at hmt ⊢; exact hmt
    show ForB (List.mapIdx (fun i x => D.tup [D.int (i : Nat), x]) (L.map lpU)) dNoGuard _ _ _ _ (g3 G f pl mt (.lst []) (.lst []) (.dK []))
    let W1 : List (Unit × Nat) := L.map fun x => ((), x.1)
    let cm : List ((Nat × Nat) × Nat) → List (Nat × Nat) := fun E => (dedS [] E).map fun x => (x.1.1, x.2)
    let GE : List ((Nat × Nat) × Nat) → GH := fun E => g3 G f pl mt (.lst ((fdW (fk L) none (cm E)).map lpD)) (.lst (natsD ((cm E).map (·.1)))) (.dK (mtD ((cm E).map (·.2))))
    have cml : ∀ E, (∀ x ∈ E, x.2 < R.rows.length) → (cm E).length ≤ 1000 := fun E h => by
      have h1 : ((dedS [] E).map (·.2)).length ≤ R.rows.length := nodup_lt_len (dedS_nodup E []) fun k hk => by
        obtain ⟨x, hx, rfl⟩ := List.mem_map.mp hk
        exact h x ((dedS_sub _ _).subset hx)
      rw [List.length_map] at h1
      show ((dedS [] E).map _).length ≤ _
      rw [List.length_map]
      have := ok.few
      omega
    have tl : ∀ r ∈ R.rows, ∀ m ∈ r, m.t < R.rows.length := fun r hr => (ok.at_ r hr).2
    refine ⟨fun i S' G' => ∃ x6 x7 x8 x9 x10 x11, S' = [some (rulD C R), some (lsU L), some (.str (sgn c)), some (.rf f), some (.rf pl), some (.rf mt), x6, x7, x8, x9, x10, x11, none] ∧ G' = GE (evW R.rows c (W1.take i)), ⟨_, _, _, _, _, _, rfl, rfl⟩, fun _ _ _ _ => trivial, ?_, ?_⟩
    · rintro i S' G' dd ⟨x6, x7, x8, x9, x10, x11, rfl, rfl⟩ hd
      rw [List.getElem?_mapIdx] at hd
      cases eL : L[i]? with
      | none => rw [List.getElem?_map, eL] at hd; cases hd
      | some pr =>
        rw [List.getElem?_map, eL] at hd
        obtain rfl := Option.some.inj hd
        have hi : i < L.length := (List.getElem?_eq_some_iff.mp eL).1
        have hW : W1[i]? = some ((), pr.1) := by show (L.map _)[i]? = _; rw [List.getElem?_map, eL]; rfl
        have hs := ls pr (List.mem_of_getElem? eL)
        have eS := evW_succ (rs := R.rows) (c := c) hW
        have El : ∀ x ∈ evW R.rows c (W1.take i), x.2 < R.rows.length := evW_tl tl
        have Ei : ∀ x ∈ evW R.rows c (W1.take i), x.1.1 ≤ i := fun x hx => by
          have := evW_at x hx
          rw [List.length_take] at this
          omega
        generalize hE : evW R.rows c (W1.take i) = E at El Ei ⊢
        simp only [dxs, dl, lpU, eS, hE]
        refine ⟨trivial, trivial, R, pr.1, c, rfl, ok, hs, ?_⟩
        simp only
        refine ⟨fun j S2 G2 => ∃ x9 x10 x11, S2 = [some (rulD C R), some (lsU L), some (.str (sgn c)), some (.rf f), some (.rf pl), some (.rf mt), some (.int (i : Nat)), some (.int (pr.1 : Nat)), some (.int (pr.2 : Nat)), x9, x10, x11, none] ∧ G2 = GE (E ++ ((movesAt R.rows pr.1 c).take j).map fun m => ((i, m.c), m.t)), ⟨_, _, _, rfl, by simp⟩, fun _ _ _ _ => trivial, ?_, ?_⟩
        · rintro j S2 G2 dd ⟨x9, x10, x11, rfl, rfl⟩ hd
          obtain ⟨m, hm, rfl⟩ := map_get hd
          have eE : E ++ ((movesAt R.rows pr.1 c).take (j + 1)).map (fun m => ((i, m.c), m.t)) = (E ++ ((movesAt R.rows pr.1 c).take j).map fun m => ((i, m.c), m.t)) ++ [((i, m.c), m.t)] := by
            rw [List.take_add_one, hm, List.map_append, List.append_assoc]; rfl
          dsimp only
          rw [eE]
          have E2l : ∀ x ∈ (E ++ ((movesAt R.rows pr.1 c).take j).map fun m => ((i, m.c), m.t)), x.2 < R.rows.length := fun x hx => by
            rcases List.mem_append.mp hx with hx | hx
            · exact El x hx
            · obtain ⟨m', hm', rfl⟩ := List.mem_map.mp hx
              exact moves_tl tl m' (List.mem_of_mem_take hm')
          have E2i : ∀ x ∈ (E ++ ((movesAt R.rows pr.1 c).take j).map fun m => ((i, m.c), m.t)), x.1.1 ≤ i := fun x hx => by
            rcases List.mem_append.mp hx with hx | hx
            · exact Ei x hx
            · obtain ⟨m', hm', rfl⟩ := List.mem_map.mp hx
              exact Nat.le_refl _
          generalize (E ++ ((movesAt R.rows pr.1 c).take j).map fun m => ((i, m.c), m.t)) = E2 at E2l E2i ⊢
          have gf : GE E2 f = some (.lst ((fdW (fk L) none (cm E2)).map lpD)) := g3_1 fp fm
          have gp : GE E2 pl = some (.lst (natsD ((cm E2).map (·.1)))) := g3_2 pm
          have gm : GE E2 mt = some (.dK (mtD ((cm E2).map (·.2)))) := g3_3
          have cl := cml E2 E2l
          simp only [dxs, dl, ctD, gm, inn_dK, mtD_val, x_dStar51, rNegD]
          refine ⟨trivial, ?_⟩
          have cmm : (dedS [] E2).map (·.2) = (cm E2).map (·.2) := by show _ = ((dedS [] E2).map _).map _; rw [List.map_map]; rfl
          by_cases hin : m.t ∈ (cm E2).map (·.2)
          · have ec : cm (E2 ++ [((i, m.c), m.t)]) = cm E2 := by
              show (dedS [] (E2 ++ [((i, m.c), m.t)])).map _ = (dedS [] E2).map _
              rw [dedS_snoc, if_pos (by rw [cmm]; exact hin)]
            have eg : GE (E2 ++ [((i, m.c), m.t)]) = GE E2 := by
              show g3 G f pl mt (.lst ((fdW (fk L) none (cm (E2 ++ [((i, m.c), m.t)]))).map lpD)) _ _ = _
              simp only [ec, GE]
            rw [decide_eq_true hin]
            simp only [Bool.not_true, Bool.false_eq_true, if_false]
            exact ⟨_, _, _, rfl, eg.symm⟩
          · have ec : cm (E2 ++ [((i, m.c), m.t)]) = cm E2 ++ [(i, m.t)] := by
              show (dedS [] (E2 ++ [((i, m.c), m.t)])).map _ = (dedS [] E2).map _ ++ _
              rw [dedS_snoc, if_neg (by rw [cmm]; exact hin), List.map_append]
              rfl
            have eg : GE (E2 ++ [((i, m.c), m.t)]) = g3 G f pl mt (.lst ((fdW (fk L) none (cm E2)).map lpD ++ [lpD (m.t, frkW (fk L) (lastP none (cm E2)) i)])) (.lst (natsD ((cm E2).map (·.1)) ++ [.int (i : Nat)])) (.dK (mtD ((cm E2).map (·.2) ++ [m.t]))) := by
              show g3 G f pl mt (.lst ((fdW (fk L) none (cm (E2 ++ [((i, m.c), m.t)]))).map lpD)) (.lst (natsD ((cm (E2 ++ [((i, m.c), m.t)])).map (·.1)))) (.dK (mtD ((cm (E2 ++ [((i, m.c), m.t)])).map (·.2)))) = _
              rw [ec, fdW_snoc, List.map_append, List.map_append, List.map_append]
              simp [natsD]
            rw [decide_eq_false hin]
            simp only [Bool.not_false, if_true, D.key, mtD_put hin]
            have e3 : gput (GE E2) mt (.dK (mtD ((cm E2).map (·.2) ++ [m.t]))) = g3 G f pl mt (.lst ((fdW (fk L) none (cm E2)).map lpD)) (.lst (natsD ((cm E2).map (·.1)))) (.dK (mtD ((cm E2).map (·.2) ++ [m.t]))) := g3_p3
            rw [e3]
            have hf1 : ∀ A B Cc, g3 G f pl mt (.lst A) (.lst B) (.dK Cc) f = some (.lst A) := fun _ _ _ => g3_1 fp fm
            have hp1 : ∀ A B Cc, g3 G f pl mt (.lst A) (.lst B) (.dK Cc) pl = some (.lst B) := fun _ _ _ => g3_2 pm
            simp only [rNil, dxs, dl, hf1, hp1, eg]
            have fz : (fdW (fk L) none (cm E2)).length = (cm E2).length := fdW_len _ _ _
            have Mi : ∀ y ∈ cm E2, y.1 ≤ i := fun y hy => by
              obtain ⟨x, hx, rfl⟩ := List.mem_map.mp hy
              exact E2i x ((dedS_sub _ _).subset hx)
            clear eg e3 ec cmm gf gp gm hin E2l eE E2i
            generalize cm E2 = M at cl fz Mi ⊢
            have ap : ∀ (v : Nat) (z : Option D), v = frkW (fk L) (lastP none M) i → rAppendD (D.rf f) [.tup [.int (m.t : Nat), .int (v : Nat)]] (g3 G f pl mt (.lst ((fdW (fk L) none M).map lpD)) (.lst (natsD (M.map (·.1)))) (.dK (mtD (M.map (·.2) ++ [m.t])))) fun x G1 =>
                D.hasTy "list" (match G1 pl with
                  | some (MO.lst xs) => D.lst xs
                  | some (MO.dK kds) => D.dK kds
                  | some (MO.dT kds) => D.dT kds
                  | some (MO.ins C kds) => D.obj C kds
                  | x => D.rf pl) = true ∧ rAppendD (D.rf pl) [D.int (i : Nat)] G1 fun x G1 => ∃ x9 x10 x11, [some (rulD C R), some (lsU L), some (D.str (sgn c)), some (D.rf f), some (D.rf pl), some (D.rf mt), some (D.int (i : Nat)), some (D.int (pr.1 : Nat)), some (D.int (pr.2 : Nat)), some (D.str (sgn m.c)), some (D.int (m.t : Nat)), z, none] = [some (rulD C R), some (lsU L), some (D.str (sgn c)), some (D.rf f), some (D.rf pl), some (D.rf mt), some (D.int (i : Nat)), some (D.int (pr.1 : Nat)), some (D.int (pr.2 : Nat)), x9, x10, x11, none] ∧ G1 = g3 G f pl mt (.lst ((fdW (fk L) none M).map lpD ++ [lpD (m.t, frkW (fk L) (lastP none M) i)])) (.lst (natsD (M.map (·.1)) ++ [.int (i : Nat)])) (.dK (mtD (M.map (·.2) ++ [m.t]))) := fun v z hv => by
              simp only [rAppendD, hf1, hp1, g3_p1 fp fm, g3_p2 pm]
              refine ⟨szl (by rw [List.length_map, fz]; omega), rfl, szl (by simp [natsD]; omega), _, _, _, rfl, ?_⟩
              rw [hv]
              rfl
            refine ⟨szl (by simp [mtD]; omega), Nat.zero_le _, ?_⟩
            rcases List.eq_nil_or_concat M with rfl | ⟨M', y, rfl⟩
            · simp only [fdW, List.map_nil, List.isEmpty_nil, if_true]
              exact ⟨rfl, sz (by decide), ap 0 _ rfl⟩
            · have ne : ((fdW (fk L) none (M'.concat y)).map lpD).isEmpty = false := by
                rw [List.concat_eq_append, fdW_snoc, List.map_append]; simp
              have lp_ : lastP none (M'.concat y) = some y.1 := by rw [List.concat_eq_append]; simp [lastP]
              have hy : y.1 ≤ i := Mi y (by simp)
              have la : (D.lst (natsD ((M'.concat y).map (·.1)))).item (.int (-1)) = some (.int (y.1 : Nat)) := by
                rw [List.concat_eq_append, List.map_append]
                show atI (natsD (M'.map (·.1) ++ [y.1])) (-1) = _
                unfold natsD
                rw [List.map_append]
                exact atI_last _ _
              have e1 : ((y.1 : Nat) : Int) + 1 = ((y.1 + 1 : Nat) : Int) := by omega
              have e2 : ((i : Nat) : Int) + 1 = ((i + 1 : Nat) : Int) := by omega
              simp only [ne, la, Bool.false_eq_true, if_false, rAddD, e1, e2]
              refine slice51 (a := y.1 + 1) (b := i + 1) (Nat.succ_le_succ (Nat.zero_le _)) (by omega) ?_
              simp only
              have lM : (((L.take (i + 1)).drop (y.1 + 1))).length ≤ 1000 := by rw [List.length_drop, List.length_take]; omega
              refine lc51 lM ?_
              simp only [dxs, dl, List.append_nil]
              refine ⟨sz (by simp [natsD, fk]; omega), best_zero ?_⟩
              have e3 : (1 : Int) + ((maxL (fk ((L.take (i + 1)).drop (y.1 + 1))) : Nat) : Int) = ((1 + maxL (fk ((L.take (i + 1)).drop (y.1 + 1))) : Nat) : Int) := by omega
              simp only [rAddD, e3, hf1]
              refine ⟨rfl, sz (by decide), ap _ _ ?_⟩
              rw [lp_]
              show _ = 1 + maxL ((((L.map (·.2)).take (i + 1))).drop (y.1 + 1))
              rw [← List.map_take, ← List.map_drop]
              rfl
        · rintro S2 G2 ⟨x9, x10, x11, rfl, rfl⟩
          rw [List.length_map, List.take_length]
          exact ⟨_, _, _, _, _, _, rfl, rfl⟩
    · rintro S' G' ⟨x6, x7, x8, x9, x10, x11, rfl, rfl⟩
      have el : (List.mapIdx (fun i x => D.tup [D.int (i : Nat), x]) (L.map lpU)).length = W1.length := by simp [W1]
      rw [el, List.take_length]
      have ecm : cm (evW R.rows c W1) = cameW R.rows c W1 := rfl
      have gf : GE (evW R.rows c W1) f = some (.lst ((stepW R.rows c L).map lpD)) := g3_1 fp fm
      have gp : GE (evW R.rows c W1) pl = some (.lst (natsD (placesW R.rows c L))) := g3_2 pm
      have sb : Sub G (GE (evW R.rows c W1)) := sub _ _ _
      generalize GE (evW R.rows c W1) = G1 at gf gp sb ⊢
      have hpr : ∀ p ∈ placesW R.rows c L, p < L.length := fun p hp => by
        unfold placesW cameW at hp
        rw [List.map_map] at hp
        obtain ⟨x, hx, rfl⟩ := List.mem_map.mp hp
        have := evW_at x ((dedS_sub _ _).subset hx)
        simpa using this
      have dpp : (D.lst (natsD (placesW R.rows c L))).dp ≤ 60 := by
        have : D.dps (natsD (placesW R.rows c L)) ≤ 1 := dps_le fun x hx => by
          obtain ⟨n, _, rfl⟩ := List.mem_map.mp hx
          simp [D.dp]
        simp only [D.dp]; omega
      have okp : okE (.lst (natsD (placesW R.rows c L))) (.lst []) = true := okE_si (sis_all.mpr fun x hx => by obtain ⟨n, _, rfl⟩ := List.mem_map.mp hx; rfl) rfl dpp
      have en : ∀ l : List Nat, (D.lst (natsD l)).eqv (.lst []) = l.isEmpty := fun l => by cases l <;> rfl
      have tf : ∀ Q : DQ, rTupleD [D.rf f] G1 Q = Q (lsD (stepW R.rows c L)) G1 := fun Q => by
        show (match D.cur G1 (.rf f) with | .tup xs => Q (.tup xs) G1 | .lst xs => Q (.tup xs) G1 | _ => False) = _
        rw [cur_l gf]; rfl
      have tp : ∀ Q : DQ, rTupleD [D.rf pl] G1 Q = Q (.tup (natsD (placesW R.rows c L))) G1 := fun Q => by
        show (match D.cur G1 (.rf pl) with | .tup xs => Q (.tup xs) G1 | .lst xs => Q (.tup xs) G1 | _ => False) = _
        rw [cur_l gp]
      simp only [dxs, dl, x_dStar51, gp, en]
      refine ⟨Nat.zero_le _, okp, ?_⟩
      cases hP : placesW R.rows c L with
      | nil =>
        simp only [List.isEmpty_nil, Bool.not_true, Bool.false_eq_true, if_false, tf, tp]
        rw [hP] at q ⊢
        exact ⟨sz (by decide), G, sb, q⟩
      | cons i0 l0 =>
        have hi0 : i0 < L.length := hpr i0 (by rw [hP]; simp)
        have la : (D.lst (natsD (i0 :: l0))).item (.int 0) = some (.int (i0 : Nat)) := atI_nat (j := 0) (by simp [natsD])
        have e2 : ((i0 : Nat) : Int) + 1 = ((i0 + 1 : Nat) : Int) := by omega
        have e1 : (1 : Int) = ((1 : Nat) : Int) := rfl
        simp only [List.isEmpty_cons, Bool.not_false, if_true, la, rAddD, e2]
        refine slice51 (a := 1) (by omega) (by omega) ?_
        simp only
        have lM : (((L.take (i0 + 1)).drop 1)).length ≤ 1000 := by rw [List.length_drop, List.length_take]; omega
        refine lc51 lM ?_
        simp only [dxs, dl, List.append_nil]
        refine ⟨sz (by simp [natsD, fk]; omega), best_zero ?_⟩
        simp only [tf, tp]
        rw [hP] at q ⊢
        refine ⟨sz (by decide), G, sb, ?_⟩
        have e4 : takenW (fk L) (i0 :: l0) = maxL (fk ((L.take (i0 + 1)).drop 1)) := by
          show maxL ((((L.map (·.2)).take (i0 + 1))).drop 1) = _
          rw [← List.map_take, ← List.map_drop]; rfl
        rw [e4] at q
        exact q
end
end Pace
end
section
set_option Elab.async false
set_option linter.all false
set_option maxRecDepth 100000
set_option maxHeartbeats 4000000
namespace Pace
open PySem PySem.Spec PyProof.Rows L2 DL
section
variable {P : Program} {w : World} {K : PySem.W.Frag} {mg : Str → Option Value} {base : Heap} {C : Addr}
def spBehind (C : Addr) : SpD := fun ds G Q => ∃ (R : Rul) (ss : List Nat) (c : Nat), ds = [rulD C R, .tup (natsD ss), .str (sgn c)] ∧ R.Ok ∧ (∀ s ∈ ss, s < R.rows.length) ∧ R.rows.length < 64 ∧
  Q (.tup (natsD (behind R.rows ss c))) G
abbrev N_states_behind : List Str := ["rules", "states", "letter", "found", "state", "sign", "written", "target"]
theorem sc_states_behind : FnScope N_states_behind ["rules", "states", "letter"] (defScope s_states_behind) := ⟨rfl, rfl, rfl, by decide +kernel, rfl, by decide +kernel, by decide +kernel⟩
theorem c_states_behind (T : Txt K mg C) (d : Def K mg "states_behind" s_states_behind) : Cal P w K mg base "states_behind" 1 ["rules", "states", "letter"] (spBehind C) := by
  refine cal_mk (N := N_states_behind) d sc_states_behind (fun ds G Q h => ?_) (fun _ _ _ _ _ _ us hl => match us, hl with | [_, _, _], _ => rfl) (fun f cdv A outer s H E hg hr => ?_)
  · obtain ⟨R, ss, c, rfl, _⟩ := h
    rfl
  · have hu := hu100 hr
    have nd := sc_states_behind.nd
    have hA := deeper_guards (env := envOfC "states_behind" (defScope s_states_behind) s.heap.objs.size f cdv) hg
    refine ⟨_, (dps_cons (dp_asg de_newK (dg_name 3 nd))
  (dps_cons (dp_for PassesOwn.never rfl (di_tup (de_var 1)) (dg_name 4 nd)
  (dps_one (dp_for PassesOwn.never rfl (di_tup (de_ix hu (de_fld T.clR T.no_rows (de_var 0)) (de_var 4))) (dg_tup (n := 3) rfl (dgs_cons (dg_name 5 nd) (dgs_cons (dg_name 6 nd) (dgs_cons (dg_name 7 nd) dgs_nil))))
  (dps_one (dp_if (dt_cmp (od_eq hu) (de_var 5) (de_var 2) (nomark _))
  (dps_one (dp_asg de_bl (dg_sub hu (de_var 3) (de_var 7))))
  dps_nil)))))
  (dps_one (dp_ret (de_callTy cd_tuple rfl T.f_tuple (by decide +kernel) (da_cons (de_callB (cd_sorted hu rfl) rfl T.f_sorted (by decide +kernel) (da_cons (de_var 3) da_nil)) da_nil)))))), fun ds G Q h => ?_⟩
    obtain ⟨R, ss, c, rfl, ok, hs, h64, q⟩ := h
    intro p hp
    -- for state in states
    refine ⟨fun i S' G' => ∃ st sg wr tg ks, S' = [some (rulD C R), some (.tup (natsD ss)), some (.str (sgn c)), some (.rf p), st, sg, wr, tg] ∧
      G' = gput G p (.dK (kds ks)) ∧ ks = ((ss.take i).flatMap fun s => hits R.rows s c).foldl addF [] ∧ ks.Nodup ∧ ∀ k ∈ ks, k < R.rows.length,
      ⟨none, none, none, none, [], rfl, rfl, rfl, by simp, by simp⟩, fun _ _ _ _ => trivial, ?_, ?_⟩
    · rintro i S' G' dd ⟨st, sg, wr, tg, ks, rfl, rfl, hks, hnd, hlt⟩ hd
      obtain ⟨s0, hs0, rfl⟩ := natsD_get hd
      have hsl : s0 < R.rows.length := hs s0 (List.mem_of_getElem? hs0)
      obtain ⟨row, hrow⟩ : ∃ row, R.rows[s0]? = some row := ⟨_, List.getElem?_eq_getElem hsl⟩
      have hrok := ok.at_ row (List.mem_of_getElem? hrow)
      -- for sign, written, target in rules.rows[state]
      have e1 : D.item (rowsD R.rows) (.int (s0 : Int)) = some (rowD row) := by
        exact atI_nat (by rw [List.getElem?_map, hrow]; rfl)
      have e2 : ∀ G0, D.cur G0 (rowsD R.rows) = rowsD R.rows := fun _ => rfl
      simp only [dxs, dl, rulD, rulF_rows, e2, e1, true_and, rowD]
      refine ⟨fun j S' G' => ∃ sg wr tg ks, S' = [some (rulD C R), some (.tup (natsD ss)), some (.str (sgn c)), some (.rf p), some (.int (s0 : Int)), sg, wr, tg] ∧
        G' = gput G p (.dK (kds ks)) ∧ ks = (((ss.take i).flatMap fun s => hits R.rows s c) ++ ((row.take j).filter fun m => m.h == c).map (·.t)).foldl addF [] ∧ ks.Nodup ∧ ∀ k ∈ ks, k < R.rows.length,
        ⟨sg, wr, tg, ks, rfl, rfl, by rw [hks]; simp, hnd, hlt⟩, fun _ _ _ _ => trivial, ?_, ?_⟩
      · clear hks hnd hlt
        rintro j S' G' dd ⟨sg, wr, tg, ks, rfl, rfl, hks, hnd, hlt⟩ hd2
        rw [List.getElem?_map] at hd2
        cases hm : row[j]? with
        | none => rw [hm] at hd2; cases hd2
        | some m =>
          rw [hm] at hd2
          cases hd2
          have htk : row.take (j + 1) = row.take j ++ [m] := by rw [List.take_add_one, hm]; rfl
          have hmt : m.t < R.rows.length := hrok.2 m (List.mem_of_getElem? hm)
          simp only [Mv.d, dxs, dl, true_and, okE_str, eqv_str, sgn_beq]
          by_cases hc : m.h = c
          · simp only [hc, beq_self_eq_true, if_true, D.key, kds_put, gput_gput]
            refine ⟨?_, _, _, _, addF ks m.t, rfl, rfl, ?_, addF_nodup hnd, addF_lt hlt hmt⟩
            · have := nodup_lt_len hnd hlt
              simp only [kds, List.length_map]
              unfold sizeLine
              omega
            · rw [htk, hks, List.filter_append, List.map_append, ← List.append_assoc, List.foldl_append]
              simp [hc, hks]
          · have hb : (m.h == c) = false := by simp [hc]
            simp only [hb, Bool.false_eq_true, if_false]
            refine ⟨_, _, _, ks, rfl, rfl, ?_, hnd, hlt⟩
            rw [htk, hks, List.filter_append, List.map_append]
            simp [hc]
      · rintro S' G' ⟨sg, wr, tg, ks, rfl, rfl, hks, hnd, hlt⟩
        refine ⟨_, _, _, _, ks, rfl, rfl, ?_, hnd, hlt⟩
        rw [hks, List.length_map, List.take_length]
        have e3 : ss.take (i + 1) = ss.take i ++ [s0] := by rw [List.take_add_one, hs0]; rfl
        rw [e3, List.flatMap_append]
        have e4 : R.rows.getD s0 [] = row := by simp [List.getD, hrow]
        have e6 : hits R.rows s0 c = (row.filter fun m => m.h == c).map (·.t) := by unfold hits; rw [e4]
        simp [e6]
    · rintro S' G' ⟨st, sg, wr, tg, ks, rfl, rfl, hks, hnd, hlt⟩
      simp only [dxs, dl, rSortD, kds_ints]
      refine ⟨?_, ?_⟩
      · have := nodup_lt_len hnd hlt
        simp; omega
      · simp only [dxs, dl, rTupleD]
        rw [isort_nat]
        refine ⟨G, sub_new hp rfl, ?_⟩
        have e5 : nsort ks = behind R.rows ss c := by
          unfold behind firstsF
          rw [hks]
          have : (natsD ss).length = ss.length := by simp [natsD]
          rw [this, List.take_length]
        rw [e5]
        exact q
end
section
variable {P : Program} {w : World} {K : PySem.W.Frag} {mg : Str → Option Value} {base : Heap} {C : Addr}
def spMute (C : Addr) : SpD := fun ds G Q => ∃ (R : Rul) (hs : List Nat), ds = [rulD C R] ∧ R.Ok ∧ R.heard = strOf hs ∧ 0 < R.rows.length ∧ R.rows.length ≤ 10 ∧
  Q (pageD (muteOf R.rows hs)) G
abbrev N_mute : List Str := ["rules", "order", "speeches", "at", "here", "letter", "behind"]
theorem sc_mute : FnScope N_mute ["rules"] (defScope s_mute) := ⟨rfl, rfl, rfl, by decide +kernel, rfl, by decide +kernel, by decide +kernel⟩
theorem c_mute (T : Txt K mg C) (d : Def K mg "mute" s_mute) (C_states_behind : Cal P w K mg base "states_behind" 1 ["rules", "states", "letter"] (spBehind C)) : Cal P w K mg base "mute" 2 ["rules"] (spMute C) := by
  refine cal_mk (N := N_mute) d sc_mute (fun ds G Q h => ?_) (fun _ _ _ _ _ _ us hl => match us, hl with | [_], _ => rfl) (fun f cdv A outer s H E hg hr => ?_)
  · obtain ⟨R, hs, rfl, _⟩ := h
    rfl
  · have hu := hu100 hr
    have nd := sc_mute.nd
    have hA := deeper_guards (env := envOfC "mute" (defScope s_mute) s.heap.objs.size f cdv) hg
    refine ⟨_, (dps_cons (dp_asg (de_lstM (da_cons (de_tup (da_cons de_int da_nil)) da_nil)) (dg_name 1 nd))
  (dps_cons (dp_asg (de_dispT hu (de_tup (da_cons de_int da_nil)) de_str) (dg_name 2 nd))
  (dps_cons (dp_asg de_int (dg_name 3 nd))
  (dps_cons (dp_while PassesOwn.never (dt_cmp (od_lt hu) (de_var 3) (de_callB cd_len rfl T.f_len (by decide +kernel) (da_cons (de_var 1) da_nil)) (nomark _))
  (dps_cons (dp_asg (de_ix hu (de_var 1) (de_var 3)) (dg_name 4 nd))
  (dps_cons (dp_aug (i := 3) nd ip_add de_int)
  (dps_one (dp_for PassesOwn.never rfl (di_str (de_fld T.clR T.no_heard (de_var 0))) (dg_name 5 nd)
  (dps_cons (dp_asg (de_cal C_states_behind hA (hr.mono (by decide)) (da_cons (de_var 0) (da_cons (de_var 4) (da_cons (de_var 5) da_nil)))) (dg_name 6 nd))
  (dps_cons (dp_if (dt_cmp (od_eq hu) (de_var 6) (de_tup da_nil) (nomark _))
  (dps_one (dp_ret (de_op od_add (de_ix hu (de_var 2) (de_var 4)) (de_var 5))))
  dps_nil)
  (dps_one (dp_if (dt_cmp (od_notIn hu) (de_var 6) (de_var 2) (by rfl))
  (dps_cons (dp_asg (de_op od_add (de_ix hu (de_var 2) (de_var 4)) (de_var 5)) (dg_sub hu (de_var 2) (de_var 6)))
  (dps_one (dp_expr (de_bm PySem.F.plainAttrs_list PySem.F.slot_list_append PySem.F.type_list_append md_append (de_var 1) (da_cons (de_var 6) da_nil)))))
  dps_nil)))))))))
  (dps_one (dp_ret de_non)))))), fun ds G Q h => ?_⟩
    obtain ⟨R, hs, rfl, ok, hh, h0, h10, q⟩ := h
    have tl : ∀ r ∈ R.rows, ∀ m ∈ r, m.t < R.rows.length := fun r hr => (ok.at_ r hr).2
    have hB : 2 ^ R.rows.length ≤ 1024 := Nat.pow_le_pow_right (by decide) h10
    rw [show dstart N_mute [rulD C R] = [some (rulD C R), none, none, none, none, none, none] from rfl]
    simp only [dxs, dl, dx2, D.keys, D.key]
    refine ⟨sz (by simp), sz (by simp), fun p hp => ⟨sz (by simp), fun z hz => ?_⟩⟩
    have hzp : z ≠ p := fun e => by rw [e, gput_same] at hz; cases hz
    have hpz : p ≠ z := fun e => hzp e.symm
    have hz' : G z = none := by rw [gput_ne hzp] at hz; exact hz
    have np : ∀ G0 o, gput G0 z o p = G0 p := fun _ _ => gput_ne hpz
    refine ⟨fun m S' G' => ∃ (at_ : Nat) (ord : Ord) (x4 x5 x6 : Option D), m = 2 ^ R.rows.length - at_ ∧ S' = [some (rulD C R), some (.rf p), some (.rf z), some (.int (at_ : Int)), x4, x5, x6] ∧
      G' = gput (gput G p (.lst (ordL ord))) z (.dT (ordT ord)) ∧ OrdOk R.rows hs ord ∧ bfs R.rows hs (2 ^ R.rows.length - at_) at_ ord = muteOf R.rows hs,
      ⟨_, 0, [([0], [])], none, none, none, rfl, rfl, rfl, .start h0, rfl⟩, ?_⟩
    rintro m S' G' ⟨at_, ord, x4, x5, x6, rfl, rfl, rfl, oo, hb⟩
    have ol := oo.len
    simp only [dxs, dl, np, rLenD, D.len, okL_int, DL.lt_int, true_and, ordL_len]
    by_cases hat : at_ < ord.length
    · rw [if_pos (by simpa using hat)]
      obtain ⟨here, hhere⟩ : ∃ x, ord[at_]? = some x := ⟨_, List.getElem?_eq_getElem hat⟩
      obtain ⟨f, hf⟩ : ∃ f, 2 ^ R.rows.length - at_ = f + 1 := ⟨2 ^ R.rows.length - at_ - 1, by omega⟩
      rw [hf] at hb
      unfold bfs at hb
      rw [hhere] at hb
      simp only at hb
      simp only [dxs, dl, np, item_lst, ordL_at hhere, rulD, rulF_heard, true_and, hh]
      refine ⟨fun j S' G' => ∃ (ord' : Ord) (x5 x6 : Option D), S' = [some (rulD C R), some (.rf p), some (.rf z), some (.int ((at_ : Int) + 1)), some (.tup (natsD here.1)), x5, x6] ∧
        G' = gput (gput G p (.lst (ordL ord'))) z (.dT (ordT ord')) ∧ OrdOk R.rows hs ord' ∧ ord'[at_]? = some here ∧ stepL R.rows here ord hs = stepL R.rows here ord' (hs.drop j),
        ⟨ord, x5, x6, rfl, rfl, oo, hhere, by simp⟩, fun _ _ _ _ => trivial, ?_, ?_⟩
      · rintro j S' G' dd ⟨ord', x5, x6, rfl, rfl, oo', hh', hst⟩ hd
        obtain ⟨c, hc, rfl⟩ := signs_get hd
        have hch : c ∈ hs := List.mem_of_getElem? hc
        have hdr : hs.drop j = c :: hs.drop (j + 1) := by
          obtain ⟨h1, h2⟩ := List.getElem?_eq_some_iff.mp hc
          rw [List.drop_eq_getElem_cons h1, h2]
        rw [hdr, stepL_cons] at hst
        have ol' := oo'.len
        have hl2 := oo'.ln at_ here hh'
        simp only [dxs, dl]
        refine ⟨R, here.1, c, rfl, ok, (oo'.st here (List.mem_of_getElem? hh')).2, by omega, ?_⟩
        simp only [dxs, dl, natsD_okE0, natsD_eqv0, Nat.zero_le, true_and]
        by_cases hbe : behind R.rows here.1 c = []
        · rw [if_pos (by simpa using hbe)]
          rw [if_pos hbe] at hst
          rw [hst] at hb
          simp only [dxs, dl, item_dT, natsD_keys, Option.map_some, Option.join_some, ordT_at oo'.nd hh', rAddD]
          refine ⟨by rw [strOf_len]; exact sz (by simp [sgn, Str.length]; omega), G, sub_new2 hp hz' hzp rfl rfl, ?_⟩
          rw [strOf_sgn]
          rw [← hb] at q
          exact q
        · rw [if_neg (by simpa using hbe)]
          rw [if_neg hbe] at hst
          simp only [dxs, dl, inn_dT, natsD_keys, Option.map_some, ordT_is oo'.nd]
          by_cases hin : behind R.rows here.1 c ∈ ord'.map (·.1)
          · rw [if_pos hin] at hst
            rw [if_neg (by simp [hin])]
            exact ⟨ord', _, _, rfl, rfl, oo', hh', hst⟩
          · rw [if_neg hin] at hst
            rw [if_pos (by simp [hin])]
            simp only [dxs, dl, item_dT, natsD_keys, Option.map_some, Option.join_some, ordT_at oo'.nd hh', rAddD, strOf_sgn, ordT_put hin, gput_gput, np, rAppendD, gput_under hpz, ordL_len, ordT_len, beq_self_eq_true, true_and]
            refine ⟨by rw [strOf_len]; exact sz (by simp [sgn, Str.length]; omega), szl (by omega), szl (by omega), ord' ++ [(behind R.rows here.1 c, here.2 ++ [c])], _, _, rfl, ?_, oo'.add tl hh' hch hbe hin, ?_, hst⟩
            · rw [← ordL_put]
            · rw [List.getElem?_append_left (List.getElem?_eq_some_iff.mp hh').1]; exact hh'
      · rintro S' G' ⟨ord', x5, x6, rfl, rfl, oo', hh', hst⟩
        rw [signs_len, List.drop_length, stepL_nil] at hst
        rw [hst] at hb
        refine ⟨2 ^ R.rows.length - (at_ + 1), by omega, at_ + 1, ord', some (.tup (natsD here.1)), x5, x6, rfl, ?_, rfl, oo', ?_⟩
        · simp [rulD]
        · have : 2 ^ R.rows.length - (at_ + 1) = f := by omega
          rw [this]; exact hb
    · rw [if_neg (by simpa using hat)]
      have hn : muteOf R.rows hs = none := by
        rw [← hb]
        cases e : 2 ^ R.rows.length - at_ with
        | zero => rfl
        | succ f =>
          unfold bfs
          have : ord[at_]? = none := List.getElem?_eq_none (by omega)
          rw [this]
      refine ⟨G, sub_new2 hp hz' hzp rfl rfl, ?_⟩
      rw [hn] at q
      exact q
end
end Pace
end
section
set_option Elab.async false
set_option linter.all false
set_option maxRecDepth 100000
set_option maxHeartbeats 4000000
namespace Pace
open PySem PySem.Spec PyProof.Rows L2 DL
section
variable {P : Program} {w : World} {K : PySem.W.Frag} {mg : Str → Option Value} {base : Heap} {C : Addr}
def spFull (C : Addr) : SpD := fun ds G Q => ∃ (R : Rul) (hs : List Nat), ds = [rulD C R] ∧ R.Ok ∧ R.heard = strOf hs ∧ 0 < R.rows.length ∧ R.rows.length ≤ 10 ∧ muteOf R.rows hs = none ∧ Q .non G
abbrev N_check_full : List Str := ["rules", "speech"]
theorem sc_check_full : FnScope N_check_full ["rules"] (defScope s_check_full) := ⟨rfl, rfl, rfl, by decide +kernel, rfl, by decide +kernel, by decide +kernel⟩
theorem c_check_full (T : Txt K mg C) (d : Def K mg "check_full" s_check_full) (C_mute : Cal P w K mg base "mute" 2 ["rules"] (spMute C)) : Cal P w K mg base "check_full" 3 ["rules"] (spFull C) := by
  refine cal_mk (N := N_check_full) d sc_check_full (fun ds G Q h => ?_) (fun _ _ _ _ _ _ us hl => match us, hl with | [_], _ => rfl) (fun f cdv A outer s H E hg hr => ?_)
  · obtain ⟨R, hs, rfl, _⟩ := h
    rfl
  · have hu := hu100 hr
    have nd := sc_check_full.nd
    have hA := deeper_guards (env := envOfC "check_full" (defScope s_check_full) s.heap.objs.size f cdv) hg
    refine ⟨_, (dps_cons (dp_asg (de_cal C_mute hA (hr.mono (by decide)) (da_cons (de_var 0) da_nil)) (dg_name 1 nd))
  (dps_one (dp_if (dt_cmp od_notN (de_var 1) de_non (nomark _))
  (dps_one dp_never)
  dps_nil))), fun ds G Q h => ?_⟩
    obtain ⟨R, hs, rfl, ok, hh, h0, h10, hm, q⟩ := h
    rw [show dstart N_check_full [rulD C R] = [some (rulD C R), none] from rfl]
    simp only [dxs, dl]
    refine ⟨R, hs, rfl, ok, hh, h0, h10, ?_⟩
    rw [hm]
    exact ⟨G, Sub.refl _, q⟩
end
end Pace
end
section
set_option Elab.async false
set_option linter.all false
set_option maxRecDepth 100000
set_option maxHeartbeats 4000000
namespace Pace
open PySem PySem.Spec PyProof.Rows L2 DL
section
variable {P : Program} {w : World} {K : PySem.W.Frag} {mg : Str → Option Value} {base : Heap} {C : Addr}
def spListOf (C : Addr) : SpD := fun ds G Q => ∃ (R : Rul) (hs cs : List Nat), ds = [rulD C R, .str (strOf cs)] ∧ R.Ok ∧ R.heard = strOf hs ∧ 0 < R.rows.length ∧ R.rows.length ≤ 10 ∧ muteOf R.rows hs = none ∧ Ordered R.rows ∧ cs.length ≤ 1000 ∧ Q (lsU (listW R.rows cs)) G
abbrev N_list_of : List Str := ["rules", "speech", "found", "letter"]
theorem sc_list_of : FnScope N_list_of ["rules", "speech"] (defScope s_list_of) := ⟨rfl, rfl, rfl, by decide +kernel, rfl, by decide +kernel, by decide +kernel⟩
theorem c_list_of (T : Txt K mg C) (d : Def K mg "list_of" s_list_of) (C_check_full : Cal P w K mg base "check_full" 3 ["rules"] (spFull C)) (C_list_behind : Cal P w K mg base "list_behind" 2 ["rules", "one", "letter"] (spListBehind C)) : Cal P w K mg base "list_of" 4 ["rules", "speech"] (spListOf C) ∧ CalK P w K mg base "list_of" 4 ["rules", "speech"] (spListOf C) 0 ["speech", "rules"] [1, 0] := by
  refine cal_mkK (N := N_list_of) d sc_list_of (fun ds G Q h => ?_) (fun _ _ _ _ _ _ us hl => match us, hl with | [_, _], _ => rfl) (fun _ _ _ _ _ _ us ws hl hw => match us, ws, hl, hw with | [], [_, _], _, _ => rfl) (fun f cdv A outer s H E hg hr => ?_)
  · obtain ⟨R, hs, cs, rfl, _⟩ := h
    rfl
  · have hu := hu100 hr
    have nd := sc_list_of.nd
    have hA := deeper_guards (env := envOfC "list_of" (defScope s_list_of) s.heap.objs.size f cdv) hg
    refine ⟨_, (dps_cons (dp_expr (de_cal C_check_full hA (hr.mono (by decide)) (da_cons (de_var 0) da_nil)))
  (dps_cons (dp_asg (de_gkup rfl T.c_BEGIN) (dg_name 2 nd))
  (dps_cons (dp_for PassesOwn.never rfl (di_str (de_var 1)) (dg_name 3 nd)
  (dps_one (dp_asg (de_ix hu (de_cal C_list_behind hA (hr.mono (by decide)) (da_cons (de_var 0) (da_cons (de_up (de_var 2)) (da_cons (de_var 3) da_nil)))) de_int) (dg_name 2 nd))))
  (dps_one (dp_ret (de_up (de_var 2))))))), fun ds G Q h => ?_⟩
    obtain ⟨R, hs, cs, rfl, ok, hh, h0, h10, hm, ord, cl, q⟩ := h
    rw [show dstart N_list_of [rulD C R, .str (strOf cs)] = [some (rulD C R), some (.str (strOf cs)), none, none] from rfl]
    simp only [dxs, dl, x_up]
    refine ⟨R, hs, rfl, ok, hh, h0, h10, hm, ?_⟩
    have few := ok.few
    have tl : ∀ r ∈ R.rows, ∀ m ∈ r, m.t < R.rows.length := fun r hr => (ok.at_ r hr).2
    have lsl : ∀ p : List Nat, (listW R.rows p).length ≤ 1000 ∧ ∀ x ∈ listW R.rows p, x.1 < R.rows.length := fun p => by
      have h1 : ∀ k ∈ (firstsW R.rows p).map (·.2), k < R.rows.length := fun k hk => by
        obtain ⟨x, hx, rfl⟩ := List.mem_map.mp hk
        have hc : x.2 ∈ (caps R.rows 0 p).map (·.2) := List.mem_map.mpr ⟨x, (dedS_sub _ _).subset hx, rfl⟩
        rw [caps_run] at hc
        exact run_lt tl (by simpa using h0) _ hc
      constructor
      · have := nodup_lt_len (dedS_nodup (caps R.rows 0 p) []) h1
        rw [List.length_map] at this
        unfold listW
        rw [toLs_len]
        show (dedS [] _).length ≤ _
        omega
      · intro x hx
        have : x.1 ∈ (listW R.rows p).map (·.1) := List.mem_map.mpr ⟨x, hx, rfl⟩
        unfold listW at this
        rw [toLs_fst] at this
        exact h1 _ this
    refine ⟨fun i S' G' => ∃ (d : D) (x3 : Option D), S' = [some (rulD C R), some (.str (strOf cs)), some d, x3] ∧ G = G' ∧ d.up = lsU (listW R.rows (cs.take i)), ⟨_, _, rfl, rfl, rfl⟩, fun _ _ _ _ => trivial, ?_, ?_⟩
    · rintro i S' _ dd ⟨d, x3, rfl, rfl, hd⟩ hdd
      obtain ⟨c, hc, rfl⟩ := signs_get hdd
      have tk : cs.take (i + 1) = cs.take i ++ [c] := by rw [List.take_add_one, hc]; rfl
      simp only [dxs, dl, x_up, hd]
      refine ⟨R, c, listW R.rows (cs.take i), rfl, ok, (lsl _).1, (lsl _).2, ?_⟩
      have it : ∀ a b c : D, D.item (.tup [a, b, c]) (.int 0) = some a := fun _ _ _ => rfl
      simp only [dxs, dl, it]
      exact ⟨_, _, rfl, trivial, by rw [lsD_up, listW_snoc ord, tk]⟩
    · rintro S' _ ⟨d, x3, rfl, rfl, hd⟩
      rw [signs_len, List.take_length] at hd
      simp only [dxs, dl, x_up, hd]
      exact ⟨_, Sub.refl _, q⟩
end
end Pace
end
section
set_option Elab.async false
set_option linter.all false
set_option maxRecDepth 100000
set_option maxHeartbeats 4000000
namespace Pace
open PySem PySem.Spec PyProof.Rows L2 DL
section
variable {P : Program} {w : World} {K : PySem.W.Frag} {mg : Str → Option Value} {base : Heap} {C : Addr}
theorem ct_sort51 {rs : List (List Mv)} (o : Ordered rs) (s c : Nat) : sortD ((movesAt rs s c).map ctD) = (movesAt rs s c).map ctD := by
  have e : (movesAt rs s c).map ctD = ((movesAt rs s c).map fun m => ([m.c], m.t)).map capD := by rw [List.map_map]; rfl
  have p : ((movesAt rs s c).map fun m => ([m.c], m.t)).Pairwise fun x y => x.1 < y.1 := by
    rw [List.pairwise_map]
    exact (moves_ordered o s c).imp fun h => List.cons_lt_cons_iff.mpr (.inl h)
  rw [e]
  unfold sortD
  refine List.mergeSort_of_pairwise (List.pairwise_map.mpr (p.imp fun {x y} h => capD_le h))
theorem ct_okS51 {rs : List (List Mv)} (s c : Nat) : okS ((movesAt rs s c).map ctD) = true := by
  have e : (movesAt rs s c).map ctD = ((movesAt rs s c).map fun m => ([m.c], m.t)).map capD := by rw [List.map_map]; rfl
  rw [e]
  exact caps_okS _
def spLStep51 : SpD := fun ds G Q => ∃ (hs ws : List Nat) (rs : List (List Mv)) (c : Nat) (L : List (Nat × Nat)) (dl0 : D), ds = [wD hs ws rs, dl0, .str (sgn c)] ∧ (dl0 = lsD L ∨ dl0 = lsU L) ∧ L.length ≤ 1000 ∧ (∀ p ∈ L, p.1 < rs.length) ∧ rs.length ≤ 1000 ∧ (∀ r ∈ rs, r.length ≤ 1000 ∧ ∀ m ∈ r, m.t < rs.length) ∧ Ordered rs ∧ cameW rs c (L.map fun x => ((), x.1)) ≠ [] ∧
  ∀ x y : D, Q (.tup [lsD (stepW rs c L), x, y]) G
abbrev N__law_step : List Str := ["_law_w", "_law_one_list", "_law_letter", "_law_came", "_law_seen", "_law_place_now", "_law_pair", "_law_c", "_law_t", "_law_forks", "_law_found", "_law_k", "_law_spot"]
theorem sc__law_step : FnScope N__law_step ["_law_w", "_law_one_list", "_law_letter"] (defScope s__law_step) := ⟨rfl, rfl, rfl, by decide +kernel, rfl, by decide +kernel, by decide +kernel⟩
theorem c__law_step (T : Txt K mg C) (d : Def K mg "_law_step" s__law_step) (C__law_moves : Cal P w K mg base "_law_moves" 1 ["_law_w", "_law_state", "_law_letter"] (spLMoves)) : Cal P w K mg base "_law_step" 2 ["_law_w", "_law_one_list", "_law_letter"] (spLStep51) := by
  refine cal_mk (N := N__law_step) d sc__law_step (fun ds G Q h => ?_) (fun _ _ _ _ _ _ us hl => match us, hl with | [_, _, _], _ => rfl) (fun f cdv A outer s H E hg hr => ?_)
  · obtain ⟨hs, ws, rs, c, L, dl0, rfl, _⟩ := h
    rfl
  · have hu := hu100 hr
    have nd := sc__law_step.nd
    have hA := deeper_guards (env := envOfC "_law_step" (defScope s__law_step) s.heap.objs.size f cdv) hg
    refine ⟨_, (dps_cons (dp_par (i := 3) (j := 4) rfl nd (ha := (da_cons (de_lstM da_nil) (da_cons de_newK da_nil))))
  (dps_cons (dp_for PassesOwn.never rfl (di_enumT rfl T.f_enumerate (da_cons (de_var 1) da_nil)) (dg_tup (n := 2) rfl (dgs_cons (dg_name 5 nd) (dgs_cons (dg_name 6 nd) dgs_nil)))
  (dps_one (dp_for PassesOwn.never rfl (di_list (de_callB (cd_sorted hu rfl) rfl T.f_sorted (by decide +kernel) (da_cons (de_cal C__law_moves hA (hr.mono (by decide)) (da_cons (de_var 0) (da_cons (de_ix hu (de_var 6) de_int) (da_cons (de_var 2) da_nil)))) da_nil))) (dg_tup (n := 2) rfl (dgs_cons (dg_name 7 nd) (dgs_cons (dg_name 8 nd) dgs_nil)))
  (dps_one (dp_if (dt_cmp (od_notIn hu) (de_var 8) (de_var 4) (by rfl))
  (dps_cons (dp_asg de_bl (dg_sub hu (de_var 4) (de_var 8)))
  (dps_one (dp_expr (de_bm PySem.F.plainAttrs_list PySem.F.slot_list_append PySem.F.type_list_append md_append (de_var 3) (da_cons (de_tup (da_cons (de_var 8) (da_cons (de_var 5) da_nil))) da_nil)))))
  dps_nil)))))
  (dps_cons (dp_if (dt_cmp (od_eqNil hu) (de_var 3) (de_lst da_nil) (nomark _))
  (dps_one (dp_ret de_non))
  dps_nil)
  (dps_cons (dp_setLc (i := 9) (own := [("_law_pair", 6)]) (p := (.nm 6)) rfl nd rfl rfl (sw_true rfl rfl rfl (by decide +kernel)) (di_tup (de_var 1)) (blkOk_by (by show blkC N__law_step (defScope s__law_step) _ _ = true; decide +kernel)) (by decide) (fun _ _ _ _ _ => pg_name (i := 6) nd rfl (Or.inl rfl)) (fun _ _ _ _ _ => dts_nil) (fun _ _ _ _ _ => (de_ix hu (de_var 6) de_int)))
  (dps_cons (dp_asg (de_lstM (da_cons (de_tup (da_cons (de_ix hu (de_ix hu (de_var 3) de_int) de_int) (da_cons de_int da_nil))) da_nil)) (dg_name 10 nd))
  (dps_cons (dp_for PassesOwn.never rfl (di_range2 rfl T.f_range (da_cons de_int (da_cons (de_callB cd_len rfl T.f_len (by decide +kernel) (da_cons (de_var 3) da_nil)) da_nil))) (dg_name 11 nd)
  (dps_one (dp_expr (de_bm PySem.F.plainAttrs_list PySem.F.slot_list_append PySem.F.type_list_append md_append (de_var 10) (da_cons (de_tup (da_cons (de_ix hu (de_ix hu (de_var 3) (de_var 11)) de_int) (da_cons (de_op od_add de_int (de_callB (cd_max rfl) rfl T.f_max (by decide +kernel) (da_cons (de_op od_add (de_slice (de_var 9) (do_some (de_op od_add (de_ix hu (de_ix hu (de_var 3) (de_op od_sub (de_var 11) de_int)) de_int) de_int)) (do_some (de_op od_add (de_ix hu (de_ix hu (de_var 3) (de_var 11)) de_int) de_int))) (de_lst (da_cons de_int da_nil))) da_nil))) da_nil))) da_nil)))))
  (dps_one (dp_ret (de_tup (da_cons (de_callTy cd_tuple rfl T.f_tuple (by decide +kernel) (da_cons (de_var 10) da_nil)) (da_cons (de_callB (cd_max rfl) rfl T.f_max (by decide +kernel) (da_cons (de_slice (de_var 9) do_none (do_some (de_op od_add (de_ix hu (de_ix hu (de_var 3) de_int) de_int) de_int))) da_nil)) (da_cons (de_lc (own := [("_law_t", 8), ("_law_spot", 12)]) (p := (.tp [8, 12])) rfl nd (di_list (de_var 3)) (blkOk_by (by show blkC N__law_step (defScope s__law_step) _ _ = true; decide +kernel)) (by decide) (fun _ _ _ _ _ => pg_tup rfl (pgs_cons (pg_name (i := 8) nd rfl (Or.inl rfl)) (pgs_cons (pg_name (i := 12) nd rfl (Or.inl rfl)) pgs_nil))) (fun _ _ _ _ _ => dts_nil) (fun _ _ _ _ _ => (de_var 12))) da_nil)))))))))))), fun ds G Q h => ?_⟩
    obtain ⟨hs, ws, rs, c, L, dl0, rfl, hdl, l1, ls, r1, at0, ord, ne, q⟩ := h
    rcases hdl with rfl | rfl
    · rw [show dstart N__law_step [wD hs ws rs, lsD L, .str (sgn c)] = [some (wD hs ws rs), some (lsD L), some (.str (sgn c)), none, none, none, none, none, none, none, none, none, none] from rfl]
      simp only [dxs, dl]
      refine ⟨Nat.zero_le _, fun f hf => fun mt hmt => ?_⟩
      have fm : f ≠ mt := fun e => by rw [← e, gput_same] at hmt; cases hmt
      have sub : ∀ A Cc, Sub G (gput (gput G f (.lst A)) mt (.dK Cc)) := fun A Cc => by
        refine (sub_new hf rfl).trans (sub_new ?_ rfl)
        rw [gput_ne (Ne.symm fm)] at hmt ⊢
        exact hmt
      have tl : ∀ r ∈ rs, ∀ m ∈ r, m.t < rs.length := fun r hr => (at0 r hr).2
      show ForB (List.mapIdx (fun i x => D.tup [D.int (i : Nat), x]) (L.map lpD)) dNoGuard _ _ _ _ (gput (gput G f (.lst [])) mt (.dK []))
      let W1 : List (Unit × Nat) := L.map fun x => ((), x.1)
      let cm : List ((Nat × Nat) × Nat) → List (Nat × Nat) := fun E => (dedS [] E).map fun x => (x.1.1, x.2)
      let cD : List (Nat × Nat) → List D := fun M => M.map fun x => .tup [.int (x.2 : Nat), .int (x.1 : Nat)]
      let GE : List ((Nat × Nat) × Nat) → GH := fun E => gput (gput G f (.lst (cD (cm E)))) mt (.dK (mtD ((cm E).map (·.2))))
      have cml : ∀ E, (∀ x ∈ E, x.2 < rs.length) → (cm E).length ≤ 1000 := fun E h => by
        have h1 : ((dedS [] E).map (·.2)).length ≤ rs.length := nodup_lt_len (dedS_nodup E []) fun k hk => by
          obtain ⟨x, hx, rfl⟩ := List.mem_map.mp hk
          exact h x ((dedS_sub _ _).subset hx)
        rw [List.length_map] at h1
        show ((dedS [] E).map _).length ≤ _
        rw [List.length_map]
        omega
      refine ⟨fun i S' G' => ∃ x5 x6 x7 x8, S' = [some (wD hs ws rs), some (lsD L), some (.str (sgn c)), some (.rf f), some (.rf mt), x5, x6, x7, x8, none, none, none, none] ∧ G' = GE (evW rs c (W1.take i)), ⟨none, none, none, none, rfl, rfl⟩, fun _ _ _ _ => trivial, ?_, ?_⟩
      · rintro i S' G' dd ⟨x5, x6, x7, x8, rfl, rfl⟩ hd
        rw [List.getElem?_mapIdx] at hd
        cases eL : L[i]? with
        | none => rw [List.getElem?_map, eL] at hd; cases hd
        | some pr =>
          rw [List.getElem?_map, eL] at hd
          obtain rfl := Option.some.inj hd
          have hi : i < L.length := (List.getElem?_eq_some_iff.mp eL).1
          have hW : W1[i]? = some ((), pr.1) := by show (L.map _)[i]? = _; rw [List.getElem?_map, eL]; rfl
          have hs_ := ls pr (List.mem_of_getElem? eL)
          have hr0 : rs[pr.1]? = some (rs[pr.1]) := List.getElem?_eq_getElem hs_
          have hm0 : movesAt rs pr.1 c = (rs[pr.1]).filter fun m => m.h == c := by unfold movesAt; rw [List.getD_eq_getElem?_getD, hr0]; rfl
          have eS := evW_succ (rs := rs) (c := c) hW
          have El : ∀ x ∈ evW rs c (W1.take i), x.2 < rs.length := evW_tl tl
          generalize hE : evW rs c (W1.take i) = E at El ⊢
          have ip : D.item (lpD pr) (.int 0) = some (.int (pr.1 : Nat)) := rfl
          have cp : ∀ G : GH, D.cur G (lpD pr) = lpD pr := fun _ => rfl
          simp only [dxs, dl, eS, hE, cp, ip]
          refine ⟨trivial, hs, ws, rs, pr.1, c, rs[pr.1], rfl, hr0, (at0 _ (List.getElem_mem hs_)).1, ?_⟩
          rw [← hm0]
          have rsrt : ∀ (G : GH) (Q : DQ), Q (.lst ((movesAt rs pr.1 c).map ctD)) G → rSortD [.lst ((movesAt rs pr.1 c).map ctD)] G Q := fun G Q h => by
            have eL : D.cur G (.lst ((movesAt rs pr.1 c).map ctD)) = .lst ((movesAt rs pr.1 c).map ctD) := rfl
            simp only [rSortD, eL, ct_okS51, ct_sort51 ord, true_and]
            exact h
          refine rsrt _ _ ?_
          simp only
          refine ⟨fun j S2 G2 => ∃ x7 x8, S2 = [some (wD hs ws rs), some (lsD L), some (.str (sgn c)), some (.rf f), some (.rf mt), some (.int (i : Nat)), some (lpD pr), x7, x8, none, none, none, none] ∧ G2 = GE (E ++ ((movesAt rs pr.1 c).take j).map fun m => ((i, m.c), m.t)), ⟨_, _, rfl, by simp⟩, fun _ _ _ _ => trivial, ?_, ?_⟩
          · rintro j S2 G2 dd ⟨x7, x8, rfl, rfl⟩ hd
            obtain ⟨m, hm, rfl⟩ := map_get hd
            have eE : E ++ ((movesAt rs pr.1 c).take (j + 1)).map (fun m => ((i, m.c), m.t)) = (E ++ ((movesAt rs pr.1 c).take j).map fun m => ((i, m.c), m.t)) ++ [((i, m.c), m.t)] := by
              rw [List.take_add_one, hm, List.map_append, List.append_assoc]; rfl
            dsimp only
            rw [eE]
            have E2l : ∀ x ∈ (E ++ ((movesAt rs pr.1 c).take j).map fun m => ((i, m.c), m.t)), x.2 < rs.length := fun x hx => by
              rcases List.mem_append.mp hx with hx | hx
              · exact El x hx
              · obtain ⟨m', hm', rfl⟩ := List.mem_map.mp hx
                exact moves_tl tl m' (List.mem_of_mem_take hm')
            generalize (E ++ ((movesAt rs pr.1 c).take j).map fun m => ((i, m.c), m.t)) = E2 at E2l ⊢
            have gf : GE E2 f = some (.lst (cD (cm E2))) := by show gput (gput G f _) mt _ f = _; rw [gput_ne fm, gput_same]
            have gm : GE E2 mt = some (.dK (mtD ((cm E2).map (·.2)))) := gput_same
            have cl := cml E2 E2l
            simp only [dxs, dl, ctD, gm, inn_dK, mtD_val]
            refine ⟨trivial, ?_⟩
            have cmm : (dedS [] E2).map (·.2) = (cm E2).map (·.2) := by show _ = ((dedS [] E2).map _).map _; rw [List.map_map]; rfl
            by_cases hin : m.t ∈ (cm E2).map (·.2)
            · have ec : cm (E2 ++ [((i, m.c), m.t)]) = cm E2 := by
                show (dedS [] (E2 ++ [((i, m.c), m.t)])).map _ = (dedS [] E2).map _
                rw [dedS_snoc, if_pos (by rw [cmm]; exact hin)]
              have eg : GE (E2 ++ [((i, m.c), m.t)]) = GE E2 := by
                show gput (gput G f (.lst (cD (cm (E2 ++ [((i, m.c), m.t)]))))) mt _ = _
                simp only [ec, GE]
              rw [decide_eq_true hin]
              simp only [Bool.not_true, Bool.false_eq_true, if_false]
              exact ⟨_, _, rfl, eg.symm⟩
            · have ec : cm (E2 ++ [((i, m.c), m.t)]) = cm E2 ++ [(i, m.t)] := by
                show (dedS [] (E2 ++ [((i, m.c), m.t)])).map _ = (dedS [] E2).map _ ++ _
                rw [dedS_snoc, if_neg (by rw [cmm]; exact hin), List.map_append]
                rfl
              have eg : GE (E2 ++ [((i, m.c), m.t)]) = gput (gput G f (.lst (cD (cm E2) ++ [.tup [.int (m.t : Nat), .int (i : Nat)]]))) mt (.dK (mtD ((cm E2).map (·.2) ++ [m.t]))) := by
                show gput (gput G f (.lst (cD (cm (E2 ++ [((i, m.c), m.t)]))))) mt (.dK (mtD ((cm (E2 ++ [((i, m.c), m.t)])).map (·.2)))) = _
                rw [ec, List.map_append]
                simp [cD]
              rw [decide_eq_false hin]
              have e3 : gput (GE E2) mt (.dK (mtD ((cm E2).map (·.2) ++ [m.t]))) = gput (gput G f (.lst (cD (cm E2)))) mt (.dK (mtD ((cm E2).map (·.2) ++ [m.t]))) := gput_gput
              have hf1 : ∀ A Cc, gput (gput G f (.lst A)) mt (.dK Cc) f = some (.lst A) := fun _ _ => by rw [gput_ne fm, gput_same]
              have hf2 : ∀ A A' Cc, gput (gput (gput G f (.lst A)) mt (.dK Cc)) f (.lst A') = gput (gput G f (.lst A')) mt (.dK Cc) := fun _ _ _ => by rw [gput_comm (Ne.symm fm), gput_gput]
              simp only [Bool.not_false, if_true, D.key, mtD_put hin, e3, dxs, dl, hf1, rAppendD, hf2]
              refine ⟨szl (by simp [mtD]; omega), rfl, sz (by decide), szl (by simp [cD]; omega), _, _, rfl, eg.symm⟩
          · rintro S2 G2 ⟨x7, x8, rfl, rfl⟩
            rw [List.length_map, List.take_length]
            exact ⟨_, _, _, _, rfl, rfl⟩
      · rintro S' G' ⟨x5, x6, x7, x8, rfl, rfl⟩
        have el : (List.mapIdx (fun i x => D.tup [D.int (i : Nat), x]) (L.map lpD)).length = W1.length := by simp [W1]
        rw [el, List.take_length]
        have gf : GE (evW rs c W1) f = some (.lst (cD (cameW rs c W1))) := by show gput (gput G f _) mt _ f = _; rw [gput_ne fm, gput_same]; rfl
        have sb : Sub G (GE (evW rs c W1)) := sub _ _
        have cl := cml (evW rs c W1) (evW_tl tl)
        generalize GE (evW rs c W1) = G1 at gf sb ⊢
        have cl : (cameW rs c W1).length ≤ 1000 := cl
        have M1 : ∀ x ∈ cameW rs c W1, x.1 < L.length := fun x hx => by
          unfold cameW at hx
          obtain ⟨y, hy, rfl⟩ := List.mem_map.mp hx
          have := evW_at y ((dedS_sub _ _).subset hy)
          simpa [W1] using this
        have ne2 : (cD (cameW rs c W1)).isEmpty = false := by
          cases h : cameW rs c W1 with
          | nil => exact absurd h ne
          | cons a l => rfl
        have eq_ : stepW rs c L = fdW (fk L) none (cameW rs c W1) := rfl
        rw [eq_] at q
        have ne' : 0 < (cameW rs c W1).length := List.length_pos_iff.mpr ne
        generalize cameW rs c W1 = M at gf cl M1 ne2 q ne'
        simp only [dxs, dl, rNil, gf, ne2, Bool.false_eq_true, if_false]
        refine ⟨Nat.zero_le _, ?_⟩
        show LcB (L.map lpD) dNoGuard _ _ _ _ _ _ _
        refine lc_mapA L lpD (fun p : Nat × Nat => .int (p.2 : Nat)) rfl (sz (by omega)) trivial (fun p hp => ⟨_, rfl, fun Q z => ?_⟩) ?_
        · have ip : D.item (lpD p) (.int 1) = some (.int (p.2 : Nat)) := rfl
          have cp : ∀ G : GH, D.cur G (lpD p) = lpD p := fun _ => rfl
          simp only [dxs, dl, dwipe, List.map_cons, List.map_nil, cp, ip]
          exact z
        have efk : L.map (fun p : Nat × Nat => D.int (p.2 : Nat)) = natsD (fk L) := by simp [natsD, fk]
        rw [efk]
        obtain ⟨m0, M', rfl⟩ : ∃ m0 M', M = m0 :: M' := by
          cases M with
          | nil => simp at ne'
          | cons a l => exact ⟨a, l, rfl⟩
        have at_ : ∀ k x, (m0 :: M')[k]? = some x → (D.lst (cD (m0 :: M'))).item (.int (k : Nat)) = some (.tup [.int (x.2 : Nat), .int (x.1 : Nat)]) := fun k x h => atI_nat (by show (List.map _ (m0 :: M'))[k]? = _; rw [List.getElem?_map, h]; rfl)
        have a0 : (D.lst (cD (m0 :: M'))).item (.int 0) = some (.tup [.int (m0.2 : Nat), .int (m0.1 : Nat)]) := at_ 0 m0 rfl
        have i0 : ∀ a b : D, D.item (.tup [a, b]) (.int 0) = some a := fun _ _ => rfl
        have i1 : ∀ a b : D, D.item (.tup [a, b]) (.int 1) = some b := fun _ _ => rfl
        simp only [gf, a0, dx3, i0]
        refine ⟨sz (by decide), sz (by decide), fun p hp => ?_⟩
        have fp : f ≠ p := fun e => by rw [← e, gf] at hp; cases hp
        have gf2 : ∀ A, gput G1 p (.lst A) f = some (.lst (cD (m0 :: M'))) := fun A => by rw [gput_ne fp]; exact gf
        have lnF : ∀ A (Q : DQ), rLenD [.rf f] (gput G1 p (.lst A)) Q = Q (.int ((m0 :: M').length : Nat)) (gput G1 p (.lst A)) := fun A Q => by
          have hc : D.cur (gput G1 p (.lst A)) (.rf f) = .lst (cD (m0 :: M')) := cur_l (gf2 A)
          simp only [rLenD, hc, D.len]
          rw [show (cD (m0 :: M')).length = (m0 :: M').length from List.length_map _]
        simp only [lnF]
        refine ⟨by omega, ?_⟩
        refine ⟨fun j S' G' => ∃ x11, S' = [some (wD hs ws rs), some (lsD L), some (.str (sgn c)), some (.rf f), some (.rf mt), x5, x6, x7, x8, some (.lst (natsD (fk L))), some (.rf p), x11, none] ∧ G' = gput G1 p (.lst ((fdW (fk L) none ((m0 :: M').take (1 + j))).map lpD)), ⟨none, rfl, rfl⟩, fun _ _ _ _ => trivial, ?_, ?_⟩
        · rintro j S' G' dd ⟨x11, rfl, rfl⟩ hd
          obtain ⟨j', hj', rfl⟩ := map_get hd
          obtain ⟨hjl, b⟩ := List.getElem?_eq_some_iff.mp hj'
          rw [List.getElem_range] at b
          subst b
          have hj : j < M'.length := by
            rw [List.length_range] at hjl
            simpa using hjl
          have e1 : (1 : Int) + (j : Nat) = ((1 + j : Nat) : Int) := by omega
          have e2 : ((1 + j : Nat) : Int) - 1 = ((j : Nat) : Int) := by omega
          obtain ⟨y, hy⟩ : ∃ y, (m0 :: M')[1 + j]? = some y := ⟨(m0 :: M')[1 + j]'(by simp; omega), List.getElem?_eq_getElem _⟩
          obtain ⟨z, hz⟩ : ∃ z, (m0 :: M')[j]? = some z := ⟨(m0 :: M')[j]'(by simp; omega), List.getElem?_eq_getElem _⟩
          have a1 := at_ _ y hy
          have a2 := at_ _ z hz
          have e3 : ((z.1 : Nat) : Int) + 1 = ((z.1 + 1 : Nat) : Int) := by omega
          have e4 : ((y.1 : Nat) : Int) + 1 = ((y.1 + 1 : Nat) : Int) := by omega
          have hp1 : ∀ A, gput G1 p (.lst A) p = some (.lst A) := fun _ => gput_same
          have tk : (m0 :: M').take (1 + (j + 1)) = (m0 :: M').take (1 + j) ++ [y] := by rw [← Nat.add_assoc, List.take_add_one, hy]; rfl
          have lp_ : lastP none ((m0 :: M').take (1 + j)) = some z.1 := by
            rw [Nat.add_comm 1 j, List.take_add_one, hz]
            simp [lastP]
          have fl : (fdW (fk L) none ((m0 :: M').take (1 + j))).length ≤ 1000 := by rw [fdW_len, List.length_take]; omega
          have cutN : ∀ (a b : Nat), DL.cutD (natsD (fk L)) (some (a : Int)) (some (b : Int)) = natsD (((fk L).take b).drop a) := fun a b => by
            rw [cut_mid]
            simp [natsD, List.map_take, List.map_drop]
          have cl0 : ∀ (G : GH) (i : Int), D.cur G (.int i) = .int i := fun _ _ => rfl
          have fkl : (fk L).length ≤ 1000 := by rw [fk, List.length_map]; exact l1
          have nl : ∀ l : List Nat, (natsD l).length = l.length := fun l => by simp [natsD]
          simp only [dxs, dl, dx3, e1, e2, gf2, a1, a2, i0, i1, rAddD, e3, e4, cutN]
          refine ⟨rfl, trivial, sz (by decide), sz (by rw [nl, List.length_drop, List.length_take]; omega), best_zeroR ?_⟩
          have e5 : (1 : Int) + ((maxL (((fk L).take (y.1 + 1)).drop (z.1 + 1)) : Nat) : Int) = ((1 + maxL (((fk L).take (y.1 + 1)).drop (z.1 + 1)) : Nat) : Int) := by omega
          simp only [cl0, e5, rAppendD, hp1, gput_gput]
          refine ⟨sz (by decide), szl (by rw [List.length_map]; omega), _, rfl, ?_⟩
          rw [tk, fdW_snoc, List.map_append, lp_]
          rfl
        · rintro S' G' ⟨x11, rfl, rfl⟩
          have el : (List.map (fun i => D.int (1 + (i : Nat))) (List.range (((m0 :: M').length : Nat) - 1 : Int).toNat)).length = M'.length := by simp
          rw [el, List.take_of_length_le (by simp; omega)]
          simp only [dxs, dl]
          have gp : gput G1 p (.lst ((fdW (fk L) none (m0 :: M')).map lpD)) p = some (.lst ((fdW (fk L) none (m0 :: M')).map lpD)) := gput_same
          have tf : ∀ Q : DQ, rTupleD [D.rf p] (gput G1 p (.lst ((fdW (fk L) none (m0 :: M')).map lpD))) Q = Q (lsD (fdW (fk L) none (m0 :: M'))) (gput G1 p (.lst ((fdW (fk L) none (m0 :: M')).map lpD))) := fun Q => by
            show (match D.cur (gput G1 p (.lst ((fdW (fk L) none (m0 :: M')).map lpD))) (.rf p) with | .tup xs => Q (.tup xs) _ | .lst xs => Q (.tup xs) _ | _ => False) = _
            rw [cur_l gp]; rfl
          have e4 : ((m0.1 : Nat) : Int) + 1 = ((m0.1 + 1 : Nat) : Int) := by omega
          have cutN : ∀ (b : Nat), DL.cutD (natsD (fk L)) none (some (b : Int)) = natsD ((fk L).take b) := fun b => by
            rw [cut_take]
            simp [natsD, List.map_take]
          have cl0 : ∀ (G : GH) (l : List Nat), D.cur G (.lst (natsD l)) = .lst (natsD l) := fun _ _ => rfl
          have cT : ∀ (G : GH) (a b : D), D.cur G (.tup [a, b]) = .tup [a, b] := fun _ _ _ => rfl
          have cI : ∀ (G : GH) (i : Int), D.cur G (.int i) = .int i := fun _ _ => rfl
          have cL : ∀ (G : GH) (l : List D), D.cur G (.lst l) = .lst l := fun _ _ => rfl
          simp only [tf, gf2, a0, dx3, i1, rAddD, rBestD]
          simp only [cT, i1, cI, cL]
          simp only [e4]
          simp only [cutN, intsD_nats]
          have hm0 : m0.1 < L.length := M1 m0 (by simp)
          refine ⟨by rw [List.length_map, List.length_take, fk, List.length_map]; omega, fun m hm hle => ?_⟩
          show LcB (cD (m0 :: M')) _ _ _ _ _ _ _ _
          refine lc_mapA (m0 :: M') (fun x : Nat × Nat => D.tup [.int (x.2 : Nat), .int (x.1 : Nat)]) (fun x : Nat × Nat => .int (x.1 : Nat)) rfl (sz (by omega)) (gf2 _) (fun x hx => ⟨_, rfl, fun Q z => ?_⟩) ?_
          · simp only [dxs, dl, dwipe, List.map_cons, List.map_nil]
            exact z
          · exact ⟨sz (by decide), _, sb.trans (sub_new hp rfl), q _ _⟩
    · rw [show dstart N__law_step [wD hs ws rs, lsU L, .str (sgn c)] = [some (wD hs ws rs), some (lsU L), some (.str (sgn c)), none, none, none, none, none, none, none, none, none, none] from rfl]
      simp only [dxs, dl]
      refine ⟨Nat.zero_le _, fun f hf => fun mt hmt => ?_⟩
      have fm : f ≠ mt := fun e => by rw [← e, gput_same] at hmt; cases hmt
      have sub : ∀ A Cc, Sub G (gput (gput G f (.lst A)) mt (.dK Cc)) := fun A Cc => by
        refine (sub_new hf rfl).trans (sub_new ?_ rfl)
        rw [gput_ne (Ne.symm fm)] at hmt ⊢
        exact hmt
      have tl : ∀ r ∈ rs, ∀ m ∈ r, m.t < rs.length := fun r hr => (at0 r hr).2
      show ForB (List.mapIdx (fun i x => D.tup [D.int (i : Nat), x]) (L.map lpU)) dNoGuard _ _ _ _ (gput (gput G f (.lst [])) mt (.dK []))
      let W1 : List (Unit × Nat) := L.map fun x => ((), x.1)
      let cm : List ((Nat × Nat) × Nat) → List (Nat × Nat) := fun E => (dedS [] E).map fun x => (x.1.1, x.2)
      let cD : List (Nat × Nat) → List D := fun M => M.map fun x => .tup [.int (x.2 : Nat), .int (x.1 : Nat)]
      let GE : List ((Nat × Nat) × Nat) → GH := fun E => gput (gput G f (.lst (cD (cm E)))) mt (.dK (mtD ((cm E).map (·.2))))
      have cml : ∀ E, (∀ x ∈ E, x.2 < rs.length) → (cm E).length ≤ 1000 := fun E h => by
        have h1 : ((dedS [] E).map (·.2)).length ≤ rs.length := nodup_lt_len (dedS_nodup E []) fun k hk => by
          obtain ⟨x, hx, rfl⟩ := List.mem_map.mp hk
          exact h x ((dedS_sub _ _).subset hx)
        rw [List.length_map] at h1
        show ((dedS [] E).map _).length ≤ _
        rw [List.length_map]
        omega
      refine ⟨fun i S' G' => ∃ x5 x6 x7 x8, S' = [some (wD hs ws rs), some (lsU L), some (.str (sgn c)), some (.rf f), some (.rf mt), x5, x6, x7, x8, none, none, none, none] ∧ G' = GE (evW rs c (W1.take i)), ⟨none, none, none, none, rfl, rfl⟩, fun _ _ _ _ => trivial, ?_, ?_⟩
      · rintro i S' G' dd ⟨x5, x6, x7, x8, rfl, rfl⟩ hd
        rw [List.getElem?_mapIdx] at hd
        cases eL : L[i]? with
        | none => rw [List.getElem?_map, eL] at hd; cases hd
        | some pr =>
          rw [List.getElem?_map, eL] at hd
          obtain rfl := Option.some.inj hd
          have hi : i < L.length := (List.getElem?_eq_some_iff.mp eL).1
          have hW : W1[i]? = some ((), pr.1) := by show (L.map _)[i]? = _; rw [List.getElem?_map, eL]; rfl
          have hs_ := ls pr (List.mem_of_getElem? eL)
          have hr0 : rs[pr.1]? = some (rs[pr.1]) := List.getElem?_eq_getElem hs_
          have hm0 : movesAt rs pr.1 c = (rs[pr.1]).filter fun m => m.h == c := by unfold movesAt; rw [List.getD_eq_getElem?_getD, hr0]; rfl
          have eS := evW_succ (rs := rs) (c := c) hW
          have El : ∀ x ∈ evW rs c (W1.take i), x.2 < rs.length := evW_tl tl
          generalize hE : evW rs c (W1.take i) = E at El ⊢
          have ip : D.item (lpU pr) (.int 0) = some (.int (pr.1 : Nat)) := rfl
          have cp : ∀ G : GH, D.cur G (lpU pr) = lpU pr := fun _ => rfl
          simp only [dxs, dl, eS, hE, cp, ip]
          refine ⟨trivial, hs, ws, rs, pr.1, c, rs[pr.1], rfl, hr0, (at0 _ (List.getElem_mem hs_)).1, ?_⟩
          rw [← hm0]
          have rsrt : ∀ (G : GH) (Q : DQ), Q (.lst ((movesAt rs pr.1 c).map ctD)) G → rSortD [.lst ((movesAt rs pr.1 c).map ctD)] G Q := fun G Q h => by
            have eL : D.cur G (.lst ((movesAt rs pr.1 c).map ctD)) = .lst ((movesAt rs pr.1 c).map ctD) := rfl
            simp only [rSortD, eL, ct_okS51, ct_sort51 ord, true_and]
            exact h
          refine rsrt _ _ ?_
          simp only
          refine ⟨fun j S2 G2 => ∃ x7 x8, S2 = [some (wD hs ws rs), some (lsU L), some (.str (sgn c)), some (.rf f), some (.rf mt), some (.int (i : Nat)), some (lpU pr), x7, x8, none, none, none, none] ∧ G2 = GE (E ++ ((movesAt rs pr.1 c).take j).map fun m => ((i, m.c), m.t)), ⟨_, _, rfl, by simp⟩, fun _ _ _ _ => trivial, ?_, ?_⟩
          · rintro j S2 G2 dd ⟨x7, x8, rfl, rfl⟩ hd
            obtain ⟨m, hm, rfl⟩ := map_get hd
            have eE : E ++ ((movesAt rs pr.1 c).take (j + 1)).map (fun m => ((i, m.c), m.t)) = (E ++ ((movesAt rs pr.1 c).take j).map fun m => ((i, m.c), m.t)) ++ [((i, m.c), m.t)] := by
              rw [List.take_add_one, hm, List.map_append, List.append_assoc]; rfl
            dsimp only
            rw [eE]
            have E2l : ∀ x ∈ (E ++ ((movesAt rs pr.1 c).take j).map fun m => ((i, m.c), m.t)), x.2 < rs.length := fun x hx => by
              rcases List.mem_append.mp hx with hx | hx
              · exact El x hx
              · obtain ⟨m', hm', rfl⟩ := List.mem_map.mp hx
                exact moves_tl tl m' (List.mem_of_mem_take hm')
            generalize (E ++ ((movesAt rs pr.1 c).take j).map fun m => ((i, m.c), m.t)) = E2 at E2l ⊢
            have gf : GE E2 f = some (.lst (cD (cm E2))) := by show gput (gput G f _) mt _ f = _; rw [gput_ne fm, gput_same]
            have gm : GE E2 mt = some (.dK (mtD ((cm E2).map (·.2)))) := gput_same
            have cl := cml E2 E2l
            simp only [dxs, dl, ctD, gm, inn_dK, mtD_val]
            refine ⟨trivial, ?_⟩
            have cmm : (dedS [] E2).map (·.2) = (cm E2).map (·.2) := by show _ = ((dedS [] E2).map _).map _; rw [List.map_map]; rfl
            by_cases hin : m.t ∈ (cm E2).map (·.2)
            · have ec : cm (E2 ++ [((i, m.c), m.t)]) = cm E2 := by
                show (dedS [] (E2 ++ [((i, m.c), m.t)])).map _ = (dedS [] E2).map _
                rw [dedS_snoc, if_pos (by rw [cmm]; exact hin)]
              have eg : GE (E2 ++ [((i, m.c), m.t)]) = GE E2 := by
                show gput (gput G f (.lst (cD (cm (E2 ++ [((i, m.c), m.t)]))))) mt _ = _
                simp only [ec, GE]
              rw [decide_eq_true hin]
              simp only [Bool.not_true, Bool.false_eq_true, if_false]
              exact ⟨_, _, rfl, eg.symm⟩
            · have ec : cm (E2 ++ [((i, m.c), m.t)]) = cm E2 ++ [(i, m.t)] := by
                show (dedS [] (E2 ++ [((i, m.c), m.t)])).map _ = (dedS [] E2).map _ ++ _
                rw [dedS_snoc, if_neg (by rw [cmm]; exact hin), List.map_append]
                rfl
              have eg : GE (E2 ++ [((i, m.c), m.t)]) = gput (gput G f (.lst (cD (cm E2) ++ [.tup [.int (m.t : Nat), .int (i : Nat)]]))) mt (.dK (mtD ((cm E2).map (·.2) ++ [m.t]))) := by
                show gput (gput G f (.lst (cD (cm (E2 ++ [((i, m.c), m.t)]))))) mt (.dK (mtD ((cm (E2 ++ [((i, m.c), m.t)])).map (·.2)))) = _
                rw [ec, List.map_append]
                simp [cD]
              rw [decide_eq_false hin]
              have e3 : gput (GE E2) mt (.dK (mtD ((cm E2).map (·.2) ++ [m.t]))) = gput (gput G f (.lst (cD (cm E2)))) mt (.dK (mtD ((cm E2).map (·.2) ++ [m.t]))) := gput_gput
              have hf1 : ∀ A Cc, gput (gput G f (.lst A)) mt (.dK Cc) f = some (.lst A) := fun _ _ => by rw [gput_ne fm, gput_same]
              have hf2 : ∀ A A' Cc, gput (gput (gput G f (.lst A)) mt (.dK Cc)) f (.lst A') = gput (gput G f (.lst A')) mt (.dK Cc) := fun _ _ _ => by rw [gput_comm (Ne.symm fm), gput_gput]
              simp only [Bool.not_false, if_true, D.key, mtD_put hin, e3, dxs, dl, hf1, rAppendD, hf2]
              refine ⟨szl (by simp [mtD]; omega), rfl, sz (by decide), szl (by simp [cD]; omega), _, _, rfl, eg.symm⟩
          · rintro S2 G2 ⟨x7, x8, rfl, rfl⟩
            rw [List.length_map, List.take_length]
            exact ⟨_, _, _, _, rfl, rfl⟩
      · rintro S' G' ⟨x5, x6, x7, x8, rfl, rfl⟩
        have el : (List.mapIdx (fun i x => D.tup [D.int (i : Nat), x]) (L.map lpU)).length = W1.length := by simp [W1]
        rw [el, List.take_length]
        have gf : GE (evW rs c W1) f = some (.lst (cD (cameW rs c W1))) := by show gput (gput G f _) mt _ f = _; rw [gput_ne fm, gput_same]; rfl
        have sb : Sub G (GE (evW rs c W1)) := sub _ _
        have cl := cml (evW rs c W1) (evW_tl tl)
        generalize GE (evW rs c W1) = G1 at gf sb ⊢
        have cl : (cameW rs c W1).length ≤ 1000 := cl
        have M1 : ∀ x ∈ cameW rs c W1, x.1 < L.length := fun x hx => by
          unfold cameW at hx
          obtain ⟨y, hy, rfl⟩ := List.mem_map.mp hx
          have := evW_at y ((dedS_sub _ _).subset hy)
          simpa [W1] using this
        have ne2 : (cD (cameW rs c W1)).isEmpty = false := by
          cases h : cameW rs c W1 with
          | nil => exact absurd h ne
          | cons a l => rfl
        have eq_ : stepW rs c L = fdW (fk L) none (cameW rs c W1) := rfl
        rw [eq_] at q
        have ne' : 0 < (cameW rs c W1).length := List.length_pos_iff.mpr ne
        generalize cameW rs c W1 = M at gf cl M1 ne2 q ne'
        simp only [dxs, dl, rNil, gf, ne2, Bool.false_eq_true, if_false]
        refine ⟨Nat.zero_le _, ?_⟩
        show LcB (L.map lpU) dNoGuard _ _ _ _ _ _ _
        refine lc_mapA L lpU (fun p : Nat × Nat => .int (p.2 : Nat)) rfl (sz (by omega)) trivial (fun p hp => ⟨_, rfl, fun Q z => ?_⟩) ?_
        · have ip : D.item (lpU p) (.int 1) = some (.int (p.2 : Nat)) := rfl
          have cp : ∀ G : GH, D.cur G (lpU p) = lpU p := fun _ => rfl
          simp only [dxs, dl, dwipe, List.map_cons, List.map_nil, cp, ip]
          exact z
        have efk : L.map (fun p : Nat × Nat => D.int (p.2 : Nat)) = natsD (fk L) := by simp [natsD, fk]
        rw [efk]
        obtain ⟨m0, M', rfl⟩ : ∃ m0 M', M = m0 :: M' := by
          cases M with
          | nil => simp at ne'
          | cons a l => exact ⟨a, l, rfl⟩
        have at_ : ∀ k x, (m0 :: M')[k]? = some x → (D.lst (cD (m0 :: M'))).item (.int (k : Nat)) = some (.tup [.int (x.2 : Nat), .int (x.1 : Nat)]) := fun k x h => atI_nat (by show (List.map _ (m0 :: M'))[k]? = _; rw [List.getElem?_map, h]; rfl)
        have a0 : (D.lst (cD (m0 :: M'))).item (.int 0) = some (.tup [.int (m0.2 : Nat), .int (m0.1 : Nat)]) := at_ 0 m0 rfl
        have i0 : ∀ a b : D, D.item (.tup [a, b]) (.int 0) = some a := fun _ _ => rfl
        have i1 : ∀ a b : D, D.item (.tup [a, b]) (.int 1) = some b := fun _ _ => rfl
        simp only [gf, a0, dx3, i0]
        refine ⟨sz (by decide), sz (by decide), fun p hp => ?_⟩
        have fp : f ≠ p := fun e => by rw [← e, gf] at hp; cases hp
        have gf2 : ∀ A, gput G1 p (.lst A) f = some (.lst (cD (m0 :: M'))) := fun A => by rw [gput_ne fp]; exact gf
        have lnF : ∀ A (Q : DQ), rLenD [.rf f] (gput G1 p (.lst A)) Q = Q (.int ((m0 :: M').length : Nat)) (gput G1 p (.lst A)) := fun A Q => by
          have hc : D.cur (gput G1 p (.lst A)) (.rf f) = .lst (cD (m0 :: M')) := cur_l (gf2 A)
          simp only [rLenD, hc, D.len]
          rw [show (cD (m0 :: M')).length = (m0 :: M').length from List.length_map _]
        simp only [lnF]
        refine ⟨by omega, ?_⟩
        refine ⟨fun j S' G' => ∃ x11, S' = [some (wD hs ws rs), some (lsU L), some (.str (sgn c)), some (.rf f), some (.rf mt), x5, x6, x7, x8, some (.lst (natsD (fk L))), some (.rf p), x11, none] ∧ G' = gput G1 p (.lst ((fdW (fk L) none ((m0 :: M').take (1 + j))).map lpD)), ⟨none, rfl, rfl⟩, fun _ _ _ _ => trivial, ?_, ?_⟩
        · rintro j S' G' dd ⟨x11, rfl, rfl⟩ hd
          obtain ⟨j', hj', rfl⟩ := map_get hd
          obtain ⟨hjl, b⟩ := List.getElem?_eq_some_iff.mp hj'
          rw [List.getElem_range] at b
          subst b
          have hj : j < M'.length := by
            rw [List.length_range] at hjl
            simpa using hjl
          have e1 : (1 : Int) + (j : Nat) = ((1 + j : Nat) : Int) := by omega
          have e2 : ((1 + j : Nat) : Int) - 1 = ((j : Nat) : Int) := by omega
          obtain ⟨y, hy⟩ : ∃ y, (m0 :: M')[1 + j]? = some y := ⟨(m0 :: M')[1 + j]'(by simp; omega), List.getElem?_eq_getElem _⟩
          obtain ⟨z, hz⟩ : ∃ z, (m0 :: M')[j]? = some z := ⟨(m0 :: M')[j]'(by simp; omega), List.getElem?_eq_getElem _⟩
          have a1 := at_ _ y hy
          have a2 := at_ _ z hz
          have e3 : ((z.1 : Nat) : Int) + 1 = ((z.1 + 1 : Nat) : Int) := by omega
          have e4 : ((y.1 : Nat) : Int) + 1 = ((y.1 + 1 : Nat) : Int) := by omega
          have hp1 : ∀ A, gput G1 p (.lst A) p = some (.lst A) := fun _ => gput_same
          have tk : (m0 :: M').take (1 + (j + 1)) = (m0 :: M').take (1 + j) ++ [y] := by rw [← Nat.add_assoc, List.take_add_one, hy]; rfl
          have lp_ : lastP none ((m0 :: M').take (1 + j)) = some z.1 := by
            rw [Nat.add_comm 1 j, List.take_add_one, hz]
            simp [lastP]
          have fl : (fdW (fk L) none ((m0 :: M').take (1 + j))).length ≤ 1000 := by rw [fdW_len, List.length_take]; omega
          have cutN : ∀ (a b : Nat), DL.cutD (natsD (fk L)) (some (a : Int)) (some (b : Int)) = natsD (((fk L).take b).drop a) := fun a b => by
            rw [cut_mid]
            simp [natsD, List.map_take, List.map_drop]
          have cl0 : ∀ (G : GH) (i : Int), D.cur G (.int i) = .int i := fun _ _ => rfl
          have fkl : (fk L).length ≤ 1000 := by rw [fk, List.length_map]; exact l1
          have nl : ∀ l : List Nat, (natsD l).length = l.length := fun l => by simp [natsD]
          simp only [dxs, dl, dx3, e1, e2, gf2, a1, a2, i0, i1, rAddD, e3, e4, cutN]
          refine ⟨rfl, trivial, sz (by decide), sz (by rw [nl, List.length_drop, List.length_take]; omega), best_zeroR ?_⟩
          have e5 : (1 : Int) + ((maxL (((fk L).take (y.1 + 1)).drop (z.1 + 1)) : Nat) : Int) = ((1 + maxL (((fk L).take (y.1 + 1)).drop (z.1 + 1)) : Nat) : Int) := by omega
          simp only [cl0, e5, rAppendD, hp1, gput_gput]
          refine ⟨sz (by decide), szl (by rw [List.length_map]; omega), _, rfl, ?_⟩
          rw [tk, fdW_snoc, List.map_append, lp_]
          rfl
        · rintro S' G' ⟨x11, rfl, rfl⟩
          have el : (List.map (fun i => D.int (1 + (i : Nat))) (List.range (((m0 :: M').length : Nat) - 1 : Int).toNat)).length = M'.length := by simp
          rw [el, List.take_of_length_le (by simp; omega)]
          simp only [dxs, dl]
          have gp : gput G1 p (.lst ((fdW (fk L) none (m0 :: M')).map lpD)) p = some (.lst ((fdW (fk L) none (m0 :: M')).map lpD)) := gput_same
          have tf : ∀ Q : DQ, rTupleD [D.rf p] (gput G1 p (.lst ((fdW (fk L) none (m0 :: M')).map lpD))) Q = Q (lsD (fdW (fk L) none (m0 :: M'))) (gput G1 p (.lst ((fdW (fk L) none (m0 :: M')).map lpD))) := fun Q => by
            show (match D.cur (gput G1 p (.lst ((fdW (fk L) none (m0 :: M')).map lpD))) (.rf p) with | .tup xs => Q (.tup xs) _ | .lst xs => Q (.tup xs) _ | _ => False) = _
            rw [cur_l gp]; rfl
          have e4 : ((m0.1 : Nat) : Int) + 1 = ((m0.1 + 1 : Nat) : Int) := by omega
          have cutN : ∀ (b : Nat), DL.cutD (natsD (fk L)) none (some (b : Int)) = natsD ((fk L).take b) := fun b => by
            rw [cut_take]
            simp [natsD, List.map_take]
          have cl0 : ∀ (G : GH) (l : List Nat), D.cur G (.lst (natsD l)) = .lst (natsD l) := fun _ _ => rfl
          have cT : ∀ (G : GH) (a b : D), D.cur G (.tup [a, b]) = .tup [a, b] := fun _ _ _ => rfl
          have cI : ∀ (G : GH) (i : Int), D.cur G (.int i) = .int i := fun _ _ => rfl
          have cL : ∀ (G : GH) (l : List D), D.cur G (.lst l) = .lst l := fun _ _ => rfl
          simp only [tf, gf2, a0, dx3, i1, rAddD, rBestD]
          simp only [cT, i1, cI, cL]
          simp only [e4]
          simp only [cutN, intsD_nats]
          have hm0 : m0.1 < L.length := M1 m0 (by simp)
          refine ⟨by rw [List.length_map, List.length_take, fk, List.length_map]; omega, fun m hm hle => ?_⟩
          show LcB (cD (m0 :: M')) _ _ _ _ _ _ _ _
          refine lc_mapA (m0 :: M') (fun x : Nat × Nat => D.tup [.int (x.2 : Nat), .int (x.1 : Nat)]) (fun x : Nat × Nat => .int (x.1 : Nat)) rfl (sz (by omega)) (gf2 _) (fun x hx => ⟨_, rfl, fun Q z => ?_⟩) ?_
          · simp only [dxs, dl, dwipe, List.map_cons, List.map_nil]
            exact z
          · exact ⟨sz (by decide), _, sb.trans (sub_new hp rfl), q _ _⟩
end
end Pace
end
section
set_option Elab.async false
set_option linter.all false
set_option maxRecDepth 100000
set_option maxHeartbeats 4000000
namespace Pace
open PySem PySem.Spec PyProof.Rows L2 DL
section
variable {P : Program} {w : World} {K : PySem.W.Frag} {mg : Str → Option Value} {base : Heap} {C : Addr}
def spLList51 : SpD := fun ds G Q => ∃ (hs ws : List Nat) (rs : List (List Mv)) (cs : List Nat), ds = [wD hs ws rs, .str (strOf cs)] ∧ rs.length ≤ 1000 ∧ 0 < rs.length ∧ (∀ r ∈ rs, r.length ≤ 1000 ∧ ∀ m ∈ r, m.t < rs.length) ∧ Ordered rs ∧ caps rs 0 cs ≠ [] ∧ cs.length ≤ 1000 ∧ Q (lsD (listW rs cs)) G
abbrev N__law_list : List Str := ["_law_w", "_law_page", "_law_found", "_law_letter"]
theorem sc__law_list : FnScope N__law_list ["_law_w", "_law_page"] (defScope s__law_list) := ⟨rfl, rfl, rfl, by decide +kernel, rfl, by decide +kernel, by decide +kernel⟩
theorem c__law_list (T : Txt K mg C) (d : Def K mg "_law_list" s__law_list) (C__law_step : Cal P w K mg base "_law_step" 2 ["_law_w", "_law_one_list", "_law_letter"] (spLStep51)) : Cal P w K mg base "_law_list" 3 ["_law_w", "_law_page"] (spLList51) := by
  refine cal_mk (N := N__law_list) d sc__law_list (fun ds G Q h => ?_) (fun _ _ _ _ _ _ us hl => match us, hl with | [_, _], _ => rfl) (fun f cdv A outer s H E hg hr => ?_)
  · obtain ⟨hs, ws, rs, cs, rfl, _⟩ := h
    rfl
  · have hu := hu100 hr
    have nd := sc__law_list.nd
    have hA := deeper_guards (env := envOfC "_law_list" (defScope s__law_list) s.heap.objs.size f cdv) hg
    refine ⟨_, (dps_cons (dp_asg (de_tup (da_cons (de_tup (da_cons de_int (da_cons de_int da_nil))) da_nil)) (dg_name 2 nd))
  (dps_cons (dp_for PassesOwn.never rfl (di_str (de_var 1)) (dg_name 3 nd)
  (dps_one (dp_asg (de_ix hu (de_cal C__law_step hA (hr.mono (by decide)) (da_cons (de_var 0) (da_cons (de_var 2) (da_cons (de_var 3) da_nil)))) de_int) (dg_name 2 nd))))
  (dps_one (dp_ret (de_var 2))))), fun ds G Q h => ?_⟩
    obtain ⟨hs, ws, rs, cs, rfl, r1, r0, at0, ord, ne, cl, q⟩ := h
    rw [show dstart N__law_list [wD hs ws rs, .str (strOf cs)] = [some (wD hs ws rs), some (.str (strOf cs)), none, none] from rfl]
    simp only [dxs, dl]
    have tl : ∀ r ∈ rs, ∀ m ∈ r, m.t < rs.length := fun r hr => (at0 r hr).2
    have lsl : ∀ p : List Nat, (listW rs p).length ≤ 1000 ∧ ∀ x ∈ listW rs p, x.1 < rs.length := fun p => by
      have h1 : ∀ k ∈ (firstsW rs p).map (·.2), k < rs.length := fun k hk => by
        obtain ⟨x, hx, rfl⟩ := List.mem_map.mp hk
        have hc : x.2 ∈ (caps rs 0 p).map (·.2) := List.mem_map.mpr ⟨x, (dedS_sub _ _).subset hx, rfl⟩
        rw [caps_run] at hc
        exact run_lt tl (by simpa using r0) _ hc
      constructor
      · have := nodup_lt_len (dedS_nodup (caps rs 0 p) []) h1
        rw [List.length_map] at this
        unfold listW
        rw [toLs_len]
        show (dedS [] _).length ≤ _
        omega
      · intro x hx
        have : x.1 ∈ (listW rs p).map (·.1) := List.mem_map.mpr ⟨x, hx, rfl⟩
        unfold listW at this
        rw [toLs_fst] at this
        exact h1 _ this
    have cne : ∀ i, caps rs 0 (cs.take i) ≠ [] := fun i h => ne (by
      have e : cs = cs.take i ++ cs.drop i := (List.take_append_drop i cs).symm
      rw [e]
      unfold caps at h ⊢
      rw [List.foldl_append, h]
      have : ∀ l : List Nat, l.foldl (capsStep rs) [] = [] := fun l => by
        induction l with
        | nil => rfl
        | cons a l ih => exact ih
      exact this _)
    refine ⟨sz (by decide), sz (by decide), ?_⟩
    refine ⟨fun i S' G' => ∃ x3, S' = [some (wD hs ws rs), some (.str (strOf cs)), some (lsD (listW rs (cs.take i))), x3] ∧ G = G', ⟨_, rfl, rfl⟩, fun _ _ _ _ => trivial, ?_, ?_⟩
    · rintro i S' _ dd ⟨x3, rfl, rfl⟩ hdd
      obtain ⟨c, hc, rfl⟩ := signs_get hdd
      have tk : cs.take (i + 1) = cs.take i ++ [c] := by rw [List.take_add_one, hc]; rfl
      simp only [dxs, dl]
      refine ⟨hs, ws, rs, c, listW rs (cs.take i), _, rfl, .inl rfl, (lsl _).1, (lsl _).2, r1, at0, ord, fun h => cne (i + 1) ?_, fun x y => ?_⟩
      · have h2 : firstsW rs (cs.take (i + 1)) = [] := by
          have e := congrArg List.length (listW_snoc ord (cs.take i) c)
          unfold stepW at e
          rw [fdW_len, h] at e
          unfold listW at e
          rw [toLs_len, ← tk] at e
          exact List.length_eq_zero_iff.mp e.symm
        cases hcp : caps rs 0 (cs.take (i + 1)) with
        | nil => rfl
        | cons a l =>
          unfold firstsW at h2
          rw [hcp, dedS_cons, if_neg (by simp)] at h2
          cases h2
      · have it : ∀ a b c : D, D.item (.tup [a, b, c]) (.int 0) = some a := fun _ _ _ => rfl
        simp only [dxs, dl, it, listW_snoc ord, ← tk]
        exact ⟨_, rfl, trivial⟩
    · rintro S' _ ⟨x3, rfl, rfl⟩
      rw [signs_len, List.take_length]
      simp only [dxs, dl]
      exact ⟨_, Sub.refl _, q⟩
end
end Pace
end
section
set_option Elab.async false
set_option linter.all false
set_option maxRecDepth 100000
set_option maxHeartbeats 4000000
namespace Pace
open PySem PySem.Spec PyProof.Rows L2 DL
section
variable {P : Program} {w : World} {K : PySem.W.Frag} {mg : Str → Option Value} {base : Heap} {C : Addr}
theorem str_at51 {q : List Nat} {i c : Nat} (hq : q.length ≤ 1000) (hc : q[i]? = some c) : D.item (.str (strOf q)) (.int (i : Int)) = some (.str (sgn c)) := by
  have lq : (strOf q).length ≤ sizeLine := by rw [strOf_len]; exact sz (by omega)
  show (if (strOf q).length ≤ sizeLine then _ else _) = _
  rw [if_pos lq]
  have : atI (strOf q).cps.toList (i : Int) = some c := atI_nat hc
  rw [this]
  rfl
def spByCap51 : SpD := fun ds G Q => ∃ (hs ws : List Nat) (rs : List (List Mv)) (cs : List Nat), ds = [wD hs ws rs, .str (strOf cs)] ∧ rs.length ≤ 1000 ∧ 0 < rs.length ∧ (∀ r ∈ rs, r.length ≤ 1000 ∧ ∀ m ∈ r, m.t < rs.length) ∧ Ordered rs ∧ caps rs 0 cs ≠ [] ∧ cs.length ≤ 1000 ∧ (∀ i, (caps rs 0 (cs.take i)).length ≤ 4000) ∧ Q (lsD (listW rs cs)) G
abbrev N__law_by_captions : List Str := ["_law_w", "_law_page", "_law_found", "_law_letter", "_law_longer", "_law_text_now", "_law_c", "_law_t", "_law_firsts", "_law_order", "_law_pairs_now", "_law_k", "_law_near", "_law_far", "_law_size"]
theorem sc__law_by_captions : FnScope N__law_by_captions ["_law_w", "_law_page"] (defScope s__law_by_captions) := ⟨rfl, rfl, rfl, by decide +kernel, rfl, by decide +kernel, by decide +kernel⟩
theorem c__law_by_captions (T : Txt K mg C) (d : Def K mg "_law_by_captions" s__law_by_captions) (C__law_moves : Cal P w K mg base "_law_moves" 1 ["_law_w", "_law_state", "_law_letter"] (spLMoves)) : Cal P w K mg base "_law_by_captions" 3 ["_law_w", "_law_page"] (spByCap51) := by
  refine cal_mk (N := N__law_by_captions) d sc__law_by_captions (fun ds G Q h => ?_) (fun _ _ _ _ _ _ us hl => match us, hl with | [_, _], _ => rfl) (fun f cdv A outer s H E hg hr => ?_)
  · obtain ⟨hs, ws, rs, cs, rfl, _⟩ := h
    rfl
  · have hu := hu100 hr
    have nd := sc__law_by_captions.nd
    have hA := deeper_guards (env := envOfC "_law_by_captions" (defScope s__law_by_captions) s.heap.objs.size f cdv) hg
    refine ⟨_, (dps_cons (dp_asg (de_dispM (dpp_cons de_str de_int dpp_nil)) (dg_name 2 nd))
  (dps_cons (dp_for PassesOwn.never rfl (di_str (de_var 1)) (dg_name 3 nd)
  (dps_cons (dp_asg de_newK (dg_name 4 nd))
  (dps_cons (dp_lockK (dp_for PassesOwn.never rfl (di_keysK (de_var 2)) (dg_name 5 nd)
  (dps_one (dp_expr (de_bm PySem.F.plainAttrs_dict PySem.F.slot_dict_update PySem.F.type_dict_update md_updK (de_var 4) (da_cons (de_callTy (cd_dictK rfl) rfl T.f_dict (by decide +kernel) (da_cons (de_lc (own := [("_law_c", 6), ("_law_t", 7)]) (p := (.tp [6, 7])) rfl nd (di_list (de_cal C__law_moves hA (hr.mono (by decide)) (da_cons (de_var 0) (da_cons (de_ixK hu (de_var 2) (de_var 5)) (da_cons (de_var 3) da_nil))))) (blkOk_by (by show blkC N__law_by_captions (defScope s__law_by_captions) _ _ = true; decide +kernel)) (by decide) (fun _ _ _ _ _ => pg_tup rfl (pgs_cons (pg_name (i := 6) nd rfl (Or.inl rfl)) (pgs_cons (pg_name (i := 7) nd rfl (Or.inl rfl)) pgs_nil))) (fun _ _ _ _ _ => dts_nil) (fun _ _ _ _ _ => (de_tup (da_cons (de_op od_add (de_var 5) (de_var 6)) (da_cons (de_var 7) da_nil))))) da_nil)) da_nil))))))
  (dps_one (dp_asg (de_var 4) (dg_name 2 nd))))))
  (dps_cons (dp_asg de_newK (dg_name 8 nd))
  (dps_cons (dp_for PassesOwn.never rfl (di_list (de_sortYR hu rfl rfl T.f_sorted (by decide +kernel) (da_cons (de_var 2) da_nil))) (dg_name 5 nd)
  (dps_one (dp_asg (de_var 5) (dg_sub hu (de_var 8) (de_ix hu (de_var 2) (de_var 5))))))
  (dps_cons (dp_asg (de_callB (cd_sorted hu rfl) rfl T.f_sorted (by decide +kernel) (da_cons (de_lockK (de_lc (own := [("_law_t", 7)]) (p := (.nm 7)) rfl nd (di_keysK (de_var 8)) (blkOk_by (by show blkC N__law_by_captions (defScope s__law_by_captions) _ _ = true; decide +kernel)) (by decide) (fun _ _ _ _ _ => pg_name (i := 7) nd rfl (Or.inl rfl)) (fun _ _ _ _ _ => dts_nil) (fun _ _ _ _ _ => (de_tup (da_cons (de_ixK hu (de_var 8) (de_var 7)) (da_cons (de_var 7) da_nil)))))) da_nil)) (dg_name 9 nd))
  (dps_cons (dp_asg (de_lstM (da_cons (de_tup (da_cons (de_ix hu (de_ix hu (de_var 9) de_int) de_int) (da_cons de_int da_nil))) da_nil)) (dg_name 10 nd))
  (dps_cons (dp_for PassesOwn.never rfl (di_range2 rfl T.f_range (da_cons de_int (da_cons (de_callB cd_len rfl T.f_len (by decide +kernel) (da_cons (de_var 9) da_nil)) da_nil))) (dg_name 11 nd)
  (dps_cons (dp_par3 (i := 12) (j := 13) (l := 14) rfl nd (ha := (da_cons (de_ix hu (de_ix hu (de_var 9) (de_op od_sub (de_var 11) de_int)) de_int) (da_cons (de_ix hu (de_ix hu (de_var 9) (de_var 11)) de_int) (da_cons de_int da_nil)))))
  (dps_cons (dp_while PassesOwn.never (dt_cmp (od_eq hu) (de_ix hu (de_var 12) (de_var 14)) (de_ix hu (de_var 13) (de_var 14)) (nomark _))
  (dps_one (dp_asg (de_op od_add (de_var 14) de_int) (dg_name 14 nd))))
  (dps_one (dp_expr (de_bm PySem.F.plainAttrs_list PySem.F.slot_list_append PySem.F.type_list_append md_append (de_var 10) (da_cons (de_tup (da_cons (de_ix hu (de_ix hu (de_var 9) (de_var 11)) de_int) (da_cons (de_op od_sub (de_callB cd_len rfl T.f_len (by decide +kernel) (da_cons (de_var 1) da_nil)) (de_var 14)) da_nil))) da_nil)))))))
  (dps_one (dp_ret (de_callTy cd_tuple rfl T.f_tuple (by decide +kernel) (da_cons (de_var 10) da_nil))))))))))), fun ds G Q h => ?_⟩
    obtain ⟨hs, ws, rs, cs, rfl, r1, r0, at0, ord, ne, cl, cl2, q⟩ := h
    rw [show dstart N__law_by_captions [wD hs ws rs, .str (strOf cs)] = [some (wD hs ws rs), some (.str (strOf cs)), none, none, none, none, none, none, none, none, none, none, none, none, none] from rfl]
    have eS : ∀ (G : GH) (x : Str), D.cur G (.str x) = .str x := fun _ _ => rfl
    have tl : ∀ r ∈ rs, ∀ m ∈ r, m.t < rs.length := fun r hr => (at0 r hr).2
    have clt : ∀ i, ∀ x ∈ caps rs 0 (cs.take i), x.2 < rs.length := fun i x hx => by
      have hc : x.2 ∈ (caps rs 0 (cs.take i)).map (·.2) := List.mem_map.mpr ⟨x, hx, rfl⟩
      rw [caps_run] at hc
      exact run_lt tl (by simpa using r0) _ hc
    have k0 : keyed [(D.str (Str.ofString ""), D.int 0)] = some (capK (caps rs 0 (cs.take 0))) := rfl
    have mg : mergeD [] (capK (caps rs 0 (cs.take 0))) = capK (caps rs 0 (cs.take 0)) := rfl
    simp only [dxs, dl, k0, mg]
    refine ⟨(by decide : 1 ≤ 15), fun p0 hp0 => ?_⟩
    refine ⟨fun i S' G' => ∃ (q0 : Addr) (x3 x4 x5 : Option D), S' = [some (wD hs ws rs), some (.str (strOf cs)), some (.rf q0), x3, x4, x5, none, none, none, none, none, none, none, none, none] ∧ Sub G G' ∧ G' q0 = some (.dK (capK (caps rs 0 (cs.take i)))),
      ⟨p0, none, none, none, rfl, sub_new hp0 rfl, gput_same⟩, fun _ _ _ _ => trivial, ?_, ?_⟩
    · rintro i S' G' dd ⟨q0, x3, x4, x5, rfl, sb, gq⟩ hdd
      obtain ⟨c, hc, rfl⟩ := signs_get hdd
      have tk : cs.take (i + 1) = cs.take i ++ [c] := by rw [List.take_add_one, hc]; rfl
      have nxt : caps rs 0 (cs.take (i + 1)) = (caps rs 0 (cs.take i)).flatMap (capsOn rs c) := by rw [tk, caps_snoc]; rfl
      have od := caps_ordered ord (cs.take (i + 1)) 0
      have od0 := caps_ordered ord (cs.take i) 0
      have c2 := cl2 (i + 1)
      have c1 := cl2 i
      have cl0 := clt i
      have ln0 := caps_lenS (rs := rs) 0 (cs.take i)
      have hl2 : (cs.take i).length ≤ 1000 := by rw [List.length_take]; omega
      simp only [dxs, dl, nxt]
      rw [nxt] at od c2
      clear nxt
      generalize caps rs 0 (cs.take i) = A at gq od c2 c1 od0 cl0 ln0 ⊢
      intro b hb
      have qb : q0 ≠ b := fun e => by rw [← e, gq] at hb; cases hb
      show dLockK _ _ _ _
      refine ⟨q0, capK A, by rw [gput_ne qb]; exact gq, fun o kvs => ?_⟩
      have gX : ∀ L, gput (gput G' b (.dK L)) q0 (.lkK o kvs (capK A)) q0 = some (.lkK o kvs (capK A)) := fun L => gput_same
      have gB : ∀ L, gput (gput G' b (.dK L)) q0 (.lkK o kvs (capK A)) b = some (.dK L) := fun L => by rw [gput_ne (Ne.symm qb), gput_same]
      have gW : ∀ L L', gput (gput (gput G' b (.dK L)) q0 (.lkK o kvs (capK A))) b (.dK L') = gput (gput G' b (.dK L')) q0 (.lkK o kvs (capK A)) := fun L L' => gput_under (Ne.symm qb)
      simp only [diKeysK, dxs, dl, gX]
      refine ⟨fun j S' G'' => ∃ (x5 : Option D), S' = [some (wD hs ws rs), some (.str (strOf cs)), some (.rf q0), some (.str (sgn c)), some (.rf b), x5, none, none, none, none, none, none, none, none, none] ∧ G'' = gput (gput G' b (.dK (capK ((A.take j).flatMap (capsOn rs c))))) q0 (.lkK o kvs (capK A)),
        ⟨_, rfl, rfl⟩, fun _ _ _ ⟨_, _, h⟩ => by rw [h]; exact gX _, ?_, ?_⟩
      · rintro j S' G'' d ⟨x5, rfl, rfl⟩ hd
        obtain ⟨x, hj, rfl⟩ : ∃ x, A[j]? = some x ∧ d = .str (strOf x.1) := by
          unfold capK at hd
          rw [List.map_map, List.getElem?_map] at hd
          cases e : A[j]? with
          | none => rw [e] at hd; cases hd
          | some y => rw [e] at hd; cases hd; exact ⟨y, rfl, rfl⟩
        have hx := List.mem_of_getElem? hj
        have hs_ := cl0 x hx
        have hr0 : rs[x.2]? = some (rs[x.2]) := List.getElem?_eq_getElem hs_
        have hm0 : movesAt rs x.2 c = (rs[x.2]).filter fun m => m.h == c := by unfold movesAt; rw [List.getD_eq_getElem?_getD, hr0]; rfl
        have hv := capK_val od0 hx
        have ik : (D.str (strOf x.1)).key = some (.inr (strOf x.1)) := rfl
        have atk : (A.take (j + 1)).flatMap (capsOn rs c) = (A.take j).flatMap (capsOn rs c) ++ capsOn rs c x := by
          rw [List.take_add_one, hj, List.flatMap_append]; simp
        simp only [dxs, dl, rItemK, gX, gB, ik, hv]
        refine ⟨rfl, hs, ws, rs, x.2, c, rs[x.2], rfl, hr0, (at0 _ (List.getElem_mem hs_)).1, ?_⟩
        rw [← hm0]
        have ml : (movesAt rs x.2 c).length ≤ 1000 := by rw [hm0]; exact Nat.le_trans (List.length_filter_le _ _) (at0 _ (List.getElem_mem hs_)).1
        show LcB ((movesAt rs x.2 c).map ctD) dNoGuard _ _ _ _ _ _ _
        have hxl : x.1.length ≤ 1000 := by rw [ln0 x hx]; exact hl2
        refine lc_mapA (movesAt rs x.2 c) ctD (fun m => capD (x.1 ++ [m.c], m.t)) rfl (sz (by omega)) trivial (fun m _ => ⟨_, rfl, fun Q z => ?_⟩) ?_
        · simp only [dxs, dl, dwipe, List.map_cons, List.map_nil, ctD, rAddD]
          rw [strOf_sgn]
          exact ⟨sz (by rw [strOf_len]; show _ + 1 ≤ _; omega), sz (by decide), z⟩
        have em : (movesAt rs x.2 c).map (fun m => capD (x.1 ++ [m.c], m.t)) = (capsOn rs c x).map capD := by unfold capsOn; rw [List.map_map]; rfl
        have ecL : ∀ (G : GH) (xs : List D), D.cur G (.lst xs) = .lst xs := fun _ _ => rfl
        rw [em]
        have pre : ((A.take j).flatMap (capsOn rs c) ++ capsOn rs c x).Pairwise fun x y => x.1 < y.1 := by
          rw [← atk]
          refine od.sublist ?_
          conv => rhs; rw [← List.take_append_drop (j + 1) A, List.flatMap_append]
          exact List.sublist_append_left _ _
        have ml2 : ((A.take j).flatMap (capsOn rs c)).length + (capsOn rs c x).length ≤ 4000 := by
          rw [← List.length_append, ← atk]
          refine Nat.le_trans ?_ c2
          conv => rhs; rw [← List.take_append_drop (j + 1) A, List.flatMap_append, List.length_append]
          omega
        have e1 : mergeD [] (capK (capsOn rs c x)) = capK (capsOn rs c x) := merge_new (capK (capsOn rs c x)) [] (by rw [List.nil_append]; exact capK_nodup (List.pairwise_append.mp pre).2.1)
        have e2 : mergeN (capK ((A.take j).flatMap (capsOn rs c))) (capK (capsOn rs c x)) = capK ((A.take (j + 1)).flatMap (capsOn rs c)) := by
          refine (merge_new (capK (capsOn rs c x)) (capK ((A.take j).flatMap (capsOn rs c))) ?_).trans ?_
          · have := capK_nodup pre
            unfold capK at this ⊢
            rw [← List.map_append]; exact this
          · rw [atk]; unfold capK; rw [List.map_append]
        have lk : ∀ l, (capK l).length = l.length := fun l => by unfold capK; rw [List.length_map]
        simp only [rDictK, ecL, prsK_cap, e1, rUpdK, gB, lk, gW, e2]
        exact ⟨sz (by omega), _, rfl, trivial⟩
      · rintro S' G'' ⟨x5, rfl, rfl⟩
        have el : ((capK A).map fun kv => keyD kv.1).length = A.length := by unfold capK; simp
        rw [el, List.take_length]
        refine ⟨gX _, ?_⟩
        have back : ∀ X, gput (gput (gput G' b X) q0 (.lkK o kvs (capK A))) q0 (.dK (capK A)) = gput G' b X := fun X => by
          rw [gput_gput]
          exact gput_self (by rw [gput_ne qb]; exact gq)
        simp only [dxs, dl, back]
        exact ⟨b, _, _, _, rfl, sb.trans (sub_new hb rfl), gput_same⟩
    · rintro S' G' ⟨q0, x3, x4, x5, rfl, sb, gq⟩
      rw [signs_len, List.take_length] at gq
      have od := caps_ordered ord cs 0
      have c2 : (caps rs 0 cs).length ≤ 4000 := by have := cl2 cs.length; rwa [List.take_length] at this
      have cl0 : ∀ x ∈ caps rs 0 cs, x.2 < rs.length := by have := clt cs.length; rwa [List.take_length] at this
      have ln0 := caps_lenS (rs := rs) 0 cs
      have lw : listW rs cs = toLs cs.length none (dedS [] (caps rs 0 cs)) := rfl
      rw [lw] at q
      clear lw
      generalize caps rs 0 cs = A at gq od c2 cl0 ln0 q ne
      simp only [dxs, dl]
      intro b hb
      have qb : q0 ≠ b := fun e => by rw [← e, gq] at hb; cases hb
      have gQ : ∀ L, gput G' b (.dK L) q0 = some (.dK (capK A)) := fun L => by rw [gput_ne qb]; exact gq
      have gB : ∀ L, gput G' b (.dK L) b = some (.dK L) := fun L => gput_same
      have cQ : ∀ L, D.cur (gput G' b (.dK L)) (.rf q0) = .dK (capK A) := fun L => by simp only [D.cur, gQ]
      have ed : (MO.dK []) = .dK (fsD (fsR (A.drop (A.length - 0)))) := by rw [Nat.sub_zero, List.drop_length]; rfl
      rw [ed]
      simp only [rSortYR, cQ, strKeys_capK, rev_sorted od, List.length_map, List.map_map]
      refine ⟨by omega, ?_⟩
      refine ⟨fun j S' G'' => ∃ x5, S' = [some (wD hs ws rs), some (.str (strOf cs)), some (.rf q0), x3, x4, x5, none, none, some (.rf b), none, none, none, none, none, none] ∧ G'' = gput G' b (.dK (fsD (fsR (A.drop (A.length - j))))),
        ⟨_, rfl, rfl⟩, fun _ _ _ _ => trivial, ?_, ?_⟩
      · rintro j S' G'' d ⟨x5, rfl, rfl⟩ hd
        obtain ⟨x, hj, rfl⟩ : ∃ x, A.reverse[j]? = some x ∧ d = .str (strOf x.1) := by
          rw [List.getElem?_map] at hd
          cases e : A.reverse[j]? with
          | none => rw [e] at hd; cases hd
          | some y => rw [e] at hd; cases hd; exact ⟨y, rfl, rfl⟩
        have hjl : j < A.length := by
          have := (List.getElem?_eq_some_iff.mp hj).1
          rwa [List.length_reverse] at this
        have hx' : A[A.length - (j + 1)]? = some x := by
          rw [List.getElem?_reverse hjl] at hj
          rw [← hj]
          congr 1
          omega
        have hx := List.mem_of_getElem? hx'
        have dr : A.drop (A.length - (j + 1)) = x :: A.drop (A.length - j) := by
          obtain ⟨h1, h2⟩ := List.getElem?_eq_some_iff.mp hx'
          rw [List.drop_eq_getElem_cons h1, h2]
          congr 2
          omega
        have it : D.item (.dK (capK A)) (.str (strOf x.1)) = some (.int (x.2 : Nat)) := by
          rw [item_dKs]; exact capK_val od hx
        have ik : (D.int (x.2 : Nat)).key = some (.inl (x.2 : Int)) := rfl
        have fl : (fsD (fsR (A.drop (A.length - j)))).length ≤ 1000 := by
          have h1 := nodup_lt_len (fsR_nodup (A.drop (A.length - j))) (n := rs.length) fun k hk => by
            obtain ⟨p, hp, rfl⟩ := List.mem_map.mp hk
            exact cl0 _ (List.mem_of_mem_drop ((dedS_sub _ _).subset ((fsR_mem _ p.1 p.2).mp hp)))
          rw [List.length_map] at h1
          unfold fsD
          rw [List.length_map]
          omega
        simp only [dxs, dl, dx3, dr, cQ, it, gB, ik, fsD_put, gput_gput]
        exact ⟨szl (by omega), _, rfl, rfl⟩
      · rintro S' G'' ⟨x5, rfl, rfl⟩
        have el : (List.map (D.str ∘ fun x => strOf x.1) A.reverse).length = A.length := by simp
        rw [el, Nat.sub_self, List.drop_zero]
        have fl : (fsR A).length ≤ 1000 := by
          have h1 := nodup_lt_len (fsR_nodup A) (n := rs.length) fun k hk => by
            obtain ⟨p, hp, rfl⟩ := List.mem_map.mp hk
            exact cl0 _ ((dedS_sub _ _).subset ((fsR_mem _ p.1 p.2).mp hp))
          rw [List.length_map] at h1
          omega
        show dLockEK _ _ _ _
        refine ⟨b, fsD (fsR A), gB _, fun o kvs => ?_⟩
        rw [gput_gput]
        have gL : gput G' b (.lkK o kvs (fsD (fsR A))) b = some (.lkK o kvs (fsD (fsR A))) := gput_same
        simp only [diKeysK, dxs, dl, gL]
        show LcB ((fsD (fsR A)).map fun kv => keyD kv.1) _ _ _ _ _ _ _ _
        refine lc_mapA (fsR A) (fun p => .int (p.1 : Int)) (fun p => capD (p.2, p.1)) (by unfold fsD; rw [List.map_map]; rfl) (sz (by omega)) gL (fun p hp => ⟨_, rfl, fun Q z => ?_⟩) ?_
        · have ik : (D.int (p.1 : Nat)).key = some (.inl (p.1 : Int)) := rfl
          simp only [dxs, dl, dwipe, List.map_cons, List.map_nil, rItemK, gL, ik, fsR_val A hp]
          exact ⟨sz (by decide), z⟩
        refine ⟨gL, ?_⟩
        rw [gput_gput]
        have sb2 : Sub G (gput G' b (.dK (fsD (fsR A)))) := sb.trans (sub_new hb rfl)
        generalize gput G' b (.dK (fsD (fsR A))) = G2 at sb2 ⊢
        have ecL : ∀ (G : GH) (xs : List D), D.cur G (.lst xs) = .lst xs := fun _ _ => rfl
        have ok : okS ((fsR A).map fun p => capD (p.2, p.1)) = true := by
          have := caps_okS ((fsR A).map fun p => (p.2, p.1))
          rwa [List.map_map] at this
        simp only [rSortD, ecL, ok, order_sorted od, true_and]
        have wne : dedS [] A ≠ [] := by
          cases A with
          | nil => exact absurd rfl ne
          | cons a l => rw [dedS_cons, if_neg (by simp)]; simp
        have wl : ∀ x ∈ dedS [] A, x.1.length = cs.length := fun x hx => ln0 x ((dedS_sub _ _).subset hx)
        have wo : (dedS [] A).Pairwise fun x y => x.1 < y.1 := od.sublist (dedS_sub _ _)
        have wz : (dedS [] A).length ≤ 1000 := by
          have := nodup_lt_len (dedS_nodup A []) (n := rs.length) fun k hk => by
            obtain ⟨x, hx, rfl⟩ := List.mem_map.mp hk
            exact cl0 _ ((dedS_sub _ _).subset hx)
          rw [List.length_map] at this
          omega
        generalize dedS [] A = W at wne wl wo wz q ⊢
        obtain ⟨w0, W', rfl⟩ : ∃ a l, W = a :: l := by
          cases W with
          | nil => exact absurd rfl wne
          | cons a l => exact ⟨a, l, rfl⟩
        have at_ : ∀ k x, (w0 :: W')[k]? = some x → (D.lst (List.map capD (w0 :: W'))).item (.int (k : Nat)) = some (capD x) := fun k x h => atI_nat (by rw [List.getElem?_map, h]; rfl)
        have a0 : (D.lst (List.map capD (w0 :: W'))).item (.int 0) = some (capD w0) := at_ 0 w0 rfl
        have i0 : ∀ x, D.item (capD x) (.int 0) = some (.str (strOf x.1)) := fun _ => rfl
        have i1 : ∀ x, D.item (capD x) (.int 1) = some (.int (x.2 : Nat)) := fun _ => rfl
        have cC : ∀ (G : GH) x, D.cur G (capD x) = capD x := fun _ _ => rfl
        simp only [a0, cC, i1]
        refine ⟨sz (by decide), sz (by decide), fun p hp => ?_⟩
        have lnF : ∀ (G : GH) (Q : DQ), rLenD [D.lst (List.map capD (w0 :: W'))] G Q = Q (.int ((w0 :: W').length : Nat)) G := fun G Q => by
          simp only [rLenD, ecL, D.len, List.length_map]
        simp only [lnF]
        refine ⟨by omega, ?_⟩
        have el0 : (MO.lst [D.tup [D.int (w0.2 : Nat), D.int 0]]) = .lst ((toLs cs.length none ((w0 :: W').take (1 + 0))).map lpD) := rfl
        rw [el0]
        refine ⟨fun j S' G' => ∃ x11 x12 x13 x14, S' = [some (wD hs ws rs), some (.str (strOf cs)), some (.rf q0), x3, x4, x5, none, none, some (.rf b), some (.lst (List.map capD (w0 :: W'))), some (.rf p), x11, x12, x13, x14] ∧ G' = gput G2 p (.lst ((toLs cs.length none ((w0 :: W').take (1 + j))).map lpD)),
          ⟨_, _, _, _, rfl, rfl⟩, fun _ _ _ _ => trivial, ?_, ?_⟩
        · rintro j S' G' dd ⟨x11, x12, x13, x14, rfl, rfl⟩ hd
          obtain ⟨j', hj', rfl⟩ := map_get hd
          obtain ⟨hjl, bb⟩ := List.getElem?_eq_some_iff.mp hj'
          rw [List.getElem_range] at bb
          subst bb
          have hj : j < W'.length := by
            rw [List.length_range] at hjl
            simpa using hjl
          have e1 : (1 : Int) + (j : Nat) = ((1 + j : Nat) : Int) := by omega
          have e2 : ((1 + j : Nat) : Int) - 1 = ((j : Nat) : Int) := by omega
          obtain ⟨y, hy⟩ : ∃ y, (w0 :: W')[1 + j]? = some y := ⟨(w0 :: W')[1 + j]'(by simp; omega), List.getElem?_eq_getElem _⟩
          obtain ⟨z, hz⟩ : ∃ z, (w0 :: W')[j]? = some z := ⟨(w0 :: W')[j]'(by simp; omega), List.getElem?_eq_getElem _⟩
          have a1 := at_ _ y hy
          have a2 := at_ _ z hz
          have tk : (w0 :: W').take (1 + (j + 1)) = (w0 :: W').take (1 + j) ++ [y] := by rw [← Nat.add_assoc, List.take_add_one, hy]; rfl
          have lw_ : lastW none ((w0 :: W').take (1 + j)) = some z.1 := by
            rw [Nat.add_comm 1 j, List.take_add_one, hz]
            simp [lastW]
          have zl := wl z (List.mem_of_getElem? hz)
          have yl := wl y (List.mem_of_getElem? hy)
          have hlt : z.1 < y.1 := by
            obtain ⟨h1, h2⟩ := List.getElem?_eq_some_iff.mp hz
            obtain ⟨h3, h4⟩ := List.getElem?_eq_some_iff.mp hy
            have := List.pairwise_iff_getElem.mp wo j (1 + j) h1 h3 (by omega)
            rwa [h2, h4] at this
          have hne : z.1 ≠ y.1 := fun e => by rw [e] at hlt; exact absurd hlt (List.lt_irrefl _)
          obtain ⟨n1, n2⟩ := lcp_ne (zl.trans yl.symm) hne
          have fl : (toLs cs.length none ((w0 :: W').take (1 + j))).length ≤ 1000 := by rw [toLs_len, List.length_take]; omega
          simp only [dxs, dl, dx3, e1, e2, a1, a2, cC, i0]
          refine ⟨trivial, ?_⟩
          refine ⟨fun m S' G' => ∃ s : Nat, s ≤ lcp z.1 y.1 ∧ m = lcp z.1 y.1 - s ∧ S' = [some (wD hs ws rs), some (.str (strOf cs)), some (.rf q0), x3, x4, x5, none, none, some (.rf b), some (.lst (List.map capD (w0 :: W'))), some (.rf p), some (.int ((1 + j : Nat) : Int)), some (.str (strOf z.1)), some (.str (strOf y.1)), some (.int (s : Nat))] ∧ G' = gput G2 p (.lst ((toLs cs.length none ((w0 :: W').take (1 + j))).map lpD)),
            ⟨_, 0, Nat.zero_le _, rfl, rfl, rfl⟩, ?_⟩
          rintro m S' G' ⟨s, hs_, rfl, rfl, rfl⟩
          obtain ⟨cz, hcz⟩ : ∃ a, z.1[s]? = some a := ⟨_, List.getElem?_eq_getElem (by omega)⟩
          obtain ⟨cy, hcy⟩ : ∃ a, y.1[s]? = some a := ⟨_, List.getElem?_eq_getElem (by omega)⟩
          have b1 := str_at51 (by omega) hcz
          have b2 := str_at51 (by omega) hcy
          simp only [dxs, dl, dx3, eS, b1, b2, sgn_okE, sgn_eqv, true_and]
          by_cases hs2 : s < lcp z.1 y.1
          · have := lcp_eq hs2
            rw [hcz, hcy] at this
            obtain rfl := Option.some.inj this
            rw [if_pos (by simp)]
            exact ⟨_, (by omega : lcp z.1 y.1 - (s + 1) < _), s + 1, hs2, rfl, rfl, trivial⟩
          · have es : s = lcp z.1 y.1 := by omega
            subst es
            rw [hcz, hcy] at n2
            rw [if_neg (by simpa using fun e => n2 (by rw [e]))]
            have lnP : ∀ (G : GH) (Q : DQ), rLenD [D.str (strOf cs)] G Q = Q (.int (cs.length : Nat)) G := fun G Q => by
              simp only [rLenD, eS, D.len, strOf_len]
              rw [if_pos (sz (by omega))]
            have e5 : ((cs.length : Nat) : Int) - ((lcp z.1 y.1 : Nat) : Int) = ((cs.length - lcp z.1 y.1 : Nat) : Int) := by omega
            have gp : ∀ A, gput G2 p (.lst A) p = some (.lst A) := fun _ => gput_same
            simp only [dxs, dl, dx3, a1, cC, i1, lnP, e5, rAppendD, gp, gput_gput]
            refine ⟨rfl, trivial, sz (by decide), szl (by rw [List.length_map]; omega), _, _, _, _, rfl, ?_⟩
            rw [tk, toLs_snoc, List.map_append, lw_]
            rfl
        · rintro S' G' ⟨x11, x12, x13, x14, rfl, rfl⟩
          have el : (List.map (fun i => D.int (1 + (i : Nat))) (List.range (((w0 :: W').length : Nat) - 1 : Int).toNat)).length = W'.length := by simp
          rw [el, List.take_of_length_le (by simp; omega)]
          simp only [dxs, dl]
          have gp : gput G2 p (.lst ((toLs cs.length none (w0 :: W')).map lpD)) p = some (.lst ((toLs cs.length none (w0 :: W')).map lpD)) := gput_same
          have tf : ∀ Q : DQ, rTupleD [D.rf p] (gput G2 p (.lst ((toLs cs.length none (w0 :: W')).map lpD))) Q = Q (lsD (toLs cs.length none (w0 :: W'))) (gput G2 p (.lst ((toLs cs.length none (w0 :: W')).map lpD))) := fun Q => by
            show (match D.cur (gput G2 p (.lst ((toLs cs.length none (w0 :: W')).map lpD))) (.rf p) with | .tup xs => Q (.tup xs) _ | .lst xs => Q (.tup xs) _ | _ => False) = _
            rw [cur_l gp]; rfl
          rw [tf]
          exact ⟨_, sb2.trans (sub_new hp rfl), q⟩
end
end Pace
end
section
set_option Elab.async false
set_option linter.all false
set_option maxRecDepth 100000
set_option maxHeartbeats 4000000
namespace DL
open PySem PySem.Spec PyProof.Rows L2
def spLaw (n : Nat) : SpD := fun ds G Q => ∃ ns : List Int, ds = [.scr ns] ∧ ns.length ≤ n ∧ (G = fun _ => none) ∧ ∀ G', Q (.bl true) G'
section
variable {P : Program} {w : World} {K : PySem.W.Frag} {mg mb : Str → Option Value} {k : Nat} {fa a : Addr} {fd : FuncData} {x : Str} {s₁ : Shared} {vs : List Value} {ns : List Int} {n : Nat}
theorem last_core (inn : K.In s₁.heap) (hns : s₁.heap.Ns mainGlobals mg) (hb : s₁.heap.Ns builtinsNs mb) (hbb : ∀ x : Str, x ≠ "__name__" → mb x = bootBuiltins x) (hlim : s₁.heap.NoLimit) (hg : s₁.gens = #[])
    (ha : s₁.heap.get? a = some { cls := .type "list", data := .seq vs.toArray }) (hl : ns.length ≤ n) (hr : Room k callerA)
    (Fn : ∀ base : Heap, K.In base → base.Ns mainGlobals mg → FnG P w K mg base CX0 k fa fd [x] (SpOf K (spLaw n))) (bd : ∀ (s : Shared) (u : Value), BindsTo s fd ⟨[u], []⟩ [(x, u)])
    (H : Hp) (hO : Only H) (hS : SqL K H a (ns.map V.int)) (hok : HOk P w H s₁.heap) (hA : ∀ b, H b ≠ none → b = a) (hK : H a ≠ none → K.lookup a = none) :
    codeAny (model P w) callerA (.call (.ref fa) ⟨[.ref a], []⟩) (fun r s' => r = .ok (.ret (.bool true)) ∧ OldK s₁.heap s'.heap ∧ s'.os = s₁.os ∧ AllBare s'.gens) s₁ := by
  have put : ∀ {b : Addr} {o : Obj}, s₁.heap.get? b = some o → H b = none → (hidT s₁.heap H).get? b = some o := by
    intro b o z y
    exact hidT_get z y
  have nod : ∀ {b : Addr} {o : Obj} {es : Array DictEntry} {ep : Nat}, s₁.heap.get? b = some o → o.data = .dict es ep → H b = none := by
    intro b o es ep z y
    cases q : H b with
    | none => rfl
    | some u =>
      obtain rfl : b = a := hA b (by rw [q]; simp)
      rw [ha] at z
      cases z
      exact absurd y (by intro c; cases c)
  have ns2 : ∀ {b : Addr} {m : Str → Option Value}, s₁.heap.Ns b m → (hidT s₁.heap H).Ns b m := by
    rintro b m ⟨o, es, ep, z, y, r⟩
    exact ⟨o, es, ep, put z (nod z y), y, r⟩
  have in2 : K.In (hidT s₁.heap H) := by
    intro b o z
    refine put (inn b o z) ?_
    cases q : H b with
    | none => rfl
    | some u =>
      have y : b = a := hA b (by rw [q]; simp)
      subst y
      have c := hK (by rw [q]; simp)
      rw [c] at z; cases z
  have md : Mod K mg (hidT s₁.heap H) := by
    obtain ⟨mc, l1, l2⟩ := hlim
    exact ⟨in2, ns2 hns, ⟨mb, ns2 hb, hbb⟩, ⟨mc, ns2 l1, l2⟩⟩
  have e0 : Env0 P w K mg (hidT s₁.heap H) callerA [] s₁ H := by
    refine ⟨rfl, md, fun b o z => of_hidT z, Nat.le_of_eq (hidT_size _ _), trivial, ?_, hok, .of_eq hg⟩
    intro b hb
    cases hb
  have sp0 : SpOf K (spLaw n) [.ref a] H (fun v _ => v = .bl true) (fun _ _ _ => False) := by
    refine ⟨H, fun _ => none, [.scr ns], fun d _ => d = .bl true, ⟨Ex.refl H, fun _ _ z => (nomatch z), fun _ _ _ _ _ _ _ _ _ _ z => (nomatch z)⟩, .one (.scr hS), ⟨ns, rfl, hl, rfl, fun _ => rfl⟩, ?_⟩
    intro F' H' v d G' _ _ r z
    subst z
    cases r
    rfl
  refine codeAny_mono ((Fn _ in2 (ns2 hns)).goes callerA [] s₁ H ⟨[.ref a], []⟩ [.ref a] [.ref a] _ _ rfl hr e0 (bd s₁ (.ref a)) (.cons rfl .nil) sp0) ?_
  intro r s' z
  match r, z with
  | .error er, z => exact z.elim
  | .ok .next, z => exact z.elim
  | .ok .brk, z => exact z.elim
  | .ok .cont, z => exact z.elim
  | .ok (.ret u), z =>
    obtain ⟨v, H', os, bare, un, hok', r', q⟩ := z
    have q' : v = .bl true := q
    subst q'
    obtain rfl : u = Value.bool true := r'
    refine ⟨rfl, OldK.of_keep ?_, os, bare⟩
    intro b o z
    cases q : H b with
    | none => exact un.keep b o z q (by intro c; cases c) (by simp)
    | some y =>
      rcases hO b with c | ⟨ob, xs, c⟩
      · rw [q] at c; cases c
      · have c2 := un.frzs b ob _ c
        have d1 := (hok b _ c).1
        have d2 := (hok' b _ c2).1
        rw [z] at d1
        cases d1
        exact d2
theorem last_call (inn : K.In s₁.heap) (hns : s₁.heap.Ns mainGlobals mg) (hb : s₁.heap.Ns builtinsNs mb) (hbb : ∀ x : Str, x ≠ "__name__" → mb x = bootBuiltins x) (hlim : s₁.heap.NoLimit) (hg : s₁.gens = #[])
    (ha : s₁.heap.get? a = some { cls := .type "list", data := .seq vs.toArray }) (hi : IntsAre vs ns) (hl : ns.length ≤ n) (hn : n ≤ sizeLine) (hr : Room k callerA)
    (Fn : ∀ base : Heap, K.In base → base.Ns mainGlobals mg → FnG P w K mg base CX0 k fa fd [x] (SpOf K (spLaw n))) (bd : ∀ (s : Shared) (u : Value), BindsTo s fd ⟨[u], []⟩ [(x, u)]) :
    codeAny (model P w) callerA (.call (.ref fa) ⟨[.ref a], []⟩) (fun r s' => r = .ok (.ret (.bool true)) ∧ OldK s₁.heap s'.heap ∧ s'.os = s₁.os ∧ AllBare s'.gens) s₁ := by
  have rv := vals_ints hi
  have lv := hi.length
  have hz : ns.length ≤ sizeLine := Nat.le_trans hl hn
  cases hk : K.lookup a with
  | some o =>
    have z := inn a o hk
    rw [ha] at z
    cases z
    refine last_core inn hns hb hbb hlim hg ha hl hr Fn bd (fun _ => none) (fun _ => .inl rfl) ?_ (fun b u z => (nomatch z)) (fun b z => absurd rfl z) (fun z => absurd rfl z)
    refine .inr ⟨_, vs.toArray, _, hk, rfl, rfl, rfl, ?_, by simpa using rv⟩
    rw [List.size_toArray, lv]
    exact hz
  | none =>
    let H : Hp := fun b => if b = a then some (.frz { cls := .type "list", data := .seq vs.toArray } (.lst (ns.map V.int))) else none
    have hy : H a = some (.frz { cls := .type "list", data := .seq vs.toArray } (.lst (ns.map V.int))) := if_pos rfl
    have hno : ∀ b, b ≠ a → H b = none := fun b z => if_neg z
    refine last_core inn hns hb hbb hlim hg ha hl hr Fn bd H (fun b => ?_) (.inl (.inr ⟨_, hy⟩)) (fun b u z => ?_) (fun b z => ?_) (fun _ => hk)
    · by_cases c : b = a
      · subst c; exact .inr ⟨_, _, hy⟩
      · exact .inl (hno b c)
    · by_cases c : b = a
      · subst c
        rw [hy] at z
        cases z
        exact ⟨ha, by rw [List.length_map]; exact hz, vs, _, rv, ha⟩
      · rw [hno b c] at z; cases z
    · by_cases c : b = a
      · exact c
      · exact absurd (hno b c) z
end
theorem walk_G {l : PySem.W.OpenLaw} {n k : Nat} {q : Program} {loose : List Str} {XP : (Str → Option Value) → Heap → Prop} {YP : World → Heap → Prop} {d : DefRec} {x : Str}
    (hn : l.most = some n) (hn2 : n ≤ sizeLine) (hdf : d.params.defaults = []) (hr : Room k callerA)
    (Fn : ∀ (w : World) (mg : Str → Option Value) (fa : Addr) (h : Heap), YP w h → h.Ns mainGlobals mg → mg d.name = some (.ref fa) →
      ∃ (K : PySem.W.Frag) (fd : FuncData), K.In h ∧ (∀ (s : Shared) (u : Value), BindsTo s fd ⟨[u], []⟩ [(x, u)]) ∧
        ∀ base : Heap, K.In base → base.Ns mainGlobals mg → FnG l.prog w K mg base CX0 k fa fd [x] (SpOf K (spLaw n))) :
    PySem.W.WalkO q loose XP YP l.row.toRowW d [] (fun f vs => PySem.call f vs) := by
  refine Att.attach_call hn hdf ?_
  intro w s₀ s₁ mg mb fa o pm cd doc a vs ns G Y ho hd hcd hmg hobj hints hlen hg
  obtain ⟨K, fd, inn, bd, hF⟩ := Fn w mg fa _ Y G.T.g hmg
  exact last_call inn G.T.g G.T.b G.T.builtins G.T.nolimit hg hobj hints hlen hn2 hr hF bd
end DL
end
section
set_option Elab.async false
set_option linter.all false
set_option maxRecDepth 100000
set_option maxHeartbeats 4000000
namespace Pace
open PySem PySem.Spec PyProof.Rows L2 DL
section
variable {P : Program} {w : World} {K : PySem.W.Frag} {mg : Str → Option Value} {base : Heap} {C : Addr}
theorem bks_le51 {w : Nat} : ∀ {xs : List D}, (∀ x ∈ xs, bkD x ≤ w) → bksD xs ≤ xs.length * (w + 1)
  | [], _ => Nat.zero_le _
  | x :: xs, h => by
    have h1 := bks_le51 (xs := xs) fun y hy => h y (List.mem_cons_of_mem _ hy)
    have h2 := h x List.mem_cons_self
    rw [bks_cons, List.length_cons, Nat.add_mul]
    omega
theorem toLs_le (n : Nat) : ∀ (o : Option (List Nat)) (W : List (List Nat × Nat)), ∀ x ∈ toLs n o W, x.2 ≤ n
  | _, [] => by cases ‹Option (List Nat)› <;> (intro x hx; cases hx)
  | none, y :: l => fun x hx => by
    rw [toLs] at hx
    rcases List.mem_cons.mp hx with rfl | hx
    · exact Nat.zero_le _
    · exact toLs_le n _ l x hx
  | some u, y :: l => fun x hx => by
    rw [toLs] at hx
    rcases List.mem_cons.mp hx with rfl | hx
    · exact Nat.sub_le _ _
    · exact toLs_le n _ l x hx
theorem lp_odd {p : Nat × Nat} (h1 : p.1 ≤ 10 ^ 4) (h2 : p.2 ≤ 10 ^ 4) : Odd 0 1 2 (lpD p) := by
  have big : (10 : Nat) ^ 4 < 10 ^ 39 := by decide
  refine oddP_tup (n := 0) (fun x hx => ?_) ?_
  · simp only [List.mem_cons, List.not_mem_nil, or_false] at hx
    rcases hx with rfl | rfl
    · exact (oddP_int (m := 0) (n := 0) (w := 0) (by omega)).one
    · exact (oddP_int (m := 0) (n := 0) (w := 0) (by omega)).one
  · exact bks_le51 (w := 0) (xs := [D.int (p.1 : Nat), D.int (p.2 : Nat)]) fun x hx => by
      simp only [List.mem_cons, List.not_mem_nil, or_false] at hx
      rcases hx with rfl | rfl <;> exact Nat.le_refl _
theorem ls_odd {L : List (Nat × Nat)} (hl : L.length ≤ 4) (h : ∀ p ∈ L, p.1 ≤ 10 ^ 4 ∧ p.2 ≤ 10 ^ 4) : Odd 0 2 12 (lsD L) := by
  refine oddP_tup (n := 1) (fun x hx => ?_) ?_
  · obtain ⟨p, hp, rfl⟩ := List.mem_map.mp hx
    exact (lp_odd (h p hp).1 (h p hp).2).one
  · have := bks_le51 (w := 2) (xs := L.map lpD) fun x hx => by
      obtain ⟨p, hp, rfl⟩ := List.mem_map.mp hx
      exact (lp_odd (h p hp).1 (h p hp).2).bk
    rw [List.length_map] at this
    omega
theorem repr_lsU {L : List (Nat × Nat)} {G : GH} {Q : DQ} (h : rReprG [lsD L] G Q) : rReprG [lsU L] G Q := by
  unfold rReprG at h ⊢
  dsimp only at h ⊢
  rw [lsU_pyR]
  exact ⟨lsU_plR L, h.2⟩
theorem pair_pyR (L : List (Nat × Nat)) : D.pyR (.lst [lsU L, lsU L]) = D.pyR (.lst [lsD L, lsD L]) := by
  show PyData.list [D.pyR (lsU L), D.pyR (lsU L)] = .list [D.pyR (lsD L), D.pyR (lsD L)]
  rw [lsU_pyR]
theorem repr_lsUU {L : List (Nat × Nat)} {G : GH} {Q : DQ} (h : rReprG [.lst [lsD L, lsD L]] G Q) : rReprG [.lst [lsU L, lsU L]] G Q := by
  unfold rReprG at h ⊢
  dsimp only at h ⊢
  rw [pair_pyR]
  refine ⟨?_, h.2⟩
  show (D.plR (lsU L) && (D.plR (lsU L) && true)) = true
  rw [lsU_plR]; rfl
theorem two51 {b : Bool} {p : Addr} {G0 : GH} {m : Nat} {A B : GH → Prop} (hm : 1 ≤ m) (h30 : ∀ m', m ≤ m' + 1 → A (gput G0 p (dk m'))) (h5 : ∀ m', m ≤ m' + 1 → B (gput G0 p (dk m'))) :
    if b = true then spDraw [.rf p, .int 8] (gput G0 p (dk m)) (fun x G1 => okE (D.cur G1 x) (.int 7) = true ∧ if D.eqv (D.cur G1 x) (.int 7) = true then A G1 else B G1) else if false = true then A (gput G0 p (dk m)) else B (gput G0 p (dk m)) := by
  cases b
  · exact h5 m (by omega)
  · rw [if_pos rfl]
    obtain ⟨n, rfl⟩ : ∃ n, m = n + 1 := ⟨m - 1, by omega⟩
    refine ⟨p, 8, n, rfl, by decide, by decide, gput_same, fun r _ => ⟨okE_int _ _, ?_⟩⟩
    rw [gput_gput]
    split
    · exact h30 n (by omega)
    · exact h5 n (by omega)
theorem caps_bnd51 {hs ws : List Nat} {rs : List (List Mv)} (v : RulV hs ws rs) (w3 : ws.length ≤ 3) {cs : List Nat} (h : cs.length ≤ 5) (i : Nat) : (caps rs 0 (cs.take i)).length ≤ 4000 := by
  refine Nat.le_trans (caps_len v w3 0 (cs.take i)) (Nat.le_trans (Nat.pow_le_pow_right (by decide) (show (cs.take i).length ≤ 5 by rw [List.length_take]; omega)) (by decide))
abbrev N_law : List Str := ["_law_script", "_law_deck_here", "_law_w", "_law_rules_now", "_law_go", "_law_page", "_law_due", "_law_letter"]
theorem sc_law : FnScope N_law ["_law_script"] (defScope s_law) := ⟨rfl, rfl, rfl, by decide +kernel, rfl, by decide +kernel, by decide +kernel⟩
theorem c_law {f0 : Addr} {fd0 : FuncData} (T : Txt K mg C) (d : Fun K "law" "law" s_law f0 fd0) (C__law_deck : Cal P w K mg base "_law_deck" 1 ["_law_script"] (spDeck)) (C__law_some : Cal P w K mg base "_law_some" 5 ["_law_deck_here", "_law_top"] (spSome51)) (C__law_made : Cal P w K mg base "_law_made" 6 ["_law_w"] (spMade C)) (C__law_draw : Cal P w K mg base "_law_draw" 1 ["_law_deck_here", "_law_many"] (spDraw)) (C__law_speech : Cal P w K mg base "_law_speech" 3 ["_law_deck_here", "_law_w", "_law_most"] (spSpeech)) (K_list_of : CalK P w K mg base "list_of" 4 ["rules", "speech"] (spListOf C) 0 ["speech", "rules"] [1, 0]) (C_list_of : Cal P w K mg base "list_of" 4 ["rules", "speech"] (spListOf C)) (C__law_list : Cal P w K mg base "_law_list" 3 ["_law_w", "_law_page"] (spLList51)) (C__law_by_captions : Cal P w K mg base "_law_by_captions" 3 ["_law_w", "_law_page"] (spByCap51)) (C__law_pick : Cal P w K mg base "_law_pick" 2 ["_law_deck_here", "_law_some_here"] (spPick)) (C__law_step : Cal P w K mg base "_law_step" 2 ["_law_w", "_law_one_list", "_law_letter"] (spLStep51)) : FnG P w K mg base CX0 12 f0 fd0 ["_law_script"] (SpOf K (spLaw 63)) := by
  refine fn_mk (N := N_law) d sc_law (fun ds G Q h => ?_) (fun cdv A outer s H E hg hr => ?_)
  · obtain ⟨ns, rfl, _⟩ := h
    rfl
  · have hu := hu100 hr
    have nd := sc_law.nd
    have hA := deeper_guards (env := envOfC "law" (defScope s_law) s.heap.objs.size f0 cdv) hg
    refine ⟨_, (dps_cons (dp_asg (de_cal C__law_deck hA (hr.mono (by decide)) (da_cons (de_var 0) da_nil)) (dg_name 1 nd))
  (dps_cons (dp_asg (de_cal C__law_some hA (hr.mono (by decide)) (da_cons (de_var 1) (da_cons de_int da_nil))) (dg_name 2 nd))
  (dps_cons (dp_asg (de_cal C__law_made hA (hr.mono (by decide)) (da_cons (de_var 2) da_nil)) (dg_name 3 nd))
  (dps_cons (dp_for PassesOwn.never rfl (di_range1 rfl T.f_range (da_cons de_int da_nil)) (dg_name 4 nd)
  (dps_cons (dp_asg (de_cal C__law_speech hA (hr.mono (by decide)) (da_cons (de_var 1) (da_cons (de_var 2) (da_cons (de_if (DW.dt (dw_and (dt_cmp (od_eq hu) (de_var 4) de_int (nomark _)) (dw_and1 (dt_cmp (od_eq hu) (de_cal C__law_draw hA (hr.mono (by decide)) (da_cons (de_var 1) (da_cons de_int da_nil))) de_int (nomark _))))) de_int de_int) da_nil)))) (dg_name 5 nd))
  (dps_cons (dp_asg (de_cal C__law_list hA (hr.mono (by decide)) (da_cons (de_var 2) (da_cons (de_var 5) da_nil))) (dg_name 6 nd))
  (dps_cons (dp_if (dt_cmp (od_ne hu) (de_callB (cd_reprG hu hA T.sysM) rfl T.f_repr (by decide +kernel) (da_cons (de_lst (da_cons (de_cal C_list_of hA (hr.mono (by decide)) (da_cons (de_var 3) (da_cons (de_var 5) da_nil))) (da_cons (de_calK0 K_list_of hA (hr.mono (by decide)) (dk_cons (de_var 5) (dk_cons (de_var 3) dk_nil))) da_nil))) da_nil)) (de_callB (cd_reprG hu hA T.sysM) rfl T.f_repr (by decide +kernel) (da_cons (de_lst (da_cons (de_var 6) (da_cons (de_var 6) da_nil))) da_nil)) (nomark _))
  (dps_one (dp_ret de_bl))
  dps_nil)
  (dps_cons (dp_if (DW.dt (dw_and (dt_cmp (od_lt hu) (de_callB cd_len rfl T.f_len (by decide +kernel) (da_cons (de_var 5) da_nil)) de_int (nomark _)) (dw_and1 (dt_cmp (od_ne hu) (de_cal C__law_by_captions hA (hr.mono (by decide)) (da_cons (de_var 2) (da_cons (de_var 5) da_nil))) (de_var 6) (nomark _)))))
  (dps_one (dp_ret de_bl))
  dps_nil)
  (dps_cons (dp_asg (de_cal C__law_pick hA (hr.mono (by decide)) (da_cons (de_var 1) (da_cons (de_ix hu (de_var 2) de_str) da_nil))) (dg_name 7 nd))
  (dps_one (dp_if (dt_cmp (od_ne hu) (de_cal C_list_of hA (hr.mono (by decide)) (da_cons (de_var 3) (da_cons (de_op od_add (de_var 5) (de_var 7)) da_nil))) (de_ix hu (de_cal C__law_step hA (hr.mono (by decide)) (da_cons (de_var 2) (da_cons (de_cal C_list_of hA (hr.mono (by decide)) (da_cons (de_var 3) (da_cons (de_var 5) da_nil))) (da_cons (de_var 7) da_nil)))) de_int) (nomark _))
  (dps_one (dp_ret de_bl))
  dps_nil))))))))
  (dps_one (dp_ret (de_cmp (od_eq hu) (de_callB (cd_reprG hu hA T.sysM) rfl T.f_repr (by decide +kernel) (da_cons (de_cal C_list_of hA (hr.mono (by decide)) (da_cons (de_var 3) (da_cons de_str da_nil))) da_nil)) (de_callB (cd_reprG hu hA T.sysM) rfl T.f_repr (by decide +kernel) (da_cons (de_tup (da_cons (de_tup (da_cons de_int (da_cons de_int da_nil))) da_nil)) da_nil)) (nomark _)))))))), fun ds G Q h => ?_⟩
    obtain ⟨ns, rfl, hl, rfl, q⟩ := h
    rw [show dstart N_law [.scr ns] = [some (.scr ns), none, none, none, none, none, none, none] from rfl]
    simp only [dxs, dl]
    refine ⟨ns, rfl, (fun _ _ _ _ _ z => by cases z), fun p c hp hc hcp => ?_⟩
    simp only
    have gp0 : shutG (fun _ => none) p c "left" "blend" "lap" 1000000 p = some (dk 1000000) := gput_same
    generalize shutG (fun _ => none) p c "left" "blend" "lap" 1000000 = G0 at gp0
    refine ⟨p, 998990, rfl, gp0, fun hs ws rs m1 hm1 so w3 => ?_⟩
    refine ⟨hs, ws, rs, rfl, so.val, ?_⟩
    have h1 : 1 ≤ hs.length := by
      have := so.val.lh
      cases hs with
      | nil => simp [lettersB] at this
      | cons a l => simp
    have n4 := so.n
    have n1 := so.val.n1
    have at0 : ∀ r ∈ rs, r.length ≤ 1000 ∧ ∀ m ∈ r, m.t < rs.length := so.val.ok.at_
    have tl : ∀ r ∈ rs, ∀ m ∈ r, m.t < rs.length := fun r hr m hm => (at0 r hr).2 m hm
    have ord := so.val.ordered
    have cne : ∀ l : List Nat, (∀ c ∈ l, c ∈ hs) → caps rs 0 l ≠ [] := fun l hl e => by
      have h := mute_first tl (letters_lt so.val.lh) n1 l hl fun d hd => by rw [so.mute] at hd; cases hd
      cases er : run rs [0] l with
      | nil => exact h er
      | cons k t =>
        have := (caps_run (rs := rs) (s := 0) l k).mpr (by rw [er]; simp)
        rw [e] at this
        cases this
    have lsl : ∀ l : List Nat, (listW rs l).length ≤ 4 ∧ (∀ x ∈ listW rs l, x.1 < rs.length) ∧ ∀ x ∈ listW rs l, x.2 ≤ l.length := fun l => by
      have h1 : ∀ k ∈ (firstsW rs l).map (·.2), k < rs.length := fun k hk => by
        obtain ⟨x, hx, rfl⟩ := List.mem_map.mp hk
        have hc : x.2 ∈ (caps rs 0 l).map (·.2) := List.mem_map.mpr ⟨x, (dedS_sub _ _).subset hx, rfl⟩
        rw [caps_run] at hc
        exact run_lt tl (by simp; omega) _ hc
      refine ⟨?_, fun x hx => ?_, fun x hx => toLs_le _ _ _ x hx⟩
      · have := nodup_lt_len (dedS_nodup (caps rs 0 l) []) h1
        rw [List.length_map] at this
        unfold listW
        rw [toLs_len]
        show (dedS [] _).length ≤ _
        omega
      · have : x.1 ∈ (listW rs l).map (·.1) := List.mem_map.mpr ⟨x, hx, rfl⟩
        unfold listW at this
        rw [toLs_fst] at this
        exact h1 _ this
    have odd : ∀ l : List Nat, l.length ≤ 100 → Odd 0 2 12 (lsD (listW rs l)) := fun l hl => ls_odd (lsl l).1 fun x hx => by
      have a := (lsl l).2.1 x hx
      have b := (lsl l).2.2 x hx
      have big : (10000 : Nat) = 10 ^ 4 := by decide
      omega
    have loR : ∀ (G : GH) (Q : DQ) (l : List Nat), l.length ≤ 1000 → Q (lsU (listW rs l)) G → spListOf C [rulD C (mkR hs ws rs), .str (strOf l)] G Q := fun G Q l hl z => ⟨mkR hs ws rs, hs, l, rfl, so.val.ok, rfl, n1, by show rs.length ≤ 10; omega, so.mute, ord, hl, z⟩
    have rp2 : ∀ (l : List Nat) (G : GH) (Q : DQ), l.length ≤ 100 → Q (.str (D.pyR (.lst [lsD (listW rs l), lsD (listW rs l)])).shown) G → rReprG [.lst [lsD (listW rs l), lsD (listW rs l)]] G Q := fun l G Q hl z => by
      have o := odd l hl
      have := o.bk
      refine Odd.repr (m := 0) (n := 3) (w := 26) (oddP_lst (n := 2) (fun x hx => ?_) ?_) (by decide) (by decide) (by decide) z
      · simp only [List.mem_cons, List.not_mem_nil, or_false] at hx
        rcases hx with rfl | rfl
        · exact o.one
        · exact o.one
      · rw [bks_cons, bks_cons, bks_nil]
        omega
    refine ⟨by decide, by decide, ?_⟩
    refine ⟨fun i S' G' => ∃ (x4 x5 x6 x7 : Option D) (m : Nat), S' = [some (D.scr ns), some (D.rf p), some (wD hs ws rs), some (rulD C (mkR hs ws rs)), x4, x5, x6, x7] ∧ G' = gput G0 p (dk m) ∧ 1000 ≤ m + 200 * i,
      ⟨_, _, _, _, m1, rfl, rfl, by omega⟩, fun _ _ _ _ => trivial, ?_, ?_⟩
    · rintro i S' G' dd ⟨x4, x5, x6, x7, m, rfl, rfl, hm⟩ hd
      obtain ⟨i', hi', rfl⟩ := map_get hd
      obtain ⟨hjl, bb⟩ := List.getElem?_eq_some_iff.mp hi'
      rw [List.getElem_range] at bb
      subst bb
      have hi3 : i < 3 := by rw [List.length_range] at hjl; exact hjl
      simp only [dxs, dl, dx3, okE_int, eqv_int, true_and]
      refine two51 (by omega) (fun m' hm' => ?_) (fun m' hm' => ?_)
      all_goals
        obtain ⟨n, rfl⟩ : ∃ n, m' = n + 102 := ⟨m' - 102, by omega⟩
        first
          | refine ⟨p, hs, ws, rs, 30, n + 1, rfl, by decide, h1, so.val.sh, gput_same, fun cs m3 hm3 hl hc => ?_⟩
          | refine ⟨p, hs, ws, rs, 5, n + 1, rfl, by decide, h1, so.val.sh, gput_same, fun cs m3 hm3 hl hc => ?_⟩
        rw [gput_gput]
        obtain ⟨m4, rfl⟩ : ∃ m4, m3 = m4 + 1 := ⟨m3 - 1, by omega⟩
        have hl : cs.length ≤ 30 := by omega
        refine ⟨hs, ws, rs, cs, rfl, by omega, n1, at0, ord, cne cs hc, by omega, ?_⟩
        refine loR _ _ cs (by omega) ?_
        simp only [dxs, dl, dx2]
        refine ⟨⟨trivial, trivial⟩, loR _ _ cs (by omega) ?_⟩
        refine ⟨sz (by decide), repr_lsUU (rp2 _ _ _ (by omega) ⟨sz (by decide), rp2 _ _ _ (by omega) ⟨okE_str _ _, ?_⟩⟩)⟩
        rw [if_neg (by simp [D.cur, eqv_str, pair_pyR])]
        have lnP : ∀ (G : GH) (Q : DQ), rLenD [D.str (strOf cs)] G Q = Q (.int (cs.length : Nat)) G := fun G Q => by
          have eS : ∀ (G : GH) (x : Str), D.cur G (.str x) = .str x := fun _ _ => rfl
          simp only [rLenD, eS, D.len, strOf_len]
          rw [if_pos (sz (by omega))]
        have cI : ∀ (G : GH) (n : Int), D.cur G (.int n) = .int n := fun _ _ => rfl
        have cS : ∀ (G : GH) (x : Str), D.cur G (.str x) = .str x := fun _ _ => rfl
        simp only [lnP, cI, okL_int, DL.lt_int, true_and]
        by_cases h6 : cs.length < 6
        · rw [if_pos (by simpa using (by omega : ((cs.length : Nat) : Int) < 6))]
          refine ⟨hs, ws, rs, cs, rfl, by omega, n1, at0, ord, cne cs hc, by omega, caps_bnd51 so.val w3 (by omega), okE_si (lsD_si _) (lsD_si _) (lsD_dp _), ?_⟩
          rw [if_neg (by rw [show ∀ G : GH, D.cur G (lsD (listW rs cs)) = lsD (listW rs cs) from fun _ => rfl, (eqv_si (lsD_si _) (lsD_si _)).mpr rfl]; simp)]
          simp only [wD_cur, wD_heard]
          refine ⟨p, m4, _, _, rfl, .inr ⟨hs, rfl, rfl⟩, by rw [List.length_map]; exact h1, by rw [List.length_map]; exact so.val.sh, gput_same, fun x hx => ?_⟩
          obtain ⟨c, hcm, rfl⟩ := List.mem_map.mp hx
          rw [gput_gput]
          have hc' : ∀ a ∈ cs ++ [c], a ∈ hs := fun a ha => by
            rcases List.mem_append.mp ha with ha | ha
            · exact hc a ha
            · rw [List.mem_singleton.mp ha]; exact hcm
          simp only [rAddD, cS]
          rw [strOf_sgn]
          refine ⟨sz (by rw [strOf_len]; show _ + 1 ≤ _; omega), loR _ _ (cs ++ [c]) (by rw [List.length_append]; show _ + 1 ≤ _; omega) (loR _ _ cs (by omega) ?_)⟩
          have ll := lsl cs
          refine ⟨hs, ws, rs, c, listW rs cs, _, rfl, .inr rfl, by omega, ll.2.1, by omega, at0, ord, fun h => cne (cs ++ [c]) hc' ?_, fun x y => ?_⟩
          · have h2 : firstsW rs (cs ++ [c]) = [] := by
              have e := congrArg List.length (listW_snoc ord cs c)
              unfold stepW at e
              rw [fdW_len, h] at e
              unfold listW at e
              rw [toLs_len] at e
              exact List.length_eq_zero_iff.mp e.symm
            cases hcp : caps rs 0 (cs ++ [c]) with
            | nil => rfl
            | cons a l =>
              unfold firstsW at h2
              rw [hcp, dedS_cons, if_neg (by simp)] at h2
              cases h2
          · have it : ∀ a b c : D, D.item (.tup [a, b, c]) (.int 0) = some a := fun _ _ _ => rfl
            have cT : ∀ (G : GH) (xs : List D), D.cur G (.tup xs) = .tup xs := fun _ _ => rfl
            have cU : ∀ (G : GH) (L), D.cur G (lsU L) = lsU L := fun _ _ => rfl
            have cD : ∀ (G : GH) (L), D.cur G (lsD L) = lsD L := fun _ _ => rfl
            simp only [cT, it, listW_snoc ord, cU, cD, ls_okE, ls_eqv, true_and]
            rw [if_neg (by simp)]
            exact ⟨_, _, _, _, m4, rfl, rfl, by omega⟩
        · rw [if_neg (by simpa using (by omega : ¬ ((cs.length : Nat) : Int) < 6)), if_neg (by simp)]
          simp only [wD_cur, wD_heard]
          refine ⟨p, m4, _, _, rfl, .inr ⟨hs, rfl, rfl⟩, by rw [List.length_map]; exact h1, by rw [List.length_map]; exact so.val.sh, gput_same, fun x hx => ?_⟩
          obtain ⟨c, hcm, rfl⟩ := List.mem_map.mp hx
          rw [gput_gput]
          have hc' : ∀ a ∈ cs ++ [c], a ∈ hs := fun a ha => by
            rcases List.mem_append.mp ha with ha | ha
            · exact hc a ha
            · rw [List.mem_singleton.mp ha]; exact hcm
          simp only [rAddD, cS]
          rw [strOf_sgn]
          refine ⟨sz (by rw [strOf_len]; show _ + 1 ≤ _; omega), loR _ _ (cs ++ [c]) (by rw [List.length_append]; show _ + 1 ≤ _; omega) (loR _ _ cs (by omega) ?_)⟩
          have ll := lsl cs
          refine ⟨hs, ws, rs, c, listW rs cs, _, rfl, .inr rfl, by omega, ll.2.1, by omega, at0, ord, fun h => cne (cs ++ [c]) hc' ?_, fun x y => ?_⟩
          · have h2 : firstsW rs (cs ++ [c]) = [] := by
              have e := congrArg List.length (listW_snoc ord cs c)
              unfold stepW at e
              rw [fdW_len, h] at e
              unfold listW at e
              rw [toLs_len] at e
              exact List.length_eq_zero_iff.mp e.symm
            cases hcp : caps rs 0 (cs ++ [c]) with
            | nil => rfl
            | cons a l =>
              unfold firstsW at h2
              rw [hcp, dedS_cons, if_neg (by simp)] at h2
              cases h2
          · have it : ∀ a b c : D, D.item (.tup [a, b, c]) (.int 0) = some a := fun _ _ _ => rfl
            have cT : ∀ (G : GH) (xs : List D), D.cur G (.tup xs) = .tup xs := fun _ _ => rfl
            have cU : ∀ (G : GH) (L), D.cur G (lsU L) = lsU L := fun _ _ => rfl
            have cD : ∀ (G : GH) (L), D.cur G (lsD L) = lsD L := fun _ _ => rfl
            simp only [cT, it, listW_snoc ord, cU, cD, ls_okE, ls_eqv, true_and]
            rw [if_neg (by simp)]
            exact ⟨_, _, _, _, m4, rfl, rfl, by omega⟩
    · rintro S' G' ⟨x4, x5, x6, x7, m, rfl, rfl, hm⟩
      simp only [dxs, dl, dx3]
      refine loR _ _ [] (by decide) ?_
      have o := odd [] (by decide)
      refine repr_lsU (Odd.repr (m := 0) (n := 2) (w := 12) o (by decide) (by decide) (by decide) ⟨sz (by decide), sz (by decide), ?_⟩)
      refine Odd.repr (m := 0) (n := 2) (w := 12) o (by decide) (by decide) (by decide) ⟨okE_str _ _, ?_⟩
      rw [show D.eqv (D.cur _ (.str _)) (D.cur _ (.str _)) = true by simp [D.cur, eqv_str]]
      exact ⟨_, Sub.refl _, q _⟩
end
end Pace
end
section
set_option Elab.async false
set_option linter.all false
set_option maxRecDepth 100000
set_option maxHeartbeats 0
namespace Pace
open PySem PySem.Spec PyProof.Rows L2 DL
theorem htxt {K : PySem.W.Frag} {h : Heap} {mg : Str → Option Value} (X : K.In h) (G : h.Ns mainGlobals mg) (c : He.SaysD hfa hfn K) (cx : hex0 K = true) (ck : hkup K = true) : Txt K mg (He.ga K "Rules") where
  f_Exception := He.free_ok X G (c.fact 41 (f := .free "Exception") rfl)
  f_classmethod := He.free_ok X G (c.fact 42 (f := .free "classmethod") rfl)
  f_tuple := He.free_ok X G (c.fact 43 (f := .free "tuple") rfl)
  f_enumerate := He.free_ok X G (c.fact 44 (f := .free "enumerate") rfl)
  f_all := He.free_ok X G (c.fact 45 (f := .free "all") rfl)
  f_dict := He.free_ok X G (c.fact 46 (f := .free "dict") rfl)
  f_range := He.free_ok X G (c.fact 47 (f := .free "range") rfl)
  f_sorted := He.free_ok X G (c.fact 48 (f := .free "sorted") rfl)
  f_len := He.free_ok X G (c.fact 49 (f := .free "len") rfl)
  f_max := He.free_ok X G (c.fact 50 (f := .free "max") rfl)
  f_isinstance := He.free_ok X G (c.fact 51 (f := .free "isinstance") rfl)
  f_str := He.free_ok X G (c.fact 52 (f := .free "str") rfl)
  f_int := He.free_ok X G (c.fact 53 (f := .free "int") rfl)
  f_list := He.free_ok X G (c.fact 54 (f := .free "list") rfl)
  f_repr := He.free_ok X G (c.fact 55 (f := .free "repr") rfl)
  f_bool := He.free_ok X G (c.fact 56 (f := .free "bool") rfl)
  f_set := He.free_ok X G (c.fact 57 (f := .free "set") rfl)
  f_super := He.free_ok X G (c.fact 58 (f := .free "super") rfl)
  f_zip := He.free_ok X G (c.fact 59 (f := .free "zip") rfl)
  c_BEGIN := ⟨_, He.glo_ok X G (c.fact 60 (f := .glo "BEGIN") rfl), kup_ref ck⟩
  c_RULES_WORD := He.str_ok X G (c.fact 61 (f := .str "RULES_WORD" "rules") rfl)
  c_MOVE_WORD := He.str_ok X G (c.fact 62 (f := .str "MOVE_WORD" "move") rfl)
  c_BREAK := He.str_ok X G (c.fact 63 (f := .str "BREAK" "\n") rfl)
  c_BLANK := He.str_ok X G (c.fact 64 (f := .str "BLANK" " ") rfl)
  c_DIGITS := He.str_ok X G (c.fact 65 (f := .str "DIGITS" "0123456789") rfl)
  c_MOST_DIGITS := He.int_ok X G (c.fact 66 (f := .int "MOST_DIGITS" (3)) rfl)
  c_FIRST_PARTS := He.int_ok X G (c.fact 67 (f := .int "FIRST_PARTS" (4)) rfl)
  c_MOVE_PARTS_ruletexts := He.int_ok X G (c.fact 68 (f := .int "MOVE_PARTS_ruletexts" (5)) rfl)
  c_LETTERS := He.str_ok X G (c.fact 69 (f := .str "LETTERS" "abcdefghijklmnopqrstuvwxyz") rfl)
  c_MOST_STATES := He.int_ok X G (c.fact 70 (f := .int "MOST_STATES" (999)) rfl)
  c_MOVE_PARTS_rules := He.int_ok X G (c.fact 71 (f := .int "MOVE_PARTS_rules" (3)) rfl)
  c_NOWHERE := He.int_ok X G (c.fact 72 (f := .int "NOWHERE" (-1)) rfl)
  clR := He.cls_ok (c.fact 74 (f := .cls "Rules") rfl)
  mgR := He.glo_ok X G (c.fact 73 (f := .glo "Rules") rfl)
  insR := insB_ok (He.cls_ok (c.fact 74 (f := .cls "Rules") rfl)) (Bool.and_eq_true_iff.mp (Bool.and_eq_true_iff.mp cx).1).1
  neR := neB_ok (Bool.and_eq_true_iff.mp (Bool.and_eq_true_iff.mp cx).1).2
  sysM := sysB_ok (Bool.and_eq_true_iff.mp cx).2
  no_heard := He.noat_ok (c.fact 76 (f := .noat "Rules" "heard") rfl)
  no_written := He.noat_ok (c.fact 77 (f := .noat "Rules" "written") rfl)
  no_rows := He.noat_ok (c.fact 78 (f := .noat "Rules" "rows") rfl)
  no_steps := He.noat_ok (c.fact 79 (f := .noat "Rules" "steps") rfl)
theorem hd_states_behind {K : PySem.W.Frag} {h : Heap} {mg : Str → Option Value} (X : K.In h) (G : h.Ns mainGlobals mg) (c : He.SaysD hfa hfn K) : Def K mg "states_behind" s_states_behind := by
  obtain ⟨fd, F⟩ := c.def_ 1 (d := d_states_behind) rfl
  exact ⟨_, fd, He5.fun_of F, He.glo_ok X G (c.fact 1 (f := .glo "states_behind") rfl)⟩
theorem hd_mute {K : PySem.W.Frag} {h : Heap} {mg : Str → Option Value} (X : K.In h) (G : h.Ns mainGlobals mg) (c : He.SaysD hfa hfn K) : Def K mg "mute" s_mute := by
  obtain ⟨fd, F⟩ := c.def_ 2 (d := d_mute) rfl
  exact ⟨_, fd, He5.fun_of F, He.glo_ok X G (c.fact 2 (f := .glo "mute") rfl)⟩
theorem hd_check_full {K : PySem.W.Frag} {h : Heap} {mg : Str → Option Value} (X : K.In h) (G : h.Ns mainGlobals mg) (c : He.SaysD hfa hfn K) : Def K mg "check_full" s_check_full := by
  obtain ⟨fd, F⟩ := c.def_ 3 (d := d_check_full) rfl
  exact ⟨_, fd, He5.fun_of F, He.glo_ok X G (c.fact 3 (f := .glo "check_full") rfl)⟩
theorem hd_is_integer {K : PySem.W.Frag} {h : Heap} {mg : Str → Option Value} (X : K.In h) (G : h.Ns mainGlobals mg) (c : He.SaysD hfa hfn K) : Def K mg "is_integer" s_is_integer := by
  obtain ⟨fd, F⟩ := c.def_ 13 (d := d_is_integer) rfl
  exact ⟨_, fd, He5.fun_of F, He.glo_ok X G (c.fact 13 (f := .glo "is_integer") rfl)⟩
theorem hd_is_letter_of {K : PySem.W.Frag} {h : Heap} {mg : Str → Option Value} (X : K.In h) (G : h.Ns mainGlobals mg) (c : He.SaysD hfa hfn K) : Def K mg "is_letter_of" s_is_letter_of := by
  obtain ⟨fd, F⟩ := c.def_ 14 (d := d_is_letter_of) rfl
  exact ⟨_, fd, He5.fun_of F, He.glo_ok X G (c.fact 14 (f := .glo "is_letter_of") rfl)⟩
theorem hd_are_letters {K : PySem.W.Frag} {h : Heap} {mg : Str → Option Value} (X : K.In h) (G : h.Ns mainGlobals mg) (c : He.SaysD hfa hfn K) : Def K mg "are_letters" s_are_letters := by
  obtain ⟨fd, F⟩ := c.def_ 7 (d := d_are_letters) rfl
  exact ⟨_, fd, He5.fun_of F, He.glo_ok X G (c.fact 7 (f := .glo "are_letters") rfl)⟩
theorem hd_is_move {K : PySem.W.Frag} {h : Heap} {mg : Str → Option Value} (X : K.In h) (G : h.Ns mainGlobals mg) (c : He.SaysD hfa hfn K) : Def K mg "is_move" s_is_move := by
  obtain ⟨fd, F⟩ := c.def_ 15 (d := d_is_move) rfl
  exact ⟨_, fd, He5.fun_of F, He.glo_ok X G (c.fact 15 (f := .glo "is_move") rfl)⟩
theorem hd_is_row {K : PySem.W.Frag} {h : Heap} {mg : Str → Option Value} (X : K.In h) (G : h.Ns mainGlobals mg) (c : He.SaysD hfa hfn K) : Def K mg "is_row" s_is_row := by
  obtain ⟨fd, F⟩ := c.def_ 16 (d := d_is_row) rfl
  exact ⟨_, fd, He5.fun_of F, He.glo_ok X G (c.fact 16 (f := .glo "is_row") rfl)⟩
theorem hd_steps_of {K : PySem.W.Frag} {h : Heap} {mg : Str → Option Value} (X : K.In h) (G : h.Ns mainGlobals mg) (c : He.SaysD hfa hfn K) : Def K mg "steps_of" s_steps_of := by
  obtain ⟨fd, F⟩ := c.def_ 17 (d := d_steps_of) rfl
  exact ⟨_, fd, He5.fun_of F, He.glo_ok X G (c.fact 17 (f := .glo "steps_of") rfl)⟩
theorem hd_Rules_u__init_u_ {K : PySem.W.Frag} (c : He.SaysD hfa hfn K) : DefI K (He.ga K "Rules") "Rules.__init__" s_Rules_u__init_u_ := by
  obtain ⟨fd, F⟩ := c.def_ 41 (d := d_RI) rfl
  exact ⟨_, fd, He5.fun_of F, He.mkr_ok (c.fact 75 (f := .mkr "Rules") rfl)⟩
theorem hd__law_moves {K : PySem.W.Frag} {h : Heap} {mg : Str → Option Value} (X : K.In h) (G : h.Ns mainGlobals mg) (c : He.SaysD hfa hfn K) : Def K mg "_law_moves" s__law_moves := by
  obtain ⟨fd, F⟩ := c.def_ 28 (d := d__law_moves) rfl
  exact ⟨_, fd, He5.fun_of F, He.glo_ok X G (c.fact 28 (f := .glo "_law_moves") rfl)⟩
theorem hd__law_on {K : PySem.W.Frag} {h : Heap} {mg : Str → Option Value} (X : K.In h) (G : h.Ns mainGlobals mg) (c : He.SaysD hfa hfn K) : Def K mg "_law_on" s__law_on := by
  obtain ⟨fd, F⟩ := c.def_ 29 (d := d__law_on) rfl
  exact ⟨_, fd, He5.fun_of F, He.glo_ok X G (c.fact 29 (f := .glo "_law_on") rfl)⟩
theorem hd__law_mute {K : PySem.W.Frag} {h : Heap} {mg : Str → Option Value} (X : K.In h) (G : h.Ns mainGlobals mg) (c : He.SaysD hfa hfn K) : Def K mg "_law_mute" s__law_mute := by
  obtain ⟨fd, F⟩ := c.def_ 30 (d := d__law_mute) rfl
  exact ⟨_, fd, He5.fun_of F, He.glo_ok X G (c.fact 30 (f := .glo "_law_mute") rfl)⟩
theorem hd__law_set {K : PySem.W.Frag} {h : Heap} {mg : Str → Option Value} (X : K.In h) (G : h.Ns mainGlobals mg) (c : He.SaysD hfa hfn K) : Def K mg "_law_set" s__law_set := by
  obtain ⟨fd, F⟩ := c.def_ 31 (d := d__law_set) rfl
  exact ⟨_, fd, He5.fun_of F, He.glo_ok X G (c.fact 31 (f := .glo "_law_set") rfl)⟩
theorem hd__law_draw {K : PySem.W.Frag} {h : Heap} {mg : Str → Option Value} (X : K.In h) (G : h.Ns mainGlobals mg) (c : He.SaysD hfa hfn K) : Def K mg "_law_draw" s__law_draw := by
  obtain ⟨fd, F⟩ := c.def_ 26 (d := d__law_draw) rfl
  exact ⟨_, fd, He5.fun_of F, He.glo_ok X G (c.fact 26 (f := .glo "_law_draw") rfl)⟩
theorem hd__law_pick {K : PySem.W.Frag} {h : Heap} {mg : Str → Option Value} (X : K.In h) (G : h.Ns mainGlobals mg) (c : He.SaysD hfa hfn K) : Def K mg "_law_pick" s__law_pick := by
  obtain ⟨fd, F⟩ := c.def_ 27 (d := d__law_pick) rfl
  exact ⟨_, fd, He5.fun_of F, He.glo_ok X G (c.fact 27 (f := .glo "_law_pick") rfl)⟩
theorem hd__law_deck {K : PySem.W.Frag} {h : Heap} {mg : Str → Option Value} (X : K.In h) (G : h.Ns mainGlobals mg) (c : He.SaysD hfa hfn K) : Def K mg "_law_deck" s__law_deck := by
  obtain ⟨fd, F⟩ := c.def_ 25 (d := d__law_deck) rfl
  exact ⟨_, fd, He5.fun_of F, He.glo_ok X G (c.fact 25 (f := .glo "_law_deck") rfl)⟩
theorem hd__law_known {K : PySem.W.Frag} {h : Heap} {mg : Str → Option Value} (X : K.In h) (G : h.Ns mainGlobals mg) (c : He.SaysD hfa hfn K) : Def K mg "_law_known" s__law_known := by
  obtain ⟨fd, F⟩ := c.def_ 34 (d := d__law_known) rfl
  exact ⟨_, fd, He5.fun_of F, He.glo_ok X G (c.fact 34 (f := .glo "_law_known") rfl)⟩
theorem hd__law_speech {K : PySem.W.Frag} {h : Heap} {mg : Str → Option Value} (X : K.In h) (G : h.Ns mainGlobals mg) (c : He.SaysD hfa hfn K) : Def K mg "_law_speech" s__law_speech := by
  obtain ⟨fd, F⟩ := c.def_ 36 (d := d__law_speech) rfl
  exact ⟨_, fd, He5.fun_of F, He.glo_ok X G (c.fact 36 (f := .glo "_law_speech") rfl)⟩
theorem hd__law_drawn {K : PySem.W.Frag} {h : Heap} {mg : Str → Option Value} (X : K.In h) (G : h.Ns mainGlobals mg) (c : He.SaysD hfa hfn K) : Def K mg "_law_drawn" s__law_drawn := by
  obtain ⟨fd, F⟩ := c.def_ 32 (d := d__law_drawn) rfl
  exact ⟨_, fd, He5.fun_of F, He.glo_ok X G (c.fact 32 (f := .glo "_law_drawn") rfl)⟩
theorem hd__law_some {K : PySem.W.Frag} {h : Heap} {mg : Str → Option Value} (X : K.In h) (G : h.Ns mainGlobals mg) (c : He.SaysD hfa hfn K) : Def K mg "_law_some" s__law_some := by
  obtain ⟨fd, F⟩ := c.def_ 35 (d := d__law_some) rfl
  exact ⟨_, fd, He5.fun_of F, He.glo_ok X G (c.fact 35 (f := .glo "_law_some") rfl)⟩
theorem hd__law_made {K : PySem.W.Frag} {h : Heap} {mg : Str → Option Value} (X : K.In h) (G : h.Ns mainGlobals mg) (c : He.SaysD hfa hfn K) : Def K mg "_law_made" s__law_made := by
  obtain ⟨fd, F⟩ := c.def_ 33 (d := d__law_made) rfl
  exact ⟨_, fd, He5.fun_of F, He.glo_ok X G (c.fact 33 (f := .glo "_law_made") rfl)⟩
theorem hd_signs_at {K : PySem.W.Frag} {h : Heap} {mg : Str → Option Value} (X : K.In h) (G : h.Ns mainGlobals mg) (c : He.SaysD hfa hfn K) : Def K mg "signs_at" s_signs_at := by
  obtain ⟨fd, F⟩ := c.def_ 4 (d := d_signs_at) rfl
  exact ⟨_, fd, He5.fun_of F, He.glo_ok X G (c.fact 4 (f := .glo "signs_at") rfl)⟩
theorem hd_list_behind {K : PySem.W.Frag} {h : Heap} {mg : Str → Option Value} (X : K.In h) (G : h.Ns mainGlobals mg) (c : He.SaysD hfa hfn K) : Def K mg "list_behind" s_list_behind := by
  obtain ⟨fd, F⟩ := c.def_ 5 (d := d_list_behind) rfl
  exact ⟨_, fd, He5.fun_of F, He.glo_ok X G (c.fact 5 (f := .glo "list_behind") rfl)⟩
theorem hd_list_of {K : PySem.W.Frag} {h : Heap} {mg : Str → Option Value} (X : K.In h) (G : h.Ns mainGlobals mg) (c : He.SaysD hfa hfn K) : Def K mg "list_of" s_list_of := by
  obtain ⟨fd, F⟩ := c.def_ 6 (d := d_list_of) rfl
  exact ⟨_, fd, He5.fun_of F, He.glo_ok X G (c.fact 6 (f := .glo "list_of") rfl)⟩
theorem hd__law_step {K : PySem.W.Frag} {h : Heap} {mg : Str → Option Value} (X : K.In h) (G : h.Ns mainGlobals mg) (c : He.SaysD hfa hfn K) : Def K mg "_law_step" s__law_step := by
  obtain ⟨fd, F⟩ := c.def_ 37 (d := d__law_step) rfl
  exact ⟨_, fd, He5.fun_of F, He.glo_ok X G (c.fact 37 (f := .glo "_law_step") rfl)⟩
theorem hd__law_list {K : PySem.W.Frag} {h : Heap} {mg : Str → Option Value} (X : K.In h) (G : h.Ns mainGlobals mg) (c : He.SaysD hfa hfn K) : Def K mg "_law_list" s__law_list := by
  obtain ⟨fd, F⟩ := c.def_ 38 (d := d__law_list) rfl
  exact ⟨_, fd, He5.fun_of F, He.glo_ok X G (c.fact 38 (f := .glo "_law_list") rfl)⟩
theorem hd__law_by_captions {K : PySem.W.Frag} {h : Heap} {mg : Str → Option Value} (X : K.In h) (G : h.Ns mainGlobals mg) (c : He.SaysD hfa hfn K) : Def K mg "_law_by_captions" s__law_by_captions := by
  obtain ⟨fd, F⟩ := c.def_ 39 (d := d__law_by_captions) rfl
  exact ⟨_, fd, He5.fun_of F, He.glo_ok X G (c.fact 39 (f := .glo "_law_by_captions") rfl)⟩
theorem hfacts {P : Program} {w : World} {K : PySem.W.Frag} {h : Heap} {mg : Str → Option Value} {f : Addr} (X : K.In h) (G : h.Ns mainGlobals mg) (hfa0 : mg ("law" : Str) = some (.ref f)) (c : He.SaysD hfa hfn K) (cx : hex0 K = true) (ck : hkup K = true) :
    ∃ fd : FuncData, (∀ (s : Shared) (v : Value), BindsTo s fd ⟨[v], []⟩ [("_law_script", v)]) ∧ ∀ base : Heap, K.In base → base.Ns mainGlobals mg → FnG P w K mg base CX0 12 f fd ["_law_script"] (SpOf K (spLaw 63)) := by
  obtain ⟨fd, F⟩ := c.def_ 40 (d := d_law) rfl
  have e := hfa0.symm.trans (He.glo_ok X G (c.fact 40 (f := .glo "law") rfl))
  cases e
  have b := FunD.bindsA (ps := ["_law_script"]) F fun _ _ _ _ _ _ us hl => match us, hl with | [_], _ => rfl
  have T := htxt X G c cx ck
  refine ⟨fd, fun s v => b s [v] rfl, fun base _ _ => ?_⟩
  have q_states_behind := c_states_behind (P := P) (w := w) (base := base) T (hd_states_behind X G c)
  have q_mute := c_mute (P := P) (w := w) (base := base) T (hd_mute X G c) q_states_behind
  have q_check_full := c_check_full (P := P) (w := w) (base := base) T (hd_check_full X G c) q_mute
  have q_is_integer := c_is_integer (P := P) (w := w) (base := base) T (hd_is_integer X G c)
  have q_is_letter_of := c_is_letter_of (P := P) (w := w) (base := base) T (hd_is_letter_of X G c)
  have q_are_letters := c_are_letters (P := P) (w := w) (base := base) T (hd_are_letters X G c)
  have q_is_move := c_is_move (P := P) (w := w) (base := base) T (hd_is_move X G c) q_is_letter_of q_is_integer
  have q_is_row := c_is_row (P := P) (w := w) (base := base) T (hd_is_row X G c) q_is_move
  have q_steps_of := c_steps_of (P := P) (w := w) (base := base) T (hd_steps_of X G c)
  have q_Rules_u__init_u_ := c_Rules_u__init_u_ (P := P) (w := w) (base := base) T (hd_Rules_u__init_u_ c) q_are_letters q_is_row q_steps_of
  have q__law_moves := c__law_moves (P := P) (w := w) (base := base) T (hd__law_moves X G c)
  have q__law_on := c__law_on (P := P) (w := w) (base := base) T (hd__law_on X G c) q__law_moves
  have q__law_mute := c__law_mute (P := P) (w := w) (base := base) T (hd__law_mute X G c) q__law_on
  have q__law_set := c__law_set (P := P) (w := w) (base := base) T (hd__law_set X G c)
  have q__law_draw := c__law_draw (P := P) (w := w) (base := base) T (hd__law_draw X G c)
  have q__law_pick := c__law_pick (P := P) (w := w) (base := base) T (hd__law_pick X G c) q__law_draw
  have q__law_deck := c__law_deck (P := P) (w := w) (base := base) T (hd__law_deck X G c)
  have q__law_known := c__law_known (P := P) (w := w) (base := base) T (hd__law_known X G c) q__law_draw
  have q__law_speech := c__law_speech (P := P) (w := w) (base := base) T (hd__law_speech X G c) q__law_pick q__law_draw
  have q__law_drawn := c__law_drawn (P := P) (w := w) (base := base) T (hd__law_drawn X G c) q__law_draw q__law_pick q__law_on q__law_mute q__law_set
  have q__law_some := c__law_some (P := P) (w := w) (base := base) T (hd__law_some X G c) q__law_draw q__law_known q__law_pick q__law_drawn
  have q__law_made := c__law_made (P := P) (w := w) (base := base) T (hd__law_made X G c) q_Rules_u__init_u_
  have q_signs_at := c_signs_at (P := P) (w := w) (base := base) T (hd_signs_at X G c)
  have q_list_behind := c_list_behind (P := P) (w := w) (base := base) T (hd_list_behind X G c) q_signs_at
  have q_list_of := c_list_of (P := P) (w := w) (base := base) T (hd_list_of X G c) q_check_full q_list_behind
  have q__law_step := c__law_step (P := P) (w := w) (base := base) T (hd__law_step X G c) q__law_moves
  have q__law_list := c__law_list (P := P) (w := w) (base := base) T (hd__law_list X G c) q__law_step
  have q__law_by_captions := c__law_by_captions (P := P) (w := w) (base := base) T (hd__law_by_captions X G c) q__law_moves
  exact c_law (P := P) (w := w) (base := base) T (He5.fun_of F) q__law_deck q__law_some q__law_made q__law_draw q__law_speech q_list_of.2 q_list_of.1 q__law_list q__law_by_captions q__law_pick q__law_step
end Pace
open PySem PySem.W PySem.Calls PyProof.Rows
theorem PySem.Challenge.cw_pacehouse_k51_lists_of_speeches_holds : PySem.Challenge.rw_pacehouse_k51_lists_of_speeches.Holds := by
  w_on; o_law
  refine HandSHeadRun.head_any (r := OpenLaw.row PySem.Challenge.rw_pacehouse_k51_lists_of_speeches) (q := view (OpenLaw.row PySem.Challenge.rw_pacehouse_k51_lists_of_speeches).prog [66]) (H := Pace.hhk) (ob := Pace.hob) (M := 20000) (loose := Pace.hnm) (d := HandSHeadRun.topDef (OpenLaw.row PySem.Challenge.rw_pacehouse_k51_lists_of_speeches).prog 66) (kwd := []) Pace.hob_eq
    (by kernel_rfl) (fun s => by kernel_rfl) Pace.hrun (by kernel_rfl) (by kernel_rfl) (by kernel_rfl) (by rfl) (by first | assumption | decide +kernel) (by decide +kernel) ⟨rfl, rfl, rfl, rfl, rfl, by decide +kernel⟩ ?hw ?hc
  case hw => w_witness2
  case hc =>
    refine DL.walk_G (l := PySem.Challenge.rw_pacehouse_k51_lists_of_speeches) (n := 63) (k := 12) (x := "_law_script") rfl (by decide) (by kernel_rfl) ⟨rfl, by decide, by decide⟩ ?F
    intro w mg fa h Y G hmg0
    obtain ⟨K, KX, c, cxx⟩ := Y
    have cx := (Bool.and_eq_true_iff.mp cxx).1
    have ck := (Bool.and_eq_true_iff.mp cxx).2
    have hmg : mg ("law" : PySem.Str) = some (.ref fa) := by
      have e : (HandSHeadRun.topDef (OpenLaw.row PySem.Challenge.rw_pacehouse_k51_lists_of_speeches).prog 66).name = ("law" : PySem.Str) := by kernel_rfl
      rw [← e]
      exact hmg0
    obtain ⟨fd, hb, hF⟩ := Pace.hfacts (P := (PySem.Challenge.rw_pacehouse_k51_lists_of_speeches).prog) (w := w) KX G hmg c cx ck
    exact ⟨K, fd, KX, hb, hF⟩
end
