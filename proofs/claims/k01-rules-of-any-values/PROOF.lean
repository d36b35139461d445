import PyProof.Rows.All
import Wide.All
import OpenK.AllK
import Wide.FinOn
import KE.KStateDown
import Lean
import HandS.ForMost
import HandS.Lambda
import HandS.ForExc
import KE.KDictKeyed
import KE.DataCmp
import KE.DataEq
import KE.DataFind
import KE.DataIsa
import KE.SortData
import HandS.TupAny
import HandS.TupLen
import HandS.Conv
import HandS.IsInst
import HandS.Text
import HandS.Sort
import HandS.More
import HandS.Zip
import HandS.Style
import KE.GoesEnum
import KE.GoesZip
import KE.GoesMore
import KE.KDictDisplayH
import PyProof.ReprRoads
import HandS.SetFor
import HandS.Strs
import HandS.Set
import KE.KDictPairs
import HandS.ListItems
import HandS.Codes
import HandS.HeadHook1
import HandS.HeadHook2
import KE.KDictZip
import PyProof.InstSpecial
import PyProof.AutoSeq1
import PyProof.NeKinds
import HandS.FStr
import HandS.TupMul
import HandS.RaiseMore
import KE.KCallOwn
import HandS.ClsMeth
import KE.GoesEnumKw
import HandS.Replace
import HandS.Star
import HandS.Deep
import KE.KDictSum
import HandS.TupSets
import KE.KDictWalk
import HandS.NoneIn
import HandS.DictComp
import PyProof.Rows.RowHeap
import HandS.ExcSuper
import HandS.ExcOwn
import HandS.ExcIs
import HandS.ExcField
import KE.KExcMake
import KE.KSuper
import HandS.ExcInit
import KE.KExcIs
import HandS.Property
import PySem.Challenge.RW_pacehouse_k01_rules_of_any_values
import HandS.Head0
import HandS.Base
import HandS.Call
import HandS.Ends
import HandS.Words
import HandS.WordsExc
import HandS.Defaults
import HandS.Head1
import HandS.Head2
import HandS.HeadEnd
import HandS.HeadNt
import KE.DatumOrd
import KE.KDictList
import PyProof.DictValues
import PyProof.Rows.StrRev
import PyProof.CollectStr
import PyProof.ListStr
import PyProof.StrLawsFirst
import KE.DataMinMax
import HandS.SortKw
import PyProof.StrWalks
import PyProof.FactsAll.subtypes_3
section
set_option Elab.async false
set_option linter.all false
set_option maxRecDepth 100000
set_option maxHeartbeats 4000000
namespace DL
open PySem PySem.Spec PyProof.Rows L2
inductive D where
  | non | bl (b : Bool) | int (i : Int) | str (x : Str) | ty (n : String)
  | tup (xs : List D) | lst (xs : List D)
  | dK (kvs : List (Key × D)) | dT (kvs : List (List Key × D))
  | obj (C : Addr) (fs : List (Str × D))
  | rf (a : Addr)
  | scr (ns : List Int)
  | kup (xs : List D)
def Ex (F F' : Hp) : Prop := ∀ a o, F a = some o → F' a = some o
theorem Ex.refl (F : Hp) : Ex F F := fun _ _ h => h
theorem Ex.trans {F F1 F2 : Hp} (a : Ex F F1) (b : Ex F1 F2) : Ex F F2 := fun x o h => b x o (a x o h)
theorem Ex.new {F : Hp} {p : Addr} {o : HO} (h : F p = none) : Ex F (upd F p o) := fun a u e => by
  by_cases q : a = p
  · subst q; rw [h] at e; cases e
  · rw [upd_ne q]; exact e
theorem Ex.nope {F H : Hp} (e : Ex F H) {p : Addr} (h : H p = none) : F p = none := by
  cases q : F p with
  | none => rfl
  | some o => rw [e p o q] at h; cases h
theorem Ex.upds {F H : Hp} (e : Ex F H) {p : Addr} (o : HO) : Ex (upd F p o) (upd H p o) := fun a u h => by
  by_cases q : a = p
  · subst q; rw [upd_same] at h ⊢; exact h
  · rw [upd_ne q] at h ⊢; exact e a u h
theorem Ex.updR {F H : Hp} (e : Ex F H) {p : Addr} {o : HO} (h : F p = none) : Ex F (upd H p o) := fun a u z => by
  by_cases q : a = p
  · subst q; rw [h] at z; cases z
  · rw [upd_ne q]; exact e a u z
theorem Ex.rd {F F' : Hp} {a : Addr} {u : HO} (e : Ex F F') (h : Rd F a u) : Rd F' a u := by
  rcases h with h | ⟨o, h⟩
  · exact .inl (e _ _ h)
  · exact .inr ⟨o, e _ _ h⟩
theorem Ex.sql {K : PySem.W.Frag} {F F' : Hp} {a : Addr} {xs : List V} (e : Ex F F') (h : SqL K F a xs) : SqL K F' a xs := by
  rcases h with h | h
  · exact .inl (e.rd h)
  · exact .inr h
theorem Ex.sqt {K : PySem.W.Frag} {F F' : Hp} {a : Addr} {xs : List V} (e : Ex F F') (h : SqT K F a xs) : SqT K F' a xs := by
  rcases h with h | h
  · exact .inl (e.rd h)
  · exact .inr h
mutual
inductive Rep (K : PySem.W.Frag) (F : Hp) : V → D → Prop
  | non : Rep K F .non .non
  | bl (b : Bool) : Rep K F (.bl b) (.bl b)
  | int (i : Int) : Rep K F (.int i) (.int i)
  | str (x : Str) : Rep K F (.str x) (.str x)
  | ty (n : String) : Rep K F (.ty n) (.ty n)
  | tup {a : Addr} {vs : List V} {ds : List D} : F a = some (.tup vs) → Reps K F vs ds → Rep K F (.ref a) (.tup ds)
  | lst {a : Addr} {vs : List V} {ds : List D} : F a = some (.lst vs) → Reps K F vs ds → Rep K F (.ref a) (.lst ds)
  | dK {a : Addr} {kvs : List (Key × V)} {kds : List (Key × D)} : F a = some (.dK kvs) → kvs.map (·.1) = kds.map (·.1) → Reps K F (kvs.map (·.2)) (kds.map (·.2)) → Rep K F (.ref a) (.dK kds)
  | dT {a : Addr} {kvs : List (List Key × V)} {kds : List (List Key × D)} : F a = some (.dT kvs) → kvs.map (·.1) = kds.map (·.1) → Reps K F (kvs.map (·.2)) (kds.map (·.2)) → Rep K F (.ref a) (.dT kds)
  | obj {a C dx : Addr} {kvs : List (Str × V)} {kds : List (Str × D)} : F a = some (.ins C dx kvs) → kvs.map (·.1) = kds.map (·.1) → Reps K F (kvs.map (·.2)) (kds.map (·.2)) → Rep K F (.ref a) (.obj C kds)
  | rf (a : Addr) : Rep K F (.ref a) (.rf a)
  | scr {a : Addr} {ns : List Int} : SqL K F a (ns.map V.int) → Rep K F (.ref a) (.scr ns)
  | kup {a : Addr} {vs : List V} {ds : List D} : SqT K F a vs → Reps K F vs ds → Rep K F (.ref a) (.kup ds)
inductive Reps (K : PySem.W.Frag) (F : Hp) : List V → List D → Prop
  | nil : Reps K F [] []
  | cons {v : V} {vs : List V} {d : D} {ds : List D} : Rep K F v d → Reps K F vs ds → Reps K F (v :: vs) (d :: ds)
end
mutual
theorem Rep.mono {K : PySem.W.Frag} {F F' : Hp} (e : Ex F F') : ∀ {v : V} {d : D}, Rep K F v d → Rep K F' v d
  | _, _, .non => .non
  | _, _, .bl b => .bl b
  | _, _, .int i => .int i
  | _, _, .str x => .str x
  | _, _, .ty n => .ty n
  | _, _, .tup h r => .tup (e _ _ h) (Reps.mono e r)
  | _, _, .lst h r => .lst (e _ _ h) (Reps.mono e r)
  | _, _, .dK h l r => .dK (e _ _ h) l (Reps.mono e r)
  | _, _, .dT h l r => .dT (e _ _ h) l (Reps.mono e r)
  | _, _, .obj h l r => .obj (e _ _ h) l (Reps.mono e r)
  | _, _, .rf a => .rf a
  | _, _, .scr h => .scr (e.sql h)
  | _, _, .kup h r => .kup (e.sqt h) (Reps.mono e r)
theorem Reps.mono {K : PySem.W.Frag} {F F' : Hp} (e : Ex F F') : ∀ {vs : List V} {ds : List D}, Reps K F vs ds → Reps K F' vs ds
  | _, _, .nil => .nil
  | _, _, .cons h t => .cons (Rep.mono e h) (Reps.mono e t)
end
section
variable {K : PySem.W.Frag} {F : Hp}
theorem Reps.length : ∀ {vs : List V} {ds : List D}, Reps K F vs ds → vs.length = ds.length
  | _, _, .nil => rfl
  | _, _, .cons _ t => congrArg (· + 1) (Reps.length t)
theorem Reps.get : ∀ {vs : List V} {ds : List D} {i : Nat} {d : D}, Reps K F vs ds → ds[i]? = some d → ∃ v, vs[i]? = some v ∧ Rep K F v d
  | _, _, _, _, .nil, e => by simp at e
  | _, _, 0, _, .cons r _, e => by simp at e; subst e; exact ⟨_, rfl, r⟩
  | _, _, i + 1, _, .cons _ t, e => by
    obtain ⟨v, h1, h2⟩ := Reps.get (i := i) t (by simpa using e)
    exact ⟨v, by simpa using h1, h2⟩
theorem Reps.get' : ∀ {vs : List V} {ds : List D} {i : Nat} {v : V}, Reps K F vs ds → vs[i]? = some v → ∃ d, ds[i]? = some d ∧ Rep K F v d
  | _, _, _, _, .nil, e => by simp at e
  | _, _, 0, _, .cons r _, e => by simp at e; subst e; exact ⟨_, rfl, r⟩
  | _, _, i + 1, _, .cons _ t, e => by
    obtain ⟨v, h1, h2⟩ := Reps.get' (i := i) t (by simpa using e)
    exact ⟨v, by simpa using h1, h2⟩
theorem Reps.append : ∀ {vs vs' : List V} {ds ds' : List D}, Reps K F vs ds → Reps K F vs' ds' → Reps K F (vs ++ vs') (ds ++ ds')
  | _, _, _, _, .nil, s => s
  | _, _, _, _, .cons r t, s => .cons r (Reps.append t s)
theorem Reps.one {v : V} {d : D} (h : Rep K F v d) : Reps K F [v] [d] := .cons h .nil
theorem Reps.set {v : V} {d : D} (h : Rep K F v d) : ∀ {vs : List V} {ds : List D} (i : Nat), Reps K F vs ds → Reps K F (vs.set i v) (ds.set i d)
  | _, _, _, .nil => .nil
  | _, _, 0, .cons _ t => .cons h t
  | _, _, i + 1, .cons r t => .cons r (Reps.set h i t)
theorem Reps.take : ∀ {vs : List V} {ds : List D} (n : Nat), Reps K F vs ds → Reps K F (vs.take n) (ds.take n)
  | _, _, 0, _ => .nil
  | _, _, _ + 1, .nil => .nil
  | _, _, n + 1, .cons r t => .cons r (Reps.take n t)
theorem Reps.drop : ∀ {vs : List V} {ds : List D} (n : Nat), Reps K F vs ds → Reps K F (vs.drop n) (ds.drop n)
  | _, _, 0, r => r
  | _, _, _ + 1, .nil => .nil
  | _, _, n + 1, .cons _ t => Reps.drop n t
theorem Reps.reverse {vs : List V} {ds : List D} (r : Reps K F vs ds) : Reps K F vs.reverse ds.reverse := by
  induction vs generalizing ds with
  | nil => cases r; exact .nil
  | cons v vs ih =>
    cases r with
    | cons h t =>
      rw [List.reverse_cons, List.reverse_cons]
      exact (ih t).append (.one h)
end
inductive MO where
  | lst (xs : List D) | dK (kvs : List (Key × D)) | dT (kvs : List (List Key × D))
  | ins (C : Addr) (fs : List (Str × D))
  | deck (k1 k2 k3 : Str) (n : Nat)
  | dcell
  | lkT (o : Obj) (kvs : List (List Key × V)) (kds : List (List Key × D))
  | lkK (o : Obj) (kvs : List (Key × V)) (kds : List (Key × D))
  | dN (w : World) (kds : List (NestedKey × D))
  | lkN (w : World) (o : Obj) (xs : List (NestedKey × Addr × Value)) (kds : List (NestedKey × D))
  | dU (w : World) (kds : List (NestedKey × D))
  | lkU (w : World) (o : Obj) (xs : List (NestedKey × Addr × Value)) (kds : List (NestedKey × D))
  | tupU (o : Obj) (vs : List V) (ds : List D)
  | tab (q : Str)
abbrev GH := Addr → Option MO
def gput (G : GH) (a : Addr) (o : MO) : GH := fun b => if b = a then some o else G b
def gdel (G : GH) (a : Addr) : GH := fun b => if b = a then none else G b
theorem gput_same {G : GH} {a : Addr} {o : MO} : gput G a o a = some o := by unfold gput; rw [if_pos rfl]
theorem gput_ne {G : GH} {a b : Addr} {o : MO} (h : b ≠ a) : gput G a o b = G b := by unfold gput; rw [if_neg h]
theorem gput_gput {G : GH} {a : Addr} {o o' : MO} : gput (gput G a o) a o' = gput G a o' := by
  funext b
  by_cases h : b = a
  · subst h; rw [gput_same, gput_same]
  · rw [gput_ne h, gput_ne h, gput_ne h]
theorem gput_self {G : GH} {a : Addr} {o : MO} (h : G a = some o) : gput G a o = G := by
  funext b
  by_cases q : b = a
  · subst q; rw [gput_same, h]
  · rw [gput_ne q]
def deckOk (F H : Hp) (G : GH) (a : Addr) (k1 k2 k3 : Str) (n : Nat) : Prop :=
  ∃ (c : Addr) (g t : Int) (ns : List Int), H a = some (.dK [(.inr k1, .ref c), (.inr k2, .int g), (.inr k3, .int t)]) ∧ H c = some (.lst (ns.map V.int)) ∧ G c = some .dcell ∧
    0 ≤ t ∧ t + n ≤ 1099511627776 ∧ 0 ≤ g ∧ g < 4294967296 ∧ ns.length ≤ 63
/-- a dict whose keys are tuples of any depth: what stands at its own place -/
def RawN (w : World) (a : Addr) (xs : List (NestedKey × Addr × Value)) (h : Heap) : Prop :=
  (a == sysModules) = false ∧ ∃ o es ep, h.get? a = some o ∧ o.ExactDict ∧ o.data = .dict es ep ∧ es.toList = xs.map (fun x => ({ hash := x.1.hash w, key := .ref x.2.1, val := x.2.2 } : DictEntry)) ∧ (xs.map (·.1)).Nodup
mutual
/-- data as a key -/
def D.nkey : D → Option NestedKey
  | .non => some .none
  | .int i => some (.num i)
  | .str x => some (.text x)
  | .tup ds => (D.nkeys ds).map .tup
  | _ => none
def D.nkeys : List D → Option (List NestedKey)
  | [] => some []
  | d :: ds => match d.nkey, D.nkeys ds with
    | some k, some ks => some (k :: ks)
    | _, _ => none
end
def KN (K : PySem.W.Frag) (F : Hp) : List (NestedKey × D) → List (NestedKey × Addr × Value) → Prop := Paired fun p q => p.1 = q.1 ∧ (∃ d : D, d.nkey = some p.1 ∧ p.1.depth ≤ 8 ∧ Rep K F (.ref q.2.1) d) ∧ ∃ v, RelV v q.2.2 ∧ Rep K F v p.2
mutual
/-- a key as data, by tuples that may be the module's own -/
def kToU : NestedKey → D
  | .none => .non
  | .num i => .int i
  | .text x => .str x
  | .tup ks => .kup (ksToU ks)
def ksToU : List NestedKey → List D
  | [] => []
  | k :: ks => kToU k :: ksToU ks
end
def KU (K : PySem.W.Frag) (F : Hp) : List (NestedKey × D) → List (NestedKey × Addr × Value) → Prop := Paired fun p q => p.1 = q.1 ∧ p.1.depth ≤ 8 ∧ Rep K F (.ref q.2.1) (kToU p.1) ∧ ∃ v, RelV v q.2.2 ∧ Rep K F v p.2
def MRep (K : PySem.W.Frag) (F H : Hp) (G : GH) (a : Addr) : MO → Prop
  | .lst ds => ∃ vs, H a = some (.lst vs) ∧ Reps K F vs ds
  | .dK kds => ∃ kvs, H a = some (.dK kvs) ∧ kvs.map (·.1) = kds.map (·.1) ∧ Reps K F (kvs.map (·.2)) (kds.map (·.2))
  | .dT kds => ∃ kvs, H a = some (.dT kvs) ∧ kvs.map (·.1) = kds.map (·.1) ∧ Reps K F (kvs.map (·.2)) (kds.map (·.2))
  | .ins C kds => ∃ dx kvs, H a = some (.ins C dx kvs) ∧ kvs.map (·.1) = kds.map (·.1) ∧ Reps K F (kvs.map (·.2)) (kds.map (·.2))
  | .deck k1 k2 k3 n => deckOk F H G a k1 k2 k3 n
  | .dcell => ∃ xs, H a = some (.lst xs)
  | .lkT o kvs kds => H a = some (.frz o (.dT kvs)) ∧ kvs.map (·.1) = kds.map (·.1) ∧ Reps K F (kvs.map (·.2)) (kds.map (·.2))
  | .lkK o kvs kds => H a = some (.frz o (.dK kvs)) ∧ kvs.map (·.1) = kds.map (·.1) ∧ Reps K F (kvs.map (·.2)) (kds.map (·.2))
  | .dN w kds => ∃ xs, H a = some (.ext (RawN w a xs)) ∧ kds.length ≤ sizeLine ∧ KN K F kds xs
  | .lkN w o xs kds => H a = some (.frz o (.ext (RawN w a xs))) ∧ kds.length ≤ sizeLine ∧ KN K F kds xs
  | .dU w kds => ∃ xs, H a = some (.ext (RawN w a xs)) ∧ kds.length ≤ sizeLine ∧ KU K F kds xs
  | .lkU w o xs kds => H a = some (.frz o (.ext (RawN w a xs))) ∧ kds.length ≤ sizeLine ∧ KU K F kds xs
  | .tupU o vs ds => H a = some (.frz o (.tup vs)) ∧ o.dict = none ∧ o.cls = .type "tuple" ∧ Reps K F vs ds
  | .tab q => ∃ ps : Array Value, H a = some (.tbl ps) ∧ TriplesOk ps.toList ∧ ∀ (pos : Pos) (cv : Value), codeAmong pos ps.toList = some cv → ∃ c, cv = .ref c ∧ F c = some (LamX.CodeO c q)
structure Gok (K : PySem.W.Frag) (F H : Hp) (G : GH) : Prop where
  ex : Ex F H
  at_ : ∀ a o, G a = some o → F a = none ∧ MRep K F H G a o
  one : ∀ a b k1 k2 k3 n j1 j2 j3 m, G a = some (.deck k1 k2 k3 n) → G b = some (.deck j1 j2 j3 m) → a = b
section
variable {K : PySem.W.Frag} {F H : Hp} {G : GH}
theorem MRep.isAt {a : Addr} {o : MO} (h : MRep K F H G a o) : ∃ u, H a = some u := by
  cases o with
  | lst xs => obtain ⟨vs, e, _⟩ := h; exact ⟨_, e⟩
  | dK kds => obtain ⟨vs, e, _⟩ := h; exact ⟨_, e⟩
  | dT kds => obtain ⟨vs, e, _⟩ := h; exact ⟨_, e⟩
  | ins C kds => obtain ⟨dx, vs, e, _⟩ := h; exact ⟨_, e⟩
  | deck k1 k2 k3 n => obtain ⟨c, g, t, ns, e, _⟩ := h; exact ⟨_, e⟩
  | dcell => obtain ⟨xs, e⟩ := h; exact ⟨_, e⟩
  | lkT o kvs kds => exact ⟨_, h.1⟩
  | lkK o kvs kds => exact ⟨_, h.1⟩
  | dN w kds => obtain ⟨xs, e, _⟩ := h; exact ⟨_, e⟩
  | lkN w o xs kds => exact ⟨_, h.1⟩
  | dU w kds => obtain ⟨xs, e, _⟩ := h; exact ⟨_, e⟩
  | lkU w o xs kds => exact ⟨_, h.1⟩
  | tupU o vs ds => exact ⟨_, h.1⟩
  | tab q => obtain ⟨ps, e, _⟩ := h; exact ⟨_, e⟩
theorem Gok.free (g : Gok K F H G) {p : Addr} (h : H p = none) : G p = none := by
  cases q : G p with
  | none => rfl
  | some o =>
    obtain ⟨u, e⟩ := (g.at_ p o q).2.isAt
    rw [e] at h; cases h
theorem MRep.move {F' H' : Hp} {G' : GH} {a : Addr} {o : MO} (h : MRep K F H G a o) (e : Ex F F') (k : ∀ b u, H b = some u → (b = a ∨ G b = some .dcell) → H' b = some u) (g : ∀ c, G c = some .dcell → G' c = some .dcell) : MRep K F' H' G' a o := by
  cases o with
  | lst xs =>
    obtain ⟨vs, e1, r⟩ := h
    exact ⟨vs, k _ _ e1 (.inl rfl), r.mono e⟩
  | dK kds =>
    obtain ⟨vs, e1, l, r⟩ := h
    exact ⟨vs, k _ _ e1 (.inl rfl), l, r.mono e⟩
  | dT kds =>
    obtain ⟨vs, e1, l, r⟩ := h
    exact ⟨vs, k _ _ e1 (.inl rfl), l, r.mono e⟩
  | ins C kds =>
    obtain ⟨dx, vs, e1, l, r⟩ := h
    exact ⟨dx, vs, k _ _ e1 (.inl rfl), l, r.mono e⟩
  | deck k1 k2 k3 n =>
    obtain ⟨c, g0, t, ns, e1, e2, gc, hz⟩ := h
    exact ⟨c, g0, t, ns, k _ _ e1 (.inl rfl), k _ _ e2 (.inr gc), g c gc, hz⟩
  | dcell =>
    obtain ⟨xs, e1⟩ := h
    exact ⟨xs, k _ _ e1 (.inl rfl)⟩
  | lkT o kvs kds => exact ⟨k _ _ h.1 (.inl rfl), h.2.1, h.2.2.mono e⟩
  | lkK o kvs kds => exact ⟨k _ _ h.1 (.inl rfl), h.2.1, h.2.2.mono e⟩
  | dN w kds =>
    obtain ⟨xs, e1, hz, r⟩ := h
    exact ⟨xs, k _ _ e1 (.inl rfl), hz, Paired.mapP r fun _ _ ⟨z1, ⟨d, z2, zd, z3⟩, v, z4, z5⟩ => ⟨z1, ⟨d, z2, zd, z3.mono e⟩, v, z4, z5.mono e⟩⟩
  | lkN w o xs kds =>
    obtain ⟨e1, hz, r⟩ := h
    exact ⟨k _ _ e1 (.inl rfl), hz, Paired.mapP r fun _ _ ⟨z1, ⟨d, z2, zd, z3⟩, v, z4, z5⟩ => ⟨z1, ⟨d, z2, zd, z3.mono e⟩, v, z4, z5.mono e⟩⟩
  | dU w kds =>
    obtain ⟨xs, e1, hz, r⟩ := h
    exact ⟨xs, k _ _ e1 (.inl rfl), hz, Paired.mapP r fun _ _ ⟨z1, z2, z3, v, z4, z5⟩ => ⟨z1, z2, z3.mono e, v, z4, z5.mono e⟩⟩
  | lkU w o xs kds =>
    obtain ⟨e1, hz, r⟩ := h
    exact ⟨k _ _ e1 (.inl rfl), hz, Paired.mapP r fun _ _ ⟨z1, z2, z3, v, z4, z5⟩ => ⟨z1, z2, z3.mono e, v, z4, z5.mono e⟩⟩
  | tupU o vs ds => exact ⟨k _ _ h.1 (.inl rfl), h.2.1, h.2.2.1, h.2.2.2.mono e⟩
  | tab q =>
    obtain ⟨ps, e1, ht, ha⟩ := h
    exact ⟨ps, k _ _ e1 (.inl rfl), ht, fun pos cv hc => by obtain ⟨c, e2, e3⟩ := ha pos cv hc; exact ⟨c, e2, e _ _ e3⟩⟩
/-- the heap grows, frozen things with it -/
structure Gr (F H F' H' : Hp) : Prop where
  ff : Ex F F'
  fh : Ex F' H'
  hh : Ex H H'
  no : ∀ a u, H a = some u → F a = none → F' a = none
theorem Gok.grow (g : Gok K F H G) {F' H' : Hp} (r : Gr F H F' H') : Gok K F' H' G where
  ex := r.fh
  at_ := fun a o e => by
    obtain ⟨f, m⟩ := g.at_ a o e
    obtain ⟨u, hu⟩ := m.isAt
    exact ⟨r.no a u hu f, m.move r.ff (fun b u q _ => r.hh b u q) (fun c z => z)⟩
  one := g.one
theorem Gr.new (e : Ex F H) {p : Addr} {u : HO} (h : H p = none) : Gr F H (upd F p u) (upd H p u) where
  ff := Ex.new (e.nope h)
  fh := e.upds u
  hh := Ex.new h
  no := fun a w ha fa => by
    have q : a ≠ p := fun q => by rw [q, h] at ha; cases ha
    rw [upd_ne q]; exact fa
theorem Gr.only (e : Ex F H) {p : Addr} {u : HO} (h : H p = none) : Gr F H F (upd H p u) where
  ff := Ex.refl F
  fh := e.updR (e.nope h)
  hh := Ex.new h
  no := fun a w ha fa => fa
theorem Gr.refl (e : Ex F H) : Gr F H F H := ⟨Ex.refl F, e, Ex.refl H, fun _ _ _ z => z⟩
/-- fewer things that may change -/
structure Sub (G' G : GH) : Prop where
  le : ∀ a o, G' a = some o → G a = some o
  dc : ∀ c, G c = some .dcell → G' c = some .dcell
theorem Sub.refl (G : GH) : Sub G G := ⟨fun _ _ z => z, fun _ z => z⟩
theorem Sub.trans {G1 G2 G3 : GH} (a : Sub G1 G2) (b : Sub G2 G3) : Sub G1 G3 := ⟨fun x o z => b.le x o (a.le x o z), fun c z => a.dc c (b.dc c z)⟩
theorem Gok.sub (g : Gok K F H G) {G' : GH} (h : Sub G' G) : Gok K F H G' where
  ex := g.ex
  at_ := fun a o e => by
    obtain ⟨f, m⟩ := g.at_ a o (h.le a o e)
    exact ⟨f, m.move (Ex.refl F) (fun b u q _ => q) h.dc⟩
  one := fun a b k1 k2 k3 n j1 j2 j3 m e1 e2 => g.one a b k1 k2 k3 n j1 j2 j3 m (h.le _ _ e1) (h.le _ _ e2)
def MO.isDeck : MO → Bool
  | .deck _ _ _ _ => true
  | .dcell => true
  | _ => false
theorem sub_new {p : Addr} {o : MO} (h : G p = none) (hd : o.isDeck = false) : Sub G (gput G p o) := by
  refine ⟨fun a w z => ?_, fun c z => ?_⟩
  · have q : a ≠ p := fun y => by rw [y, h] at z; cases z
    rw [gput_ne q]; exact z
  · by_cases q : c = p
    · subst q; rw [gput_same] at z; cases z; cases hd
    · rw [gput_ne q] at z; exact z
theorem Sub.put {G' : GH} (s : Sub G' G) (p : Addr) (o : MO) : Sub (gput G' p o) (gput G p o) := by
  refine ⟨fun a w z => ?_, fun c z => ?_⟩
  · by_cases q : a = p
    · subst q; rw [gput_same] at z ⊢; exact z
    · rw [gput_ne q] at z ⊢; exact s.le a w z
  · by_cases q : c = p
    · subst q; rw [gput_same] at z ⊢; exact z
    · rw [gput_ne q] at z ⊢; exact s.dc c z
theorem upd_none {H : Hp} {p b : Addr} {u : HO} (h : upd H p u b = none) : H b = none := by
  by_cases q : b = p
  · subst q; rw [upd_same] at h; cases h
  · rw [upd_ne q] at h; exact h
/-- from one moment to a later one -/
structure Go (F H : Hp) (G : GH) (F' H' : Hp) (G' : GH) : Prop where
  ex : Ex F F'
  fr : ∀ b u, H b = some u → G b = none → H' b = some u ∧ G' b = none
  no : ∀ b u, H b = some u → G b = none → F b = none → (∀ vs, u ≠ .tup vs) → F' b = none
  st : ∀ b, H' b = none → H b = none
theorem Go.refl : Go F H G F H G := ⟨Ex.refl F, fun _ _ h g => ⟨h, g⟩, fun _ _ _ _ f _ => f, fun _ z => z⟩
theorem Go.trans {F1 H1 F2 H2 : Hp} {G1 G2 : GH} (a : Go F H G F1 H1 G1) (b : Go F1 H1 G1 F2 H2 G2) : Go F H G F2 H2 G2 := by
  refine ⟨a.ex.trans b.ex, fun c u h g => ?_, fun c u h g f t => ?_, fun c z => a.st c (b.st c z)⟩
  · obtain ⟨h1, g1⟩ := a.fr c u h g
    exact b.fr c u h1 g1
  · obtain ⟨h1, g1⟩ := a.fr c u h g
    exact b.no c u h1 g1 (a.no c u h g f t) t
theorem Gr.go {F' H' : Hp} (r : Gr F H F' H') : Go F H G F' H' G := ⟨r.ff, fun b u h g => ⟨r.hh b u h, g⟩, fun b u h _ f _ => r.no b u h f, fun b z => r.hh.nope z⟩
theorem Go.sub {F' H' : Hp} {G' G0 : GH} (a : Go F H G F' H' G') (s : Sub G0 G') : Go F H G F' H' G0 := by
  refine ⟨a.ex, fun b u h g => ?_, a.no, a.st⟩
  obtain ⟨h1, g1⟩ := a.fr b u h g
  refine ⟨h1, ?_⟩
  cases q : G0 b with
  | none => rfl
  | some o => rw [s.le b o q] at g1; cases g1
theorem Go.alloc {p : Addr} {u : HO} {o : MO} (h : H p = none) : Go F H G F (upd H p u) (gput G p o) := by
  refine ⟨Ex.refl F, fun b w hb g => ?_, fun _ _ _ _ f _ => f, fun b z => upd_none z⟩
  have q : b ≠ p := fun y => by rw [y, h] at hb; cases hb
  exact ⟨by rw [upd_ne q]; exact hb, by rw [gput_ne q]; exact g⟩
theorem Go.put {p : Addr} {u : HO} {o o0 : MO} (h : G p = some o0) : Go F H G F (upd H p u) (gput G p o) := by
  refine ⟨Ex.refl F, fun b w hb g => ?_, fun _ _ _ _ f _ => f, fun b z => upd_none z⟩
  have q : b ≠ p := fun y => by rw [y, h] at g; cases g
  exact ⟨by rw [upd_ne q]; exact hb, by rw [gput_ne q]; exact g⟩
/-- a new thing that may change -/
theorem Gok.alloc (g : Gok K F H G) {p : Addr} {u : HO} {o : MO} (h : H p = none) (hd : o.isDeck = false) (r : MRep K F (upd H p u) (gput G p o) p o) : Gok K F (upd H p u) (gput G p o) where
  ex := g.ex.updR (g.ex.nope h)
  at_ := fun a w e => by
    by_cases q : a = p
    · subst q
      rw [gput_same] at e; cases e
      exact ⟨g.ex.nope h, r⟩
    · rw [gput_ne q] at e
      obtain ⟨f, m⟩ := g.at_ a w e
      refine ⟨f, m.move (Ex.refl F) (fun b z qb _ => (Ex.new h) b z qb) fun c z => ?_⟩
      have : c ≠ p := fun y => by rw [y, g.free h] at z; cases z
      rw [gput_ne this]; exact z
  one := fun a b k1 k2 k3 n j1 j2 j3 m e1 e2 => by
    have ha : a ≠ p := fun y => by rw [y, gput_same] at e1; cases e1; cases hd
    have hb : b ≠ p := fun y => by rw [y, gput_same] at e2; cases e2; cases hd
    rw [gput_ne ha] at e1; rw [gput_ne hb] at e2
    exact g.one a b k1 k2 k3 n j1 j2 j3 m e1 e2
/-- a thing changes -/
theorem Gok.put (g : Gok K F H G) {p : Addr} {u : HO} {o o0 : MO} (h : G p = some o0) (h0 : o0.isDeck = false) (hd : o.isDeck = false) (r : MRep K F (upd H p u) (gput G p o) p o) : Gok K F (upd H p u) (gput G p o) where
  ex := g.ex.updR (g.at_ p o0 h).1
  at_ := fun a w e => by
    by_cases q : a = p
    · subst q
      rw [gput_same] at e; cases e
      exact ⟨(g.at_ a o0 h).1, r⟩
    · rw [gput_ne q] at e
      obtain ⟨f, m⟩ := g.at_ a w e
      have np : ∀ c, (c = a ∨ G c = some .dcell) → c ≠ p := fun c hc y => by
        rcases hc with hc | hc
        · exact q (hc ▸ y)
        · rw [y, h] at hc; cases hc; cases h0
      refine ⟨f, m.move (Ex.refl F) (fun b z qb hb => by rw [upd_ne (np b hb)]; exact qb) fun c z => by rw [gput_ne (np c (.inr z))]; exact z⟩
  one := fun a b k1 k2 k3 n j1 j2 j3 m e1 e2 => by
    have ha : a ≠ p := fun y => by rw [y, gput_same] at e1; cases e1; cases hd
    have hb : b ≠ p := fun y => by rw [y, gput_same] at e2; cases e2; cases hd
    rw [gput_ne ha] at e1; rw [gput_ne hb] at e2
    exact g.one a b k1 k2 k3 n j1 j2 j3 m e1 e2
theorem gdel_sub {G : GH} {p : Addr} : ∀ a o, gdel G p a = some o → G a = some o := fun a o e => by
  unfold gdel at e
  by_cases q : a = p
  · rw [if_pos q] at e; cases e
  · rw [if_neg q] at e; exact e
theorem gdel_same {G : GH} {p : Addr} : gdel G p p = none := by unfold gdel; rw [if_pos rfl]
theorem gdel_ne {G : GH} {p a : Addr} (h : a ≠ p) : gdel G p a = G a := by unfold gdel; rw [if_neg h]
theorem gdel_gput {G : GH} {p : Addr} {o : MO} (h : G p = none) : gdel (gput G p o) p = G := by
  funext b
  by_cases q : b = p
  · subst q; rw [gdel_same, h]
  · rw [gdel_ne q, gput_ne q]
/-- a thing changes no more -/
theorem Gok.freeze (g : Gok K F H G) {p : Addr} {u : HO} {o0 : MO} (h : G p = some o0) (h0 : o0.isDeck = false) (hu : H p = some u) : Gok K (upd F p u) H (gdel G p) ∧ Go F H G (upd F p u) H (gdel G p) := by
  have fp := (g.at_ p o0 h).1
  have eF : Ex F (upd F p u) := Ex.new fp
  refine ⟨⟨fun a w z => ?_, fun a w e => ?_, ?_⟩, eF, fun b w hb gb => ⟨hb, ?_⟩, fun b w hb gb fb _ => ?_, fun _ z => z⟩
  · by_cases q : a = p
    · subst q; rw [upd_same] at z; cases z; exact hu
    · rw [upd_ne q] at z; exact g.ex a w z
  · have q : a ≠ p := fun y => by rw [y, gdel_same] at e; cases e
    rw [gdel_ne q] at e
    obtain ⟨f, m⟩ := g.at_ a w e
    refine ⟨by rw [upd_ne q]; exact f, m.move eF (fun b w hb _ => hb) fun c z => ?_⟩
    have nq : c ≠ p := fun y => by rw [y, h] at z; cases z; cases h0
    rw [gdel_ne nq]; exact z
  · exact fun a b k1 k2 k3 n j1 j2 j3 m e1 e2 => g.one a b k1 k2 k3 n j1 j2 j3 m (gdel_sub _ _ e1) (gdel_sub _ _ e2)
  · have q : b ≠ p := fun y => by rw [y, h] at gb; cases gb
    rw [gdel_ne q]; exact gb
  · have q : b ≠ p := fun y => by rw [y, h] at gb; cases gb
    rw [upd_ne q]; exact fb
end
abbrev DS := List (Option D)
inductive Slots (K : PySem.W.Frag) (F : Hp) : L2.St → DS → Prop
  | nil : Slots K F [] []
  | any {v : Option V} {σ : L2.St} {S : DS} : Slots K F σ S → Slots K F (v :: σ) (none :: S)
  | val {v : V} {d : D} {σ : L2.St} {S : DS} : Rep K F v d → Slots K F σ S → Slots K F (some v :: σ) (some d :: S)
section
variable {K : PySem.W.Frag} {F : Hp}
theorem Slots.mono {F' : Hp} (e : Ex F F') : ∀ {σ : L2.St} {S : DS}, Slots K F σ S → Slots K F' σ S
  | _, _, .nil => .nil
  | _, _, .any t => .any (Slots.mono e t)
  | _, _, .val h t => .val (h.mono e) (Slots.mono e t)
theorem Slots.get : ∀ {σ : L2.St} {S : DS} {i : Nat} {d : D}, Slots K F σ S → S[i]? = some (some d) → ∃ v, σ[i]? = some (some v) ∧ Rep K F v d
  | _, _, _, _, .nil, e => by simp at e
  | _, _, 0, _, .any _, e => by simp at e
  | _, _, 0, _, .val r _, e => by simp at e; subst e; exact ⟨_, rfl, r⟩
  | _, _, i + 1, _, .any t, e => by
    obtain ⟨v, h1, h2⟩ := Slots.get (i := i) t (by simpa using e)
    exact ⟨v, by simpa using h1, h2⟩
  | _, _, i + 1, _, .val _ t, e => by
    obtain ⟨v, h1, h2⟩ := Slots.get (i := i) t (by simpa using e)
    exact ⟨v, by simpa using h1, h2⟩
theorem Slots.set {v : V} {d : D} (h : Rep K F v d) : ∀ {σ : L2.St} {S : DS} (i : Nat), Slots K F σ S → Slots K F (σ.set i (some v)) (S.set i (some d))
  | _, _, _, .nil => .nil
  | _, _, 0, .any t => .val h t
  | _, _, 0, .val _ t => .val h t
  | _, _, i + 1, .any t => .any (Slots.set h i t)
  | _, _, i + 1, .val r t => .val r (Slots.set h i t)
theorem Slots.setN (o : Option V) : ∀ {σ : L2.St} {S : DS} (i : Nat), Slots K F σ S → Slots K F (σ.set i o) (S.set i none)
  | _, _, _, .nil => .nil
  | _, _, 0, .any t => .any t
  | _, _, 0, .val _ t => .any t
  | _, _, i + 1, .any t => .any (Slots.setN o i t)
  | _, _, i + 1, .val r t => .val r (Slots.setN o i t)
def dstart (N : List Str) (ds : List D) : DS := ds.map some ++ List.replicate (N.length - ds.length) none
theorem slots_none : ∀ (n : Nat), Slots K F (List.replicate n none) (List.replicate n none)
  | 0 => .nil
  | n + 1 => .any (slots_none n)
theorem slots_append : ∀ {vs : List V} {ds : List D} {σ : L2.St} {S : DS}, Reps K F vs ds → Slots K F σ S → Slots K F (vs.map some ++ σ) (ds.map some ++ S)
  | _, _, _, _, .nil, s => s
  | _, _, _, _, .cons h t, s => .val h (slots_append t s)
theorem Reps.start {N : List Str} {vs : List V} {ds : List D} (r : Reps K F vs ds) : Slots K F (start N vs) (dstart N ds) := by
  have e := r.length
  unfold L2.start dstart
  rw [e]
  exact slots_append r (slots_none _)
end
structure Ok (K : PySem.W.Frag) (F H : Hp) (σ : L2.St) (S : DS) (G : GH) : Prop where
  g : Gok K F H G
  s : Slots K F σ S
end DL
end
section
set_option Elab.async false
set_option linter.all false
set_option maxRecDepth 100000
set_option maxHeartbeats 4000000
namespace DL
open PySem PySem.Spec PyProof.Rows L2
abbrev DQ := D → GH → Prop
abbrev DTE := DS → GH → DQ → Prop
abbrev DTT := DS → GH → (Bool → GH → Prop) → Prop
abbrev DTA := DS → GH → (List D → GH → Prop) → Prop
structure DEnds where
  nx : DS → GH → Prop
  rt : DQ
  bk : DS → GH → Prop := fun _ _ => False
  ct : DS → GH → Prop := fun _ _ => False
abbrev DTS := DEnds → DS → GH → Prop
def KpE (K : PySem.W.Frag) (F H : Hp) (G : GH) (Q' : DQ) (Q : VK) : Prop := ∀ F' H' v d G', Go F H G F' H' G' → Gok K F' H' G' → Rep K F' v d → Q' d G' → Q v H'
def KpT (K : PySem.W.Frag) (F H : Hp) (G : GH) (Q' : Bool → GH → Prop) (Q : Bool → Hp → Prop) : Prop := ∀ F' H' b G', Go F H G F' H' G' → Gok K F' H' G' → Q' b G' → Q b H'
def KpA (K : PySem.W.Frag) (F H : Hp) (G : GH) (Q' : List D → GH → Prop) (Q : List V → Hp → Prop) : Prop := ∀ F' H' vs ds G', Go F H G F' H' G' → Gok K F' H' G' → Reps K F' vs ds → Q' ds G' → Q vs H'
def KpN (K : PySem.W.Frag) (F H : Hp) (G : GH) (Q' : DS → GH → Prop) (Q : L2.St → Hp → Prop) : Prop := ∀ F' H' σ S G', Go F H G F' H' G' → Ok K F' H' σ S G' → Q' S G' → Q σ H'
structure KpS (K : PySem.W.Frag) (F H : Hp) (G : GH) (D' : DEnds) (D0 : Ends) : Prop where
  nx : KpN K F H G D'.nx D0.nx
  rt : KpE K F H G D'.rt D0.rt
  bk : KpN K F H G D'.bk D0.bk
  ct : KpN K F H G D'.ct D0.ct
section
variable {K : PySem.W.Frag} {F H F1 H1 : Hp} {G G1 : GH}
theorem KpE.mono {Q' : DQ} {Q : VK} (e : Go F H G F1 H1 G1) (h : KpE K F H G Q' Q) : KpE K F1 H1 G1 Q' Q := fun F' H' v d G' a b c q => h F' H' v d G' (e.trans a) b c q
theorem KpT.mono {Q' : Bool → GH → Prop} {Q : Bool → Hp → Prop} (e : Go F H G F1 H1 G1) (h : KpT K F H G Q' Q) : KpT K F1 H1 G1 Q' Q := fun F' H' v G' a b q => h F' H' v G' (e.trans a) b q
theorem KpN.mono {Q' : DS → GH → Prop} {Q : L2.St → Hp → Prop} (e : Go F H G F1 H1 G1) (h : KpN K F H G Q' Q) : KpN K F1 H1 G1 Q' Q := fun F' H' σ S G' a b q => h F' H' σ S G' (e.trans a) b q
theorem KpS.mono {D' : DEnds} {D0 : Ends} (e : Go F H G F1 H1 G1) (h : KpS K F H G D' D0) : KpS K F1 H1 G1 D' D0 := ⟨h.nx.mono e, h.rt.mono e, h.bk.mono e, h.ct.mono e⟩
end
structure DE (X : Cx) (e : Expr) (t' : DTE) : Prop where
  ex : ∃ t, PE X e t ∧ ∀ F H σ S G, Ok X.K F H σ S G → ∀ Q', t' S G Q' → ∀ Q, KpE X.K F H G Q' Q → t σ H Q
structure DT (X : Cx) (e : Expr) (t' : DTT) : Prop where
  ex : ∃ t, PT X e t ∧ ∀ F H σ S G, Ok X.K F H σ S G → ∀ Q', t' S G Q' → ∀ Q, KpT X.K F H G Q' Q → t σ H Q
structure DW (X : Cx) (e : Expr) (t' : DTT) : Prop where
  ex : ∃ t, PW X e t ∧ ∀ F H σ S G, Ok X.K F H σ S G → ∀ Q', t' S G Q' → ∀ Q, KpT X.K F H G Q' Q → t σ H Q
structure DA (X : Cx) (es : List Expr) (t' : DTA) : Prop where
  ex : ∃ t, PA X es t ∧ ∀ F H σ S G, Ok X.K F H σ S G → ∀ Q', t' S G Q' → ∀ Q, KpA X.K F H G Q' Q → t σ H Q
structure DP (X : Cx) (st : Stmt) (t' : DTS) : Prop where
  ex : ∃ t, PS X st t ∧ ∀ F H σ S G, Ok X.K F H σ S G → ∀ D', t' D' S G → ∀ D0, KpS X.K F H G D' D0 → t D0 σ H
structure DPs (X : Cx) (st : List Stmt) (t' : DTS) : Prop where
  ex : ∃ t, PSs X st t ∧ ∀ F H σ S G, Ok X.K F H σ S G → ∀ D', t' D' S G → ∀ D0, KpS X.K F H G D' D0 → t D0 σ H
section
variable {X : Cx} {pos : Pos}
theorem Ok.go {K : PySem.W.Frag} {F H F' H' : Hp} {σ : L2.St} {S : DS} {G G' : GH} (o : Ok K F H σ S G) (e : Go F H G F' H' G') (g : Gok K F' H' G') : Ok K F' H' σ S G' := ⟨g, o.s.mono e.ex⟩
def dVar (i : Nat) : DTE := fun S G Q => match S[i]? with
  | some (some d) => Q d G
  | _ => False
def dC (d : D) : DTE := fun _ G Q => Q d G
theorem de_var (i : Nat) {x : Str} (hN : X.N[i]? = some x := by rfl) (hv : Vis X.env.scope x := by first | exact Or.inl rfl | exact Or.inr (Or.inl rfl) | exact Or.inr (Or.inr rfl)) (hd : (x == ("__debug__" : Str)) = false := by decide)
    (hcd : (x == ("__classdict__" : Str)) = false := by decide) : DE X (.Name x pos) (dVar i) := by
  refine ⟨_, pe_var hN hv hd hcd, fun F H σ S G o Q' h Q k => ?_⟩
  unfold dVar at h
  split at h
  · rename_i d e
    obtain ⟨v, e1, r⟩ := o.s.get e
    exact ⟨v, e1, k F H v d G Go.refl o.g r h⟩
  · exact h.elim
theorem dc_of {e : Expr} {v : V} {d : D} (h : PE X e (tC v)) (r : ∀ F, Rep X.K F v d) : DE X e (dC d) :=
  ⟨_, h, fun F H σ S G o Q' h Q k => k F H v d G Go.refl o.g (r F) h⟩
theorem de_int {i : Int} {j} : DE X (.Constant (.int i) j pos) (dC (.int i)) := dc_of pe_int fun _ => .int i
theorem de_bl {b : Bool} {j} : DE X (.Constant (.bool b) j pos) (dC (.bl b)) := dc_of pe_bl fun _ => .bl b
theorem de_non {j} : DE X (.Constant .none j pos) (dC .non) := dc_of pe_non fun _ => .non
theorem de_str {x : Str} {j} : DE X (.Constant (.str x) j pos) (dC (.str x)) := dc_of pe_str fun _ => .str x
theorem de_gint {x : Str} {i : Int} (hg : Gl X x) (hm : ∃ t, X.mg x = some (.int i t)) (hd : (x == ("__debug__" : Str)) = false := by decide) : DE X (.Name x pos) (dC (.int i)) := by
  obtain ⟨t, hm⟩ := hm
  exact dc_of (pe_glob (v := .int i) hg hm ⟨t, rfl⟩ hd) fun _ => .int i
theorem de_gstr {x z : Str} (hg : Gl X x) (hm : ∃ t, X.mg x = some (.str z t)) (hd : (x == ("__debug__" : Str)) = false := by decide) : DE X (.Name x pos) (dC (.str z)) := by
  obtain ⟨t, hm⟩ := hm
  exact dc_of (pe_glob (v := .str z) hg hm ⟨t, rfl⟩ hd) fun _ => .str z
def dNil : DTA := fun _ G Q => Q [] G
def dCons (ta : DTE) (tr : DTA) : DTA := fun S G Q => ta S G fun d G1 => tr S G1 fun ds G2 => Q (d :: ds) G2
theorem da_nil : DA X [] dNil := ⟨_, pa_nil, fun F H σ S G o Q' h Q k => k F H [] [] G Go.refl o.g .nil h⟩
theorem da_cons {e : Expr} {es : List Expr} {ta : DTE} {tr : DTA} (ha : DE X e ta) (hr : DA X es tr) (hs : starEach (e :: es) X.env = (false, eval e X.env) :: starEach es X.env := by rfl) : DA X (e :: es) (dCons ta tr) := by
  obtain ⟨t1, p1, r1⟩ := ha.ex
  obtain ⟨t2, p2, r2⟩ := hr.ex
  refine ⟨_, pa_cons p1 p2 hs, fun F H σ S G o Q' h Q k => ?_⟩
  refine r1 F H σ S G o _ h _ fun F1 H1 v d G1 e1 g1 q1 h1 => ?_
  refine r2 F1 H1 σ S G1 (o.go e1 g1) _ h1 _ fun F2 H2 vs ds G2 e2 g2 q2 h2 => ?_
  exact k F2 H2 _ _ G2 (e1.trans e2) g2 (.cons (q1.mono e2.ex) q2) h2
def dTup (ta : DTA) : DTE := fun S G Q => ta S G fun ds G1 => ds.length ≤ sizeLine ∧ Q (.tup ds) G1
theorem de_tup {es : List Expr} {ta : DTA} {x1} (h : DA X es ta) : DE X (.Tuple es x1 pos) (dTup ta) := by
  obtain ⟨t, p, r⟩ := h.ex
  refine ⟨_, pe_tup p, fun F H σ S G o Q' h Q k => ?_⟩
  refine r F H σ S G o _ h _ fun F1 H1 vs ds G1 e1 g1 q1 h1 => ?_
  refine ⟨q1.length ▸ h1.1, fun p hp => ?_⟩
  have gr : Gr F1 H1 (upd F1 p (.tup vs)) (upd H1 p (.tup vs)) := Gr.new g1.ex hp
  exact k _ _ _ _ G1 (e1.trans gr.go) (g1.grow gr) (.tup upd_same (q1.mono gr.ff)) h1.2
/-- a list as it is written: frozen -/
def dLst (ta : DTA) : DTE := fun S G Q => ta S G fun ds G1 => ds.length ≤ sizeLine ∧ Q (.lst ds) G1
theorem de_lst {es : List Expr} {ta : DTA} (h : DA X es ta) : DE X (.List es pos) (dLst ta) := by
  obtain ⟨t, p, r⟩ := h.ex
  refine ⟨_, pe_lst p, fun F H σ S G o Q' h Q k => ?_⟩
  refine r F H σ S G o _ h _ fun F1 H1 vs ds G1 e1 g1 q1 h1 => ?_
  refine ⟨q1.length ▸ h1.1, fun p hp => ?_⟩
  have gr : Gr F1 H1 (upd F1 p (.lst vs)) (upd H1 p (.lst vs)) := Gr.new g1.ex hp
  exact k _ _ _ _ G1 (e1.trans gr.go) (g1.grow gr) (.lst upd_same (q1.mono gr.ff)) h1.2
/-- .. that may change -/
def dLstM (ta : DTA) : DTE := fun S G Q => ta S G fun ds G1 => ds.length ≤ sizeLine ∧ ∀ p, G1 p = none → Q (.rf p) (gput G1 p (.lst ds))
theorem de_lstM {es : List Expr} {ta : DTA} (h : DA X es ta) : DE X (.List es pos) (dLstM ta) := by
  obtain ⟨t, p, r⟩ := h.ex
  refine ⟨_, pe_lst p, fun F H σ S G o Q' h Q k => ?_⟩
  refine r F H σ S G o _ h _ fun F1 H1 vs ds G1 e1 g1 q1 h1 => ?_
  refine ⟨q1.length ▸ h1.1, fun p hp => ?_⟩
  exact k _ _ _ _ _ (e1.trans (Go.alloc hp)) (g1.alloc (o := .lst ds) hp rfl ⟨vs, upd_same, q1⟩) (.rf p) (h1.2 p (g1.free hp))
def MO.cold : MO → Option D
  | .lst xs => some (.lst xs)
  | .dK kds => some (.dK kds)
  | .dT kds => some (.dT kds)
  | .ins C kds => some (.obj C kds)
  | .deck _ _ _ _ => none
  | .dcell => none
  | .lkT _ _ _ => none
  | .lkK _ _ _ => none
  | .dN _ _ => none
  | .lkN _ _ _ _ => none
  | .dU _ _ => none
  | .lkU _ _ _ _ => none
  | .tupU _ _ _ => none
  | .tab _ => none
theorem Gok.cold {K : PySem.W.Frag} {F H : Hp} {G : GH} (g : Gok K F H G) {p : Addr} {o : MO} {d : D} (h : G p = some o) (hc : o.cold = some d) : ∃ F', Go F H G F' H (gdel G p) ∧ Gok K F' H (gdel G p) ∧ Rep K F' (.ref p) d := by
  obtain ⟨fp, m⟩ := g.at_ p o h
  cases o with
  | lst xs =>
    obtain ⟨vs, e, r⟩ := m
    obtain ⟨g', ef⟩ := g.freeze h rfl e
    cases hc
    exact ⟨_, ef, g', .lst upd_same (r.mono ef.ex)⟩
  | dK kds =>
    obtain ⟨vs, e, l, r⟩ := m
    obtain ⟨g', ef⟩ := g.freeze h rfl e
    cases hc
    exact ⟨_, ef, g', .dK upd_same l (r.mono ef.ex)⟩
  | dT kds =>
    obtain ⟨vs, e, l, r⟩ := m
    obtain ⟨g', ef⟩ := g.freeze h rfl e
    cases hc
    exact ⟨_, ef, g', .dT upd_same l (r.mono ef.ex)⟩
  | ins C kds =>
    obtain ⟨dx, vs, e, l, r⟩ := m
    obtain ⟨g', ef⟩ := g.freeze h rfl e
    cases hc
    exact ⟨_, ef, g', .obj upd_same l (r.mono ef.ex)⟩
  | deck k1 k2 k3 n => cases hc
  | dcell => cases hc
  | lkT o kvs kds => cases hc
  | lkK o kvs kds => cases hc
  | dN w kds => cases hc
  | lkN w o xs kds => cases hc
  | dU w kds => cases hc
  | lkU w o xs kds => cases hc
  | tupU o vs ds => cases hc
  | tab q => cases hc
/-- the value, frozen from here on -/
def dCold (ta : DTE) : DTE := fun S G Q => ta S G fun d G1 => match d with
  | .rf a => (match G1 a with
    | some o => (match o.cold with
      | some d => Q d (gdel G1 a)
      | none => False)
    | none => False)
  | d => Q d G1
theorem de_cold {e : Expr} {ta : DTE} (h : DE X e ta) : DE X e (dCold ta) := by
  obtain ⟨t, p, r⟩ := h.ex
  refine ⟨t, p, fun F H σ S G o Q' h Q k => ?_⟩
  refine r F H σ S G o _ h _ fun F1 H1 v d G1 e1 g1 q1 h1 => ?_
  dsimp only at h1
  split at h1
  · rename_i a
    split at h1
    · rename_i o eo
      split at h1
      · rename_i d ed
        obtain ⟨F2, e2, g2, r2⟩ := g1.cold eo ed
        cases q1
        exact k F2 H1 _ _ _ (e1.trans e2) g2 r2 h1
      · exact h1.elim
    · exact h1.elim
  · exact k F1 H1 v _ G1 e1 g1 q1 h1
end
end DL
end
section
set_option Elab.async false
set_option linter.all false
set_option maxRecDepth 100000
set_option maxHeartbeats 4000000
namespace DL
open PySem PySem.Spec PyProof.Rows L2
structure FnG (P : Program) (w : World) (K : PySem.W.Frag) (mg : Str → Option Value) (base : Heap) (CX : CXT) (k : Nat) (f : Addr) (fd : FuncData) (ps : List Str) (sp : Sp) : Prop where
  many : ∀ vs H Q E, sp vs H Q E → vs.length = ps.length
  goes : ∀ (A : Around) (outer : List Env) (s : Shared) (H : Hp) (args : Args) (us : List Value) (vs : List V) (Q : VK) (E : XK),
    A.guards = some [] → Room k A → Env0 P w K mg base A outer s H → BindsTo s fd args (ps.zip us) → Vals vs us → sp vs H Q E →
      codeAny (model P w) A (.call (.ref f) args) (CR CX outer P w H s Q E) s
theorem FnG.up {P : Program} {w : World} {K : PySem.W.Frag} {mg : Str → Option Value} {base : Heap} {CX : CXT} {j k : Nat} {f : Addr} {fd : FuncData} {ps : List Str} {sp : Sp} (F : FnG P w K mg base CX j f fd ps sp) (h : j ≤ k) : FnG P w K mg base CX k f fd ps sp :=
  ⟨F.many, fun A outer s H args us vs Q E hg hr => F.goes A outer s H args us vs Q E hg (hr.mono h)⟩
theorem deeper_guards {A : Around} {env : Env} (h : A.guards = some []) : (A.deeper env).guards = some [] := by
  first
  | exact h
  | simpa [Around.deeper] using h
section
variable {P : Program} {w : World} {K : PySem.W.Frag} {mg : Str → Option Value} {base : Heap} {CX : CXT}
/-- a def keeps its promise: by its body -/
theorem fng_of {k : Nat} {f : Addr} {name qual : Str} {params : Arguments} {body : List Stmt} {scope : Scope} {dV kV doc pm cdv ct oc : Value} {an od : Option Addr} {osl : Array (Option Value)} {N ps : List Str} {sp : Sp}
    (lk : K.lookup f = some ⟨oc, od, .func (PySem.W.fnOf name qual params body scope dV kV doc pm an cdv ct), osl⟩)
    (hcd : PySem.W.codeIn K cdv qual = true) (S : FnScope N ps scope) (len : ∀ vs H Q E, sp vs H Q E → vs.length = ps.length)
    (hb : ∀ (A : Around) (outer : List Env) (s : Shared) (H : Hp) (vs : List V) (Q : VK) (E : XK), A.guards = some [] → Room k (A.deeper (envOfC qual scope s.heap.objs.size f cdv)) → sp vs H Q E →
      ∃ t, PSs (cxOf CX P w K mg base N qual scope f cdv A outer s H E) body t ∧ t ⟨fun _ H' => Q .non H', Q, fun _ _ => False, fun _ _ => False⟩ (start N vs) H) :
    FnG P w K mg base CX (k + 1) f (PySem.W.fnOf name qual params body scope dV kV doc pm an cdv ct) ps sp := by
  refine ⟨len, fun A outer s H args us vs Q E hg hr e0 bd r hsp => ?_⟩
  have many := len vs H Q E hsp
  have inn : K.In s.heap := e0.mod.kin.keeps fun a u z => (e0.bs a u z).1
  have nol : s.heap.NoLimit := e0.mod.nolimit.keeps fun a u z => (e0.bs a u z).1
  have kinds : ∀ y ∈ ps.zip us, scope.names.lookup y.1 = some .local ∨ (scope.names.lookup y.1 = some .cell ∧ ((cellsFrom (s.heap.objs.size + 1) scope.names []).lookup y.1).isSome = true) := by
    rintro ⟨n, v⟩ hy
    have hm := (List.of_mem_zip hy).1
    rcases S.par n hm with z | z
    · left; exact z
    · right; exact ⟨z, PySem.W.cellsFrom_some _ _ _ (Or.inl z)⟩
  refine codeAny_call_function hr.depth (inn _ _ lk) rfl S.co S.gen rfl (PySem.W.codeRec_of inn hcd) (bd _ _ _ _ ?_)
  refine wpAny_newFunctionEnv_cells S.kind kinds ?_
  rintro env rfl s1 x
  refine ⟨nol.keeps x.toInCall.keep, codeAny_func ?_⟩
  obtain ⟨t, ht, q⟩ := hb A outer s H vs Q E hg (hr.deeper _) hsp
  have J : Inv (cxOf CX P w K mg base N qual scope f cdv A outer s H E) [] (start N vs) H s1 := inv_start S hr.hd e0 many r x
  refine wpAny_mono (ht.run [] s1 (start N vs) H _ J q) ?_ (fun e s' z => z)
  intro fl s' z
  cases fl with
  | ret u =>
    obtain ⟨v, σ', H', J', rv, q'⟩ := z
    exact ⟨v, H', J'.os, J'.bare, J'.base, J'.hok, rv, q'⟩
  | next =>
    obtain ⟨σ', H', J', q'⟩ := z
    exact ⟨V.non, H', J'.os, J'.bare, J'.base, J'.hok, rfl, q'⟩
  | brk =>
    obtain ⟨_, _, _, q'⟩ := z
    exact q'.elim
  | cont =>
    obtain ⟨_, _, _, q'⟩ := z
    exact q'.elim
end
section
variable {X : Cx} {CX : CXT} {k : Nat} {f C : Addr} {fd : FuncData} {ps ks : List Str} {sp : Sp} {E : XK} {x m : Str} {p pos apos : Pos} {e o : Expr} {es : List Expr} {kws : List Keyword} {ta : TE} {t tk : TA}
  {dvs : List V} {ds : List Value} {g : List Value → List Value → List Value} {gV : List V → List V → List V}
theorem goes_fn {pins : List (Addr × Obj)} {σ : L2.St} {H : Hp} {s : Shared} {Q : VK} {us ws : List Value} {zs : List V} (F : FnG X.prog X.w X.K X.mg X.base CX k f fd ps sp) (hA : X.A.guards = some []) (hr : Room k X.A)
    (kw : List (Str × Value)) (bd : ∀ s : Shared, X.K.In s.heap → ws.length = ps.length → BindsTo s fd ⟨us, kw⟩ (ps.zip ws)) (hx : Passes CX X E)
    (I : Inv X pins σ H s) (r : Vals zs ws) (h : sp zs H Q E) : wpAny (model X.prog X.w) X.A (call (.ref f) us kw) (EP X pins σ Q) X.xe s := by
  have many : ws.length = ps.length := r.length ▸ F.many zs H Q E h
  refine wpAny_call (codeAny_mono (F.goes X.A X.stack s H ⟨us, kw⟩ ws zs Q E hA hr I.env0 (bd s I.kIn many) r h) ?_)
  intro res s' z
  match res, z with
  | .error er, z => exact hx pins σ H s er s' I z
  | .ok (.ret u), z => exact I.after z
  | .ok .next, z => exact z.elim
  | .ok .brk, z => exact z.elim
  | .ok .cont, z => exact z.elim
theorem pg_call (F : FnG X.prog X.w X.K X.mg X.base CX k f fd ps sp) (hA : X.A.guards = some []) (hr : Room k X.A) (hg : Gl X x) (hm : X.mg x = some (.ref f)) (hk : PySem.W.keepIn X.K (.ref f) = true) (hb : Binds X.K fd ps ds) (hd : Vals dvs ds) (hx : Passes CX X E)
    (ha : PA X (e :: es) t) (hdb : (x == ("__debug__" : Str)) = false) (he : starEach (e :: es) X.env = (false, eval e X.env) :: starEach es X.env) (hpl : (backTo pos (starEach es X.env)).any (·.1) = false) :
    PE X (.Call (.Name x p) (e :: es) [] pos) (tCall sp dvs E t) := by
  constructor
  intro pins s σ H Q I h
  apply wpAny_Call_Name_kw
  refine ld_glob I hg hm ?_ hdb
  refine PySem.W.callWith_K (h₀ := X.base) I.ok.mod.kin hk (thn (ha.run pos pins s σ H _ I h) ?_) he hpl
  rintro us s1 ⟨vs, H1, I1, r, q⟩
  exact ⟨I1.kIn, goes_fn F hA hr [] (fun s2 i l => hb s2 us i l) hx I1 (r.append hd) q⟩
theorem under_guards {A : Around} {us : List Value} {kw : List (Str × Value)} (h : A.guards = some []) : (A.under (.builtin "type.__call__" ⟨.ref C :: us, kw⟩)).guards = some [] := by
  simp [Around.under, Code.guards, Code.isGuard, guardIds, pushGuards, h]
theorem goes_make {pins : List (Addr × Obj)} {σ : L2.St} {H : Hp} {s : Shared} {Q : VK} {us : List Value} {vs : List V} (M : Mk X.K C f) (F : FnG X.prog X.w X.K X.mg X.base CX k f fd ps sp) (hA : X.A.guards = some []) (hr : Room (k + 1) X.A) (hb : Binds X.K fd ps ds) (hd : Vals dvs ds)
    (hx : Passes CX X E) (I : Inv X pins σ H s) (r : Vals vs us)
    (h : ∀ y dy, H y = none → H dy = none → dy ≠ y → sp (.ref y :: (vs ++ dvs)) (upd (upd H dy (.own y)) y (.ins C dy [])) (fun v H2 => v = .non ∧ Q (.ref y) H2) E) :
    wpAny (model X.prog X.w) X.A (call (.ref C) us) (EP X pins σ Q) X.xe s := by
  have nw : H (s.heap.objs.size + 1) = none := I.hok.fresh (Nat.le_succ _)
  have nd : H s.heap.objs.size = none := I.hok.fresh (Nat.le_refl _)
  have q0 := h (s.heap.objs.size + 1) s.heap.objs.size nw nd (Nat.ne_of_lt (Nat.lt_succ_self _))
  have J := Inv.made (C := C) I
  have r2 : Vals (V.ref (s.heap.objs.size + 1) :: (vs ++ dvs)) (Value.ref (s.heap.objs.size + 1) :: (us ++ ds)) := Paired.cons rfl (r.append hd)
  have lg : (Value.ref (s.heap.objs.size + 1) :: us ++ ds).length = ps.length := by
    have z := r2.length
    rw [F.many _ _ _ _ q0] at z
    exact z.symm
  refine wpAny_call (make_map (f := f) I.kIn M.makes M.init (beq_iff_eq.mp M.fn) (codeAny_mono (F.goes _ X.stack _ _ ⟨Value.ref (s.heap.objs.size + 1) :: us, []⟩ (Value.ref (s.heap.objs.size + 1) :: (us ++ ds)) _ _ E (under_guards hA) (hr.make C us [])
    (J.env0.make C us []) (hb _ (Value.ref (s.heap.objs.size + 1) :: us) J.kIn lg) r2 q0) ?_))
  intro res s' z
  match res, z with
  | .error er, z => exact hx pins σ _ _ er s' J z
  | .ok (.ret u), z =>
    obtain ⟨v, H', J', rv, ev, q3⟩ := J.after z
    subst ev
    exact ⟨rv, ⟨V.ref (s.heap.objs.size + 1), H', J', rfl, q3⟩⟩
  | .ok .next, z => exact z.elim
  | .ok .brk, z => exact z.elim
  | .ok .cont, z => exact z.elim
theorem pg_make (M : Mk X.K C f) (F : FnG X.prog X.w X.K X.mg X.base CX k f fd ps sp) (hA : X.A.guards = some []) (hr : Room (k + 1) X.A) (hg : Gl X x) (hm : X.mg x = some (.ref C)) (hb : Binds X.K fd ps ds) (hd : Vals dvs ds) (hx : Passes CX X E)
    (ha : PA X (e :: es) t) (hdb : (x == ("__debug__" : Str)) = false) (he : starEach (e :: es) X.env = (false, eval e X.env) :: starEach es X.env) (hpl : (backTo pos (starEach es X.env)).any (·.1) = false) :
    PE X (.Call (.Name x p) (e :: es) [] pos) (tMake C sp dvs E t) := by
  constructor
  intro pins s σ H Q I h
  apply wpAny_Call_Name_kw
  refine ld_glob I hg hm ?_ hdb
  refine PySem.W.callWith_K (h₀ := X.base) I.ok.mod.kin M.kp (thn (ha.run pos pins s σ H _ I h) ?_) he hpl
  rintro us s1 ⟨vs, H1, I1, r, q⟩
  exact ⟨I1.kIn, goes_make M F hA hr hb hd hx I1 r q⟩
end
end DL
end
section
set_option Elab.async false
set_option linter.all false
set_option maxRecDepth 100000
set_option maxHeartbeats 4000000
namespace DL
open PySem PySem.Spec PyProof.Rows L2
section
variable {X : Cx} {pos : Pos}
abbrev DR2 := D → D → GH → DQ → Prop
abbrev DR1 := D → GH → DQ → Prop
structure OpD (X : Cx) (f : Value → Value → Sem Value) (r' : DR2) : Prop where
  ex : ∃ r, OpR X f r ∧ ∀ F H G x y dx dy, Gok X.K F H G → Rep X.K F x dx → Rep X.K F y dy → ∀ Q', r' dx dy G Q' → ∀ Q, KpE X.K F H G Q' Q → r x y H Q
structure UnD (X : Cx) (f : Value → Sem Value) (r' : DR1) : Prop where
  ex : ∃ r, UnR X f r ∧ ∀ F H G x dx, Gok X.K F H G → Rep X.K F x dx → ∀ Q', r' dx G Q' → ∀ Q, KpE X.K F H G Q' Q → r x H Q
structure CallD (X : Cx) (f : Value) (r' : List D → GH → DQ → Prop) : Prop where
  ex : ∃ r, CallR X f r ∧ ∀ F H G vs ds, Gok X.K F H G → Reps X.K F vs ds → ∀ Q', r' ds G Q' → ∀ Q, KpE X.K F H G Q' Q → r vs H Q
def dOp (r : DR2) (ta tb : DTE) : DTE := fun S G Q => ta S G fun x G1 => tb S G1 fun y G2 => r x y G2 Q
def dUn (r : DR1) (ta : DTE) : DTE := fun S G Q => ta S G fun x G1 => r x G1 Q
theorem dop_of {a b : Expr} {ta tb : DTE} {r : R2} {r' : DR2} (hr : ∀ F H G x y dx dy, Gok X.K F H G → Rep X.K F x dx → Rep X.K F y dy → ∀ Q', r' dx dy G Q' → ∀ Q, KpE X.K F H G Q' Q → r x y H Q)
    {t1 t2 : TE} (r1 : ∀ F H σ S G, Ok X.K F H σ S G → ∀ Q', ta S G Q' → ∀ Q, KpE X.K F H G Q' Q → t1 σ H Q) (r2 : ∀ F H σ S G, Ok X.K F H σ S G → ∀ Q', tb S G Q' → ∀ Q, KpE X.K F H G Q' Q → t2 σ H Q) :
    ∀ F H σ S G, Ok X.K F H σ S G → ∀ Q', dOp r' ta tb S G Q' → ∀ Q, KpE X.K F H G Q' Q → tOp r t1 t2 σ H Q := fun F H σ S G o Q' h Q k => by
  refine r1 F H σ S G o _ h _ fun F1 H1 v d G1 e1 g1 q1 h1 => ?_
  refine r2 F1 H1 σ S G1 (o.go e1 g1) _ h1 _ fun F2 H2 u d2 G2 e2 g2 q2 h2 => ?_
  exact hr F2 H2 G2 v u d d2 g2 (q1.mono e2.ex) q2 Q' h2 Q (k.mono (e1.trans e2))
theorem de_op {op : Operator} {r' : DR2} {a b : Expr} {ta tb : DTE} (ho : OpD X (binaryOp op) r') (ha : DE X a ta) (hb : DE X b tb) : DE X (.BinOp a op b pos) (dOp r' ta tb) := by
  obtain ⟨r, p, hr⟩ := ho.ex
  obtain ⟨t1, p1, r1⟩ := ha.ex
  obtain ⟨t2, p2, r2⟩ := hb.ex
  exact ⟨_, pe_op p p1 p2, dop_of (a := a) (b := b) hr r1 r2⟩
theorem de_cmp {op : CmpOp} {r' : DR2} {a b : Expr} {ta tb : DTE} (ho : OpD X (compareOp op) r') (ha : DE X a ta) (hb : DE X b tb) (hm : behindInMarks op b = false) : DE X (.Compare a [op] [b] pos) (dOp r' ta tb) := by
  obtain ⟨r, p, hr⟩ := ho.ex
  obtain ⟨t1, p1, r1⟩ := ha.ex
  obtain ⟨t2, p2, r2⟩ := hb.ex
  exact ⟨_, pe_cmpR p p1 p2 hm, dop_of (a := a) (b := b) hr r1 r2⟩
theorem de_un {op : UnaryOp} {r' : DR1} {a : Expr} {ta : DTE} (ho : UnD X (unaryOp op) r') (ha : DE X a ta) : DE X (.UnaryOp op a pos) (dUn r' ta) := by
  obtain ⟨r, p, hr⟩ := ho.ex
  obtain ⟨t1, p1, r1⟩ := ha.ex
  refine ⟨_, pe_un p p1, fun F H σ S G o Q' h Q k => ?_⟩
  refine r1 F H σ S G o _ h _ fun F1 H1 v d G1 e1 g1 q1 h1 => ?_
  exact hr F1 H1 G1 v d g1 q1 Q' h1 Q (k.mono e1)
/-- a value that is a bool, as a test -/
def dTest (ta : DTE) : DTT := fun S G Q => ta S G fun d G1 => match d with
  | .bl b => Q b G1
  | _ => False
theorem dt_cmp {op : CmpOp} {r' : DR2} {a b : Expr} {ta tb : DTE} (ho : OpD X (compareOp op) r') (ha : DE X a ta) (hb : DE X b tb) (hm : behindInMarks op b = false) : DT X (.Compare a [op] [b] pos) (dTest (dOp r' ta tb)) := by
  obtain ⟨r, p, hr⟩ := ho.ex
  obtain ⟨t1, p1, r1⟩ := ha.ex
  obtain ⟨t2, p2, r2⟩ := hb.ex
  refine ⟨_, pt_cmpR p p1 p2 hm, fun F H σ S G o Q' h Q k => ?_⟩
  refine dop_of (a := a) (b := b) hr r1 r2 F H σ S G o _ h _ fun F1 H1 v d G1 e1 g1 q1 h1 => ?_
  dsimp only at h1
  split at h1
  · cases q1
    exact ⟨_, rfl, k F1 H1 _ G1 e1 g1 h1⟩
  · exact h1.elim
theorem dt_val {e : Expr} {ta : DTE} (h : DE X e ta) (he : ∀ whole, isTrue e X.env whole = (do let v ← whole; standAt e.pos; holding [v] (truthy v)) := by intro _; rfl) : DT X e (dTest ta) := by
  obtain ⟨t1, p1, r1⟩ := h.ex
  refine ⟨_, pt_val p1 he, fun F H σ S G o Q' h Q k => ?_⟩
  refine r1 F H σ S G o _ h _ fun F1 H1 v d G1 e1 g1 q1 h1 => ?_
  dsimp only at h1
  split at h1
  · cases q1
    exact ⟨_, rfl, k F1 H1 _ G1 e1 g1 h1⟩
  · exact h1.elim
def dNot (t : DTT) : DTT := fun S G Q => t S G fun b G1 => Q (!b) G1
theorem dt_not {a : Expr} {t' : DTT} (h : DT X a t') : DT X (.UnaryOp .Not a pos) (dNot t') := by
  obtain ⟨t1, p1, r1⟩ := h.ex
  exact ⟨_, pt_not p1, fun F H σ S G o Q' h Q k => r1 F H σ S G o _ h _ fun F1 H1 b G1 e1 g1 h1 => k F1 H1 _ G1 e1 g1 h1⟩
theorem DW.dt {e : Expr} {t' : DTT} (h : DW X e t') : DT X e t' := by
  obtain ⟨t1, p1, r1⟩ := h.ex
  exact ⟨_, p1.pt, r1⟩
def dAnd (t u : DTT) : DTT := fun S G Q => t S G fun b G1 => if b = true then u S G1 Q else Q false G1
def dOr (t u : DTT) : DTT := fun S G Q => t S G fun b G1 => if b = true then Q true G1 else u S G1 Q
theorem dw_and1 {a : Expr} {t' : DTT} (h : DT X a t') : DW X (.BoolOp .And [a] pos) t' := by
  obtain ⟨t1, p1, r1⟩ := h.ex
  exact ⟨_, pw_and1 p1, r1⟩
theorem dw_or1 {a : Expr} {t' : DTT} (h : DT X a t') : DW X (.BoolOp .Or [a] pos) t' := by
  obtain ⟨t1, p1, r1⟩ := h.ex
  exact ⟨_, pw_or1 p1, r1⟩
theorem dw_and {a b : Expr} {rest : List Expr} {t' u' : DTT} (h : DT X a t') (h2 : DW X (.BoolOp .And (b :: rest) pos) u') : DW X (.BoolOp .And (a :: b :: rest) pos) (dAnd t' u') := by
  obtain ⟨t1, p1, r1⟩ := h.ex
  obtain ⟨t2, p2, r2⟩ := h2.ex
  refine ⟨_, pw_and p1 p2, fun F H σ S G o Q' h Q k => ?_⟩
  refine r1 F H σ S G o _ h _ fun F1 H1 b G1 e1 g1 h1 => ?_
  cases b with
  | true =>
    rw [if_pos rfl] at h1 ⊢
    exact r2 F1 H1 σ S G1 (o.go e1 g1) _ h1 _ (k.mono e1)
  | false =>
    rw [if_neg Bool.false_ne_true] at h1 ⊢
    exact k F1 H1 _ G1 e1 g1 h1
theorem dw_or {a b : Expr} {rest : List Expr} {t' u' : DTT} (h : DT X a t') (h2 : DW X (.BoolOp .Or (b :: rest) pos) u') : DW X (.BoolOp .Or (a :: b :: rest) pos) (dOr t' u') := by
  obtain ⟨t1, p1, r1⟩ := h.ex
  obtain ⟨t2, p2, r2⟩ := h2.ex
  refine ⟨_, pw_or p1 p2, fun F H σ S G o Q' h Q k => ?_⟩
  refine r1 F H σ S G o _ h _ fun F1 H1 b G1 e1 g1 h1 => ?_
  cases b with
  | true =>
    rw [if_pos rfl] at h1 ⊢
    exact k F1 H1 _ G1 e1 g1 h1
  | false =>
    rw [if_neg Bool.false_ne_true] at h1 ⊢
    exact r2 F1 H1 σ S G1 (o.go e1 g1) _ h1 _ (k.mono e1)
def dIf (t : DTT) (ta tb : DTE) : DTE := fun S G Q => t S G fun b G1 => if b = true then ta S G1 Q else tb S G1 Q
theorem de_if {c a b : Expr} {t' : DTT} {ta tb : DTE} (hc : DT X c t') (ha : DE X a ta) (hb : DE X b tb) : DE X (.IfExp c a b pos) (dIf t' ta tb) := by
  obtain ⟨t0, p0, r0⟩ := hc.ex
  obtain ⟨t1, p1, r1⟩ := ha.ex
  obtain ⟨t2, p2, r2⟩ := hb.ex
  refine ⟨_, pe_ifExp p0 p1 p2, fun F H σ S G o Q' h Q k => ?_⟩
  refine r0 F H σ S G o _ h _ fun F1 H1 b G1 e1 g1 h1 => ?_
  cases b with
  | true =>
    rw [if_pos rfl] at h1 ⊢
    exact r1 F1 H1 σ S G1 (o.go e1 g1) _ h1 _ (k.mono e1)
  | false =>
    rw [if_neg Bool.false_ne_true] at h1 ⊢
    exact r2 F1 H1 σ S G1 (o.go e1 g1) _ h1 _ (k.mono e1)
/-- and, or, not as values: bools -/
def dAndV (ta tb : DTE) : DTE := fun S G Q => ta S G fun d G1 => match d with
  | .bl b => if b = true then tb S G1 Q else Q (.bl false) G1
  | _ => False
def dOrV (ta tb : DTE) : DTE := fun S G Q => ta S G fun d G1 => match d with
  | .bl b => if b = true then Q (.bl true) G1 else tb S G1 Q
  | _ => False
def dNotV (ta : DTE) : DTE := fun S G Q => ta S G fun d G1 => match d with
  | .bl b => Q (.bl (!b)) G1
  | _ => False
theorem de_one {op} {a : Expr} {ta : DTE} (h : DE X a ta) : DE X (.BoolOp op [a] pos) ta := by
  obtain ⟨t1, p1, r1⟩ := h.ex
  exact ⟨_, pe_one p1, r1⟩
theorem de_and {a b : Expr} {rest : List Expr} {ta tb : DTE} (ha : DE X a ta) (hb : DE X (.BoolOp .And (b :: rest) pos) tb) : DE X (.BoolOp .And (a :: b :: rest) pos) (dAndV ta tb) := by
  obtain ⟨t1, p1, r1⟩ := ha.ex
  obtain ⟨t2, p2, r2⟩ := hb.ex
  refine ⟨_, pe_and p1 p2, fun F H σ S G o Q' h Q k => ?_⟩
  refine r1 F H σ S G o _ h _ fun F1 H1 v d G1 e1 g1 q1 h1 => ?_
  dsimp only at h1
  split at h1
  · rename_i b0
    cases q1
    refine ⟨b0, rfl, ?_⟩
    cases b0 with
    | true =>
      rw [if_pos rfl] at h1 ⊢
      exact r2 F1 H1 σ S G1 (o.go e1 g1) _ h1 _ (k.mono e1)
    | false =>
      rw [if_neg Bool.false_ne_true] at h1 ⊢
      exact k F1 H1 _ _ G1 e1 g1 (.bl _) h1
  · exact h1.elim
theorem de_not {a : Expr} {ta : DTE} (ha : DE X a ta) : DE X (.UnaryOp .Not a pos) (dNotV ta) := by
  obtain ⟨t1, p1, r1⟩ := ha.ex
  refine ⟨_, pe_not p1, fun F H σ S G o Q' h Q k => ?_⟩
  refine r1 F H σ S G o _ h _ fun F1 H1 v d G1 e1 g1 q1 h1 => ?_
  dsimp only at h1
  split at h1
  · rename_i b0
    cases q1
    exact ⟨b0, rfl, k F1 H1 _ _ G1 e1 g1 (.bl _) h1⟩
  · exact h1.elim
abbrev DTG := D → DS → GH → (DS → GH → Prop) → Prop
abbrev DTGs := List D → DS → GH → (DS → GH → Prop) → Prop
structure DG (X : Cx) (tg : Expr) (g' : DTG) : Prop where
  ex : ∃ g, PG X tg g ∧ ∀ F H σ S G v d, Ok X.K F H σ S G → Rep X.K F v d → ∀ Q', g' d S G Q' → ∀ Q, KpN X.K F H G Q' Q → g v σ H Q
structure DGs (X : Cx) (tgs : List Expr) (g' : DTGs) : Prop where
  ex : ∃ g, PGs X tgs g ∧ ∀ F H σ S G vs ds, Ok X.K F H σ S G → Reps X.K F vs ds → ∀ Q', g' ds S G Q' → ∀ Q, KpN X.K F H G Q' Q → g vs σ H Q
def dgName (i : Nat) : DTG := fun d S G Q => Q (S.set i (some d)) G
theorem dg_name (i : Nat) {x : Str} (hN : X.N.Nodup) (hi : X.N[i]? = some x := by rfl) (hx : Loc X.env.scope x := by first | exact Or.inl rfl | exact Or.inr rfl) (hf : X.fn x = true ∨ X.env.scope.names.lookup x = some .local := by first | exact .inl rfl | exact .inr rfl | assumption) : DG X (.Name x pos) (dgName i) :=
  ⟨_, pg_name (i := i) hN hi hx hf, fun F H σ S G v d o r Q' h Q k => k F H _ _ G Go.refl ⟨o.g, o.s.set r i⟩ h⟩
def dgNil : DTGs := fun ds S G Q => match ds with
  | [] => Q S G
  | _ => False
def dgCons (t : DTG) (u : DTGs) : DTGs := fun ds S G Q => match ds with
  | d :: r => t d S G fun S1 G1 => u r S1 G1 Q
  | _ => False
theorem dgs_nil : DGs X [] dgNil := ⟨_, pgs_nil, fun F H σ S G vs ds o r Q' h Q k => by
  cases r with
  | nil => exact ⟨rfl, k F H σ S G Go.refl o h⟩
  | cons a b => exact h.elim⟩
theorem dgs_cons {e : Expr} {es : List Expr} {t : DTG} {u : DTGs} (h1 : DG X e t) (h2 : DGs X es u) (hs : (assignEach (e :: es) X.env).map (·.2) = assign e X.env :: (assignEach es X.env).map (·.2) := by rfl) : DGs X (e :: es) (dgCons t u) := by
  obtain ⟨t1, p1, r1⟩ := h1.ex
  obtain ⟨t2, p2, r2⟩ := h2.ex
  refine ⟨_, pgs_cons p1 p2 hs, fun F H σ S G vs ds o r Q' h Q k => ?_⟩
  cases r with
  | nil => exact h.elim
  | cons a b =>
    refine ⟨_, _, rfl, r1 F H σ S G _ _ o a _ h _ fun F1 H1 σ1 S1 G1 e1 o1 h1 => ?_⟩
    exact r2 F1 H1 σ1 S1 G1 _ _ o1 (b.mono e1.ex) _ h1 _ (k.mono e1)
def dgTup (n : Nat) (u : DTGs) : DTG := fun d S G Q => match d with
  | .tup ds => ds.length = n ∧ u ds S G Q
  | .kup ds => ds.length = n ∧ u ds S G Q
  | _ => False
theorem dg_tup {es : List Expr} {k : Nat} {u : DTGs} {n : Nat} (hc : X.calm = true) (h : DGs X es u) (hn : (assignEach es X.env).length = n := by rfl) (hst : (assignEach es X.env).findIdx? (·.1) = none := by rfl) : DG X (.Tuple es k pos) (dgTup n u) := by
  obtain ⟨t1, p1, r1⟩ := h.ex
  refine ⟨_, pg_tup hc p1 hn hst, fun F H σ S G v d o r Q' h Q k => ?_⟩
  cases r with
  | tup hs hr =>
    refine ⟨_, _, rfl, .inl (.inl (o.g.ex _ _ hs)), by rw [hr.length]; exact h.1, ?_⟩
    exact r1 F H σ S G _ _ o hr _ h.2 _ k
  | kup hs hr =>
    refine ⟨_, _, rfl, o.g.ex.sqt hs, by rw [hr.length]; exact h.1, ?_⟩
    exact r1 F H σ S G _ _ o hr _ h.2 _ k
  | _ => exact h.elim
def dNext : DTS := fun D' S G => D'.nx S G
def dSeq (t u : DTS) : DTS := fun D' S G => t { D' with nx := u D' } S G
def dAsg (te : DTE) (g : DTG) : DTS := fun D' S G => te S G fun d G1 => g d S G1 D'.nx
def dDrop (te : DTE) : DTS := fun D' S G => te S G fun _ G1 => D'.nx S G1
def dRet (te : DTE) : DTS := fun D' S G => te S G D'.rt
def dRetN : DTS := fun D' _ G => D'.rt .non G
def dIfS (c : DTT) (t u : DTS) : DTS := fun D' S G => c S G fun b G1 => if b = true then t D' S G1 else u D' S G1
def dNever : DTS := fun _ _ _ => False
def dBreak : DTS := fun D' S G => D'.bk S G
def dCont : DTS := fun D' S G => D'.ct S G
theorem dps_nil : DPs X [] dNext := ⟨_, pss_nil, fun F H σ S G o D' h D0 k => k.nx F H σ S G Go.refl o h⟩
theorem dps_cons {st : Stmt} {rest : List Stmt} {t u : DTS} (h1 : DP X st t) (h2 : DPs X rest u) : DPs X (st :: rest) (dSeq t u) := by
  obtain ⟨t1, p1, r1⟩ := h1.ex
  obtain ⟨t2, p2, r2⟩ := h2.ex
  refine ⟨_, pss_cons p1 p2, fun F H σ S G o D' h D0 k => ?_⟩
  exact r1 F H σ S G o _ h _ ⟨fun F1 H1 σ1 S1 G1 e1 o1 h1 => r2 F1 H1 σ1 S1 G1 o1 _ h1 _ (k.mono e1), k.rt, k.bk, k.ct⟩
theorem dps_one {st : Stmt} {t : DTS} (h1 : DP X st t) : DPs X [st] t := by
  obtain ⟨t1, p1, r1⟩ := h1.ex
  exact ⟨_, pss_one p1, r1⟩
theorem dp_asg {tg e : Expr} {te : DTE} {g : DTG} (he : DE X e te) (hg : DG X tg g) (hs : swapsWithSole [tg] e pos.line X.env = pure false := by rfl) (hw : swappedStores [tg] e X.env = pure none := by rfl)
    (h1 : (assignEach [tg] X.env).map (·.2) = [assign tg X.env] := by rfl) : DP X (.Assign [tg] e pos) (dAsg te g) := by
  obtain ⟨t1, p1, r1⟩ := he.ex
  obtain ⟨t2, p2, r2⟩ := hg.ex
  refine ⟨_, ps_asg p1 p2 hs hw h1, fun F H σ S G o D' h D0 k => ?_⟩
  refine r1 F H σ S G o _ h _ fun F1 H1 v d G1 e1 g1 q1 h1 => ?_
  exact r2 F1 H1 σ S G1 v d (o.go e1 g1) q1 _ h1 _ (k.nx.mono e1)
theorem dp_expr {e : Expr} {te : DTE} (he : DE X e te) (hs : swapsWith e none pos.line X.env = pure false := by rfl) : DP X (.Expr e pos) (dDrop te) := by
  obtain ⟨t1, p1, r1⟩ := he.ex
  refine ⟨_, ps_expr p1 hs, fun F H σ S G o D' h D0 k => ?_⟩
  exact r1 F H σ S G o _ h _ fun F1 H1 v d G1 e1 g1 q1 h1 => k.nx F1 H1 σ S G1 e1 (o.go e1 g1) h1
theorem dp_ret {e : Expr} {te : DTE} (he : DE X e te) : DP X (.Return (some e) pos) (dRet te) := by
  obtain ⟨t1, p1, r1⟩ := he.ex
  exact ⟨_, ps_ret p1, fun F H σ S G o D' h D0 k => r1 F H σ S G o _ h _ k.rt⟩
theorem dp_if {c : Expr} {a b : List Stmt} {tc : DTT} {t u : DTS} (hc : DT X c tc) (ha : DPs X a t) (hb : DPs X b u) : DP X (.If c a b pos) (dIfS tc t u) := by
  obtain ⟨t0, p0, r0⟩ := hc.ex
  obtain ⟨t1, p1, r1⟩ := ha.ex
  obtain ⟨t2, p2, r2⟩ := hb.ex
  refine ⟨_, ps_if p0 p1 p2, fun F H σ S G o D' h D0 k => ?_⟩
  refine r0 F H σ S G o _ h _ fun F1 H1 b G1 e1 g1 h1 => ?_
  cases b with
  | true =>
    rw [if_pos rfl] at h1 ⊢
    exact r1 F1 H1 σ S G1 (o.go e1 g1) _ h1 _ (k.mono e1)
  | false =>
    rw [if_neg Bool.false_ne_true] at h1 ⊢
    exact r2 F1 H1 σ S G1 (o.go e1 g1) _ h1 _ (k.mono e1)
theorem dp_never {st : Stmt} : DP X st dNever := ⟨_, ps_never, fun F H σ S G o D' h D0 k => h.elim⟩
theorem dps_never {st : List Stmt} : DPs X st dNever := ⟨_, pss_never, fun F H σ S G o D' h D0 k => h.elim⟩
def dWhile (c : DTT) (tb : DTS) : DTS := fun D' S G => ∃ W : Nat → DS → GH → Prop, (∃ m, W m S G) ∧ ∀ m S G, W m S G →
  c S G fun b G1 => if b = true then tb { D' with nx := fun S' G' => ∃ m', m' < m ∧ W m' S' G', ct := fun S' G' => ∃ m', m' < m ∧ W m' S' G', bk := D'.nx } S G1 else D'.nx S G1
structure ItOk (K : PySem.W.Frag) (F : Hp) (J : It) (ds : List D) (gd : GH → Prop) : Prop where
  go : ∀ F1 H1 G1 (i : Nat) d, Ex F F1 → Gok K F1 H1 G1 → gd G1 → ds[i]? = some d → J.go i H1 ∧ ∀ x H2, J.yld i H1 x H2 → ∃ F2, Go F1 H1 G1 F2 H2 G1 ∧ Gok K F2 H2 G1 ∧ Rep K F2 x d
  stop : ∀ F1 H1 G1, Ex F F1 → Gok K F1 H1 G1 → gd G1 → J.stop ds.length H1
abbrev DTI := DS → GH → (List D → (GH → Prop) → GH → Prop) → Prop
structure DI (X : Cx) (tg iter : Expr) (wi' : DTI) : Prop where
  ex : ∃ wi, PI X tg iter wi ∧ ∀ F H σ S G, Ok X.K F H σ S G → ∀ R', wi' S G R' → ∀ R : It → Hp → Prop, (∀ F1 H1 G1 J ds gd, Go F H G F1 H1 G1 → Gok X.K F1 H1 G1 → ItOk X.K F1 J ds gd → R' ds gd G1 → R J H1) → wi σ H R
def dFor (wi : DTI) (g : DTG) (tb : DTS) : DTS := fun D' S G => wi S G fun ds gd G1 => ∃ W : Nat → DS → GH → Prop, W 0 S G1 ∧ (∀ i S G, W i S G → gd G) ∧
  (∀ i S G d, W i S G → ds[i]? = some d → g d S G fun S2 G2 => tb { D' with nx := W (i + 1), ct := W (i + 1), bk := D'.nx } S2 G2) ∧ (∀ S G, W ds.length S G → D'.nx S G)
theorem dp_for {tg iter : Expr} {body : List Stmt} {wi : DTI} {g : DTG} {tb : DTS} (hp : PassesOwn (model X.prog X.w) X.A X.env X.xe) (hc : X.calm = true) (hi : DI X tg iter wi) (hg : DG X tg g) (hb : DPs X body tb)
    (hs : ∀ x, foldedSetIterable iter X.env x = pure x := by intro _; rfl) : DP X (.For tg iter body [] pos) (dFor wi g tb) := by
  obtain ⟨t0, p0, r0⟩ := hi.ex
  obtain ⟨t1, p1, r1⟩ := hg.ex
  obtain ⟨t2, p2, r2⟩ := hb.ex
  refine ⟨_, ps_for hp hc p0 p1 p2 hs, fun F H σ S G o D' h D0 k => ?_⟩
  refine r0 F H σ S G o _ h _ fun F1 H1 G1 J ds gd e1 g1 it h1 => ?_
  obtain ⟨W, w0, wg, turn, done⟩ := h1
  refine ⟨fun i m σ2 H2 => i + m = ds.length ∧ ∃ F2 S2 G2, Go F1 H1 G1 F2 H2 G2 ∧ Ok X.K F2 H2 σ2 S2 G2 ∧ W i S2 G2, ⟨ds.length, Nat.zero_add _, F1, S, G1, Go.refl, o.go e1 g1, w0⟩, ?_⟩
  rintro i m σ2 H2 ⟨him, F2, S2, G2, e2, o2, w2⟩
  have gg := wg i S2 G2 w2
  cases m with
  | zero =>
    have hi : i = ds.length := him
    refine .inl ⟨hi ▸ it.stop F2 H2 G2 e2.ex o2.g gg, k.nx F2 H2 σ2 S2 G2 (e1.trans e2) o2 (done S2 G2 (hi ▸ w2))⟩
  | succ m =>
    have hlt : i < ds.length := by omega
    have hd : ds[i]? = some ds[i] := List.getElem?_eq_getElem hlt
    obtain ⟨ig, iy⟩ := it.go F2 H2 G2 i _ e2.ex o2.g gg hd
    refine .inr ⟨ig, fun σ3 H3 => ∃ F3 S3 G3, Go F1 H1 G1 F3 H3 G3 ∧ Ok X.K F3 H3 σ3 S3 G3 ∧ W (i + 1) S3 G3, fun σ3 H3 z => ⟨m, Nat.lt_succ_self m, by omega, z⟩, fun x H3 hy => ?_⟩
    obtain ⟨F3, e3, g3, q3⟩ := iy x H3 hy
    refine r1 F3 H3 σ2 S2 G2 x _ (o2.go e3 g3) q3 _ (turn i S2 G2 _ w2 hd) _ fun F4 H4 σ4 S4 G4 e4 o4 h4 => ?_
    have kk := k.mono (((e1.trans e2).trans e3).trans e4)
    have nn : KpN X.K F4 H4 G4 (W (i + 1)) (fun σ3 H3 => ∃ F3 S3 G3, Go F1 H1 G1 F3 H3 G3 ∧ Ok X.K F3 H3 σ3 S3 G3 ∧ W (i + 1) S3 G3) := fun F5 H5 σ5 S5 G5 e5 o5 w5 => ⟨F5, S5, G5, ((e2.trans e3).trans e4).trans e5, o5, w5⟩
    exact r2 F4 H4 σ4 S4 G4 o4 _ h4 _ ⟨nn, kk.rt, kk.nx, nn⟩
abbrev SpD := List D → GH → DQ → Prop
def SpOf (K : PySem.W.Frag) (sp : SpD) : Sp := fun vs H Q _ => ∃ F G ds Q', Gok K F H G ∧ Reps K F vs ds ∧ sp ds G Q' ∧ KpE K F H G Q' Q
def dCall (sp : SpD) (ta : DTA) : DTE := fun S G Q => ta S G fun ds G1 => sp ds G1 Q
theorem de_call {k : Nat} {f : Addr} {fd : FuncData} {ps : List Str} {sp : SpD} {x : Str} {p : Pos} {e : Expr} {es : List Expr} {ta : DTA} (Fn : FnG X.prog X.w X.K X.mg X.base CX0 k f fd ps (SpOf X.K sp)) (hA : X.A.guards = some []) (hr : Room k X.A) (hg : Gl X x) (hm : X.mg x = some (.ref f)) (hk : PySem.W.keepIn X.K (.ref f) = true) (hb : Binds X.K fd ps [])
    (ha : DA X (e :: es) ta) (hdb : (x == ("__debug__" : Str)) = false := by decide) (he : starEach (e :: es) X.env = (false, eval e X.env) :: starEach es X.env := by rfl) (hpl : (backTo pos (starEach es X.env)).any (·.1) = false := by rfl) :
    DE X (.Call (.Name x p) (e :: es) [] pos) (dCall sp ta) := by
  obtain ⟨t1, p1, r1⟩ := ha.ex
  refine ⟨_, pg_call Fn hA hr hg hm hk hb .nil pass0 p1 hdb he hpl, fun F H σ S G o Q' h Q k => ?_⟩
  refine r1 F H σ S G o _ h _ fun F1 H1 vs ds G1 e1 g1 q1 h1 => ?_
  rw [List.append_nil]
  exact ⟨F1, G1, ds, Q', g1, q1, h1, k.mono e1⟩
end
/-- what is wanted at a def's end: its own things may be forgotten -/
def fin (Q : DQ) : DEnds := { nx := fun _ G' => ∃ G0, Sub G0 G' ∧ Q .non G0, rt := fun d G' => ∃ G0, Sub G0 G' ∧ Q d G0 }
theorem fn_mk {P : Program} {w : World} {K : PySem.W.Frag} {mg : Str → Option Value} {base : Heap} {x qual : Str} {st : Stmt} {f : Addr} {fd : FuncData} {N ps : List Str} {k : Nat} {sp : SpD} (Fu : Fun K x qual st f fd) (sc : FnScope N ps (defScope st))
    (len : ∀ ds G Q, sp ds G Q → ds.length = ps.length)
    (hb : ∀ (cdv : Value) (A : Around) (outer : List Env) (s : Shared) (H : Hp) (E : XK), A.guards = some [] → Room k (A.deeper (envOfC qual (defScope st) s.heap.objs.size f cdv)) →
      ∃ t', DPs (cxOf CX0 P w K mg base N qual (defScope st) f cdv A outer s H E).nox (defBody st) t' ∧ ∀ ds G Q, sp ds G Q → t' (fin Q) (dstart N ds) G) : FnG P w K mg base CX0 (k + 1) f fd ps (SpOf K sp) := by
  obtain ⟨oc, od, kV, doc, pm, an, cdv, ct, osl, rfl, lk, hcd⟩ := Fu.ex
  refine fng_of lk hcd sc (fun vs H Q E h => ?_) (fun A outer s H vs Q E hg hr h => ?_)
  · obtain ⟨F, G, ds, Q', g, r, h, _⟩ := h
    rw [r.length]
    exact len ds G Q' h
  · obtain ⟨F, G, ds, Q', g, r, h, kk⟩ := h
    obtain ⟨t', d, rd⟩ := hb cdv A outer s H E hg hr
    obtain ⟨t, p, rf⟩ := d.ex
    refine ⟨t, p.nox, rf F H _ _ G ⟨g, r.start⟩ _ (rd ds G Q' h) _ ⟨fun F1 H1 σ1 S1 G1 e1 o1 h1 => ?_, fun F1 H1 v d G1 e1 g1 r1 h1 => ?_, fun _ _ _ _ _ _ _ z => z.elim, fun _ _ _ _ _ _ _ z => z.elim⟩⟩
    · obtain ⟨G0, sb, h1⟩ := h1
      exact kk F1 H1 _ _ G0 (e1.sub sb) (o1.g.sub sb) .non h1
    · obtain ⟨G0, sb, h1⟩ := h1
      exact kk F1 H1 v d G0 (e1.sub sb) (g1.sub sb) r1 h1
end DL
end
section
set_option Elab.async false
set_option linter.all false
set_option maxRecDepth 100000
set_option maxHeartbeats 4000000
namespace DL
open PySem PySem.Spec PyProof.Rows L2
mutual
def D.py : D → PyData
  | .non => .none
  | .bl b => .bool b
  | .int i => .int i
  | .str x => .str x
  | .tup xs | .kup xs => .tuple (D.pys xs)
  | .lst xs => .list (D.pys xs)
  | _ => .none
def D.pys : List D → List PyData
  | [] => []
  | x :: xs => D.py x :: D.pys xs
end
mutual
def D.pl : D → Bool
  | .non | .bl _ | .int _ | .str _ => true
  | .tup xs | .lst xs | .kup xs => D.pls xs
  | _ => false
def D.pls : List D → Bool
  | [] => true
  | x :: xs => D.pl x && D.pls xs
end
mutual
theorem D.py_plain : ∀ d : D, d.pl = true → d.py.plain = true
  | .non, _ => rfl
  | .bl _, _ => rfl
  | .int _, _ => rfl
  | .str _, _ => rfl
  | .tup xs, h => D.pys_plain xs h
  | .lst xs, h => D.pys_plain xs h
  | .kup xs, h => D.pys_plain xs h
  | .ty _, h => by cases h
  | .dK _, h => by cases h
  | .dT _, h => by cases h
  | .obj _ _, h => by cases h
  | .rf _, h => by cases h
  | .scr _, h => by cases h
theorem D.pys_plain : ∀ xs : List D, D.pls xs = true → PyData.plainAll (D.pys xs) = true
  | [], _ => rfl
  | x :: xs, h => by
    have h' : x.pl = true ∧ D.pls xs = true := by simpa [D.pls] using h
    simp only [D.pys, PyData.plainAll, D.py_plain x h'.1, D.pys_plain xs h'.2, Bool.and_self]
end
theorem D.pls_all (xs : List D) : D.pls xs = xs.all D.pl := by
  induction xs with
  | nil => rfl
  | cons x xs ih => simp [D.pls, ih]
mutual
theorem Rep.dp {K : PySem.W.Frag} {F : Hp} : ∀ (d : D) {v : V}, Rep K F v d → d.pl = true → Dp K F v d.py
  | .non, _, .non, _ => .non
  | .bl _, _, .bl b, _ => .bl b
  | .int _, _, .int i, _ => .int i
  | .str _, _, .str x, _ => .str x
  | .tup xs, _, .tup h r, p => .tup (.inl (.inl h)) (Reps.dp xs r p)
  | .lst xs, _, .lst h r, p => .lst (.inl (.inl h)) (Reps.dp xs r p)
  | .kup xs, _, .kup h r, p => .tup h (Reps.dp xs r p)
theorem Reps.dp {K : PySem.W.Frag} {F : Hp} : ∀ (ds : List D) {vs : List V}, Reps K F vs ds → D.pls ds = true → DpAll K F vs (D.pys ds)
  | [], _, .nil, _ => .nil
  | d :: ds, _, .cons h t, p => by
    have p' : d.pl = true ∧ D.pls ds = true := by simpa [D.pls] using p
    exact .cons (Rep.dp d h p'.1) (Reps.dp ds t p'.2)
end
mutual
theorem Dp.mono' {K : PySem.W.Frag} {F F' : Hp} (e : Ex F F') : ∀ (d : PyData) {v : V}, Dp K F v d → Dp K F' v d
  | .none, _, .non => .non
  | .bool _, _, .bl b => .bl b
  | .int _, _, .int i => .int i
  | .str _, _, .str x => .str x
  | .list ds, _, .lst h r => .lst (e.sql h) (DpAll.mono' e ds r)
  | .tuple ds, _, .tup h r => .tup (e.sqt h) (DpAll.mono' e ds r)
theorem DpAll.mono' {K : PySem.W.Frag} {F F' : Hp} (e : Ex F F') : ∀ (ds : List PyData) {vs : List V}, DpAll K F vs ds → DpAll K F' vs ds
  | [], _, .nil => .nil
  | d :: ds, _, .cons h t => .cons (Dp.mono' e d h) (DpAll.mono' e ds t)
end
/-- what stands there now: a list that changes, as it is -/
def D.cur (G : GH) : D → D
  | .rf a => (match G a with
    | some (.lst xs) => .lst xs
    | some (.dK kds) => .dK kds
    | some (.dT kds) => .dT kds
    | some (.ins C kds) => .obj C kds
    | _ => .rf a)
  | d => d
theorem cur_dp {K : PySem.W.Frag} {F H : Hp} {G : GH} {v : V} {d : D} (g : Gok K F H G) (r : Rep K F v d) (p : (d.cur G).pl = true) : Dp K H v (d.cur G).py := by
  cases d with
  | rf a =>
    cases r
    unfold D.cur at p ⊢
    cases q : G a with
    | none => simp only [q] at p; cases p
    | some o =>
      cases o with
      | lst xs =>
        simp only [q] at p ⊢
        obtain ⟨vs, e, rs⟩ := (g.at_ a _ q).2
        exact .lst (.inl (.inl e)) (DpAll.mono' g.ex _ (Reps.dp xs rs p))
      | _ => simp only [q] at p; cases p
  | _ => exact Dp.mono' g.ex _ (Rep.dp _ r p)
theorem cur_list {K : PySem.W.Frag} {F H : Hp} {G : GH} {v : V} {d : D} {ds : List D} (g : Gok K F H G) (r : Rep K F v d) (p : d.cur G = .lst ds) : ∃ a vs, v = .ref a ∧ H a = some (.lst vs) ∧ Reps K F vs ds := by
  cases d with
  | rf a =>
    cases r
    unfold D.cur at p
    cases q : G a with
    | none => simp only [q] at p; cases p
    | some o =>
      cases o with
      | lst xs =>
        simp only [q] at p; cases p
        obtain ⟨vs, e, rs⟩ := (g.at_ a _ q).2
        exact ⟨a, vs, rfl, e, rs⟩
      | dK kds => simp only [q] at p; cases p
      | dT kds => simp only [q] at p; cases p
      | ins C kds => simp only [q] at p; cases p
      | deck k1 k2 k3 n => simp only [q] at p; cases p
      | dcell => simp only [q] at p; cases p
      | lkT o kvs kds => simp only [q] at p; cases p
      | lkK o kvs kds => simp only [q] at p; cases p
      | dN w kds => simp only [q] at p; cases p
      | lkN w o xs kds => simp only [q] at p; cases p
      | dU w kds => simp only [q] at p; cases p
      | lkU w o xs kds => simp only [q] at p; cases p
      | tupU o vs ds => simp only [q] at p; cases p
      | tab z => simp only [q] at p; cases p
  | lst xs =>
    cases p
    cases r with
    | lst h rs => exact ⟨_, _, rfl, g.ex _ _ h, rs⟩
  | _ => cases p
def okE (x y : D) : Bool := x.pl && y.pl && decide (min x.py.depth y.py.depth ≤ 60)
def D.eqv (x y : D) : Bool := PyData.eqv x.py y.py
section
variable {X : Cx} {pos : Pos}
def rCmpP (K : PySem.W.Frag) (C : PyData → PyData → Bool) (f : PyData → PyData → Bool) : R2 := fun x y H Q => ∃ d e, Dp K H x d ∧ Dp K H y e ∧ min d.depth e.depth ≤ 60 ∧ C d e = true ∧ Q (.bl (f d e)) H
theorem cmpP_of {op : CmpOp} {C f : PyData → PyData → Bool} (hu : X.A.units + 100 < cLine)
    (rule : ∀ {prog : Program} {w : World} {A : Around} {E : Value → Shared → Prop} {s : Shared} {a b : Value} {da db : PyData} {as bs : List Addr} {Q : Value → Shared → Prop}, Reads s.heap a da as → Reads s.heap b db bs → C da db = true → A.units + min da.depth db.depth < cLine → Q (.bool (f da db)) s → wpAny (model prog w) A (compareOp op a b) Q E s) :
    OpR X (compareOp op) (rCmpP X.K C f) := by
  intro pins s σ H x y v u Q I rx ry h
  obtain ⟨d, e, hd, he, hm, hc, q⟩ := h
  obtain ⟨as, r1⟩ := Dp.reads I d x v hd rx
  obtain ⟨bs, r2⟩ := Dp.reads I e y u he ry
  exact rule r1 r2 hc (by omega) ⟨.bl _, H, I, rfl, q⟩
theorem opd_cmp {op : CmpOp} {C f : PyData → PyData → Bool} {C' f' : D → D → Bool} (ho : OpR X (compareOp op) (rCmpP X.K C f)) (hc : ∀ x y : D, C' x y = true → x.pl = true ∧ y.pl = true ∧ min x.py.depth y.py.depth ≤ 60 ∧ C x.py y.py = true) (hf : ∀ x y : D, f' x y = f x.py y.py) :
    OpD X (compareOp op) (fun x y G Q => C' (x.cur G) (y.cur G) = true ∧ Q (.bl (f' (x.cur G) (y.cur G))) G) := by
  refine ⟨_, ho, fun F H G x y dx dy g rx ry Q' h Q k => ?_⟩
  obtain ⟨c, q⟩ := h
  obtain ⟨p1, p2, m, c2⟩ := hc _ _ c
  refine ⟨_, _, cur_dp g rx p1, cur_dp g ry p2, m, c2, ?_⟩
  rw [hf] at q
  exact k F H _ _ G Go.refl g (.bl _) q
theorem okE_of {x y : D} (h : okE x y = true) : x.pl = true ∧ y.pl = true ∧ min x.py.depth y.py.depth ≤ 60 := by
  unfold okE at h
  simp only [Bool.and_eq_true, decide_eq_true_eq] at h
  exact ⟨h.1.1, h.1.2, h.2⟩
theorem od_eq (hu : X.A.units + 100 < cLine) : OpD X (compareOp .Eq) (fun x y G Q => okE (x.cur G) (y.cur G) = true ∧ Q (.bl (D.eqv (x.cur G) (y.cur G))) G) :=
  opd_cmp (C := fun d e => d.plain && e.plain) (f := PyData.eqv) (cmpP_of hu fun r1 r2 c hu' q => by
    simp only [Bool.and_eq_true] at c
    exact SeqAt.eq_plain r1 r2 c.1 c.2 hu' q) (fun x y h => by
    obtain ⟨h1, h2, h3⟩ := okE_of h
    exact ⟨h1, h2, h3, by simp [D.py_plain _ h1, D.py_plain _ h2]⟩) fun _ _ => rfl
theorem od_ne (hu : X.A.units + 100 < cLine) : OpD X (compareOp .NotEq) (fun x y G Q => okE (x.cur G) (y.cur G) = true ∧ Q (.bl (!D.eqv (x.cur G) (y.cur G))) G) :=
  opd_cmp (C := fun d e => d.plain && e.plain) (f := fun d e => !PyData.eqv d e) (f' := fun x y => !D.eqv x y) (cmpP_of hu fun r1 r2 c hu' q => by
    simp only [Bool.and_eq_true] at c
    exact SeqAt.ne_plain r1 r2 c.1 c.2 hu' q) (fun x y h => by
    obtain ⟨h1, h2, h3⟩ := okE_of h
    exact ⟨h1, h2, h3, by simp [D.py_plain _ h1, D.py_plain _ h2]⟩) fun _ _ => rfl
def okL (x y : D) : Bool := okE x y && PySem.W.alike x.py y.py && (match x with | .non => false | _ => true)
def D.lt (x y : D) : Bool := PySem.W.dataLt x.py y.py
def notNone : PyData → Bool
  | .none => false
  | _ => true
theorem notNone_ne {d : PyData} (h : notNone d = true) : d ≠ .none := fun e => by rw [e] at h; cases h
theorem okL_of {x y : D} (h : okL x y = true) : x.pl = true ∧ y.pl = true ∧ min x.py.depth y.py.depth ≤ 60 ∧ (PySem.W.alike x.py y.py && notNone x.py) = true := by
  unfold okL at h
  simp only [Bool.and_eq_true] at h
  obtain ⟨⟨h1, h2⟩, h3⟩ := h
  obtain ⟨p1, p2, p3⟩ := okE_of h1
  refine ⟨p1, p2, p3, ?_⟩
  rw [h2, Bool.true_and]
  cases x <;> first | rfl | (simp [D.pl] at p1; done) | (simp at h3; done)
theorem od_lt (hu : X.A.units + 100 < cLine) : OpD X (compareOp .Lt) (fun x y G Q => okL (x.cur G) (y.cur G) = true ∧ Q (.bl (D.lt (x.cur G) (y.cur G))) G) :=
  opd_cmp (C := fun d e => PySem.W.alike d e && notNone d) (f := PySem.W.dataLt) (cmpP_of hu fun r1 r2 c hu' q => by
    simp only [Bool.and_eq_true] at c
    exact PySem.W.lt_data r1 r2 c.1 (notNone_ne c.2) hu' q) (fun x y h => okL_of h) fun _ _ => rfl
theorem od_gt (hu : X.A.units + 100 < cLine) : OpD X (compareOp .Gt) (fun x y G Q => okL (x.cur G) (y.cur G) = true ∧ Q (.bl (D.lt (y.cur G) (x.cur G))) G) :=
  opd_cmp (C := fun d e => PySem.W.alike d e && notNone d) (f := fun d e => PySem.W.dataLt e d) (f' := fun x y => D.lt y x) (cmpP_of hu fun r1 r2 c hu' q => by
    simp only [Bool.and_eq_true] at c
    exact PySem.W.gt_data r1 r2 c.1 (notNone_ne c.2) hu' q) (fun x y h => okL_of h) fun _ _ => rfl
theorem od_le (hu : X.A.units + 100 < cLine) : OpD X (compareOp .LtE) (fun x y G Q => okL (x.cur G) (y.cur G) = true ∧ Q (.bl (!D.lt (y.cur G) (x.cur G))) G) :=
  opd_cmp (C := fun d e => PySem.W.alike d e && notNone d) (f := fun d e => !PySem.W.dataLt e d) (f' := fun x y => !D.lt y x) (cmpP_of hu fun r1 r2 c hu' q => by
    simp only [Bool.and_eq_true] at c
    exact PySem.W.le_data r1 r2 c.1 (notNone_ne c.2) hu' q) (fun x y h => okL_of h) fun _ _ => rfl
theorem od_ge (hu : X.A.units + 100 < cLine) : OpD X (compareOp .GtE) (fun x y G Q => okL (x.cur G) (y.cur G) = true ∧ Q (.bl (!D.lt (x.cur G) (y.cur G))) G) :=
  opd_cmp (C := fun d e => PySem.W.alike d e && notNone d) (f := fun d e => !PySem.W.dataLt d e) (f' := fun x y => !D.lt x y) (cmpP_of hu fun r1 r2 c hu' q => by
    simp only [Bool.and_eq_true] at c
    exact PySem.W.ge_data r1 r2 c.1 (notNone_ne c.2) hu' q) (fun x y h => okL_of h) fun _ _ => rfl
end
end DL
end
section
set_option Elab.async false
set_option linter.all false
set_option maxRecDepth 100000
set_option maxHeartbeats 4000000
namespace DL
open PySem PySem.Spec PyProof.Rows L2
def valD {κ : Type} [DecidableEq κ] (kds : List (κ × D)) (k : κ) : Option D := (kds.find? fun kv => decide (kv.1 = k)).map (·.2)
def putD {κ : Type} [DecidableEq κ] (kds : List (κ × D)) (k : κ) (d : D) : List (κ × D) :=
  if (kds.any fun kv => decide (kv.1 = k)) = true then kds.map (fun kv => if kv.1 = k then (kv.1, d) else kv) else kds ++ [(k, d)]
structure KR {κ : Type} (K : PySem.W.Frag) (F : Hp) (kvs : List (κ × V)) (kds : List (κ × D)) : Prop where
  ks : kvs.map (·.1) = kds.map (·.1)
  vs : Reps K F (kvs.map (·.2)) (kds.map (·.2))
section
variable {κ : Type} [DecidableEq κ] {K : PySem.W.Frag} {F : Hp}
theorem KR.nil : KR K F ([] : List (κ × V)) [] := ⟨rfl, .nil⟩
theorem KR.cons {k : κ} {v : V} {d : D} {kvs : List (κ × V)} {kds : List (κ × D)} (h : Rep K F v d) (t : KR K F kvs kds) : KR K F ((k, v) :: kvs) ((k, d) :: kds) := ⟨by simp [t.ks], .cons h t.vs⟩
theorem KR.uncons {kvs : List (κ × V)} {k : κ} {d : D} {kds : List (κ × D)} (h : KR K F kvs ((k, d) :: kds)) : ∃ v r, kvs = (k, v) :: r ∧ Rep K F v d ∧ KR K F r kds := by
  obtain ⟨h1, h2⟩ := h
  cases kvs with
  | nil => simp at h1
  | cons p r =>
    obtain ⟨k', v⟩ := p
    simp only [List.map_cons, List.cons.injEq] at h1
    obtain ⟨rfl, h1⟩ := h1
    cases h2 with
    | cons a b => exact ⟨v, r, rfl, a, h1, b⟩
theorem KR.unnil {kvs : List (κ × V)} (h : KR K F kvs []) : kvs = [] := by
  have := h.ks
  simpa using this
theorem KR.mono {F' : Hp} (e : Ex F F') {kvs : List (κ × V)} {kds : List (κ × D)} (h : KR K F kvs kds) : KR K F' kvs kds := ⟨h.ks, h.vs.mono e⟩
theorem KR.append {a b : List (κ × V)} {c d : List (κ × D)} (h : KR K F a c) (h' : KR K F b d) : KR K F (a ++ b) (c ++ d) := ⟨by simp [h.ks, h'.ks], by simpa using h.vs.append h'.vs⟩
theorem KR.len {kvs : List (κ × V)} {kds : List (κ × D)} (h : KR K F kvs kds) : kvs.length = kds.length := by
  have := congrArg List.length h.ks
  simpa using this
theorem KR.val {k : κ} : ∀ {kds : List (κ × D)} {kvs : List (κ × V)}, KR K F kvs kds → (∀ d, valD kds k = some d → ∃ v, valV kvs k = some v ∧ Rep K F v d) ∧ (valD kds k = none → valV kvs k = none)
  | [], kvs, h => by
    obtain rfl := h.unnil
    exact ⟨fun d z => (by cases z), fun _ => rfl⟩
  | (k', d') :: kds, kvs, h => by
    obtain ⟨v, r, rfl, rv, t⟩ := h.uncons
    by_cases e : k' = k
    · have e1 : valD ((k', d') :: kds) k = some d' := by simp [valD, e]
      have e2 : valV ((k', v) :: r) k = some v := valV_pos e
      rw [e1, e2]
      exact ⟨fun d z => (by cases z; exact ⟨v, rfl, rv⟩), fun z => (by cases z)⟩
    · have e1 : valD ((k', d') :: kds) k = valD kds k := by simp [valD, List.find?_cons, e]
      have e2 : valV ((k', v) :: r) k = valV r k := valV_neg e
      rw [e1, e2]
      exact KR.val t
theorem KR.any {k : κ} {kds : List (κ × D)} {kvs : List (κ × V)} (h : KR K F kvs kds) : (kvs.any fun kv => decide (kv.1 = k)) = kds.any fun kv => decide (kv.1 = k) := by
  have e1 : (kvs.any fun kv => decide (kv.1 = k)) = (kvs.map (·.1)).any fun x => decide (x = k) := by simp [List.any_map, Function.comp_def]
  have e2 : (kds.any fun kv => decide (kv.1 = k)) = (kds.map (·.1)).any fun x => decide (x = k) := by simp [List.any_map, Function.comp_def]
  rw [e1, e2, h.ks]
theorem KR.mapd {k : κ} {v : V} {d : D} (r : Rep K F v d) : ∀ {kds : List (κ × D)} {kvs : List (κ × V)}, KR K F kvs kds → KR K F (kvs.map fun kv => if kv.1 = k then (kv.1, v) else kv) (kds.map fun kv => if kv.1 = k then (kv.1, d) else kv)
  | [], kvs, h => by
    obtain rfl := h.unnil
    exact .nil
  | (k', d') :: kds, kvs, h => by
    obtain ⟨v', r', rfl, rv, t⟩ := h.uncons
    simp only [List.map_cons]
    by_cases e : k' = k
    · rw [if_pos e, if_pos e]; exact .cons r (KR.mapd r t)
    · rw [if_neg e, if_neg e]; exact .cons rv (KR.mapd r t)
theorem KR.put {k : κ} {v : V} {d : D} {kds : List (κ × D)} {kvs : List (κ × V)} (h : KR K F kvs kds) (r : Rep K F v d) : KR K F (putK kvs k v) (putD kds k d) := by
  unfold putK putD
  rw [h.any]
  by_cases e : (kds.any fun kv => decide (kv.1 = k)) = true
  · rw [if_pos e, if_pos e]; exact KR.mapd r h
  · rw [if_neg e, if_neg e]; exact h.append (.cons r .nil)
end
def D.key : D → Option Key
  | .int i => some (.inl i)
  | .str x => some (.inr x)
  | _ => none
def D.keys : List D → Option (List Key)
  | [] => some []
  | d :: ds => match d.key, D.keys ds with
    | some k, some ks => some (k :: ks)
    | _, _ => none
theorem Rep.key {K : PySem.W.Frag} {F : Hp} {v : V} {d : D} {k : Key} (r : Rep K F v d) (h : d.key = some k) : v = kV k := by
  cases r <;> first | (cases h; rfl) | cases h
theorem Reps.keys {K : PySem.W.Frag} {F : Hp} : ∀ {vs : List V} {ds : List D} {ks : List Key}, Reps K F vs ds → D.keys ds = some ks → vs = ks.map kV
  | _, _, _, .nil, h => by cases h; rfl
  | _, _, ks, .cons (v := v) (d := d) (ds := ds) a b, h => by
    unfold D.keys at h
    cases e1 : d.key with
    | none => simp [e1] at h
    | some k =>
      cases e2 : D.keys ds with
      | none => simp [e1, e2] at h
      | some r =>
        simp only [e1, e2] at h
        cases h
        rw [a.key e1, b.keys e2]
        rfl
/-- the value at a key, of a dict as it stands: none: no such lookup; some none: not there -/
def D.look (x y : D) : Option (Option D) := match x with
  | .dK kds => y.key.map (valD kds)
  | .dT kds => (match y with
    | .tup ds => (D.keys ds).map (valD kds)
    | _ => none)
  | _ => none
theorem cur_dK {K : PySem.W.Frag} {F H : Hp} {G : GH} {v : V} {d : D} {kds : List (Key × D)} (g : Gok K F H G) (r : Rep K F v d) (p : d.cur G = .dK kds) : ∃ a kvs, v = .ref a ∧ H a = some (.dK kvs) ∧ KR K F kvs kds := by
  cases d with
  | rf a =>
    cases r
    unfold D.cur at p
    cases q : G a with
    | none => simp only [q] at p; cases p
    | some o =>
      cases o with
      | dK kd =>
        simp only [q] at p; cases p
        obtain ⟨kvs, e, h1, h2⟩ := (g.at_ a _ q).2
        exact ⟨a, kvs, rfl, e, h1, h2⟩
      | lst xs => simp only [q] at p; cases p
      | dT kd => simp only [q] at p; cases p
      | ins C kd => simp only [q] at p; cases p
      | deck k1 k2 k3 n => simp only [q] at p; cases p
      | dcell => simp only [q] at p; cases p
      | lkT o kvs kds => simp only [q] at p; cases p
      | lkK o kvs kds => simp only [q] at p; cases p
      | dN w kds => simp only [q] at p; cases p
      | lkN w o xs kds => simp only [q] at p; cases p
      | dU w kds => simp only [q] at p; cases p
      | lkU w o xs kds => simp only [q] at p; cases p
      | tupU o vs ds => simp only [q] at p; cases p
      | tab z => simp only [q] at p; cases p
  | dK kd =>
    cases p
    cases r with
    | dK h h1 h2 => exact ⟨_, _, rfl, g.ex _ _ h, h1, h2⟩
  | _ => cases p
theorem cur_dT {K : PySem.W.Frag} {F H : Hp} {G : GH} {v : V} {d : D} {kds : List (List Key × D)} (g : Gok K F H G) (r : Rep K F v d) (p : d.cur G = .dT kds) : ∃ a kvs, v = .ref a ∧ H a = some (.dT kvs) ∧ KR K F kvs kds := by
  cases d with
  | rf a =>
    cases r
    unfold D.cur at p
    cases q : G a with
    | none => simp only [q] at p; cases p
    | some o =>
      cases o with
      | dT kd =>
        simp only [q] at p; cases p
        obtain ⟨kvs, e, h1, h2⟩ := (g.at_ a _ q).2
        exact ⟨a, kvs, rfl, e, h1, h2⟩
      | lst xs => simp only [q] at p; cases p
      | dK kd => simp only [q] at p; cases p
      | ins C kd => simp only [q] at p; cases p
      | deck k1 k2 k3 n => simp only [q] at p; cases p
      | dcell => simp only [q] at p; cases p
      | lkT o kvs kds => simp only [q] at p; cases p
      | lkK o kvs kds => simp only [q] at p; cases p
      | dN w kds => simp only [q] at p; cases p
      | lkN w o xs kds => simp only [q] at p; cases p
      | dU w kds => simp only [q] at p; cases p
      | lkU w o xs kds => simp only [q] at p; cases p
      | tupU o vs ds => simp only [q] at p; cases p
      | tab z => simp only [q] at p; cases p
  | dT kd =>
    cases p
    cases r with
    | dT h h1 h2 => exact ⟨_, _, rfl, g.ex _ _ h, h1, h2⟩
  | _ => cases p
theorem look_get {K : PySem.W.Frag} {F H : Hp} {G : GH} {v u : V} {x y : D} {o : Option D} (g : Gok K F H G) (r : Rep K F v x) (ry : Rep K F u y) (h : (x.cur G).look y = some o) :
    ∃ a o', v = .ref a ∧ DGet H a u o' ∧ (∀ d, o = some d → ∃ z, o' = some z ∧ Rep K F z d) ∧ (o = none → o' = none) := by
  unfold D.look at h
  cases e : x.cur G with
  | dK kds =>
    simp only [e] at h
    obtain ⟨a, kvs, rfl, ha, kr⟩ := cur_dK g r e
    cases ek : y.key with
    | none => simp [ek] at h
    | some k =>
      simp only [ek, Option.map_some, Option.some.injEq] at h
      rw [ry.key ek]
      refine ⟨a, _, rfl, DGet.k (k := k) ha, fun d z => ?_, fun z => ?_⟩
      · obtain ⟨v, h1, h2⟩ := kr.val.1 d (h.trans z)
        exact ⟨v, h1, h2⟩
      · exact kr.val.2 (h.trans z)
  | dT kds =>
    simp only [e] at h
    obtain ⟨a, kvs, rfl, ha, kr⟩ := cur_dT g r e
    cases ry with
    | tup hb rs =>
      simp only at h
      rename_i ds
      cases ek : D.keys ds with
      | none => simp [ek] at h
      | some k =>
        simp only [ek, Option.map_some, Option.some.injEq] at h
        have eb := rs.keys ek
        subst eb
        refine ⟨a, _, rfl, DGet.t (k := k) ha (g.ex _ _ hb), fun d z => ?_, fun z => ?_⟩
        · obtain ⟨v, h1, h2⟩ := kr.val.1 d (h.trans z)
          exact ⟨v, h1, h2⟩
        · exact kr.val.2 (h.trans z)
    | _ => simp at h
  | _ => simp [e] at h
section
variable {X : Cx} {pos : Pos}
def rAddD : DR2 := fun x y G Q => match x.cur G, y.cur G with
  | .int i, .int j => Q (.int (i + j)) G
  | .str a, .str b => a.length + b.length ≤ sizeLine ∧ Q (.str (a ++ b)) G
  | .tup a, .tup b => a.length + b.length ≤ sizeLine ∧ Q (.tup (a ++ b)) G
  | .lst a, .lst b => a.length + b.length ≤ sizeLine ∧ Q (.lst (a ++ b)) G
  | _, _ => False
theorem cur_int {K : PySem.W.Frag} {F : Hp} {G : GH} {v : V} {d : D} {i : Int} (r : Rep K F v d) (h : d.cur G = .int i) : v = .int i := by
  cases d with
  | rf a =>
    unfold D.cur at h
    cases q : G a with
    | none => simp only [q] at h; cases h
    | some o => cases o <;> (simp only [q] at h; cases h)
  | int j => cases h; cases r; rfl
  | _ => cases h
theorem cur_str {K : PySem.W.Frag} {F : Hp} {G : GH} {v : V} {d : D} {i : Str} (r : Rep K F v d) (h : d.cur G = .str i) : v = .str i := by
  cases d with
  | rf a =>
    unfold D.cur at h
    cases q : G a with
    | none => simp only [q] at h; cases h
    | some o => cases o <;> (simp only [q] at h; cases h)
  | str j => cases h; cases r; rfl
  | _ => cases h
theorem cur_tup {K : PySem.W.Frag} {F : Hp} {G : GH} {v : V} {d : D} {ds : List D} (r : Rep K F v d) (h : d.cur G = .tup ds) : ∃ a vs, v = .ref a ∧ F a = some (.tup vs) ∧ Reps K F vs ds := by
  cases d with
  | rf a =>
    unfold D.cur at h
    cases q : G a with
    | none => simp only [q] at h; cases h
    | some o => cases o <;> (simp only [q] at h; cases h)
  | tup j =>
    cases h
    cases r with
    | tup ha rs => exact ⟨_, _, rfl, ha, rs⟩
  | _ => cases h
theorem cur_kup {K : PySem.W.Frag} {F : Hp} {G : GH} {v : V} {d : D} {ds : List D} (r : Rep K F v d) (h : d.cur G = .kup ds) : ∃ a vs, v = .ref a ∧ SqT K F a vs ∧ Reps K F vs ds := by
  cases d with
  | rf a =>
    unfold D.cur at h
    cases q : G a with
    | none => simp only [q] at h; cases h
    | some o => cases o <;> (simp only [q] at h; cases h)
  | kup j =>
    cases h
    cases r with
    | kup ha rs => exact ⟨_, _, rfl, ha, rs⟩
  | _ => cases h
theorem od_add : OpD X (binaryOp .Add) rAddD := by
  refine ⟨_, op_add.or (op_add_str.or (op_catA.or op_cat)), fun F H G x y dx dy g rx ry Q' h Q k => ?_⟩
  unfold rAddD at h
  split at h
  · rename_i i j e1 e2
    exact .inl ⟨i, j, cur_int rx e1, cur_int ry e2, k F H _ _ G Go.refl g (.int _) h⟩
  · rename_i a b e1 e2
    exact .inr (.inl ⟨a, b, cur_str rx e1, cur_str ry e2, h.1, k F H _ _ G Go.refl g (.str _) h.2⟩)
  · rename_i a b e1 e2
    obtain ⟨p, xs, rfl, hp, r1⟩ := cur_tup rx e1
    obtain ⟨q, ys, rfl, hq, r2⟩ := cur_tup ry e2
    refine .inr (.inr (.inl ⟨p, q, xs, ys, rfl, rfl, .inl (.inl (g.ex _ _ hp)), .inl (.inl (g.ex _ _ hq)), by rw [r1.length, r2.length]; exact h.1, fun z => ?_, fun z1 z2 => ?_, fun z1 z2 p' hp' => ?_⟩))
    · subst z
      cases r1
      exact k F H _ _ G Go.refl g (.tup hq r2) h.2
    · subst z2
      cases r2
      have h2 := h.2
      rw [List.append_nil] at h2
      exact k F H _ _ G Go.refl g (.tup hp r1) h2
    · have gr : Gr F H (upd F p' (.tup (xs ++ ys))) (upd H p' (.tup (xs ++ ys))) := Gr.new g.ex hp'
      exact k _ _ _ _ G gr.go (g.grow gr) (.tup upd_same ((r1.append r2).mono gr.ff)) h.2
  · rename_i a b e1 e2
    obtain ⟨p, xs, rfl, hp, r1⟩ := cur_list g rx e1
    obtain ⟨q, ys, rfl, hq, r2⟩ := cur_list g ry e2
    refine .inr (.inr (.inr ⟨p, q, xs, ys, rfl, rfl, hp, hq, by rw [r1.length, r2.length]; exact h.1, fun p' hp' => ?_⟩))
    have gr : Gr F H (upd F p' (.lst (xs ++ ys))) (upd H p' (.lst (xs ++ ys))) := Gr.new g.ex hp'
    exact k _ _ _ _ G gr.go (g.grow gr) (.lst upd_same ((r1.append r2).mono gr.ff)) h.2
  · exact h.elim
def rIntD (C : Int → Int → Prop) (f : Int → Int → Int) : DR2 := fun x y G Q => match x, y with
  | .int i, .int j => C i j ∧ Q (.int (f i j)) G
  | _, _ => False
theorem od_int {op : Operator} {C : Int → Int → Prop} {f : Int → Int → Int} (h : OpR X (binaryOp op) (rI C fun i j => .int (f i j))) : OpD X (binaryOp op) (rIntD C f) := by
  refine ⟨_, h, fun F H G x y dx dy g rx ry Q' h Q k => ?_⟩
  unfold rIntD at h
  split at h
  · cases rx; cases ry
    exact ⟨_, _, rfl, rfl, h.1, k F H _ _ G Go.refl g (.int _) h.2⟩
  · exact h.elim
theorem od_sub : OpD X (binaryOp .Sub) (rIntD (fun _ _ => True) fun i j => i - j) := by
  refine ⟨_, op_sub, fun F H G x y dx dy g rx ry Q' h Q k => ?_⟩
  unfold rIntD at h
  split at h
  · cases rx; cases ry
    exact ⟨_, _, rfl, rfl, k F H _ _ G Go.refl g (.int _) h.2⟩
  · exact h.elim
theorem od_fdiv : OpD X (binaryOp .FloorDiv) (rIntD CDiv fun i j => i / j) := od_int op_fdiv
theorem od_mod : OpD X (binaryOp .Mod) (rIntD (fun _ j => 0 < j) fun i j => i % j) := od_int op_mod
theorem od_pow : OpD X (binaryOp .Pow) (rIntD CPow fun i j => i ^ j.toNat) := od_int op_pow
def rMulD : DR2 := fun x y G Q => match x.cur G, y.cur G with
  | .int i, .int j => CMul i j ∧ Q (.int (i * j)) G
  | .lst a, .int j => -(2 ^ 63) ≤ j ∧ j < 2 ^ 63 ∧ a.length * j.toNat ≤ sizeLine ∧ Q (.lst (List.replicate j.toNat a).flatten) G
  | _, _ => False
theorem Reps.rep {K : PySem.W.Frag} {F : Hp} {vs : List V} {ds : List D} (r : Reps K F vs ds) : ∀ n : Nat, Reps K F (List.replicate n vs).flatten (List.replicate n ds).flatten
  | 0 => .nil
  | n + 1 => by
    rw [List.replicate_succ, List.replicate_succ, List.flatten_cons, List.flatten_cons]
    exact r.append (Reps.rep r n)
theorem od_mul : OpD X (binaryOp .Mult) rMulD := by
  refine ⟨_, op_mul.or op_rep, fun F H G x y dx dy g rx ry Q' h Q k => ?_⟩
  unfold rMulD at h
  split at h
  · rename_i i j e1 e2
    exact .inl ⟨i, j, cur_int rx e1, cur_int ry e2, h.1, k F H _ _ G Go.refl g (.int _) h.2⟩
  · rename_i a j e1 e2
    obtain ⟨p, xs, rfl, hp, r1⟩ := cur_list g rx e1
    obtain ⟨h1, h2, h3, h4⟩ := h
    refine .inr ⟨p, j, xs, rfl, cur_int ry e2, hp, h1, h2, by rw [r1.length]; exact h3, fun p' hp' => ?_⟩
    have gr := Gr.new (u := .lst (List.replicate j.toNat xs).flatten) g.ex hp'
    exact k _ _ _ _ G gr.go (g.grow gr) (.lst upd_same ((r1.rep _).mono gr.ff)) h4
  · exact h.elim
def rNegD : DR1 := fun x G Q => match x with
  | .int i => Q (.int (-i)) G
  | _ => False
theorem ud_neg : UnD X (unaryOp .USub) rNegD := by
  refine ⟨_, un_neg, fun F H G x dx g rx Q' h Q k => ?_⟩
  unfold rNegD at h
  split at h
  · cases rx
    exact ⟨_, rfl, k F H _ _ G Go.refl g (.int _) h⟩
  · exact h.elim
def D.isNon : D → Bool
  | .non => true
  | _ => false
theorem Rep.isNon {K : PySem.W.Frag} {F : Hp} {v : V} {d : D} (r : Rep K F v d) : decide (v = .non) = d.isNon := by
  cases r <;> first | rfl | exact decide_eq_false (by intro h; cases h)
theorem od_notN : OpD X (compareOp .IsNot) (fun x y G Q => match y with | .non => Q (.bl (!x.isNon)) G | _ => False) := by
  refine ⟨_, op_notN, fun F H G x y dx dy g rx ry Q' h Q k => ?_⟩
  split at h
  · cases ry
    refine ⟨rfl, ?_⟩
    rw [rx.isNon]
    exact k F H _ _ G Go.refl g (.bl _) h
  · exact h.elim
def strIn (x z : Str) : Bool := !(Builtin.Str.occurrences z x 0 z.length 1).isEmpty
def okI (x : D) (ys : List D) : Bool := x.pl && D.pls ys && decide (min (PyData.depthAll (D.pys ys)) x.py.depth ≤ 60)
def D.isIn (x : D) (ys : List D) : Bool := (D.pys ys).any fun z => PyData.eqv z x.py
/-- x in y: none where it is not served -/
def D.inn (x y : D) : Option Bool := match y with
  | .str z => (match x with
    | .str w => some (strIn w z)
    | _ => none)
  | .lst ys => if okI x ys = true then some (x.isIn ys) else none
  | .tup ys => if okI x ys = true then some (x.isIn ys) else none
  | y => (y.look x).map Option.isSome
def rInP (K : PySem.W.Frag) (neg : Bool) : R2 := fun x y H Q => ∃ d ds b, Dp K H x d ∧ (Dp K H y (.list ds) ∨ Dp K H y (.tuple ds)) ∧ d.plain = true ∧ PyData.plainAll ds = true ∧ min (PyData.depthAll ds) d.depth ≤ 60 ∧ b = (if neg then !(ds.any fun z => PyData.eqv z d) else ds.any fun z => PyData.eqv z d) ∧ Q (.bl b) H
def rInDict (neg : Bool) : R2 := fun x y H Q => ∃ a o, y = .ref a ∧ DGet H a x o ∧ Q (.bl (if neg then !o.isSome else o.isSome)) H
theorem op_inP (hu : X.A.units + 100 < cLine) : OpR X (compareOp .In) (rInP X.K false) := by
  intro pins s σ H x y v u Q I rx ry h
  obtain ⟨d, ds, b, hd, hy, p1, p2, hm, rfl, q⟩ := h
  obtain ⟨as, r1⟩ := Dp.reads I d x v hd rx
  rcases hy with hy | hy
  · obtain ⟨bs, r2⟩ := Dp.reads I _ y u hy ry
    exact SeqAt.in_list_data r2 r1 p2 p1 (by omega) ⟨.bl _, H, I, rfl, q⟩
  · obtain ⟨bs, r2⟩ := Dp.reads I _ y u hy ry
    exact SeqAt.in_tuple_data r2 r1 p2 p1 (by omega) ⟨.bl _, H, I, rfl, q⟩
theorem op_notInP (hu : X.A.units + 100 < cLine) : OpR X (compareOp .NotIn) (rInP X.K true) := by
  intro pins s σ H x y v u Q I rx ry h
  obtain ⟨d, ds, b, hd, hy, p1, p2, hm, rfl, q⟩ := h
  obtain ⟨as, r1⟩ := Dp.reads I d x v hd rx
  rcases hy with hy | hy
  · obtain ⟨bs, r2⟩ := Dp.reads I _ y u hy ry
    exact SeqAt.notIn_list_data r2 r1 p2 p1 (by omega) ⟨.bl _, H, I, rfl, q⟩
  · obtain ⟨bs, r2⟩ := Dp.reads I _ y u hy ry
    exact SeqAt.notIn_tuple_data r2 r1 p2 p1 (by omega) ⟨.bl _, H, I, rfl, q⟩
theorem op_inDict (hu : X.A.units + 100 < cLine) : OpR X (compareOp .In) (rInDict false) := by
  intro pins s σ H x y v u Q I rx ry h
  obtain ⟨a, o, rfl, g, q⟩ := h
  obtain rfl : u = Value.ref a := ry
  exact d_in (by omega) I g rx fun s' I' => ⟨.bl _, H, I', rfl, q⟩
theorem op_notInDict (hu : X.A.units + 100 < cLine) : OpR X (compareOp .NotIn) (rInDict true) := by
  intro pins s σ H x y v u Q I rx ry h
  obtain ⟨a, o, rfl, g, q⟩ := h
  obtain rfl : u = Value.ref a := ry
  exact d_notIn (by omega) I g rx fun s' I' => ⟨.bl _, H, I', rfl, q⟩
theorem in_core {neg : Bool} {r : R2} (hs : ∀ x y H Q, (∃ i j, x = V.str i ∧ y = V.str j ∧ Q (.bl (if neg then !(strIn i j) else strIn i j)) H) → r x y H Q) (hl : ∀ x y H Q, rInP X.K neg x y H Q → r x y H Q) (hd : ∀ x y H Q, rInDict neg x y H Q → r x y H Q)
    {F H : Hp} {G : GH} {x y : V} {dx dy : D} (g : Gok X.K F H G) (rx : Rep X.K F x dx) (ry : Rep X.K F y dy) {Q' : DQ} {b : Bool} (h : D.inn dx (dy.cur G) = some b) (q : Q' (.bl (if neg then !b else b)) G) {Q : VK} (k : KpE X.K F H G Q' Q) : r x y H Q := by
  have fin : Q (.bl (if neg then !b else b)) H := k F H _ _ G Go.refl g (.bl _) q
  unfold D.inn at h
  have seqs : ∀ (ys : List D), okI dx ys = true → dx.isIn ys = b → (Dp X.K H y (.list (D.pys ys)) ∨ Dp X.K H y (.tuple (D.pys ys))) → r x y H Q := by
    intro ys ok e hy
    unfold okI at ok
    simp only [Bool.and_eq_true, decide_eq_true_eq] at ok
    obtain ⟨⟨p1, p2⟩, p3⟩ := ok
    refine hl _ _ _ _ ⟨dx.py, D.pys ys, _, ?_, hy, D.py_plain _ p1, D.pys_plain _ p2, p3, rfl, ?_⟩
    · exact Dp.mono' g.ex _ (Rep.dp _ rx p1)
    · unfold D.isIn at e
      rw [e]
      exact fin
  split at h
  · rename_i z e
    split at h
    · cases h
      cases rx
      exact hs _ _ _ _ ⟨_, _, rfl, cur_str ry e, fin⟩
    · cases h
  · rename_i ys e
    split at h
    · rename_i ok
      cases h
      obtain ⟨a, vs, rfl, ha, rs⟩ := cur_list g ry e
      unfold okI at ok
      simp only [Bool.and_eq_true, decide_eq_true_eq] at ok
      refine seqs ys (by unfold okI; simp [ok]) rfl (.inl (.lst (.inl (.inl ha)) (DpAll.mono' g.ex _ (Reps.dp _ rs ok.1.2))))
    · cases h
  · rename_i ys e
    split at h
    · rename_i ok
      cases h
      obtain ⟨a, vs, rfl, ha, rs⟩ := cur_tup ry e
      unfold okI at ok
      simp only [Bool.and_eq_true, decide_eq_true_eq] at ok
      refine seqs ys (by unfold okI; simp [ok]) rfl (.inr (.tup (.inl (.inl (g.ex _ _ ha))) (DpAll.mono' g.ex _ (Reps.dp _ rs ok.1.2))))
    · cases h
  · cases e : (dy.cur G).look dx with
    | none => rw [e] at h; cases h
    | some o =>
      rw [e] at h
      cases h
      obtain ⟨a, o', rfl, dg, h1, h2⟩ := look_get g ry rx e
      refine hd _ _ _ _ ⟨a, o', rfl, dg, ?_⟩
      have eo : o'.isSome = o.isSome := by
        cases o with
        | none => simp [h2 rfl]
        | some d =>
          obtain ⟨z, ez, _⟩ := h1 d rfl
          rw [ez]; rfl
      rw [eo]
      exact fin
theorem od_in (hu : X.A.units + 100 < cLine) : OpD X (compareOp .In) (fun x y G Q => match D.inn x (y.cur G) with | some b => Q (.bl b) G | none => False) := by
  refine ⟨_, op_in_str.or ((op_inP hu).or (op_inDict hu)), fun F H G x y dx dy g rx ry Q' h Q k => ?_⟩
  split at h
  · rename_i b e
    exact in_core (neg := false) (r := fun x y H Q => (∃ i j, x = .str i ∧ y = .str j ∧ Q (.bl (!(Builtin.Str.occurrences j i 0 j.length 1).isEmpty)) H) ∨ rInP X.K false x y H Q ∨ rInDict false x y H Q) (fun x y H Q h => .inl h) (fun x y H Q h => .inr (.inl h)) (fun x y H Q h => .inr (.inr h)) g rx ry e h k
  · exact h.elim
theorem od_notIn (hu : X.A.units + 100 < cLine) : OpD X (compareOp .NotIn) (fun x y G Q => match D.inn x (y.cur G) with | some b => Q (.bl (!b)) G | none => False) := by
  refine ⟨_, op_notin_str.or ((op_notInP hu).or (op_notInDict hu)), fun F H G x y dx dy g rx ry Q' h Q k => ?_⟩
  split at h
  · rename_i b e
    exact in_core (neg := true) (r := fun x y H Q => (∃ i j, x = .str i ∧ y = .str j ∧ Q (.bl (!(!(Builtin.Str.occurrences j i 0 j.length 1).isEmpty))) H) ∨ rInP X.K true x y H Q ∨ rInDict true x y H Q) (fun x y H Q h => .inl h) (fun x y H Q h => .inr (.inl h)) (fun x y H Q h => .inr (.inr h)) g rx ry e h k
  · exact h.elim
end
end DL
end
section
set_option Elab.async false
set_option linter.all false
set_option maxRecDepth 100000
set_option maxHeartbeats 4000000
namespace DL
open PySem PySem.Spec PyProof.Rows L2
theorem atI_rep {K : PySem.W.Frag} {F : Hp} {vs : List V} {ds : List D} {i : Int} {d : D} (r : Reps K F vs ds) (h : atI ds i = some d) : ∃ v, atI vs i = some v ∧ Rep K F v d := by
  unfold atI at h ⊢
  rw [r.length]
  cases e : ixN ds.length i with
  | none => rw [e] at h; cases h
  | some j =>
    rw [e] at h
    exact r.get h
def D.item (x y : D) : Option D := match x with
  | .tup xs => (match y with
    | .int i => atI xs i
    | _ => none)
  | .lst xs => (match y with
    | .int i => atI xs i
    | _ => none)
  | .str z => (match y with
    | .int i => if z.length ≤ sizeLine then (atI z.cps.toList i).map fun c => .str ⟨#[c]⟩ else none
    | _ => none)
  | .kup xs => (match y with
    | .int i => atI xs i
    | _ => none)
  | x => (x.look y).join
def cutD {α : Type} (xs : List α) (lo hi : Option Int) : List α := (xs.drop (HT.sIx xs.length 0 lo)).take (HT.sIx xs.length xs.length hi - HT.sIx xs.length 0 lo)
theorem Reps.cut {K : PySem.W.Frag} {F : Hp} {vs : List V} {ds : List D} (r : Reps K F vs ds) (lo hi : Option Int) : Reps K F (cutV vs lo hi) (cutD ds lo hi) := by
  unfold cutV cutD
  rw [r.length]
  exact (r.drop _).take _
def putFD (f : Str) (d : D) : List (Str × D) → List (Str × D)
  | [] => [(f, d)]
  | p :: r => if p.1 = f then (f, d) :: r else p :: putFD f d r
theorem KR.look {K : PySem.W.Frag} {F : Hp} {f : Str} : ∀ {kds : List (Str × D)} {kvs : List (Str × V)}, KR K F kvs kds → (∀ d, kds.lookup f = some d → ∃ v, kvs.lookup f = some v ∧ Rep K F v d) ∧ (kds.lookup f = none → kvs.lookup f = none)
  | [], kvs, h => by
    obtain rfl := h.unnil
    exact ⟨fun d z => (by cases z), fun _ => rfl⟩
  | (k', d') :: kds, kvs, h => by
    obtain ⟨v, r, rfl, rv, t⟩ := h.uncons
    by_cases e : f = k'
    · subst e
      simp only [List.lookup_cons, beq_self_eq_true]
      exact ⟨fun d z => (by cases z; exact ⟨v, rfl, rv⟩), fun z => (by cases z)⟩
    · have e' : (f == k') = false := by simpa using e
      simp only [List.lookup_cons, e']
      exact KR.look t
theorem KR.putF {K : PySem.W.Frag} {F : Hp} {f : Str} {v : V} {d : D} (rv : Rep K F v d) : ∀ {kds : List (Str × D)} {kvs : List (Str × V)}, KR K F kvs kds → KR K F (L2.putF f v kvs) (putFD f d kds)
  | [], kvs, h => by
    obtain rfl := h.unnil
    exact .cons rv .nil
  | (k', d') :: kds, kvs, h => by
    obtain ⟨v', r, rfl, rv', t⟩ := h.uncons
    unfold L2.putF putFD
    by_cases e : k' = f
    · subst e
      simp only [if_pos]
      exact .cons rv t
    · simp only [if_neg e]
      exact .cons rv' (KR.putF rv t)
theorem cur_obj {K : PySem.W.Frag} {F H : Hp} {G : GH} {v : V} {d : D} {C : Addr} {kds : List (Str × D)} (g : Gok K F H G) (r : Rep K F v d) (p : d.cur G = .obj C kds) : ∃ a dx kvs, v = .ref a ∧ H a = some (.ins C dx kvs) ∧ KR K F kvs kds := by
  cases d with
  | rf a =>
    cases r
    unfold D.cur at p
    cases q : G a with
    | none => simp only [q] at p; cases p
    | some o =>
      cases o with
      | ins C' kd =>
        simp only [q] at p; cases p
        obtain ⟨dx, kvs, e, h1, h2⟩ := (g.at_ a _ q).2
        exact ⟨a, dx, kvs, rfl, e, h1, h2⟩
      | lst xs => simp only [q] at p; cases p
      | dK kd => simp only [q] at p; cases p
      | dT kd => simp only [q] at p; cases p
      | deck k1 k2 k3 n => simp only [q] at p; cases p
      | dcell => simp only [q] at p; cases p
      | lkT o kvs kds => simp only [q] at p; cases p
      | lkK o kvs kds => simp only [q] at p; cases p
      | dN w kds => simp only [q] at p; cases p
      | lkN w o xs kds => simp only [q] at p; cases p
      | dU w kds => simp only [q] at p; cases p
      | lkU w o xs kds => simp only [q] at p; cases p
      | tupU o vs ds => simp only [q] at p; cases p
      | tab z => simp only [q] at p; cases p
  | obj C' kd =>
    cases p
    cases r with
    | obj h h1 h2 => exact ⟨_, _, _, rfl, g.ex _ _ h, h1, h2⟩
  | _ => cases p
section
variable {X : Cx} {pos : Pos}
def rIxDict : R2 := fun x y H Q => ∃ a v, x = .ref a ∧ DGet H a y (some v) ∧ Q v H
theorem ix_dict (hu : X.A.units + 100 < cLine) : IxR X rIxDict := by
  intro value slice pins s σ H x y v u Q I rx ry h hs
  obtain ⟨a, z, rfl, g, q⟩ := h
  obtain rfl : v = Value.ref a := rx
  exact tail_any (dict_typeIs I g) PySem.F.slot_dict_getitem.lookup (d_getItem (by omega) I g ry fun w' s' I' r' => ⟨z, H, I', r', q⟩) hs
def rItem : DR2 := fun x y G Q => match D.item (x.cur G) y with
  | some d => Q d G
  | none => False
theorem de_ix {a b : Expr} {ta tb : DTE} (hu : X.A.units + 100 < cLine) (ha : DE X a ta) (hb : DE X b tb) (hs : PlainIx b := by intro _ _; rfl) : DE X (.Subscript a b pos) (dOp rItem ta tb) := by
  obtain ⟨t1, p1, r1⟩ := ha.ex
  obtain ⟨t2, p2, r2⟩ := hb.ex
  refine ⟨_, pe_ix ((ix_seq (X := X)).or (ix_dict hu)) p1 p2 hs, dop_of (a := a) (b := b) ?_ r1 r2⟩
  intro F H G x y dx dy g rx ry Q' h Q k
  unfold rItem at h
  split at h
  · rename_i d e
    have fin : ∀ v, Rep X.K F v d → Q v H := fun v r => k F H _ _ G Go.refl g r h
    unfold D.item at e
    split at e
    · rename_i xs ex
      split at e
      · cases ry
        obtain ⟨p, vs, rfl, hp, rs⟩ := cur_tup rx ex
        obtain ⟨v, hv, rv⟩ := atI_rep rs e
        exact .inl (.inr (.inl ⟨p, vs, _, v, rfl, rfl, .inl (.inl (g.ex _ _ hp)), hv, fin v rv⟩))
      · cases e
    · rename_i xs ex
      split at e
      · cases ry
        obtain ⟨p, vs, rfl, hp, rs⟩ := cur_list g rx ex
        obtain ⟨v, hv, rv⟩ := atI_rep rs e
        exact .inl (.inl ⟨p, vs, _, v, rfl, rfl, .inl (.inl hp), hv, fin v rv⟩)
      · cases e
    · rename_i z ex
      split at e
      · cases ry
        split at e
        · rename_i hz
          rename_i i
          cases ec : atI z.cps.toList i with
          | none => rw [ec] at e; cases e
          | some c =>
            rw [ec] at e
            cases e
            exact .inl (.inr (.inr ⟨z, _, c, cur_str rx ex, rfl, hz, ec, fin _ (.str _)⟩))
        · cases e
      · cases e
    · rename_i xs ex
      split at e
      · cases ry
        obtain ⟨p, vs, rfl, hp, rs⟩ := cur_kup rx ex
        obtain ⟨v, hv, rv⟩ := atI_rep rs e
        exact .inl (.inr (.inl ⟨p, vs, _, v, rfl, rfl, g.ex.sqt hp, hv, fin v rv⟩))
      · cases e
    · cases el : (dx.cur G).look dy with
      | none => rw [el] at e; cases e
      | some o =>
        rw [el] at e
        have e' : o = some d := e
        obtain ⟨a', o', rfl, dg, h1, _⟩ := look_get g rx ry el
        obtain ⟨z, rfl, rz⟩ := h1 d e'
        exact .inr ⟨a', z, rfl, dg, fin z rz⟩
  · exact h.elim
abbrev DTO := DS → GH → (Option Int → GH → Prop) → Prop
structure DO (X : Cx) (e : Option Expr) (t' : DTO) : Prop where
  ex : ∃ t, PO X e t ∧ ∀ F H σ S G, Ok X.K F H σ S G → ∀ Q', t' S G Q' → ∀ Q : Option Int → Hp → Prop, (∀ F' H' o G', Go F H G F' H' G' → Gok X.K F' H' G' → Q' o G' → Q o H') → t σ H Q
def dNoPart : DTO := fun _ G Q => Q none G
def dPart (ta : DTE) : DTO := fun S G Q => ta S G fun d G1 => match d with
  | .int i => Q (some i) G1
  | _ => False
theorem do_none : DO X none dNoPart := ⟨_, po_none, fun F H σ S G o Q' h Q k => k F H none G Go.refl o.g h⟩
theorem do_some {e : Expr} {ta : DTE} (h : DE X e ta) : DO X (some e) (dPart ta) := by
  obtain ⟨t1, p1, r1⟩ := h.ex
  refine ⟨_, po_some p1, fun F H σ S G o Q' h Q k => ?_⟩
  refine r1 F H σ S G o _ h _ fun F1 H1 v d G1 e1 g1 q1 h1 => ?_
  dsimp only at h1
  split at h1
  · cases q1
    exact ⟨_, rfl, k F1 H1 _ G1 e1 g1 h1⟩
  · exact h1.elim
def rSlice (x : D) (lo hi : Option Int) (G : GH) (Q : DQ) : Prop := match x.cur G with
  | .tup xs => Q (.tup (cutD xs lo hi)) G
  | .lst xs => Q (.lst (cutD xs lo hi)) G
  | .str z => z.length ≤ sizeLine ∧ Q (.str (cutS z lo hi)) G
  | .scr ns => Q (.lst ((cutD ns lo hi).map .int)) G
  | .kup xs => if HT.sIx xs.length 0 lo = 0 ∧ HT.sIx xs.length xs.length hi = xs.length then Q (.kup xs) G else Q (.tup (cutD xs lo hi)) G
  | _ => False
def dSlice (ta : DTE) (tl th : DTO) : DTE := fun S G Q => ta S G fun x G1 => tl S G1 fun lo G2 => th S G2 fun hi G3 => rSlice x lo hi G3 Q
theorem Reps.ints {K : PySem.W.Frag} {F : Hp} : ∀ (ns : List Int), Reps K F (ns.map V.int) (ns.map D.int)
  | [] => .nil
  | n :: ns => .cons (.int n) (Reps.ints ns)
theorem de_slice {e : Expr} {lo hi : Option Expr} {ta : DTE} {tl th : DTO} {p2 : Pos} (he : DE X e ta) (hl : DO X lo tl) (hh : DO X hi th) : DE X (.Subscript e (.Slice lo hi none p2) pos) (dSlice ta tl th) := by
  obtain ⟨t1, p1, r1⟩ := he.ex
  obtain ⟨t2, p2', r2⟩ := hl.ex
  obtain ⟨t3, p3, r3⟩ := hh.ex
  refine ⟨_, pe_slice ((sl_tupA (X := X)).or ((sl_list (X := X)).or (sl_str (X := X)))) p1 p2' p3, fun F H σ S G o Q' h Q k => ?_⟩
  refine r1 F H σ S G o _ h _ fun F1 H1 v d G1 e1 g1 q1 h1 => ?_
  refine r2 F1 H1 σ S G1 (o.go e1 g1) _ h1 _ fun F2 H2 lo G2 e2 g2 h2 => ?_
  refine r3 F2 H2 σ S G2 ((o.go e1 g1).go e2 g2) _ h2 _ fun F3 H3 hi G3 e3 g3 h3 => ?_
  have r := (q1.mono e2.ex).mono e3.ex
  have kk := k.mono ((e1.trans e2).trans e3)
  unfold rSlice at h3
  split at h3
  · rename_i xs ex
    obtain ⟨p, vs, rfl, hp, rs⟩ := cur_tup r ex
    refine .inl ⟨p, vs, rfl, .inl (.inl (g3.ex _ _ hp)), fun z => ?_, fun _ p' hp' => ?_⟩
    · have ec : cutD xs lo hi = xs := by
        unfold cutD
        rw [rs.length] at z
        rw [z.1, z.2]
        simp
      rw [ec] at h3
      exact kk F3 H3 _ _ G3 Go.refl g3 (.tup hp rs) h3
    · have gr := Gr.new (u := .tup (cutV vs lo hi)) g3.ex hp'
      exact kk _ _ _ _ G3 gr.go (g3.grow gr) (.tup upd_same ((rs.cut lo hi).mono gr.ff)) h3
  · rename_i xs ex
    obtain ⟨p, vs, rfl, hp, rs⟩ := cur_list g3 r ex
    refine .inr (.inl ⟨p, vs, rfl, .inl (.inl hp), fun p' hp' => ?_⟩)
    have gr := Gr.new (u := .lst (cutV vs lo hi)) g3.ex hp'
    exact kk _ _ _ _ G3 gr.go (g3.grow gr) (.lst upd_same ((rs.cut lo hi).mono gr.ff)) h3
  · rename_i z ex
    exact .inr (.inr ⟨z, cur_str r ex, h3.1, kk F3 H3 _ _ G3 Go.refl g3 (.str _) h3.2⟩)
  · rename_i ns ex
    have hd : d = .scr ns := by
      cases d with
      | rf a =>
        unfold D.cur at ex
        cases q : G3 a with
        | none => simp only [q] at ex; cases ex
        | some o => cases o <;> (simp only [q] at ex; cases ex)
      | _ => exact ex
    subst hd
    cases r with
    | scr hs =>
      refine .inr (.inl ⟨_, ns.map V.int, rfl, g3.ex.sql hs, fun p' hp' => ?_⟩)
      have gr := Gr.new (u := .lst (cutV (ns.map V.int) lo hi)) g3.ex hp'
      have rc : Reps X.K F3 (cutV (ns.map V.int) lo hi) ((cutD ns lo hi).map .int) := by
        have := (Reps.ints (K := X.K) (F := F3) ns).cut lo hi
        have e : cutD (ns.map D.int) lo hi = (cutD ns lo hi).map .int := by
          unfold cutD
          simp [List.map_take, List.map_drop]
        rw [e] at this
        exact this
      exact kk _ _ _ _ G3 gr.go (g3.grow gr) (.lst upd_same (rc.mono gr.ff)) h3
  · rename_i xs ex
    obtain ⟨p, vs, rfl, hp, rs⟩ := cur_kup r ex
    refine .inl ⟨p, vs, rfl, g3.ex.sqt hp, fun z => ?_, fun z p' hp' => ?_⟩
    · rw [rs.length] at z
      rw [if_pos z] at h3
      exact kk F3 H3 _ _ G3 Go.refl g3 (.kup hp rs) h3
    · rw [rs.length] at z
      rw [if_neg z] at h3
      have gr := Gr.new (u := .tup (cutV vs lo hi)) g3.ex hp'
      exact kk _ _ _ _ G3 gr.go (g3.grow gr) (.tup upd_same ((rs.cut lo hi).mono gr.ff)) h3
  · exact h3.elim
def dFld (C : Addr) (f : Str) (ta : DTE) : DTE := fun S G Q => ta S G fun d G1 => match d.cur G1 with
  | .obj C' fs => C' = C ∧ (match fs.lookup f with
    | some v => Q v G1
    | none => False)
  | _ => False
theorem de_fld {e : Expr} {f : Str} {C : Addr} {ta : DTE} (c : Cls X.K C) (na : NoAttr X.K C f) (he : DE X e ta) (hb : attributeBase e f X.env (eval e X.env) = eval e X.env := by rfl) : DE X (.Attribute e f pos) (dFld C f ta) := by
  obtain ⟨t1, p1, r1⟩ := he.ex
  refine ⟨_, pe_fld p1 hb, fun F H σ S G o Q' h Q k => ?_⟩
  refine r1 F H σ S G o _ h _ fun F1 H1 v d G1 e1 g1 q1 h1 => ?_
  dsimp only at h1
  split at h1
  · rename_i C' fs ex
    obtain ⟨rfl, h1⟩ := h1
    obtain ⟨a, dx, kvs, rfl, ha, kr⟩ := cur_obj g1 q1 ex
    split at h1
    · rename_i z ez
      obtain ⟨y, hy, ry⟩ := kr.look.1 _ ez
      exact ⟨a, C', dx, kvs, y, rfl, ha, c, na, hy, k F1 H1 _ _ G1 e1 g1 ry h1⟩
    · exact h1.elim
  · exact h1.elim
def dSetFld (C : Addr) (f : Str) (ta tv : DTE) : DTS := fun D' S G => tv S G fun y G1 => ta S G1 fun x G2 => match x with
  | .rf a => (match G2 a with
    | some (.ins C' fs) => C' = C ∧ fs.length < 1000 ∧ D'.nx S (gput G2 a (.ins C (putFD f y fs)))
    | _ => False)
  | _ => False
theorem dp_setFld {e value : Expr} {f : Str} {C : Addr} {ta tv : DTE} {pos' : Pos} (c : Cls X.K C) (na : NoAttr X.K C f) (he : DE X e ta) (hv : DE X value tv) (hs : swapsWith value (some (.Attribute e f pos')) pos.line X.env = pure false := by rfl) :
    DP X (.Assign [.Attribute e f pos'] value pos) (dSetFld C f ta tv) := by
  obtain ⟨t1, p1, r1⟩ := he.ex
  obtain ⟨t2, p2, r2⟩ := hv.ex
  refine ⟨_, ps_fld p1 p2 hs, fun F H σ S G o D' h D0 k => ?_⟩
  refine r2 F H σ S G o _ h _ fun F1 H1 v d G1 e1 g1 q1 h1 => ?_
  refine r1 F1 H1 σ S G1 (o.go e1 g1) _ h1 _ fun F2 H2 u d2 G2 e2 g2 q2 h2 => ?_
  dsimp only at h2
  split at h2
  · rename_i a
    split at h2
    · rename_i C' fs eg
      obtain ⟨rfl, hl, h2⟩ := h2
      cases q2
      obtain ⟨fa, dx, kvs, ha, h3, h4⟩ := g2.at_ a _ eg
      have kr : KR X.K F2 kvs fs := ⟨h3, h4⟩
      have kr2 := kr.putF (f := f) (q1.mono e2.ex)
      refine ⟨a, C', dx, kvs, rfl, ha, c, na, by rw [kr.len]; exact hl, ?_⟩
      have g3 := g2.put (u := .ins C' dx (L2.putF f v kvs)) (o := .ins C' (putFD f d fs)) eg rfl rfl ⟨dx, _, upd_same, kr2.ks, kr2.vs⟩
      exact k.nx F2 _ σ S _ ((e1.trans e2).trans (Go.put eg)) ⟨g3, (o.s.mono e1.ex).mono e2.ex⟩ h2
    · exact h2.elim
  · exact h2.elim
def dSetSub (to ti : DTE) : DTG := fun v S G Q => to S G fun x G1 => ti S G1 fun i G2 => match x with
  | .rf a => (match G2 a with
    | some (.lst xs) => (match i with
      | .int j => (match ixN xs.length j with
        | some n => Q S (gput G2 a (.lst (xs.set n v)))
        | none => False)
      | _ => False)
    | some (.dK kds) => (match i.key with
      | some k => kds.length < sizeLine ∧ Q S (gput G2 a (.dK (putD kds k v)))
      | none => False)
    | some (.dT kds) => (match i with
      | .tup ds => (match D.keys ds with
        | some k => kds.length < sizeLine ∧ Q S (gput G2 a (.dT (putD kds k v)))
        | none => False)
      | _ => False)
    | _ => False)
  | _ => False
def rSetD : V → V → V → Hp → (Hp → Prop) → Prop := fun o i v H Q => ∃ a H', o = .ref a ∧ DPut H a i v H' ∧ Q H'
theorem set_dict (hu : X.A.units + 100 < cLine) : PSet X rSetD := by
  intro pins s σ H o i v ov iv u Q I ro ri rv h
  obtain ⟨a, H', rfl, g, q⟩ := h
  obtain rfl : ov = Value.ref a := ro
  exact d_setItem (by omega) I g ri rv fun s' I' => ⟨H', I', q⟩
theorem PSet.or {r r' : TSet} (h : PSet X r) (h' : PSet X r') : PSet X (fun o i v H Q => r o i v H Q ∨ r' o i v H Q) := by
  intro pins s σ H o i v ov iv u Q I ro ri rv q
  rcases q with q | q
  · exact h pins s σ H o i v ov iv u Q I ro ri rv q
  · exact h' pins s σ H o i v ov iv u Q I ro ri rv q
theorem dg_sub {o i : Expr} {to ti : DTE} (hu : X.A.units + 100 < cLine) (ho : DE X o to) (hi : DE X i ti)
    (ha : ∀ v, assign (.Subscript o i pos) X.env v = (do let ov ← holding [v] (eval o X.env); let iv ← holding [v, ov] (eval i X.env); standAt pos; holding [v, ov, iv] (setItem ov iv v); release [v, ov, iv] []) := by intro _; rfl) : DG X (.Subscript o i pos) (dSetSub to ti) := by
  obtain ⟨t1, p1, r1⟩ := ho.ex
  obtain ⟨t2, p2, r2⟩ := hi.ex
  refine ⟨_, pg_sub p1 p2 (PSet.or set_list (set_dict hu)) ha, fun F H σ S G v d o' r Q' h Q k => ?_⟩
  refine r1 F H σ S G o' _ h _ fun F1 H1 x dx G1 e1 g1 q1 h1 => ?_
  refine r2 F1 H1 σ S G1 (o'.go e1 g1) _ h1 _ fun F2 H2 y dy G2 e2 g2 q2 h2 => ?_
  have rv := (r.mono e1.ex).mono e2.ex
  dsimp only at h2
  split at h2
  · rename_i a
    cases q1
    split at h2
    · rename_i xs eg
      split at h2
      · rename_i j
        cases q2
        split at h2
        · rename_i n en
          obtain ⟨fa, vs, ha, rs⟩ := g2.at_ a _ eg
          refine .inl ⟨a, vs, j, n, rfl, rfl, ha, by rw [rs.length]; exact en, ?_⟩
          have g3 := g2.put (u := .lst (vs.set n v)) (o := .lst (xs.set n d)) eg rfl rfl ⟨_, upd_same, rs.set rv n⟩
          exact k F2 _ σ S _ ((e1.trans e2).trans (Go.put eg)) ⟨g3, (o'.s.mono e1.ex).mono e2.ex⟩ h2
        · exact h2.elim
      · exact h2.elim
    · rename_i kds eg
      split at h2
      · rename_i kk ek
        obtain ⟨hl, h2⟩ := h2
        obtain ⟨fa, kvs, ha, h3, h4⟩ := g2.at_ a _ eg
        have kr : KR X.K F2 kvs kds := ⟨h3, h4⟩
        have kr2 := kr.put (k := kk) rv
        have ey := q2.key ek
        subst ey
        refine .inr ⟨a, _, rfl, DPut.k (k := kk) ha (by rw [kr.len]; exact hl), ?_⟩
        have g3 := g2.put (u := .dK (putK kvs kk v)) (o := .dK (putD kds kk d)) eg rfl rfl ⟨_, upd_same, kr2.ks, kr2.vs⟩
        exact k F2 _ σ S _ ((e1.trans e2).trans (Go.put eg)) ⟨g3, (o'.s.mono e1.ex).mono e2.ex⟩ h2
      · exact h2.elim
    · rename_i kds eg
      split at h2
      · rename_i ds
        split at h2
        · rename_i kk ek
          obtain ⟨hl, h2⟩ := h2
          obtain ⟨fa, kvs, ha, h3, h4⟩ := g2.at_ a _ eg
          have kr : KR X.K F2 kvs kds := ⟨h3, h4⟩
          have kr2 := kr.put (k := kk) rv
          cases q2 with
          | tup hb rs =>
            have eb := rs.keys ek
            subst eb
            refine .inr ⟨a, _, rfl, DPut.t (k := kk) ha (g2.ex _ _ hb) (by rw [kr.len]; exact hl), ?_⟩
            have g3 := g2.put (u := .dT (putK kvs kk v)) (o := .dT (putD kds kk d)) eg rfl rfl ⟨_, upd_same, kr2.ks, kr2.vs⟩
            exact k F2 _ σ S _ ((e1.trans e2).trans (Go.put eg)) ⟨g3, (o'.s.mono e1.ex).mono e2.ex⟩ h2
        · exact h2.elim
      · exact h2.elim
    · exact h2.elim
  · exact h2.elim
def dMeth (C : Addr) (m : Str) (sp : SpD) (ta : DTE) (tr : DTA) : DTE := fun S G Q => ta S G fun d G1 => match d.cur G1 with
  | .obj C' fs => C' = C ∧ fs.lookup m = none ∧ tr S G1 fun ds G2 => sp (d :: ds) G2 Q
  | _ => False
def dMake (C : Addr) (sp : SpD) (tr : DTA) : DTE := fun S G Q => tr S G fun ds G1 => ∀ y, G1 y = none → sp (.rf y :: ds) (gput G1 y (.ins C [])) fun d G2 => match d with
  | .non => Q (.rf y) G2
  | _ => False
theorem de_make {e : Expr} {es : List Expr} {C f : Addr} {x : Str} {k : Nat} {fd : FuncData} {ps : List Str} {sp : SpD} {tr : DTA} {p : Pos} (M : Mk X.K C f) (Fn : FnG X.prog X.w X.K X.mg X.base CX0 k f fd ps (SpOf X.K sp)) (hA : X.A.guards = some []) (hr : Room (k + 1) X.A) (hg : Gl X x) (hm : X.mg x = some (.ref C)) (hb : Binds X.K fd ps []) (ha : DA X (e :: es) tr)
    (hdb : (x == ("__debug__" : Str)) = false := by decide) (he : starEach (e :: es) X.env = (false, eval e X.env) :: starEach es X.env := by rfl) (hpl : (backTo pos (starEach es X.env)).any (·.1) = false := by rfl) :
    DE X (.Call (.Name x p) (e :: es) [] pos) (dMake C sp tr) := by
  obtain ⟨t2, p2, r2⟩ := ha.ex
  refine ⟨_, pg_make M Fn hA hr hg hm hb .nil pass0 p2 hdb he hpl, fun F H σ S G o Q' h Q k => ?_⟩
  refine r2 F H σ S G o _ h _ fun F1 H1 vs ds G1 e1 g1 q1 h1 => ?_
  intro y dy ny ndy ne
  rw [List.append_nil]
  have gr := Gr.only (u := .own y) g1.ex ndy
  have g2 := g1.grow gr
  have ny2 : upd H1 dy (.own y) y = none := by rw [upd_ne (fun z => ne z.symm)]; exact ny
  have g3 := g2.alloc (u := .ins C dy []) (o := .ins C []) ny2 rfl ⟨dy, [], upd_same, rfl, .nil⟩
  have go3 : Go F1 H1 G1 F1 _ (gput G1 y (.ins C [])) := (gr.go (G := G1)).trans (Go.alloc (u := .ins C dy []) (o := .ins C []) ny2)
  refine ⟨F1, _, .rf y :: ds, _, g3, .cons (.rf y) q1, h1 y (g1.free ny), ?_⟩
  intro F4 H4 v d G4 e4 g4 q4 h4
  split at h4
  · cases q4
    exact ⟨rfl, k F4 H4 _ _ G4 ((e1.trans go3).trans e4) g4 (.rf y) h4⟩
  · exact h4.elim
end
end DL
end
section
set_option Elab.async false
set_option linter.all false
set_option maxRecDepth 100000
set_option maxHeartbeats 4000000
namespace DL
open PySem PySem.Spec PyProof.Rows L2
section
variable {X : Cx} {pos : Pos} {tg : Expr}
def dNoGuard : GH → Prop := fun _ => True
def diTup (te : DTE) : DTI := fun S G R => te S G fun d G1 => match d with
  | .tup ds => R ds dNoGuard G1
  | .kup ds => R ds dNoGuard G1
  | _ => False
theorem di_tup {e : Expr} {te : DTE} (h : DE X e te) : DI X tg e (diTup te) := by
  obtain ⟨t, p, r⟩ := h.ex
  refine ⟨_, pi_tup p, fun F H σ S G o R' h R k => ?_⟩
  refine r F H σ S G o _ h _ fun F1 H1 v d G1 e1 g1 q1 h1 => ?_
  dsimp only at h1
  split at h1
  · cases q1 with
    | tup ha rs =>
      rename_i a vs
      refine ⟨a, rfl, ⟨vs, .inl (.inl (g1.ex _ _ ha))⟩, k F1 H1 G1 _ _ _ e1 g1 ⟨fun F2 H2 G2 i d e2 g2 _ hd => ?_, fun F2 H2 G2 e2 g2 _ => ?_⟩ h1⟩
      · have hs : SqT X.K H2 a vs := .inl (.inl (g2.ex _ _ (e2 _ _ ha)))
        obtain ⟨v, hv, rv⟩ := rs.get hd
        refine ⟨⟨vs, v, hs, hv⟩, fun x H3 hy => ?_⟩
        obtain ⟨rfl, hx⟩ := hy
        have := hx vs hs
        rw [hv] at this
        cases this
        exact ⟨F2, Go.refl, g2, rv.mono e2⟩
      · exact ⟨vs, .inl (.inl (g2.ex _ _ (e2 _ _ ha))), by rw [rs.length]; exact Nat.le_refl _⟩
  · cases q1 with
    | kup ha rs =>
      rename_i a vs
      refine ⟨a, rfl, ⟨vs, g1.ex.sqt ha⟩, k F1 H1 G1 _ _ _ e1 g1 ⟨fun F2 H2 G2 i d e2 g2 _ hd => ?_, fun F2 H2 G2 e2 g2 _ => ?_⟩ h1⟩
      · have hs : SqT X.K H2 a vs := g2.ex.sqt (e2.sqt ha)
        obtain ⟨v, hv, rv⟩ := rs.get hd
        refine ⟨⟨vs, v, hs, hv⟩, fun x H3 hy => ?_⟩
        obtain ⟨rfl, hx⟩ := hy
        have := hx vs hs
        rw [hv] at this
        cases this
        exact ⟨F2, Go.refl, g2, rv.mono e2⟩
      · exact ⟨vs, g2.ex.sqt (e2.sqt ha), by rw [rs.length]; exact Nat.le_refl _⟩
  · exact h1.elim
def diList (te : DTE) : DTI := fun S G R => te S G fun d G1 => match d with
  | .lst ds => R ds dNoGuard G1
  | .rf a => (match G1 a with
    | some (.lst ds) => R ds (fun G => G a = some (.lst ds)) G1
    | _ => False)
  | _ => False
theorem di_list {e : Expr} {te : DTE} (h : DE X e te) : DI X tg e (diList te) := by
  obtain ⟨t, p, r⟩ := h.ex
  refine ⟨_, pi_list p, fun F H σ S G o R' h R k => ?_⟩
  refine r F H σ S G o _ h _ fun F1 H1 v d G1 e1 g1 q1 h1 => ?_
  dsimp only at h1
  split at h1
  · cases q1 with
    | lst ha rs =>
      rename_i a vs
      refine ⟨a, rfl, ⟨vs, .inl (.inl (g1.ex _ _ ha))⟩, k F1 H1 G1 _ _ _ e1 g1 ⟨fun F2 H2 G2 i d e2 g2 _ hd => ?_, fun F2 H2 G2 e2 g2 _ => ?_⟩ h1⟩
      · have hs : SqL X.K H2 a vs := .inl (.inl (g2.ex _ _ (e2 _ _ ha)))
        obtain ⟨v, hv, rv⟩ := rs.get hd
        refine ⟨⟨vs, v, hs, hv⟩, fun x H3 hy => ?_⟩
        obtain ⟨rfl, hx⟩ := hy
        have := hx vs hs
        rw [hv] at this
        cases this
        exact ⟨F2, Go.refl, g2, rv.mono e2⟩
      · exact ⟨vs, .inl (.inl (g2.ex _ _ (e2 _ _ ha))), by rw [rs.length]; exact Nat.le_refl _⟩
  · rename_i a
    split at h1
    · rename_i ds eg
      cases q1
      obtain ⟨fa, vs0, ha0, rs0⟩ := g1.at_ a _ eg
      refine ⟨a, rfl, ⟨vs0, .inl (.inl ha0)⟩, k F1 H1 G1 _ _ _ e1 g1 ⟨fun F2 H2 G2 i d e2 g2 gd hd => ?_, fun F2 H2 G2 e2 g2 gd => ?_⟩ h1⟩
      · obtain ⟨fa2, vs, ha, rs⟩ := g2.at_ a _ gd
        have hs : SqL X.K H2 a vs := .inl (.inl ha)
        obtain ⟨v, hv, rv⟩ := rs.get hd
        refine ⟨⟨vs, v, hs, hv⟩, fun x H3 hy => ?_⟩
        obtain ⟨rfl, hx⟩ := hy
        have := hx vs hs
        rw [hv] at this
        cases this
        exact ⟨F2, Go.refl, g2, rv⟩
      · obtain ⟨fa2, vs, ha, rs⟩ := g2.at_ a _ gd
        exact ⟨vs, .inl (.inl ha), by rw [rs.length]; exact Nat.le_refl _⟩
    · exact h1.elim
  · exact h1.elim
def signs (x : Str) : List D := x.cps.toList.map fun c => .str ⟨#[c]⟩
def diStr (te : DTE) : DTI := fun S G R => te S G fun d G1 => match d with
  | .str x => R (signs x) dNoGuard G1
  | _ => False
theorem di_str {e : Expr} {te : DTE} (h : DE X e te) : DI X tg e (diStr te) := by
  obtain ⟨t, p, r⟩ := h.ex
  refine ⟨_, pi_str p, fun F H σ S G o R' h R k => ?_⟩
  refine r F H σ S G o _ h _ fun F1 H1 v d G1 e1 g1 q1 h1 => ?_
  dsimp only at h1
  split at h1
  · rename_i x
    cases q1
    refine ⟨x, rfl, k F1 H1 G1 _ _ _ e1 g1 ⟨fun F2 H2 G2 i d e2 g2 _ hd => ?_, fun F2 H2 G2 e2 g2 _ => ?_⟩ h1⟩
    · unfold signs at hd
      rw [List.getElem?_map] at hd
      cases ec : x.cps.toList[i]? with
      | none => rw [ec] at hd; cases hd
      | some c =>
        rw [ec] at hd
        cases hd
        have hl : i < x.cps.size := by
          have := (List.getElem?_eq_some_iff.mp ec).1
          simpa using this
        refine ⟨hl, fun y H3 hy => ?_⟩
        obtain ⟨rfl, c', hc', rfl⟩ := hy
        have e2' : x.cps[i]? = some c := by rw [← ec]; simp
        rw [e2'] at hc'
        cases hc'
        exact ⟨F2, Go.refl, g2, .str _⟩
    · show x.cps.size ≤ (signs x).length
      simp [signs]
  · exact h1.elim
def diRange1 (ta : DTA) : DTI := fun S G R => ta S G fun ds G1 => match ds with
  | [.int n] => -(2 ^ 62) ≤ n ∧ n < 2 ^ 62 ∧ R ((List.range n.toNat).map fun i => .int (i : Nat)) dNoGuard G1
  | _ => False
theorem itr_ok {K : PySem.W.Frag} {F : Hp} (lo : Int) (n : Nat) : ItOk K F (Itr lo n) ((List.range n).map fun i => .int (lo + (i : Nat))) dNoGuard := by
  refine ⟨fun F2 H2 G2 i d e2 g2 _ hd => ?_, fun F2 H2 G2 e2 g2 _ => ?_⟩
  · rw [List.getElem?_map] at hd
    cases ec : (List.range n)[i]? with
    | none => rw [ec] at hd; cases hd
    | some c =>
      rw [ec] at hd
      cases hd
      have hl := (List.getElem?_eq_some_iff.mp ec)
      obtain ⟨h1, h2⟩ := hl
      rw [List.length_range] at h1
      rw [List.getElem_range] at h2
      subst h2
      refine ⟨h1, fun y H3 hy => ?_⟩
      obtain ⟨rfl, rfl⟩ := hy
      exact ⟨F2, Go.refl, g2, .int _⟩
  · show n ≤ _
    simp
theorem di_range1 {a : Expr} {ta : DTA} {p : Pos} (hg : Gl X "range") (hm : X.mg "range" = none) (ha : DA X [a] ta) (hs : starEach [a] X.env = [(false, eval a X.env)] := by rfl) : DI X tg (.Call (.Name "range" p) [a] [] pos) (diRange1 ta) := by
  obtain ⟨t, p1, r⟩ := ha.ex
  refine ⟨_, pi_range1 hg hm p1 hs, fun F H σ S G o R' h R k => ?_⟩
  refine r F H σ S G o _ h _ fun F1 H1 vs ds G1 e1 g1 q1 h1 => ?_
  dsimp only at h1
  split at h1
  · rename_i n
    cases q1 with
    | cons a b =>
      cases a; cases b
      obtain ⟨h2, h3, h4⟩ := h1
      refine ⟨n, rfl, h2, h3, k F1 H1 G1 _ _ _ e1 g1 (itr_ok 0 n.toNat) ?_⟩
      have e : ((List.range n.toNat).map fun i => D.int (0 + ((i : Nat) : Int))) = (List.range n.toNat).map fun i => D.int ((i : Nat) : Int) := by
        congr 1
        funext i
        rw [Int.zero_add]
      rw [e]
      exact h4
  · exact h1.elim
def diRange2 (ta : DTA) : DTI := fun S G R => ta S G fun ds G1 => match ds with
  | [.int m, .int n] => (-(2 ^ 62) ≤ m ∧ m < 2 ^ 62 ∧ -(2 ^ 62) ≤ n ∧ n < 2 ^ 62) ∧ R ((List.range (n - m).toNat).map fun i => .int (m + (i : Nat))) dNoGuard G1
  | _ => False
def dCB (r : List D → GH → DQ → Prop) (ta : DTA) : DTE := fun S G Q => ta S G fun ds G1 => r ds G1 Q
theorem de_callB {id : String} {r' : List D → GH → DQ → Prop} {x : Str} {e : Expr} {es : List Expr} {ta : DTA} {p : Pos} (hc : CallD X (.builtin id) r') (hg : Gl X x) (hm : X.mg x = none) (hv : bootBuiltins x = some (.builtin id)) (ha : DA X (e :: es) ta) (hn : x ≠ "__name__" := by decide) (hdb : (x == ("__debug__" : Str)) = false := by decide)
    (he : starEach (e :: es) X.env = (false, eval e X.env) :: starEach es X.env := by rfl) (hpl : (backTo pos (starEach es X.env)).any (·.1) = false := by rfl) : DE X (.Call (.Name x p) (e :: es) [] pos) (dCB r' ta) := by
  obtain ⟨r, hr, rr⟩ := hc.ex
  obtain ⟨t, p1, r1⟩ := ha.ex
  refine ⟨_, pe_callB hr hg hm hv p1 hn hdb he hpl, fun F H σ S G o Q' h Q k => ?_⟩
  refine r1 F H σ S G o _ h _ fun F1 H1 vs ds G1 e1 g1 q1 h1 => ?_
  exact rr F1 H1 G1 vs ds g1 q1 Q' h1 Q (k.mono e1)
theorem de_callTy {T : String} {r' : List D → GH → DQ → Prop} {x : Str} {e : Expr} {es : List Expr} {ta : DTA} {p : Pos} (hc : CallD X (.type T) r') (hg : Gl X x) (hm : X.mg x = none) (hv : bootBuiltins x = some (.type T)) (ha : DA X (e :: es) ta) (hn : x ≠ "__name__" := by decide) (hdb : (x == ("__debug__" : Str)) = false := by decide)
    (he : starEach (e :: es) X.env = (false, eval e X.env) :: starEach es X.env := by rfl) (hpl : (backTo pos (starEach es X.env)).any (·.1) = false := by rfl) : DE X (.Call (.Name x p) (e :: es) [] pos) (dCB r' ta) := by
  obtain ⟨r, hr, rr⟩ := hc.ex
  obtain ⟨t, p1, r1⟩ := ha.ex
  refine ⟨_, pe_callTy hr hg hm hv p1 hn hdb he hpl, fun F H σ S G o Q' h Q k => ?_⟩
  refine r1 F H σ S G o _ h _ fun F1 H1 vs ds G1 e1 g1 q1 h1 => ?_
  exact rr F1 H1 G1 vs ds g1 q1 Q' h1 Q (k.mono e1)
theorem CallR.or {f : Value} {r r' : List V → Hp → VK → Prop} (h : CallR X f r) (h' : CallR X f r') : CallR X f (fun xs H Q => r xs H Q ∨ r' xs H Q) := by
  intro pins s σ H xs us Q I rx q
  rcases q with q | q
  · exact h pins s σ H xs us Q I rx q
  · exact h' pins s σ H xs us Q I rx q
/-- len -/
def D.len : D → Option Nat
  | .tup xs => some xs.length
  | .lst xs => some xs.length
  | .str z => if z.length ≤ sizeLine then some z.length else none
  | .dK kds => some kds.length
  | .dT kds => some kds.length
  | .kup xs => some xs.length
  | _ => none
def rLenD (ds : List D) (G : GH) (Q : DQ) : Prop := match ds with
  | [d] => (match (d.cur G).len with
    | some n => Q (.int (n : Nat)) G
    | none => False)
  | _ => False
theorem cd_len : CallD X (.builtin "len") rLenD := by
  refine ⟨_, CallR.or call_len (CallR.or call_lenD call_len_dT), fun F H G vs ds g rs Q' h Q k => ?_⟩
  unfold rLenD at h
  split at h
  · rename_i d
    cases rs with
    | cons r b =>
      cases b
      split at h
      · rename_i n en
        have fin : Q (.int (n : Nat)) H := k F H _ _ G Go.refl g (.int _) h
        unfold D.len at en
        split at en
        · rename_i xs ex
          cases en
          obtain ⟨a, vs, rfl, ha, rs⟩ := cur_tup r ex
          exact .inl ⟨_, _, rfl, .inr ⟨vs, .inl (.inl (g.ex _ _ ha)), rs.length.symm⟩, fin⟩
        · rename_i xs ex
          cases en
          obtain ⟨a, vs, rfl, ha, rs⟩ := cur_list g r ex
          exact .inl ⟨_, _, rfl, .inl ⟨vs, .inl (.inl ha), rs.length.symm⟩, fin⟩
        · rename_i z ex
          split at en
          · rename_i hz
            cases en
            have := cur_str r ex
            subst this
            exact .inl ⟨_, _, rfl, ⟨hz, rfl⟩, fin⟩
          · cases en
        · rename_i kds ex
          cases en
          obtain ⟨a, kvs, rfl, ha, kr⟩ := cur_dK g r ex
          exact .inr (.inl ⟨a, kvs, rfl, ha, by rw [kr.len]; exact fin⟩)
        · rename_i kds ex
          cases en
          obtain ⟨a, kvs, rfl, ha, kr⟩ := cur_dT g r ex
          exact .inr (.inr ⟨a, kvs, rfl, ha, by rw [kr.len]; exact fin⟩)
        · rename_i xs ex
          cases en
          obtain ⟨a, vs, rfl, ha, rs⟩ := cur_kup r ex
          exact .inl ⟨_, _, rfl, .inr ⟨vs, g.ex.sqt ha, rs.length.symm⟩, fin⟩
        · cases en
      · exact h.elim
  · exact h.elim
/-- tuple(x) of a list, a tuple -/
def rTupleD (ds : List D) (G : GH) (Q : DQ) : Prop := match ds with
  | [d] => (match d.cur G with
    | .tup xs => Q (.tup xs) G
    | .lst xs => Q (.tup xs) G
    | _ => False)
  | _ => False
theorem cd_tuple : CallD X (.type "tuple") rTupleD := by
  refine ⟨_, call_tuple_of, fun F H G vs ds g rs Q' h Q k => ?_⟩
  unfold rTupleD at h
  split at h
  · rename_i d
    cases rs with
    | cons r b =>
      cases b
      split at h
      · rename_i xs ex
        obtain ⟨a, vs, rfl, ha, rs⟩ := cur_tup r ex
        exact ⟨a, vs, rfl, .inr ⟨.inl (.inl (g.ex _ _ ha)), k F H _ _ G Go.refl g (.tup ha rs) h⟩⟩
      · rename_i xs ex
        obtain ⟨a, vs, rfl, ha, rs⟩ := cur_list g r ex
        refine ⟨a, vs, rfl, .inl ⟨.inl (.inl ha), fun l hl => ?_⟩⟩
        have gr := Gr.new (u := .tup vs) g.ex hl
        exact k _ _ _ _ G gr.go (g.grow gr) (.tup upd_same (rs.mono gr.ff)) h
      · exact h.elim
  · exact h.elim
/-- list(x) of a list, a tuple: frozen -/
def rListD (ds : List D) (G : GH) (Q : DQ) : Prop := match ds with
  | [d] => (match d.cur G with
    | .tup xs => Q (.lst xs) G
    | .lst xs => Q (.lst xs) G
    | _ => False)
  | _ => False
theorem cd_list : CallD X (.type "list") rListD := by
  refine ⟨_, call_list_of, fun F H G vs ds g rs Q' h Q k => ?_⟩
  unfold rListD at h
  split at h
  · rename_i d
    cases rs with
    | cons r b =>
      cases b
      split at h
      · rename_i xs ex
        obtain ⟨a, vs, rfl, ha, rs⟩ := cur_tup r ex
        refine ⟨a, vs, rfl, .inr (.inl (.inl (g.ex _ _ ha))), fun l hl => ?_⟩
        have gr := Gr.new (u := .lst vs) g.ex hl
        exact k _ _ _ _ G gr.go (g.grow gr) (.lst upd_same (rs.mono gr.ff)) h
      · rename_i xs ex
        obtain ⟨a, vs, rfl, ha, rs⟩ := cur_list g r ex
        refine ⟨a, vs, rfl, .inl (.inl (.inl ha)), fun l hl => ?_⟩
        have gr := Gr.new (u := .lst vs) g.ex hl
        exact k _ _ _ _ G gr.go (g.grow gr) (.lst upd_same (rs.mono gr.ff)) h
      · exact h.elim
  · exact h.elim
/-- {}: a dict that will change -/
def dNewK : DTE := fun _ G Q => ∀ p, G p = none → Q (.rf p) (gput G p (.dK []))
def dNewT : DTE := fun _ G Q => ∀ p, G p = none → Q (.rf p) (gput G p (.dT []))
theorem de_newK : DE X (.Dict [] [] pos) dNewK := by
  refine ⟨_, pe_dnewK, fun F H σ S G o Q' h Q k => ?_⟩
  intro p hp
  exact k _ _ _ _ _ (Go.alloc hp) (o.g.alloc (o := .dK []) hp rfl ⟨[], upd_same, rfl, .nil⟩) (.rf p) (h p (o.g.free hp))
end
end DL
end
section
set_option Elab.async false
set_option linter.all false
set_option maxRecDepth 100000
set_option maxHeartbeats 4000000
namespace DL
open PySem PySem.Spec PyProof.Rows L2
def hatE (K : PySem.W.Frag) (t' : DTE) : TE := fun σ H Q => ∃ F S G Q', Ok K F H σ S G ∧ t' S G Q' ∧ KpE K F H G Q' Q
def hatT (K : PySem.W.Frag) (t' : DTT) : TT := fun σ H Q => ∃ F S G Q', Ok K F H σ S G ∧ t' S G Q' ∧ KpT K F H G Q' Q
theorem DE.hat {X : Cx} {e : Expr} {t' : DTE} (h : DE X e t') : PE X e (hatE X.K t') := by
  obtain ⟨t, p, r⟩ := h.ex
  exact ⟨fun pins s σ H Q I ⟨F, S, G, Q', o, h1, k⟩ => p.run pins s σ H Q I (r F H σ S G o Q' h1 Q k)⟩
theorem DT.hat {X : Cx} {e : Expr} {t' : DTT} (h : DT X e t') : PT X e (hatT X.K t') := by
  obtain ⟨t, p, r⟩ := h.ex
  exact ⟨fun pins s σ H Q I ⟨F, S, G, Q', o, h1, k⟩ => p.run pins s σ H Q I (r F H σ S G o Q' h1 Q k)⟩
/-- the tests of a comprehension -/
structure DTs (X : Cx) (ifs : List Expr) (t' : DTT) : Prop where
  pt : PTs X ifs (hatT X.K t')
def dYes : DTT := fun _ G Q => Q true G
theorem dts_nil {X : Cx} : DTs X [] dYes := ⟨⟨fun pins s σ H Q I ⟨F, S, G, Q', o, h1, k⟩ => (pts_nil (X := X)).run pins s σ H Q I (k F H true G Go.refl o.g h1)⟩⟩
theorem dts_one {X : Cx} {c : Expr} {t' : DTT} (h : DT X c t') : DTs X [c] t' := ⟨pts_one h.hat⟩
inductive Pat where
  | nm (i : Nat) | tp (is : List Nat) | tn (i : Nat) (is : List Nat) | nt (is : List Nat) (j : Nat) | nn (is js : List Nat)
def gNames : List Nat → TGs
  | [] => gNil
  | i :: is => gCons (gName i) (gNames is)
def Pat.g (K : PySem.W.Frag) : Pat → TG
  | .nm i => gName i
  | .tp is => gTup K is.length (gNames is)
  | .tn i is => gTup K 2 (gCons (gName i) (gCons (gTup K is.length (gNames is)) gNil))
  | .nt is j => gTup K 2 (gCons (gTup K is.length (gNames is)) (gCons (gName j) gNil))
  | .nn is js => gTup K 2 (gCons (gTup K is.length (gNames is)) (gCons (gTup K js.length (gNames js)) gNil))
def Pat.at_ : Pat → List Nat
  | .nm i => [i]
  | .tp is => is
  | .tn i is => i :: is
  | .nt is j => is ++ [j]
  | .nn is js => is ++ js
def D.parts : D → Option (List D)
  | .tup ds => some ds
  | .kup ds => some ds
  | _ => none
theorem Rep.parts {K : PySem.W.Frag} {F : Hp} {v : V} {d : D} {ds : List D} (r : Rep K F v d) (h : d.parts = some ds) : ∃ a vs, v = .ref a ∧ SqT K F a vs ∧ Reps K F vs ds := by
  cases r with
  | tup ha rs => cases h; exact ⟨_, _, rfl, .inl (.inl ha), rs⟩
  | kup ha rs => cases h; exact ⟨_, _, rfl, ha, rs⟩
  | _ => cases h
def setAll : List Nat → List D → DS → Option DS
  | [], [], S => some S
  | i :: is, d :: ds, S => setAll is ds (S.set i (some d))
  | _, _, _ => none
def Pat.put (p : Pat) (d : D) (S : DS) : Option DS := match p with
  | .nm i => some (S.set i (some d))
  | .tp is => (match d with
    | .tup ds => setAll is ds S
    | .kup ds => setAll is ds S
    | _ => none)
  | .tn i is => (match d with
    | .tup [x, .tup ds] => setAll is ds (S.set i (some x))
    | _ => none)
  | .nt is j => (match d with
    | .tup [x, y] => (match x.parts with
      | some ds => (setAll is ds S).map fun S2 => S2.set j (some y)
      | none => none)
    | _ => none)
  | .nn is js => (match d with
    | .tup [x, y] => (match x.parts, y.parts with
      | some ds, some es => (match setAll is ds S with
        | some S2 => setAll js es S2
        | none => none)
      | _, _ => none)
    | _ => none)
def dwipe (S : DS) : List Nat → DS
  | [] => S
  | v :: vs => (dwipe S vs).set v none
theorem wipe_slots {K : PySem.W.Frag} {F : Hp} {σ : L2.St} {S : DS} (h : Slots K F σ S) : ∀ vs : List Nat, Slots K F (wipe σ vs) (dwipe S vs)
  | [] => h
  | v :: vs => (wipe_slots h vs).setN none v
theorem wipe_set {σ : L2.St} {i : Nat} {x : Option V} : ∀ {vs : List Nat}, i ∈ vs → wipe (σ.set i x) vs = wipe σ vs
  | [], h => by simp at h
  | v :: vs, h => by
    unfold wipe
    by_cases e : i ∈ vs
    · rw [wipe_set e]
    · have iv : i = v := by
        rcases List.mem_cons.mp h with h | h
        · exact h
        · exact absurd h e
      subst iv
      have aux : ∀ us : List Nat, i ∉ us → wipe (σ.set i x) us = (wipe σ us).set i x := by
        intro us
        induction us with
        | nil => intro _; rfl
        | cons u us ih =>
          intro hu
          rw [List.mem_cons, not_or] at hu
          unfold wipe
          rw [ih hu.2, List.set_comm _ _ hu.1]
      rw [aux vs e, List.set_set]
theorem wipe_wipe {σ : L2.St} {vs : List Nat} : wipe (wipe σ vs) vs = wipe σ vs := by
  have aux : ∀ us : List Nat, (∀ u ∈ us, u ∈ vs) → wipe (wipe σ us) vs = wipe σ vs := by
    intro us
    induction us with
    | nil => intro _; rfl
    | cons u us ih =>
      intro hu
      show wipe ((wipe σ us).set u none) vs = _
      rw [wipe_set (hu u (by simp)), ih fun w hw => hu w (by simp [hw])]
  exact aux vs fun _ h => h
theorem names_ok {K : PySem.W.Frag} {F H : Hp} {G : GH} {vs0 : List Nat} : ∀ {is : List Nat} {ds : List D} {vs : List V} {σ : L2.St} {S S2 : DS} {Q : L2.St → Hp → Prop}, (∀ i ∈ is, i ∈ vs0) → Ok K F H σ S G → Reps K F vs ds → setAll is ds S = some S2 →
    (∀ σ2, wipe σ2 vs0 = wipe σ vs0 → Ok K F H σ2 S2 G → Q σ2 H) → gNames is vs σ H Q
  | [], [], vs, σ, S, S2, Q, _, o, r, h, k => by
    cases r
    cases h
    exact ⟨rfl, k σ rfl o⟩
  | i :: is, d :: ds, vs, σ, S, S2, Q, hi, o, r, h, k => by
    cases r with
    | cons a b =>
      refine ⟨_, _, rfl, ?_⟩
      show gNames is _ _ H Q
      refine names_ok (S := S.set i (some d)) (fun j hj => hi j (by simp [hj])) ⟨o.g, o.s.set a i⟩ b h fun σ2 e o2 => k σ2 ?_ o2
      rw [e, wipe_set (hi i (by simp))]
  | [], _ :: _, _, _, _, _, _, _, _, _, h, _ => by cases h
  | _ :: _, [], _, _, _, _, _, _, _, _, h, _ => by cases h
theorem setAll_len : ∀ {is : List Nat} {ds : List D} {S S2 : DS}, setAll is ds S = some S2 → ds.length = is.length
  | [], [], _, _, _ => rfl
  | [], _ :: _, _, _, h => by cases h
  | _ :: _, [], _, _, h => by cases h
  | i :: is, d :: ds, S, S2, h => by
    have := setAll_len (is := is) (ds := ds) (S := S.set i (some d)) h
    simp [this]
theorem put_tn {i : Nat} {is : List Nat} {d : D} {S S2 : DS} (h : (Pat.tn i is).put d S = some S2) : ∃ x ds, d = .tup [x, .tup ds] ∧ setAll is ds (S.set i (some x)) = some S2 := by
  unfold Pat.put at h
  simp only at h
  split at h
  · exact ⟨_, _, rfl, h⟩
  · cases h
theorem pat_ok {K : PySem.W.Frag} {F H : Hp} {G : GH} {vs0 : List Nat} {p : Pat} {d : D} {v : V} {σ : L2.St} {S S2 : DS} {Q : L2.St → Hp → Prop} (hp : ∀ i ∈ p.at_, i ∈ vs0) (o : Ok K F H σ S G) (r : Rep K F v d) (h : p.put d S = some S2)
    (k : ∀ σ2, wipe σ2 vs0 = wipe σ vs0 → Ok K F H σ2 S2 G → Q σ2 H) : p.g K v σ H Q := by
  cases p with
  | nm i =>
    cases h
    exact k _ (wipe_set (hp i (by simp [Pat.at_]))) ⟨o.g, o.s.set r i⟩
  | tp is =>
    unfold Pat.put at h
    cases d with
    | tup ds =>
      simp only at h
      cases r with
      | tup ha rs =>
        have hl : ds.length = is.length := by
          clear ha rs o k hp
          induction is generalizing ds S with
          | nil => cases ds with
            | nil => rfl
            | cons a b => cases h
          | cons i is ih => cases ds with
            | nil => cases h
            | cons a b => simpa using ih _ h
        exact ⟨_, _, rfl, .inl (.inl (o.g.ex _ _ ha)), by rw [rs.length]; exact hl, names_ok hp o rs h k⟩
    | kup ds =>
      simp only at h
      cases r with
      | kup ha rs => exact ⟨_, _, rfl, o.g.ex.sqt ha, by rw [rs.length]; exact setAll_len h, names_ok hp o rs h k⟩
    | _ => cases h
  | tn i is =>
    obtain ⟨x, ds, rfl, h⟩ := put_tn h
    cases r with
    | tup ha rs =>
      cases rs with
      | cons rx rs =>
        cases rs with
        | cons ry rs =>
          cases rs
          cases ry with
          | tup hb ts =>
            have hl : ds.length = is.length := setAll_len h
            refine ⟨_, _, rfl, .inl (.inl (o.g.ex _ _ ha)), rfl, _, _, rfl, ?_⟩
            refine ⟨_, _, rfl, ?_⟩
            refine ⟨_, _, rfl, .inl (.inl (o.g.ex _ _ hb)), by rw [ts.length]; exact hl, ?_⟩
            refine names_ok (S := S.set i (some x)) (fun j hj => hp j (by simp [Pat.at_, hj])) ⟨o.g, o.s.set rx i⟩ ts h fun σ2 e o2 => ⟨rfl, k σ2 ?_ o2⟩
            rw [e, wipe_set (hp i (by simp [Pat.at_]))]
  | nt is j =>
    unfold Pat.put at h
    simp only at h
    split at h
    · rename_i x y
      split at h
      · rename_i ds ex
        cases e2 : setAll is ds S with
        | none => rw [e2] at h; cases h
        | some S3 =>
          rw [e2] at h
          cases h
          cases r with
          | tup ha rs =>
            cases rs with
            | cons rx rs =>
              cases rs with
              | cons ry rs =>
                cases rs
                obtain ⟨a, vs, rfl, hb, ts⟩ := rx.parts ex
                have hl := setAll_len e2
                refine ⟨_, _, rfl, .inl (.inl (o.g.ex _ _ ha)), rfl, _, _, rfl, ?_⟩
                refine ⟨_, _, rfl, o.g.ex.sqt hb, by rw [ts.length]; exact hl, ?_⟩
                refine names_ok (fun i hi => hp i (by simp [Pat.at_, hi])) o ts e2 fun σ2 e o2 => ⟨_, _, rfl, rfl, k _ ?_ ⟨o2.g, o2.s.set ry j⟩⟩
                rw [wipe_set (hp j (by simp [Pat.at_])), e]
      · cases h
    · cases h
  | nn is js =>
    unfold Pat.put at h
    simp only at h
    split at h
    · rename_i x y
      split at h
      · rename_i ds es ex ey
        cases e2 : setAll is ds S with
        | none => rw [e2] at h; cases h
        | some S3 =>
          rw [e2] at h
          cases r with
          | tup ha rs =>
            cases rs with
            | cons rx rs =>
              cases rs with
              | cons ry rs =>
                cases rs
                obtain ⟨a, vs, rfl, hb, ts⟩ := rx.parts ex
                obtain ⟨a', vs', rfl, hb', ts'⟩ := ry.parts ey
                refine ⟨_, _, rfl, .inl (.inl (o.g.ex _ _ ha)), rfl, _, _, rfl, ?_⟩
                refine ⟨_, _, rfl, o.g.ex.sqt hb, by rw [ts.length]; exact setAll_len e2, ?_⟩
                refine names_ok (fun i hi => hp i (by simp [Pat.at_, hi])) o ts e2 fun σ2 e o2 => ⟨_, _, rfl, ?_⟩
                refine ⟨_, _, rfl, o2.g.ex.sqt hb', by rw [ts'.length]; exact setAll_len h, ?_⟩
                refine names_ok (fun i hi => hp i (by simp [Pat.at_, hi])) o2 ts' h fun σ4 e4 o4 => ⟨rfl, k σ4 ?_ o4⟩
                rw [e4, e]
      · cases h
    · cases h
section
variable {X : Cx} {pos : Pos}
/-- [e for p in .. if t] -/
def dLc (wi : DTI) (p : Pat) (tt : DTT) (te : DTE) (vs : List Nat) : DTE := fun S G Q => wi S G fun ds gd G1 => ds.length ≤ sizeLine ∧ ∃ W : Nat → List D → GH → Prop, W 0 [] G1 ∧ (∀ i acc G, W i acc G → gd G) ∧
  (∀ i acc G d, W i acc G → ds[i]? = some d → ∃ S2, p.put d (dwipe S vs) = some S2 ∧ tt S2 G fun b G2 => if b = true then te S2 G2 fun y G3 => W (i + 1) (acc ++ [y]) G3 else W (i + 1) acc G2) ∧
  ∀ acc G, W ds.length acc G → Q (.lst acc) G
/-- the same, the list may change later -/
def dLcM (wi : DTI) (p : Pat) (tt : DTT) (te : DTE) (vs : List Nat) : DTE := fun S G Q => dLc wi p tt te vs S G fun d G' => match d with
  | .lst acc => ∀ a, G' a = none → Q (.rf a) (gput G' a (.lst acc))
  | _ => False
theorem lc_refine {wi : DTI} {p : Pat} {tt : DTT} {te : DTE} {vs : List Nat} {tw : TI} (hp : ∀ i ∈ p.at_, i ∈ vs)
    (r0 : ∀ F H σ S G, Ok X.K F H σ S G → ∀ R', wi S G R' → ∀ R : It → Hp → Prop, (∀ F1 H1 G1 J ds gd, Go F H G F1 H1 G1 → Gok X.K F1 H1 G1 → ItOk X.K F1 J ds gd → R' ds gd G1 → R J H1) → tw σ H R)
    {F H : Hp} {σ : L2.St} {S : DS} {G : GH} (o : Ok X.K F H σ S G) {Q' : List D → GH → Prop} {Q : VK}
    (h : wi S G fun ds gd G1 => ds.length ≤ sizeLine ∧ ∃ W : Nat → List D → GH → Prop, W 0 [] G1 ∧ (∀ i acc G, W i acc G → gd G) ∧
      (∀ i acc G d, W i acc G → ds[i]? = some d → ∃ S2, p.put d (dwipe S vs) = some S2 ∧ tt S2 G fun b G2 => if b = true then te S2 G2 fun y G3 => W (i + 1) (acc ++ [y]) G3 else W (i + 1) acc G2) ∧ ∀ acc G, W ds.length acc G → Q' acc G)
    (k : ∀ F' H' G' D accV acc, H D = none → Go F H G F' H' G' → Gok X.K F' H' G' → H' D = some (.lst accV) → Reps X.K F' accV acc → F' D = none → G' D = none → Q' acc G' → Q (.ref D) H') :
    tLc tw (p.g X.K) (hatT X.K tt) (hatE X.K te) vs σ H Q := by
  refine r0 F H σ S G o _ h _ fun F1 H1 G1 J ds gd e1 g1 it h1 => ?_
  obtain ⟨hz, W, w0, wg, turn, done⟩ := h1
  intro D hD
  have gD : G1 D = none := g1.free hD
  have fD : F1 D = none := g1.ex.nope hD
  have go0 : Go F1 H1 G1 F1 (upd H1 D (.lst [])) G1 := by
    have := (Gr.only (u := .lst []) g1.ex hD).go (G := G1)
    exact this
  have g0 : Gok X.K F1 (upd H1 D (.lst [])) G1 := g1.grow (Gr.only g1.ex hD)
  refine ⟨fun i m H2 => i + m = ds.length ∧ ∃ F2 G2 accV acc, Go F1 H1 G1 F2 H2 G2 ∧ Gok X.K F2 H2 G2 ∧ H2 D = some (.lst accV) ∧ Reps X.K F2 accV acc ∧ F2 D = none ∧ G2 D = none ∧ acc.length ≤ i ∧ W i acc G2,
    ⟨ds.length, Nat.zero_add _, F1, G1, [], [], go0, g0, upd_same, .nil, fD, gD, Nat.le_refl _, w0⟩, ?_⟩
  rintro i m H2 ⟨him, F2, G2, accV, acc, e2, g2, hd2, rs2, fd2, gd2, hl2, w2⟩
  have gg := wg i acc G2 w2
  cases m with
  | zero =>
    have hi : i = ds.length := him
    refine .inl ⟨hi ▸ it.stop F2 H2 G2 e2.ex g2 gg, ?_⟩
    exact k F2 H2 G2 D accV acc (e1.st D hD) (e1.trans e2) g2 hd2 rs2 fd2 gd2 (done acc G2 (hi ▸ w2))
  | succ m =>
    have hlt : i < ds.length := by omega
    have hd : ds[i]? = some ds[i] := List.getElem?_eq_getElem hlt
    obtain ⟨ig, iy⟩ := it.go F2 H2 G2 i _ e2.ex g2 gg hd
    refine .inr ⟨ig, fun H3 => ∃ F3 G3 accV acc, Go F1 H1 G1 F3 H3 G3 ∧ Gok X.K F3 H3 G3 ∧ H3 D = some (.lst accV) ∧ Reps X.K F3 accV acc ∧ F3 D = none ∧ G3 D = none ∧ acc.length ≤ i + 1 ∧ W (i + 1) acc G3,
      fun H3 z => ⟨m, Nat.lt_succ_self m, by omega, z⟩, fun x H3 hy => ?_⟩
    obtain ⟨F3, e3, g3, q3⟩ := iy x H3 hy
    obtain ⟨S2, hS2, body⟩ := turn i acc G2 _ w2 hd
    have o3 : Ok X.K F3 H3 (wipe σ vs) (dwipe S vs) G2 := ⟨g3, wipe_slots (((o.s.mono e1.ex).mono e2.ex).mono e3.ex) vs⟩
    have hd3 : H3 D = some (.lst accV) := (e3.fr D _ hd2 gd2).1
    have fd3 : F3 D = none := e3.no D _ hd2 gd2 fd2 (fun _ z => nomatch z)
    refine pat_ok hp o3 q3 hS2 fun σ2 ew o4 => ⟨by rw [ew, wipe_wipe], ?_⟩
    refine ⟨F3, S2, G2, _, o4, body, fun F5 H5 b G5 e5 g5 h5 => ?_⟩
    have hd5 := e5.fr D _ hd3 gd2
    have fd5 := e5.no D _ hd3 gd2 fd3 (fun _ z => nomatch z)
    cases b with
    | true =>
      dsimp only
      rw [if_pos rfl] at h5 ⊢
      refine ⟨F5, S2, G5, _, o4.go e5 g5, h5, fun F6 H6 y dy G6 e6 g6 r6 h6 => ?_⟩
      have hd6 := e6.fr D _ hd5.1 hd5.2
      have fd6 := e6.no D _ hd5.1 hd5.2 fd5 (fun _ z => nomatch z)
      have r6' := ((rs2.mono e3.ex).mono e5.ex).mono e6.ex
      refine ⟨accV, hd6.1, by rw [rs2.length]; omega, F6, G6, accV ++ [y], acc ++ [dy], ?_, ?_, upd_same, r6'.append (.one r6), fd6, hd6.2, by simp; omega, h6⟩
      · have ea := (((e2.trans e3).trans e5).trans e6)
        refine ⟨ea.ex, fun b u hb gb => ?_, ea.no, fun b z => ea.st b (upd_none z)⟩
        have q : b ≠ D := fun z => by rw [z, hD] at hb; cases hb
        rw [upd_ne q]
        exact ea.fr b u hb gb
      · refine ⟨g6.ex.updR fd6, fun a w ha => ?_, g6.one⟩
        have q : a ≠ D := fun z => by rw [z, hd6.2] at ha; cases ha
        obtain ⟨fa, ma⟩ := g6.at_ a w ha
        refine ⟨fa, ma.move (Ex.refl F6) (fun b u hb hc => ?_) fun c z => z⟩
        have q2 : b ≠ D := fun z => by
          rcases hc with hc | hc
          · exact q (hc ▸ z)
          · rw [z, hd6.2] at hc; cases hc
        rw [upd_ne q2]; exact hb
    | false =>
      dsimp only
      rw [if_neg Bool.false_ne_true] at h5 ⊢
      exact ⟨F5, G5, accV, acc, (e2.trans e3).trans e5, g5, hd5.1, (rs2.mono e3.ex).mono e5.ex, fd5, hd5.2, by omega, h5⟩
/-- freeze what is in no one's hands -/
theorem hold_freeze {K : PySem.W.Frag} {F H : Hp} {G : GH} {D : Addr} {u : HO} (g : Gok K F H G) (hd : H D = some u) (fd : F D = none) (gd : G D = none) : Gok K (upd F D u) H G := by
  refine ⟨fun a w z => ?_, fun a w e => ?_, g.one⟩
  · by_cases q : a = D
    · subst q; rw [upd_same] at z; cases z; exact hd
    · rw [upd_ne q] at z; exact g.ex a w z
  · have q : a ≠ D := fun y => by rw [y, gd] at e; cases e
    obtain ⟨f, m⟩ := g.at_ a w e
    exact ⟨by rw [upd_ne q]; exact f, m.move (Ex.new fd) (fun b w hb _ => hb) fun c z => z⟩
theorem go_hold {F H F' H' : Hp} {G G' : GH} {D : Addr} {u : HO} (h : H D = none) (go : Go F H G F' H' G') (fd : F' D = none) : Go F H G (upd F' D u) H' G' := by
  refine ⟨go.ex.trans (Ex.new fd), go.fr, fun b w hb gb fb t => ?_, go.st⟩
  have q : b ≠ D := fun z => by rw [z, h] at hb; cases hb
  rw [upd_ne q]; exact go.no b w hb gb fb t
theorem de_lc {elt tg iter : Expr} {ifs : List Expr} {scope : Scope} {own : List (Str × Nat)} {wi : DTI} {p : Pat} {tt : DTT} {te : DTE} (hc : X.calm = true) (hN : X.N.Nodup) (hi : DI X tg iter wi) (ok : BlkOk X.N X.env.scope scope own) (hp : ∀ i ∈ p.at_, i ∈ own.map (·.2))
    (hg : ∀ (s : Shared) (H : Hp) (C : Addr) (cl : List (Str × Addr)) (fp : List Addr), PG (X.blk s H scope (compEnvC scope cl C X.env) fp) tg (p.g X.K)) (ht : ∀ (s : Shared) (H : Hp) (C : Addr) (cl : List (Str × Addr)) (fp : List Addr), DTs (X.blk s H scope (compEnvC scope cl C X.env) fp) ifs tt)
    (he : ∀ (s : Shared) (H : Hp) (C : Addr) (cl : List (Str × Addr)) (fp : List Addr), DE (X.blk s H scope (compEnvC scope cl C X.env) fp) elt te) (hs : ∀ x, foldedSetIterable iter X.env x = pure x := by intro _; rfl) :
    DE X (.ListComp elt [⟨tg, iter, ifs, 0⟩] scope pos) (dLc wi p tt te (own.map (·.2))) := by
  obtain ⟨tw, p0, r0⟩ := hi.ex
  refine ⟨_, pe_lc (tt := hatT X.K tt) (te := hatE X.K te) hc hN p0 ok hg (fun s H C cl fp => (ht s H C cl fp).pt) (fun s H C cl fp => (he s H C cl fp).hat) hs, fun F H σ S G o Q' h Q k => ?_⟩
  refine lc_refine hp r0 o (Q' := fun acc G' => Q' (.lst acc) G') h fun F' H' G' D accV acc hD go g hd rs fd gd q => ?_
  exact k _ H' _ _ G' (go_hold hD go fd) (hold_freeze g hd fd gd) (.lst upd_same (rs.mono (Ex.new fd))) q
/-- name = [..] on one line -/
theorem dp_setLc {i : Nat} {y : Str} {py spos : Pos} {elt tg iter : Expr} {ifs : List Expr} {scope : Scope} {own : List (Str × Nat)} {wi : DTI} {p : Pat} {tt : DTT} {te : DTE} (hc : X.calm = true) (hN : X.N.Nodup) (hy : X.N[i]? = some y) (hyl : X.env.scope.names.lookup y = some .local)
    (hsw : swapsWith (.ListComp elt [⟨tg, iter, ifs, 0⟩] scope pos) (some (.Name y py)) spos.line X.env = pure true) (hi : DI X tg iter wi) (ok : BlkOk X.N X.env.scope scope own) (hp : ∀ i ∈ p.at_, i ∈ own.map (·.2))
    (hg : ∀ (s : Shared) (H : Hp) (C : Addr) (cl : List (Str × Addr)) (fp : List Addr), PG (X.blk s H scope (compEnvC scope cl C X.env) fp) tg (p.g X.K)) (ht : ∀ (s : Shared) (H : Hp) (C : Addr) (cl : List (Str × Addr)) (fp : List Addr), DTs (X.blk s H scope (compEnvC scope cl C X.env) fp) ifs tt)
    (he : ∀ (s : Shared) (H : Hp) (C : Addr) (cl : List (Str × Addr)) (fp : List Addr), DE (X.blk s H scope (compEnvC scope cl C X.env) fp) elt te) (hs : ∀ x, foldedSetIterable iter X.env x = pure x := by intro _; rfl) :
    DP X (.Assign [.Name y py] (.ListComp elt [⟨tg, iter, ifs, 0⟩] scope pos) spos) (dAsg (dLc wi p tt te (own.map (·.2))) (dgName i)) := by
  obtain ⟨tw, p0, r0⟩ := hi.ex
  refine ⟨_, ps_setLc (tt := hatT X.K tt) (te := hatE X.K te) hc hN hy hyl hsw p0 ok hg (fun s H C cl fp => (ht s H C cl fp).pt) (fun s H C cl fp => (he s H C cl fp).hat) hs, fun F H σ S G o D' h D0 k => ?_⟩
  refine lc_refine hp r0 o (Q' := fun acc G' => D'.nx (S.set i (some (.lst acc))) G') h fun F' H' G' D accV acc hD go g hd rs fd gd q => ?_
  have go2 := go_hold (u := .lst accV) hD go fd
  exact k.nx _ H' _ _ G' go2 ⟨hold_freeze g hd fd gd, (o.s.mono go2.ex).set (.lst upd_same (rs.mono (Ex.new fd))) i⟩ q
end
end DL
end
section
set_option Elab.async false
set_option linter.all false
set_option maxRecDepth 100000
set_option maxHeartbeats 4000000
namespace DL
open PySem PySem.Spec PyProof.Rows L2
def D.hasTy (T : String) : D → Bool
  | .lst _ => T == "list"
  | .str _ => T == "str"
  | .dK _ => T == "dict"
  | .dT _ => T == "dict"
  | _ => false
section
variable {X : Cx} {pos : Pos}
structure MtD (X : Cx) (id : String) (r' : D → List D → GH → DQ → Prop) : Prop where
  ex : ∃ r, MtR X id r ∧ ∀ F H G x dx vs ds, Gok X.K F H G → Rep X.K F x dx → Reps X.K F vs ds → ∀ Q', r' dx ds G Q' → ∀ Q, KpE X.K F H G Q' Q → r x vs H Q
theorem hasTy_tyV {F H : Hp} {G : GH} {v : V} {d : D} {T : String} (g : Gok X.K F H G) (r : Rep X.K F v d) (h : D.hasTy T (d.cur G) = true) : tyV X.K T v H := by
  cases e : d.cur G with
  | lst xs =>
    rw [e] at h
    obtain ⟨a, vs, rfl, ha, _⟩ := cur_list g r e
    exact .inl ⟨by simpa [D.hasTy] using h, vs, .inl (.inl ha)⟩
  | str z =>
    rw [e] at h
    rw [cur_str r e]
    show T = "str"
    simpa [D.hasTy] using h
  | dK kds =>
    rw [e] at h
    obtain ⟨a, kvs, rfl, ha, _⟩ := cur_dK g r e
    exact .inr (.inr (.inl ⟨by simpa [D.hasTy] using h, .inl ⟨kvs, ha⟩⟩))
  | dT kds =>
    rw [e] at h
    obtain ⟨a, kvs, rfl, ha, _⟩ := cur_dT g r e
    exact .inr (.inr (.inl ⟨by simpa [D.hasTy] using h, .inr ⟨kvs, ha⟩⟩))
  | _ => rw [e] at h; cases h
def dBM (T : String) (r : D → List D → GH → DQ → Prop) (to : DTE) (ta : DTA) : DTE := fun S G Q => to S G fun x G1 => D.hasTy T (x.cur G1) = true ∧ ta S G1 fun ds G2 => r x ds G2 Q
theorem de_bm {T id : String} {name : Str} {o e : Expr} {es : List Expr} {r' : D → List D → GH → DQ → Prop} {to : DTE} {ta : DTA} {apos : Pos} (pa : PlainAttrs T) (slot : Slot T name id) (hty : typeOf (.builtin id) = pure (.type "method_descriptor")) (hm : MtD X id r') (ho : DE X o to) (ha : DA X (e :: es) ta)
    (hbase : attributeBase o name X.env (eval o X.env) = eval o X.env := by rfl)
    (hfew : ((backTo pos (starEach (e :: es) X.env)).all (fun x => !x.1) && (backToKw pos (keywordEach [] X.env)).all (fun x => x.1.isSome) && decide ((e :: es).length + ([] : List Keyword).length + (if ([] : List Keyword).isEmpty then 0 else 1) < 30)) = true := by rfl)
    (hline : (apos.endLine == pos.line) = true := by rfl) (hs : starEach (e :: es) X.env = (false, eval e X.env) :: starEach es X.env := by rfl) (hplain : (backTo pos (starEach es X.env)).any (·.1) = false := by rfl) :
    DE X (.Call (.Attribute o name apos) (e :: es) [] pos) (dBM T r' to ta) := by
  obtain ⟨r, hr, rr⟩ := hm.ex
  obtain ⟨t1, p1, r1⟩ := ho.ex
  obtain ⟨t2, p2, r2⟩ := ha.ex
  refine ⟨_, pe_bm pa slot hty hr p1 p2 hbase hfew hline hs hplain, fun F H σ S G o Q' h Q k => ?_⟩
  refine r1 F H σ S G o _ h _ fun F1 H1 v d G1 e1 g1 q1 h1 => ?_
  refine ⟨hasTy_tyV g1 q1 h1.1, ?_⟩
  refine r2 F1 H1 σ S G1 (o.go e1 g1) _ h1.2 _ fun F2 H2 vs ds G2 e2 g2 q2 h2 => ?_
  exact rr F2 H2 G2 v d vs ds g2 (q1.mono e2.ex) q2 Q' h2 Q (k.mono (e1.trans e2))
def dBM0 (T : String) (r : D → List D → GH → DQ → Prop) (to : DTE) : DTE := fun S G Q => to S G fun x G1 => D.hasTy T (x.cur G1) = true ∧ r x [] G1 Q
theorem de_bm0 {T id : String} {name : Str} {o : Expr} {r' : D → List D → GH → DQ → Prop} {to : DTE} {apos : Pos} (pa : PlainAttrs T) (slot : Slot T name id) (hty : typeOf (.builtin id) = pure (.type "method_descriptor")) (hm : MtD X id r') (ho : DE X o to)
    (hbase : attributeBase o name X.env (eval o X.env) = eval o X.env := by rfl) (hline : (apos.endLine == pos.line) = true := by rfl) :
    DE X (.Call (.Attribute o name apos) [] [] pos) (dBM0 T r' to) := by
  obtain ⟨r, hr, rr⟩ := hm.ex
  obtain ⟨t1, p1, r1⟩ := ho.ex
  refine ⟨_, pe_bm0 pa slot hty hr p1 hbase hline, fun F H σ S G o Q' h Q k => ?_⟩
  refine r1 F H σ S G o _ h _ fun F1 H1 v d G1 e1 g1 q1 h1 => ?_
  exact ⟨hasTy_tyV g1 q1 h1.1, rr F1 H1 G1 v d [] [] g1 q1 .nil Q' h1.2 Q (k.mono e1)⟩
/-- l.append(e) -/
def rAppendD (x : D) (ds : List D) (G : GH) (Q : DQ) : Prop := match x, ds with
  | .rf a, [d] => (match G a with
    | some (.lst xs) => xs.length < sizeLine ∧ Q .non (gput G a (.lst (xs ++ [d])))
    | _ => False)
  | _, _ => False
theorem md_append : MtD X "list.append" rAppendD := by
  refine ⟨_, mt_append, fun F H G x dx vs ds g rx rs Q' h Q k => ?_⟩
  unfold rAppendD at h
  split at h
  · rename_i a d
    split at h
    · rename_i xs eg
      cases rx
      cases rs with
      | cons r b =>
        cases b
        obtain ⟨fa, ws, ha, rw'⟩ := g.at_ a _ eg
        refine ⟨a, ws, _, rfl, rfl, ha, by rw [rw'.length]; exact h.1, ?_⟩
        exact k F _ _ _ _ (Go.put eg) (g.put (o := .lst (xs ++ [d])) eg rfl rfl ⟨_, upd_same, rw'.append (.one r)⟩) .non h.2
    · exact h.elim
  · exact h.elim
/-- l.extend(m) -/
def rExtendD (x : D) (ds : List D) (G : GH) (Q : DQ) : Prop := match x, ds with
  | .rf a, [d] => (match G a, d.cur G with
    | some (.lst xs), .lst ys => xs.length + ys.length ≤ sizeLine ∧ Q .non (gput G a (.lst (xs ++ ys)))
    | _, _ => False)
  | _, _ => False
theorem md_extend : MtD X "list.extend" rExtendD := by
  refine ⟨_, mt_extend, fun F H G x dx vs ds g rx rs Q' h Q k => ?_⟩
  unfold rExtendD at h
  split at h
  · rename_i a d
    split at h
    · rename_i xs ys eg ey
      cases rx
      cases rs with
      | cons r b =>
        cases b
        obtain ⟨fa, ws, ha, rw'⟩ := g.at_ a _ eg
        obtain ⟨b, zs, rfl, hb, rz⟩ := cur_list g r ey
        refine ⟨a, b, ws, zs, rfl, rfl, ha, hb, by rw [rw'.length, rz.length]; exact h.1, ?_⟩
        exact k F _ _ _ _ (Go.put eg) (g.put (o := .lst (xs ++ ys)) eg rfl rfl ⟨_, upd_same, rw'.append rz⟩) .non h.2
    · exact h.elim
  · exact h.elim
/-- l.pop() -/
def rPopD (x : D) (ds : List D) (G : GH) (Q : DQ) : Prop := match x, ds with
  | .rf a, [] => (match G a with
    | some (.lst xs) => (match xs[xs.length - 1]? with
      | some d => Q d (gput G a (.lst xs.dropLast))
      | none => False)
    | _ => False)
  | _, _ => False
theorem Reps.dropLast {K : PySem.W.Frag} {F : Hp} {vs : List V} {ds : List D} (r : Reps K F vs ds) : Reps K F vs.dropLast ds.dropLast := by
  rw [List.dropLast_eq_take, List.dropLast_eq_take, r.length]
  exact r.take _
theorem md_pop : MtD X "list.pop" rPopD := by
  refine ⟨_, mt_pop, fun F H G x dx vs ds g rx rs Q' h Q k => ?_⟩
  unfold rPopD at h
  split at h
  · rename_i a
    split at h
    · rename_i xs eg
      split at h
      · rename_i d ed
        cases rx
        cases rs
        obtain ⟨fa, ws, ha, rw'⟩ := g.at_ a _ eg
        obtain ⟨v, hv, rv⟩ := rw'.get ed
        refine ⟨a, ws, v, rfl, rfl, ha, by rw [rw'.length]; exact hv, ?_⟩
        exact k F _ _ _ _ (Go.put eg) (g.put (o := .lst xs.dropLast) eg rfl rfl ⟨_, upd_same, rw'.dropLast⟩) rv h
      · exact h.elim
    · exact h.elim
  · exact h.elim
/-- sep.join(texts) -/
def texts : List D → Option (List Str)
  | [] => some []
  | .str x :: r => (texts r).map (x :: ·)
  | _ :: _ => none
theorem texts_rep {K : PySem.W.Frag} {F : Hp} : ∀ {ds : List D} {xs : List Str} {vs : List V}, texts ds = some xs → Reps K F vs ds → vs = xs.map V.str
  | [], xs, _, h, .nil => by cases h; rfl
  | .str x :: r, xs, _, h, .cons a b => by
    unfold texts at h
    cases e : texts r with
    | none => rw [e] at h; cases h
    | some m =>
      rw [e] at h
      cases h
      cases a
      simp [texts_rep e b]
  | .non :: _, _, _, h, _ => by cases h
  | .bl _ :: _, _, _, h, _ => by cases h
  | .int _ :: _, _, _, h, _ => by cases h
  | .ty _ :: _, _, _, h, _ => by cases h
  | .tup _ :: _, _, _, h, _ => by cases h
  | .lst _ :: _, _, _, h, _ => by cases h
  | .dK _ :: _, _, _, h, _ => by cases h
  | .dT _ :: _, _, _, h, _ => by cases h
  | .obj _ _ :: _, _, _, h, _ => by cases h
  | .rf _ :: _, _, _, h, _ => by cases h
  | .scr _ :: _, _, _, h, _ => by cases h
  | .kup _ :: _, _, _, h, _ => by cases h
def rJoinD (x : D) (ds : List D) (G : GH) (Q : DQ) : Prop := match x, ds with
  | .str a, [d] => (match d.cur G with
    | .lst ys => (match texts ys with
      | some zs => (zs.map (·.length)).sum + zs.length * a.length ≤ 16777216 ∧ Q (.str (Txt.join a zs)) G
      | none => False)
    | .tup ys => (match texts ys with
      | some zs => (zs.map (·.length)).sum + zs.length * a.length ≤ 16777216 ∧ Q (.str (Txt.join a zs)) G
      | none => False)
    | _ => False)
  | _, _ => False
theorem md_join : MtD X "str.join" rJoinD := by
  refine ⟨_, mt_join, fun F H G x dx vs ds g rx rs Q' h Q k => ?_⟩
  unfold rJoinD at h
  split at h
  · rename_i a d
    cases rx
    cases rs with
    | cons r b =>
      cases b
      split at h
      · rename_i ys ey
        split at h
        · rename_i zs ez
          obtain ⟨p, ws, rfl, hp, rw'⟩ := cur_list g r ey
          have := texts_rep ez rw'
          subst this
          exact ⟨a, p, zs, rfl, rfl, .inl (.inl (.inl hp)), h.1, k F H _ _ G Go.refl g (.str _) h.2⟩
        · exact h.elim
      · rename_i ys ey
        split at h
        · rename_i zs ez
          obtain ⟨p, ws, rfl, hp, rw'⟩ := cur_tup r ey
          have := texts_rep ez rw'
          subst this
          exact ⟨a, p, zs, rfl, rfl, .inr (.inl (.inl (g.ex _ _ hp))), h.1, k F H _ _ G Go.refl g (.str _) h.2⟩
        · exact h.elim
      · exact h.elim
  · exact h.elim
def dGet1 (td ty : DTE) : DTE := fun S G Q => td S G fun x G1 => D.hasTy "dict" (x.cur G1) = true ∧ ty S G1 fun y G2 => match (x.cur G2).look y with
  | some o => Q (o.getD .non) G2
  | none => False
def dGet2 (td ty tx : DTE) : DTE := fun S G Q => td S G fun x G1 => D.hasTy "dict" (x.cur G1) = true ∧ ty S G1 fun y G2 => tx S G2 fun z G3 => match (x.cur G3).look y with
  | some o => Q (o.getD z) G3
  | none => False
theorem de_ty {x : Str} {T : String} (hg : Gl X x) (hm : X.mg x = none) (hv : bootBuiltins x = some (.type T)) (hn : x ≠ "__name__" := by decide) (hd : (x == ("__debug__" : Str)) = false := by decide) : DE X (.Name x pos) (dC (.ty T)) :=
  dc_of (pe_bltn (v := .ty T) hg hm hv rfl hn hd) fun _ => .ty T
def D.tyN : D → Option String
  | .non => some "NoneType"
  | .bl _ => some "bool"
  | .int _ => some "int"
  | .str _ => some "str"
  | .tup _ => some "tuple"
  | .lst _ => some "list"
  | .dK _ => some "dict"
  | .dT _ => some "dict"
  | _ => none
theorem tyN_of {F H : Hp} {G : GH} {v : V} {d : D} {n : String} (g : Gok X.K F H G) (r : Rep X.K F v d) (h : (d.cur G).tyN = some n) : TyOf X.K H v (.type n) := by
  cases e : d.cur G with
  | lst xs =>
    rw [e] at h; cases h
    obtain ⟨a, vs, rfl, ha, _⟩ := cur_list g r e
    exact .lst ha
  | tup xs =>
    rw [e] at h; cases h
    obtain ⟨a, vs, rfl, ha, _⟩ := cur_tup r e
    exact .tup (g.ex _ _ ha)
  | dK kds =>
    rw [e] at h; cases h
    obtain ⟨a, kvs, rfl, ha, _⟩ := cur_dK g r e
    exact .dK ha
  | dT kds =>
    rw [e] at h; cases h
    obtain ⟨a, kvs, rfl, ha, _⟩ := cur_dT g r e
    exact .dT ha
  | str z => rw [e] at h; cases h; rw [cur_str r e]; exact .str z
  | int z => rw [e] at h; cases h; rw [cur_int r e]; exact .int z
  | non =>
    rw [e] at h; cases h
    cases d <;> first | (cases r; exact .non) | (exfalso; simp [D.cur] at e; done) | skip
    · rename_i a
      exfalso
      unfold D.cur at e
      cases q : G a with
      | none => simp only [q] at e; cases e
      | some o => cases o <;> (simp only [q] at e; cases e)
  | bl b =>
    rw [e] at h; cases h
    cases d <;> first | (cases e; cases r; exact .bl _) | (exfalso; simp [D.cur] at e; done) | skip
    · rename_i a
      exfalso
      unfold D.cur at e
      cases q : G a with
      | none => simp only [q] at e; cases e
      | some o => cases o <;> (simp only [q] at e; cases e)
  | _ => rw [e] at h; cases h
def rIsiD (ds : List D) (G : GH) (Q : DQ) : Prop := match ds with
  | [d, .ty T] => (match (d.cur G).tyN with
    | some n => (match kitB n T with
      | some b => Q (.bl b) G
      | none => False)
    | none => False)
  | _ => False
theorem cd_isi : CallD X (.builtin "isinstance") rIsiD := by
  refine ⟨_, call_isi, fun F H G vs ds g rs Q' h Q k => ?_⟩
  unfold rIsiD at h
  split at h
  · rename_i d T
    split at h
    · rename_i n en
      split at h
      · rename_i b eb
        cases rs with
        | cons r rest =>
          cases rest with
          | cons r2 rest2 =>
            cases rest2
            cases r2
            exact ⟨_, _, .type n, .type T, b, rfl, .ty T, .base (tyN_of g r en), kit_ty eb, k F H _ _ G Go.refl g (.bl _) h⟩
      · exact h.elim
    · exact h.elim
  · exact h.elim
def bools : List D → Option (List Bool)
  | [] => some []
  | .bl x :: r => (bools r).map (x :: ·)
  | _ :: _ => none
theorem bools_rep {K : PySem.W.Frag} {F : Hp} : ∀ {ds : List D} {xs : List Bool} {vs : List V}, bools ds = some xs → Reps K F vs ds → vs = xs.map V.bl
  | [], xs, _, h, .nil => by cases h; rfl
  | .bl x :: r, xs, _, h, .cons a b => by
    unfold bools at h
    cases e : bools r with
    | none => rw [e] at h; cases h
    | some m =>
      rw [e] at h
      cases h
      cases a
      simp [bools_rep e b]
  | .non :: _, _, _, h, _ => by cases h
  | .str _ :: _, _, _, h, _ => by cases h
  | .int _ :: _, _, _, h, _ => by cases h
  | .ty _ :: _, _, _, h, _ => by cases h
  | .tup _ :: _, _, _, h, _ => by cases h
  | .lst _ :: _, _, _, h, _ => by cases h
  | .dK _ :: _, _, _, h, _ => by cases h
  | .dT _ :: _, _, _, h, _ => by cases h
  | .obj _ _ :: _, _, _, h, _ => by cases h
  | .rf _ :: _, _, _, h, _ => by cases h
  | .scr _ :: _, _, _, h, _ => by cases h
  | .kup _ :: _, _, _, h, _ => by cases h
theorem bools_map (bs : List Bool) : bools (bs.map D.bl) = some bs := by
  induction bs with
  | nil => rfl
  | cons b bs ih => simp [bools, ih]
theorem texts_map (bs : List Str) : texts (bs.map D.str) = some bs := by
  induction bs with
  | nil => rfl
  | cons b bs ih => simp [texts, ih]
def rAllD (ds : List D) (G : GH) (Q : DQ) : Prop := match ds with
  | [d] => (match d.cur G with
    | .lst ys => (match bools ys with
      | some bs => Q (.bl (bs.all id)) G
      | none => False)
    | _ => False)
  | _ => False
theorem cd_all (hc : X.calm = true) : CallD X (.builtin "all") rAllD := by
  refine ⟨_, cr_all hc, fun F H G vs ds g rs Q' h Q k => ?_⟩
  unfold rAllD at h
  split at h
  · rename_i d
    cases rs with
    | cons r b =>
      cases b
      split at h
      · rename_i ys ey
        split at h
        · rename_i bs eb
          obtain ⟨p, ws, rfl, hp, rw'⟩ := cur_list g r ey
          have := bools_rep eb rw'
          subst this
          exact ⟨p, bs, rfl, .inl (.inl hp), k F H _ _ G Go.refl g (.bl _) h⟩
        · exact h.elim
      · exact h.elim
  · exact h.elim
end
end DL
end
section
set_option Elab.async false
set_option linter.all false
set_option maxRecDepth 100000
set_option maxHeartbeats 4000000
namespace DL
open PySem PySem.Spec PyProof.Rows L2
def D.le (x y : D) : Bool := PySem.W.dataLe false D.py x y
def sortD (ds : List D) : List D := ds.mergeSort D.le
def okS (ds : List D) : Bool := D.pls ds && (ds.all fun x => ds.all fun y => PySem.W.alike x.py y.py) && (ds.all fun x => decide (x.py.depth ≤ 60)) &&
  ((ds.all fun x => match x with | .tup (_ :: _) => true | _ => false) || (ds.all fun x => match x with | .tup _ => false | .kup _ => false | .non => false | _ => true))
section
variable {X : Cx} {pos : Pos}
theorem okS_of {ds : List D} (h : okS ds = true) : D.pls ds = true ∧ PySem.W.AllAlike (ds.map D.py) ∧ (∀ d ∈ ds, d.py.depth ≤ 60) ∧ PySem.W.Sortable (ds.map D.py) := by
  unfold okS at h
  simp only [Bool.and_eq_true, Bool.or_eq_true, List.all_eq_true, decide_eq_true_eq] at h
  obtain ⟨⟨⟨h1, h2⟩, h3⟩, h4⟩ := h
  refine ⟨h1, fun d hd d' hd' => ?_, h3, ?_⟩
  · obtain ⟨x, hx, rfl⟩ := List.mem_map.mp hd
    obtain ⟨y, hy, rfl⟩ := List.mem_map.mp hd'
    exact h2 x hx y hy
  · rcases h4 with h4 | h4
    · refine .inl fun d hd => ?_
      obtain ⟨x, hx, rfl⟩ := List.mem_map.mp hd
      have := h4 x hx
      split at this
      · exact ⟨_, _, rfl⟩
      · cases this
    · refine .inr fun d hd => ?_
      obtain ⟨x, hx, rfl⟩ := List.mem_map.mp hd
      have := h4 x hx
      have hp : x.pl = true := by
        rw [D.pls_all, List.all_eq_true] at h1
        exact h1 x hx
      cases x <;> first | (simp at this; done) | (simp [D.pl] at hp; done) | exact ⟨by simp [D.py], fun xs => by simp [D.py]⟩
def dChain (r r' : DR2) (ta tb tc : DTE) : DTE := fun S G Q => ta S G fun x G1 => tb S G1 fun y G2 => r x y G2 fun z G3 => match z with
  | .bl k => if k = true then tc S G3 fun w G4 => r' y w G4 Q else Q (.bl false) G3
  | _ => False
theorem chain_core {op op' : CmpOp} {r r' : DR2} {a b c : Expr} {ta tb tc : DTE} (ho : OpD X (compareOp op) r) (ho' : OpD X (compareOp op') r') (ha : DE X a ta) (hb : DE X b tb) (hc : DE X c tc) :
    ∃ (q q' : R2) (t1 t2 t3 : TE), OpR X (compareOp op) q ∧ OpR X (compareOp op') q' ∧ PE X a t1 ∧ PE X b t2 ∧ PE X c t3 ∧ ∀ F H σ S G, Ok X.K F H σ S G → ∀ Q', dChain r r' ta tb tc S G Q' → ∀ Q, KpE X.K F H G Q' Q → tChain q q' t1 t2 t3 σ H Q := by
  obtain ⟨q, hq, rq⟩ := ho.ex
  obtain ⟨q', hq', rq'⟩ := ho'.ex
  obtain ⟨t1, p1, r1⟩ := ha.ex
  obtain ⟨t2, p2, r2⟩ := hb.ex
  obtain ⟨t3, p3, r3⟩ := hc.ex
  refine ⟨q, q', t1, t2, t3, hq, hq', p1, p2, p3, fun F H σ S G o Q' h Q k => ?_⟩
  refine r1 F H σ S G o _ h _ fun F1 H1 v d G1 e1 g1 q1 h1 => ?_
  refine r2 F1 H1 σ S G1 (o.go e1 g1) _ h1 _ fun F2 H2 u d2 G2 e2 g2 q2 h2 => ?_
  refine rq F2 H2 G2 v u d d2 g2 (q1.mono e2.ex) q2 _ h2 _ fun F3 H3 z d3 G3 e3 g3 q3 h3 => ?_
  dsimp only at h3
  split at h3
  · rename_i kb
    cases q3
    refine ⟨kb, rfl, ?_⟩
    cases kb with
    | true =>
      rw [if_pos rfl] at h3 ⊢
      refine r3 F3 H3 σ S G3 (((o.go e1 g1).go e2 g2).go e3 g3) _ h3 _ fun F4 H4 w d4 G4 e4 g4 q4 h4 => ?_
      exact rq' F4 H4 G4 u w d2 d4 g4 ((q2.mono e3.ex).mono e4.ex) q4 Q' h4 Q (k.mono (((e1.trans e2).trans e3).trans e4))
    | false =>
      rw [if_neg Bool.false_ne_true] at h3 ⊢
      exact k F3 H3 _ _ G3 ((e1.trans e2).trans e3) g3 (.bl _) h3
  · exact h3.elim
theorem dt_chain {op op' : CmpOp} {r r' : DR2} {a b c : Expr} {ta tb tc : DTE} (ho : OpD X (compareOp op) r) (ho' : OpD X (compareOp op') r') (ha : DE X a ta) (hb : DE X b tb) (hc : DE X c tc) (hm : lastMarks [op, op'] [b, c] = false := by with_unfolding_all rfl) : DT X (.Compare a [op, op'] [b, c] pos) (dTest (dChain r r' ta tb tc)) := by
  obtain ⟨q, q', t1, t2, t3, hq, hq', p1, p2, p3, rr⟩ := chain_core ho ho' ha hb hc
  refine ⟨_, pt_chain hq hq' p1 p2 p3 hm, fun F H σ S G o Q' h Q k => ?_⟩
  refine rr F H σ S G o _ h _ fun F1 H1 v d G1 e1 g1 q1 h1 => ?_
  dsimp only at h1
  split at h1
  · cases q1
    exact ⟨_, rfl, k F1 H1 _ G1 e1 g1 h1⟩
  · exact h1.elim
theorem de_chain {op op' : CmpOp} {r r' : DR2} {a b c : Expr} {ta tb tc : DTE} (ho : OpD X (compareOp op) r) (ho' : OpD X (compareOp op') r') (ha : DE X a ta) (hb : DE X b tb) (hc : DE X c tc) (hm : lastMarks [op, op'] [b, c] = false := by with_unfolding_all rfl) : DE X (.Compare a [op, op'] [b, c] pos) (dChain r r' ta tb tc) := by
  obtain ⟨q, q', t1, t2, t3, hq, hq', p1, p2, p3, rr⟩ := chain_core ho ho' ha hb hc
  exact ⟨_, pe_chain hq hq' p1 p2 p3 hm, rr⟩
def dPar (i j : Nat) (ta : DTA) : DTS := fun D' S G => ta S G fun ds G1 => match ds with
  | [x, y] => D'.nx ((S.set i (some x)).set j (some y)) G1
  | _ => False
end
end DL
end
section
set_option Elab.async false
set_option linter.all false
set_option maxRecDepth 100000
set_option maxHeartbeats 4000000
namespace DL
open PySem PySem.Spec PyProof.Rows L2
theorem sqt_at {K : PySem.W.Frag} {H : Hp} {a : Addr} {xs : List V} (h : SqT K H a xs) : (∃ u, H a = some u) ∨ ∃ o, K.lookup a = some o := by
  rcases h with (h | ⟨o, h⟩) | ⟨o, _, _, h, _⟩
  · exact .inl ⟨_, h⟩
  · exact .inl ⟨_, h⟩
  · exact .inr ⟨o, h⟩
theorem fp_noK {X : Cx} {pins : List (Addr × Obj)} {σ : L2.St} {H : Hp} {s : Shared} (I : Inv X pins σ H s) {e b : Addr} (hf : FpOk X pins H e) (h : (∃ u, H b = some u) ∨ ∃ o, X.K.lookup b = some o) : e ≠ b := by
  rintro rfl
  rcases h with ⟨u, h⟩ | ⟨o, h⟩
  · rw [hf.1] at h; cases h
  · have hb := I.mod.kin _ _ h
    rcases hf.2.2.2.1 with z | z
    · exact I.ok.noex _ _ hb z
    · exact absurd (Nat.lt_of_lt_of_le (Heap.lt_size (I.ok.bs _ _ hb).1) z) (Nat.lt_irrefl _)
theorem sqt_lt {X : Cx} {pins : List (Addr × Obj)} {σ : L2.St} {H : Hp} {s : Shared} (I : Inv X pins σ H s) {a : Addr} {xs : List V} (h : SqT X.K H a xs) : a < s.heap.objs.size := by
  obtain ⟨_, _, p, _⟩ := I.tuple h
  exact p.lt
def ItE (xs : List V) (ok : Hp → Prop) : It :=
  ⟨fun i H => ok H ∧ i < xs.length, fun i H v H' => ∃ T x, v = .ref T ∧ H T = none ∧ H' = upd H T (.tup [.int (i : Nat), x]) ∧ xs[i]? = some x, fun i H => ok H ∧ i = xs.length⟩
theorem turn_enumOf {P : Program} {w : World} {K : PySem.W.Frag} {elts : List Expr} {kk : Nat} {tpos : Pos} {xs : List V} {ok : Hp → Prop} {e it : Addr} {Si : Nat → Heap → Prop}
    (live : ∀ i h, Si i h → ∃ o, h.get? it = some o ∧ ∀ v, o.data ≠ .cell v) (keep : ∀ i h h', Si i h → (∀ o, h.get? it = some o → h'.get? it = some o) → Si i h')
    (dr : ∀ (X : Cx) (pins : List (Addr × Obj)) (σ : L2.St) (H : Hp) (s : Shared), X.prog = P → X.w = w → X.K = K → X.A.handled = none → Inv X pins σ H s → ok H → ∃ (fp : List Addr) (Pv : Nat → Value → Prop) (St : Nat → Heap → Prop), it ∈ fp ∧ (∀ b ∈ fp, b ≠ it → (∃ u, H b = some u) ∨ ∃ o, X.K.lookup b = some o) ∧ Draws P w X.A.in1 it fp xs.length Pv St ∧
      (∀ i, Si i s.heap → St i s.heap) ∧ (∀ i h, St i h → Si i h) ∧ ∀ i u x, Pv i u → xs[i]? = some x → RelV x u) :
    Turn P w K (.Tuple elts kk tpos) (ItE xs ok) [e, it] e (fun i h => (∃ old, IsEnum h e it ((i : Nat) : Int) old) ∧ Si i h ∧ e ≠ it) where
  mem := by simp
  obj := by
    intro i h st b hb
    obtain ⟨⟨old, he⟩, hs, _⟩ := st
    have q : b = e ∨ b = it := by simpa using hb
    rcases q with q | q
    · subst q; exact ⟨_, he, fun v z => nomatch z⟩
    · subst q; exact live i h hs
  keep := by
    intro i h h' st k
    obtain ⟨⟨old, he⟩, hs, ne⟩ := st
    exact ⟨⟨old, k e (by simp) _ he⟩, keep i h h' hs fun o z => k it (by simp) o z, ne⟩
  item := by
    intro X hP hw hK hc i pins s σ H E I hf st hg
    obtain ⟨⟨old, he⟩, hs, ne⟩ := st
    obtain ⟨hok, hi⟩ := hg
    obtain ⟨fp, Pv, St, m0, mt, Dr, s1, s2, rel⟩ := dr X pins σ H s hP hw hK (I.ok.hd hc) I hok
    subst hP hw hK
    have el : e < s.heap.objs.size := Heap.lt_size he
    have il : it < s.heap.objs.size := by
      obtain ⟨o, z, _⟩ := live i _ hs
      exact Heap.lt_size z
    have ef : e ∉ fp := by
      intro z
      exact fp_noK I (hf e (by simp)) (mt e z ne) rfl
    refine wpAny_pyNext_enum_itemC Dr he (s1 i hs) hi ne ef ?_
    intro x h' tk px ho hst hT hsz hk
    refine ⟨_, rfl, wpAny_letOwnedTupleGo_enum (s := { s with heap := h', toks := tk + 1 }) ho ?_⟩
    intro h'' he' sb
    have hx : xs[i]? = some xs[i] := List.getElem?_eq_getElem hi
    have rx := rel i x _ px hx
    have hT2 := (sb.2 _ (Nat.ne_of_gt el)).trans hT
    have nw : ObjOk X.prog X.w (upd H s.heap.objs.size (.tup [.int (i : Nat), xs[i]])) h'' s.heap.objs.size (.tup [.int (i : Nat), xs[i]]) :=
      ⟨(by decide : 2 ≤ sizeLine), [.int i tk, x], .cons ⟨_, rfl⟩ (.cons rx .nil), ⟨_, hT2, rfl, _, rfl⟩⟩
    have J : Inv X pins σ (upd H s.heap.objs.size (.tup [.int (i : Nat), xs[i]])) { s with heap := h'', toks := tk + 1 } := by
      refine I.turnedNew (ch := [e, it]) ?_ hf (Nat.le_refl _) nw
      intro b ob hb q
      have b1 : b ≠ e := fun z => hb (by simp [z])
      have b2 : b ≠ it := fun z => hb (by simp [z])
      exact (sb.2 b b1).trans (hk b ob b1 b2 q)
    refine ⟨.ref s.heap.objs.size, _, J, rfl, ⟨_, _, rfl, I.hok.fresh (Nat.le_refl _), rfl, hx⟩, ⟨⟨x, ?_⟩, ?_, ne⟩, ?_⟩
    · have z : ((i + 1 : Nat) : Int) = (i : Int) + 1 := by omega
      rw [z]; exact he'
    · exact keep _ _ _ (s2 _ _ hst) fun o q => (sb.2 it (Ne.symm ne)).trans q
    · intro b hb
      have q : b = e ∨ b = it := by simpa using hb
      have lt : b < s.heap.objs.size := by rcases q with q | q <;> (rw [q]; assumption)
      rw [upd_ne (Nat.ne_of_lt lt)]
      exact (hf b hb).1
  done := by
    intro X hP hw hK hc i pins s σ H E I hf st hg
    obtain ⟨⟨old, he⟩, hs, ne⟩ := st
    obtain ⟨hok, hi⟩ := hg
    obtain ⟨fp, Pv, St, m0, mt, Dr, s1, s2, rel⟩ := dr X pins σ H s hP hw hK (I.ok.hd hc) I hok
    subst hP hw hK
    subst hi
    refine wpAny_pyNext_enum_endD Dr he (s1 _ hs) ?_
    intro h' eb
    refine ⟨rfl, I.turnedL (t' := s.toks) (ch := [e, it]) ?_ hf⟩
    intro b o hb q
    exact eb b o (fun z => hb (by simp [z])) q
  self := fun A i s Q E st h => let ⟨⟨_, he⟩, _⟩ := st; wpAny_pyIter_enum he h
set_option maxHeartbeats 4000000 in
theorem meets_enumB {v : Value} {o : Obj} {Hh : Heap → Prop} (B : Begins v o Hh) :
    Meets (Builtin.«enumerate.__new__» ⟨[.type "enumerate", v], []⟩) (fun _ R s => Hh s.heap ∧
      R (.ok (.ret (.ref (s.heap.push o).objs.size))) { s with heap := (s.heap.push o).push { cls := .type "enumerate", data := .fields #[.none, .bool false, .ref s.heap.objs.size, rawInt 0, .none, .none] } }) := by
  refine Meets.of_wp fun prog w A R s h => ?_
  obtain ⟨hp, g, d, tk, os⟩ := s
  obtain ⟨h1, h⟩ := h
  have hsub := PySem.sub_enumerate
  have q1 : ∀ {A' : Around} {E : Value → Shared → Prop} {Q : Value → Shared → Prop}, Q (.ref hp.objs.size) ⟨hp.push o, g, d, tk, os⟩ → wpAny (model prog w) A' (pyIter v) Q E ⟨hp, g, d, tk, os⟩ := by
    intro A' E Q q
    exact B.iter prog w _ _ ⟨hp, g, d, tk, os⟩ _ h1 q
  wp_walk using q1
  refine wpAny_stack_any fun st => wpAny_pure ?_
  split
  · rename_i c _ _ _ _ _
    cases (c == Value.type "enumerate") <;> (wp_walk using q1; exact ⟨_, rfl, h⟩)
  · wp_walk using q1
    exact ⟨_, rfl, h⟩
theorem call_enumB {prog : Program} {w : World} {A : Around} {E : Value → Shared → Prop} {s : Shared} {v : Value} {o : Obj} {Hh : Heap → Prop} {Q : Value → Shared → Prop} (B : Begins v o Hh) (h1 : Hh s.heap)
    (h : ∀ h', IsEnum h' (s.heap.objs.size + 1) s.heap.objs.size 0 .none → h'.get? s.heap.objs.size = some o → h'.objs.size = s.heap.objs.size + 2 → (∀ b o, s.heap.get? b = some o → h'.get? b = some o) → Q (.ref (s.heap.objs.size + 1)) { s with heap := h' }) :
    wpAny (model prog w) A (call (.type "enumerate") [v]) Q E s := by
  refine callType_new F.called_enumerate (by decide) (F.typeCall_enumerate_1 _) (F.newCall_enumerate_1 _) (fun obj => F.args_object_init_2 obj _) F.entry_enumerate_new (meets_enumB B) ⟨h1, ?_⟩
  have z1 : (s.heap.push o).objs.size = s.heap.objs.size + 1 := Heap.size_push ..
  show _ ∧ _
  rw [z1]
  have he : IsEnum ((s.heap.push o).push { cls := .type "enumerate", data := .fields #[.none, .bool false, .ref s.heap.objs.size, rawInt 0, .none, .none] }) (s.heap.objs.size + 1) s.heap.objs.size 0 .none := by
    have z2 := Heap.get?_push_size (s.heap.push o) (o := { cls := .type "enumerate", data := .fields #[.none, .bool false, .ref s.heap.objs.size, rawInt 0, .none, .none] }) rfl
    rw [z1] at z2
    exact z2
  refine ⟨⟨_, he, rfl⟩, h _ he (Heap.get?_push_of_some _ (Heap.get?_push_size _ B.free)) (by rw [Heap.size_push, z1]) ?_⟩
  intro b ob x
  exact Heap.get?_push_of_some _ (Heap.get?_push_of_some _ x)
def iEnumT (K : PySem.W.Frag) (ta : TA) : TI := fun σ H R => ta σ H fun vs H1 => ∃ a xs, vs = [.ref a] ∧ SqT K H1 a xs ∧ R (ItE xs fun H => SqT K H a xs) H1
theorem fresh_fp {X : Cx} {pins : List (Addr × Obj)} {σ : L2.St} {H : Hp} {s : Shared} (I : Inv X pins σ H s) {l : List Addr} (h : ∀ b ∈ l, s.heap.objs.size ≤ b) : ∀ b ∈ l, FpOk X pins H b := fun b hb => I.fpOk (h b hb) (I.hok.fresh (h b hb))
theorem vals_getD {xs : List V} {us : List Value} (r : Vals xs us) {i : Nat} {u : Value} {x : V} (hu : us[i]? = some u) (hx : xs[i]? = some x) : RelV x u := by
  obtain ⟨w, hw, rw'⟩ := r.get hx
  rw [hu] at hw
  cases hw
  exact rw'
theorem pi_enumT {X : Cx} {e : Expr} {ta : TA} {p pos tpos : Pos} {elts : List Expr} {kk : Nat} (hg : Gl X "enumerate") (hm : X.mg "enumerate" = none) (ha : PA X [e] ta) (hs : starEach [e] X.env = [(false, eval e X.env)] := by rfl) :
    PI X (.Tuple elts kk tpos) (.Call (.Name "enumerate" p) [e] [] pos) (iEnumT X.K ta) := by
  constructor
  intro pins s σ H R I h
  refine Call_ (ld_blt I hg hm boot_enumerate (PyProof.Rows.callWith_type1 (thn (ha.run pos pins s σ H _ I h) ?_) hs rfl))
  rintro us s1 ⟨vs, H1, I1, r1, a, xs, rfl, hq, q⟩
  cases r1 with
  | cons r rr =>
    cases rr
    cases r
    obtain ⟨its, rv, tu, hz⟩ := I1.tuple (xs := xs) (a := a) hq
    have hl := rv.length
    refine call_enumB (begins_tuple a its.toArray) tu ?_
    intro h' he hit hsz hk
    refine wpAny_pyIter_enum he ?_
    have J : Inv X pins σ H1 { s1 with heap := h' } := I1.kept (t' := s1.toks) hk
    refine ⟨s1.heap.objs.size + 1, [s1.heap.objs.size + 1, s1.heap.objs.size], _, _, H1, rfl, J, turn_enumOf (Si := fun i h => h.IsTupleIter s1.heap.objs.size a i) ?_ ?_ ?_, ⟨⟨.none, he⟩, ⟨_, hit, rfl, rfl⟩, Nat.succ_ne_self _⟩, ?_, q⟩
    · rintro i h ⟨o, z, c, d⟩
      exact ⟨o, z, fun v y => by rw [d] at y; cases y⟩
    · rintro i h h' ⟨o, z, c⟩ k
      exact ⟨o, k o z, c⟩
    · intro X2 pins2 σ2 H2 s2 hP hw hK hh I2 hok
      have hne : a ≠ s1.heap.objs.size := Nat.ne_of_lt (sqt_lt I1 hq)
      rw [← hK] at hok
      obtain ⟨its2, rv2, tu2, hz2⟩ := I2.tuple (xs := xs) (a := a) hok
      have hl2 := rv2.length
      refine ⟨[s1.heap.objs.size, a], fun i v => its2.toArray[i]? = some v, fun i h => h.IsTupleIter s1.heap.objs.size a i ∧ h.IsTuple a its2.toArray, by simp, fun b hb hb2 => ?_, ?_, fun i z => ⟨z, tu2⟩, fun i h z => z.1, fun i u x pu hx => ?_⟩
      · have : b = a := by
          have q : b = s1.heap.objs.size ∨ b = a := by simpa using hb
          rcases q with q | q
          · exact absurd q hb2
          · exact q
        subst this
        exact sqt_at hok
      · have := Draws.tuple (prog := X.prog) (w := X.w) (A := X2.A.in1) hh s1.heap.objs.size a hne its2.toArray
        have ez : its2.toArray.size = xs.length := by rw [hl2]; simp
        rw [ez] at this
        exact this
      · refine vals_getD rv2 ?_ hx
        simpa using pu
    · refine fresh_fp I1 fun b hb => ?_
      have q : b = s1.heap.objs.size + 1 ∨ b = s1.heap.objs.size := by simpa using hb
      rcases q with q | q
      · rw [q]; exact Nat.le_add_right _ _
      · rw [q]; exact Nat.le_refl _
section
variable {X : Cx} {pos : Pos}
/-- for i, x in enumerate(t), t a tuple -/
def diEnumT (ta : DTA) : DTI := fun S G R => ta S G fun ds G1 => match ds with
  | [.tup xs] => R (xs.mapIdx fun i x => .tup [.int (i : Nat), x]) dNoGuard G1
  | [.kup xs] => R (xs.mapIdx fun i x => .tup [.int (i : Nat), x]) dNoGuard G1
  | _ => False
theorem di_enumT {e : Expr} {ta : DTA} {p tpos : Pos} {elts : List Expr} {kk : Nat} (hg : Gl X "enumerate") (hm : X.mg "enumerate" = none) (ha : DA X [e] ta) (hs : starEach [e] X.env = [(false, eval e X.env)] := by rfl) :
    DI X (.Tuple elts kk tpos) (.Call (.Name "enumerate" p) [e] [] pos) (diEnumT ta) := by
  obtain ⟨t, p1, r⟩ := ha.ex
  refine ⟨_, pi_enumT hg hm p1 hs, fun F H σ S G o R' h R k => ?_⟩
  refine r F H σ S G o _ h _ fun F1 H1 vs ds G1 e1 g1 q1 h1 => ?_
  dsimp only at h1
  split at h1
  · rename_i xs
    cases q1 with
    | cons q rest =>
      cases rest
      cases q with
      | tup hq rs =>
        rename_i a ws
        refine ⟨a, ws, rfl, g1.ex.sqt (.inl (.inl hq)), k F1 H1 G1 _ _ _ e1 g1 ⟨fun F2 H2 G2 i d e2 g2 _ hd => ?_, fun F2 H2 G2 e2 g2 _ => ?_⟩ h1⟩
        · rw [List.getElem?_mapIdx] at hd
          cases ex : xs[i]? with
          | none => rw [ex] at hd; cases hd
          | some x =>
            rw [ex] at hd
            cases hd
            have hi : i < ws.length := by
              rw [rs.length]
              exact (List.getElem?_eq_some_iff.mp ex).1
            refine ⟨⟨g2.ex.sqt (e2.sqt (.inl (.inl hq))), hi⟩, fun y H3 hy => ?_⟩
            obtain ⟨T, z, rfl, hT, rfl, hz⟩ := hy
            obtain ⟨x', hx', rx'⟩ := rs.get' hz
            rw [ex] at hx'
            cases hx'
            have gr := Gr.new (u := .tup [.int (i : Nat), z]) g2.ex hT
            exact ⟨_, gr.go, g2.grow gr, .tup upd_same (.cons (.int _) (.cons ((rx'.mono e2).mono gr.ff) .nil))⟩
        · refine ⟨g2.ex.sqt (e2.sqt (.inl (.inl hq))), ?_⟩
          rw [List.length_mapIdx, rs.length]
  · rename_i xs
    cases q1 with
    | cons q rest =>
      cases rest
      cases q with
      | kup hq rs =>
        rename_i a ws
        refine ⟨a, ws, rfl, g1.ex.sqt hq, k F1 H1 G1 _ _ _ e1 g1 ⟨fun F2 H2 G2 i d e2 g2 _ hd => ?_, fun F2 H2 G2 e2 g2 _ => ?_⟩ h1⟩
        · rw [List.getElem?_mapIdx] at hd
          cases ex : xs[i]? with
          | none => rw [ex] at hd; cases hd
          | some x =>
            rw [ex] at hd
            cases hd
            have hi : i < ws.length := by
              rw [rs.length]
              exact (List.getElem?_eq_some_iff.mp ex).1
            refine ⟨⟨g2.ex.sqt (e2.sqt hq), hi⟩, fun y H3 hy => ?_⟩
            obtain ⟨T, z, rfl, hT, rfl, hz⟩ := hy
            obtain ⟨x', hx', rx'⟩ := rs.get' hz
            rw [ex] at hx'
            cases hx'
            have gr := Gr.new (u := .tup [.int (i : Nat), z]) g2.ex hT
            exact ⟨_, gr.go, g2.grow gr, .tup upd_same (.cons (.int _) (.cons ((rx'.mono e2).mono gr.ff) .nil))⟩
        · refine ⟨g2.ex.sqt (e2.sqt hq), ?_⟩
          rw [List.length_mapIdx, rs.length]
  · exact h1.elim
end
end DL
end
section
set_option Elab.async false
set_option linter.all false
set_option maxRecDepth 100000
set_option maxHeartbeats 4000000
namespace DL
open PySem PySem.Spec PyProof.Rows L2
def sgn (c : Nat) : Str := ⟨#[c]⟩
def ItZ (x y : Str) : It :=
  ⟨fun i _ => i < min x.cps.size y.cps.size, fun i H v H' => ∃ T a b, v = .ref T ∧ H T = none ∧ H' = upd H T (.tup [.str (sgn a), .str (sgn b)]) ∧ x.cps[i]? = some a ∧ y.cps[i]? = some b, fun i _ => i = min x.cps.size y.cps.size⟩
theorem turn_zipS {P : Program} {w : World} {K : PySem.W.Frag} {elts : List Expr} {kk : Nat} {tpos : Pos} {x y : Str} {t1 t2 : Tok} {z TI TO i1 i2 : Addr} (Sp : ZipSep2 z TI TO i1 i2 [i1] [i2]) :
    Turn P w K (.Tuple elts kk tpos) (ItZ x y) [z, TI, TO, i1, i2] z (fun i h => IsZip h z TI TO .none ∧ IsTupOf2 h TI (.ref i1) (.ref i2) ∧ (∃ a b, IsTupOf2 h TO a b) ∧ h.IsStrIter i1 (strIterType x) x t1 i ∧ h.IsStrIter i2 (strIterType y) y t2 i) where
  mem := by simp
  obj := by
    rintro i h ⟨hz, hTI, ⟨a, b, hTO⟩, ⟨o1, z1, _, d1⟩, ⟨o2, z2, _, d2⟩⟩ c hc
    have q : c = z ∨ c = TI ∨ c = TO ∨ c = i1 ∨ c = i2 := by simpa using hc
    rcases q with q | q | q | q | q <;> subst q
    · exact ⟨_, hz, fun v y => nomatch y⟩
    · exact ⟨_, hTI, fun v y => nomatch y⟩
    · exact ⟨_, hTO, fun v y => nomatch y⟩
    · exact ⟨o1, z1, fun v y => by rw [d1] at y; cases y⟩
    · exact ⟨o2, z2, fun v y => by rw [d2] at y; cases y⟩
  keep := by
    rintro i h h' ⟨hz, hTI, ⟨a, b, hTO⟩, ⟨o1, z1, r1⟩, ⟨o2, z2, r2⟩⟩ k
    exact ⟨k z (by simp) _ hz, k TI (by simp) _ hTI, ⟨a, b, k TO (by simp) _ hTO⟩, ⟨o1, k i1 (by simp) _ z1, r1⟩, ⟨o2, k i2 (by simp) _ z2, r2⟩⟩
  item := by
    intro X hP hw hK hc i pins s σ H E I hf st hg
    subst hP hw hK
    obtain ⟨hz, hTI, ⟨a0, b0, hTO⟩, s1, s2⟩ := st
    have hg' : i < min x.cps.size y.cps.size := hg
    have g1 : i < x.cps.size := by omega
    have g2 : i < y.cps.size := by omega
    have hh := I.ok.hd hc
    have zl : z < s.heap.objs.size := Heap.lt_size hz
    refine wpAny_pyNext_zipD2_item Sp (Draws.text (A := X.A.in1) hh i1 x t1) (Draws.text (A := X.A.in1) hh i2 y t2) hz hTI hTO s1 s2 g1 g2 ?_
    rintro u1 u2 h' tk ⟨c1, k1, e1, rfl⟩ ⟨c2, k2, e2, rfl⟩ hz' hTO' s1' s2' hT hsz hk
    refine ⟨_, rfl, wpAny_letOwnedTupleGo_zip (s := { s with heap := h', toks := tk }) hz' ?_⟩
    intro h'' hz'' sb
    have hT2 := (sb.2 _ (Nat.ne_of_gt zl)).trans hT
    have nw : ObjOk X.prog X.w (upd H s.heap.objs.size (.tup [.str (sgn c1), .str (sgn c2)])) h'' s.heap.objs.size (.tup [.str (sgn c1), .str (sgn c2)]) :=
      ⟨(by decide : 2 ≤ sizeLine), [.str (sgn c1) k1, .str (sgn c2) k2], .cons ⟨_, rfl⟩ (.cons ⟨_, rfl⟩ .nil), ⟨_, hT2, rfl, _, rfl⟩⟩
    have J : Inv X pins σ (upd H s.heap.objs.size (.tup [.str (sgn c1), .str (sgn c2)])) { s with heap := h'', toks := tk } := by
      refine I.turnedNew (ch := [z, TI, TO, i1, i2]) ?_ hf (Nat.le_refl _) nw
      intro c o hb q
      have b1 : c ≠ z := fun w => hb (by simp [w])
      have b3 : c ≠ TO := fun w => hb (by simp [w])
      have b4 : c ≠ i1 := fun w => hb (by simp [w])
      have b5 : c ≠ i2 := fun w => hb (by simp [w])
      exact (sb.2 c b1).trans (hk c o b1 b3 b4 b5 q)
    refine ⟨.ref s.heap.objs.size, _, J, rfl, ⟨_, c1, c2, rfl, I.hok.fresh (Nat.le_refl _), rfl, e1, e2⟩, ⟨hz'', ?_, ⟨.str (sgn c1) k1, .str (sgn c2) k2, ?_⟩, ?_, ?_⟩, ?_⟩
    · exact (sb.2 _ Sp.TIz).trans (hk _ _ Sp.TIz Sp.TITO Sp.TIi1 Sp.TIi2 hTI)
    · exact (sb.2 _ Sp.TOz).trans hTO'
    · obtain ⟨o, q, r⟩ := s1'
      exact ⟨o, (sb.2 _ (Ne.symm Sp.zi1)).trans q, r⟩
    · obtain ⟨o, q, r⟩ := s2'
      exact ⟨o, (sb.2 _ (Ne.symm Sp.zi2)).trans q, r⟩
    · intro c hcm
      have lt : c < s.heap.objs.size := by
        have q : c = z ∨ c = TI ∨ c = TO ∨ c = i1 ∨ c = i2 := by simpa using hcm
        rcases q with q | q | q | q | q
        · rw [q]; exact zl
        · rw [q]; exact Heap.lt_size hTI
        · rw [q]; exact Heap.lt_size hTO
        · rw [q]; obtain ⟨_, w, _⟩ := s1; exact Heap.lt_size w
        · rw [q]; obtain ⟨_, w, _⟩ := s2; exact Heap.lt_size w
      rw [upd_ne (Nat.ne_of_lt lt)]
      exact (hf c hcm).1
  done := by
    intro X hP hw hK hc i pins s σ H E I hf st hg
    subst hP hw hK
    obtain ⟨hz, hTI, ⟨a0, b0, hTO⟩, s1, s2⟩ := st
    have hg' : i = min x.cps.size y.cps.size := hg
    have hh := I.ok.hd hc
    refine wpAny_pyNext_zipD2_end Sp (Draws.text (A := X.A.in1) hh i1 x t1) (Draws.text (A := X.A.in1) hh i2 y t2) hz hTI hTO s1 s2 (by omega) (by omega) (by omega) ?_
    intro h' tk hk
    refine ⟨rfl, I.turnedL (t' := tk) (ch := [z, TI, TO, i1, i2]) ?_ hf⟩
    intro c o hb q
    exact hk c o (fun w => hb (by simp [w])) (fun w => hb (by simp [w])) (fun w => hb (by simp [w])) (fun w => hb (by simp [w])) q
  self := fun A i s Q E st h => wpAny_pyIter_zip st.1 h
def iZipS (ta : TA) : TI := fun σ H R => ta σ H fun vs H1 => ∃ x y, vs = [.str x, .str y] ∧ R (ItZ x y) H1
theorem pi_zipS {X : Cx} {e e2 : Expr} {ta : TA} {p pos tpos : Pos} {elts : List Expr} {kk : Nat} (hg : Gl X "zip") (hm : X.mg "zip" = none) (ha : PA X [e, e2] ta)
    (hs : starEach [e, e2] X.env = (false, eval e X.env) :: starEach [e2] X.env := by rfl) (hpl : (backTo pos (starEach [e2] X.env)).any (·.1) = false := by rfl) :
    PI X (.Tuple elts kk tpos) (.Call (.Name "zip" p) [e, e2] [] pos) (iZipS ta) := by
  constructor
  intro pins s σ H R I h
  refine Call_ (ld_blt I hg hm PyProof.Rows.boot_zip (PyProof.Rows.callWith_type1 (thn (ha.run pos pins s σ H _ I h) ?_) hs hpl))
  rintro us s1 ⟨vs, H1, I1, r1, x, y, rfl, q⟩
  cases r1 with
  | cons r rr =>
    cases rr with
    | cons r' rr =>
      cases rr
      obtain ⟨t1, rfl⟩ := r
      obtain ⟨t2, rfl⟩ := r'
      refine zip_begins2 (begins_text x t1) (begins_text y t2) trivial trivial ?_
      intro h' hz hTI hTO h1 h2 hsz hk
      refine wpAny_pyIter_zip hz ?_
      have J : Inv X pins σ H1 { s1 with heap := h' } := I1.kept (t' := s1.toks) hk
      have sep : ZipSep2 (s1.heap.objs.size + 4) (s1.heap.objs.size + 2) (s1.heap.objs.size + 3) s1.heap.objs.size (s1.heap.objs.size + 1) [s1.heap.objs.size] [s1.heap.objs.size + 1] := zip_sep2 (N := s1.heap.objs.size) (fp1 := []) (fp2 := []) (by simp) (by simp)
      refine ⟨s1.heap.objs.size + 4, [s1.heap.objs.size + 4, s1.heap.objs.size + 2, s1.heap.objs.size + 3, s1.heap.objs.size, s1.heap.objs.size + 1], _, _, H1, rfl, J, turn_zipS (x := x) (y := y) (t1 := t1) (t2 := t2) sep, ⟨hz, hTI, ⟨_, _, hTO⟩, ⟨_, h1, rfl, rfl⟩, ⟨_, h2, rfl, rfl⟩⟩, ?_, q⟩
      refine fresh_fp I1 fun b hb => ?_
      have z : b = s1.heap.objs.size + 4 ∨ b = s1.heap.objs.size + 2 ∨ b = s1.heap.objs.size + 3 ∨ b = s1.heap.objs.size ∨ b = s1.heap.objs.size + 1 := by simpa using hb
      rcases z with z | z | z | z | z
      · rw [z]; exact Nat.le_add_right _ _
      · rw [z]; exact Nat.le_add_right _ _
      · rw [z]; exact Nat.le_add_right _ _
      · rw [z]; exact Nat.le_refl _
      · rw [z]; exact Nat.le_add_right _ _
section
variable {X : Cx} {pos : Pos}
def diZipS (ta : DTA) : DTI := fun S G R => ta S G fun ds G1 => match ds with
  | [.str x, .str y] => R (List.zipWith (fun a b => .tup [.str (sgn a), .str (sgn b)]) x.cps.toList y.cps.toList) dNoGuard G1
  | _ => False
theorem di_zipS {e e2 : Expr} {ta : DTA} {p tpos : Pos} {elts : List Expr} {kk : Nat} (hg : Gl X "zip") (hm : X.mg "zip" = none) (ha : DA X [e, e2] ta)
    (hs : starEach [e, e2] X.env = (false, eval e X.env) :: starEach [e2] X.env := by rfl) (hpl : (backTo pos (starEach [e2] X.env)).any (·.1) = false := by rfl) : DI X (.Tuple elts kk tpos) (.Call (.Name "zip" p) [e, e2] [] pos) (diZipS ta) := by
  obtain ⟨t, p1, r⟩ := ha.ex
  refine ⟨_, pi_zipS hg hm p1 hs hpl, fun F H σ S G o R' h R k => ?_⟩
  refine r F H σ S G o _ h _ fun F1 H1 vs ds G1 e1 g1 q1 h1 => ?_
  dsimp only at h1
  split at h1
  · rename_i x y
    cases q1 with
    | cons a b =>
      cases a
      cases b with
      | cons c d =>
        cases c; cases d
        refine ⟨x, y, rfl, k F1 H1 G1 _ _ _ e1 g1 ⟨fun F2 H2 G2 i d e2 g2 _ hd => ?_, fun F2 H2 G2 e2 g2 _ => ?_⟩ h1⟩
        · rw [List.getElem?_zipWith] at hd
          cases ea : x.cps.toList[i]? with
          | none => simp [ea] at hd
          | some a =>
            cases eb : y.cps.toList[i]? with
            | none => simp [ea, eb] at hd
            | some b =>
              simp only [ea, eb] at hd
              cases hd
              have la := (List.getElem?_eq_some_iff.mp ea).1
              have lb := (List.getElem?_eq_some_iff.mp eb).1
              rw [Array.length_toList] at la lb
              refine ⟨by show i < min _ _; omega, fun v H3 hy => ?_⟩
              obtain ⟨T, a', b', rfl, hT, rfl, ha', hb'⟩ := hy
              have za : x.cps[i]? = some a := by rw [← ea]; simp
              have zb : y.cps[i]? = some b := by rw [← eb]; simp
              rw [za] at ha'; rw [zb] at hb'
              cases ha'; cases hb'
              have gr := Gr.new (u := .tup [.str (sgn a), .str (sgn b)]) g2.ex hT
              exact ⟨_, gr.go, g2.grow gr, .tup upd_same (.cons (.str _) (.cons (.str _) .nil))⟩
        · show _ = min _ _
          simp
  · exact h1.elim
/-- zip of two tuples -/
def diZipT (ta : DTA) : DTI := fun S G R => ta S G fun ds G1 => match ds with
  | [.tup xs, .tup ys] => R (List.zipWith (fun a b => .tup [a, b]) xs ys) dNoGuard G1
  | _ => False
theorem di_zipT {e e2 : Expr} {ta : DTA} {p tpos : Pos} {elts : List Expr} {kk : Nat} (hg : Gl X "zip") (hm : X.mg "zip" = none) (ha : DA X [e, e2] ta)
    (hs : starEach [e, e2] X.env = (false, eval e X.env) :: starEach [e2] X.env := by rfl) (hpl : (backTo pos (starEach [e2] X.env)).any (·.1) = false := by rfl) : DI X (.Tuple elts kk tpos) (.Call (.Name "zip" p) [e, e2] [] pos) (diZipT ta) := by
  obtain ⟨t, p1, r⟩ := ha.ex
  refine ⟨_, RZ.pi_zipA hg hm p1 hs hpl, fun F H σ S G o R' h R k => ?_⟩
  refine r F H σ S G o _ h _ fun F1 H1 vs ds G1 e1 g1 q1 h1 => ?_
  dsimp only at h1
  split at h1
  · rename_i xs ys
    cases q1 with
    | cons a b =>
      cases b with
      | cons c d =>
        cases d
        cases a with
        | tup ha ra =>
          cases c with
          | tup hb rb =>
            rename_i pa va pb vb
            refine ⟨pa, pb, va, vb, rfl, .inr ⟨.inl (.inl (g1.ex _ _ ha)), .inl (.inl (g1.ex _ _ hb)), k F1 H1 G1 _ _ _ e1 g1 ⟨fun F2 H2 G2 i d e2 g2 _ hd => ?_, fun F2 H2 G2 e2 g2 _ => ?_⟩ h1⟩⟩
            · have sa : SqT X.K H2 pa va := .inl (.inl (g2.ex _ _ (e2 _ _ ha)))
              have sb : SqT X.K H2 pb vb := .inl (.inl (g2.ex _ _ (e2 _ _ hb)))
              rw [List.getElem?_zipWith] at hd
              cases ea : xs[i]? with
              | none => simp [ea] at hd
              | some a =>
                cases eb : ys[i]? with
                | none => simp [ea, eb] at hd
                | some b =>
                  simp only [ea, eb] at hd
                  cases hd
                  obtain ⟨u, hu, ru⟩ := ra.get ea
                  obtain ⟨w, hw, rw'⟩ := rb.get eb
                  refine ⟨⟨va, vb, u, w, sa, sb, hu, hw⟩, fun v H3 hy => ?_⟩
                  obtain ⟨T, u', w', rfl, hT, rfl, h3, h4⟩ := hy
                  have z1 := h3 va sa
                  have z2 := h4 vb sb
                  rw [hu] at z1; rw [hw] at z2
                  cases z1; cases z2
                  have gr := Gr.new (u := .tup [u, w]) g2.ex hT
                  exact ⟨_, gr.go, g2.grow gr, .tup upd_same (.cons ((ru.mono e2).mono gr.ff) (.cons ((rw'.mono e2).mono gr.ff) .nil))⟩
            · refine ⟨va, vb, .inl (.inl (g2.ex _ _ (e2 _ _ ha))), .inl (.inl (g2.ex _ _ (e2 _ _ hb))), ?_⟩
              rw [ra.length, rb.length, List.length_zipWith]
              omega
  · exact h1.elim
end
end DL
end
section
set_option Elab.async false
set_option linter.all false
set_option maxRecDepth 100000
set_option maxHeartbeats 4000000
namespace DL
open PySem PySem.Spec PyProof.Rows L2
section
variable {X : Cx} {pos : Pos}
theorem dp_par {i j : Nat} {x y : Str} {a b : Expr} {ta : DTA} {px py pt : Pos} {kt k2 pt2} (hc : X.calm = true) (hN : X.N.Nodup) (hi : X.N[i]? = some x := by rfl) (hj : X.N[j]? = some y := by rfl) (hij : i ≠ j := by decide)
    (hx : X.env.scope.names.lookup x = some .local := by rfl) (hy : X.env.scope.names.lookup y = some .local := by rfl) (ha : DA X [a, b] ta)
    (hw : swappedStores [.Tuple [.Name x px, .Name y py] kt pt] (.Tuple [a, b] k2 pt2) X.env = pure (some [x, y]) := by rfl)
    (hs : swapsWithSole [.Tuple [.Name x px, .Name y py] kt pt] (.Tuple [a, b] k2 pt2) pos.line X.env = pure false := by rfl) :
    DP X (.Assign [.Tuple [.Name x px, .Name y py] kt pt] (.Tuple [a, b] k2 pt2) pos) (dPar i j ta) := by
  obtain ⟨t, p, r⟩ := ha.ex
  refine ⟨_, ps_par hc hN hi hj hij hx hy p hw hs, fun F H σ S G o D' h D0 k => ?_⟩
  refine r F H σ S G o _ h _ fun F1 H1 vs ds G1 e1 g1 q1 h1 => ?_
  dsimp only at h1
  split at h1
  · cases q1 with
    | cons a1 b1 =>
      cases b1 with
      | cons a2 b2 =>
        cases b2
        exact ⟨_, _, rfl, k.nx F1 H1 _ _ G1 e1 ⟨g1, (((o.s.mono e1.ex).set a1 i).set a2 j)⟩ h1⟩
  · exact h1.elim
def dPar3 (i j l : Nat) (ta : DTA) : DTS := fun D' S G => ta S G fun ds G1 => match ds with
  | [x, y, z] => D'.nx (((S.set i (some x)).set j (some y)).set l (some z)) G1
  | _ => False
/-- x += e, whole numbers -/
def dAug (i : Nat) (te : DTE) (f : Int → Int → Int) : DTS := fun D' S G => match S[i]? with
  | some (some (.int a)) => te S G fun d G1 => (match d with
    | .int b => D'.nx (S.set i (some (.int (f a b)))) G1
    | _ => False)
  | _ => False
def dRevL (te : DTE) : DTE := fun S G Q => te S G fun d G1 => match d.cur G1 with
  | .lst xs => Q (.lst xs.reverse) G1
  | _ => False
def dRevLM (te : DTE) : DTE := fun S G Q => te S G fun d G1 => match d.cur G1 with
  | .lst xs => ∀ p, G1 p = none → Q (.rf p) (gput G1 p (.lst xs.reverse))
  | _ => False
theorem de_revLM {e : Expr} {te : DTE} {k : Nat} {p1 p2 p3 : Pos} (he : DE X e te) : DE X (.Subscript e (.Slice none none (some (.UnaryOp .USub (.Constant (.int 1) k p1) p2)) p3) pos) (dRevLM te) := by
  obtain ⟨t, p, r⟩ := he.ex
  refine ⟨_, pe_revL p, fun F H σ S G o Q' h Q kk => ?_⟩
  refine r F H σ S G o _ h _ fun F1 H1 v d G1 e1 g1 q1 h1 => ?_
  dsimp only at h1
  split at h1
  · rename_i xs ex
    obtain ⟨a, vs, rfl, ha, rs⟩ := cur_list g1 q1 ex
    refine ⟨a, vs, rfl, .inl (.inl ha), fun p hp => ?_⟩
    exact kk _ _ _ _ _ (e1.trans (Go.alloc hp)) (g1.alloc (o := .lst xs.reverse) hp rfl ⟨_, upd_same, rs.reverse⟩) (.rf p) (h1 p (g1.free hp))
  · exact h1.elim
abbrev DTP := DS → GH → (List (D × D) → GH → Prop) → Prop
inductive RepP (K : PySem.W.Frag) (F : Hp) : List (V × V) → List (D × D) → Prop
  | nil : RepP K F [] []
  | cons {a b : V} {c d : D} {ps : List (V × V)} {qs : List (D × D)} : Rep K F a c → Rep K F b d → RepP K F ps qs → RepP K F ((a, b) :: ps) ((c, d) :: qs)
theorem RepP.mono {K : PySem.W.Frag} {F F' : Hp} (e : Ex F F') : ∀ {ps : List (V × V)} {qs : List (D × D)}, RepP K F ps qs → RepP K F' ps qs
  | _, _, .nil => .nil
  | _, _, .cons a b t => .cons (a.mono e) (b.mono e) (RepP.mono e t)
structure DPp (X : Cx) (pos : Pos) (keys : List (Option Expr)) (values : List Expr) (t' : DTP) : Prop where
  ex : ∃ trs, PPs X pos keys values trs ∧ ∀ F H σ S G, Ok X.K F H σ S G → ∀ Q', t' S G Q' → ∀ Q : List (V × V) → Hp → Prop, (∀ F' H' ps qs G', Go F H G F' H' G' → Gok X.K F' H' G' → RepP X.K F' ps qs → Q' qs G' → Q ps H') → tPairs trs σ H Q
def dpNil : DTP := fun _ G Q => Q [] G
def dpCons (tk tv : DTE) (tr : DTP) : DTP := fun S G Q => tk S G fun k G1 => tv S G1 fun v G2 => tr S G2 fun qs G3 => Q ((k, v) :: qs) G3
theorem dpp_nil : DPp X pos [] [] dpNil := ⟨_, pps_nil, fun F H σ S G o Q' h Q k => k F H [] [] G Go.refl o.g .nil h⟩
theorem dpp_cons {k v : Expr} {ks : List (Option Expr)} {vs : List Expr} {tk tv : DTE} {tr : DTP} (hk : DE X k tk) (hv : DE X v tv) (hr : DPp X pos ks vs tr) : DPp X pos (some k :: ks) (v :: vs) (dpCons tk tv tr) := by
  obtain ⟨t1, p1, r1⟩ := hk.ex
  obtain ⟨t2, p2, r2⟩ := hv.ex
  obtain ⟨t3, p3, r3⟩ := hr.ex
  refine ⟨_, pps_cons p1 p2 p3, fun F H σ S G o Q' h Q kk => ?_⟩
  refine r1 F H σ S G o _ h _ fun F1 H1 v1 d1 G1 e1 g1 q1 h1 => ?_
  refine r2 F1 H1 σ S G1 (o.go e1 g1) _ h1 _ fun F2 H2 v2 d2 G2 e2 g2 q2 h2 => ?_
  refine r3 F2 H2 σ S G2 ((o.go e1 g1).go e2 g2) _ h2 _ fun F3 H3 ps qs G3 e3 g3 q3 h3 => ?_
  exact kk F3 H3 _ _ G3 ((e1.trans e2).trans e3) g3 (.cons ((q1.mono e2.ex).mono e3.ex) (q2.mono e3.ex) q3) h3
def keyed : List (D × D) → Option (List (Key × D))
  | [] => some []
  | (k, v) :: r => match k.key, keyed r with
    | some k, some r => some ((k, v) :: r)
    | _, _ => none
theorem keyed_rep {K : PySem.W.Frag} {F : Hp} : ∀ {ps : List (V × V)} {qs : List (D × D)} {kds : List (Key × D)}, RepP K F ps qs → keyed qs = some kds → ∃ kvs : List (Key × V), ps = kvs.map (fun kv => (kV kv.1, kv.2)) ∧ KR K F kvs kds
  | _, _, _, .nil, h => by cases h; exact ⟨[], rfl, .nil⟩
  | _, _, kds, .cons (c := c) (d := d) (qs := qs) a b t, h => by
    unfold keyed at h
    cases e1 : c.key with
    | none => simp [e1] at h
    | some k =>
      cases e2 : keyed qs with
      | none => simp [e1, e2] at h
      | some r =>
        simp only [e1, e2] at h
        cases h
        obtain ⟨kvs, rfl, kr⟩ := keyed_rep t e2
        have := a.key e1
        subst this
        exact ⟨(k, _) :: kvs, rfl, .cons b kr⟩
def mergeD (kds more : List (Key × D)) : List (Key × D) := more.foldl (fun acc kv => putD acc kv.1 kv.2) kds
theorem KR.merge {K : PySem.W.Frag} {F : Hp} : ∀ {more : List (Key × D)} {mv : List (Key × V)} {kds : List (Key × D)} {kvs : List (Key × V)}, KR K F mv more → KR K F kvs kds → KR K F (mergeK kvs mv) (mergeD kds more)
  | [], mv, kds, kvs, h, r => by
    obtain rfl := h.unnil
    exact r
  | (k, d) :: more, mv, kds, kvs, h, r => by
    obtain ⟨v, mv', rfl, rv, t⟩ := h.uncons
    show KR K F (mergeK (putK kvs k v) mv') (mergeD (putD kds k d) more)
    exact KR.merge t (r.put rv)
def dDisp (tp : DTP) : DTE := fun S G Q => tp S G fun qs G1 => match keyed qs with
  | some kds => kds.length ≤ 15 ∧ Q (.dK (mergeD [] kds)) G1
  | none => False
theorem disp_core {keys : List (Option Expr)} {values : List Expr} {tp : DTP} (h : DPp X pos keys values tp) (hall : keys.all (·.isSome) = true) (hl : keys.length = values.length) (h0 : keys ≠ []) (h15 : keys.length ≤ 15) :
    ∃ t, PE X (.Dict keys values pos) t ∧ ∀ F H σ S G, Ok X.K F H σ S G → ∀ Q' : List (Key × D) → GH → Prop, (tp S G fun qs G1 => match keyed qs with | some kds => kds.length ≤ 15 ∧ Q' (mergeD [] kds) G1 | none => False) → ∀ Q : VK,
      (∀ F' H' G' p kvs kds, H p = none → Go F H G F' H' G' → Gok X.K F' H' G' → F' p = none → G' p = none → KR X.K F' kvs kds → Q' kds G' → H' p = some (.dK []) → Q (.ref p) (upd H' p (.dK kvs))) → t σ H Q := by
  obtain ⟨trs, p1, r⟩ := h.ex
  refine ⟨_, pe_disp p1 hall hl h0 h15, fun F H σ S G o Q' h Q k => ?_⟩
  intro p hp
  have gp : G p = none := o.g.free hp
  have fp : F p = none := o.g.ex.nope hp
  have gr : Gr F H F (upd H p (.dK [])) := Gr.only o.g.ex hp
  refine r F _ σ S G ⟨o.g.grow gr, o.s⟩ _ h _ fun F1 H1 ps qs G1 e1 g1 q1 h1 => ?_
  split at h1
  · rename_i kds ek
    obtain ⟨kvs, rfl, kr⟩ := keyed_rep q1 ek
    have fr := e1.fr p _ upd_same gp
    refine ⟨fr.1, kvs, rfl, by rw [kr.len]; exact h1.1, ?_⟩
    exact k F1 H1 G1 p _ _ hp ((gr.go (G := G)).trans e1) g1 (e1.no p _ upd_same gp fp (fun _ z => nomatch z)) fr.2 (KR.merge kr .nil) h1.2 fr.1
  · exact h1.elim
theorem de_disp {keys : List (Option Expr)} {values : List Expr} {tp : DTP} (h : DPp X pos keys values tp) (hall : keys.all (·.isSome) = true := by rfl) (hl : keys.length = values.length := by rfl) (h0 : keys ≠ [] := by intro z; cases z) (h15 : keys.length ≤ 15 := by decide) : DE X (.Dict keys values pos) (dDisp tp) := by
  obtain ⟨t, p1, r⟩ := disp_core h hall hl h0 h15
  refine ⟨t, p1, fun F H σ S G o Q' h Q k => ?_⟩
  refine r F H σ S G o (fun kds G' => Q' (.dK kds) G') h Q fun F' H' G' p kvs kds hp go g fp gp kr q hd => ?_
  have g2 : Gok X.K (upd F' p (.dK kvs)) (upd H' p (.dK kvs)) G' := by
    refine ⟨g.ex.upds _, fun a w e => ?_, g.one⟩
    have nq : a ≠ p := fun y => by rw [y, gp] at e; cases e
    obtain ⟨f, m⟩ := g.at_ a w e
    refine ⟨by rw [upd_ne nq]; exact f, m.move (Ex.new fp) (fun b u hb hc => ?_) fun c z => z⟩
    have n2 : b ≠ p := fun z => by
      rcases hc with hc | hc
      · exact nq (hc ▸ z)
      · rw [z, gp] at hc; cases hc
    rw [upd_ne n2]; exact hb
  have go2 : Go F H G (upd F' p (.dK kvs)) (upd H' p (.dK kvs)) G' := by
    refine ⟨go.ex.trans (Ex.new fp), fun b u hb gb => ?_, fun b u hb gb fb t => ?_, fun b z => go.st b (upd_none z)⟩
    · have n2 : b ≠ p := fun z => by rw [z, hp] at hb; cases hb
      rw [upd_ne n2]; exact go.fr b u hb gb
    · have n2 : b ≠ p := fun z => by rw [z, hp] at hb; cases hb
      rw [upd_ne n2]; exact go.no b u hb gb fb t
  have kr2 := kr.mono (Ex.new (o := .dK kvs) fp)
  exact k _ _ _ _ G' go2 g2 (.dK upd_same kr2.ks kr2.vs) q
def dDispM (tp : DTP) : DTE := fun S G Q => tp S G fun qs G1 => match keyed qs with
  | some kds => kds.length ≤ 15 ∧ ∀ p, G1 p = none → Q (.rf p) (gput G1 p (.dK (mergeD [] kds)))
  | none => False
theorem de_dispM {keys : List (Option Expr)} {values : List Expr} {tp : DTP} (h : DPp X pos keys values tp) (hall : keys.all (·.isSome) = true := by rfl) (hl : keys.length = values.length := by rfl) (h0 : keys ≠ [] := by intro z; cases z) (h15 : keys.length ≤ 15 := by decide) : DE X (.Dict keys values pos) (dDispM tp) := by
  obtain ⟨t, p1, r⟩ := disp_core h hall hl h0 h15
  refine ⟨t, p1, fun F H σ S G o Q' h Q k => ?_⟩
  refine r F H σ S G o (fun kds G' => ∀ p, G' p = none → Q' (.rf p) (gput G' p (.dK kds))) h Q fun F' H' G' p kvs kds hp go g fp gp kr q hd => ?_
  have g2 : Gok X.K F' (upd H' p (.dK kvs)) (gput G' p (.dK kds)) := by
    refine ⟨g.ex.updR fp, fun a w e => ?_, fun a b k1 k2 k3 n j1 j2 j3 m e1 e2 => ?_⟩
    · by_cases nq : a = p
      · subst nq
        rw [gput_same] at e; cases e
        exact ⟨fp, _, upd_same, kr.ks, kr.vs⟩
      · rw [gput_ne nq] at e
        obtain ⟨f, m⟩ := g.at_ a w e
        refine ⟨f, m.move (Ex.refl F') (fun b u hb hc => ?_) fun c z => ?_⟩
        · have n2 : b ≠ p := fun z => by
            rcases hc with hc | hc
            · exact nq (hc ▸ z)
            · rw [z, gp] at hc; cases hc
          rw [upd_ne n2]; exact hb
        · have n2 : c ≠ p := fun y => by rw [y, gp] at z; cases z
          rw [gput_ne n2]; exact z
    · have ha : a ≠ p := fun y => by rw [y, gput_same] at e1; cases e1
      have hb : b ≠ p := fun y => by rw [y, gput_same] at e2; cases e2
      rw [gput_ne ha] at e1; rw [gput_ne hb] at e2
      exact g.one a b k1 k2 k3 n j1 j2 j3 m e1 e2
  have go2 : Go F H G F' (upd H' p (.dK kvs)) (gput G' p (.dK kds)) := by
    refine ⟨go.ex, fun b u hb gb => ?_, go.no, fun b z => go.st b (upd_none z)⟩
    have n2 : b ≠ p := fun z => by rw [z, hp] at hb; cases hb
    rw [upd_ne n2, gput_ne n2]; exact go.fr b u hb gb
  exact k _ _ _ _ _ go2 g2 (.rf p) (q p gp)
def D.shown (d : D) : Str := d.py.shown
structure Cal (P : Program) (w : World) (K : PySem.W.Frag) (mg : Str → Option Value) (base : Heap) (x : Str) (k : Nat) (ps : List Str) (sp : SpD) : Prop where
  ex : ∃ f fd, FnG P w K mg base CX0 k f fd ps (SpOf K sp) ∧ mg x = some (.ref f) ∧ PySem.W.keepIn K (.ref f) = true ∧ Binds K fd ps []
theorem de_cal {x : Str} {k : Nat} {ps : List Str} {sp : SpD} {p : Pos} {e : Expr} {es : List Expr} {ta : DTA} (c : Cal X.prog X.w X.K X.mg X.base x k ps sp) (hA : X.A.guards = some []) (hr : Room k X.A) (ha : DA X (e :: es) ta) (hg : Gl X x := by rfl) (hdb : (x == ("__debug__" : Str)) = false := by decide)
    (he : starEach (e :: es) X.env = (false, eval e X.env) :: starEach es X.env := by rfl) (hpl : (backTo pos (starEach es X.env)).any (·.1) = false := by rfl) : DE X (.Call (.Name x p) (e :: es) [] pos) (dCall sp ta) := by
  obtain ⟨f, fd, Fn, hm, hk, hb⟩ := c.ex
  exact de_call Fn hA hr hg hm hk hb ha hdb he hpl
end
structure Def (K : PySem.W.Frag) (mg : Str → Option Value) (x : Str) (st : Stmt) : Prop where
  ex : ∃ f fd, Fun K x x st f fd ∧ mg x = some (.ref f)
theorem cal_mk {P : Program} {w : World} {K : PySem.W.Frag} {mg : Str → Option Value} {base : Heap} {x : Str} {st : Stmt} {N ps : List Str} {k : Nat} {sp : SpD} (d : Def K mg x st) (sc : FnScope N ps (defScope st)) (len : ∀ ds G Q, sp ds G Q → ds.length = ps.length)
    (bi : ∀ (kV doc pm : Value) (an : Option Addr) (cdv ct : Value) (us : List Value), us.length = ps.length → bindArgs (PySem.W.fnOf x x (defArgs st) (defBody st) (defScope st) .none kV doc pm an cdv ct) ⟨us, []⟩ = pure (ps.zip us))
    (hb : ∀ (f : Addr) (cdv : Value) (A : Around) (outer : List Env) (s : Shared) (H : Hp) (E : XK), A.guards = some [] → Room k (A.deeper (envOfC x (defScope st) s.heap.objs.size f cdv)) →
      ∃ t', DPs (cxOf CX0 P w K mg base N x (defScope st) f cdv A outer s H E).nox (defBody st) t' ∧ ∀ ds G Q, sp ds G Q → t' (fin Q) (dstart N ds) G) : Cal P w K mg base x (k + 1) ps sp := by
  obtain ⟨f, fd, Fu, hm⟩ := d.ex
  exact ⟨f, fd, fn_mk Fu sc len (hb f), hm, Fu.kp, Fu.binds bi⟩
end DL
end
section
set_option Elab.async false
set_option linter.all false
set_option maxRecDepth 100000
namespace DL
open PySem PySem.Spec PyProof.Rows L2
/-- the loop of a for over what is known -/
def ForB (ds : List D) (gd : GH → Prop) (g : DTG) (tb : DTS) (D' : DEnds) (S : DS) (G1 : GH) : Prop := ∃ W : Nat → DS → GH → Prop, W 0 S G1 ∧ (∀ i S G, W i S G → gd G) ∧
  (∀ i S G d, W i S G → ds[i]? = some d → g d S G fun S2 G2 => tb { D' with nx := W (i + 1), ct := W (i + 1), bk := D'.nx } S2 G2) ∧ (∀ S G, W ds.length S G → D'.nx S G)
def WhB (c : DTT) (tb : DTS) (D' : DEnds) (S : DS) (G : GH) : Prop := ∃ W : Nat → DS → GH → Prop, (∃ m, W m S G) ∧ ∀ m S G, W m S G →
  c S G fun b G1 => if b = true then tb { D' with nx := fun S' G' => ∃ m', m' < m ∧ W m' S' G', ct := fun S' G' => ∃ m', m' < m ∧ W m' S' G', bk := D'.nx } S G1 else D'.nx S G1
def LcB (ds : List D) (gd : GH → Prop) (p : Pat) (tt : DTT) (te : DTE) (vs : List Nat) (S : DS) (G1 : GH) (Q : DQ) : Prop := ds.length ≤ sizeLine ∧ ∃ W : Nat → List D → GH → Prop, W 0 [] G1 ∧ (∀ i acc G, W i acc G → gd G) ∧
  (∀ i acc G d, W i acc G → ds[i]? = some d → ∃ S2, p.put d (dwipe S vs) = some S2 ∧ tt S2 G fun b G2 => if b = true then te S2 G2 fun y G3 => W (i + 1) (acc ++ [y]) G3 else W (i + 1) acc G2) ∧
  ∀ acc G, W ds.length acc G → Q (.lst acc) G
theorem x_var (i : Nat) (S : DS) (G : GH) (Q : DQ) : dVar i S G Q = (match S[i]? with | some (some d) => Q d G | _ => False) := rfl
theorem x_C (d : D) (S : DS) (G : GH) (Q : DQ) : dC d S G Q = Q d G := rfl
theorem x_nil (S : DS) (G : GH) (Q : List D → GH → Prop) : dNil S G Q = Q [] G := rfl
theorem x_cons (ta : DTE) (tr : DTA) (S : DS) (G : GH) (Q : List D → GH → Prop) : dCons ta tr S G Q = (ta S G fun d G1 => tr S G1 fun ds G2 => Q (d :: ds) G2) := rfl
theorem x_tup (ta : DTA) (S : DS) (G : GH) (Q : DQ) : dTup ta S G Q = (ta S G fun ds G1 => ds.length ≤ sizeLine ∧ Q (.tup ds) G1) := rfl
theorem x_lst (ta : DTA) (S : DS) (G : GH) (Q : DQ) : dLst ta S G Q = (ta S G fun ds G1 => ds.length ≤ sizeLine ∧ Q (.lst ds) G1) := rfl
theorem x_lstM (ta : DTA) (S : DS) (G : GH) (Q : DQ) : dLstM ta S G Q = (ta S G fun ds G1 => ds.length ≤ sizeLine ∧ ∀ p, G1 p = none → Q (.rf p) (gput G1 p (.lst ds))) := rfl
theorem x_op (r : DR2) (ta tb : DTE) (S : DS) (G : GH) (Q : DQ) : dOp r ta tb S G Q = (ta S G fun x G1 => tb S G1 fun y G2 => r x y G2 Q) := rfl
theorem x_un (r : DR1) (ta : DTE) (S : DS) (G : GH) (Q : DQ) : dUn r ta S G Q = (ta S G fun x G1 => r x G1 Q) := rfl
theorem x_test (ta : DTE) (S : DS) (G : GH) (Q : Bool → GH → Prop) : dTest ta S G Q = (ta S G fun d G1 => match d with | .bl b => Q b G1 | _ => False) := rfl
theorem x_not (t : DTT) (S : DS) (G : GH) (Q : Bool → GH → Prop) : dNot t S G Q = (t S G fun b G1 => Q (!b) G1) := rfl
theorem x_and (t u : DTT) (S : DS) (G : GH) (Q : Bool → GH → Prop) : dAnd t u S G Q = (t S G fun b G1 => if b = true then u S G1 Q else Q false G1) := rfl
theorem x_or (t u : DTT) (S : DS) (G : GH) (Q : Bool → GH → Prop) : dOr t u S G Q = (t S G fun b G1 => if b = true then Q true G1 else u S G1 Q) := rfl
theorem x_if (t : DTT) (ta tb : DTE) (S : DS) (G : GH) (Q : DQ) : dIf t ta tb S G Q = (t S G fun b G1 => if b = true then ta S G1 Q else tb S G1 Q) := rfl
theorem x_andV (ta tb : DTE) (S : DS) (G : GH) (Q : DQ) : dAndV ta tb S G Q = (ta S G fun d G1 => match d with | .bl b => if b = true then tb S G1 Q else Q (.bl false) G1 | _ => False) := rfl
theorem x_orV (ta tb : DTE) (S : DS) (G : GH) (Q : DQ) : dOrV ta tb S G Q = (ta S G fun d G1 => match d with | .bl b => if b = true then Q (.bl true) G1 else tb S G1 Q | _ => False) := rfl
theorem x_notV (ta : DTE) (S : DS) (G : GH) (Q : DQ) : dNotV ta S G Q = (ta S G fun d G1 => match d with | .bl b => Q (.bl (!b)) G1 | _ => False) := rfl
theorem x_gname (i : Nat) (d : D) (S : DS) (G : GH) (Q : DS → GH → Prop) : dgName i d S G Q = Q (S.set i (some d)) G := rfl
theorem x_gkup (n : Nat) (u : DTGs) (ds : List D) (S : DS) (G : GH) (Q : DS → GH → Prop) : dgTup n u (.kup ds) S G Q = (ds.length = n ∧ u ds S G Q) := rfl
theorem x_gtup (n : Nat) (u : DTGs) (ds : List D) (S : DS) (G : GH) (Q : DS → GH → Prop) : dgTup n u (.tup ds) S G Q = (ds.length = n ∧ u ds S G Q) := rfl
theorem x_gnil (S : DS) (G : GH) (Q : DS → GH → Prop) : dgNil [] S G Q = Q S G := rfl
theorem x_gcons (t : DTG) (u : DTGs) (d : D) (ds : List D) (S : DS) (G : GH) (Q : DS → GH → Prop) : dgCons t u (d :: ds) S G Q = (t d S G fun S1 G1 => u ds S1 G1 Q) := rfl
theorem x_next (D' : DEnds) (S : DS) (G : GH) : dNext D' S G = D'.nx S G := rfl
theorem x_seq (t u : DTS) (D' : DEnds) (S : DS) (G : GH) : dSeq t u D' S G = t { D' with nx := u D' } S G := rfl
theorem x_asg (te : DTE) (g : DTG) (D' : DEnds) (S : DS) (G : GH) : dAsg te g D' S G = (te S G fun d G1 => g d S G1 D'.nx) := rfl
theorem x_drop (te : DTE) (D' : DEnds) (S : DS) (G : GH) : dDrop te D' S G = (te S G fun _ G1 => D'.nx S G1) := rfl
theorem x_ret (te : DTE) (D' : DEnds) (S : DS) (G : GH) : dRet te D' S G = te S G D'.rt := rfl
theorem x_retN (D' : DEnds) (S : DS) (G : GH) : dRetN D' S G = D'.rt .non G := rfl
theorem x_ifS (c : DTT) (t u : DTS) (D' : DEnds) (S : DS) (G : GH) : dIfS c t u D' S G = (c S G fun b G1 => if b = true then t D' S G1 else u D' S G1) := rfl
theorem x_never (D' : DEnds) (S : DS) (G : GH) : dNever D' S G = False := rfl
theorem x_break (D' : DEnds) (S : DS) (G : GH) : dBreak D' S G = D'.bk S G := rfl
theorem x_cont (D' : DEnds) (S : DS) (G : GH) : dCont D' S G = D'.ct S G := rfl
theorem x_call (sp : SpD) (ta : DTA) (S : DS) (G : GH) (Q : DQ) : dCall sp ta S G Q = (ta S G fun ds G1 => sp ds G1 Q) := rfl
theorem x_cb (r : List D → GH → DQ → Prop) (ta : DTA) (S : DS) (G : GH) (Q : DQ) : dCB r ta S G Q = (ta S G fun ds G1 => r ds G1 Q) := rfl
theorem x_bm (T : String) (r : D → List D → GH → DQ → Prop) (to : DTE) (ta : DTA) (S : DS) (G : GH) (Q : DQ) : dBM T r to ta S G Q = (to S G fun x G1 => D.hasTy T (x.cur G1) = true ∧ ta S G1 fun ds G2 => r x ds G2 Q) := rfl
theorem x_bm0 (T : String) (r : D → List D → GH → DQ → Prop) (to : DTE) (S : DS) (G : GH) (Q : DQ) : dBM0 T r to S G Q = (to S G fun x G1 => D.hasTy T (x.cur G1) = true ∧ r x [] G1 Q) := rfl
theorem x_nopart (S : DS) (G : GH) (Q : Option Int → GH → Prop) : dNoPart S G Q = Q none G := rfl
theorem x_part (ta : DTE) (S : DS) (G : GH) (Q : Option Int → GH → Prop) : dPart ta S G Q = (ta S G fun d G1 => match d with | .int i => Q (some i) G1 | _ => False) := rfl
theorem x_slice (ta : DTE) (tl th : DTO) (S : DS) (G : GH) (Q : DQ) : dSlice ta tl th S G Q = (ta S G fun x G1 => tl S G1 fun lo G2 => th S G2 fun hi G3 => rSlice x lo hi G3 Q) := rfl
theorem x_newK (S : DS) (G : GH) (Q : DQ) : dNewK S G Q = (∀ p, G p = none → Q (.rf p) (gput G p (.dK []))) := rfl
theorem x_newT (S : DS) (G : GH) (Q : DQ) : dNewT S G Q = (∀ p, G p = none → Q (.rf p) (gput G p (.dT []))) := rfl
theorem x_yes (S : DS) (G : GH) (Q : Bool → GH → Prop) : dYes S G Q = Q true G := rfl
theorem x_pnil (S : DS) (G : GH) (Q : List (D × D) → GH → Prop) : dpNil S G Q = Q [] G := rfl
theorem x_pcons (tk tv : DTE) (tr : DTP) (S : DS) (G : GH) (Q : List (D × D) → GH → Prop) : dpCons tk tv tr S G Q = (tk S G fun k G1 => tv S G1 fun v G2 => tr S G2 fun qs G3 => Q ((k, v) :: qs) G3) := rfl
theorem x_dCold (ta : DTE) (S : DS) (G : GH) (Q : DQ) : dCold ta S G Q = (ta S G fun d G1 => match d with
  | .rf a => (match G1 a with
    | some o => (match o.cold with
      | some d => Q d (gdel G1 a)
      | none => False)
    | none => False)
  | d => Q d G1) := rfl
theorem x_dFld (C : Addr) (f : Str) (ta : DTE) (S : DS) (G : GH) (Q : DQ) : dFld C f ta S G Q = (ta S G fun d G1 => match d.cur G1 with
  | .obj C' fs => C' = C ∧ (match fs.lookup f with
    | some v => Q v G1
    | none => False)
  | _ => False) := rfl
theorem x_dSetFld (C : Addr) (f : Str) (ta tv : DTE) (D' : DEnds) (S : DS) (G : GH) : dSetFld C f ta tv D' S G = (tv S G fun y G1 => ta S G1 fun x G2 => match x with
  | .rf a => (match G2 a with
    | some (.ins C' fs) => C' = C ∧ fs.length < 1000 ∧ D'.nx S (gput G2 a (.ins C (putFD f y fs)))
    | _ => False)
  | _ => False) := rfl
theorem x_dSetSub (to ti : DTE) (v : D) (S : DS) (G : GH) (Q : DS → GH → Prop) : dSetSub to ti v S G Q = (to S G fun x G1 => ti S G1 fun i G2 => match x with
  | .rf a => (match G2 a with
    | some (.lst xs) => (match i with
      | .int j => (match ixN xs.length j with
        | some n => Q S (gput G2 a (.lst (xs.set n v)))
        | none => False)
      | _ => False)
    | some (.dK kds) => (match i.key with
      | some k => kds.length < sizeLine ∧ Q S (gput G2 a (.dK (putD kds k v)))
      | none => False)
    | some (.dT kds) => (match i with
      | .tup ds => (match D.keys ds with
        | some k => kds.length < sizeLine ∧ Q S (gput G2 a (.dT (putD kds k v)))
        | none => False)
      | _ => False)
    | _ => False)
  | _ => False) := rfl
theorem x_dMeth (C : Addr) (m : Str) (sp : SpD) (ta : DTE) (tr : DTA) (S : DS) (G : GH) (Q : DQ) : dMeth C m sp ta tr S G Q = (ta S G fun d G1 => match d.cur G1 with
  | .obj C' fs => C' = C ∧ fs.lookup m = none ∧ tr S G1 fun ds G2 => sp (d :: ds) G2 Q
  | _ => False) := rfl
theorem x_dMake (C : Addr) (sp : SpD) (tr : DTA) (S : DS) (G : GH) (Q : DQ) : dMake C sp tr S G Q = (tr S G fun ds G1 => ∀ y, G1 y = none → sp (.rf y :: ds) (gput G1 y (.ins C [])) fun d G2 => match d with
  | .non => Q (.rf y) G2
  | _ => False) := rfl
theorem x_diTup (te : DTE) (S : DS) (G : GH) (R : List D → (GH → Prop) → GH → Prop) : diTup te S G R = (te S G fun d G1 => match d with
  | .tup ds => R ds dNoGuard G1
  | .kup ds => R ds dNoGuard G1
  | _ => False) := rfl
theorem x_diList (te : DTE) (S : DS) (G : GH) (R : List D → (GH → Prop) → GH → Prop) : diList te S G R = (te S G fun d G1 => match d with
  | .lst ds => R ds dNoGuard G1
  | .rf a => (match G1 a with
    | some (.lst ds) => R ds (fun G => G a = some (.lst ds)) G1
    | _ => False)
  | _ => False) := rfl
theorem x_diStr (te : DTE) (S : DS) (G : GH) (R : List D → (GH → Prop) → GH → Prop) : diStr te S G R = (te S G fun d G1 => match d with
  | .str x => R (signs x) dNoGuard G1
  | _ => False) := rfl
theorem x_diRange1 (ta : DTA) (S : DS) (G : GH) (R : List D → (GH → Prop) → GH → Prop) : diRange1 ta S G R = (ta S G fun ds G1 => match ds with
  | [.int n] => -(2 ^ 62) ≤ n ∧ n < 2 ^ 62 ∧ R ((List.range n.toNat).map fun i => .int (i : Nat)) dNoGuard G1
  | _ => False) := rfl
theorem x_diRange2 (ta : DTA) (S : DS) (G : GH) (R : List D → (GH → Prop) → GH → Prop) : diRange2 ta S G R = (ta S G fun ds G1 => match ds with
  | [.int m, .int n] => (-(2 ^ 62) ≤ m ∧ m < 2 ^ 62 ∧ -(2 ^ 62) ≤ n ∧ n < 2 ^ 62) ∧ R ((List.range (n - m).toNat).map fun i => .int (m + (i : Nat))) dNoGuard G1
  | _ => False) := rfl
theorem x_dLcM (wi : DTI) (p : Pat) (tt : DTT) (te : DTE) (vs : List Nat) (S : DS) (G : GH) (Q : DQ) : dLcM wi p tt te vs S G Q = (dLc wi p tt te vs S G fun d G' => match d with
  | .lst acc => ∀ a, G' a = none → Q (.rf a) (gput G' a (.lst acc))
  | _ => False) := rfl
theorem x_dGet1 (td ty : DTE) (S : DS) (G : GH) (Q : DQ) : dGet1 td ty S G Q = (td S G fun x G1 => D.hasTy "dict" (x.cur G1) = true ∧ ty S G1 fun y G2 => match (x.cur G2).look y with
  | some o => Q (o.getD .non) G2
  | none => False) := rfl
theorem x_dGet2 (td ty tx : DTE) (S : DS) (G : GH) (Q : DQ) : dGet2 td ty tx S G Q = (td S G fun x G1 => D.hasTy "dict" (x.cur G1) = true ∧ ty S G1 fun y G2 => tx S G2 fun z G3 => match (x.cur G3).look y with
  | some o => Q (o.getD z) G3
  | none => False) := rfl
theorem x_diEnumT (ta : DTA) (S : DS) (G : GH) (R : List D → (GH → Prop) → GH → Prop) : diEnumT ta S G R = (ta S G fun ds G1 => match ds with
  | [.tup xs] => R (xs.mapIdx fun i x => .tup [.int (i : Nat), x]) dNoGuard G1
  | [.kup xs] => R (xs.mapIdx fun i x => .tup [.int (i : Nat), x]) dNoGuard G1
  | _ => False) := rfl
theorem x_diZipS (ta : DTA) (S : DS) (G : GH) (R : List D → (GH → Prop) → GH → Prop) : diZipS ta S G R = (ta S G fun ds G1 => match ds with
  | [.str x, .str y] => R (List.zipWith (fun a b => .tup [.str (sgn a), .str (sgn b)]) x.cps.toList y.cps.toList) dNoGuard G1
  | _ => False) := rfl
theorem x_diZipT (ta : DTA) (S : DS) (G : GH) (R : List D → (GH → Prop) → GH → Prop) : diZipT ta S G R = (ta S G fun ds G1 => match ds with
  | [.tup xs, .tup ys] => R (List.zipWith (fun a b => .tup [a, b]) xs ys) dNoGuard G1
  | _ => False) := rfl
theorem x_dPar (i j : Nat) (ta : DTA) (D' : DEnds) (S : DS) (G : GH) : dPar i j ta D' S G = (ta S G fun ds G1 => match ds with
  | [x, y] => D'.nx ((S.set i (some x)).set j (some y)) G1
  | _ => False) := rfl
theorem x_dPar3 (i j l : Nat) (ta : DTA) (D' : DEnds) (S : DS) (G : GH) : dPar3 i j l ta D' S G = (ta S G fun ds G1 => match ds with
  | [x, y, z] => D'.nx (((S.set i (some x)).set j (some y)).set l (some z)) G1
  | _ => False) := rfl
theorem x_dAug (i : Nat) (te : DTE) (f : Int → Int → Int) (D' : DEnds) (S : DS) (G : GH) : dAug i te f D' S G = (match S[i]? with
  | some (some (.int a)) => te S G fun d G1 => (match d with
    | .int b => D'.nx (S.set i (some (.int (f a b)))) G1
    | _ => False)
  | _ => False) := rfl
theorem x_dRevL (te : DTE) (S : DS) (G : GH) (Q : DQ) : dRevL te S G Q = (te S G fun d G1 => match d.cur G1 with
  | .lst xs => Q (.lst xs.reverse) G1
  | _ => False) := rfl
theorem x_dRevLM (te : DTE) (S : DS) (G : GH) (Q : DQ) : dRevLM te S G Q = (te S G fun d G1 => match d.cur G1 with
  | .lst xs => ∀ p, G1 p = none → Q (.rf p) (gput G1 p (.lst xs.reverse))
  | _ => False) := rfl
theorem x_dDisp (tp : DTP) (S : DS) (G : GH) (Q : DQ) : dDisp tp S G Q = (tp S G fun qs G1 => match keyed qs with
  | some kds => kds.length ≤ 15 ∧ Q (.dK (mergeD [] kds)) G1
  | none => False) := rfl
theorem x_dDispM (tp : DTP) (S : DS) (G : GH) (Q : DQ) : dDispM tp S G Q = (tp S G fun qs G1 => match keyed qs with
  | some kds => kds.length ≤ 15 ∧ ∀ p, G1 p = none → Q (.rf p) (gput G1 p (.dK (mergeD [] kds)))
  | none => False) := rfl
theorem x_dChain (r r' : DR2) (ta tb tc : DTE) (S : DS) (G : GH) (Q : DQ) : dChain r r' ta tb tc S G Q = (ta S G fun x G1 => tb S G1 fun y G2 => r x y G2 fun z G3 => match z with
  | .bl k => if k = true then tc S G3 fun w G4 => r' y w G4 Q else Q (.bl false) G3
  | _ => False) := rfl
theorem x_for (wi : DTI) (g : DTG) (tb : DTS) (D' : DEnds) (S : DS) (G : GH) : dFor wi g tb D' S G = (wi S G fun ds gd G1 => ForB ds gd g tb D' S G1) := rfl
theorem x_while (c : DTT) (tb : DTS) (D' : DEnds) (S : DS) (G : GH) : dWhile c tb D' S G = WhB c tb D' S G := rfl
theorem x_lc (wi : DTI) (p : Pat) (tt : DTT) (te : DTE) (vs : List Nat) (S : DS) (G : GH) (Q : DQ) : dLc wi p tt te vs S G Q = (wi S G fun ds gd G1 => LcB ds gd p tt te vs S G1 Q) := rfl
theorem x_curK (G : GH) (a : Addr) : D.cur G (.rf a) = (match G a with
    | some (.lst xs) => .lst xs
    | some (.dK kds) => .dK kds
    | some (.dT kds) => .dT kds
    | some (.ins C kds) => .obj C kds
    | _ => .rf a) := rfl
theorem x_cur_non (G : GH)  : D.cur G (.non ) = .non  := rfl
theorem x_cur_bl (G : GH) (b : Bool) : D.cur G (.bl b) = .bl b := rfl
theorem x_cur_int (G : GH) (i : Int) : D.cur G (.int i) = .int i := rfl
theorem x_cur_str (G : GH) (x : Str) : D.cur G (.str x) = .str x := rfl
theorem x_ty_str (T : String) (x : Str) : D.hasTy T (.str x) = (T == "str") := rfl
theorem x_cur_ty (G : GH) (n : String) : D.cur G (.ty n) = .ty n := rfl
theorem x_cur_tup (G : GH) (xs : List D) : D.cur G (.tup xs) = .tup xs := rfl
theorem x_cur_lst (G : GH) (xs : List D) : D.cur G (.lst xs) = .lst xs := rfl
theorem x_ty_lst (T : String) (xs : List D) : D.hasTy T (.lst xs) = (T == "list") := rfl
theorem x_cur_dK (G : GH) (kvs : List (Key × D)) : D.cur G (.dK kvs) = .dK kvs := rfl
theorem x_ty_dK (T : String) (kvs : List (Key × D)) : D.hasTy T (.dK kvs) = (T == "dict") := rfl
theorem x_cur_dT (G : GH) (kvs : List (List Key × D)) : D.cur G (.dT kvs) = .dT kvs := rfl
theorem x_ty_dT (T : String) (kvs : List (List Key × D)) : D.hasTy T (.dT kvs) = (T == "dict") := rfl
theorem x_cur_obj (G : GH) (C : Addr) (fs : List (Str × D)) : D.cur G (.obj C fs) = .obj C fs := rfl
theorem x_cur_scr (G : GH) (ns : List Int) : D.cur G (.scr ns) = .scr ns := rfl
theorem x_cur_kup (G : GH) (xs : List D) : D.cur G (.kup xs) = .kup xs := rfl
theorem x_item (x y : D) (G : GH) (Q : DQ) : rItem x y G Q = (match D.item (x.cur G) y with | some d => Q d G | none => False) := rfl
theorem x_int (C : Int → Int → Prop) (f : Int → Int → Int) (i j : Int) (G : GH) (Q : DQ) : rIntD C f (.int i) (.int j) G Q = (C i j ∧ Q (.int (f i j)) G) := rfl
theorem x_neg (i : Int) (G : GH) (Q : DQ) : rNegD (.int i) G Q = Q (.int (-i)) G := rfl
theorem dxs : (((((((∀ (i : Nat) (S : DS) (G : GH) (Q : DQ), dVar i S G Q = (match S[i]? with | some (some d) => Q d G | _ => False)) ∧
 (∀ (d : D) (S : DS) (G : GH) (Q : DQ), dC d S G Q = Q d G)) ∧
 ((∀ (S : DS) (G : GH) (Q : List D → GH → Prop), dNil S G Q = Q [] G) ∧
 ((∀ (ta : DTE) (tr : DTA) (S : DS) (G : GH) (Q : List D → GH → Prop), dCons ta tr S G Q = (ta S G fun d G1 => tr S G1 fun ds G2 => Q (d :: ds) G2)) ∧
 (∀ (ta : DTA) (S : DS) (G : GH) (Q : DQ), dTup ta S G Q = (ta S G fun ds G1 => ds.length ≤ sizeLine ∧ Q (.tup ds) G1))))) ∧
 (((∀ (ta : DTA) (S : DS) (G : GH) (Q : DQ), dLst ta S G Q = (ta S G fun ds G1 => ds.length ≤ sizeLine ∧ Q (.lst ds) G1)) ∧
 ((∀ (ta : DTA) (S : DS) (G : GH) (Q : DQ), dLstM ta S G Q = (ta S G fun ds G1 => ds.length ≤ sizeLine ∧ ∀ p, G1 p = none → Q (.rf p) (gput G1 p (.lst ds)))) ∧
 (∀ (r : DR2) (ta tb : DTE) (S : DS) (G : GH) (Q : DQ), dOp r ta tb S G Q = (ta S G fun x G1 => tb S G1 fun y G2 => r x y G2 Q)))) ∧
 ((∀ (r : DR1) (ta : DTE) (S : DS) (G : GH) (Q : DQ), dUn r ta S G Q = (ta S G fun x G1 => r x G1 Q)) ∧
 ((∀ (ta : DTE) (S : DS) (G : GH) (Q : Bool → GH → Prop), dTest ta S G Q = (ta S G fun d G1 => match d with | .bl b => Q b G1 | _ => False)) ∧
 (∀ (t : DTT) (S : DS) (G : GH) (Q : Bool → GH → Prop), dNot t S G Q = (t S G fun b G1 => Q (!b) G1)))))) ∧
 ((((∀ (t u : DTT) (S : DS) (G : GH) (Q : Bool → GH → Prop), dAnd t u S G Q = (t S G fun b G1 => if b = true then u S G1 Q else Q false G1)) ∧
 ((∀ (t u : DTT) (S : DS) (G : GH) (Q : Bool → GH → Prop), dOr t u S G Q = (t S G fun b G1 => if b = true then Q true G1 else u S G1 Q)) ∧
 (∀ (t : DTT) (ta tb : DTE) (S : DS) (G : GH) (Q : DQ), dIf t ta tb S G Q = (t S G fun b G1 => if b = true then ta S G1 Q else tb S G1 Q)))) ∧
 ((∀ (ta tb : DTE) (S : DS) (G : GH) (Q : DQ), dAndV ta tb S G Q = (ta S G fun d G1 => match d with | .bl b => if b = true then tb S G1 Q else Q (.bl false) G1 | _ => False)) ∧
 ((∀ (ta tb : DTE) (S : DS) (G : GH) (Q : DQ), dOrV ta tb S G Q = (ta S G fun d G1 => match d with | .bl b => if b = true then Q (.bl true) G1 else tb S G1 Q | _ => False)) ∧
 (∀ (ta : DTE) (S : DS) (G : GH) (Q : DQ), dNotV ta S G Q = (ta S G fun d G1 => match d with | .bl b => Q (.bl (!b)) G1 | _ => False))))) ∧
 (((∀ (i : Nat) (d : D) (S : DS) (G : GH) (Q : DS → GH → Prop), dgName i d S G Q = Q (S.set i (some d)) G) ∧
 ((∀ (n : Nat) (u : DTGs) (ds : List D) (S : DS) (G : GH) (Q : DS → GH → Prop), dgTup n u (.kup ds) S G Q = (ds.length = n ∧ u ds S G Q)) ∧
 (∀ (n : Nat) (u : DTGs) (ds : List D) (S : DS) (G : GH) (Q : DS → GH → Prop), dgTup n u (.tup ds) S G Q = (ds.length = n ∧ u ds S G Q)))) ∧
 ((∀ (S : DS) (G : GH) (Q : DS → GH → Prop), dgNil [] S G Q = Q S G) ∧
 ((∀ (t : DTG) (u : DTGs) (d : D) (ds : List D) (S : DS) (G : GH) (Q : DS → GH → Prop), dgCons t u (d :: ds) S G Q = (t d S G fun S1 G1 => u ds S1 G1 Q)) ∧
 (∀ (D' : DEnds) (S : DS) (G : GH), dNext D' S G = D'.nx S G)))))) ∧
 (((((∀ (t u : DTS) (D' : DEnds) (S : DS) (G : GH), dSeq t u D' S G = t { D' with nx := u D' } S G) ∧
 (∀ (te : DTE) (g : DTG) (D' : DEnds) (S : DS) (G : GH), dAsg te g D' S G = (te S G fun d G1 => g d S G1 D'.nx))) ∧
 ((∀ (te : DTE) (D' : DEnds) (S : DS) (G : GH), dDrop te D' S G = (te S G fun _ G1 => D'.nx S G1)) ∧
 ((∀ (te : DTE) (D' : DEnds) (S : DS) (G : GH), dRet te D' S G = te S G D'.rt) ∧
 (∀ (D' : DEnds) (S : DS) (G : GH), dRetN D' S G = D'.rt .non G)))) ∧
 (((∀ (c : DTT) (t u : DTS) (D' : DEnds) (S : DS) (G : GH), dIfS c t u D' S G = (c S G fun b G1 => if b = true then t D' S G1 else u D' S G1)) ∧
 ((∀ (D' : DEnds) (S : DS) (G : GH), dNever D' S G = False) ∧
 (∀ (D' : DEnds) (S : DS) (G : GH), dBreak D' S G = D'.bk S G))) ∧
 ((∀ (D' : DEnds) (S : DS) (G : GH), dCont D' S G = D'.ct S G) ∧
 ((∀ (sp : SpD) (ta : DTA) (S : DS) (G : GH) (Q : DQ), dCall sp ta S G Q = (ta S G fun ds G1 => sp ds G1 Q)) ∧
 (∀ (r : List D → GH → DQ → Prop) (ta : DTA) (S : DS) (G : GH) (Q : DQ), dCB r ta S G Q = (ta S G fun ds G1 => r ds G1 Q)))))) ∧
 ((((∀ (T : String) (r : D → List D → GH → DQ → Prop) (to : DTE) (ta : DTA) (S : DS) (G : GH) (Q : DQ), dBM T r to ta S G Q = (to S G fun x G1 => D.hasTy T (x.cur G1) = true ∧ ta S G1 fun ds G2 => r x ds G2 Q)) ∧
 ((∀ (T : String) (r : D → List D → GH → DQ → Prop) (to : DTE) (S : DS) (G : GH) (Q : DQ), dBM0 T r to S G Q = (to S G fun x G1 => D.hasTy T (x.cur G1) = true ∧ r x [] G1 Q)) ∧
 (∀ (S : DS) (G : GH) (Q : Option Int → GH → Prop), dNoPart S G Q = Q none G))) ∧
 ((∀ (ta : DTE) (S : DS) (G : GH) (Q : Option Int → GH → Prop), dPart ta S G Q = (ta S G fun d G1 => match d with | .int i => Q (some i) G1 | _ => False)) ∧
 ((∀ (ta : DTE) (tl th : DTO) (S : DS) (G : GH) (Q : DQ), dSlice ta tl th S G Q = (ta S G fun x G1 => tl S G1 fun lo G2 => th S G2 fun hi G3 => rSlice x lo hi G3 Q)) ∧
 (∀ (S : DS) (G : GH) (Q : DQ), dNewK S G Q = (∀ p, G p = none → Q (.rf p) (gput G p (.dK []))))))) ∧
 (((∀ (S : DS) (G : GH) (Q : DQ), dNewT S G Q = (∀ p, G p = none → Q (.rf p) (gput G p (.dT [])))) ∧
 ((∀ (S : DS) (G : GH) (Q : Bool → GH → Prop), dYes S G Q = Q true G) ∧
 (∀ (S : DS) (G : GH) (Q : List (D × D) → GH → Prop), dpNil S G Q = Q [] G))) ∧
 ((∀ (tk tv : DTE) (tr : DTP) (S : DS) (G : GH) (Q : List (D × D) → GH → Prop), dpCons tk tv tr S G Q = (tk S G fun k G1 => tv S G1 fun v G2 => tr S G2 fun qs G3 => Q ((k, v) :: qs) G3)) ∧
 ((∀ (ta : DTE) (S : DS) (G : GH) (Q : DQ), dCold ta S G Q = (ta S G fun d G1 => match d with
  | .rf a => (match G1 a with
    | some o => (match o.cold with
      | some d => Q d (gdel G1 a)
      | none => False)
    | none => False)
  | d => Q d G1)) ∧
 (∀ (C : Addr) (f : Str) (ta : DTE) (S : DS) (G : GH) (Q : DQ), dFld C f ta S G Q = (ta S G fun d G1 => match d.cur G1 with
  | .obj C' fs => C' = C ∧ (match fs.lookup f with
    | some v => Q v G1
    | none => False)
  | _ => False)))))))) ∧
 ((((((∀ (C : Addr) (f : Str) (ta tv : DTE) (D' : DEnds) (S : DS) (G : GH), dSetFld C f ta tv D' S G = (tv S G fun y G1 => ta S G1 fun x G2 => match x with
  | .rf a => (match G2 a with
    | some (.ins C' fs) => C' = C ∧ fs.length < 1000 ∧ D'.nx S (gput G2 a (.ins C (putFD f y fs)))
    | _ => False)
  | _ => False)) ∧
 (∀ (to ti : DTE) (v : D) (S : DS) (G : GH) (Q : DS → GH → Prop), dSetSub to ti v S G Q = (to S G fun x G1 => ti S G1 fun i G2 => match x with
  | .rf a => (match G2 a with
    | some (.lst xs) => (match i with
      | .int j => (match ixN xs.length j with
        | some n => Q S (gput G2 a (.lst (xs.set n v)))
        | none => False)
      | _ => False)
    | some (.dK kds) => (match i.key with
      | some k => kds.length < sizeLine ∧ Q S (gput G2 a (.dK (putD kds k v)))
      | none => False)
    | some (.dT kds) => (match i with
      | .tup ds => (match D.keys ds with
        | some k => kds.length < sizeLine ∧ Q S (gput G2 a (.dT (putD kds k v)))
        | none => False)
      | _ => False)
    | _ => False)
  | _ => False))) ∧
 ((∀ (C : Addr) (m : Str) (sp : SpD) (ta : DTE) (tr : DTA) (S : DS) (G : GH) (Q : DQ), dMeth C m sp ta tr S G Q = (ta S G fun d G1 => match d.cur G1 with
  | .obj C' fs => C' = C ∧ fs.lookup m = none ∧ tr S G1 fun ds G2 => sp (d :: ds) G2 Q
  | _ => False)) ∧
 ((∀ (C : Addr) (sp : SpD) (tr : DTA) (S : DS) (G : GH) (Q : DQ), dMake C sp tr S G Q = (tr S G fun ds G1 => ∀ y, G1 y = none → sp (.rf y :: ds) (gput G1 y (.ins C [])) fun d G2 => match d with
  | .non => Q (.rf y) G2
  | _ => False)) ∧
 (∀ (te : DTE) (S : DS) (G : GH) (R : List D → (GH → Prop) → GH → Prop), diTup te S G R = (te S G fun d G1 => match d with
  | .tup ds => R ds dNoGuard G1
  | .kup ds => R ds dNoGuard G1
  | _ => False))))) ∧
 (((∀ (te : DTE) (S : DS) (G : GH) (R : List D → (GH → Prop) → GH → Prop), diList te S G R = (te S G fun d G1 => match d with
  | .lst ds => R ds dNoGuard G1
  | .rf a => (match G1 a with
    | some (.lst ds) => R ds (fun G => G a = some (.lst ds)) G1
    | _ => False)
  | _ => False)) ∧
 ((∀ (te : DTE) (S : DS) (G : GH) (R : List D → (GH → Prop) → GH → Prop), diStr te S G R = (te S G fun d G1 => match d with
  | .str x => R (signs x) dNoGuard G1
  | _ => False)) ∧
 (∀ (ta : DTA) (S : DS) (G : GH) (R : List D → (GH → Prop) → GH → Prop), diRange1 ta S G R = (ta S G fun ds G1 => match ds with
  | [.int n] => -(2 ^ 62) ≤ n ∧ n < 2 ^ 62 ∧ R ((List.range n.toNat).map fun i => .int (i : Nat)) dNoGuard G1
  | _ => False)))) ∧
 ((∀ (ta : DTA) (S : DS) (G : GH) (R : List D → (GH → Prop) → GH → Prop), diRange2 ta S G R = (ta S G fun ds G1 => match ds with
  | [.int m, .int n] => (-(2 ^ 62) ≤ m ∧ m < 2 ^ 62 ∧ -(2 ^ 62) ≤ n ∧ n < 2 ^ 62) ∧ R ((List.range (n - m).toNat).map fun i => .int (m + (i : Nat))) dNoGuard G1
  | _ => False)) ∧
 ((∀ (wi : DTI) (p : Pat) (tt : DTT) (te : DTE) (vs : List Nat) (S : DS) (G : GH) (Q : DQ), dLcM wi p tt te vs S G Q = (dLc wi p tt te vs S G fun d G' => match d with
  | .lst acc => ∀ a, G' a = none → Q (.rf a) (gput G' a (.lst acc))
  | _ => False)) ∧
 (∀ (td ty : DTE) (S : DS) (G : GH) (Q : DQ), dGet1 td ty S G Q = (td S G fun x G1 => D.hasTy "dict" (x.cur G1) = true ∧ ty S G1 fun y G2 => match (x.cur G2).look y with
  | some o => Q (o.getD .non) G2
  | none => False)))))) ∧
 ((((∀ (td ty tx : DTE) (S : DS) (G : GH) (Q : DQ), dGet2 td ty tx S G Q = (td S G fun x G1 => D.hasTy "dict" (x.cur G1) = true ∧ ty S G1 fun y G2 => tx S G2 fun z G3 => match (x.cur G3).look y with
  | some o => Q (o.getD z) G3
  | none => False)) ∧
 ((∀ (ta : DTA) (S : DS) (G : GH) (R : List D → (GH → Prop) → GH → Prop), diEnumT ta S G R = (ta S G fun ds G1 => match ds with
  | [.tup xs] => R (xs.mapIdx fun i x => .tup [.int (i : Nat), x]) dNoGuard G1
  | [.kup xs] => R (xs.mapIdx fun i x => .tup [.int (i : Nat), x]) dNoGuard G1
  | _ => False)) ∧
 (∀ (ta : DTA) (S : DS) (G : GH) (R : List D → (GH → Prop) → GH → Prop), diZipS ta S G R = (ta S G fun ds G1 => match ds with
  | [.str x, .str y] => R (List.zipWith (fun a b => .tup [.str (sgn a), .str (sgn b)]) x.cps.toList y.cps.toList) dNoGuard G1
  | _ => False)))) ∧
 ((∀ (ta : DTA) (S : DS) (G : GH) (R : List D → (GH → Prop) → GH → Prop), diZipT ta S G R = (ta S G fun ds G1 => match ds with
  | [.tup xs, .tup ys] => R (List.zipWith (fun a b => .tup [a, b]) xs ys) dNoGuard G1
  | _ => False)) ∧
 ((∀ (i j : Nat) (ta : DTA) (D' : DEnds) (S : DS) (G : GH), dPar i j ta D' S G = (ta S G fun ds G1 => match ds with
  | [x, y] => D'.nx ((S.set i (some x)).set j (some y)) G1
  | _ => False)) ∧
 (∀ (i j l : Nat) (ta : DTA) (D' : DEnds) (S : DS) (G : GH), dPar3 i j l ta D' S G = (ta S G fun ds G1 => match ds with
  | [x, y, z] => D'.nx (((S.set i (some x)).set j (some y)).set l (some z)) G1
  | _ => False))))) ∧
 (((∀ (i : Nat) (te : DTE) (f : Int → Int → Int) (D' : DEnds) (S : DS) (G : GH), dAug i te f D' S G = (match S[i]? with
  | some (some (.int a)) => te S G fun d G1 => (match d with
    | .int b => D'.nx (S.set i (some (.int (f a b)))) G1
    | _ => False)
  | _ => False)) ∧
 ((∀ (te : DTE) (S : DS) (G : GH) (Q : DQ), dRevL te S G Q = (te S G fun d G1 => match d.cur G1 with
  | .lst xs => Q (.lst xs.reverse) G1
  | _ => False)) ∧
 (∀ (te : DTE) (S : DS) (G : GH) (Q : DQ), dRevLM te S G Q = (te S G fun d G1 => match d.cur G1 with
  | .lst xs => ∀ p, G1 p = none → Q (.rf p) (gput G1 p (.lst xs.reverse))
  | _ => False)))) ∧
 ((∀ (tp : DTP) (S : DS) (G : GH) (Q : DQ), dDisp tp S G Q = (tp S G fun qs G1 => match keyed qs with
  | some kds => kds.length ≤ 15 ∧ Q (.dK (mergeD [] kds)) G1
  | none => False)) ∧
 ((∀ (tp : DTP) (S : DS) (G : GH) (Q : DQ), dDispM tp S G Q = (tp S G fun qs G1 => match keyed qs with
  | some kds => kds.length ≤ 15 ∧ ∀ p, G1 p = none → Q (.rf p) (gput G1 p (.dK (mergeD [] kds)))
  | none => False)) ∧
 (∀ (r r' : DR2) (ta tb tc : DTE) (S : DS) (G : GH) (Q : DQ), dChain r r' ta tb tc S G Q = (ta S G fun x G1 => tb S G1 fun y G2 => r x y G2 fun z G3 => match z with
  | .bl k => if k = true then tc S G3 fun w G4 => r' y w G4 Q else Q (.bl false) G3
  | _ => False))))))) ∧
 (((((∀ (wi : DTI) (g : DTG) (tb : DTS) (D' : DEnds) (S : DS) (G : GH), dFor wi g tb D' S G = (wi S G fun ds gd G1 => ForB ds gd g tb D' S G1)) ∧
 (∀ (c : DTT) (tb : DTS) (D' : DEnds) (S : DS) (G : GH), dWhile c tb D' S G = WhB c tb D' S G)) ∧
 ((∀ (wi : DTI) (p : Pat) (tt : DTT) (te : DTE) (vs : List Nat) (S : DS) (G : GH) (Q : DQ), dLc wi p tt te vs S G Q = (wi S G fun ds gd G1 => LcB ds gd p tt te vs S G1 Q)) ∧
 ((∀ (G : GH) (a : Addr), D.cur G (.rf a) = (match G a with
    | some (.lst xs) => .lst xs
    | some (.dK kds) => .dK kds
    | some (.dT kds) => .dT kds
    | some (.ins C kds) => .obj C kds
    | _ => .rf a)) ∧
 (∀ (G : GH), D.cur G (.non ) = .non)))) ∧
 (((∀ (G : GH) (b : Bool), D.cur G (.bl b) = .bl b) ∧
 ((∀ (G : GH) (i : Int), D.cur G (.int i) = .int i) ∧
 (∀ (G : GH) (x : Str), D.cur G (.str x) = .str x))) ∧
 ((∀ (G : GH) (n : String), D.cur G (.ty n) = .ty n) ∧
 ((∀ (G : GH) (xs : List D), D.cur G (.tup xs) = .tup xs) ∧
 (∀ (G : GH) (xs : List D), D.cur G (.lst xs) = .lst xs))))) ∧
 ((((∀ (G : GH) (kvs : List (Key × D)), D.cur G (.dK kvs) = .dK kvs) ∧
 ((∀ (G : GH) (kvs : List (List Key × D)), D.cur G (.dT kvs) = .dT kvs) ∧
 (∀ (G : GH) (C : Addr) (fs : List (Str × D)), D.cur G (.obj C fs) = .obj C fs))) ∧
 ((∀ (G : GH) (ns : List Int), D.cur G (.scr ns) = .scr ns) ∧
 ((∀ (G : GH) (xs : List D), D.cur G (.kup xs) = .kup xs) ∧
 (∀ (T : String) (xs : List D), D.hasTy T (.lst xs) = (T == "list"))))) ∧
 (((∀ (T : String) (x : Str), D.hasTy T (.str x) = (T == "str")) ∧
 ((∀ (T : String) (kvs : List (Key × D)), D.hasTy T (.dK kvs) = (T == "dict")) ∧
 (∀ (T : String) (kvs : List (List Key × D)), D.hasTy T (.dT kvs) = (T == "dict")))) ∧
 ((∀ (x y : D) (G : GH) (Q : DQ), rItem x y G Q = (match D.item (x.cur G) y with | some d => Q d G | none => False)) ∧
 ((∀ (C : Int → Int → Prop) (f : Int → Int → Int) (i j : Int) (G : GH) (Q : DQ), rIntD C f (.int i) (.int j) G Q = (C i j ∧ Q (.int (f i j)) G)) ∧
 (∀ (i : Int) (G : GH) (Q : DQ), rNegD (.int i) G Q = Q (.int (-i)) G)))))))) :=
 ⟨⟨⟨⟨⟨⟨@x_var, @x_C⟩, ⟨@x_nil, ⟨@x_cons, @x_tup⟩⟩⟩, ⟨⟨@x_lst, ⟨@x_lstM, @x_op⟩⟩, ⟨@x_un, ⟨@x_test, @x_not⟩⟩⟩⟩, ⟨⟨⟨@x_and, ⟨@x_or, @x_if⟩⟩, ⟨@x_andV, ⟨@x_orV, @x_notV⟩⟩⟩, ⟨⟨@x_gname, ⟨@x_gkup, @x_gtup⟩⟩, ⟨@x_gnil, ⟨@x_gcons, @x_next⟩⟩⟩⟩⟩, ⟨⟨⟨⟨@x_seq, @x_asg⟩, ⟨@x_drop, ⟨@x_ret, @x_retN⟩⟩⟩, ⟨⟨@x_ifS, ⟨@x_never, @x_break⟩⟩, ⟨@x_cont, ⟨@x_call, @x_cb⟩⟩⟩⟩, ⟨⟨⟨@x_bm, ⟨@x_bm0, @x_nopart⟩⟩, ⟨@x_part, ⟨@x_slice, @x_newK⟩⟩⟩, ⟨⟨@x_newT, ⟨@x_yes, @x_pnil⟩⟩, ⟨@x_pcons, ⟨@x_dCold, @x_dFld⟩⟩⟩⟩⟩⟩, ⟨⟨⟨⟨⟨@x_dSetFld, @x_dSetSub⟩, ⟨@x_dMeth, ⟨@x_dMake, @x_diTup⟩⟩⟩, ⟨⟨@x_diList, ⟨@x_diStr, @x_diRange1⟩⟩, ⟨@x_diRange2, ⟨@x_dLcM, @x_dGet1⟩⟩⟩⟩, ⟨⟨⟨@x_dGet2, ⟨@x_diEnumT, @x_diZipS⟩⟩, ⟨@x_diZipT, ⟨@x_dPar, @x_dPar3⟩⟩⟩, ⟨⟨@x_dAug, ⟨@x_dRevL, @x_dRevLM⟩⟩, ⟨@x_dDisp, ⟨@x_dDispM, @x_dChain⟩⟩⟩⟩⟩, ⟨⟨⟨⟨@x_for, @x_while⟩, ⟨@x_lc, ⟨@x_curK, @x_cur_non⟩⟩⟩, ⟨⟨@x_cur_bl, ⟨@x_cur_int, @x_cur_str⟩⟩, ⟨@x_cur_ty, ⟨@x_cur_tup, @x_cur_lst⟩⟩⟩⟩, ⟨⟨⟨@x_cur_dK, ⟨@x_cur_dT, @x_cur_obj⟩⟩, ⟨@x_cur_scr, ⟨@x_cur_kup, @x_ty_lst⟩⟩⟩, ⟨⟨@x_ty_str, ⟨@x_ty_dK, @x_ty_dT⟩⟩, ⟨@x_item, ⟨@x_int, @x_neg⟩⟩⟩⟩⟩⟩⟩
theorem gs {α : Type} (a : α) (l : List α) : (a :: l)[0]? = some a := rfl
theorem dl : (∀ (G : GH) (a : Addr) (o : MO), gput G a o a = some o) ∧ (∀ (α : Type) (a : α) (l : List α), (a :: l)[0]? = some a) ∧ (∀ (α : Type) (a : α) (l : List α) (i : Nat), (a :: l)[i + 1]? = l[i]?) ∧
  (∀ (α : Type) (a b : α) (l : List α), (a :: l).set 0 b = b :: l) ∧ (∀ (α : Type) (a b : α) (l : List α) (i : Nat), (a :: l).set (i + 1) b = a :: l.set i b) ∧ (∀ (α : Type) (a : α) (l : List α), (a :: l).length = l.length + 1) ∧ (∀ (α : Type), ([] : List α).length = 0) :=
  ⟨fun _ _ _ => gput_same, fun _ _ _ => rfl, fun _ _ _ _ => rfl, fun _ _ _ _ => rfl, fun _ _ _ _ _ => rfl, fun _ _ _ => rfl, fun _ => rfl⟩
end DL
end
section
set_option Elab.async false
set_option linter.all false
set_option maxRecDepth 100000
namespace DL
open PySem PySem.Spec PyProof.Rows L2
theorem okE_str (a b : Str) : okE (.str a) (.str b) = true := rfl
theorem eqv_str (a b : Str) : D.eqv (.str a) (.str b) = (a == b) := by simp [D.eqv, D.py, PyData.eqv]
theorem okE_int (a b : Int) : okE (.int a) (.int b) = true := rfl
theorem eqv_int (a b : Int) : D.eqv (.int a) (.int b) = (a == b) := by simp [D.eqv, D.py, PyData.eqv]
theorem okL_int (a b : Int) : okL (.int a) (.int b) = true := rfl
theorem okL_str (a b : Str) : okL (.str a) (.str b) = true := rfl
theorem lt_int (a b : Int) : D.lt (.int a) (.int b) = decide (a < b) := PySem.W.dataLt_int a b
theorem lt_str (a b : Str) : D.lt (.str a) (.str b) = decide (a.cps.toList < b.cps.toList) := PySem.W.dataLt_str a b
mutual
def D.si : D → Bool
  | .non | .int _ | .str _ => true
  | .tup xs | .lst xs => D.sis xs
  | _ => false
def D.sis : List D → Bool
  | [] => true
  | x :: xs => D.si x && D.sis xs
end
mutual
theorem D.si_pl : ∀ d : D, d.si = true → d.pl = true
  | .non, _ => rfl
  | .int _, _ => rfl
  | .str _, _ => rfl
  | .tup xs, h => D.sis_pls xs h
  | .lst xs, h => D.sis_pls xs h
  | .bl _, h => by cases h
  | .ty _, h => by cases h
  | .dK _, h => by cases h
  | .dT _, h => by cases h
  | .obj _ _, h => by cases h
  | .rf _, h => by cases h
  | .scr _, h => by cases h
  | .kup _, h => by cases h
theorem D.sis_pls : ∀ xs : List D, D.sis xs = true → D.pls xs = true
  | [], _ => rfl
  | x :: xs, h => by
    simp only [D.sis, Bool.and_eq_true] at h
    simp only [D.pls, Bool.and_eq_true]
    exact ⟨D.si_pl x h.1, D.sis_pls xs h.2⟩
end
mutual
theorem D.si_eqv : ∀ x y : D, x.si = true → y.si = true → (D.eqv x y = true ↔ x = y)
  | .non, y, _, h => by cases y <;> first | (cases h; done) | simp [D.eqv, D.py, PyData.eqv]
  | .int _, y, _, h => by cases y <;> first | (cases h; done) | simp [D.eqv, D.py, PyData.eqv]
  | .str _, y, _, h => by cases y <;> first | (cases h; done) | simp [D.eqv, D.py, PyData.eqv]
  | .tup xs, .tup ys, hx, hy => by
    have := D.sis_eqv xs ys hx hy
    simp only [D.eqv, D.py, PyData.eqv, D.tup.injEq]
    exact this
  | .lst xs, .lst ys, hx, hy => by
    have := D.sis_eqv xs ys hx hy
    simp only [D.eqv, D.py, PyData.eqv, D.lst.injEq]
    exact this
  | .tup xs, .non, _, _ => by simp [D.eqv, D.py, PyData.eqv]
  | .tup xs, .int _, _, _ => by simp [D.eqv, D.py, PyData.eqv]
  | .tup xs, .str _, _, _ => by simp [D.eqv, D.py, PyData.eqv]
  | .tup xs, .lst _, _, _ => by simp [D.eqv, D.py, PyData.eqv]
  | .lst xs, .non, _, _ => by simp [D.eqv, D.py, PyData.eqv]
  | .lst xs, .int _, _, _ => by simp [D.eqv, D.py, PyData.eqv]
  | .lst xs, .str _, _, _ => by simp [D.eqv, D.py, PyData.eqv]
  | .lst xs, .tup _, _, _ => by simp [D.eqv, D.py, PyData.eqv]
  | .tup _, .bl _, _, h => by cases h
  | .tup _, .ty _, _, h => by cases h
  | .tup _, .dK _, _, h => by cases h
  | .tup _, .dT _, _, h => by cases h
  | .tup _, .obj _ _, _, h => by cases h
  | .tup _, .rf _, _, h => by cases h
  | .tup _, .scr _, _, h => by cases h
  | .tup _, .kup _, _, h => by cases h
  | .lst _, .bl _, _, h => by cases h
  | .lst _, .ty _, _, h => by cases h
  | .lst _, .dK _, _, h => by cases h
  | .lst _, .dT _, _, h => by cases h
  | .lst _, .obj _ _, _, h => by cases h
  | .lst _, .rf _, _, h => by cases h
  | .lst _, .scr _, _, h => by cases h
  | .lst _, .kup _, _, h => by cases h
  | .bl _, _, h, _ => by cases h
  | .ty _, _, h, _ => by cases h
  | .dK _, _, h, _ => by cases h
  | .dT _, _, h, _ => by cases h
  | .obj _ _, _, h, _ => by cases h
  | .rf _, _, h, _ => by cases h
  | .scr _, _, h, _ => by cases h
  | .kup _, _, h, _ => by cases h
theorem D.sis_eqv : ∀ xs ys : List D, D.sis xs = true → D.sis ys = true → (PyData.eqvAll (D.pys xs) (D.pys ys) = true ↔ xs = ys)
  | [], [], _, _ => by simp [D.pys, PyData.eqvAll]
  | [], _ :: _, _, _ => by simp [D.pys, PyData.eqvAll]
  | _ :: _, [], _, _ => by simp [D.pys, PyData.eqvAll]
  | x :: xs, y :: ys, hx, hy => by
    simp only [D.sis, Bool.and_eq_true] at hx hy
    have h1 := D.si_eqv x y hx.1 hy.1
    have h2 := D.sis_eqv xs ys hx.2 hy.2
    simp only [D.eqv] at h1
    simp only [D.pys, PyData.eqvAll, Bool.and_eq_true, h1, h2, List.cons.injEq]
end
mutual
def D.dp : D → Nat
  | .tup xs | .lst xs | .kup xs => D.dps xs + 1
  | _ => 0
def D.dps : List D → Nat
  | [] => 0
  | x :: xs => max (D.dp x) (D.dps xs)
end
mutual
theorem D.dp_ok : ∀ d : D, d.py.depth ≤ d.dp
  | .non => by simp [D.py, PyData.depth]
  | .bl _ => by simp [D.py, PyData.depth]
  | .int _ => by simp [D.py, PyData.depth]
  | .str _ => by simp [D.py, PyData.depth]
  | .tup xs => by have := D.dps_ok xs; simp only [D.py, PyData.depth, D.dp]; omega
  | .lst xs => by have := D.dps_ok xs; simp only [D.py, PyData.depth, D.dp]; omega
  | .ty _ => by simp [D.py, PyData.depth]
  | .dK _ => by simp [D.py, PyData.depth]
  | .dT _ => by simp [D.py, PyData.depth]
  | .obj _ _ => by simp [D.py, PyData.depth]
  | .rf _ => by simp [D.py, PyData.depth]
  | .scr _ => by simp [D.py, PyData.depth]
  | .kup xs => by have := D.dps_ok xs; simp only [D.py, PyData.depth, D.dp]; omega
theorem D.dps_ok : ∀ xs : List D, PyData.depthAll (D.pys xs) ≤ D.dps xs
  | [] => by simp [D.pys, PyData.depthAll]
  | x :: xs => by have := D.dp_ok x; have := D.dps_ok xs; simp only [D.pys, PyData.depthAll, D.dps]; omega
end
theorem dps_le {xs : List D} {n : Nat} (h : ∀ x ∈ xs, x.dp ≤ n) : D.dps xs ≤ n := by
  induction xs with
  | nil => simp [D.dps]
  | cons x xs ih =>
    have h1 := h x (by simp)
    have h2 := ih fun y hy => h y (by simp [hy])
    simp only [D.dps]; omega
theorem sis_all {xs : List D} : D.sis xs = true ↔ ∀ x ∈ xs, x.si = true := by
  induction xs with
  | nil => simp [D.sis]
  | cons x xs ih => simp [D.sis, ih]
theorem okE_si {x y : D} (hx : x.si = true) (hy : y.si = true) (hd : x.dp ≤ 60) : okE x y = true := by
  have := D.dp_ok x
  simp only [okE, Bool.and_eq_true, decide_eq_true_eq]
  exact ⟨⟨D.si_pl x hx, D.si_pl y hy⟩, by omega⟩
theorem eqv_si {x y : D} (hx : x.si = true) (hy : y.si = true) : D.eqv x y = true ↔ x = y := D.si_eqv x y hx hy
end DL
end
section
set_option Elab.async false
set_option linter.all false
set_option maxRecDepth 100000
set_option maxHeartbeats 4000000
namespace DL
open PySem PySem.Spec PyProof.Rows L2
abbrev eSet (w : World) : Obj := { cls := .type "set", dict := none, data := .set #[] 0 (.fresh 0 0 (!w.params.followText "set-order")) }
end DL
end
section
set_option Elab.async false
set_option linter.all false
set_option maxRecDepth 100000
set_option maxHeartbeats 4000000
namespace DL
open PySem PySem.Spec PyProof.Rows L2
section
variable {α : Type} [DecidableEq α]
/-- each at its first time -/
def addF (ks : List α) (t : α) : List α := if t ∈ ks then ks else ks ++ [t]
def firstsF (ts : List α) : List α := ts.foldl addF []
theorem addF_nodup {ks : List α} {t : α} (h : ks.Nodup) : (addF ks t).Nodup := by
  unfold addF
  split
  · exact h
  · rename_i ht
    rw [List.nodup_append]
    refine ⟨h, by simp, fun a ha b hb => ?_⟩
    simp at hb
    subst hb
    exact fun e => ht (e ▸ ha)
theorem addF_mem {ks : List α} {t k : α} : k ∈ addF ks t ↔ k ∈ ks ∨ k = t := by
  unfold addF
  split
  · rename_i h
    exact ⟨.inl, fun q => q.elim id fun e => e ▸ h⟩
  · simp
theorem foldl_addF_nodup : ∀ (ts ks : List α), ks.Nodup → (ts.foldl addF ks).Nodup
  | [], _, h => h
  | t :: ts, _, h => foldl_addF_nodup ts _ (addF_nodup h)
theorem foldl_addF_mem {k : α} : ∀ (ts ks : List α), k ∈ ts.foldl addF ks ↔ k ∈ ks ∨ k ∈ ts
  | [], ks => by simp
  | t :: ts, ks => by
    rw [List.foldl_cons, foldl_addF_mem ts, addF_mem, List.mem_cons, or_assoc]
theorem firstsF_nodup (ts : List α) : (firstsF ts).Nodup := foldl_addF_nodup ts [] List.nodup_nil
theorem firstsF_mem {ts : List α} {k : α} : k ∈ firstsF ts ↔ k ∈ ts := by
  unfold firstsF
  rw [foldl_addF_mem]
  simp
end
section
variable {X : Cx} {pos : Pos}
def intsD : List D → Option (List Int)
  | [] => some []
  | .int n :: r => (intsD r).map (n :: ·)
  | _ :: _ => none
/-- each once, in order -/
def isort1 (ns : List Int) : List Int := (firstsF ns).mergeSort (· ≤ ·)
def dSortSet (te : DTE) : DTE := fun S G Q => te S G fun d G1 => match d.cur G1 with
  | .lst xs => (match intsD xs with
    | some ns => ns.length < 64 ∧ Q (.lst ((isort1 ns).map .int)) G1
    | none => False)
  | _ => False
end
end DL
end
section
set_option Elab.async false
set_option linter.all false
set_option maxRecDepth 100000
set_option maxHeartbeats 4000000
namespace DL
open PySem PySem.Spec PyProof.Rows L2
def tkey (e : Int × Value) : Str := match e.2 with | .str k _ => k | _ => ""
def TGood (w : World) (e : Int × Value) : Prop := ∃ k tk, e.2 = Value.str k tk ∧ e.1 = hashStr w k
/-- the set of texts at a: ks its members in some order; the table rises and can be walked -/
def SetS (w : World) (h : Heap) (a : Addr) (ks : List Str) : Prop :=
  ∃ o es ep t, h.get? a = some o ∧ o.ExactSet ∧ o.data = .set es ep t ∧ (∀ e ∈ es.toList, TGood w e) ∧ (es.toList.map tkey).Perm ks ∧ ks.Nodup ∧
    es.size < scanBound ∧ t.fits es.size = true ∧ Ris t.place.toList ∧ (w.params.followText "set-order" = true ∨ t.led = true)
section
variable {P : Program} {w : World} {h h' : Heap} {a : Addr} {ks : List Str}
theorem SetS.keep (R : SetS w h a ks) (k : ∀ o, h.get? a = some o → h'.get? a = some o) : SetS w h' a ks := by
  obtain ⟨o, es, ep, t, q, r⟩ := R
  exact ⟨o, es, ep, t, k o q, r⟩
theorem tgood_elems {l : List (Int × Value)} (g : ∀ e ∈ l, TGood w e) : ElemsOf (strKind P w) l := fun e he => by
  obtain ⟨k, tk, p1, p2⟩ := g e he
  exact ⟨⟨k, by rw [p1]; exact strKind_is P w k tk, p2⟩, by rw [p1] <;> rfl⟩
theorem tgood_is {e : Int × Value} (g : TGood w e) (k : Str) : (strKind P w).is k e.2 = true ↔ tkey e = k := by
  obtain ⟨k0, tk, p1, _⟩ := g
  unfold tkey
  rw [p1]
  refine ⟨fun z => ?_, fun z => z ▸ strKind_is P w k0 tk⟩
  simpa [PySem.strKind, Value.isStrOf] using z
end
section
variable {P : Program} {w : World} {A : Around} {E : Value → Shared → Prop} {s : Shared} {a : Addr} {ks : List Str}
theorem sets_tail {g : Bool → Sem Unit} (zg : ∀ (b : Bool) (z1 : Shared) (Q' : Unit → Shared → Prop), Q' () z1 → wpAny (model P w) A (g b) Q' E z1)
    {o : Obj} {es : Array (Int × Value)} {ep : Nat} {t : SetTable} (zo : s.heap.get? a = some o) (zx : o.ExactSet) (zd : o.data = .set es ep t)
    {fs : Array (Int × Value)} {u : SetTable} (z1 : ∀ e ∈ fs.toList, TGood w e) (z2 : (fs.toList.map tkey).Perm ks) (z3 : ks.Nodup)
    (z4 : fs.size < scanBound) (z5 : u.fits fs.size = true) (z6 : Ris u.place.toList) (z7 : w.params.followText "set-order" = true ∨ u.led = true) {wd : Bool} {R : Option Bool → Shared → Prop}
    (zR : ∀ h', Heap.SameBut a s.heap h' → SetS w h' a ks → R (some true) { s with heap := h' }) :
    wpAny (model P w) A (do
        storeSet a fs u
        if (!wd && u.tooFull) = true then do
            g (relayAll u fs (SetTable.grown fs.size)).2.2
            storeSet a (relayAll u fs (SetTable.grown fs.size)).1 (relayAll u fs (SetTable.grown fs.size)).2.1
            pure (some true)
          else pure (some true)) R E s := by
  refine wpAny_bind (wpAny_storeSet_of zo zd ?_ (fits_of_scanBound z4))
  have zo1 := store_at (es' := fs) (t' := u) zo zd
  have zb1 := Heap.SameBut.update s.heap a (Obj.putSet fs u)
  by_cases zc : (!wd && u.tooFull) = true
  · rw [if_pos zc]
    have y1 := relayAll_perm u fs (SetTable.grown fs.size)
    have y2 := relayAll_fits u fs (SetTable.grown fs.size)
    have y3 := relayAll_ris u fs (SetTable.grown fs.size)
    have y4 := relayAll_led u fs (SetTable.grown fs.size)
    generalize relayAll u fs (SetTable.grown fs.size) = Z at y1 y2 y3 y4 ⊢
    obtain ⟨gs, v, gv⟩ := Z
    dsimp only at y1 y2 y3 y4 ⊢
    have ysz : gs.size = fs.size := by rw [← Array.length_toList, y1.length_eq, Array.length_toList]
    refine wpAny_bind (zg _ _ _ ?_)
    refine wpAny_bind (wpAny_storeSet_of zo1 rfl ?_ (fits_of_scanBound (by rw [ysz]; exact z4)))
    have zo2 := store_at (es' := gs) (t' := v) zo1 rfl
    refine wpAny_pure (zR _ (zb1.trans (Heap.SameBut.update _ a _)) ?_)
    exact ⟨_, gs, _, v, zo2, zx, rfl, fun e he => z1 e (y1.mem_iff.mp he), (y1.map tkey).trans z2, z3, by rw [ysz]; exact z4, y2, y3, z7.imp id fun z => by rw [y4]; exact z⟩
  · rw [if_neg zc]
    exact wpAny_pure (zR _ zb1 ⟨_, fs, _, u, zo1, zx, rfl, z1, z2, z3, z4, z5, z6, z7⟩)
theorem sets_addH {k : Str} {tk : Tok} {Q : Bool → Shared → Prop} (R : SetS w s.heap a ks) (room : ks.length + 1 < scanBound)
    (zQ : ∀ h', Heap.SameBut a s.heap h' → SetS w h' a (addF ks k) → Q (!decide (k ∈ ks)) { s with heap := h' }) :
    wpAny (model P w) A (setAddHashed a (.str k tk) ((strKind P w).hash k)) Q E s := by
  obtain ⟨o, es, ep, t, zo, zx, zd, zg, zp, zn, zb, zf, zr, zl⟩ := R
  have zk : (strKind P w).is k (.str k tk) = true := strKind_is P w k tk
  have zs : (Value.str k tk).scannable = true := rfl
  have ze : ElemsOf (strKind P w) es.toList := tgood_elems zg
  have zsz : es.size = ks.length := by rw [← Array.length_toList, ← List.length_map (f := tkey), zp.length_eq]
  unfold setAddHashed setAddHashedIn
  refine wpAny_holding (wpAny_bind (wpAny_setState_of zo zd zf ?_))
  dsimp only
  rw [byScan_of zs zb ze]
  simp only [↓reduceIte]
  unfold setAddByScan
  refine wpAny_bind ?_
  refine wpAny_bind (wpAny_rule ?_)
  refine wpAny_bind (wpAny_setScan_of zk zo zd zf ze ?_)
  cases zfi : List.findIdx? (fun e => (strKind P w).is k e.2) es.toList with
  | some j =>
    dsimp only
    obtain ⟨hj, pj, _⟩ := List.findIdx?_eq_some_iff_getElem.mp zfi
    have hin : k ∈ ks := zp.mem_iff.mp (List.mem_map.mpr ⟨es.toList[j], List.getElem_mem hj, (tgood_is (P := P) (zg _ (List.getElem_mem hj)) k).1 pj⟩)
    refine wpAny_pure (wpAny_pure ?_)
    have q := zQ s.heap (Heap.SameBut.refl a s.heap) ⟨o, es, ep, t, zo, zx, zd, zg, by rw [show addF ks k = ks from if_pos hin]; exact zp, addF_nodup zn, zb, zf, zr, zl⟩
    rw [decide_eq_true hin] at q
    exact q
  | none =>
    dsimp only
    have hout : k ∉ ks := fun z => by
      obtain ⟨e, he, q⟩ := List.mem_map.mp (zp.mem_iff.mpr z)
      have c := List.findIdx?_eq_none_iff.mp zfi e he
      rw [(tgood_is (P := P) (zg e he) k).2 q] at c
      cases c
    have zgw : ∀ (b : Bool) {z1 : Shared} {Q' : Unit → Shared → Prop}, Q' () z1 → wpAny (model P w) A (match b with | true => rule "set.scan.the-table-gave-way" | false => pure ()) Q' E z1 :=
      fun b z1 Q' q => by cases b <;> first | exact wpAny_pure q | exact wpAny_rule q
    have y1 := layNew_perm t es ((strKind P w).hash k) (.str k tk)
    have y2 := layNew_fits t es ((strKind P w).hash k) (.str k tk)
    have y3 := layNew_ris t es ((strKind P w).hash k) (.str k tk) zr
    have y4 := layNew_led t es ((strKind P w).hash k) (.str k tk)
    generalize layNew t es ((strKind P w).hash k) (.str k tk) = Z at y1 y2 y3 y4 ⊢
    obtain ⟨fs, u, wd, gv⟩ := Z
    dsimp only at y1 y2 y3 y4 ⊢
    rw [Array.toList_push] at y1
    have x1 : ∀ e ∈ fs.toList, TGood w e := fun e he => by
      rcases List.mem_append.mp (y1.mem_iff.mp he) with z | z
      · exact zg e z
      · rw [List.mem_singleton.mp z]; exact ⟨k, tk, rfl, rfl⟩
    have ea : addF ks k = ks ++ [k] := if_neg hout
    have x2 : (fs.toList.map tkey).Perm (addF ks k) := by
      have q := y1.map tkey
      rw [List.map_append] at q
      rw [ea]
      exact q.trans (List.Perm.append_right _ zp)
    have x3 : (addF ks k).Nodup := addF_nodup zn
    have x4 : fs.size < scanBound := by
      rw [← Array.length_toList, y1.length_eq, List.length_append, Array.length_toList, zsz]
      exact room
    have x7 : w.params.followText "set-order" = true ∨ u.led = true := zl.imp id fun z => by rw [y4]; exact z
    have fin : ∀ h', Heap.SameBut a s.heap h' → SetS w h' a (addF ks k) → Q true { s with heap := h' } := fun h' sb r => by
      have q := zQ h' sb r
      rw [decide_eq_false hout] at q
      exact q
    refine wpAny_bind (zgw _ ?_)
    split
    · refine wpAny_bind ?_
      rw [hashByValue_scannable 8 zs]
      refine wpAny_pure ?_
      refine sets_tail ?_ zo zx zd x1 x2 x3 x4 ?_ ?_ ?_ ?_
      · intro b z1 Q' q; cases b <;> first | exact wpAny_pure q | exact wpAny_rule q
      · first | (split <;> first | exact y2 | exact SetTable.fits_plain_off y2) | exact y2
      · first | (split <;> exact y3) | exact y3
      · first | (split <;> exact x7) | exact x7
      · intro h' sb r; dsimp only; exact wpAny_pure (fin h' sb r)
    · refine wpAny_bind (wpAny_pure ?_)
      simp only [↓reduceIte]
      refine sets_tail ?_ zo zx zd x1 x2 x3 x4 y2 y3 x7 ?_
      · intro b z1 Q' q; cases b <;> first | exact wpAny_pure q | exact wpAny_rule q
      · intro h' sb r; dsimp only; exact wpAny_pure (fin h' sb r)
theorem firstsF_snoc {α : Type} [DecidableEq α] (l : List α) (x : α) : firstsF (l ++ [x]) = addF (firstsF l) x := by simp [firstsF]
theorem addF_len {α : Type} [DecidableEq α] (l : List α) (x : α) : (addF l x).length ≤ l.length + 1 := by unfold addF; split <;> simp
theorem firstsF_len {α : Type} [DecidableEq α] (l : List α) : (firstsF l).length ≤ l.length := by
  have : ∀ (l : List α) (acc : List α), (l.foldl addF acc).length ≤ acc.length + l.length := by
    intro l
    induction l with
    | nil => intro acc; simp
    | cons x l ih =>
      intro acc
      have h1 := ih (addF acc x)
      have h2 := addF_len acc x
      simp only [List.foldl_cons, List.length_cons]
      omega
  simpa [firstsF] using this l []
theorem sets_loop {I : Addr} {fp wr : List Addr} {G : Array GenState → Array GenState → Prop} {n : Nat} {Pv : Nat → Value → Prop} {St : Nat → Shared → Prop} {R : Result → Shared → Prop}
    (W : WalksS P w A.in1 I fp wr G n Pv St) (S : Addr) (zS : S ∉ fp) (xs : List Str) (zn : n = xs.length) (zb : xs.length + 1 < scanBound) (zv : ∀ i v, Pv i v → ∃ k t, xs[i]? = some k ∧ v = .str k t) :
    ∀ (k i : Nat) (s : Shared), n - i = k → i ≤ n → St i s → SetS w s.heap S (firstsF (xs.take i)) →
      (∀ s', Moved (S :: wr) G s s' → SetS w s'.heap S (firstsF xs) → R (.ok (.ret .none)) s') →
      codeAny (model P w) A (.builtin "set.update.loop" ⟨[.ref S, .ref I], []⟩) R s := by
  have zSw : S ∉ wr := fun h => zS (W.sub _ h)
  have zsub : ∀ b ∈ wr, b ∈ S :: wr := fun b hb => List.mem_cons_of_mem _ hb
  intro k
  induction k with
  | zero =>
    intro i s e1 e2 st zH zR
    have ei : i = n := by omega
    subst ei
    refine codeAny_builtin F.entry_set_update_loop ?_
    rw [Around.under_plainId F.plain_set_update_loop _]
    show wpAny _ A.in1 (pyNext (.ref I) >>= _) _ _ s
    refine wpAny_bind (W.done s _ _ st fun s' zm => ?_)
    show wpAny _ A.in1 (ret Value.none) _ _ s'
    rw [List.take_of_length_le (by omega)] at zH
    exact wpAny_pure (zR s' (zm.mono zsub) (zH.keep fun o e => zm.heap S o zSw e))
  | succ k ih =>
    intro i s e1 e2 st zH zR
    have hlt : i < n := by omega
    refine codeAny_builtin F.entry_set_update_loop ?_
    rw [Around.under_plainId F.plain_set_update_loop _]
    show wpAny _ A.in1 (pyNext (.ref I) >>= _) _ _ s
    refine wpAny_bind (W.item i s _ _ hlt st fun v s' hP st' zm => ?_)
    obtain ⟨z, t, hz, rfl⟩ := zv i v hP
    have zH' : SetS w s'.heap S (firstsF (xs.take i)) := zH.keep fun o e => zm.heap S o zSw e
    show wpAny _ A.in1 (holding [Value.str z t] (setAdd S (.str z t)) >>= _) _ _ s'
    refine wpAny_bind (wpAny_holding ?_)
    unfold setAdd
    refine wpAny_holding ?_
    refine wpAny_bind ((strKind P w).pyHash (k := z) (strKind_is _ _ _ _) ?_)
    have hfl := firstsF_len (xs.take i)
    rw [List.length_take] at hfl
    refine sets_addH (s := { s' with toks := s'.toks + 1 }) zH' (by omega) fun h' sb zH2 => ?_
    rw [← firstsF_snoc] at zH2
    have et : xs.take (i + 1) = xs.take i ++ [z] := by rw [List.take_add_one, hz]; rfl
    rw [← et] at zH2
    refine wpAny_pure ⟨plainId_quiet F.plain_set_update_loop _, ih (i + 1) _ (by omega) hlt (W.frame _ s' _ _ st' (Nat.le_succ _) fun b hb o e => ?_) zH2 fun s2 zm2 zH3 => ?_⟩
    · rw [sb.2 b (fun h : b = S => zS (by rw [← h]; exact hb))]; exact e
    · refine zR s2 (Moved.trans W.gtrans ((zm.mono zsub).then_heap (Nat.le_succ _) fun b o hb e => ?_) zm2) zH3
      rw [sb.2 b (fun h : b = S => hb (by rw [h]; exact List.mem_cons_self))]; exact e
theorem sets_new {h : Heap} {a : Addr} (ho : h.get? a = some (eSet w)) : SetS w h a (firstsF []) := by
  refine ⟨_, #[], 0, _, ho, ⟨rfl, rfl, rfl⟩, rfl, (fun e he => by simp at he), List.Perm.nil, List.nodup_nil, (by decide), (by rfl), List.Pairwise.nil, ?_⟩
  show _ ∨ (!w.params.followText "set-order") = true
  cases w.params.followText "set-order"
  · exact .inr rfl
  · exact .inl rfl
theorem call_set_lstS {l : Addr} {its : Array Value} (ns : List Str) {Q : Value → Shared → Prop} (zh : A.handled = none) (zl : s.heap.IsList l its) (zit : StrsAre its.toList ns) (zb : ns.length + 1 < scanBound)
    (h : ∀ (h' : Heap) (tk1 : Nat), SetS w h' s.heap.objs.size (firstsF ns) → (∀ b o, s.heap.get? b = some o → h'.get? b = some o) → Q (.ref s.heap.objs.size) { s with heap := h', toks := tk1 }) : wpAny (model P w) A (call (.type "set") [.ref l]) Q E s := by
  have zsz : its.size = ns.length := by
    have q := StrsAre.length zit
    rw [Array.length_toList] at q
    exact q
  obtain ⟨c, tl, zmro⟩ := F.called_set.mro
  have zmade := F.called_set.made
  have zsub := F.called_set.sub
  (refine wpAny_call (codeAny_of_tree ?_))
  (show wpAny _ _ (callAny (.type "set") _) _ _ _)
  (refine wpAny_pure ⟨Code.quiet_builtin _ (by decide +kernel), codeAny_builtin F.entry_type_call ?_⟩)
  (rw [Around.under_plain (weight_type_call_type "set" [.ref l] []) rfl])
  have z1 := F.called_set.notType
  have z2 := F.called_set.canCreate
  have zct := F.typeCall_set_1 (.ref l)
  (repeat (any_goals (first | assumption | wp_step)))
  refine codeAny_mono (code_set_led1 (.ref l) (E := E) (Q₁ := fun ob s1 => ob = .ref s.heap.objs.size ∧ s1 = { s with heap := s.heap.push (eSet w) }) ⟨rfl, rfl⟩) fun r s1 zr => ?_
  cases r with
  | error e => exact zr
  | ok fl1 =>
    cases fl1 with
    | ret ob =>
      obtain ⟨rfl, rfl⟩ := zr
      have zS : (s.heap.push (eSet w)).get? s.heap.objs.size = some (eSet w) := Heap.get?_push_size _ rfl
      have zT : Shared.TypeIs { s with heap := s.heap.push (eSet w) } (.ref s.heap.objs.size) "set" := ⟨_, zS, rfl⟩
      have zli := F.called_set.init.lookup
      have zbi := F.called_set.init.bind (.ref s.heap.objs.size)
      (repeat (any_goals (first | assumption | wp_step)))
      refine codeAny_mono (codeAny_call_builtin (R := wants (fun r s2 => r = .none ∧ ∃ h' tk1, s2 = { s with heap := h', toks := tk1 } ∧ SetS w h' s.heap.objs.size (firstsF ns) ∧
          (∀ b o, s.heap.get? b = some o → h'.get? b = some o)) E) F.called_set.init.plain F.entry_set_init (check_set_init_1 zT ?_)) fun r2 s2 zr2 => ?_
      · obtain ⟨zo, zol, zcl, zn, zdl⟩ := zl
        obtain ⟨zc1, zc2, zc3, zc4⟩ := zo
        simp only at zcl zdl
        subst zcl; subst zdl
        have zol' : (s.heap.push (eSet w)).get? l = some { cls := .type "list", dict := zc2, data := .seq its zn, slots := zc4 } := Heap.get?_push_of_some _ zol
        have zs1 := F.sub_list_set
        have zs2 := F.sub_list_frozenset
        have zne : (Value.type "list" == Value.type "dict") = false := by decide
        have zl1 : (s.heap.push (eSet w)).IsList l its := ⟨_, zol', rfl, zn, rfl⟩
        (unfold Builtin.«set.__init__» noKeywords Builtin.Frozenset.updateFrom)
        generalize zPI : pyIter = ZI
        wp_walk
        subst zPI
        refine wpAny_pyIter_list zl1 ?_
        (refine wpAny_bind (wpAny_runValue ?_))
        have zlS : l < s.heap.objs.size := Heap.lt_size zol
        have zh3 : A.in1.in1.in1.handled = none := by simp [zh]
        have zz1 : (s.heap.push (eSet w)).objs.size = s.heap.objs.size + 1 := Heap.size_push ..
        have zneI : l ≠ (s.heap.push (eSet w)).objs.size := by
          rw [Heap.size_push]; exact Nat.ne_of_lt (Nat.lt_succ_of_lt zlS)
        have zSf : s.heap.objs.size ∉ [(s.heap.push (eSet w)).objs.size, l] := by
          (rw [Heap.size_push]; simp only [List.mem_cons, List.mem_singleton, List.not_mem_nil, or_false, not_or])
          exact ⟨Nat.ne_of_lt (Nat.lt_succ_self _), Nat.ne_of_gt zlS⟩
        have zval : ∀ (i : Nat) (v : Value), its[i]? = some v → ∃ k t, ns[i]? = some k ∧ v = .str k t := fun i v zv => by
          have zi : i < ns.length := by rw [← zsz]; exact (Array.getElem?_eq_some_iff.mp zv).1
          obtain ⟨y, t, e, ey⟩ := StrsAre.item zit i v (by rw [Array.getElem?_toList]; exact zv)
          exact ⟨y, t, ey, e⟩
        refine sets_loop ((Walks.list zh3 _ l zneI its).toS) s.heap.objs.size
          zSf ns zsz zb zval (its.size - 0) 0 _ (by omega) (Nat.zero_le _)
          ⟨⟨_, Heap.get?_push_size _ rfl, rfl, rfl⟩, (zl1.push _)⟩ ?hS0 ?hR
        case hS0 =>
          have zget : ((s.heap.push (eSet w)).push { cls := .type "list_iterator", data := .fields #[.ref l, .int 0 0] }).get? s.heap.objs.size
              = some (eSet w) := Heap.get?_push_of_some _ zS
          exact sets_new zget
        case hR =>
          intro s' zm zS'
          obtain ⟨h', q2, q3, q4, q5⟩ := s'
          have y1 : q2 = s.gens := zm.gens
          have y2 : q3 = s.drawn := zm.drawn
          have y3 : q5 = s.os := zm.os
          subst y1; subst y2; subst y3
          show wpAny _ _ _ _ _ _
          refine wpAny_pure ?_
          (show wpAny _ _ (ret Value.none) _ _ _)
          refine wpAny_pure ⟨rfl, h', q4, rfl, zS', fun b o e => ?_⟩
          have y4 : b < s.heap.objs.size := Heap.lt_size e
          have y5 : b ≠ s.heap.objs.size := Nat.ne_of_lt y4
          have y6 : b ≠ (s.heap.push (eSet w)).objs.size := by
            rw [Heap.size_push]; exact Nat.ne_of_lt (Nat.lt_succ_of_lt y4)
          exact zm.heap b o (by simp only [List.mem_cons, List.mem_singleton, List.not_mem_nil, or_false, not_or]; exact ⟨y5, y6⟩) (Heap.get?_push_of_some _ (Heap.get?_push_of_some _ e))
      · cases r2 with
        | error e => exact zr2
        | ok fl2 =>
          cases fl2 with
          | ret r =>
            obtain ⟨rfl, h', tk1, rfl, zS', zk'⟩ := zr2
            (repeat (any_goals (first | assumption | wp_step)))
            exact h _ _ zS' zk'
          | _ => exact zr2.elim
    | _ => exact zr.elim
theorem strs_of : ∀ (l : List Value), (∀ v ∈ l, ∃ k tk, v = Value.str k tk) → StrsAre l (l.map fun v => tkey (0, v))
  | [], _ => .nil
  | v :: l, h => by
    obtain ⟨k, tk, rfl⟩ := h v List.mem_cons_self
    exact .cons k tk (strs_of l fun u hu => h u (List.mem_cons_of_mem _ hu))
theorem sorted_sets {Q : Value → Shared → Prop} (R : SetS w s.heap a ks) (zh : A.handled = none)
    (zQ : ∀ s' p (out : Array Value) (c : Nat) (ys : List Str), (∀ b o, s.heap.get? b = some o → s'.heap.get? b = some o) → s'.gens = s.gens → s'.os = s.os → s.heap.objs.size ≤ p →
      s'.heap.get? p = some (seqObj "list" out c) → StrsAre out.toList ys → ys.Perm ks → sortedS ys = true → Q (.ref p) s') :
    wpAny (model P w) A (call (.builtin "sorted") [.ref a]) Q E s := by
  obtain ⟨o, es, ep, t, zo, zx, zd, zg, zp, zn, zb, zf, zr, zl⟩ := R
  refine Calls.call_function_entry kind_sorted plain_sorted entry_sorted (args_sorted1 _) ?_
  unfold Builtin.«sorted»
  refine wpAny_bind (m := checkCount "sorted" 1 1 _) (wpAny_pure ?_)
  refine wpAny_bind (collect_set (A := A.in1) zh ⟨o, zo, zx.1, zd⟩ zf zb zr zl fun s1 vs k1 hz g1 o1 pm => ?_)
  have x1 : StrsAre vs (vs.map fun v => tkey (0, v)) := strs_of vs fun v hv => by
    obtain ⟨e, he, q⟩ := List.mem_map.mp (pm.mem_iff.mp hv)
    obtain ⟨k, tk, h1, _⟩ := zg e he
    exact ⟨k, tk, by rw [← q]; exact h1⟩
  have x2 : (vs.map fun v => tkey (0, v)).Perm ks := by
    have q := pm.map fun v => tkey (0, v)
    rw [List.map_map] at q
    exact q.trans zp
  have x3 : vs.length ≤ sizeLine := by
    rw [pm.length_eq, List.length_map, Array.length_toList]
    exact fits_of_scanBound zb
  refine wpAny_bind (wpAny_newList ?_ x3)
  have x4 : (s1.heap.push (seqObj "list" vs.toArray 0)).get? s1.heap.objs.size = some (seqObj "list" vs.toArray 0) := Heap.get?_push_size _ rfl
  refine wpAny_bind (wpAny_holding (wpAny_call_entry slot_list_sort ⟨_, x4, rfl⟩ entry_list_sort (list_sort_treeKAny strKind_oneLt x4 x1.keysOf (fun v₁ v₂ rest e => keyKind_strs (by rw [← e]; exact x1)) x3 fun st' hp hs => ⟨_, rfl, ?_⟩) (args_list_sort _)))
  obtain ⟨ys, y1, y2, y3⟩ := sorted_out_str x1 hp hs
  obtain ⟨c, hc⟩ := sortedHeap_at (vs := vs) (out := (arrOf st').map (·.2)) x4
  refine wpAny_pure ⟨_, rfl, zQ _ s1.heap.objs.size _ c ys (fun b u e => ?_) g1 o1 hz hc y1 (y2.trans x2) y3⟩
  have q := k1 b u e
  have hlt := Heap.lt_size q
  show (sortedHeap (s1.heap.push (seqObj "list" vs.toArray 0)) s1.heap.objs.size vs _).get? b = some u
  rw [sortedHeap_old (Nat.ne_of_lt hlt) (by rw [size_push']; exact Nat.lt_succ_of_lt hlt)]
  exact Heap.get?_push_of_some _ q
end
end DL
end
section
set_option Elab.async false
set_option linter.all false
set_option maxRecDepth 100000
set_option maxHeartbeats 4000000
namespace DL
open PySem PySem.Spec PyProof.Rows L2
section
variable {X : Cx} {pos : Pos}
def dDispT (tk tv : DTE) : DTE := fun S G Q => tk S G fun k G1 => tv S G1 fun v G2 => match k with
  | .tup ds => (match D.keys ds with
    | some ks => ∀ p, G2 p = none → Q (.rf p) (gput G2 p (.dT [(ks, v)]))
    | none => False)
  | _ => False
/-- int(n) -/
def rIntC (ds : List D) (G : GH) (Q : DQ) : Prop := match ds with
  | [.int i] => Q (.int i) G
  | [.bl b] => Q (.int (if b then 1 else 0)) G
  | _ => False
theorem cd_int : CallD X (.type "int") rIntC := by
  refine ⟨_, call_int1, fun F H G vs ds g rs Q' h Q k => ?_⟩
  unfold rIntC at h
  split at h
  · rename_i i
    cases rs with
    | cons r b =>
      cases b
      cases r
      exact .inl ⟨i, rfl, k _ _ _ _ G Go.refl g (.int i) h⟩
  · rename_i b0
    cases rs with
    | cons r b =>
      cases b
      cases r
      exact .inr ⟨b0, rfl, k _ _ _ _ G Go.refl g (.int _) h⟩
  · exact h.elim
end
end DL
end
section
set_option Elab.async false
set_option linter.all false
set_option maxRecDepth 100000
set_option maxHeartbeats 4000000
namespace DL
open PySem PySem.Spec PyProof.Rows L2
structure DK (X : Cx) (kws : List Keyword) (t' : DTA) : Prop where
  ex : ∃ t, PK X kws t ∧ ∀ F H σ S G, Ok X.K F H σ S G → ∀ Q', t' S G Q' → ∀ Q, KpA X.K F H G Q' Q → t σ H Q
/-- the arguments in the order of the parameters -/
def perm {α : Type} (z : α) (js : List Nat) (us ws : List α) : List α := js.map fun j => (us ++ ws)[j]?.getD z
section
variable {X : Cx} {pos kpos : Pos} {nm : Option Str}
theorem dk_nil : DK X [] dNil := ⟨_, pk_nil, fun F H σ S G o Q' h Q k => k F H [] [] G Go.refl o.g .nil h⟩
theorem dk_cons {e : Expr} {kws : List Keyword} {ta : DTE} {tr : DTA} (ha : DE X e ta) (hr : DK X kws tr) : DK X (⟨nm, e, kpos⟩ :: kws) (dCons ta tr) := by
  obtain ⟨t1, p1, r1⟩ := ha.ex
  obtain ⟨t2, p2, r2⟩ := hr.ex
  refine ⟨_, pk_cons p1 p2, fun F H σ S G o Q' h Q k => ?_⟩
  refine r1 F H σ S G o _ h _ fun F1 H1 v d G1 e1 g1 q1 h1 => ?_
  refine r2 F1 H1 σ S G1 (o.go e1 g1) _ h1 _ fun F2 H2 vs ds G2 e2 g2 q2 h2 => ?_
  exact k F2 H2 _ _ G2 (e1.trans e2) g2 (.cons (q1.mono e2.ex) q2) h2
def dCallK (sp : SpD) (n m : Nat) (js : List Nat) (ta tk : DTA) : DTE := fun S G Q => ta S G fun ds G1 => tk S G1 fun zs G2 => (ds.length = n ∧ zs.length = m) ∧ sp (perm .non js ds zs) G2 Q
theorem vals_at {vs : List V} {us : List Value} (r : Vals vs us) (j : Nat) : RelV (vs[j]?.getD .non) (us[j]?.getD .none) := by
  induction r generalizing j with
  | nil => rfl
  | cons a t ih => cases j with
    | zero => exact a
    | succ j => simpa using ih j
theorem reps_at {K : PySem.W.Frag} {F : Hp} {vs : List V} {ds : List D} (r : Reps K F vs ds) (j : Nat) : Rep K F (vs[j]?.getD .non) (ds[j]?.getD .non) := by
  induction ds generalizing vs j with
  | nil => cases r; exact .non
  | cons d ds ih => cases r with
    | cons a t => cases j with
      | zero => exact a
      | succ j => simpa using ih t j
theorem vals_perm {vs zs : List V} {us ws : List Value} (r : Vals vs us) (q : Vals zs ws) : ∀ js : List Nat, Vals (perm .non js vs zs) (perm .none js us ws)
  | [] => .nil
  | j :: js => .cons (vals_at (r.append q) j) (vals_perm r q js)
theorem reps_app {K : PySem.W.Frag} {F : Hp} : ∀ {vs zs : List V} {ds es : List D}, Reps K F vs ds → Reps K F zs es → Reps K F (vs ++ zs) (ds ++ es)
  | _, _, _, _, .nil, q => q
  | _, _, _, _, .cons a t, q => .cons a (reps_app t q)
theorem reps_perm {K : PySem.W.Frag} {F : Hp} {vs zs : List V} {ds es : List D} (r : Reps K F vs ds) (q : Reps K F zs es) : ∀ js : List Nat, Reps K F (perm .non js vs zs) (perm .non js ds es)
  | [] => .nil
  | j :: js => .cons (reps_at (reps_app r q) j) (reps_perm r q js)
end
end DL
end
section
set_option Elab.async false
set_option linter.all false
set_option maxRecDepth 100000
set_option maxHeartbeats 4000000
namespace DL
open PySem PySem.Spec PyProof.Rows L2
def keyD : Key → D
  | .inl n => .int n
  | .inr x => .str x
def ktD (ks : List Key) : D := .tup (ks.map keyD)
theorem keyD_rep {K : PySem.W.Frag} {F : Hp} (k : Key) : Rep K F (kV k) (keyD k) := by
  cases k with
  | inl n => exact .int n
  | inr x => exact .str x
theorem keysD_rep {K : PySem.W.Frag} {F : Hp} : ∀ ks : List Key, Reps K F (ks.map kV) (ks.map keyD)
  | [] => .nil
  | k :: ks => .cons (keyD_rep k) (keysD_rep ks)
theorem keyD_key (k : Key) : (keyD k).key = some k := by cases k <;> rfl
theorem keysD_keys : ∀ ks : List Key, D.keys (ks.map keyD) = some ks
  | [] => rfl
  | k :: ks => by simp [D.keys, keyD_key, keysD_keys ks]
section
variable {X : Cx} {pos : Pos} {tg : Expr}
def diKeysT (te : DTE) : DTI := fun S G R => te S G fun d G1 => match d with
  | .rf p => (match G1 p with
    | some (.lkT o kvs kds) => R (kds.map fun kv => ktD kv.1) (fun G => G p = some (.lkT o kvs kds)) G1
    | _ => False)
  | _ => False
end
end DL
end
section
set_option Elab.async false
set_option linter.all false
set_option maxRecDepth 100000
set_option maxHeartbeats 4000000
namespace DL
open PySem PySem.Spec PyProof.Rows L2
structure PT where
  p : Addr
  k : List Key
  b : Addr
  v : V
def mergeT (kvs : List (List Key × V)) (es : List PT) : List (List Key × V) := es.foldl (fun acc e => putK acc e.k e.v) kvs
section
variable {X : Cx} {pos : Pos}
theorem pts_of {pins : List (Addr × Obj)} {σ : L2.St} {H : Hp} {s : Shared} (I : Inv X pins σ H s) : ∀ {es : List PT}, (∀ e ∈ es, H e.p = some (.tup [.ref e.b, e.v])) →
    ∃ ws : List (PT × Value), ws.map (·.1) = es ∧ ∀ x ∈ ws, IsTup s.heap x.1.p #[.ref x.1.b, x.2] ∧ RelV x.1.v x.2
  | [], _ => ⟨[], rfl, fun x hx => by simp at hx⟩
  | e :: es, h => by
    obtain ⟨ws, hw, hx⟩ := pts_of I (es := es) fun y hy => h y (by simp [hy])
    obtain ⟨its, rv, ht, _⟩ := I.tuple (.inl (.inl (h e (by simp))))
    obtain ⟨u, y, ei, ru, ry⟩ := vals2 rv
    subst ei
    cases (show u = Value.ref e.b from ru)
    refine ⟨(e, y) :: ws, by simp [hw], fun x hm => ?_⟩
    rcases List.mem_cons.mp hm with rfl | hm
    · exact ⟨ht, ry⟩
    · exact hx x hm
theorem KT_all {H : Hp} : ∀ {ws : List (PT × Value)} {kvs : List (List Key × V)} {xs : List (List Key × Addr × Value)}, KT H kvs xs → (∀ x ∈ ws, H x.1.b = some (.tup (x.1.k.map kV)) ∧ RelV x.1.v x.2) →
    KT H (mergeT kvs (ws.map (·.1))) (storedAllH xs (ws.map fun x => (x.1.k, x.1.b, x.2)))
  | [], kvs, xs, r, _ => r
  | w :: ws, kvs, xs, r, h => by
    obtain ⟨h1, h2⟩ := h w (by simp)
    exact KT_all (ws := ws) (r.put w.1.k h1 h2) fun x hx => h x (by simp [hx])
theorem mergeT_len : ∀ (es : List PT) (kvs : List (List Key × V)), (mergeT kvs es).length ≤ kvs.length + es.length
  | [], kvs => by simp [mergeT]
  | e :: es, kvs => by
    have h1 := mergeT_len es (putK kvs e.k e.v)
    have h2 := length_putK kvs e.k e.v
    have : mergeT kvs (e :: es) = mergeT (putK kvs e.k e.v) es := rfl
    rw [this, List.length_cons]
    omega
theorem cr_dictT (hc : X.calm = true) (hu : X.A.units + 100 < cLine) : CallR X (.type "dict") (fun xs H Q => ∃ (a : Addr) (es : List PT), xs = [.ref a] ∧ SqL X.K H a (es.map fun e => V.ref e.p) ∧ (∀ e ∈ es, H e.p = some (.tup [.ref e.b, e.v])) ∧ (∀ e ∈ es, H e.b = some (.tup (e.k.map kV))) ∧
    ∀ p, H p = none → Q (.ref p) (upd H p (.dT (mergeT [] es)))) := by
  intro pins s σ H xs us Q I r q
  obtain ⟨a, es, ex, hq, hp, hb, q⟩ := q
  subst ex
  obtain ⟨u, eu, rx⟩ := vals1 r
  subst eu
  cases rx
  obtain ⟨its, rv, pl, hz⟩ := I.list hq
  have ei := refs_at (ps := es.map (·.p)) (by rw [List.map_map]; exact rv)
  subst ei
  rw [List.length_map] at hz
  obtain ⟨ws, hw, hx⟩ := pts_of I hp
  subst hw
  obtain ⟨o, n, ho, hcl, hd, hdat⟩ := pl
  have hitems : PairItems s.heap (((ws.map (·.1)).map (·.p)).map Value.ref).toArray (fun j => ((ws.map fun x => x.1.p)[j]?).getD 0) (ws.map fun x => (Value.ref x.1.b, x.2)) := by
    refine ⟨by simp, fun j k v hj => ?_⟩
    rw [List.getElem?_map] at hj
    cases e : ws[j]? with
    | none => rw [e] at hj; cases hj
    | some x =>
      rw [e] at hj; cases hj
      refine ⟨by simp [e], .inl ?_⟩
      have hh := (hx x (List.mem_of_getElem? e)).1
      have e' : ((ws.map fun x => x.1.p)[j]?).getD 0 = x.1.p := by simp [e]
      show s.heap.IsTuple (((ws.map fun x => x.1.p)[j]?).getD 0) _
      rw [e']
      exact hh
  refine call_dict_pairsH (knd := tupleKind (mixKind X.prog X.w)) (ps := ws.map fun x => (x.1.k, x.1.b, x.2)) (PairArg.list a _ _ _) (I.ok.hd hc) (by show X.A.in1.in1.units < cLine; simp; omega) ⟨⟨o, n, ho, hcl, hd, hdat⟩, hitems⟩ ⟨by simp, fun i key v hr => ?_⟩ (fun h' hk x hxm => ?_) (by simpa using hz) fun h' tk hd' k => ?_
  · rw [PairRel, List.getElem?_map] at hr
    cases e : ws[i]? with
    | none => rw [e] at hr; cases hr
    | some x => rw [e] at hr; cases hr; exact ⟨x.1.k, x.1.b, by simp [e], rfl⟩
  · obtain ⟨y, hy, rfl⟩ := List.mem_map.mp hxm
    have hby := hb y.1 (List.mem_map.mpr ⟨y, hy, rfl⟩)
    obtain ⟨oo, items, n2, h1, h2, h3, h4⟩ := key_of I.hok hby
    have hlt := Heap.lt_size h1
    exact ⟨oo, items, n2, hk _ _ (Nat.ne_of_lt hlt) (by simp) h1, h2, h3, h4⟩
  · have hm : (s.heap.objs.size == sysModules) = false := beq_eq_false_iff_ne.mpr (Nat.ne_of_gt I.big)
    have hn := I.hok.fresh (Nat.le_refl s.heap.objs.size)
    have hlen : (mergeT [] (ws.map (·.1))).length ≤ sizeLine := by
      have := mergeT_len (ws.map (·.1)) []
      simp at this hz
      simp
      omega
    obtain ⟨q', es', ep, hq', h2, h3, h4, _, h5⟩ := hd'
    have kt : KT H (mergeT [] (ws.map (·.1))) (storedAllH [] (ws.map fun x => (x.1.k, x.1.b, x.2))) := KT_all .nil fun x hxm => ⟨hb x.1 (List.mem_map.mpr ⟨x, hxm, rfl⟩), (hx x hxm).2⟩
    refine ⟨.ref s.heap.objs.size, upd H s.heap.objs.size (.dT (mergeT [] (ws.map (·.1)))), I.laid (t' := tk) (fun b ob e => k b ob (by simp) e) (Nat.le_refl _) ⟨hlen, hm, _, kt.keeps fun c ys ec => ?_, q', es', ep, hq', h2, h3, h4, h5⟩, rfl, q _ hn⟩
    rw [upd_ne (ne_of_none ec hn)]
    exact ec
/-- pairs with tuple keys -/
def prsT : List D → Option (List (List Key × D))
  | [] => some []
  | .tup [.tup ks, v] :: r => (match D.keys ks, prsT r with
    | some k, some m => some ((k, v) :: m)
    | _, _ => none)
  | _ :: _ => none
def mergeDT (kds more : List (List Key × D)) : List (List Key × D) := more.foldl (fun acc kv => putD acc kv.1 kv.2) kds
theorem prsT_rep {K : PySem.W.Frag} {F : Hp} : ∀ {xs : List D} {ms : List (List Key × D)} {vs : List V}, prsT xs = some ms → Reps K F vs xs →
    ∃ es : List PT, vs = es.map (fun e => V.ref e.p) ∧ (∀ e ∈ es, F e.p = some (.tup [.ref e.b, e.v])) ∧ (∀ e ∈ es, F e.b = some (.tup (e.k.map kV))) ∧ es.map (·.k) = ms.map (·.1) ∧ Reps K F (es.map (·.v)) (ms.map (·.2))
  | [], ms, _, h, .nil => by
    cases h
    exact ⟨[], rfl, fun e he => by simp at he, fun e he => by simp at he, rfl, .nil⟩
  | x :: r, ms, _, h, .cons a b => by
    unfold prsT at h
    split at h
    · rename_i h1; cases h1
    · rename_i ks v r' h1
      cases h1
      split at h
      · rename_i k m ek em
        cases h
        obtain ⟨es, h2, h3, h4, h5, h6⟩ := prsT_rep em b
        cases a with
        | tup ha rs =>
          rename_i p ws
          cases rs with
          | cons r1 r2 =>
            cases r2 with
            | cons r3 r4 =>
              cases r4
              cases r1 with
              | tup hb rk =>
                rename_i bb wk
                have hk := rk.keys ek
                subst hk
                rename_i vv
                refine ⟨⟨p, k, bb, _⟩ :: es, by rw [h2]; rfl, fun e he => ?_, fun e he => ?_, by simp [h5], .cons r3 h6⟩
                · rcases List.mem_cons.mp he with rfl | he
                  · exact ha
                  · exact h3 e he
                · rcases List.mem_cons.mp he with rfl | he
                  · exact hb
                  · exact h4 e he
      · cases h
    · cases h
theorem KR_mergeT {K : PySem.W.Frag} {F : Hp} : ∀ {es : List PT} {ms : List (List Key × D)} {kvs : List (List Key × V)} {kds : List (List Key × D)}, es.map (·.k) = ms.map (·.1) → Reps K F (es.map (·.v)) (ms.map (·.2)) → KR K F kvs kds → KR K F (mergeT kvs es) (mergeDT kds ms)
  | [], [], kvs, kds, _, _, r => r
  | e :: es, m :: ms, kvs, kds, h, rs, r => by
    simp only [List.map_cons, List.cons.injEq] at h
    cases rs with
    | cons a b =>
      have : mergeT kvs (e :: es) = mergeT (putK kvs e.k e.v) es := rfl
      rw [this]
      show KR K F _ (mergeDT (putD kds m.1 m.2) ms)
      refine KR_mergeT h.2 b ?_
      rw [h.1]
      exact r.put a
  | [], _ :: _, _, _, h, _, _ => by simp at h
  | _ :: _, [], _, _, h, _, _ => by simp at h
def rDictT (ds : List D) (G : GH) (Q : DQ) : Prop := match ds with
  | [d] => (match d.cur G with
    | .lst xs => (match prsT xs with
      | some ms => Q (.dT (mergeDT [] ms)) G
      | none => False)
    | _ => False)
  | _ => False
theorem cd_dictT (hc : X.calm = true) (hu : X.A.units + 100 < cLine) : CallD X (.type "dict") rDictT := by
  refine ⟨_, cr_dictT hc hu, fun F H G vs ds g rs Q' h Q k => ?_⟩
  unfold rDictT at h
  split at h
  · rename_i d
    cases rs with
    | cons r b =>
      cases b
      split at h
      · rename_i xs ex
        split at h
        · rename_i ms em
          obtain ⟨a, ws, rfl, ha, rw'⟩ := cur_list g r ex
          obtain ⟨es, rfl, h3, h4, h5, h6⟩ := prsT_rep em rw'
          refine ⟨a, es, rfl, .inl (.inl ha), fun e he => g.ex _ _ (h3 e he), fun e he => g.ex _ _ (h4 e he), fun p hp => ?_⟩
          have gr := Gr.new (u := .dT (mergeT [] es)) g.ex hp
          have kr : KR X.K F (mergeT [] es) (mergeDT [] ms) := KR_mergeT h5 h6 ⟨rfl, .nil⟩
          have kr2 := kr.mono gr.ff
          exact k _ _ _ _ G gr.go (g.grow gr) (.dT upd_same kr2.ks kr2.vs) h
        · exact h.elim
      · exact h.elim
  · exact h.elim
end
end DL
end
section
set_option Elab.async false
set_option linter.all false
set_option maxRecDepth 100000
set_option maxHeartbeats 4000000
namespace DL
open PySem PySem.Spec PyProof.Rows L2
/-- what is known of the heap by G is known by some G' x, too -/
def Cv (G : GH) {α : Type} (P : α → Prop) (G' : α → GH) : Prop := ∀ K F H, Gok K F H G → ∃ x, P x ∧ Gok K F H (G' x) ∧ ∀ b, G b = none → G' x b = none
def Cv1 (G G' : GH) : Prop := ∀ K F H, Gok K F H G → Gok K F H G' ∧ ∀ b, G b = none → G' b = none
theorem go_view {F H : Hp} {G G' : GH} (h : ∀ b, G b = none → G' b = none) : Go F H G F H G' := ⟨Ex.refl F, fun b u e g => ⟨e, h b g⟩, fun _ _ _ _ f _ => f, fun _ z => z⟩
section
variable {X : Cx} {pos : Pos}
def dIn (t : DTS) : DTS := fun D' S G => ∃ (α : Type) (P : α → Prop) (G' : α → GH), Cv G P G' ∧ ∀ x, P x → t D' S (G' x)
theorem dps_in {body : List Stmt} {t' : DTS} (h : DPs X body t') : DPs X body (dIn t') := by
  obtain ⟨t, p, r⟩ := h.ex
  refine ⟨t, p, fun F H σ S G o D' h D0 k => ?_⟩
  obtain ⟨α, P, G', cv, h⟩ := h
  obtain ⟨x, px, g, fr⟩ := cv X.K F H o.g
  exact r F H σ S (G' x) ⟨g, o.s⟩ D' (h x px) D0 (k.mono (go_view fr))
def outE (D' : DEnds) : DEnds := { nx := fun S G => ∃ G2, Cv1 G G2 ∧ D'.nx S G2, rt := fun d G => ∃ G2, Cv1 G G2 ∧ D'.rt d G2, bk := fun S G => ∃ G2, Cv1 G G2 ∧ D'.bk S G2, ct := fun S G => ∃ G2, Cv1 G G2 ∧ D'.ct S G2 }
def dOut (t : DTS) : DTS := fun D' S G => t (outE D') S G
theorem dps_out {body : List Stmt} {t' : DTS} (h : DPs X body t') : DPs X body (dOut t') := by
  obtain ⟨t, p, r⟩ := h.ex
  refine ⟨t, p, fun F H σ S G o D' h D0 k => r F H σ S G o (outE D') h D0 ⟨?_, ?_, ?_, ?_⟩⟩
  · rintro F1 H1 σ1 S1 G1 e1 o1 ⟨G2, cv, q⟩
    obtain ⟨g, fr⟩ := cv X.K F1 H1 o1.g
    exact k.nx F1 H1 σ1 S1 G2 (e1.trans (go_view fr)) ⟨g, o1.s⟩ q
  · rintro F1 H1 v d G1 e1 g1 r1 ⟨G2, cv, q⟩
    obtain ⟨g, fr⟩ := cv X.K F1 H1 g1
    exact k.rt F1 H1 v d G2 (e1.trans (go_view fr)) g r1 q
  · rintro F1 H1 σ1 S1 G1 e1 o1 ⟨G2, cv, q⟩
    obtain ⟨g, fr⟩ := cv X.K F1 H1 o1.g
    exact k.bk F1 H1 σ1 S1 G2 (e1.trans (go_view fr)) ⟨g, o1.s⟩ q
  · rintro F1 H1 σ1 S1 G1 e1 o1 ⟨G2, cv, q⟩
    obtain ⟨g, fr⟩ := cv X.K F1 H1 o1.g
    exact k.ct F1 H1 σ1 S1 G2 (e1.trans (go_view fr)) ⟨g, o1.s⟩ q
end
/-- what may stand in an open deck -/
structure Deck where
  c : Addr
  g : Int
  t : Int
  ns : List Int
def Deck.ok (x : Deck) (n : Nat) : Prop := 0 ≤ x.t ∧ x.t + n ≤ 1099511627776 ∧ 0 ≤ x.g ∧ x.g < 4294967296 ∧ x.ns.length ≤ 63
def openG (G : GH) (p : Addr) (k1 k2 k3 : Str) (x : Deck) : GH := gput (gput G x.c (.lst (x.ns.map .int))) p (.dK [(.inr k1, .rf x.c), (.inr k2, .int x.g), (.inr k3, .int x.t)])
theorem MRep.other {K : PySem.W.Frag} {F H : Hp} {G G' : GH} {a : Addr} {o : MO} (h : MRep K F H G a o) (nd : ∀ k1 k2 k3 n, o ≠ .deck k1 k2 k3 n) : MRep K F H G' a o := by
  cases o with
  | deck k1 k2 k3 n => exact absurd rfl (nd k1 k2 k3 n)
  | _ => exact h
theorem ints_vs {K : PySem.W.Frag} {F : Hp} {ns : List Int} {vs : List V} (r : Reps K F vs (ns.map .int)) : vs = ns.map V.int := by
  induction ns generalizing vs with
  | nil => cases r; rfl
  | cons n ns ih => cases r with
    | cons a b => cases a; rw [ih b]; rfl
theorem deck_open {G : GH} {p : Addr} {k1 k2 k3 : Str} {n : Nat} (h : G p = some (.deck k1 k2 k3 n)) : Cv G (fun x : Deck => x.ok n ∧ G x.c = some .dcell ∧ x.c ≠ p ∧ ∀ a, a ≠ p → ∀ j1 j2 j3 m, G a ≠ some (.deck j1 j2 j3 m)) (openG G p k1 k2 k3) := by
  intro K F H g
  obtain ⟨fp, c, g0, t, ns, hp, hc, gc, h1, h2, h3, h4, h5⟩ := g.at_ p _ h
  have ne : c ≠ p := fun z => by rw [z, h] at gc; cases gc
  refine ⟨⟨c, g0, t, ns⟩, ⟨⟨h1, h2, h3, h4, h5⟩, gc, ne, fun a na j1 j2 j3 m z => na (g.one a p _ _ _ _ _ _ _ _ z h)⟩, ⟨g.ex, fun a o e => ?_, fun a b j1 j2 j3 m i1 i2 i3 m2 e1 e2 => ?_⟩, fun b hb => ?_⟩
  · unfold openG at e
    by_cases q : a = p
    · subst q
      rw [gput_same] at e; cases e
      exact ⟨fp, _, hp, rfl, .cons (.rf c) (.cons (.int _) (.cons (.int _) .nil))⟩
    · rw [gput_ne q] at e
      by_cases q2 : a = c
      · subst q2
        rw [gput_same] at e; cases e
        exact ⟨(g.at_ a _ gc).1, _, hc, Reps.ints ns⟩
      · rw [gput_ne q2] at e
        obtain ⟨f, m⟩ := g.at_ a o e
        refine ⟨f, m.other fun j1 j2 j3 m z => ?_⟩
        subst z
        exact q (g.one a p _ _ _ _ _ _ _ _ e h)
  · have n1 : ∀ a j1 j2 j3 m, openG G p k1 k2 k3 ⟨c, g0, t, ns⟩ a ≠ some (.deck j1 j2 j3 m) := fun a j1 j2 j3 m z => by
      unfold openG at z
      by_cases q : a = p
      · subst q; rw [gput_same] at z; cases z
      · rw [gput_ne q] at z
        by_cases q2 : a = c
        · subst q2; rw [gput_same] at z; cases z
        · rw [gput_ne q2] at z
          exact q (g.one a p _ _ _ _ _ _ _ _ z h)
    exact absurd e1 (n1 a j1 j2 j3 m)
  · have q : b ≠ p := fun z => by rw [z, h] at hb; cases hb
    have q2 : b ≠ c := fun z => by rw [z, gc] at hb; cases hb
    unfold openG
    rw [gput_ne q, gput_ne q2]; exact hb
def NoDeck (G : GH) : Prop := ∀ a k1 k2 k3 n, G a ≠ some (.deck k1 k2 k3 n)
/-- shut: budget n -/
def shutG (G : GH) (p c : Addr) (k1 k2 k3 : Str) (n : Nat) : GH := gput (gput G c .dcell) p (.deck k1 k2 k3 n)
theorem deck_shut {G : GH} {p : Addr} {k1 k2 k3 : Str} {n : Nat} {x : Deck} (nd : NoDeck G) (hp : G p = some (.dK [(.inr k1, .rf x.c), (.inr k2, .int x.g), (.inr k3, .int x.t)])) (hc : G x.c = some (.lst (x.ns.map .int))) (ok : x.ok n) : Cv1 G (shutG G p x.c k1 k2 k3 n) := by
  intro K F H g
  obtain ⟨fp, kvs, e1, e2, e3⟩ := g.at_ p _ hp
  obtain ⟨fc, vs, f1, f2⟩ := g.at_ x.c _ hc
  have ne : x.c ≠ p := fun z => by rw [z, hp] at hc; cases hc
  have ev := ints_vs f2
  subst ev
  have ek : kvs = [(.inr k1, .ref x.c), (.inr k2, .int x.g), (.inr k3, .int x.t)] := by
    match kvs, e2, e3 with
    | [(a1, b1), (a2, b2), (a3, b3)], e2, e3 =>
      simp only [List.map_cons, List.map_nil, List.cons.injEq, and_true] at e2
      obtain ⟨rfl, rfl, rfl⟩ := e2
      cases e3 with
      | cons r1 r2 => cases r2 with
        | cons r3 r4 => cases r4 with
          | cons r5 r6 => cases r1; cases r3; cases r5; rfl
  subst ek
  obtain ⟨o1, o2, o3, o4, o5⟩ := ok
  refine ⟨⟨g.ex, fun a o e => ?_, fun a b j1 j2 j3 m i1 i2 i3 m2 z1 z2 => ?_⟩, fun b hb => ?_⟩
  · unfold shutG at e
    by_cases q : a = p
    · subst q
      rw [gput_same] at e; cases e
      refine ⟨fp, x.c, x.g, x.t, x.ns, e1, f1, ?_, o1, o2, o3, o4, o5⟩
      unfold shutG
      rw [gput_ne ne, gput_same]
    · rw [gput_ne q] at e
      by_cases q2 : a = x.c
      · subst q2
        rw [gput_same] at e; cases e
        exact ⟨fc, _, f1⟩
      · rw [gput_ne q2] at e
        obtain ⟨f, m⟩ := g.at_ a o e
        exact ⟨f, m.other fun j1 j2 j3 m z => nd a j1 j2 j3 m (z ▸ e)⟩
  · have n1 : ∀ a j1 j2 j3 m, shutG G p x.c k1 k2 k3 n a = some (.deck j1 j2 j3 m) → a = p := fun a j1 j2 j3 m z => by
      unfold shutG at z
      by_cases q : a = p
      · exact q
      · rw [gput_ne q] at z
        by_cases q2 : a = x.c
        · subst q2; rw [gput_same] at z; cases z
        · rw [gput_ne q2] at z; exact absurd z (nd a j1 j2 j3 m)
    rw [n1 _ _ _ _ _ z1, n1 _ _ _ _ _ z2]
  · have q : b ≠ p := fun z => by rw [z, hp] at hb; cases hb
    have q2 : b ≠ x.c := fun z => by rw [z, hc] at hb; cases hb
    unfold shutG
    rw [gput_ne q, gput_ne q2]; exact hb
/-- one draw taken -/
theorem shut_open {G : GH} {p c : Addr} {k1 k2 k3 : Str} {m n : Nat} {o1 o2 : MO} (h : G p = some (.deck k1 k2 k3 m)) (hc : G c = some .dcell) (ne : c ≠ p) : shutG (gput (gput G c o1) p o2) p c k1 k2 k3 n = gput G p (.deck k1 k2 k3 n) := by
  funext b
  unfold shutG
  by_cases q : b = p
  · subst q; rw [gput_same, gput_same]
  · rw [gput_ne q, gput_ne q]
    by_cases q2 : b = c
    · subst q2; rw [gput_same, hc]
    · rw [gput_ne q2, gput_ne q, gput_ne q2]
theorem open_nodeck {G : GH} {p : Addr} {k1 k2 k3 : Str} {x : Deck} (nd : ∀ a, a ≠ p → ∀ j1 j2 j3 m, G a ≠ some (.deck j1 j2 j3 m)) : NoDeck (openG G p k1 k2 k3 x) := by
  intro a j1 j2 j3 m z
  unfold openG at z
  by_cases q : a = p
  · subst q; rw [gput_same] at z; cases z
  · rw [gput_ne q] at z
    by_cases q2 : a = x.c
    · subst q2; rw [gput_same] at z; cases z
    · rw [gput_ne q2] at z; exact nd a q j1 j2 j3 m z
theorem deck_close {G : GH} {p : Addr} {k1 k2 k3 : Str} {m n : Nat} {x : Deck} (h : G p = some (.deck k1 k2 k3 m)) (gc : G x.c = some .dcell) (ne : x.c ≠ p) (nd : ∀ a, a ≠ p → ∀ j1 j2 j3 m, G a ≠ some (.deck j1 j2 j3 m)) (ok : x.ok n) :
    Cv1 (openG G p k1 k2 k3 x) (gput G p (.deck k1 k2 k3 n)) := by
  have := deck_shut (G := openG G p k1 k2 k3 x) (p := p) (k1 := k1) (k2 := k2) (k3 := k3) (n := n) (x := x) (open_nodeck nd) gput_same (by unfold openG; rw [gput_ne ne, gput_same]) ok
  unfold openG at this
  rw [shut_open h gc ne] at this
  exact this
end DL
end
section
set_option Elab.async false
set_option linter.all false
set_option maxRecDepth 100000
namespace DL
open PySem PySem.Spec PyProof.Rows L2
theorem dx2 : (∀ (tk tv : DTE) (S : DS) (G : GH) (Q : DQ), dDispT tk tv S G Q = (tk S G fun k G1 => tv S G1 fun v G2 => match k with
    | .tup ds => (match D.keys ds with
      | some ks => ∀ p, G2 p = none → Q (.rf p) (gput G2 p (.dT [(ks, v)]))
      | none => False)
    | _ => False)) ∧
  (∀ (te : DTE) (S : DS) (G : GH) (Q : DQ), dSortSet te S G Q = (te S G fun d G1 => match d.cur G1 with
    | .lst xs => (match intsD xs with
      | some ns => ns.length < 64 ∧ Q (.lst ((isort1 ns).map .int)) G1
      | none => False)
    | _ => False)) ∧
  (∀ (sp : SpD) (n m : Nat) (js : List Nat) (ta tk : DTA) (S : DS) (G : GH) (Q : DQ), dCallK sp n m js ta tk S G Q = (ta S G fun ds G1 => tk S G1 fun zs G2 => (ds.length = n ∧ zs.length = m) ∧ sp (perm .non js ds zs) G2 Q)) ∧
  (∀ (t : DTS) (D' : DEnds) (S : DS) (G : GH), dOut t D' S G = t (outE D') S G) ∧
  (∀ (te : DTE) (S : DS) (G : GH) (R : List D → (GH → Prop) → GH → Prop), diKeysT te S G R = (te S G fun d G1 => match d with
    | .rf p => (match G1 p with
      | some (.lkT o kvs kds) => R (kds.map fun kv => ktD kv.1) (fun G => G p = some (.lkT o kvs kds)) G1
      | _ => False)
    | _ => False)) := ⟨fun _ _ _ _ _ => rfl, fun _ _ _ _ => rfl, fun _ _ _ _ _ _ _ _ _ => rfl, fun _ _ _ _ => rfl, fun _ _ _ _ => rfl⟩
theorem gput_comm {G : GH} {a b : Addr} {o o' : MO} (h : a ≠ b) : gput (gput G a o) b o' = gput (gput G b o') a o := by
  funext c
  by_cases q : c = a
  · subst q; rw [gput_ne h, gput_same, gput_same]
  · rw [gput_ne q]
    by_cases q2 : c = b
    · subst q2; rw [gput_same, gput_same]
    · rw [gput_ne q2, gput_ne q2, gput_ne q]
/-- a thing changed under another -/
theorem gput_under {G : GH} {a b : Addr} {o o' o2 : MO} (h : a ≠ b) : gput (gput (gput G a o) b o') a o2 = gput (gput G a o2) b o' := by
  rw [gput_comm h, gput_gput, ← gput_comm h]
theorem item_lst (xs : List D) (n : Int) : D.item (.lst xs) (.int n) = atI xs n := rfl
structure Mak (P : Program) (w : World) (K : PySem.W.Frag) (mg : Str → Option Value) (base : Heap) (x : Str) (C : Addr) (k : Nat) (ps : List Str) (sp : SpD) : Prop where
  ex : ∃ f fd, Mk K C f ∧ FnG P w K mg base CX0 k f fd ps (SpOf K sp) ∧ mg x = some (.ref C) ∧ Binds K fd ps []
theorem de_mak {X : Cx} {pos : Pos} {x : Str} {C : Addr} {k : Nat} {ps : List Str} {sp : SpD} {p : Pos} {e : Expr} {es : List Expr} {ta : DTA} (c : Mak X.prog X.w X.K X.mg X.base x C k ps sp) (hA : X.A.guards = some []) (hr : Room (k + 1) X.A) (ha : DA X (e :: es) ta) (hg : Gl X x := by rfl) (hdb : (x == ("__debug__" : Str)) = false := by decide)
    (he : starEach (e :: es) X.env = (false, eval e X.env) :: starEach es X.env := by rfl) (hpl : (backTo pos (starEach es X.env)).any (·.1) = false := by rfl) : DE X (.Call (.Name x p) (e :: es) [] pos) (dCold (dMake C sp ta)) := by
  obtain ⟨f, fd, M, Fn, hm, hb⟩ := c.ex
  exact de_cold (de_make M Fn hA hr hg hm hb ha hdb he hpl)
/-- the __init__ of the class at C -/
structure DefI (K : PySem.W.Frag) (C : Addr) (qual : Str) (st : Stmt) : Prop where
  ex : ∃ f fd, Fun K "__init__" qual st f fd ∧ Mk K C f
theorem mak_mk {P : Program} {w : World} {K : PySem.W.Frag} {mg : Str → Option Value} {base : Heap} {x qual : Str} {C : Addr} {st : Stmt} {N ps : List Str} {k : Nat} {sp : SpD} (d : DefI K C qual st) (hm : mg x = some (.ref C)) (sc : FnScope N ps (defScope st)) (len : ∀ ds G Q, sp ds G Q → ds.length = ps.length)
    (bi : ∀ (kV doc pm : Value) (an : Option Addr) (cdv ct : Value) (us : List Value), us.length = ps.length → bindArgs (PySem.W.fnOf "__init__" qual (defArgs st) (defBody st) (defScope st) .none kV doc pm an cdv ct) ⟨us, []⟩ = pure (ps.zip us))
    (hb : ∀ (f : Addr) (cdv : Value) (A : Around) (outer : List Env) (s : Shared) (H : Hp) (E : XK), A.guards = some [] → Room k (A.deeper (envOfC qual (defScope st) s.heap.objs.size f cdv)) →
      ∃ t', DPs (cxOf CX0 P w K mg base N qual (defScope st) f cdv A outer s H E).nox (defBody st) t' ∧ ∀ ds G Q, sp ds G Q → t' (fin Q) (dstart N ds) G) : Mak P w K mg base x C (k + 1) ps sp := by
  obtain ⟨f, fd, Fu, M⟩ := d.ex
  exact ⟨f, fd, M, fn_mk Fu sc len (hb f), hm, Fu.binds bi⟩
theorem dx3 : (∀ (x : Str) (G : GH) (Q : DQ), rIsiD [.str x, .ty "str"] G Q = Q (.bl true) G) ∧ (∀ (x : Int) (G : GH) (Q : DQ), rIsiD [.int x, .ty "int"] G Q = Q (.bl true) G) ∧ (∀ (x : Int) (G : GH) (Q : DQ), rIsiD [.int x, .ty "bool"] G Q = Q (.bl false) G) ∧
  (∀ (xs : List D) (G : GH) (Q : DQ), rIsiD [.tup xs, .ty "tuple"] G Q = Q (.bl true) G) ∧
  (∀ (xs : List D) (G : GH) (Q : DQ), rTupleD [.lst xs] G Q = Q (.tup xs) G) ∧ (∀ (xs : List D) (G : GH) (Q : DQ), rTupleD [.tup xs] G Q = Q (.tup xs) G) ∧
  (∀ (xs : List D) (G : GH) (Q : DQ), rLenD [.lst xs] G Q = Q (.int (xs.length : Nat)) G) ∧ (∀ (xs : List D) (G : GH) (Q : DQ), rLenD [.tup xs] G Q = Q (.int (xs.length : Nat)) G) ∧
  (∀ (i : Int) (G : GH) (Q : DQ), rIntC [.int i] G Q = Q (.int i) G) ∧
  (∀ (x : Str) (lo hi : Option Int) (G : GH) (Q : DQ), rSlice (.str x) lo hi G Q = (x.length ≤ sizeLine ∧ Q (.str (cutS x lo hi)) G)) ∧
  (∀ (xs : List D) (lo hi : Option Int) (G : GH) (Q : DQ), rSlice (.tup xs) lo hi G Q = Q (.tup (DL.cutD xs lo hi)) G) ∧
  (∀ (xs : List D) (lo hi : Option Int) (G : GH) (Q : DQ), rSlice (.lst xs) lo hi G Q = Q (.lst (DL.cutD xs lo hi)) G) ∧
  (∀ (ns : List Int) (lo hi : Option Int) (G : GH) (Q : DQ), rSlice (.scr ns) lo hi G Q = Q (.lst ((DL.cutD ns lo hi).map .int)) G) ∧
  (∀ (i j : Int) (G : GH) (Q : DQ), rAddD (.int i) (.int j) G Q = Q (.int (i + j)) G) ∧
  (∀ (a b : Str) (G : GH) (Q : DQ), rAddD (.str a) (.str b) G Q = (a.length + b.length ≤ sizeLine ∧ Q (.str (a ++ b)) G)) ∧
  (∀ (a b : List D) (G : GH) (Q : DQ), rAddD (.tup a) (.tup b) G Q = (a.length + b.length ≤ sizeLine ∧ Q (.tup (a ++ b)) G)) ∧
  (∀ (i j : Int) (G : GH) (Q : DQ), rMulD (.int i) (.int j) G Q = (CMul i j ∧ Q (.int (i * j)) G)) ∧
  (∀ (b : Bool), (!(!b)) = b) ∧ (∀ (x y : D), okE x y = true ∧ True ↔ okE x y = true) :=
  ⟨fun _ _ _ => rfl, fun _ _ _ => rfl, fun _ _ _ => rfl, fun _ _ _ => rfl, fun _ _ _ => rfl, fun _ _ _ => rfl, fun _ _ _ => rfl, fun _ _ _ => rfl, fun _ _ _ => rfl, fun _ _ _ _ _ => rfl, fun _ _ _ _ _ => rfl, fun _ _ _ _ _ => rfl, fun _ _ _ _ _ => rfl, fun _ _ _ _ => rfl, fun _ _ _ _ => rfl, fun _ _ _ _ => rfl, fun _ _ _ _ => rfl, fun b => by cases b <;> rfl, fun _ _ => by simp⟩
theorem len_str {x : Str} (h : x.length ≤ sizeLine) (G : GH) (Q : DQ) : rLenD [.str x] G Q = Q (.int (x.length : Nat)) G := by
  simp [rLenD, D.cur, D.len, h]
theorem all_map {α : Type} (f : α → Bool) (l : List α) (G : GH) (Q : DQ) : rAllD [.lst (l.map fun x => .bl (f x))] G Q = Q (.bl (l.all f)) G := by
  have e : bools (l.map fun x => D.bl (f x)) = some (l.map f) := by
    rw [← bools_map, List.map_map]; rfl
  show (match bools (l.map fun x => D.bl (f x)) with | some bs => Q (.bl (bs.all id)) G | none => False) = _
  rw [e]
  simp [List.all_map]
theorem inn_str (x z : Str) : D.inn (.str x) (.str z) = some (strIn x z) := rfl
theorem lc_someA {α : Type} {ds : List D} {gd : GH → Prop} {p : Pat} {tt : DTT} {te : DTE} {vs : List Nat} {S : DS} {G : GH} {Q : DQ} (l : List α) (g : α → D) (b : α → Bool) (f : α → D) (e0 : ds = l.map g) (hz : l.length ≤ sizeLine) (hg : gd G)
    (h : ∀ a ∈ l, ∃ S2, p.put (g a) (dwipe S vs) = some S2 ∧ (∀ Q : Bool → GH → Prop, Q (b a) G → tt S2 G Q) ∧ (b a = true → ∀ Q : DQ, Q (f a) G → te S2 G Q)) (q : Q (.lst ((l.filter b).map f)) G) : LcB ds gd p tt te vs S G Q := by
  subst e0
  refine ⟨by simpa using hz, fun i acc G' => G' = G ∧ acc = ((l.take i).filter b).map f, ⟨rfl, by simp⟩, fun _ _ _ z => z.1 ▸ hg, ?_, ?_⟩
  · rintro i acc G' d ⟨rfl, rfl⟩ hd
    rw [List.getElem?_map] at hd
    cases ei : l[i]? with
    | none => rw [ei] at hd; cases hd
    | some a =>
      rw [ei] at hd
      cases hd
      obtain ⟨S2, h1, h2, h3⟩ := h a (List.mem_of_getElem? ei)
      have e : l.take (i + 1) = l.take i ++ [a] := by rw [List.take_add_one, ei]; rfl
      refine ⟨S2, h1, h2 _ ?_⟩
      cases hb : b a with
      | true =>
        rw [if_pos rfl]
        refine h3 hb _ ⟨rfl, ?_⟩
        rw [e, List.filter_append, List.map_append]
        simp [hb]
      | false =>
        rw [if_neg Bool.false_ne_true]
        refine ⟨rfl, ?_⟩
        rw [e, List.filter_append, List.map_append]
        simp [hb]
  · rintro acc G' ⟨rfl, rfl⟩
    rw [List.length_map, List.take_length]
    exact q
theorem lc_mapA {α : Type} {ds : List D} {gd : GH → Prop} {p : Pat} {te : DTE} {vs : List Nat} {S : DS} {G : GH} {Q : DQ} (l : List α) (g : α → D) (f : α → D) (e0 : ds = l.map g) (hz : l.length ≤ sizeLine) (hg : gd G)
    (h : ∀ a ∈ l, ∃ S2, p.put (g a) (dwipe S vs) = some S2 ∧ ∀ Q : DQ, Q (f a) G → te S2 G Q) (q : Q (.lst (l.map f)) G) : LcB ds gd p dYes te vs S G Q := by
  refine lc_someA l g (fun _ => true) f e0 hz hg (fun a ha => ?_) (by rw [show l.filter (fun _ => true) = l from List.filter_eq_self.mpr fun _ _ => rfl]; exact q)
  obtain ⟨S2, h1, h2⟩ := h a ha
  exact ⟨S2, h1, fun Q z => z, fun _ => h2⟩
theorem zip_map {α β γ : Type} (f : α → β → γ) : ∀ (l : List α) (m : List β), List.zipWith f l m = (l.zip m).map fun p => f p.1 p.2
  | [], _ => by simp
  | _ :: _, [] => by simp
  | a :: l, b :: m => by simp [zip_map f l m]
end DL
end
section
set_option Elab.async false
set_option linter.all false
set_option maxRecDepth 100000
set_option maxHeartbeats 4000000
namespace DL
open PySem PySem.Spec PyProof.Rows L2
def SetSO (w : World) (a : Addr) (ks : List Str) : HO := .ext fun h => SetS w h a ks
section
variable {X : Cx} {pos : Pos}
theorem setSO_new {w : World} {P : Program} {H : Hp} {h : Heap} {a : Addr} {ks : List Str} (R : SetS w h a ks) : ObjOk P w H h a (SetSO w a ks) := by
  have ⟨o, _, _, _, ho, _⟩ := R
  exact ⟨R, ⟨o, ho⟩, fun h1 h2 p k => SetS.keep p k⟩
theorem setSO_get {pins : List (Addr × Obj)} {σ : L2.St} {H : Hp} {s : Shared} {a : Addr} {ks : List Str} (I : Inv X pins σ H s) (ha : H a = some (SetSO X.w a ks)) : SetS X.w s.heap a ks := (I.hok a _ ha).1
def rSetLS (w : World) (K : PySem.W.Frag) : List V → Hp → VK → Prop := fun vs H Q => ∃ (a : Addr) (xs : List Str), vs = [.ref a] ∧ SqL K H a (xs.map V.str) ∧ xs.length ≤ 1000 ∧
  ∀ p, H p = none → Q (.ref p) (upd H p (SetSO w p (firstsF xs)))
theorem cr_setLS (hc : X.calm = true) : CallR X (.type "set") (rSetLS X.w X.K) := by
  intro pins s σ H vs us Q I r h
  obtain ⟨a, xs, rfl, ha, hl, q⟩ := h
  rw [Vals.ref1 r]
  obtain ⟨its, rv, pl, hz⟩ := I.list ha
  refine call_set_lstS xs (I.ok.hd hc) pl.isList (by simpa using rv.strs) (by unfold scanBound; omega) fun h' tk R k => ?_
  exact ⟨.ref _, _, I.laid (t' := tk) k (Nat.le_refl _) (setSO_new R), rfl, q _ (I.hok.fresh (Nat.le_refl _))⟩
def rSortedSS (w : World) : List V → Hp → VK → Prop := fun vs H Q => ∃ (a : Addr) (ks : List Str), vs = [V.ref a] ∧ H a = some (SetSO w a ks) ∧ ks.length ≤ 1000 ∧
  ∀ (ys : List Str) (p : Addr), ys.Perm ks → sortedS ys = true → H p = none → Q (.ref p) (upd H p (.lst (ys.map V.str)))
theorem cr_sortedSS (hc : X.calm = true) : CallR X (.builtin "sorted") (rSortedSS X.w) := by
  intro pins s σ H vs us Q I r h
  obtain ⟨a, ks, rfl, ha, h64, q⟩ := h
  have R := setSO_get I ha
  rw [Vals.ref1 r]
  refine sorted_sets R (I.ok.hd hc) fun s' p out c ys k g o hp hg hi hs hm => ?_
  have hlen : (ys.map V.str).length ≤ sizeLine := by rw [List.length_map, hs.length_eq, sizeLine_eq]; omega
  have hn : H p = none := I.hok.fresh hp
  have J : Inv X pins σ (upd H p (.lst (ys.map V.str))) { s with heap := s'.heap, gens := s'.gens, drawn := s'.drawn, toks := s'.toks } :=
    I.call (ch := []) (Un.laid k hp hn) (I.hok.laid k hp ⟨hlen, out.toList, c, vals_of_strs hi, hg⟩) (by rw [g]; exact I.bare) (fun _ z => nomatch z)
  have e : s' = { s with heap := s'.heap, gens := s'.gens, drawn := s'.drawn, toks := s'.toks } := by
    cases s'; cases s; cases o; rfl
  rw [e]
  exact ⟨.ref p, _, J, rfl, q ys p hs hm hn⟩
theorem Reps.strs {K : PySem.W.Frag} {F : Hp} : ∀ (ns : List Str), Reps K F (ns.map V.str) (ns.map D.str)
  | [] => .nil
  | n :: ns => .cons (.str n) (Reps.strs ns)
def dSortSetS (te : DTE) : DTE := fun S G Q => te S G fun d G1 => match d.cur G1 with
  | .lst xs => (match texts xs with
    | some ts => ts.length ≤ 1000 ∧ ∀ ys : List Str, ys.Perm (firstsF ts) → sortedS ys = true → Q (.lst (ys.map .str)) G1
    | none => False)
  | _ => False
theorem de_sortSetS {e : Expr} {te : DTE} {p q p2 : Pos} (hc : X.calm = true) (hg : Gl X "sorted") (hm : X.mg "sorted" = none) (hg2 : Gl X "set") (hm2 : X.mg "set" = none) (ha : DE X e te)
    (na : starEach [e] X.env = (false, eval e X.env) :: starEach [] X.env := by rfl)
    (nb : starEach [.Call (.Name "set" p2) [e] [] q] X.env = (false, eval (.Call (.Name "set" p2) [e] [] q) X.env) :: starEach [] X.env := by rfl) : DE X (.Call (.Name "sorted" p) [.Call (.Name "set" p2) [e] [] q] [] pos) (dSortSetS te) := by
  obtain ⟨t, p1, r1⟩ := ha.ex
  have ps := pe_callTy (pos := q) (p := p2) (cr_setLS hc) hg2 hm2 PyProof.Rows.boot_set (pa_cons p1 pa_nil na) (by decide) (by decide) na (by rfl)
  have pp := pe_callB (pos := pos) (p := p) (cr_sortedSS hc) hg hm PyProof.Rows.boot_sorted (pa_cons ps pa_nil nb) (by decide) (by decide) nb (by rfl)
  refine ⟨_, pp, fun F H σ S G o Q' h Q k => ?_⟩
  refine r1 F H σ S G o _ h _ fun F1 H1 v d G1 e1 g1 q1 h1 => ?_
  dsimp only at h1
  split at h1
  · rename_i xs ex
    split at h1
    · rename_i ts en
      obtain ⟨a, vs, rfl, ha, rs⟩ := cur_list g1 q1 ex
      rw [texts_rep en rs] at ha
      refine ⟨a, ts, rfl, .inl (.inl ha), h1.1, fun z hz => ?_⟩
      refine ⟨z, _, rfl, upd_same, Nat.le_trans (firstsF_len ts) h1.1, fun ys z2 hs hk hz2 => ?_⟩
      have gr1 : Gr F1 H1 F1 (upd H1 z (SetSO X.w z (firstsF ts))) := ⟨Ex.refl _, g1.ex.trans (Ex.new hz), Ex.new hz, fun _ _ _ w => w⟩
      have g2 := g1.grow gr1
      have gr2 := Gr.new (u := .lst (ys.map V.str)) g2.ex hz2
      exact k _ _ _ _ G1 (e1.trans (gr1.go.trans gr2.go)) (g2.grow gr2) (.lst upd_same (Reps.strs _)) (h1.2 ys hs hk)
    · exact h1.elim
  · exact h1.elim
end
end DL
end
section
set_option Elab.async false
set_option linter.all false
set_option maxRecDepth 100000
set_option maxHeartbeats 4000000
namespace DL
open PySem PySem.Spec PyProof.Rows L2
section
variable {X : Cx} {pos : Pos}
def lists : List D → Option (List (List D))
  | [] => some []
  | .lst x :: r => (lists r).map (x :: ·)
  | _ :: _ => none
end
end DL
end
section
set_option Elab.async false
set_option linter.all false
set_option maxRecDepth 100000
set_option maxHeartbeats 4000000
namespace DL
open PySem PySem.Spec PyProof.Rows L2
section
variable {X : Cx} {pos : Pos}
structure CalM (P : Program) (w : World) (K : PySem.W.Frag) (mg : Str → Option Value) (base : Heap) (C : Addr) (m : Str) (k : Nat) (ps : List Str) (sp : SpD) : Prop where
  ex : ∃ f fd, Meth K C m f ∧ FnG P w K mg base CX0 k f fd ps (SpOf K sp) ∧ Binds K fd ps []
structure DefM (K : PySem.W.Frag) (C : Addr) (m qual : Str) (st : Stmt) : Prop where
  ex : ∃ f fd, Fun K m qual st f fd ∧ Meth K C m f
theorem calM_mk {P : Program} {w : World} {K : PySem.W.Frag} {mg : Str → Option Value} {base : Heap} {m qual : Str} {C : Addr} {st : Stmt} {N ps : List Str} {k : Nat} {sp : SpD} (d : DefM K C m qual st) (sc : FnScope N ps (defScope st)) (len : ∀ ds G Q, sp ds G Q → ds.length = ps.length)
    (bi : ∀ (kV doc pm : Value) (an : Option Addr) (cdv ct : Value) (us : List Value), us.length = ps.length → bindArgs (PySem.W.fnOf m qual (defArgs st) (defBody st) (defScope st) .none kV doc pm an cdv ct) ⟨us, []⟩ = pure (ps.zip us))
    (hb : ∀ (f : Addr) (cdv : Value) (A : Around) (outer : List Env) (s : Shared) (H : Hp) (E : XK), A.guards = some [] → Room k (A.deeper (envOfC qual (defScope st) s.heap.objs.size f cdv)) →
      ∃ t', DPs (cxOf CX0 P w K mg base N qual (defScope st) f cdv A outer s H E).nox (defBody st) t' ∧ ∀ ds G Q, sp ds G Q → t' (fin Q) (dstart N ds) G) : CalM P w K mg base C m (k + 1) ps sp := by
  obtain ⟨f, fd, Fu, M⟩ := d.ex
  exact ⟨f, fd, M, fn_mk Fu sc len (hb f), Fu.binds bi⟩
/-- the name of the own class -/
theorem de_cls {x : Str} {C : Addr} (hg : Gl X x) (hm : X.mg x = some (.ref C)) (hd : (x == ("__debug__" : Str)) = false := by decide) : DE X (.Name x pos) (dC (.rf C)) :=
  dc_of (pe_glob (v := .ref C) hg hm rfl hd) fun _ => .rf C
end
end DL
end
section
set_option Elab.async false
set_option linter.all false
set_option maxRecDepth 100000
set_option maxHeartbeats 4000000
namespace DL
open PySem PySem.Spec PyProof.Rows L2
end DL
end
section
set_option Elab.async false
set_option linter.all false
set_option maxRecDepth 100000
set_option maxHeartbeats 4000000
namespace DL
open PySem PySem.Spec PyProof.Rows L2
structure Fine (d : D) (n w : Nat) : Prop where
  pl : d.pl = true
  sh : d.py.showable = true
  dp : d.py.depth ≤ n
  ls : d.py.leavesShort 13 = true
  bk : d.py.bulk ≤ w
theorem Fine.mono {d : D} {n w n' w' : Nat} (h : Fine d n w) (h1 : n ≤ n') (h2 : w ≤ w') : Fine d n' w' := ⟨h.pl, h.sh, Nat.le_trans h.dp h1, h.ls, Nat.le_trans h.bk h2⟩
theorem Fine.len {d : D} {n w : Nat} (h : Fine d n w) (hw : w ≤ 1000000) : (D.shown d).length ≤ sizeLine := PyData.shown_fits_bulk (B := 13) (by decide) (by decide) h.ls (Nat.le_trans h.bk (Nat.le_trans hw (by decide)))
end DL
end
section
set_option Elab.async false
set_option linter.all false
set_option maxRecDepth 100000
set_option maxHeartbeats 4000000
namespace DL
open PySem PySem.Spec PyProof.Rows L2
abbrev AlE : Type := He.AlD × Bool
def obsE (fa : List He.Fa) (fn : List He.DefD) (ex : PySem.W.Frag → Bool) (K : PySem.W.Frag) : AlE := (He.obsD fa fn K, ex K)
def insB (K : PySem.W.Frag) (C : Addr) : Bool := He.eqO (PySem.W.findIn K (.ref C) "__class__") (some (some (.builtin "object.__class__"))) && (He.eqO (PySem.W.specialIn K (.builtin "object.__class__") "__get__") (some (some (.builtin "getset_descriptor.__get__"))) &&
  (decide (PySem.W.takesIn K (.builtin "object.__class__") = some true) && (decide (PySem.W.mroIn K C (.type "object") = some true) && decide (PySem.W.kitOne K (.ref C) (.ref C) = some true))))
theorem insB_ok {K : PySem.W.Frag} {C : Addr} (c : Cls K C) (h : insB K C = true) : C8.InsC K C := by
  unfold insB at h
  simp only [Bool.and_eq_true, decide_eq_true_eq] at h
  exact ⟨c, He.eqO_ok h.1, He.eqO_ok h.2.1, h.2.2.1, h.2.2.2.1, h.2.2.2.2⟩
end DL
end
section
set_option Elab.async false
set_option linter.all false
set_option maxRecDepth 100000
set_option maxHeartbeats 4000000
namespace DL
open PySem PySem.Spec PyProof.Rows L2
section
variable {X : Cx} {pos : Pos}
structure NeO (K : PySem.W.Frag) (C : Addr) : Prop where
  ne : PySem.W.findIn K (.ref C) "__ne__" = some (some (.builtin "object.__ne__"))
  hm : PySem.W.mroIn K C (.type "object") = some true
  sf : PySem.W.selfFirst K C = true
def neB (K : PySem.W.Frag) (C : Addr) : Bool := He.eqO (PySem.W.findIn K (.ref C) "__ne__") (some (some (.builtin "object.__ne__"))) && (decide (PySem.W.mroIn K C (.type "object") = some true) && PySem.W.selfFirst K C)
theorem neB_ok {K : PySem.W.Frag} {C : Addr} (h : neB K C = true) : NeO K C := by
  unfold neB at h
  simp only [Bool.and_eq_true, decide_eq_true_eq] at h
  exact ⟨He.eqO_ok h.1, h.2.1, h.2.2⟩
end
end DL
end
section
set_option Elab.async false
set_option linter.all false
set_option maxRecDepth 100000
set_option maxHeartbeats 4000000
namespace DL
open PySem PySem.Spec PyProof.Rows L2
end DL
end
section
set_option Elab.async false
set_option linter.all false
set_option maxRecDepth 100000
set_option maxHeartbeats 4000000
namespace DL
open PySem PySem.Spec PyProof.Rows L2
end DL
end
section
set_option Elab.async false
set_option linter.all false
set_option maxRecDepth 100000
set_option maxHeartbeats 4000000
namespace DL
open PySem PySem.Spec PyProof.Rows L2
mutual
/-- a value that is a key -/
inductive NkV (H : Hp) : V → NestedKey → Prop
  | non : NkV H .non .none
  | int (i : Int) : NkV H (.int i) (.num i)
  | str (x : Str) : NkV H (.str x) (.text x)
  | tup {a : Addr} {vs : List V} {ks : List NestedKey} : H a = some (.tup vs) → NksV H vs ks → NkV H (.ref a) (.tup ks)
inductive NksV (H : Hp) : List V → List NestedKey → Prop
  | nil : NksV H [] []
  | cons {v : V} {vs : List V} {k : NestedKey} {ks : List NestedKey} : NkV H v k → NksV H vs ks → NksV H (v :: vs) (k :: ks)
end
mutual
theorem Rep.nk {K : PySem.W.Frag} {F H : Hp} (e : Ex F H) : ∀ {v : V} {d : D} {k : NestedKey}, Rep K F v d → d.nkey = some k → NkV H v k
  | _, _, _, .non, h => by cases h; exact .non
  | _, _, _, .bl b, h => by cases h
  | _, _, _, .int i, h => by cases h; exact .int i
  | _, _, _, .str x, h => by cases h; exact .str x
  | _, _, _, .ty n, h => by cases h
  | _, _, _, .tup (ds := ds) q r, h => by
    simp only [D.nkey] at h
    obtain ⟨ks, hk, rfl⟩ := Option.map_eq_some_iff.mp h
    exact .tup (e _ _ q) (Reps.nk e r hk)
  | _, _, _, .lst q r, h => by cases h
  | _, _, _, .dK q l r, h => by cases h
  | _, _, _, .dT q l r, h => by cases h
  | _, _, _, .obj q l r, h => by cases h
  | _, _, _, .rf a, h => by cases h
  | _, _, _, .scr q, h => by cases h
  | _, _, _, .kup q r, h => by cases h
theorem Reps.nk {K : PySem.W.Frag} {F H : Hp} (e : Ex F H) : ∀ {vs : List V} {ds : List D} {ks : List NestedKey}, Reps K F vs ds → D.nkeys ds = some ks → NksV H vs ks
  | _, _, _, .nil, h => by cases h; exact .nil
  | _, _, _, .cons (d := d) (ds := ds) r t, h => by
    simp only [D.nkeys] at h
    split at h
    · rename_i k ks h1 h2
      cases h
      exact .cons (Rep.nk e r h1) (Reps.nk e t h2)
    · cases h
end
mutual
theorem NkV.is {P : Program} {w : World} {H : Hp} {h : Heap} (ok : HOk P w H h) : ∀ {v : V} {k : NestedKey} {u : Value}, NkV H v k → RelV v u → NestedIs h k u
  | _, _, _, .non, r => by cases r; exact .none
  | _, _, _, .int i, r => by obtain ⟨t, rfl⟩ := r; exact .int i t
  | _, _, _, .str x, r => by obtain ⟨t, rfl⟩ := r; exact .text x t
  | _, _, _, .tup q t, r => by
    cases r
    obtain ⟨_, its, rs, o, h1, h2, n, h3⟩ := (show ObjOk P w H h _ (.tup _) from ok _ _ q)
    exact .tup h1 h2 h3 (by simpa using NksV.is ok t rs)
theorem NksV.is {P : Program} {w : World} {H : Hp} {h : Heap} (ok : HOk P w H h) : ∀ {vs : List V} {ks : List NestedKey} {us : List Value}, NksV H vs ks → Vals vs us → NestedAll h ks us
  | _, _, _, .nil, r => by cases r; exact .nil
  | _, _, _, .cons a t, r => by
    cases r with
    | cons r1 r2 => exact .cons (NkV.is ok a r1) (NksV.is ok t r2)
end
/-- the dict stands there -/
def NAt (w : World) (H : Hp) (a : Addr) (xs : List (NestedKey × Addr × Value)) : Prop :=
  H a = some (.ext (RawN w a xs)) ∧ xs.length ≤ sizeLine ∧ ∀ x ∈ xs, NkV H (.ref x.2.1) x.1 ∧ x.1.depth ≤ 8
theorem NAt.dict {P : Program} {w : World} {H : Hp} {h : Heap} {a : Addr} {xs : List (NestedKey × Addr × Value)} (n : NAt w H a xs) (ok : HOk P w H h) : (a == sysModules) = false ∧ h.DictOfH (nestedKind P w) a xs := by
  obtain ⟨e, _, hk⟩ := n
  obtain ⟨⟨hs, o, es, ep, h1, h2, h3, h4, h5⟩, _⟩ := (show ObjOk P w H h a (.ext (RawN w a xs)) from ok _ _ e)
  exact ⟨hs, o, es, ep, h1, h2, h3, h4, fun x hx => ⟨NkV.is ok (hk x hx).1 rfl, (hk x hx).2⟩, h5⟩
theorem KN.keys {K : PySem.W.Frag} {F H : Hp} (e : Ex F H) : ∀ {kds : List (NestedKey × D)} {xs : List (NestedKey × Addr × Value)}, KN K F kds xs → ∀ x ∈ xs, NkV H (.ref x.2.1) x.1 ∧ x.1.depth ≤ 8
  | _, _, .nil, x, hx => by cases hx
  | _, _, .cons (a := p) (b := q) h t, x, hx => by
    rcases List.mem_cons.mp hx with rfl | hx
    · obtain ⟨z1, ⟨d, z2, zd, z3⟩, _⟩ := h
      rw [← z1]
      exact ⟨Rep.nk e z3 z2, zd⟩
    · exact KN.keys e t x hx
theorem KN.val {K : PySem.W.Frag} {F : Hp} (k : NestedKey) : ∀ {kds : List (NestedKey × D)} {xs : List (NestedKey × Addr × Value)}, KN K F kds xs → (valD kds k = none ∧ atKey xs k = none) ∨ ∃ d p v, valD kds k = some d ∧ atKey xs k = some p ∧ RelV v p.2 ∧ Rep K F v d
  | _, _, .nil => .inl ⟨rfl, rfl⟩
  | _, _, .cons (a := p) (b := q) h t => by
    obtain ⟨z1, _, v, z4, z5⟩ := h
    by_cases e : p.1 = k
    · refine .inr ⟨p.2, q.2, v, ?_, ?_, z4, z5⟩
      · simp [valD, List.find?_cons, e]
      · simp [atKey, List.find?_cons, ← z1, e]
    · have e2 : ¬ q.1 = k := fun z => e (z1.trans z)
      rcases KN.val k t with ⟨h1, h2⟩ | ⟨d, p', v', h1, h2, h3, h4⟩
      · refine .inl ⟨?_, ?_⟩
        · simpa [valD, List.find?_cons, e] using h1
        · simpa [atKey, List.find?_cons, e2] using h2
      · refine .inr ⟨d, p', v', ?_, ?_, h3, h4⟩
        · simpa [valD, List.find?_cons, e] using h1
        · simpa [atKey, List.find?_cons, e2] using h2
theorem KN.len {K : PySem.W.Frag} {F : Hp} {kds : List (NestedKey × D)} {xs : List (NestedKey × Addr × Value)} (h : KN K F kds xs) : kds.length = xs.length := Paired.length h
theorem any_val {kds : List (NestedKey × D)} {k : NestedKey} : (kds.any fun kv => decide (kv.1 = k)) = (valD kds k).isSome := by
  unfold valD
  induction kds with
  | nil => rfl
  | cons a l ih =>
    by_cases e : a.1 = k
    · simp [List.find?_cons, e]
    · simp only [List.any_cons, e, decide_false, Bool.false_or, List.find?_cons]
      exact ih
theorem KN.put {K : PySem.W.Frag} {F : Hp} {kds : List (NestedKey × D)} {xs : List (NestedKey × Addr × Value)} (h : KN K F kds xs) {k : NestedKey} {b : Addr} {r : Value} {dk d : D} {v : V} (hk : dk.nkey = some k) (hd : k.depth ≤ 8) (rk : Rep K F (.ref b) dk) (rv : RelV v r) (rd : Rep K F v d) :
    KN K F (putD kds k d) (storedH xs k b r) := by
  have ev := KN.val k h
  unfold putD storedH
  rw [any_val]
  rcases ev with ⟨h1, h2⟩ | ⟨d', p', v', h1, h2, _⟩
  · rw [h1, h2]
    rw [if_neg (by simp), if_neg (by simp)]
    exact Paired.snoc h ⟨rfl, ⟨dk, hk, hd, rk⟩, v, rv, rd⟩
  · rw [h1, h2, if_pos (show (some d').isSome = true from rfl), if_pos (show (some p').isSome = true from rfl)]
    clear h1 h2
    induction h with
    | nil => exact .nil
    | @cons p q ps qs hq t ih =>
      refine .cons ?_ ih
      obtain ⟨z1, z2, v2, z4, z5⟩ := hq
      unfold putAt
      dsimp only
      by_cases e : p.1 = k
      · rw [if_pos e, if_pos (by rw [← z1]; exact e)]
        exact ⟨z1, z2, v, rv, rd⟩
      · rw [if_neg e, if_neg (by rw [← z1]; exact e)]
        exact ⟨z1, z2, v2, z4, z5⟩
end DL
end
section
set_option Elab.async false
set_option linter.all false
set_option maxRecDepth 100000
set_option maxHeartbeats 4000000
namespace DL
open PySem PySem.Spec PyProof.Rows L2
section
variable {X : Cx} {pos : Pos}
open PySem.Builtin in
theorem len_fn {prog : Program} {w : World} {A : Around} {E : Value → Shared → Prop} {s : Shared} {K : PySem.W.Frag} {x C f : Addr} {ox : Obj} {od : Option Obj} {Q : Value → Shared → Prop} (kin : K.In s.heap) (I : PySem.W.InstAt s.heap x ox C od)
    (hs : PySem.W.findIn K (.ref C) "__len__" = some (some (.ref f))) (hf : PySem.W.isFn K (.ref f) = true)
    (h : wpAny (model prog w) A.in1 (call (.ref f) [.ref x]) (fun r s' => ∃ n u, r = .int n u ∧ 0 ≤ n ∧ n < 2 ^ 63 ∧ Q (.int n s'.toks) { s' with toks := s'.toks + 1 }) E s) : wpAny (model prog w) A (call (.builtin "len") [.ref x]) Q E s := by
  refine Calls.call_function_entry kind_len plain_len entry_len (args_len1 _) ?_
  unfold Builtin.«len»
  refine wpAny_bind (m := oneArg "len" _) (wpAny_pure ?_)
  refine wpAny_bind (m := callSpecial? (.ref x) (Str.ofString "__len__")) (PySem.W.special_fn kin I hs (beq_iff_eq.mp hf) (wpAny_mono h (fun r s' hr => ?_) fun _ _ y => y))
  obtain ⟨n, u, rfl, h0, h1, hq⟩ := hr
  refine wpAny_bind (wpAny_holding (wpAny_pure ?_))
  refine wpAny_bind (wpAny_letGo ?_)
  show wpAny _ _ (if n < 0 then _ else _) _ _ _
  rw [if_neg (by omega)]
  show wpAny _ _ (if n ≥ 2 ^ 63 then _ else _) _ _ _
  rw [if_neg (by omega)]
  exact wpAny_bind (wpAny_mkInt (wpAny_pure ⟨_, rfl, hq⟩))
theorem goes_i1 {CX : CXT} {k : Nat} {f : Addr} {fd : FuncData} {ps : List Str} {sp : Sp} {E : XK} {pins : List (Addr × Obj)} {σ : L2.St} {H : Hp} {s : Shared} {Q : VK} {us ws : List Value} {zs : List V} (F : FnG X.prog X.w X.K X.mg X.base CX k f fd ps sp) (hA : X.A.guards = some []) (hr : Room (k + 1) X.A)
    (bd : ∀ s : Shared, X.K.In s.heap → ws.length = ps.length → BindsTo s fd ⟨us, []⟩ (ps.zip ws)) (hx : Passes CX X E)
    (I : Inv X pins σ H s) (r : Vals zs ws) (h : sp zs H Q E) : wpAny (model X.prog X.w) X.A.in1 (call (.ref f) us) (EP X pins σ Q) X.xe s := by
  have many : ws.length = ps.length := r.length ▸ F.many zs H Q E h
  refine wpAny_call (codeAny_mono (F.goes X.A.in1 X.stack s H ⟨us, []⟩ ws zs Q E (by first | exact hA | simpa [Around.in1] using hA) hr.in1 I.env0.in1 (bd s I.kIn many) r h) ?_)
  intro res s' z
  match res, z with
  | .error er, z => exact hx pins σ H s er s' I z
  | .ok (.ret u), z => exact I.after z
  | .ok .next, z => exact z.elim
  | .ok .brk, z => exact z.elim
  | .ok .cont, z => exact z.elim
def rLenO (C : Addr) (sp : SpD) (ds : List D) (G : GH) (Q : DQ) : Prop := match ds with
  | [x] => (match x.cur G with
    | .obj C1 _ => C1 = C ∧ sp [x] G fun d G' => match d with
      | .int n => 0 ≤ n ∧ n < 2 ^ 63 ∧ Q (.int n) G'
      | _ => False
    | _ => False)
  | _ => False
def vLenO (X : Cx) (C : Addr) (sp : SpD) : List V → Hp → VK → Prop := fun xs H Q => ∃ a dx fs, xs = [.ref a] ∧ H a = some (.ins C dx fs) ∧ SpOf X.K sp [.ref a] H (fun v H' => ∃ n, v = .int n ∧ 0 ≤ n ∧ n < 2 ^ 63 ∧ Q v H') (fun _ _ _ => False)
theorem cr_lenO {C : Addr} {k : Nat} {ps : List Str} {sp : SpD} (c : CalM X.prog X.w X.K X.mg X.base C "__len__" k ps sp) (hA : X.A.guards = some []) (hr : Room (k + 1) X.A) : CallR X (.builtin "len") (vLenO X C sp) := by
  obtain ⟨f, fd, M, Fn, hb⟩ := c.ex
  intro pins s σ H xs us Q I r hq
  obtain ⟨a, dx, fs, rfl, ha, q⟩ := hq
  rw [Vals.ref1 r]
  obtain ⟨mA, J, _⟩ := ins_get I.hok ha
  obtain ⟨od, J, _⟩ := J.look
  refine len_fn I.kIn J M.at_ M.fn ?_
  have r2 : Vals [V.ref a] [Value.ref a] := .cons rfl .nil
  refine wpAny_mono (goes_i1 (us := [.ref a]) Fn hA hr (fun s2 i l => by simpa using hb s2 [.ref a] i (by simpa using l)) pass0 I r2 q) (fun w s' z => ?_) fun _ _ z => z
  obtain ⟨v', H', I', rv, n, rfl, h0, h1, q'⟩ := z
  obtain ⟨t, rfl⟩ := rv
  exact ⟨n, t, rfl, h0, h1, .int n, H', I'.tok _, ⟨_, rfl⟩, q'⟩
theorem cd_lenO {C : Addr} {k : Nat} {ps : List Str} {sp : SpD} (c : CalM X.prog X.w X.K X.mg X.base C "__len__" k ps sp) (hA : X.A.guards = some []) (hr : Room (k + 1) X.A) : CallD X (.builtin "len") (rLenO C sp) := by
  refine ⟨_, cr_lenO c hA hr, fun F H G vs ds g rs Q' h Q k => ?_⟩
  unfold rLenO at h
  split at h
  · rename_i x
    split at h
    · rename_i C1 fs e1
      obtain ⟨rfl, h⟩ := h
      cases rs with
      | cons r1 rt =>
        cases rt
        obtain ⟨a, d1, k1, rfl, ha, _⟩ := cur_obj g r1 e1
        refine ⟨a, d1, k1, rfl, ha, F, G, [x], _, g, .cons r1 .nil, h, ?_⟩
        intro F' H' v d G' e1 g1 r1 h1
        split at h1
        · cases r1
          exact ⟨_, rfl, h1.1, h1.2.1, k F' H' _ _ G' e1 g1 (.int _) h1.2.2⟩
        · exact h1.elim
    · exact h.elim
  · exact h.elim
end
end DL
end
section
set_option Elab.async false
set_option linter.all false
set_option maxRecDepth 100000
set_option maxHeartbeats 4000000
namespace DL
open PySem PySem.Spec PyProof.Rows L2
end DL
end
section
set_option Elab.async false
set_option linter.all false
set_option maxRecDepth 100000
set_option maxHeartbeats 4000000
namespace DL
open PySem PySem.Spec PyProof.Rows L2
section
variable {X : Cx}
def vNil (neg : Bool) : R2 := fun x y H Q => ∃ a b xs, x = .ref a ∧ y = .ref b ∧ H a = some (.lst xs) ∧ H b = some (.lst []) ∧ Q (.bl (if neg then !xs.isEmpty else xs.isEmpty)) H
theorem nil_at {pins : List (Addr × Obj)} {σ : L2.St} {H : Hp} {s : Shared} {a : Addr} {xs : List V} (I : Inv X pins σ H s) (h : H a = some (.lst xs)) : ∃ its : List Value, its.length = xs.length ∧ s.heap.IsList a its.toArray := by
  obtain ⟨_, its, n, r, hl, e⟩ := I.lstM h
  exact ⟨its, hl.symm, _, e, rfl, n, rfl⟩
theorem op_neNil (hu : X.A.units + 100 < cLine) : OpR X (compareOp .NotEq) (vNil true) := by
  intro pins s σ H x y v u Q I rx ry h
  obtain ⟨a, b, xs, rfl, rfl, ha, hb, q⟩ := h
  cases rx
  cases ry
  obtain ⟨its, hl, la⟩ := nil_at I ha
  obtain ⟨jts, hj, lb⟩ := nil_at I hb
  show wpAny (model X.prog X.w) X.A (richCompare .NotEq (.ref a) (.ref b)) (EP X pins σ Q) X.xe s
  have hj0 : jts = [] := List.length_eq_zero_iff.mp hj
  subst hj0
  cases xs with
  | nil =>
    have hi0 : its = [] := List.length_eq_zero_iff.mp hl
    subst hi0
    exact PySem.SeqAt.RcNeAt.lists (e := fun _ => true) la lb rfl (by omega) (fun j h1 _ => absurd h1 (by simp)) X.prog X.w _ _ ⟨.bl false, H, I, rfl, q⟩
  | cons z zs =>
    exact PySem.SeqAt.RcNeAt.lists_lengths la lb (by simp only [List.length_cons] at hl; simp [hl]) (by omega) X.prog X.w _ _ ⟨.bl true, H, I, rfl, q⟩
def rNil (neg : Bool) : DR2 := fun x y G Q => match x.cur G, y.cur G with
  | .lst xs, .lst [] => Q (.bl (if neg then !xs.isEmpty else xs.isEmpty)) G
  | _, _ => False
theorem nil_core {neg : Bool} {F H : Hp} {G : GH} {x y : V} {dx dy : D} (g : Gok X.K F H G) (rx : Rep X.K F x dx) (ry : Rep X.K F y dy) {Q' : DQ} (h : rNil neg dx dy G Q') {Q : VK} (k : KpE X.K F H G Q' Q) : vNil neg x y H Q := by
  unfold rNil at h
  split at h
  · rename_i xs e1 e2
    obtain ⟨a, vs, rfl, ha, rs⟩ := cur_list g rx e1
    obtain ⟨b, ws, rfl, hb, rt⟩ := cur_list g ry e2
    cases rt
    refine ⟨a, b, vs, rfl, rfl, ha, hb, ?_⟩
    have e : vs.isEmpty = xs.isEmpty := by
      have := rs.length
      cases vs <;> cases xs <;> simp_all
    rw [e]
    exact k F H _ _ G Go.refl g (.bl _) h
  · exact h.elim
theorem od_neNil (hu : X.A.units + 100 < cLine) : OpD X (compareOp .NotEq) (rNil true) := ⟨_, op_neNil hu, fun F H G x y dx dy g rx ry Q' h Q k => nil_core g rx ry h k⟩
end
end DL
end
section
set_option Elab.async false
set_option linter.all false
set_option maxRecDepth 100000
set_option maxHeartbeats 4000000
namespace DL
open PySem PySem.Spec PyProof.Rows L2
section
variable {X : Cx}
def rUpperD (x : D) (ds : List D) (G : GH) (Q : DQ) : Prop := match x, ds with
  | .str a, [] => a.length ≤ 5592405 ∧ Q (.str (Txt.upper a)) G
  | _, _ => False
theorem md_upper : MtD X "str.upper" rUpperD := by
  refine ⟨_, mt_upper, fun F H G x dx vs ds g rx rs Q' h Q k => ?_⟩
  unfold rUpperD at h
  split at h
  · cases rx
    cases rs
    exact ⟨_, rfl, rfl, h.1, k F H _ _ G Go.refl g (.str _) h.2⟩
  · exact h.elim
end
end DL
end
section
set_option Elab.async false
set_option linter.all false
set_option maxRecDepth 100000
set_option maxHeartbeats 4000000
namespace DL
open PySem PySem.Spec PyProof.Rows L2 HT
section
variable {prog : Program} {w : World} {A : Around} {E : Value → Shared → Prop} {s : Shared}
theorem sliceApplied_rev {sl : Addr} {t : Tok} {n : Nat} {Q : Int × Int × Nat → Shared → Prop} (hs : s.heap.IsSliceOf sl .none .none (.int (-1) t))
    (h : Q ((n : Int) - 1, -1, n) s) : wpAny (model prog w) A (Builtin.Slice.sliceApplied (.ref sl) (pure (n : Int))) Q E s := by
  obtain ⟨os, hos, hcs, hds⟩ := id hs
  unfold Builtin.Slice.sliceApplied Builtin.Slice.sliceFields
  refine wpAny_bind (wpAny_bind (wpAny_field hos hds (x := .none) rfl (wpAny_bind (wpAny_field hos hds (x := .none) rfl (wpAny_bind (wpAny_field hos hds (x := .int (-1) t) rfl (wpAny_pure ?_)))))))
  refine wpAny_bind (slicePart_int ?_)
  show wpAny _ _ (if ((-1 : Int) == 0) = true then _ else _) _ _ s
  rw [if_neg (by decide)]
  refine wpAny_bind (slicePart_none (wpAny_bind (slicePart_none (wpAny_bind (wpAny_pure ?_)))))
  show wpAny _ _ (pure ((n : Int) - 1, (-1 : Int), Builtin.Slice.slicePlaces ((n : Int) - 1) (-1) (-1))) _ _ s
  have e : Builtin.Slice.slicePlaces ((n : Int) - 1) (-1) (-1) = n := by
    unfold Builtin.Slice.slicePlaces
    have h1 : ¬ ((-1 : Int) > 0) := by omega
    rw [if_neg h1]
    split
    · have : (n : Int) - 1 - -1 - 1 = (n : Int) - 1 := by omega
      rw [this, show (-(-1) : Int) = 1 by decide, Int.ediv_one]
      omega
    · omega
  rw [e]
  exact wpAny_pure h
theorem pick_rev (xs : Array Value) : ((List.range xs.size).filterMap fun (m : Nat) => xs[((xs.size : Int) - 1 + (m : Int) * -1).toNat]?).toArray = xs.toList.reverse.toArray := by
  have e : (List.range xs.size).filterMap (fun (m : Nat) => xs[((xs.size : Int) - 1 + (m : Int) * -1).toNat]?) = ((List.range xs.size).map fun k => xs.size - 1 - k).filterMap (xs[·]?) := by
    rw [List.filterMap_map]
    have e : (fun (m : Nat) => xs[((xs.size : Int) - 1 + (m : Int) * -1).toNat]?) = (fun x => xs[x]?) ∘ fun k => xs.size - 1 - k := by
      funext m
      have e : ((xs.size : Int) - 1 + (m : Int) * -1).toNat = xs.size - 1 - m := by omega
      rw [e]
      rfl
    rw [e]
  rw [e, PySem.W.krv_range, List.filterMap_reverse, PySem.W.krv_all]
theorem getItem_tuple_rev {t sl : Addr} {items : Array Value} {u : Tok} {Q : Value → Shared → Prop} (ht : IsTup s.heap t items) (hs : s.heap.IsSliceOf sl .none .none (.int (-1) u))
    (h : Q (.ref s.heap.objs.size) { s with heap := s.heap.push { cls := .type "tuple", data := .seq items.toList.reverse.toArray } })
    (hsz : items.size ≤ sizeLine) : wpAny (model prog w) A (getItem (.ref t) (.ref sl)) Q E s := by
  have htake : sizeOk (.seq items.toList.reverse.toArray) := by
    show items.toList.reverse.toArray.size ≤ sizeLine
    rw [List.size_toArray, List.length_reverse, Array.length_toList]
    exact hsz
  obtain ⟨os, hos, hcs, hds⟩ := id hs
  have hTs : s.TypeIs (.ref sl) "slice" := ⟨os, hos, hcs⟩
  unfold getItem
  try with_reducible refine wpAny_holding ?_
  first | refine wpAny_bind (wpAny_pure ?_) | skip
  refine wpAny_bind (wpAny_sequenceKey ht.typeIs (by decide) ?_)
  refine wpAny_bind (wpAny_callSpecial?_slot (name := Str.ofString "__getitem__") ht.typeIs PyProof.Rows.slot_tuple_getitem
    (wpAny_call_entry PyProof.Rows.slot_tuple_getitem ht.typeIs entry_tuple_getitem ?_ (args_tuple_getitem _ _)))
  show wpAny _ _ (Builtin.Tuple.tupleItemsOf (.ref t) >>= _) _ _ s
  refine wpAny_bind (tupleItemsOf_ ht ?_)
  refine wpAny_bind (wpAny_typeOf hTs ?_)
  rw [if_pos (by decide)]
  refine wpAny_bind (sliceApplied_rev hs ?_)
  have hno : ¬ ((((items.size : Int) - 1) == 0 && (-1 : Int) == 1 && items.size == items.size) = true) := by
    intro q
    rw [Bool.and_eq_true, Bool.and_eq_true] at q
    exact absurd q.1.2 (by decide)
  show wpAny _ _ (if ((((items.size : Int) - 1) == 0 && (-1 : Int) == 1 && items.size == items.size) = true) then _ else _) _ _ s
  rw [if_neg hno, pick_rev]
  first
    | exact wpAny_bind (m := Builtin.Tuple.tupleExact _) (wpAny_newObj_type (wpAny_pure ⟨_, rfl, wpAny_pure h⟩) htake)
    | exact wpAny_bind (m := Builtin.Tuple.tupleExact _) (wpAny_newObj_type (wpAny_bind (wpAny_pure (wpAny_pure ⟨_, rfl, wpAny_pure h⟩))) htake)
    | exact wpAny_bind (wpAny_bind (m := Builtin.Tuple.tupleExact _) (wpAny_newObj_type (wpAny_pure (wpAny_pure ⟨_, rfl, wpAny_pure h⟩)) htake))
    | exact wpAny_bind (wpAny_bind (m := Builtin.Tuple.tupleExact _) (wpAny_newObj_type (wpAny_pure ⟨_, rfl, wpAny_pure h⟩) htake))
end
section
variable {X : Cx} {pos : Pos}
def tRevT (K : PySem.W.Frag) (te : TE) : TE := fun σ H Q => te σ H fun x H1 => ∃ a xs, x = .ref a ∧ SqT K H1 a xs ∧ ∀ p, H1 p = none → Q (.ref p) (upd H1 p (.tup xs.reverse))
theorem pe_revT {e : Expr} {te : TE} {k : Nat} {p1 p2 p3 pos : Pos} (he : PE X e te) : PE X (.Subscript e (.Slice none none (some (.UnaryOp .USub (.Constant (.int 1) k p1) p2)) p3) pos) (tRevT X.K te) := by
  refine ⟨fun pins s σ H Q I h => ?_⟩
  refine Subscript_ (thn (he.run pins s σ H _ I h) fun v s1 ⟨x, H1, I1, r1, q1⟩ => ?_)
  obtain ⟨a, xs, ex, hx, q⟩ := q1
  subst ex
  cases r1
  have hst : PO X (some (.UnaryOp .USub (.Constant (.int 1) k p1) p2)) (tPart (tUn (rU fun i => .int (-i)) (tC (.int 1)))) := po_some (pe_un un_neg pe_int)
  refine wpAny_Slice (thn (po_none.run pins s1 σ H1 (fun o H2 => o = none ∧ H2 = H1) I1 ⟨rfl, rfl⟩) fun vl s2 ⟨l, H2, I2, pl, el, e2⟩ => ?_)
  subst el e2
  refine thn (po_none.run pins s2 σ H2 (fun o H3 => o = none ∧ H3 = H2) I2 ⟨rfl, rfl⟩) fun vu s3 ⟨u, H3, I3, pu, eu, e3⟩ => ?_
  subst eu e3
  refine thn (hst.run pins s3 σ H3 (fun o H4 => o = some (-1) ∧ H4 = H3) I3 ⟨1, rfl, -1, rfl, rfl, rfl⟩) fun vs s4 ⟨o, H4, I4, ps, eo, e4⟩ => ?_
  subst eo e4
  have I5 : Inv X pins σ H4 { s4 with heap := s4.heap.push { cls := .type "slice", data := .fields #[vl, vu, vs] } } := I4.kept (t' := s4.toks) fun b ob q => Heap.get?_push_of_some _ q
  obtain ⟨its, r, ht, hz⟩ := I5.tuple hx
  have hlen := r.length
  show wpAny (model X.prog X.w) X.A (subscriptTail e (.Slice none none (some (.UnaryOp .USub (.Constant (.int 1) k p1) p2)) p3) (.ref a) (.ref s4.heap.objs.size)) (EP X pins σ Q) X.xe { s4 with heap := s4.heap.push { cls := .type "slice", data := .fields #[vl, vu, vs] } }
  refine tail_any (ops := [.ref a, .ref s4.heap.objs.size]) ht.typeIs (PyProof.Rows.slot_tuple_getitem.lookup) ?_ (by with_unfolding_all rfl)
  cases pl
  cases pu
  cases ps with
  | int _ uk =>
    refine getItem_tuple_rev ht (Heap.IsSliceOf.new _ .none .none (.int (-1) uk)) ?_ (by rw [List.size_toArray]; omega)
    refine ⟨.ref _, _, I5.laid (t' := s4.toks) (o := .tup xs.reverse) (fun b ob q => Heap.get?_push_of_some _ q) (Nat.le_refl _) ?_, rfl, q _ (I5.hok.fresh (Nat.le_refl _))⟩
    exact ⟨by rw [List.length_reverse]; exact hz, its.reverse, r.reverse, _, Heap.get?_push_size _ rfl, rfl, 0, rfl⟩
def dRevT (te : DTE) : DTE := fun S G Q => te S G fun d G1 => match d with
  | .tup xs => Q (.tup xs.reverse) G1
  | _ => False
theorem de_revT {e : Expr} {te : DTE} {k : Nat} {p1 p2 p3 : Pos} (he : DE X e te) : DE X (.Subscript e (.Slice none none (some (.UnaryOp .USub (.Constant (.int 1) k p1) p2)) p3) pos) (dRevT te) := by
  obtain ⟨t, p, r⟩ := he.ex
  refine ⟨_, pe_revT p, fun F H σ S G o Q' h Q kk => ?_⟩
  refine r F H σ S G o _ h _ fun F1 H1 v d G1 e1 g1 q1 h1 => ?_
  dsimp only at h1
  split at h1
  · cases q1 with
    | tup ha rs =>
      rename_i vs
      refine ⟨_, _, rfl, .inl (.inl (g1.ex _ _ ha)), fun p hp => ?_⟩
      have gr := Gr.new (u := .tup vs.reverse) g1.ex hp
      exact kk _ _ _ _ G1 (e1.trans gr.go) (g1.grow gr) (.tup upd_same (rs.reverse.mono gr.ff)) h1
  · exact h1.elim
def vNilT (neg : Bool) : R2 := fun x y H Q => ∃ a b xs, x = .ref a ∧ y = .ref b ∧ H a = some (.tup xs) ∧ H b = some (.tup []) ∧ Q (.bl (if neg then !xs.isEmpty else xs.isEmpty)) H
theorem nilT_at {pins : List (Addr × Obj)} {σ : L2.St} {H : Hp} {s : Shared} {a : Addr} {xs : List V} (I : Inv X pins σ H s) (h : H a = some (.tup xs)) : ∃ its : List Value, its.length = xs.length ∧ s.heap.IsTuple a its.toArray := by
  obtain ⟨its, r, p, z⟩ := I.tuple (.inl (.inl h))
  exact ⟨its, r.length.symm, p⟩
theorem op_neNilT (hu : X.A.units + 100 < cLine) : OpR X (compareOp .NotEq) (vNilT true) := by
  intro pins s σ H x y v u Q I rx ry h
  obtain ⟨a, b, xs, rfl, rfl, ha, hb, q⟩ := h
  cases rx
  cases ry
  obtain ⟨its, hl, la⟩ := nilT_at I ha
  obtain ⟨jts, hj, lb⟩ := nilT_at I hb
  show wpAny (model X.prog X.w) X.A (richCompare .NotEq (.ref a) (.ref b)) (EP X pins σ Q) X.xe s
  have hj0 : jts = [] := List.length_eq_zero_iff.mp hj
  subst hj0
  cases xs with
  | nil =>
    have hi0 : its = [] := List.length_eq_zero_iff.mp hl
    subst hi0
    exact PySem.SeqAt.RcNeAt.tuples (e := fun _ => true) la lb (by omega) (fun j h1 _ => absurd h1 (by simp)) X.prog X.w _ _ ⟨.bl false, H, I, rfl, q⟩
  | cons z zs =>
    have hne : (its.toArray.size == ([] : List Value).toArray.size) = false := by simp only [List.length_cons] at hl; simp [hl]
    refine PySem.SeqAt.RcNeAt.tuples (e := fun _ => true) la lb (by omega) (fun j h1 h2 => absurd h2 (by simp)) X.prog X.w _ _ ⟨.bl true, H, I, ?_, q⟩
    have hk : (!((List.range (min its.toArray.size ([] : List Value).toArray.size)).all (fun _ => true) && its.toArray.size == ([] : List Value).toArray.size)) = true := by rw [hne, Bool.and_false]; rfl
    rw [hk]
    rfl
def rNilT (neg : Bool) : DR2 := fun x y G Q => match x, y with
  | .tup xs, .tup [] => Q (.bl (if neg then !xs.isEmpty else xs.isEmpty)) G
  | _, _ => False
theorem nilT_core {neg : Bool} {F H : Hp} {G : GH} {x y : V} {dx dy : D} (g : Gok X.K F H G) (rx : Rep X.K F x dx) (ry : Rep X.K F y dy) {Q' : DQ} (h : rNilT neg dx dy G Q') {Q : VK} (k : KpE X.K F H G Q' Q) : vNilT neg x y H Q := by
  unfold rNilT at h
  split at h
  · rename_i xs
    cases rx with
    | tup ha rs =>
      rename_i vs
      cases ry with
      | tup hb rt =>
        cases rt
        refine ⟨_, _, vs, rfl, rfl, g.ex _ _ ha, g.ex _ _ hb, ?_⟩
        have e : vs.isEmpty = xs.isEmpty := by
          have := rs.length
          cases vs <;> cases xs <;> simp_all
        rw [e]
        exact k F H _ _ G Go.refl g (.bl _) h
  · exact h.elim
theorem od_neNilT (hu : X.A.units + 100 < cLine) : OpD X (compareOp .NotEq) (rNilT true) := ⟨_, op_neNilT hu, fun F H G x y dx dy g rx ry Q' h Q k => nilT_core g rx ry h k⟩
def rStrI (ds : List D) (G : GH) (Q : DQ) : Prop := match ds with
  | [.int i] => i.natAbs.log2 < 1920 ∧ Q (.str (toString i)) G
  | _ => False
theorem cd_strI : CallD X (.type "str") rStrI := by
  refine ⟨_, call_str_int, fun F H G vs ds g rs Q' h Q k => ?_⟩
  unfold rStrI at h
  split at h
  · rename_i i
    cases rs with
    | cons r b =>
      cases b
      cases r
      exact ⟨i, rfl, h.1, k _ _ _ _ G Go.refl g (.str _) h.2⟩
  · exact h.elim
end
end DL
end
section
set_option Elab.async false
set_option linter.all false
set_option maxRecDepth 100000
set_option maxHeartbeats 4000000
namespace DL
open PySem PySem.Spec PyProof.Rows L2
mutual
def D.pyR : D → PyData
  | .non => .none
  | .bl b => .bool b
  | .int i => .int i
  | .str x => .str x
  | .tup xs | .kup xs => .tuple (D.pysR xs)
  | .lst xs => .list (D.pysR xs)
  | .dK _ => .dict []
  | _ => .none
def D.pysR : List D → List PyData
  | [] => []
  | x :: xs => D.pyR x :: D.pysR xs
end
mutual
def D.plR : D → Bool
  | .non | .bl _ | .int _ | .str _ => true
  | .tup xs | .lst xs | .kup xs => D.plsR xs
  | .dK kds => kds.isEmpty
  | _ => false
def D.plsR : List D → Bool
  | [] => true
  | x :: xs => D.plR x && D.plsR xs
end
/-- the place of the modules is in the written part -/
def SysM (K : PySem.W.Frag) : Prop := ∃ o, K.lookup sysModules = some o
section
variable {X : Cx} {pins : List (Addr × Obj)} {σ : L2.St} {F H : Hp} {s : Shared}
theorem sysM_free (I : Inv X pins σ H s) (h : SysM X.K) : H sysModules = none := by
  obtain ⟨o, e⟩ := h
  exact (I.bs _ o (I.ok.mod.kin _ _ e)).2
mutual
theorem Rep.readsR (I : Inv X pins σ H s) (e : Ex F H) (hs : H sysModules = none) : ∀ (d : D) (v : V) (u : Value), Rep X.K F v d → d.plR = true → RelV v u → ∃ as, Reads s.heap u d.pyR as ∧ sysModules ∉ as
  | .non, _, _, h, _, r => by cases h; cases r; exact ⟨_, Reads.none, by simp⟩
  | .bl b, _, _, h, _, r => by cases h; cases r; exact ⟨_, Reads.bool b, by simp⟩
  | .int i, _, _, h, _, r => by cases h; obtain ⟨t, rfl⟩ := r; exact ⟨_, Reads.int i t, by simp⟩
  | .str x, _, _, h, _, r => by cases h; obtain ⟨t, rfl⟩ := r; exact ⟨_, Reads.str x t, by simp⟩
  | .tup xs, _, _, h, p, r => by
    cases h with
    | tup ha rs =>
      cases r
      obtain ⟨its, rv, ⟨o, ho, hc, n, hd⟩, _⟩ := I.tuple (.inl (.inl (e _ _ ha)))
      obtain ⟨as, hr, hn⟩ := Reps.readsR I e hs xs _ its rs p rv
      exact ⟨_, Reads.tuple ho hc hd hr, hn⟩
  | .kup xs, _, _, h, p, r => by
    cases h with
    | kup ha rs =>
      cases r
      obtain ⟨its, rv, ⟨o, ho, hc, n, hd⟩, _⟩ := I.tuple (e.sqt ha)
      obtain ⟨as, hr, hn⟩ := Reps.readsR I e hs xs _ its rs p rv
      exact ⟨_, Reads.tuple ho hc hd hr, hn⟩
  | .lst xs, _, _, h, p, r => by
    cases h with
    | lst ha rs =>
      cases r
      obtain ⟨its, rv, ⟨o, n, ho, hc, _, hd⟩, _⟩ := I.list (.inl (.inl (e _ _ ha)))
      obtain ⟨as, hr, hn⟩ := Reps.readsR I e hs xs _ its rs p rv
      refine ⟨_, Reads.list ho hc hd hr, ?_⟩
      rw [List.mem_cons, not_or]
      exact ⟨fun z => (by rw [← z] at ha; rw [e _ _ ha] at hs; cases hs), hn⟩
  | .dK kds, _, _, h, p, r => by
    cases h with
    | dK ha hk rs =>
      cases r
      have : kds = [] := List.isEmpty_iff.mp p
      subst this
      rename_i a kvs
      have : kvs = [] := by simpa using hk
      subst this
      obtain ⟨hz, hs0, vs, kv, hdo⟩ := I.hok a _ (e _ _ ha)
      cases kv
      have rd : Reads s.heap (.ref a) (.dict []) [a] := PyProof.V.reads_dictOf (enc := fun k : Key => match k with | .inl i => PyData.int i | .inr x => PyData.str x) (bs := []) (D := []) (fun k key h => by
        have r := relV_key (show keyIs k key = true from h)
        cases k with
        | inl i => obtain ⟨t, rfl⟩ := r; exact .int i t
        | inr x => obtain ⟨t, rfl⟩ := r; exact .str x t) hdo .nil
      refine ⟨_, rd, ?_⟩
      rw [List.mem_singleton]
      exact fun z => by rw [← z] at ha; rw [e _ _ ha] at hs; cases hs
  | .ty _, _, _, _, p, _ => by cases p
  | .dT _, _, _, _, p, _ => by cases p
  | .obj _ _, _, _, _, p, _ => by cases p
  | .rf _, _, _, _, p, _ => by cases p
  | .scr _, _, _, _, p, _ => by cases p
theorem Reps.readsR (I : Inv X pins σ H s) (e : Ex F H) (hs : H sysModules = none) : ∀ (ds : List D) (vs : List V) (us : List Value), Reps X.K F vs ds → D.plsR ds = true → Vals vs us → ∃ as, ReadsAll s.heap us (D.pysR ds) as ∧ sysModules ∉ as
  | [], _, _, h, _, r => by
    cases h
    cases r
    exact ⟨_, ReadsAll.nil, by simp⟩
  | d :: ds, _, _, h, p, r => by
    have p' : d.plR = true ∧ D.plsR ds = true := by simpa [D.plsR] using p
    cases h with
    | cons h1 h2 =>
      cases r with
      | cons r1 r2 =>
        obtain ⟨as, q1, n1⟩ := Rep.readsR I e hs d _ _ h1 p'.1 r1
        obtain ⟨bs, q2, n2⟩ := Reps.readsR I e hs ds _ _ h2 p'.2 r2
        refine ⟨_, ReadsAll.cons q1 q2, ?_⟩
        rw [List.mem_append, not_or]
        exact ⟨n1, n2⟩
end
end
section
variable {X : Cx} {pos : Pos}
def rReprG (ds : List D) (G : GH) (Q : DQ) : Prop := match ds with
  | [d] => d.plR = true ∧ d.pyR.showable = true ∧ d.pyR.depth ≤ 60 ∧ d.pyR.shown.length ≤ sizeLine ∧ Q (.str d.pyR.shown) G
  | _ => False
theorem cr_reprG (hu : X.A.units + 100 < cLine) (hA : X.A.guards = some []) (hm : SysM X.K) : CallR X (.builtin "repr") (fun vs H Q => ∃ F v d, vs = [v] ∧ Ex F H ∧ Rep X.K F v d ∧ d.plR = true ∧ d.pyR.showable = true ∧ d.pyR.depth ≤ 60 ∧ d.pyR.shown.length ≤ sizeLine ∧ Q (.str d.pyR.shown) H) := by
  intro pins s σ H vs us Q I r h
  obtain ⟨F, v, d, rfl, ex, hd, hp, hs, hde, hz, q⟩ := h
  cases r with
  | cons r rr =>
    cases rr
    obtain ⟨as, rd, hn⟩ := Rep.readsR I ex (sysM_free I hm) d _ _ hd hp r
    revert rd hs hde hz q
    generalize d.pyR = py
    intro hs hde hz q rd
    have gen : ∀ {a : Addr}, Reads s.heap (.ref a) py as → wpAny (model X.prog X.w) X.A (call (.builtin "repr") [.ref a]) (EP X pins σ Q) X.xe s := fun rd => by
      refine repr_of_reads' (h₀ := s.heap) rd hs (fun _ => hn) hA (by omega) (fun _ _ z => z) (fun h' u tk hk => ?_) hz
      exact ⟨.str _, H, I.kept (t' := tk) hk, ⟨_, rfl⟩, q⟩
    cases rd with
    | none => exact P.repr_of_none ⟨.str _, H, I.tok _, ⟨_, rfl⟩, q⟩
    | bool b => exact P.repr_of_bool ⟨.str _, H, I.tok _, ⟨_, rfl⟩, by cases b <;> exact q⟩
    | int i t => exact P.repr_of_int (of_decide_eq_true hs) ⟨.str _, H, I.tok _, ⟨_, rfl⟩, q⟩
    | str x t => exact P.repr_of_str ⟨.str _, H, I.tok _, ⟨_, rfl⟩, q⟩ hz
    | list h1 h2 h3 h4 => exact gen (.list h1 h2 h3 h4)
    | tuple h1 h2 h3 h4 => exact gen (.tuple h1 h2 h3 h4)
    | dict h1 h2 h3 h4 h5 => exact gen (.dict h1 h2 h3 h4 h5)
theorem cd_reprG (hu : X.A.units + 100 < cLine) (hA : X.A.guards = some []) (hm : SysM X.K) : CallD X (.builtin "repr") rReprG := by
  refine ⟨_, cr_reprG hu hA hm, fun F H G vs ds g rs Q' h Q k => ?_⟩
  unfold rReprG at h
  split at h
  · rename_i d
    cases rs with
    | cons r b =>
      cases b
      obtain ⟨h1, h2, h3, h4, h5⟩ := h
      exact ⟨F, _, d, rfl, g.ex, r, h1, h2, h3, h4, k F H _ _ G Go.refl g (.str _) h5⟩
  · exact h.elim
end
/-- a def of which nothing is promised -/
theorem cal_never {P : Program} {w : World} {K : PySem.W.Frag} {mg : Str → Option Value} {base : Heap} {x : Str} {st : Stmt} {N ps : List Str} {k : Nat} {sp : SpD} (hno : ∀ ds G Q, ¬ sp ds G Q) (d : Def K mg x st) (sc : FnScope N ps (defScope st))
    (bi : ∀ (kV doc pm : Value) (an : Option Addr) (cdv ct : Value) (us : List Value), us.length = ps.length → bindArgs (PySem.W.fnOf x x (defArgs st) (defBody st) (defScope st) .none kV doc pm an cdv ct) ⟨us, []⟩ = pure (ps.zip us)) : Cal P w K mg base x (k + 1) ps sp :=
  cal_mk d sc (fun _ _ _ h => (hno _ _ _ h).elim) bi fun _ _ _ _ _ _ _ _ _ => ⟨dNever, dps_never, fun _ _ _ h => (hno _ _ _ h).elim⟩
def sysB (K : PySem.W.Frag) : Bool := (K.lookup sysModules).isSome
theorem sysB_ok {K : PySem.W.Frag} (h : sysB K = true) : SysM K := Option.isSome_iff_exists.mp h
end DL
end
section
set_option Elab.async false
set_option linter.all false
set_option maxRecDepth 100000
set_option maxHeartbeats 4000000
namespace DL
open PySem PySem.Spec PyProof.Rows L2
end DL
end
section
set_option Elab.async false
set_option linter.all false
set_option maxRecDepth 100000
set_option maxHeartbeats 4000000
namespace DL
open PySem PySem.Spec PyProof.Rows L2
section
variable {X : Cx} {pos : Pos}
def dFmt (te : DTE) : DTE := fun S G Q => te S G fun d G1 => match d with
  | .str y => y.length ≤ sizeLine ∧ Q (.str y) G1
  | .int i => i.natAbs.log2 < 1920 ∧ Q (.str (toString i)) G1
  | _ => False
theorem de_fmt {e : Expr} {te : DTE} (he : DE X e te) : DE X (.FormattedValue e (-1) none pos) (dFmt te) := by
  obtain ⟨t, p, r⟩ := he.ex
  refine ⟨_, pe_fmt p, fun F H σ S G o Q' h Q k => ?_⟩
  refine r F H σ S G o _ h _ fun F1 H1 v d G1 e1 g1 q1 h1 => ?_
  dsimp only at h1
  split at h1
  · cases q1
    exact .inl ⟨_, rfl, h1.1, k F1 H1 _ _ G1 e1 g1 (.str _) h1.2⟩
  · cases q1
    exact .inr ⟨_, rfl, h1.1, k F1 H1 _ _ G1 e1 g1 (.str _) h1.2⟩
  · exact h1.elim
abbrev DTJ := Str → DS → GH → (Str → GH → Prop) → Prop
structure DJ (X : Cx) (es : List Expr) (t' : DTJ) : Prop where
  ex : ∃ ts, PJ X es ts ∧ ∀ F H σ S G, Ok X.K F H σ S G → ∀ acc Q', t' acc S G Q' → ∀ Q : Str → Hp → Prop, (∀ F' H' y G', Go F H G F' H' G' → Gok X.K F' H' G' → Q' y G' → Q y H') → tJs ts acc σ H Q
def djNil : DTJ := fun acc _ G Q => Q acc G
def djCons (te : DTE) (tt : DTJ) : DTJ := fun acc S G Q => te S G fun d G1 => match d with
  | .str y => (acc ++ y).length ≤ sizeLine ∧ tt (acc ++ y) S G1 Q
  | _ => False
theorem dj_nil : DJ X [] djNil := ⟨_, .nil, fun F H σ S G o acc Q' h Q k => k F H acc G Go.refl o.g h⟩
theorem dj_cons {e : Expr} {es : List Expr} {te : DTE} {tt : DTJ} (he : DE X e te) (hr : DJ X es tt) : DJ X (e :: es) (djCons te tt) := by
  obtain ⟨t, p, r⟩ := he.ex
  obtain ⟨ts, pj, rj⟩ := hr.ex
  refine ⟨_, .cons p pj, fun F H σ S G o acc Q' h Q k => ?_⟩
  refine r F H σ S G o _ h _ fun F1 H1 v d G1 e1 g1 q1 h1 => ?_
  dsimp only at h1
  split at h1
  · cases q1
    exact ⟨_, rfl, h1.1, rj F1 H1 σ S G1 (o.go e1 g1) _ _ h1.2 _ fun F2 H2 y G2 e2 g2 h2 => k F2 H2 y G2 (e1.trans e2) g2 h2⟩
  · exact h1.elim
def dJoined (tt : DTJ) : DTE := fun S G Q => tt Str.empty S G fun y G1 => Q (.str y) G1
theorem de_joined {v1 v2 : Expr} {rest : List Expr} {tt : DTJ} (h : DJ X (v1 :: v2 :: rest) tt) : DE X (.JoinedStr (v1 :: v2 :: rest) pos) (dJoined tt) := by
  obtain ⟨ts, pj, rj⟩ := h.ex
  refine ⟨_, pe_joined pj, fun F H σ S G o Q' h Q k => ?_⟩
  exact rj F H σ S G o _ _ h _ fun F1 H1 y G1 e1 g1 h1 => k F1 H1 _ _ G1 e1 g1 (.str y) h1
def rStrS (ds : List D) (G : GH) (Q : DQ) : Prop := match ds with
  | [.str a] => Q (.str a) G
  | _ => False
theorem cd_strS : CallD X (.type "str") rStrS := by
  refine ⟨_, SkE.call_str_str, fun F H G vs ds g rs Q' h Q k => ?_⟩
  unfold rStrS at h
  split at h
  · cases rs with
    | cons r b =>
      cases b
      cases r
      exact ⟨_, rfl, k _ _ _ _ G Go.refl g (.str _) h⟩
  · exact h.elim
def rMulT : DR2 := fun x y G Q => match x, y with
  | .tup xs, .int n => xs ≠ [] ∧ 2 ≤ n ∧ n ≤ 1000 ∧ xs.length ≤ 1000 ∧ Q (.tup (List.replicate n.toNat xs).flatten) G
  | _, _ => False
theorem Reps.repN {K : PySem.W.Frag} {F : Hp} {vs : List V} {ds : List D} (r : Reps K F vs ds) : ∀ n : Nat, Reps K F (List.replicate n vs).flatten (List.replicate n ds).flatten
  | 0 => .nil
  | n + 1 => by
    rw [List.replicate_succ, List.replicate_succ, List.flatten_cons, List.flatten_cons]
    exact r.append (Reps.repN r n)
theorem od_mulT : OpD X (binaryOp .Mult) rMulT := by
  refine ⟨_, op_repT, fun F H G x y dx dy g rx ry Q' h Q k => ?_⟩
  unfold rMulT at h
  split at h
  · rename_i xs n
    cases rx with
    | tup ha rs =>
      rename_i a vs
      cases ry
      obtain ⟨h1, h2, h3, h4, h5⟩ := h
      have hl := rs.length
      refine ⟨_, _, vs, rfl, rfl, .inl (.inl (g.ex _ _ ha)), fun z => h1 (by subst z; cases rs; rfl), h2, h3, by omega, fun p hp => ?_⟩
      have gr := Gr.new (u := .tup (List.replicate n.toNat vs).flatten) g.ex hp
      exact k _ _ _ _ G gr.go (g.grow gr) (.tup upd_same ((rs.mono gr.ff).repN _)) h5
  · exact h.elim
theorem goes_i2 {CX : CXT} {k : Nat} {f : Addr} {fd : FuncData} {ps : List Str} {sp : Sp} {E : XK} {pins : List (Addr × Obj)} {σ : L2.St} {H : Hp} {s : Shared} {Q : VK} {us ws : List Value} {zs : List V} (F : FnG X.prog X.w X.K X.mg X.base CX k f fd ps sp) (hA : X.A.guards = some []) (hr : Room (k + 2) X.A)
    (bd : ∀ s : Shared, X.K.In s.heap → ws.length = ps.length → BindsTo s fd ⟨us, []⟩ (ps.zip ws)) (hx : Passes CX X E)
    (I : Inv X pins σ H s) (r : Vals zs ws) (h : sp zs H Q E) : wpAny (model X.prog X.w) X.A.in1.in1 (call (.ref f) us) (EP X pins σ Q) X.xe s := by
  have many : ws.length = ps.length := r.length ▸ F.many zs H Q E h
  refine wpAny_call (codeAny_mono (F.goes X.A.in1.in1 X.stack s H ⟨us, []⟩ ws zs Q E (by first | exact hA | simpa [Around.in1] using hA) hr.in1.in1 I.env0.in1.in1 (bd s I.kIn many) r h) ?_)
  intro res s' z
  match res, z with
  | .error er, z => exact hx pins σ H s er s' I z
  | .ok (.ret u), z => exact I.after z
  | .ok .next, z => exact z.elim
  | .ok .brk, z => exact z.elim
  | .ok .cont, z => exact z.elim
def rStrO (C : Addr) (sp : SpD) (ds : List D) (G : GH) (Q : DQ) : Prop := match ds with
  | [x] => (match x.cur G with
    | .obj C1 _ => C1 = C ∧ sp [x] G fun d G' => match d with
      | .str n => Q (.str n) G'
      | _ => False
    | _ => False)
  | _ => False
def vStrO (X : Cx) (C : Addr) (sp : SpD) : List V → Hp → VK → Prop := fun xs H Q => ∃ a dx fs, xs = [.ref a] ∧ H a = some (.ins C dx fs) ∧ SpOf X.K sp [.ref a] H (fun v H' => ∃ n, v = .str n ∧ Q v H') (fun _ _ _ => False)
theorem cr_strO {C : Addr} {k : Nat} {ps : List Str} {sp : SpD} (c : CalM X.prog X.w X.K X.mg X.base C "__str__" k ps sp) (hA : X.A.guards = some []) (hr : Room (k + 2) X.A) : CallR X (.type "str") (vStrO X C sp) := by
  obtain ⟨f, fd, M, Fn, hb⟩ := c.ex
  intro pins s σ H xs us Q I r hq
  obtain ⟨a, dx, fs, rfl, ha, q⟩ := hq
  rw [Vals.ref1 r]
  obtain ⟨mA, J, _⟩ := ins_get I.hok ha
  obtain ⟨od, J, _⟩ := J.look
  refine PySem.W.kso_call (K := X.K) hr.in1.in1.units0 I.kIn J M.at_ M.fn ?_
  have r2 : Vals [V.ref a] [Value.ref a] := .cons rfl .nil
  refine wpAny_mono (goes_i2 (us := [.ref a]) Fn hA hr (fun s2 i l => by simpa using hb s2 [.ref a] i (by simpa using l)) pass0 I r2 q) (fun w s' z => ?_) fun _ _ z => z
  obtain ⟨v', H', I', rv, n, rfl, q'⟩ := z
  obtain ⟨t, rfl⟩ := rv
  exact ⟨.str n, H', I', ⟨_, rfl⟩, q'⟩
theorem cd_strO {C : Addr} {k : Nat} {ps : List Str} {sp : SpD} (c : CalM X.prog X.w X.K X.mg X.base C "__str__" k ps sp) (hA : X.A.guards = some []) (hr : Room (k + 2) X.A) : CallD X (.type "str") (rStrO C sp) := by
  refine ⟨_, cr_strO c hA hr, fun F H G vs ds g rs Q' h Q k => ?_⟩
  unfold rStrO at h
  split at h
  · rename_i x
    split at h
    · rename_i C1 fs e1
      obtain ⟨rfl, h⟩ := h
      cases rs with
      | cons r1 rt =>
        cases rt
        obtain ⟨a, d1, k1, rfl, ha, _⟩ := cur_obj g r1 e1
        refine ⟨a, d1, k1, rfl, ha, F, G, [x], _, g, .cons r1 .nil, h, ?_⟩
        intro F' H' v d G' e1 g1 r1 h1
        split at h1
        · cases r1
          exact ⟨_, rfl, k F' H' _ _ G' e1 g1 (.str _) h1⟩
        · exact h1.elim
    · exact h.elim
  · exact h.elim
end
end DL
end
section
set_option Elab.async false
set_option linter.all false
set_option maxRecDepth 100000
set_option maxHeartbeats 4000000
namespace DL
open PySem PySem.Spec PyProof.Rows L2 ClX
end DL
end
section
set_option Elab.async false
set_option linter.all false
set_option maxRecDepth 100000
set_option maxHeartbeats 4000000
namespace DL
open PySem PySem.Spec PyProof.Rows L2 ClX
end DL
end
section
set_option Elab.async false
set_option linter.all false
set_option maxRecDepth 100000
set_option maxHeartbeats 4000000
namespace DL
open PySem PySem.Spec PyProof.Rows L2
end DL
end
section
set_option Elab.async false
set_option linter.all false
set_option maxRecDepth 100000
set_option maxHeartbeats 4000000
namespace DL
open PySem PySem.Spec PyProof.Rows L2
end DL
end
section
set_option Elab.async false
set_option linter.all false
set_option maxRecDepth 100000
set_option maxHeartbeats 4000000
namespace DL
open PySem PySem.Spec PyProof.Rows L2
end DL
end
section
set_option Elab.async false
set_option linter.all false
set_option maxRecDepth 100000
set_option maxHeartbeats 4000000
namespace DL
open PySem PySem.Spec PyProof.Rows L2
end DL
end
section
set_option Elab.async false
set_option linter.all false
set_option maxRecDepth 100000
set_option maxHeartbeats 4000000
namespace DL
open PySem PySem.Spec PyProof.Rows L2
abbrev KB := Addr × List Key
def encK (b : KB) : PyData := (ktD b.2).py
theorem key_reads {h : Heap} : ∀ {ks : List Key} {us : List Value}, Vals (ks.map kV) us → ReadsAll h us (D.pys (ks.map keyD)) []
  | [], _, r => by cases r; exact .nil
  | k :: ks, _, r => by
    cases r with
    | cons r1 r2 =>
      rename_i u us
      have a : Reads h u (keyD k).py [] := by
        cases k with
        | inl i => obtain ⟨t, rfl⟩ := r1; exact .int i t
        | inr x => obtain ⟨t, rfl⟩ := r1; exact .str x t
      exact ReadsAll.cons a (key_reads r2)
theorem each_ref : ∀ bs : List KB, PySem.W.EachIs (fun (v : Value) (b : KB) => v = .ref b.1) (bs.map fun b => Value.ref b.1) bs
  | [] => .nil
  | b :: bs => .cons rfl (each_ref bs)
theorem each_all {P : Value → KB → Prop} : ∀ {bs : List KB}, (∀ b ∈ bs, P (.ref b.1) b) → PySem.W.EachIs P (bs.map fun b => Value.ref b.1) bs
  | [], _ => .nil
  | b :: bs, h => .cons (h b (by simp)) (each_all fun c hc => h c (by simp [hc]))
theorem vals_ref : ∀ {us : List Value} {bs : List KB}, PySem.W.EachIs (fun (v : Value) (b : KB) => v = .ref b.1) us bs → Vals (bs.map fun b => V.ref b.1) us
  | _, _, .nil => .nil
  | _, _, .cons h t => .cons (by subst h; rfl) (vals_ref t)
section
variable {X : Cx} {pos : Pos}
theorem reps_kb {K : PySem.W.Frag} {F : Hp} : ∀ (bs : List KB), (∀ b ∈ bs, Rep K F (.ref b.1) (ktD b.2)) → Reps K F (bs.map fun b => V.ref b.1) (bs.map fun b => ktD b.2)
  | [], _ => .nil
  | b :: bs, h => .cons (h b (by simp)) (reps_kb bs fun c hc => h c (by simp [hc]))
end
end DL
end
section
set_option Elab.async false
set_option linter.all false
set_option maxRecDepth 100000
set_option maxHeartbeats 4000000
namespace DL
open PySem PySem.Spec PyProof.Rows L2
abbrev KTup (P : Program) (w : World) (h : Heap) (k : List Key) (b : Addr) : Prop := IsTupleKey (mixKind P w) h k b
abbrev kh (P : Program) (w : World) (k : List Key) : Int := tupleKeyHash (mixKind P w) k
def Flat (v : Value) : Prop := ∀ n, ofAClassStatement n v = pure false ∧ ∃ b, hashByValue n v = pure b
theorem flat_key {P : Program} {w : World} {k : List Key} {vs : List Value} (h : ItemsAre (mixKind P w) k vs) : ∀ v ∈ vs, Flat v := by
  induction h with
  | nil => intro v hv; cases hv
  | cons h1 _ ih =>
    intro v hv
    rcases List.mem_cons.mp hv with rfl | hv
    · rcases keyIs_shape h1 with ⟨i, t, _, rfl⟩ | ⟨x, t, _, rfl⟩
      · exact fun n => ⟨by cases n <;> rfl, true, by cases n <;> rfl⟩
      · exact fun n => ⟨by cases n <;> rfl, false, by cases n <;> rfl⟩
    · exact ih v hv
section
variable {P : Program} {w : World} {A : Around} {E : Value → Shared → Prop} {s : Shared}
theorem kofA {k : List Key} {b : Addr} {Q : Bool → Shared → Prop} (hk : KTup P w s.heap k b) (h : Q false s) : wpAny (model P w) A (ofAClassStatement 8 (.ref b)) Q E s := by
  have hT := hk.typeIs
  obtain ⟨o, items, n, ho, _, hd, hi⟩ := hk
  unfold ofAClassStatement
  refine wpAny_bind (wpAny_typeOf hT ?_)
  simp only [show (("tuple" : String) == "tuple") = true from rfl, if_true, Bool.not_true, Bool.false_eq_true, if_false]
  try refine wpAny_bind (wpAny_pure ?_)
  show wpAny _ _ (seqItems? (.ref b) >>= _) _ _ s
  refine wpAny_bind (wpAny_seqItems ho hd (wpAny_bind ?_))
  show wpAny _ _ (forIn items _ _) _ _ s
  rw [← Array.forIn_toList]
  refine wpAny_forIn_list _ (fun r acc s' => acc.1 = none ∧ s' = s ∧ ∀ v ∈ r, Flat v) _ ?_ ?_ _ _ ⟨rfl, rfl, flat_key hi⟩
  · rintro v r acc s' ⟨ha, rfl, hf⟩
    rw [(hf v List.mem_cons_self _).1]
    refine wpAny_bind (wpAny_pure ?_)
    rw [if_neg Bool.false_ne_true]
    exact wpAny_pure ⟨rfl, rfl, fun u hu => hf u (List.mem_cons_of_mem _ hu)⟩
  · rintro ⟨acc, _⟩ s' ⟨ha, rfl, _⟩
    obtain rfl : acc = none := ha
    exact wpAny_pure h
theorem khashBy {k : List Key} {b : Addr} {Q : Bool → Shared → Prop} (hk : KTup P w s.heap k b) (h : ∀ bo, Q bo s) : wpAny (model P w) A (hashByValue 8 (.ref b)) Q E s := by
  have hT := hk.typeIs
  obtain ⟨o, items, n, ho, _, hd, hi⟩ := hk
  unfold hashByValue
  refine wpAny_bind (wpAny_specialOf hT F.slot_tuple_hash.lookup ?_)
  show wpAny _ _ (seqItems? (.ref b) >>= _) _ _ s
  refine wpAny_bind (wpAny_seqItems ho hd (wpAny_bind ?_))
  show wpAny _ _ (forIn items _ _) _ _ s
  rw [← Array.forIn_toList]
  refine wpAny_forIn_list _ (fun r acc s' => acc.1 = none ∧ s' = s ∧ ∀ v ∈ r, Flat v) _ ?_ ?_ _ _ ⟨rfl, rfl, flat_key hi⟩
  · rintro v r acc s' ⟨ha, rfl, hf⟩
    obtain ⟨bo, hb⟩ := (hf v List.mem_cons_self 7).2
    have tl := fun u (hu : u ∈ r) => hf u (List.mem_cons_of_mem _ hu)
    rw [hb]
    refine wpAny_bind (wpAny_pure ?_)
    cases bo with
    | true =>
      simp only [Bool.not_true, Bool.false_eq_true, if_false]
      exact wpAny_pure ⟨rfl, rfl, tl⟩
    | false =>
      simp only [Bool.not_false, if_true]
      exact wpAny_pure (wpAny_pure (h false))
  · rintro ⟨acc, _⟩ s' ⟨ha, rfl, _⟩
    obtain rfl : acc = none := ha
    exact wpAny_pure (h true)
theorem kseen {k : List Key} {b : Addr} {Q : Bool → Shared → Prop} (hk : KTup P w s.heap k b) {ys : List Value} (hy : ∀ y ∈ ys, ∃ k' c, y = Value.ref c ∧ KTup P w s.heap k' c) (h : Q false s) :
    wpAny (model P w) A (searchCouldBeSeen (.ref b) ys) Q E s := by
  unfold searchCouldBeSeen
  refine wpAny_bind (wpAny_forIn_list _ (fun r acc s' => acc.1 = none ∧ s' = s ∧ ∀ y ∈ r, ∃ k' c, y = Value.ref c ∧ KTup P w s.heap k' c) _ ?_ ?_ _ _ ⟨rfl, rfl, hy⟩)
  · rintro v r acc s' ⟨ha, rfl, hall⟩
    obtain ⟨k', c, rfl, hc⟩ := hall v List.mem_cons_self
    have tl := fun u (hu : u ∈ r) => hall u (List.mem_cons_of_mem _ hu)
    dsimp only
    by_cases hv : (b == c || (carriedByValue (.ref b) && carriedByValue (.ref c))) = true
    · exact wp_if_pos hv (wpAny_pure ⟨rfl, rfl, tl⟩)
    · refine wp_if_neg hv (wpAny_bind (wpAny_eqIsQuiet_tuple hk ?_))
      simp only [Bool.not_true, Bool.false_eq_true, if_false]
      refine wpAny_bind (wpAny_eqIsQuiet_tuple hc ?_)
      simp only [Bool.not_true, Bool.false_eq_true, if_false]
      refine wpAny_bind (kofA hk ?_)
      simp only [Bool.false_eq_true, if_false]
      refine wpAny_bind (kofA hc ?_)
      simp only [Bool.false_eq_true, if_false]
      exact wpAny_pure ⟨rfl, rfl, tl⟩
  · rintro ⟨acc, _⟩ s' ⟨ha, rfl, _⟩
    obtain rfl : acc = none := ha
    exact wpAny_pure h
def krows (P : Program) (w : World) (L : List KB) : List (Int × Value) := L.map fun p => (kh P w p.2, Value.ref p.1)
theorem krows_len (L : List KB) : (krows P w L).length = L.length := by simp [krows]
/-- all but the keys themselves -/
structure KSet0 (P : Program) (w : World) (h : Heap) (a : Addr) (L : List KB) (es : Array (Int × Value)) (ep : Nat) (t : SetTable) : Prop where
  ob : ∃ o, h.get? a = some o ∧ o.ExactSet ∧ o.data = .set es ep t
  rows : es.toList = krows P w L
  tab : TabOk t (L.map fun p => kh P w p.2)
  nd : (L.map (·.2)).Nodup
  led : w.params.followText "set-order" = true ∨ t.led = true
  room : L.length * 5 < t.mask * 3
  few : L.length < 64
structure KSet (P : Program) (w : World) (h : Heap) (a : Addr) (L : List KB) (es : Array (Int × Value)) (ep : Nat) (t : SetTable) : Prop extends KSet0 P w h a L es ep t where
  tup : ∀ p ∈ L, KTup P w h p.2 p.1
variable {a : Addr} {L : List KB} {es : Array (Int × Value)} {ep : Nat} {t : SetTable}
theorem rows_size (h : es.toList = krows P w L) : es.size = L.length := by
  rw [← Array.length_toList, h, krows_len]
theorem rows_at (h : es.toList = krows P w L) {i : Nat} {p : KB} (e : L[i]? = some p) : es[i]? = some (kh P w p.2, Value.ref p.1) := by
  rw [← Array.getElem?_toList, h]
  unfold krows
  rw [List.getElem?_map, e]
  rfl
theorem fits_of (sz : t.place.size = es.size) (dm : t.dummies = #[]) (hl : es.size ≤ t.mask) : t.fits es.size = true := by
  unfold SetTable.fits SetTable.fill
  rw [dm, Bool.and_eq_true, beq_iff_eq, decide_eq_true_eq]
  show t.place.size = es.size ∧ t.place.size + 0 ≤ t.mask
  omega
theorem KSet0.psize (R : KSet0 P w s.heap a L es ep t) : t.place.size = L.length := by
  have := R.tab.sz
  rwa [List.length_map] at this
theorem KSet0.fits (R : KSet0 P w s.heap a L es ep t) : t.fits es.size = true := by
  have h1 := R.psize
  have h2 := rows_size R.rows
  have h3 := R.room
  exact fits_of (by omega) R.tab.dm (by omega)
theorem KSet0.stays (R : KSet0 P w s.heap a L es ep t) : ¬ t.gaveWay = true := by
  unfold SetTable.gaveWay
  rw [mask_odd R.tab.mok]
  decide
/-- the places that a hash looks at, one behind the other -/
abbrev pr0 (t : SetTable) (hv : Int) : SetTable.Probe := runAt t.mask (SetTable.bits hv % (t.mask + 1)) (SetTable.bits hv)
abbrev prN (t : SetTable) (hv : Int) (c : Nat) : SetTable.Probe := nth t.mask (pr0 t hv) c
theorem nth_dummy (m : Nat) : ∀ (n : Nat) (p : SetTable.Probe), p.dummy = none → (nth m p n).dummy = none
  | 0, _, h => h
  | n + 1, p, h => nth_dummy m n (adv m p) (by unfold adv; split <;> exact h)
theorem prN_j (t : SetTable) (hv : Int) (c q : Nat) : (nth t.mask (prN t hv c) q).j = way t.mask hv (c + q) := congrArg SetTable.Probe.j (nth_add t.mask c _ q).symm
theorem same_memory (t : SetTable) : t.sameMemory t.moves t.mask = some true := by
  unfold SetTable.sameMemory
  rw [if_pos (beq_self_eq_true _)]
/-- where the key stands, if it does -/
def Ahead (P : Program) (w : World) (L : List KB) (t : SetTable) (k : List Key) (K c : Nat) : Prop :=
  ∀ (i : Nat) p, L[i]? = some p → p.2 = k → ∃ c', c ≤ c' ∧ c' < K ∧ t.place.toList[i]? = some (way t.mask (kh P w k) c')
theorem kfind (R : KSet P w s.heap a L es ep t) {x : Addr} {k : List Key} (hx : KTup P w s.heap k x) (hu : A.units < cLine) {K : Nat} (hKf : K < 10 * SetTable.turns t.mask)
    (hK : way t.mask (kh P w k) K ∉ t.place.toList) (hKb : ∀ c, c < K → way t.mask (kh P w k) c ∈ t.place.toList) {Q : SetFound → Shared → Prop}
    (yes : k ∈ L.map (·.2) → Q (.there none) s) (no : k ∉ L.map (·.2) → Q (.free (way t.mask (kh P w k) K) false) s) (f : Nat) :
    ∀ (c : Nat) (st : Option SetTable.Probe), st.getD (t.probeStart (kh P w k)) = prN t (kh P w k) c → c ≤ K → K - c < f → Ahead P w L t k K c →
      wpAny (model P w) A (setSearchFrom a (.ref x) (kh P w k) true f st) Q E s := by
  induction f with
  | zero => intro c st _ _ hf _; omega
  | succ f ih =>
    intro c st hst hc hf ahead
    obtain ⟨o, ho, hex, hd⟩ := R.ob
    have hfit := R.fits
    have hash : ∀ (i : Nat) p, L[i]? = some p → (fun i => (es[i]?.map (·.1)).getD 0) i = kh P w p.2 := fun i p hp => by
      show (es[i]?.map (·.1)).getD 0 = _
      rw [rows_at R.rows hp]
      rfl
    have lt : ∀ {i j : Nat}, t.place.toList[i]? = some j → i < L.length := fun {i j} h => by
      have h1 := (List.getElem?_eq_some_iff.mp h).1
      rw [Array.length_toList, R.psize] at h1
      exact h1
    have sp := go_spec t R.tab.ris R.tab.dm (fun i => (es[i]?.map (·.1)).getD 0) (kh P w k) (10 * SetTable.turns t.mask) (K - c) (prN t (kh P w k) c) (nth_dummy _ c _ rfl) (by omega)
      (fun q hq => by rw [prN_j]; exact hKb (c + q) (by omega)) (by rw [prN_j, show c + (K - c) = K by omega]; exact hK)
    rw [setSearchFrom_succ]
    refine wpAny_bind (wpAny_setState_of ho hd hfit ?_)
    dsimp only
    refine wp_if_neg R.stays ?_
    try refine wpAny_bind (wpAny_pure ?_)
    rcases sp with ⟨q, i, hq, hi, hh, hno, hpr⟩ | ⟨hno, hpr⟩
    · have hpr' : t.probe (fun i => (es[i]?.map (·.1)).getD 0) (kh P w k) (st.getD (t.probeStart (kh P w k))) = some (.candidate (way t.mask (kh P w k) (c + q)) i (prN t (kh P w k) (c + (q + 1)))) := by
        have ez : prN t (kh P w k) (c + (q + 1)) = nth t.mask (prN t (kh P w k) c) (q + 1) := nth_add t.mask c _ (q + 1)
        rw [hst, ← prN_j, ez]
        exact hpr
      rw [hpr']
      dsimp only
      rw [prN_j] at hi
      obtain ⟨p, hp⟩ : ∃ p, L[i]? = some p := ⟨_, List.getElem?_eq_getElem (lt hi)⟩
      have hm := List.mem_of_getElem? hp
      have rest : wpAny (model P w) A (searchRest a (.ref x) (kh P w k) true f es t (way t.mask (kh P w k) (c + q)) i (prN t (kh P w k) (c + (q + 1)))) Q E s := by
        unfold searchRest
        rw [rows_at R.rows hp]
        dsimp only
        refine wpAny_bind (wpAny_holding (wpAny_eqBool_tuple hu (R.tup p hm) hx ?_))
        refine wpAny_bind (wpAny_setState_of ho hd hfit ?_)
        dsimp only
        by_cases hk : p.2 = k
        · exact wp_if_pos (by simp [hk]) (wpAny_pure (yes (List.mem_map.mpr ⟨p, hm, hk⟩)))
        · refine wp_if_neg (by simp [hk]) ?_
          try refine wpAny_bind (wpAny_pure ?_)
          rw [same_memory]
          dsimp only
          have hsl := slot_live R.tab.ris hi
          simp only [if_true, hsl, rows_at R.rows hp]
          refine wpAny_bind (wpAny_isSame_ref_self (wpAny_bind (wpAny_pure ?_)))
          simp only [if_true]
          refine wp_if_neg (by simp [hk]) (ih (c + (q + 1)) _ rfl (by omega) (by omega) fun i0 p0 h0 hk0 => ?_)
          obtain ⟨c', a1, a2, a3⟩ := ahead i0 p0 h0 hk0
          refine ⟨c', ?_, a2, a3⟩
          rcases Nat.lt_trichotomy c' (c + q) with z | z | z
          · refine absurd ((hash i0 p0 h0).trans (congrArg (kh P w) hk0)) (hno (c' - c) i0 (by omega) ?_)
            rw [prN_j, show c + (c' - c) = c' by omega]
            exact a3
          · rw [z] at a3
            have s0 := (slot_live R.tab.ris a3).symm.trans hsl
            injection s0 with s0
            rw [s0, hp] at h0
            exact absurd ((congrArg Prod.snd (Option.some.inj h0)).trans hk0) hk
          · omega
      by_cases hl : t.led = true
      · refine wp_if_neg (by simp [hl]) ?_
        try refine wpAny_bind (wpAny_pure ?_)
        exact rest
      · refine wp_if_pos (by simp [hl]) (wpAny_bind (kseen hx (fun y hy => ?_) (wp_if_neg (by decide) ?_)))
        · obtain ⟨e, he, rfl⟩ := List.mem_map.mp hy
          have he2 : e ∈ es.toList := by
            have : e ∈ es ∧ e.1 = kh P w k := by simpa using he
            simpa using this.1
          rw [R.rows] at he2
          obtain ⟨p2, hp2, rfl⟩ := List.mem_map.mp he2
          exact ⟨p2.2, p2.1, rfl, R.tup p2 hp2⟩
        · try refine wpAny_bind (wpAny_pure ?_)
          exact rest
    · have hpr' : t.probe (fun i => (es[i]?.map (·.1)).getD 0) (kh P w k) (st.getD (t.probeStart (kh P w k))) = some (.empty (way t.mask (kh P w k) K) none) := by
        have e2 : way t.mask (kh P w k) K = (nth t.mask (prN t (kh P w k) c) (K - c)).j := by
          rw [prN_j, show c + (K - c) = K by omega]
        rw [hst, e2]
        exact hpr
      rw [hpr']
      dsimp only
      refine wpAny_pure (no fun hm => ?_)
      obtain ⟨p0, h0, hk0⟩ := List.mem_map.mp hm
      obtain ⟨i0, h00⟩ := List.mem_iff_getElem?.mp h0
      obtain ⟨c', a1, a2, a3⟩ := ahead i0 p0 h00 hk0
      refine hno (c' - c) i0 (by omega) ?_ ((hash i0 p0 h00).trans (congrArg (kh P w) hk0))
      rw [prN_j, show c + (c' - c) = c' by omega]
      exact a3
theorem klook (R : KSet P w s.heap a L es ep t) {x : Addr} {k : List Key} (hx : KTup P w s.heap k x) (hu : A.units < cLine) {Q : SetFound → Shared → Prop} (yes : k ∈ L.map (·.2) → Q (.there none) s)
    (no : ∀ K, k ∉ L.map (·.2) → way t.mask (kh P w k) K ∉ t.place.toList → (∀ c, c < K → way t.mask (kh P w k) c ∈ t.place.toList) → Q (.free (way t.mask (kh P w k) K) false) s) :
    wpAny (model P w) A (setSearch a (.ref x) (kh P w k) true) Q E s := by
  have h3 := R.room
  obtain ⟨K, hKf, hK, hKb⟩ := R.tab.first (by rw [List.length_map]; omega) (kh P w k)
  have big : 10 * SetTable.turns t.mask ≤ 1420 := by
    unfold SetTable.turns
    rcases R.tab.mok with e | e | e <;> omega
  unfold setSearch
  refine kfind R hx hu hKf hK hKb yes (fun hn => no K hn hK hKb) 100000 0 none rfl (Nat.zero_le _) (by omega) fun i p hp hk => ?_
  have hi : (L.map fun p => kh P w p.2)[i]? = some (kh P w k) := by rw [List.getElem?_map, hp, ← hk]; rfl
  obtain ⟨j, hj⟩ : ∃ j, t.place.toList[i]? = some j := ⟨_, List.getElem?_eq_getElem (by have := (List.getElem?_eq_some_iff.mp hp).1; rw [Array.length_toList, R.psize]; exact this)⟩
  obtain ⟨c, hc, e⟩ := R.tab.before hK hi hj
  exact ⟨c, Nat.zero_le _, hc, by rw [hj, e]⟩
theorem ktup_same {h h' : Heap} {k : List Key} {b : Addr} {o : Obj} (hb : KTup P w h k b) (ho : h.get? a = some o) (hd : o.data = .set es ep t) (hs : Heap.SameBut a h h') : KTup P w h' k b := by
  obtain ⟨o', items, n, ho', r⟩ := hb
  refine ⟨o', items, n, (hs.2 b fun e => ?_).trans ho', r⟩
  subst e
  have : o' = o := Option.some.inj (ho'.symm.trans ho)
  have r2 := r.2.1
  rw [this, hd] at r2
  exact nomatch r2
theorem ktup_keep {h h' : Heap} {k : List Key} {b : Addr} (x : KTup P w h k b) (hk : ∀ c o, h.get? c = some o → h'.get? c = some o) : KTup P w h' k b := by
  obtain ⟨o, items, n, ho, r⟩ := x
  exact ⟨o, items, n, hk b o ho, r⟩
theorem KSet.keep {h h' : Heap} (R : KSet P w h a L es ep t) (ha : ∀ o, h.get? a = some o → h'.get? a = some o) (ht : ∀ p ∈ L, KTup P w h' p.2 p.1) : KSet P w h' a L es ep t := by
  obtain ⟨⟨⟨o, ho, r⟩, r1, r2, r3, r4, r5, r6⟩, _⟩ := R
  exact ⟨⟨⟨o, ha o ho, r⟩, r1, r2, r3, r4, r5, r6⟩, ht⟩
theorem range_all {α : Type} (L : List α) : (List.range L.length).filterMap (fun i => L[i]?) = L := by
  refine List.ext_getElem? fun j => ?_
  have : ∀ n, n ≤ L.length → (List.range n).filterMap (fun i => L[i]?) = L.take n := fun n => by
    induction n with
    | zero => intro _; rfl
    | succ n ih =>
      intro hn
      have hn2 : n < L.length := by omega
      rw [List.range_succ, List.filterMap_append, ih (by omega), List.take_add_one, List.getElem?_eq_getElem hn2]
      simp [hn2]
  rw [this _ (Nat.le_refl _), List.take_length]
/-- the rows in another order -/
theorem krows_order {order : Array Nat} (hr : es.toList = krows P w L) (hp : order.toList.Perm (List.range L.length)) :
    ∃ L2 : List KB, (order.filterMap (es[·]?)).toList = krows P w L2 ∧ L2.Perm L ∧ (L2.map fun p => kh P w p.2) = order.toList.map fun i => (es.map (·.1)).getD i 0 := by
  have at_ : ∀ i, es[i]? = (L[i]?).map fun (p : KB) => (kh P w p.2, Value.ref p.1) := fun i => by
    rw [← Array.getElem?_toList, hr]
    unfold krows
    rw [List.getElem?_map]
  have hin : ∀ i ∈ order.toList, i < L.length := fun i hi => List.mem_range.mp (hp.mem_iff.mp hi)
  refine ⟨order.toList.filterMap (fun i => L[i]?), ?_, ?_, ?_⟩
  · rw [Array.toList_filterMap]
    unfold krows
    rw [List.map_filterMap]
    congr 1
    funext i
    exact at_ i
  · have := hp.filterMap fun i => L[i]?
    rwa [range_all] at this
  · generalize order.toList = l at hin
    induction l with
    | nil => rfl
    | cons i l ih =>
      have hi := hin i List.mem_cons_self
      have e1 : (es.map (·.1)).getD i 0 = kh P w (L[i]).2 := by
        have : (es.map (·.1))[i]? = some (kh P w (L[i]).2) := by rw [Array.getElem?_map, at_ i, List.getElem?_eq_getElem hi]; rfl
        simp [Array.getD_eq_getD_getElem?, this]
      rw [List.filterMap_cons_some (List.getElem?_eq_getElem hi), List.map_cons, List.map_cons, e1, ih fun j hj => hin j (List.mem_cons_of_mem _ hj)]
/-- the table is laid anew, larger -/
theorem krelay {o : Obj} (ho : s.heap.get? a = some o) (hex : o.ExactSet) (hd : o.data = .set es ep t) (hr : es.toList = krows P w L) (hsz : t.place.size = es.size) (hdm : t.dummies = #[]) (hfl : es.size ≤ t.mask)
    (nd : (L.map (·.2)).Nodup) (tup : ∀ p ∈ L, KTup P w s.heap p.2 p.1) (ld : w.params.followText "set-order" = true ∨ t.led = true) (few : L.length < 64) {wanted M : Nat}
    (hw : SetTable.sizeAbove wanted - 1 = M) (hM : MaskOk M) (hw2 : SetTable.sizeAbove wanted ≤ 128) (hn : L.length * 5 < M * 3) {Q : Unit → Shared → Prop}
    (hQ : ∀ h' L' es' ep' t', Heap.SameBut a s.heap h' → KSet P w h' a L' es' ep' t' → L'.Perm L → Q () { s with heap := h' }) : wpAny (model P w) A (setRelay a wanted) Q E s := by
  have hsl := rows_size hr
  obtain ⟨t', order, e, hp, T, em, el, ep', ed⟩ := relaid_ok t (hs := es.map (·.1)) (wanted := wanted) hw hM (by rw [Array.size_map, hsl]; omega)
  rw [Array.size_map, hsl] at hp
  obtain ⟨L2, r1, r2, r3⟩ := krows_order hr hp
  rw [← r3] at T
  have hs2 : (order.filterMap (es[·]?)).size = es.size := by rw [rows_size r1, r2.length_eq, hsl]
  rw [setRelay_eq]
  refine wpAny_bind (wpAny_setState_of ho hd (fits_of hsz hdm hfl) ?_)
  dsimp only
  refine wp_if_neg (by rw [sizeLine_eq]; omega) ?_
  try refine wpAny_bind (wpAny_pure ?_)
  rw [e]
  dsimp only
  refine wpAny_bind (wp_if_neg (by rw [hs2]; simp) ?_)
  try refine wpAny_bind (wpAny_pure ?_)
  refine wpAny_pure ?_
  dsimp only
  refine wpAny_storeSet_of ho hd ?_ (by rw [hs2, hsl, sizeLine_eq]; omega)
  have sb : Heap.SameBut a s.heap (s.heap.update a (Obj.putSet (order.filterMap (es[·]?)) t')) := Heap.SameBut.update ..
  refine hQ _ L2 (order.filterMap (es[·]?)) (ep + 1) t' sb ⟨⟨⟨_, store_at ho hd, ⟨hex.1, hex.2.1, hex.2.2⟩, rfl⟩, r1, T, (r2.map (·.2)).nodup_iff.mpr nd, by rw [el]; exact ld, by rw [r2.length_eq, em]; exact hn, by rw [r2.length_eq]; exact few⟩, fun p hpm => ?_⟩ r2
  exact ktup_same (tup p (r2.mem_iff.mp hpm)) ho hd sb
theorem kadd (R : KSet P w s.heap a L es ep t) {x : Addr} {k : List Key} (hx : KTup P w s.heap k x) (hu : A.units < cLine) (hfew : L.length + 1 < 64) {Q : Bool → Shared → Prop}
    (hQ : ∀ b h' L' es' ep' t', Heap.SameBut a s.heap h' → KSet P w h' a L' es' ep' t' → (k ∈ L.map (·.2) → L' = L) → (k ∉ L.map (·.2) → L'.Perm ((x, k) :: L)) → Q b { s with heap := h' }) :
    wpAny (model P w) A (setAddHashed a (.ref x) (kh P w k)) Q E s := by
  obtain ⟨o, ho, hex, hd⟩ := R.ob
  have hsl := rows_size R.rows
  have hroom := R.room
  unfold setAddHashed
  rw [show (100000 : Nat) = 99999 + 1 from rfl, setAddHashedIn_succ]
  refine wpAny_holding (wpAny_bind (wpAny_setState_of ho hd R.fits ?_))
  dsimp only
  refine wp_if_neg (by simp [byScan, Value.scannable]) ?_
  try refine wpAny_bind (wpAny_pure ?_)
  refine wpAny_bind (klook R hx hu (fun hm => ?_) fun K hm hK hb => ?_)
  · dsimp only
    exact wpAny_pure (hQ false s.heap L es ep t (Heap.SameBut.refl a s.heap) R (fun _ => rfl) fun z => absurd hm z)
  dsimp only
  refine wpAny_bind (wpAny_setState_of ho hd R.fits ?_)
  dsimp only
  obtain ⟨q1, q2, q3, q4, q5, q6, q7, q8, q9⟩ := R.tab.put hK hb
  generalize t.put (way t.mask (kh P w k) K) = pt at q1 q3 q4 q5 q6 q7 q8 q9 ⊢
  obtain ⟨t1, p⟩ := pt
  dsimp only at q1 q3 q4 q5 q6 q7 q8 q9 ⊢
  subst q1
  generalize hpp : SetTable.below t.place (way t.mask (kh P w k) K) = p at q2 q3 ⊢
  have pm : (L.take p ++ (x, k) :: L.drop p).Perm ((x, k) :: L) := by
    have h : (L.take p ++ (x, k) :: L.drop p).Perm ((x, k) :: (L.take p ++ L.drop p)) := List.perm_middle
    rwa [List.take_append_drop] at h
  have hin : (SetTable.insertAt es p (kh P w k, Value.ref x)).toList = krows P w (L.take p ++ (x, k) :: L.drop p) := by
    rw [SetTable.toList_insertAt, R.rows]
    simp [krows]
  have hhs : (L.take p ++ (x, k) :: L.drop p).map (fun p => kh P w p.2) = (L.map fun p => kh P w p.2).take p ++ kh P w k :: (L.map fun p => kh P w p.2).drop p := by simp
  rw [← hhs] at q3
  generalize SetTable.insertAt es p (kh P w k, Value.ref x) = es1 at hin ⊢
  generalize L.take p ++ (x, k) :: L.drop p = L1 at pm q3 hin
  have hlen : L1.length = L.length + 1 := pm.length_eq
  have hes : es1.size = L.length + 1 := by rw [rows_size hin, hlen]
  have nd1 : (L1.map (·.2)).Nodup := by
    refine (pm.map (·.2)).nodup_iff.mpr ?_
    rw [List.map_cons]
    exact List.nodup_cons.mpr ⟨hm, R.nd⟩
  rw [List.length_map] at q9
  -- the table, by value or not
  have go : ∀ t2 : SetTable, TabOk t2 (L1.map fun p => kh P w p.2) → t2.mask = t.mask → t2.led = t.led → t2.tooFull = t1.tooFull → wpAny (model P w) A (do
      storeSet a es1 t2
      if (!false && t2.tooFull) = true then do
        setRelay a (SetTable.grown (es.size + 1))
        pure true
      else pure true) Q E s := fun t2 T2 m2 l2 f2 => by
    refine wpAny_bind (wpAny_storeSet_of ho hd ?_ (by rw [hes, sizeLine_eq]; omega))
    have sb : Heap.SameBut a s.heap (s.heap.update a (Obj.putSet es1 t2)) := Heap.SameBut.update ..
    have ho1 := store_at (es' := es1) (t' := t2) ho hd
    generalize s.heap.update a (Obj.putSet es1 t2) = h1 at sb ho1 ⊢
    have tup1 : ∀ p ∈ L1, KTup P w h1 p.2 p.1 := fun p hp => by
      rcases List.mem_cons.mp (pm.mem_iff.mp hp) with e | hp
      · rw [e]; exact ktup_same hx ho hd sb
      · exact ktup_same (R.tup p hp) ho hd sb
    have ld1 : w.params.followText "set-order" = true ∨ t2.led = true := by rw [l2]; exact R.led
    by_cases hf : t1.tooFull = true
    · refine wp_if_pos (by rw [f2]; simp [hf]) (wpAny_bind ?_)
      have hfull : (L.length + 1) * 5 ≥ t.mask * 3 := by
        have h := hf
        unfold SetTable.tooFull at h
        rw [decide_eq_true_eq, q9, q4] at h
        exact h
      rw [hsl]
      have hsz1 : t2.place.size = es1.size := by
        have h := T2.sz
        rw [List.length_map, hlen] at h
        rw [h, hes]
      have relay : ∀ M, SetTable.sizeAbove (SetTable.grown (L.length + 1)) - 1 = M → MaskOk M → SetTable.sizeAbove (SetTable.grown (L.length + 1)) ≤ 128 → (L.length + 1) * 5 < M * 3 →
          wpAny (model P w) A (setRelay a (SetTable.grown (L.length + 1))) (fun _ s' => wpAny (model P w) A (pure true) Q E s') E { s with heap := h1 } := fun M h1' h2' h3' h4' => by
        refine krelay (s := { s with heap := h1 }) ho1 ⟨hex.1, hex.2.1, hex.2.2⟩ rfl hin hsz1 T2.dm (by rw [hes, m2]; omega) nd1 tup1 ld1 (by rw [hlen]; exact hfew) h1' h2' h3' (by rw [hlen]; exact h4') ?_
        intro h2 L2 es2 ep2 t3 sb2 R2 pm2
        exact wpAny_pure (hQ true h2 L2 es2 ep2 t3 (sb.trans sb2) R2 (fun z => absurd z hm) fun _ => pm2.trans pm)
      rcases R.tab.mok with e | e | e
      · have e2 : L.length = 4 := by omega
        exact relay 31 (by rw [e2, size_20]) (.inr (.inl rfl)) (by rw [e2, size_20]; decide) (by omega)
      · have e2 : L.length = 18 := by omega
        exact relay 127 (by rw [e2, size_76]) (.inr (.inr rfl)) (by rw [e2, size_76]; decide) (by omega)
      · omega
    · refine wp_if_neg (by rw [f2]; simp [hf]) (wpAny_pure (hQ true h1 L1 es1 (ep + 1) t2 sb ⟨⟨⟨_, ho1, ⟨hex.1, hex.2.1, hex.2.2⟩, rfl⟩, hin, T2, nd1, ld1, ?_, by rw [hlen]; exact hfew⟩, tup1⟩ (fun z => absurd z hm) fun _ => pm))
      have h := hf
      unfold SetTable.tooFull at h
      rw [decide_eq_true_eq, q9, q4] at h
      rw [hlen, m2]
      omega
  have off : TabOk { t1 with plain := false } (L1.map fun p => kh P w p.2) := ⟨q3.ris, q3.dm, q3.sz, q3.mok, q3.bd, q3.reach⟩
  have last : ∀ bo : Bool, wpAny (model P w) A (do
      storeSet a es1 (if bo = true then t1 else { t1 with plain := false })
      if (!false && (if bo = true then t1 else { t1 with plain := false }).tooFull) = true then do
        setRelay a (SetTable.grown (es.size + 1))
        pure true
      else pure true) Q E s := fun bo => by
    cases bo with
    | true => exact go t1 q3 q4 q5 rfl
    | false => exact go { t1 with plain := false } off q4 q5 rfl
  by_cases hpl : t1.plain = true
  · rw [if_pos hpl]
    exact wpAny_bind (khashBy hx fun bo => last bo)
  · rw [if_neg hpl]
    exact wpAny_bind (wpAny_pure (last true))
/-- what the set has got of the first items -/
structure KGot (xs : List KB) (i : Nat) (L : List KB) : Prop where
  sub : ∀ p ∈ L, p ∈ xs.take i
  all : ∀ p ∈ xs.take i, p.2 ∈ L.map (·.2)
  len : L.length ≤ i
def KSetG (P : Program) (w : World) (h : Heap) (a : Addr) (xs : List KB) (i : Nat) : Prop := ∃ L es ep t, KSet P w h a L es ep t ∧ KGot xs i L
theorem kset_loop {I : Addr} {fp wr : List Addr} {G : Array GenState → Array GenState → Prop} {n : Nat} {Pv : Nat → Value → Prop} {St : Nat → Shared → Prop} {R : Result → Shared → Prop}
    (W : WalksS P w A.in1 I fp wr G n Pv St) (S : Addr) (zS : S ∉ fp) (xs : List KB) (zn : n = xs.length) (zb : xs.length < 64) (zv : ∀ i v, Pv i v → ∃ p, xs[i]? = some p ∧ v = .ref p.1)
    (h0 : Heap) (z0 : ∀ p ∈ xs, KTup P w h0 p.2 p.1) (zS0 : h0.get? S = none) (zw0 : ∀ b ∈ wr, h0.get? b = none) (hu : A.in1.units < cLine) :
    ∀ (k i : Nat) (s : Shared), n - i = k → i ≤ n → St i s → (∀ b o, h0.get? b = some o → s.heap.get? b = some o) → KSetG P w s.heap S xs i →
      (∀ s', Moved (S :: wr) G s s' → KSetG P w s'.heap S xs n → (∀ b o, h0.get? b = some o → s'.heap.get? b = some o) → R (.ok (.ret .none)) s') →
      codeAny (model P w) A (.builtin "set.update.loop" ⟨[.ref S, .ref I], []⟩) R s := by
  have zSw : S ∉ wr := fun h => zS (W.sub _ h)
  have zsub : ∀ b ∈ wr, b ∈ S :: wr := fun b hb => List.mem_cons_of_mem _ hb
  have kept : ∀ {s s' : Shared}, Moved wr G s s' → (∀ b o, h0.get? b = some o → s.heap.get? b = some o) → ∀ b o, h0.get? b = some o → s'.heap.get? b = some o := fun zm zk b o e =>
    zm.heap b o (fun hb => by rw [zw0 b hb] at e; cases e) (zk b o e)
  have move : ∀ {s s' : Shared} {i : Nat}, Moved wr G s s' → (∀ b o, h0.get? b = some o → s'.heap.get? b = some o) → KSetG P w s.heap S xs i → KSetG P w s'.heap S xs i := fun zm zk ⟨L, es, ep, t, zH, g⟩ =>
    ⟨L, es, ep, t, zH.keep (fun o e => zm.heap S o zSw e) fun p hp => ktup_keep (z0 p (List.mem_of_mem_take (g.sub p hp))) zk, g⟩
  intro k
  induction k with
  | zero =>
    intro i s e1 e2 st zk zH zR
    have ei : i = n := by omega
    subst ei
    refine codeAny_builtin F.entry_set_update_loop ?_
    rw [Around.under_plainId F.plain_set_update_loop _]
    show wpAny _ A.in1 (pyNext (.ref I) >>= _) _ _ s
    refine wpAny_bind (W.done s _ _ st fun s' zm => ?_)
    show wpAny _ A.in1 (ret Value.none) _ _ s'
    exact wpAny_pure (zR s' (zm.mono zsub) (move zm (kept zm zk) zH) (kept zm zk))
  | succ k ih =>
    intro i s e1 e2 st zk zH zR
    have hlt : i < n := by omega
    refine codeAny_builtin F.entry_set_update_loop ?_
    rw [Around.under_plainId F.plain_set_update_loop _]
    show wpAny _ A.in1 (pyNext (.ref I) >>= _) _ _ s
    refine wpAny_bind (W.item i s _ _ hlt st fun v s' hP st' zm => ?_)
    obtain ⟨p, hp, rfl⟩ := zv i v hP
    have zk' := kept zm zk
    obtain ⟨L, es, ep, t, zH', g⟩ := move zm zk' zH
    have hx : KTup P w s'.heap p.2 p.1 := ktup_keep (z0 p (List.mem_of_getElem? hp)) zk'
    have et : xs.take (i + 1) = xs.take i ++ [p] := by rw [List.take_add_one, hp]; rfl
    show wpAny _ A.in1 (holding [Value.ref p.1] (setAdd S (.ref p.1)) >>= _) _ _ s'
    refine wpAny_bind (wpAny_holding ?_)
    unfold setAdd
    refine wpAny_holding (wpAny_bind (wpAny_pyHash_tuple hu hx ?_))
    refine kadd (s := { s' with toks := s'.toks + (p.2.length + 1) }) zH' hx hu (by have := g.len; omega) fun b h' L' es' ep' t' sb zH2 c1 c2 => ?_
    have zk2 : ∀ b o, h0.get? b = some o → h'.get? b = some o := fun b o e => (sb.2 b (fun z => by rw [z, zS0] at e; cases e)).trans (zk' b o e)
    have g2 : KGot xs (i + 1) L' := by
      by_cases c : p.2 ∈ L.map (·.2)
      · rw [c1 c]
        refine ⟨fun q hq => by rw [et]; exact List.mem_append_left _ (g.sub q hq), fun q hq => ?_, by have := g.len; omega⟩
        rw [et] at hq
        rcases List.mem_append.mp hq with hq | hq
        · exact g.all q hq
        · rw [List.mem_singleton.mp hq]; exact c
      · have pm := c2 c
        refine ⟨fun q hq => ?_, fun q hq => ?_, by rw [pm.length_eq, List.length_cons]; have := g.len; omega⟩
        · rw [et]
          rcases List.mem_cons.mp (pm.mem_iff.mp hq) with rfl | hq
          · exact List.mem_append_right _ (by cases p; simp)
          · exact List.mem_append_left _ (g.sub q hq)
        · rw [(pm.map (·.2)).mem_iff, List.map_cons]
          rw [et] at hq
          rcases List.mem_append.mp hq with hq | hq
          · exact List.mem_cons_of_mem _ (g.all q hq)
          · rw [List.mem_singleton.mp hq]; exact List.mem_cons_self
    refine wpAny_pure ⟨plainId_quiet F.plain_set_update_loop _, ih (i + 1) _ (by omega) hlt (W.frame _ s' _ _ st' (Nat.le_add_right _ _) fun b hb o e => ?_) zk2 ⟨L', es', ep', t', zH2, g2⟩ fun s2 zm2 zH3 zk3 => ?_⟩
    · rw [sb.2 b (fun h : b = S => zS (by rw [← h]; exact hb))]; exact e
    · refine zR s2 (Moved.trans W.gtrans ((zm.mono zsub).then_heap (Nat.le_add_right _ _) fun b o hb e => ?_) zm2) zH3 zk3
      rw [sb.2 b (fun h : b = S => hb (by rw [h]; exact List.mem_cons_self))]; exact e
theorem kset_new {h : Heap} {a : Addr} {xs : List KB} (ho : h.get? a = some (eSet w)) : KSetG P w h a xs 0 := by
  refine ⟨[], #[], 0, _, ⟨⟨⟨_, ho, ⟨rfl, rfl, rfl⟩, rfl⟩, rfl, ⟨List.Pairwise.nil, rfl, rfl, .inl rfl, fun x hx => (by cases hx), fun i h j hi => (by simp at hi)⟩, List.nodup_nil, ?_, by show 0 * 5 < 7 * 3; decide, by decide⟩, fun p hp => (by cases hp)⟩, ⟨fun p hp => (by cases hp), fun p hp => (by simp at hp), Nat.le_refl _⟩⟩
  show _ ∨ (!w.params.followText "set-order") = true
  cases w.params.followText "set-order"
  · exact .inr rfl
  · exact .inl rfl
theorem call_set_lstK {l : Addr} {its : Array Value} (xs : List KB) {Q : Value → Shared → Prop} (zh : A.handled = none) (zl : s.heap.IsList l its) (zit : its.toList = xs.map fun p => Value.ref p.1) (zb : xs.length < 64)
    (z0 : ∀ p ∈ xs, KTup P w s.heap p.2 p.1) (hu : A.units + 3 < cLine)
    (h : ∀ (h' : Heap) (tk1 : Nat), KSetG P w h' s.heap.objs.size xs xs.length → (∀ b o, s.heap.get? b = some o → h'.get? b = some o) → Q (.ref s.heap.objs.size) { s with heap := h', toks := tk1 }) : wpAny (model P w) A (call (.type "set") [.ref l]) Q E s := by
  have zsz : its.size = xs.length := by
    have q := congrArg List.length zit
    rw [Array.length_toList, List.length_map] at q
    exact q
  obtain ⟨c, tl, zmro⟩ := F.called_set.mro
  have zmade := F.called_set.made
  have zsub := F.called_set.sub
  (refine wpAny_call (codeAny_of_tree ?_))
  (show wpAny _ _ (callAny (.type "set") _) _ _ _)
  (refine wpAny_pure ⟨Code.quiet_builtin _ (by decide +kernel), codeAny_builtin F.entry_type_call ?_⟩)
  (rw [Around.under_plain (weight_type_call_type "set" [.ref l] []) rfl])
  have z1 := F.called_set.notType
  have z2 := F.called_set.canCreate
  have zct := F.typeCall_set_1 (.ref l)
  (repeat (any_goals (first | assumption | wp_step)))
  refine codeAny_mono (code_set_led1 (.ref l) (E := E) (Q₁ := fun ob s1 => ob = .ref s.heap.objs.size ∧ s1 = { s with heap := s.heap.push (eSet w) }) ⟨rfl, rfl⟩) fun r s1 zr => ?_
  cases r with
  | error e => exact zr
  | ok fl1 =>
    cases fl1 with
    | ret ob =>
      obtain ⟨rfl, rfl⟩ := zr
      have zS : (s.heap.push (eSet w)).get? s.heap.objs.size = some (eSet w) := Heap.get?_push_size _ rfl
      have zT : Shared.TypeIs { s with heap := s.heap.push (eSet w) } (.ref s.heap.objs.size) "set" := ⟨_, zS, rfl⟩
      have zli := F.called_set.init.lookup
      have zbi := F.called_set.init.bind (.ref s.heap.objs.size)
      (repeat (any_goals (first | assumption | wp_step)))
      refine codeAny_mono (codeAny_call_builtin (R := wants (fun r s2 => r = .none ∧ ∃ h' tk1, s2 = { s with heap := h', toks := tk1 } ∧ KSetG P w h' s.heap.objs.size xs xs.length ∧
          (∀ b o, s.heap.get? b = some o → h'.get? b = some o)) E) F.called_set.init.plain F.entry_set_init (check_set_init_1 zT ?_)) fun r2 s2 zr2 => ?_
      · obtain ⟨zo, zol, zcl, zn, zdl⟩ := zl
        obtain ⟨zc1, zc2, zc3, zc4⟩ := zo
        simp only at zcl zdl
        subst zcl; subst zdl
        have zol' : (s.heap.push (eSet w)).get? l = some { cls := .type "list", dict := zc2, data := .seq its zn, slots := zc4 } := Heap.get?_push_of_some _ zol
        have zs1 := F.sub_list_set
        have zs2 := F.sub_list_frozenset
        have zne : (Value.type "list" == Value.type "dict") = false := by decide
        have zl1 : (s.heap.push (eSet w)).IsList l its := ⟨_, zol', rfl, zn, rfl⟩
        (unfold Builtin.«set.__init__» noKeywords Builtin.Frozenset.updateFrom)
        generalize zPI : pyIter = ZI
        wp_walk
        subst zPI
        refine wpAny_pyIter_list zl1 ?_
        (refine wpAny_bind (wpAny_runValue ?_))
        have zlS : l < s.heap.objs.size := Heap.lt_size zol
        have zh3 : A.in1.in1.in1.handled = none := by simp [zh]
        have zneI : l ≠ (s.heap.push (eSet w)).objs.size := by
          rw [Heap.size_push]; exact Nat.ne_of_lt (Nat.lt_succ_of_lt zlS)
        have zSf : s.heap.objs.size ∉ [(s.heap.push (eSet w)).objs.size, l] := by
          (rw [Heap.size_push]; simp only [List.mem_cons, List.mem_singleton, List.not_mem_nil, or_false, not_or])
          exact ⟨Nat.ne_of_lt (Nat.lt_succ_self _), Nat.ne_of_gt zlS⟩
        have zval : ∀ (i : Nat) (v : Value), its[i]? = some v → ∃ p, xs[i]? = some p ∧ v = .ref p.1 := fun i v zv => by
          have q : its.toList[i]? = some v := by rw [Array.getElem?_toList]; exact zv
          rw [zit, List.getElem?_map] at q
          obtain ⟨p, hp, rfl⟩ := Option.map_eq_some_iff.mp q
          exact ⟨p, hp, rfl⟩
        have znone : ∀ b, s.heap.objs.size ≤ b → s.heap.get? b = none := fun b hb => by
          cases q : s.heap.get? b with
          | none => rfl
          | some o => exact absurd (Nat.lt_of_lt_of_le (Heap.lt_size q) hb) (Nat.lt_irrefl _)
        refine kset_loop ((Walks.list zh3 _ l zneI its).toS) s.heap.objs.size
          zSf xs zsz zb zval s.heap z0 (znone _ (Nat.le_refl _)) (fun b hb => znone b (by
            rw [List.mem_singleton.mp hb, Heap.size_push]
            exact Nat.le_succ _)) hu (its.size - 0) 0 _ (by omega) (Nat.zero_le _)
          ⟨⟨_, Heap.get?_push_size _ rfl, rfl, rfl⟩, (zl1.push _)⟩ (fun b o e => Heap.get?_push_of_some _ (Heap.get?_push_of_some _ e)) ?hS0 ?hR
        case hS0 =>
          have zget : ((s.heap.push (eSet w)).push { cls := .type "list_iterator", data := .fields #[.ref l, .int 0 0] }).get? s.heap.objs.size
              = some (eSet w) := Heap.get?_push_of_some _ zS
          exact kset_new zget
        case hR =>
          intro s' zm zS' zk
          obtain ⟨h', q2, q3, q4, q5⟩ := s'
          have y1 : q2 = s.gens := zm.gens
          have y2 : q3 = s.drawn := zm.drawn
          have y3 : q5 = s.os := zm.os
          subst y1; subst y2; subst y3
          show wpAny _ _ _ _ _ _
          refine wpAny_pure ?_
          (show wpAny _ _ (ret Value.none) _ _ _)
          rw [zsz] at zS'
          exact wpAny_pure ⟨rfl, h', q4, rfl, zS', zk⟩
      · cases r2 with
        | error e => exact zr2
        | ok fl2 =>
          cases fl2 with
          | ret r =>
            obtain ⟨rfl, h', tk1, rfl, zS', zk'⟩ := zr2
            (repeat (any_goals (first | assumption | wp_step)))
            exact h _ _ zS' zk'
          | _ => exact zr2.elim
    | _ => exact zr.elim
theorem perm_map_inv {α β : Type} {f : α → β} {vs ws : List β} (h : vs.Perm ws) : ∀ L : List α, ws = L.map f → ∃ bs : List α, bs.Perm L ∧ vs = bs.map f := by
  induction h with
  | nil => intro L e; cases L with
    | nil => exact ⟨[], .nil, rfl⟩
    | cons a l => cases e
  | cons x _ ih => intro L e; cases L with
    | nil => cases e
    | cons a l =>
      injection e with e1 e2
      obtain ⟨bs, p, q⟩ := ih l e2
      exact ⟨a :: bs, p.cons a, by rw [List.map_cons, e1, q]⟩
  | swap x y l => intro L e
                  match L, e with
                  | a :: b :: r, e =>
                    injection e with e1 e2
                    injection e2 with e2 e3
                    exact ⟨b :: a :: r, .swap a b r, by rw [List.map_cons, List.map_cons, ← e1, ← e2, e3]⟩
  | trans _ _ i1 i2 =>
    intro L e
    obtain ⟨b2, p2, q2⟩ := i2 L e
    obtain ⟨b1, p1, q1⟩ := i1 b2 q2
    exact ⟨b1, p1.trans p2, q1⟩
end
end DL
end
section
set_option Elab.async false
set_option linter.all false
set_option maxRecDepth 100000
set_option maxHeartbeats 4000000
namespace DL
open PySem PySem.Spec PyProof.Rows L2
def SetKO (P : Program) (w : World) (a : Addr) (L : List KB) : HO := .ext fun h => ∃ es ep t, KSet0 P w h a L es ep t
section
variable {X : Cx} {pos : Pos}
theorem setKO_new {P : Program} {w : World} {H : Hp} {h : Heap} {a : Addr} {L : List KB} {es : Array (Int × Value)} {ep : Nat} {t : SetTable} (R : KSet0 P w h a L es ep t) : ObjOk P w H h a (SetKO P w a L) := by
  have ⟨o, ho, _⟩ := R.ob
  exact ⟨⟨es, ep, t, R⟩, ⟨o, ho⟩, fun h1 h2 ⟨es', ep', t', ⟨⟨o', ho', r⟩, r1, r2, r3, r4, r5, r6⟩⟩ k => ⟨es', ep', t', ⟨⟨o', k o' ho', r⟩, r1, r2, r3, r4, r5, r6⟩⟩⟩
theorem items_key {P : Program} {w : World} : ∀ {k : List Key} {us : List Value}, Vals (k.map kV) us → ItemsAre (mixKind P w) k us
  | [], _, r => by cases r; exact .nil
  | k :: ks, _, r => by
    cases r with
    | cons r1 r2 =>
      refine .cons ?_ (items_key r2)
      cases k with
      | inl i => obtain ⟨t, rfl⟩ := r1; exact keyIs_int i t
      | inr x => obtain ⟨t, rfl⟩ := r1; exact keyIs_str x t
theorem inv_ktup {pins : List (Addr × Obj)} {σ : L2.St} {H : Hp} {s : Shared} {b : Addr} {k : List Key} (I : Inv X pins σ H s) (h : H b = some (.tup (k.map kV))) : KTup X.prog X.w s.heap k b := by
  obtain ⟨its, r, ⟨o, ho, hc, n, hd⟩, _⟩ := I.tuple (.inl (.inl h))
  exact ⟨o, its.toArray, n, ho, hc, hd, by simpa using items_key r⟩
theorem refs_of : ∀ {xs : List KB} {us : List Value}, Vals (xs.map fun p => V.ref p.1) us → us = xs.map fun p => Value.ref p.1
  | [], _, r => by cases r; rfl
  | p :: xs, _, r => by
    cases r with
    | cons r1 r2 =>
      have e1 := refs_of r2
      subst e1
      cases r1
      rfl
def rSetLK (P : Program) (w : World) (K : PySem.W.Frag) : List V → Hp → VK → Prop := fun vs H Q => ∃ (l : Addr) (xs : List KB), vs = [.ref l] ∧ SqL K H l (xs.map fun p => V.ref p.1) ∧ (∀ p ∈ xs, H p.1 = some (.tup (p.2.map kV))) ∧ xs.length < 64 ∧
  ∀ a L, H a = none → (L.map (·.2)).Nodup → (∀ p ∈ L, p ∈ xs) → (∀ p ∈ xs, p.2 ∈ L.map (·.2)) → Q (.ref a) (upd H a (SetKO P w a L))
theorem cr_setLK (hc : X.calm = true) (hu : X.A.units + 100 < cLine) : CallR X (.type "set") (rSetLK X.prog X.w X.K) := by
  intro pins s σ H vs us Q I r h
  obtain ⟨l, xs, rfl, hl, hk, hf, q⟩ := h
  rw [Vals.ref1 r]
  obtain ⟨its, rv, pl, hz⟩ := I.list hl
  have hits := refs_of rv
  refine call_set_lstK (P := X.prog) (w := X.w) xs (I.ok.hd hc) pl.isList (by simpa using hits) hf (fun p hp => inv_ktup I (hk p hp)) (by omega) fun h' tk R k => ?_
  obtain ⟨L, es, ep, t, zH, g⟩ := R
  refine ⟨.ref _, _, I.laid (t' := tk) k (Nat.le_refl _) (setKO_new zH.toKSet0), rfl, q _ L (I.hok.fresh (Nat.le_refl _)) zH.nd (fun p hp => ?_) fun p hp => ?_⟩
  · exact List.mem_of_mem_take (g.sub p hp)
  · exact g.all p (by rw [List.take_length]; exact hp)
def rSortedKS (P : Program) (w : World) : List V → Hp → VK → Prop := fun vs H Q => ∃ (a : Addr) (L : List KB), vs = [V.ref a] ∧ H a = some (SetKO P w a L) ∧ (∀ p ∈ L, H p.1 = some (.tup (p.2.map kV))) ∧ (∀ bs : List KB, bs.Perm L → okS (bs.map fun p => ktD p.2) = true) ∧
  ∀ (bs : List KB) (p : Addr), bs.Perm L → H p = none → Q (.ref p) (upd H p (.lst ((bs.mergeSort (PySem.W.dataLe false encK)).map fun b => V.ref b.1)))
theorem cr_sortedKS (hu : X.A.units + 100 < cLine) (hc : X.calm = true) : CallR X (.builtin "sorted") (rSortedKS X.prog X.w) := by
  intro pins s σ H vs us Q I r h
  obtain ⟨a, L, rfl, ha, hk, hok, q⟩ := h
  obtain ⟨⟨es, ep, t, R⟩, _⟩ := (show ObjOk X.prog X.w H s.heap a (SetKO X.prog X.w a L) from I.hok a _ ha)
  rw [Vals.ref1 r]
  obtain ⟨o, ho, hex, hd⟩ := R.ob
  have hfew := R.few
  refine Calls.call_function_entry kind_sorted plain_sorted entry_sorted (args_sorted1 _) ?_
  unfold Builtin.«sorted»
  refine wpAny_bind (m := checkCount "sorted" 1 1 _) (wpAny_pure ?_)
  refine wpAny_bind (collect_set (A := X.A.in1) (I.ok.hd hc) ⟨o, ho, hex.1, hd⟩ R.fits (by rw [rows_size R.rows]; unfold scanBound; omega) R.tab.ris R.led fun s1 vs k1 hz g1 os1 pm => ?_)
  have hes : es.toList.map (·.2) = L.map fun q => Value.ref q.1 := by
    rw [R.rows]
    unfold krows
    rw [List.map_map]
    rfl
  rw [hes] at pm
  obtain ⟨bs, pb, rfl⟩ := perm_map_inv pm L rfl
  have hbl : bs.length < 64 := by rw [pb.length_eq]; exact hfew
  obtain ⟨o1, o2, o3, o4⟩ := okS_of (hok bs pb)
  have em : bs.map encK = (bs.map fun x => ktD x.2).map D.py := by rw [List.map_map]; rfl
  have hzl : bs.length ≤ sizeLine := by rw [sizeLine_eq]; omega
  refine wpAny_bind (wpAny_newList ?_ (by rw [List.length_map]; exact hzl))
  have hoL : (s1.heap.push (seqObj "list" (bs.map fun b => Value.ref b.1).toArray 0)).get? s1.heap.objs.size = some (seqObj "list" (bs.map fun b => Value.ref b.1).toArray 0) := Heap.get?_push_size _ rfl
  refine wpAny_bind (wpAny_holding (PySem.W.list_sort_data (R := fun (v : Value) (b : KB) => v = .ref b.1) (enc := encK) (bs := bs) hoL (each_ref bs) (each_all fun b hb => ?_) (by rw [em]; exact o2) (by rw [em]; exact o4) hzl (fun b hb => ?_) fun out hlen' ho' => ?_))
  · obtain ⟨its, rv, ⟨ob, h1, h2, n, h3⟩, _⟩ := I.tuple (.inl (.inl (hk b (pb.mem_iff.mp hb))))
    exact ⟨[], Reads.tuple (Heap.get?_push_of_some _ (k1 _ _ h1)) h2 h3 (key_reads rv), by simp⟩
  · have hm : ktD b.2 ∈ bs.map fun x => ktD x.2 := List.mem_map.mpr ⟨b, hb, rfl⟩
    have := o3 _ hm
    show X.A.units + 1 + 1 + (ktD b.2).py.depth < cLine
    omega
  obtain ⟨e', he'⟩ := PyProof.Rows.sortedHeap_at (vs := bs.map fun b => Value.ref b.1) (out := out.toArray) hoL
  have hlo : ((bs.mergeSort (PySem.W.dataLe false encK)).map fun b => V.ref b.1).length ≤ sizeLine := by
    rw [List.length_map, List.length_mergeSort]
    exact hzl
  have hn : H s1.heap.objs.size = none := I.hok.fresh hz
  have up : ∀ b o, s.heap.get? b = some o → (PyProof.Rows.sortedHeap (s1.heap.push (seqObj "list" (bs.map fun b => Value.ref b.1).toArray 0)) s1.heap.objs.size (bs.map fun b => Value.ref b.1) out.toArray).get? b = some o := fun b u e => by
    have hb : b < s1.heap.objs.size := Nat.lt_of_lt_of_le (Heap.lt_size e) hz
    rw [PyProof.Rows.sortedHeap_old (Nat.ne_of_lt hb) (by rw [size_push']; exact Nat.lt_succ_of_lt hb)]
    exact Heap.get?_push_of_some _ (k1 _ _ e)
  have J : Inv X pins σ (upd H s1.heap.objs.size (.lst ((bs.mergeSort (PySem.W.dataLe false encK)).map fun b => V.ref b.1))) { s with heap := PyProof.Rows.sortedHeap (s1.heap.push (seqObj "list" (bs.map fun b => Value.ref b.1).toArray 0)) s1.heap.objs.size (bs.map fun b => Value.ref b.1) out.toArray, gens := s1.gens, drawn := s1.drawn, toks := s1.toks } :=
    I.call (ch := []) (Un.laid up hz hn) (I.hok.laid up hz (show ObjOk X.prog X.w _ _ _ (.lst _) from ⟨hlo, out, e', vals_ref ho', he'⟩)) (by rw [g1]; exact I.bare) (fun _ z => nomatch z)
  obtain ⟨q1, q2, q3, q4, q5⟩ := s1
  have y3 : q5 = s.os := os1
  subst y3
  refine wpAny_pure ⟨_, rfl, ?_⟩
  exact ⟨.ref _, _, J, rfl, q bs _ pb hn⟩
theorem Rep.tupOf {K : PySem.W.Frag} {F H : Hp} (e : Ex F H) : ∀ {vs : List V} {ks : List (List Key)}, Reps K F vs (ks.map ktD) → ∃ xs : List KB, vs = xs.map (fun p => V.ref p.1) ∧ xs.map (·.2) = ks ∧ ∀ p ∈ xs, F p.1 = some (.tup (p.2.map kV))
  | _, [], r => by cases r; exact ⟨[], rfl, rfl, by simp⟩
  | _, k :: ks, r => by
    cases r with
    | cons r1 r2 =>
      obtain ⟨xs, rfl, h1, h2⟩ := Rep.tupOf e r2
      unfold ktD at r1
      cases r1 with
      | tup hb rs =>
        rename_i a vs
        have ev : vs = k.map kV := by
          clear hb
          induction k generalizing vs with
          | nil => cases rs; rfl
          | cons c k ih =>
            cases rs with
            | cons a b =>
              rw [ih b]
              cases c with
              | inl i => cases a; rfl
              | inr x => cases a; rfl
        refine ⟨(a, k) :: xs, rfl, by rw [List.map_cons, h1], fun p hp => ?_⟩
        rcases List.mem_cons.mp hp with rfl | hp
        · rw [ev] at hb; exact hb
        · exact h2 p hp
def keyss : List D → Option (List (List Key))
  | [] => some []
  | .tup ds :: r => (match D.keys ds, keyss r with
    | some k, some ks => some (k :: ks)
    | _, _ => none)
  | _ :: _ => none
theorem D.keys_map : ∀ {ds : List D} {k : List Key}, D.keys ds = some k → ds = k.map keyD
  | [], k, h => by cases h; rfl
  | d :: ds, k, h => by
    simp only [D.keys] at h
    split at h
    · rename_i a b h1 h2
      cases h
      rw [List.map_cons, ← D.keys_map h2]
      congr 1
      cases d <;> simp [D.key] at h1 <;> subst h1 <;> rfl
    · cases h
theorem keyss_map : ∀ {ds : List D} {ks : List (List Key)}, keyss ds = some ks → ds = ks.map ktD
  | [], ks, h => by cases h; rfl
  | d :: ds, ks, h => by
    cases d with
    | tup xs =>
      simp only [keyss] at h
      split at h
      · rename_i k r h1 h2
        cases h
        rw [List.map_cons, ← keyss_map h2]
        show D.tup xs :: ds = D.tup (k.map keyD) :: ds
        rw [← D.keys_map h1]
      · cases h
    | _ => simp [keyss] at h
theorem keyss_ktD : ∀ ks : List (List Key), keyss (ks.map ktD) = some ks
  | [] => rfl
  | k :: ks => by
    show (match D.keys (k.map keyD), keyss (ks.map ktD) with | some k, some ks => some (k :: ks) | _, _ => none) = _
    rw [keysD_keys, keyss_ktD ks]
/-- sorted(set(l)) -/
def dSortSetK (te : DTE) : DTE := fun S G Q => te S G fun d G1 => match d.cur G1 with
  | .lst xs => (match keyss xs with
    | some ks => ks.length < 64 ∧ (∀ zs : List (List Key), (∀ k ∈ zs, k ∈ ks) → okS (zs.map ktD) = true) ∧ ∀ zs : List (List Key), zs.Nodup → (∀ k, k ∈ zs ↔ k ∈ ks) → Q (.lst (sortD (zs.map ktD))) G1
    | none => False)
  | _ => False
theorem de_sortSetK {e : Expr} {te : DTE} {p q p2 : Pos} (hu : X.A.units + 100 < cLine) (hc : X.calm = true) (hg : Gl X "sorted") (hm : X.mg "sorted" = none) (hg2 : Gl X "set") (hm2 : X.mg "set" = none) (ha : DE X e te)
    (na : starEach [e] X.env = (false, eval e X.env) :: starEach [] X.env := by rfl)
    (nb : starEach [.Call (.Name "set" p2) [e] [] q] X.env = (false, eval (.Call (.Name "set" p2) [e] [] q) X.env) :: starEach [] X.env := by rfl) : DE X (.Call (.Name "sorted" p) [.Call (.Name "set" p2) [e] [] q] [] pos) (dSortSetK te) := by
  obtain ⟨t, p1, r1⟩ := ha.ex
  have ps := pe_callTy (pos := q) (p := p2) (cr_setLK hc hu) hg2 hm2 PyProof.Rows.boot_set (pa_cons p1 pa_nil na) (by decide) (by decide) na (by rfl)
  have pp := pe_callB (pos := pos) (p := p) (cr_sortedKS hu hc) hg hm PyProof.Rows.boot_sorted (pa_cons ps pa_nil nb) (by decide) (by decide) nb (by rfl)
  refine ⟨_, pp, fun F H σ S G o Q' h Q k => ?_⟩
  refine r1 F H σ S G o _ h _ fun F1 H1 v d G1 e1 g1 q1 h1 => ?_
  dsimp only at h1
  split at h1
  · rename_i xs ex
    split at h1
    · rename_i ks en
      obtain ⟨h64, hok, hQ⟩ := h1
      obtain ⟨a, vs, rfl, ha, rs⟩ := cur_list g1 q1 ex
      rw [keyss_map en] at rs
      obtain ⟨bs, rfl, hks, hF⟩ := Rep.tupOf g1.ex rs
      have hl : bs.length = ks.length := by rw [← hks, List.length_map]
      refine ⟨a, bs, rfl, .inl (.inl ha), fun p hp => g1.ex _ _ (hF p hp), by omega, fun z L hz nd sub all => ?_⟩
      have hin : ∀ cs : List KB, cs.Perm L → ∀ k ∈ cs.map (·.2), k ∈ ks := fun cs pc k hk => by
        obtain ⟨p, hp, rfl⟩ := List.mem_map.mp hk
        rw [← hks]
        exact List.mem_map.mpr ⟨p, sub p (pc.mem_iff.mp hp), rfl⟩
      have em : ∀ cs : List KB, (cs.map fun p => ktD p.2) = (cs.map (·.2)).map ktD := fun cs => by rw [List.map_map]; rfl
      refine ⟨z, L, rfl, upd_same, fun p hp => ?_, fun cs pc => by rw [em]; exact hok _ (hin cs pc), fun cs z2 pc hz2 => ?_⟩
      · have : p.1 ≠ z := fun w => by rw [← w, g1.ex _ _ (hF p (sub p hp))] at hz; cases hz
        rw [upd_ne this]
        exact g1.ex _ _ (hF p (sub p hp))
      have gr1 : Gr F1 H1 F1 (upd H1 z (SetKO X.prog X.w z L)) := ⟨Ex.refl _, g1.ex.trans (Ex.new hz), Ex.new hz, fun _ _ _ w => w⟩
      have g2 := g1.grow gr1
      have rr : Reps X.K F1 ((cs.mergeSort (PySem.W.dataLe false encK)).map fun b => V.ref b.1) (sortD ((cs.map (·.2)).map ktD)) := by
        have e3 := PySem.W.sort_maps (r := PySem.W.dataLe false encK) (s := D.le) (fun b : KB => ktD b.2) (l := cs) (fun a _ b _ => rfl)
        have e4 : sortD ((cs.map (·.2)).map ktD) = (cs.mergeSort (PySem.W.dataLe false encK)).map fun b => ktD b.2 := by rw [e3, ← em]; rfl
        rw [e4]
        exact reps_kb _ fun b hb => .tup (hF b (sub b (pc.mem_iff.mp ((List.mergeSort_perm _ _).mem_iff.mp hb)))) (keysD_rep _)
      have gr2 := Gr.new (u := .lst ((cs.mergeSort (PySem.W.dataLe false encK)).map fun b => V.ref b.1)) g2.ex hz2
      refine k _ _ _ _ G1 (e1.trans (gr1.go.trans gr2.go)) (g2.grow gr2) (.lst upd_same (rr.mono gr2.ff)) (hQ _ ((pc.map (·.2)).nodup_iff.mpr nd) fun k => ⟨hin cs pc k, fun hk => ?_⟩)
      rw [← hks] at hk
      obtain ⟨p, hp, rfl⟩ := List.mem_map.mp hk
      exact (pc.map (·.2)).mem_iff.mpr (all p hp)
    · exact h1.elim
  · exact h1.elim
end
end DL
end
section
set_option Elab.async false
set_option linter.all false
set_option maxRecDepth 100000
set_option maxHeartbeats 4000000
namespace DL
open PySem PySem.Spec PyProof.Rows L2
end DL
end
section
set_option Elab.async false
set_option linter.all false
set_option maxRecDepth 100000
set_option maxHeartbeats 4000000
namespace DL
open PySem PySem.Spec PyProof.Rows L2
end DL
end
section
set_option Elab.async false
set_option linter.all false
set_option maxRecDepth 100000
set_option maxHeartbeats 4000000
namespace DL
open PySem PySem.Spec PyProof.Rows L2
end DL
end
section
set_option Elab.async false
set_option linter.all false
set_option maxRecDepth 100000
set_option maxHeartbeats 4000000
namespace DL
open PySem PySem.Spec PyProof.Rows L2
end DL
end
section
set_option Elab.async false
set_option linter.all false
set_option maxRecDepth 100000
set_option maxHeartbeats 4000000
namespace DL
open PySem PySem.Spec PyProof.Rows L2
theorem Vals.at {vs : List V} {us : List Value} (r : Vals vs us) : ∀ {i : Nat} {u : Value}, us[i]? = some u → ∃ v, vs[i]? = some v ∧ RelV v u := by
  induction r with
  | nil => intro i u h; simp at h
  | cons a _ ih =>
    intro i u h
    cases i with
    | zero => simp at h; subst h; exact ⟨_, rfl, a⟩
    | succ i => simpa using ih (by simpa using h)
end DL
end
section
set_option Elab.async false
set_option linter.all false
set_option maxRecDepth 100000
set_option maxHeartbeats 4000000
namespace DL
open PySem PySem.Spec PyProof.Rows L2
end DL
end
section
set_option Elab.async false
set_option linter.all false
set_option maxRecDepth 100000
set_option maxHeartbeats 4000000
namespace DL
open PySem PySem.Spec PyProof.Rows L2
end DL
end
section
set_option Elab.async false
set_option linter.all false
set_option maxRecDepth 100000
set_option maxHeartbeats 4000000
namespace DL
open PySem PySem.Spec PyProof.Rows L2
end DL
end
section
set_option Elab.async false
set_option linter.all false
set_option maxRecDepth 100000
set_option maxHeartbeats 4000000
namespace DL
open PySem PySem.Spec PyProof.Rows L2
end DL
end
section
set_option Elab.async false
set_option linter.all false
set_option maxRecDepth 100000
set_option maxHeartbeats 4000000
namespace DL
open PySem PySem.Spec PyProof.Rows L2
mutual
def D.up : D → D
  | .tup ds => .kup (D.ups ds)
  | .kup ds => .kup (D.ups ds)
  | d => d
def D.ups : List D → List D
  | [] => []
  | d :: ds => d.up :: D.ups ds
end
mutual
theorem Rep.up {K : PySem.W.Frag} {F : Hp} : ∀ {v : V} {d : D}, Rep K F v d → Rep K F v d.up
  | _, _, .non => .non
  | _, _, .bl b => .bl b
  | _, _, .int i => .int i
  | _, _, .str x => .str x
  | _, _, .ty n => .ty n
  | _, _, .tup q r => .kup (.inl (.inl q)) (Reps.ups r)
  | _, _, .lst q r => .lst q r
  | _, _, .dK q l r => .dK q l r
  | _, _, .dT q l r => .dT q l r
  | _, _, .obj q l r => .obj q l r
  | _, _, .rf a => .rf a
  | _, _, .scr q => .scr q
  | _, _, .kup q r => .kup q (Reps.ups r)
theorem Reps.ups {K : PySem.W.Frag} {F : Hp} : ∀ {vs : List V} {ds : List D}, Reps K F vs ds → Reps K F vs (D.ups ds)
  | _, _, .nil => .nil
  | _, _, .cons r t => .cons (Rep.up r) (Reps.ups t)
end
section
variable {X : Cx} {pins : List (Addr × Obj)} {σ : L2.St} {H : Hp} {s : Shared}
mutual
theorem urep_is (I : Inv X pins σ H s) : ∀ (k : NestedKey) {v : V} {u : Value}, Rep X.K H v (kToU k) → RelV v u → NestedIs s.heap k u
  | .none, v, _, h, r => by
    have h : Rep X.K H v .non := h
    cases h; cases r; exact .none
  | .num i, v, _, h, r => by
    have h : Rep X.K H v (.int i) := h
    cases h; obtain ⟨t, rfl⟩ := r; exact .int i t
  | .text x, v, _, h, r => by
    have h : Rep X.K H v (.str x) := h
    cases h; obtain ⟨t, rfl⟩ := r; exact .text x t
  | .tup ks, v, _, h, r => by
    have h : Rep X.K H v (.kup (ksToU ks)) := h
    cases h with
    | kup q t =>
      cases r
      obtain ⟨its, rv, ⟨o, h1, h2, n, h3⟩, _⟩ := I.tuple q
      exact .tup h1 h2 h3 (by simpa using ureps_is I ks t rv)
theorem ureps_is (I : Inv X pins σ H s) : ∀ (ks : List NestedKey) {vs : List V} {us : List Value}, Reps X.K H vs (ksToU ks) → Vals vs us → NestedAll s.heap ks us
  | [], vs, _, h, r => by
    have h : Reps X.K H vs [] := h
    cases h; cases r; exact .nil
  | k :: ks, vs, _, h, r => by
    have h : Reps X.K H vs (kToU k :: ksToU ks) := h
    cases h with
    | cons a t =>
      cases r with
      | cons r1 r2 => exact .cons (urep_is I k a r1) (ureps_is I ks t r2)
end
end
/-- the dict stands there -/
def UAt (K : PySem.W.Frag) (w : World) (H : Hp) (a : Addr) (xs : List (NestedKey × Addr × Value)) : Prop :=
  H a = some (.ext (RawN w a xs)) ∧ xs.length ≤ sizeLine ∧ ∀ x ∈ xs, Rep K H (.ref x.2.1) (kToU x.1) ∧ x.1.depth ≤ 8
theorem UAt.dict {X : Cx} {pins : List (Addr × Obj)} {σ : L2.St} {H : Hp} {s : Shared} {a : Addr} {xs : List (NestedKey × Addr × Value)} (n : UAt X.K X.w H a xs) (I : Inv X pins σ H s) : (a == sysModules) = false ∧ s.heap.DictOfH (nestedKind X.prog X.w) a xs := by
  obtain ⟨e, _, hk⟩ := n
  obtain ⟨⟨hs, o, es, ep, h1, h2, h3, h4, h5⟩, _⟩ := (show ObjOk X.prog X.w H s.heap a (.ext (RawN X.w a xs)) from I.hok _ _ e)
  exact ⟨hs, o, es, ep, h1, h2, h3, h4, fun x hx => ⟨urep_is I x.1 (hk x hx).1 rfl, (hk x hx).2⟩, h5⟩
theorem KU.keys {K : PySem.W.Frag} {F H : Hp} (e : Ex F H) : ∀ {kds : List (NestedKey × D)} {xs : List (NestedKey × Addr × Value)}, KU K F kds xs → ∀ x ∈ xs, Rep K H (.ref x.2.1) (kToU x.1) ∧ x.1.depth ≤ 8
  | _, _, .nil, x, hx => by cases hx
  | _, _, .cons (a := p) (b := q) h t, x, hx => by
    rcases List.mem_cons.mp hx with rfl | hx
    · obtain ⟨z1, zd, z3, _⟩ := h
      rw [← z1]
      exact ⟨z3.mono e, zd⟩
    · exact KU.keys e t x hx
theorem KU.val {K : PySem.W.Frag} {F : Hp} (k : NestedKey) : ∀ {kds : List (NestedKey × D)} {xs : List (NestedKey × Addr × Value)}, KU K F kds xs → (valD kds k = none ∧ atKey xs k = none) ∨ ∃ d p v, valD kds k = some d ∧ atKey xs k = some p ∧ RelV v p.2 ∧ Rep K F v d
  | _, _, .nil => .inl ⟨rfl, rfl⟩
  | _, _, .cons (a := p) (b := q) h t => by
    obtain ⟨z1, _, _, v, z4, z5⟩ := h
    by_cases e : p.1 = k
    · refine .inr ⟨p.2, q.2, v, ?_, ?_, z4, z5⟩
      · simp [valD, List.find?_cons, e]
      · simp [atKey, List.find?_cons, ← z1, e]
    · have e2 : ¬ q.1 = k := fun z => e (z1.trans z)
      rcases KU.val k t with ⟨h1, h2⟩ | ⟨d, p', v', h1, h2, h3, h4⟩
      · refine .inl ⟨?_, ?_⟩
        · simpa [valD, List.find?_cons, e] using h1
        · simpa [atKey, List.find?_cons, e2] using h2
      · refine .inr ⟨d, p', v', ?_, ?_, h3, h4⟩
        · simpa [valD, List.find?_cons, e] using h1
        · simpa [atKey, List.find?_cons, e2] using h2
theorem KU.len {K : PySem.W.Frag} {F : Hp} {kds : List (NestedKey × D)} {xs : List (NestedKey × Addr × Value)} (h : KU K F kds xs) : kds.length = xs.length := Paired.length h
theorem KU.put {K : PySem.W.Frag} {F : Hp} {kds : List (NestedKey × D)} {xs : List (NestedKey × Addr × Value)} (h : KU K F kds xs) {k : NestedKey} {b : Addr} {r : Value} {d : D} {v : V} (hd : k.depth ≤ 8) (rk : Rep K F (.ref b) (kToU k)) (rv : RelV v r) (rd : Rep K F v d) :
    KU K F (putD kds k d) (storedH xs k b r) := by
  have ev := KU.val k h
  unfold putD storedH
  rw [any_val]
  rcases ev with ⟨h1, h2⟩ | ⟨d', p', v', h1, h2, _⟩
  · rw [h1, h2]
    rw [if_neg (by simp), if_neg (by simp)]
    exact Paired.snoc h ⟨rfl, hd, rk, v, rv, rd⟩
  · rw [h1, h2, if_pos (show (some d').isSome = true from rfl), if_pos (show (some p').isSome = true from rfl)]
    clear h1 h2
    induction h with
    | nil => exact .nil
    | @cons p q ps qs hq t ih =>
      refine .cons ?_ ih
      obtain ⟨z1, z2, z3, v2, z4, z5⟩ := hq
      unfold putAt
      dsimp only
      by_cases e : p.1 = k
      · rw [if_pos e, if_pos (by rw [← z1]; exact e)]
        exact ⟨z1, z2, z3, v, rv, rd⟩
      · rw [if_neg e, if_neg (by rw [← z1]; exact e)]
        exact ⟨z1, z2, z3, v2, z4, z5⟩
end DL
end
section
set_option Elab.async false
set_option linter.all false
set_option maxRecDepth 100000
set_option maxHeartbeats 4000000
namespace DL
open PySem PySem.Spec PyProof.Rows L2
end DL
end
section
set_option Elab.async false
set_option linter.all false
set_option maxRecDepth 100000
set_option maxHeartbeats 4000000
namespace DL
open PySem PySem.Spec PyProof.Rows L2 PySem.Calls
abbrev exTl : List Value := [.type "Exception", .type "BaseException", .type "object"]
/-- what the written part says of the error at C and of its __init__ -/
structure XCls (K : PySem.W.Frag) (fl : Str) (C : Addr) (qual : Str) (params : Arguments) (body : List Stmt) (scope : Scope) (fI cc cda : Addr) (dV kV doc pm ct : Value) (an : Option Addr) : Prop where
  q : PySem.W.excInitIn K C exTl "Exception.__new__" = true
  kC : PySem.W.keepIn K (.ref C) = true
  iI : PySem.W.findIn K (.ref C) "__init__" = some (some (.ref fI))
  fn : ∃ oc od osl, K.lookup fI = some ⟨oc, od, .func (PySem.W.fnX "__init__" qual params body scope [("__class__", cc)] dV kV doc pm an (.ref cda) ct), osl⟩
  tI : PySem.W.typeIn K (.ref fI) = some (.type "function")
  ce : ∃ cl cld csl, K.lookup cc = some ⟨cl, cld, .cell (some (.ref C)), csl⟩
  co : ∃ ccl cdd ccs vs file tf, K.lookup cda = some ⟨ccl, cdd, .fields vs, ccs⟩ ∧ vs[2]? = some (.str file tf) ∧ (fl == file) = true
  cd : PySem.W.codeIn K (.ref cda) qual = true
  xB : PySem.W.subIn K (.ref C) (.type "BaseException") = some true
  xT : PySem.W.typeIn K (.ref C) = some (.type "type")
  xE : PySem.W.subIn K (.ref C) (.type "Exception") = some true
  xC : PySem.W.mroIn K C (.ref C) = some true
  su : PySem.W.nsIn K mainGlobals "super" = some none
  op : PySem.W.nsIn K cStatics "thirdparty.any" = some none
  al : PySem.W.ks_superIn K C C "__init__" = some (some (.builtin "Exception.__init__"))
/-- how super().__init__("text") is read, at its places in the text -/
def SupT (msg : Str) (j : Nat) (p0 p1 p2 p3 p4 : Pos) : Prop := ∀ env : Env, ∃ pl : Sem Bool, eval (.Call (.Attribute (.Call (.Name "super" p0) [] [] p1) "__init__" p2) [.Constant (.str msg) j p3] [] p4) env = (do
  let ov ← attributeBase (.Call (.Name "super" p0) [] [] p1) "__init__" env (eval (.Call (.Name "super" p0) [] [] p1) env)
  standAt p2.atName
  let (f, first) ← holding [ov] (getMethod ov "__init__" pl)
  callWith p4 f first (backTo p4 (starEach [.Constant (.str msg) j p3] env)) [])
section
variable {P : Program} {w : World} {K : PySem.W.Frag} {fl : Str} {C : Addr} {qual : Str} {params : Arguments} {body : List Stmt} {scope : Scope} {fI cc cda : Addr} {dV kV doc pm ct : Value} {an : Option Addr}
/-- the first statement of such an __init__ -/
theorem super_step {A : Around} {E : Value → Shared → Prop} {h base : Heap} {g : Array GenState} {d : Drawn} {t : Nat} {os : OsState} {mg m : Str → Option Value} {L e t0 : Addr} {ar : Arg} {msg : Str} {j : Nat} {p0 p1 p2 p3 p4 p5 : Pos} {bd rest : List Stmt} {Q : Flow → Shared → Prop}
    (T : XCls K fl C qual params body scope fI cc cda dV kV doc pm ct an) (X : K.In h) (M : Mod K mg base) (kb : ∀ b o, base.get? b = some o → h.get? b = some o) (hmg : mg "super" = none)
    (hL : h.Ns L m) (hv : m ar.arg = some (.ref e)) (he : h.get? e = some (HandSPX.excO C t0))
    (hp : (params.posonlyargs ++ params.args).head? = some ar) (hk : scope.kind = .function) (hks : scope.names.lookup ("super" : Str) = some .globalImplicit) (hkc : scope.names.lookup ("__class__" : Str) = some .free) (hka : scope.names.lookup ar.arg = some .local)
    (ht : SupT msg j p0 p1 p2 p3 p4) (hfile : P.main.file = fl) (htop : (P.main.scope.names.lookup ("super" : Str)).isSome = false)
    (hq : ∀ h' t' t1, (∀ b o, b ≠ e → h.get? b = some o → h'.get? b = some o) → h'.get? e = some (HandSPX.excO C t1) →
      PySem.wpAt (model P w) A (.func bd (PySem.W.ksEnv qual scope L fI (.ref cda) cc)) (execs rest (PySem.W.ksEnv qual scope L fI (.ref cda) cc)) Q E ⟨h', g, d, t', os⟩) :
    PySem.wpAt (model P w) A (.func bd (PySem.W.ksEnv qual scope L fI (.ref cda) cc)) (execs (.Expr (.Call (.Attribute (.Call (.Name "super" p0) [] [] p1) "__init__" p2) [.Constant (.str msg) j p3] [] p4) p5 :: rest) (PySem.W.ksEnv qual scope L fI (.ref cda) cc)) Q E ⟨h, g, d, t, os⟩ := by
  obtain ⟨oc, od, osl, lk⟩ := T.fn
  obtain ⟨cl, cld, csl, hcell⟩ := T.ce
  obtain ⟨ccl, cdd, ccs, vs, file, tf, hcode, hvs, hf⟩ := T.co
  obtain ⟨nm, N, qn, bs, bm, hdct, sn, sub, ab, col, dd, k0, k1, k2, k3, k5, hC, hT⟩ := PySem.W.excInit_of X T.q
  have I : PySem.W.InstAt h e (HandSPX.excO C t0) C none := ⟨he, rfl, rfl, trivial⟩
  obtain ⟨mb, b1, b2⟩ := M.blt
  obtain ⟨cdC, hcC⟩ : ∃ cd, PySem.W.clsIn K C = some cd := by
    cases hc : PySem.W.clsIn K C with
    | none =>
      have := T.al
      unfold PySem.W.ks_superIn at this
      rw [hc] at this
      cases this
    | some cd => exact ⟨cd, rfl⟩
  obtain ⟨oD, hD1, hD2⟩ : ∃ oD, h.get? C = some oD ∧ oD.data = .cls cdC := by
    have hcC' := hcC
    unfold PySem.W.clsIn at hcC'
    split at hcC'
    · rename_i c d cd' sl ho
      cases hcC'
      exact ⟨_, X _ _ ho, rfl⟩
    · cases hcC'
  have hne : e ≠ C := PySem.W.ks_ne X I hcC
  have hLe : L ≠ e := fun z => by
    obtain ⟨oL, es, ep, h1, h2, _⟩ := hL
    rw [z, he] at h1
    have z2 := Option.some.inj h1
    subst z2
    cases h2
  obtain ⟨pl, htq⟩ := ht (PySem.W.ksEnv qual scope L fI (.ref cda) cc)
  refine PySem.ks_wpAt_execs_cons (PySem.ks_wpAt_Expr_any (PySem.ks_wpAt_MethodCall (pl := pl) ?_ htq) (by show (scope.kind == .module && _) = false; rw [hk]; rfl))
  refine PySem.ks_wpAt_super_base (env := PySem.W.ksEnv qual scope L fI (.ref cda) cc) hks hkc rfl rfl (X _ _ lk) rfl hp rfl (X _ _ hcode) rfl hvs (by rw [hfile]; exact hf) htop ?_
  refine PySem.W.ks_loadName_global hk hks (loadGlobal_builtin (env := PySem.W.ksEnv qual scope L fI (.ref cda) cc) (M.glob.keeps kb) hmg (b1.keeps kb) ((b2 "super" (by decide)).trans (show bootBuiltins "super" = some (.type "super") from Boot.«super»)) ⟨rfl, ?_⟩)
  refine wpAny_loadName_free hk hkc rfl ⟨_, X _ _ hcell, rfl⟩ ?_
  refine wpAny_loadName_local hk hka hL hv ?_
  refine PySem.ks_wpAny_isType_cls hD1 hD2 ⟨rfl, ?_⟩
  refine PySem.ks_wpAny_call_super hD1 hD2 he rfl (fun c z => nomatch z) (PySem.W.looks_mroIn X T.xC) (fun h1 e1 kk1 => ?_)
  have X1 : K.In h1 := X.keeps kk1
  have hmro : PySem.W.Looks (model P w) h1 (mroOf (.ref C)) cdC.mro := fun A Q E s k q => wpAny_bind ((PySem.W.looks_clsIn X1 hcC) A _ E s k (wpAny_pure q))
  have hin : PySem.W.Looks (model P w) h1 (isInstance (.ref e) (.type "Exception")) true := (PySem.W.InstAt.type (M := model P w) (show PySem.W.InstAt h1 e (HandSPX.excO C t0) C none from ⟨kk1 _ _ he, rfl, rfl, trivial⟩)).andThen (PySem.W.looks_subIn X1 T.xE)
  have hal : PySem.W.alongIn K "__init__" ((cdC.mro.dropWhile (· != .ref C)).drop 1) = some (some (.builtin "Exception.__init__")) := by
    have := T.al
    unfold PySem.W.ks_superIn at this
    rw [hcC] at this
    exact this
  refine PySem.ESX.getMethod_super e1 (PySem.W.looks_opaque X1 T.op) hmro rfl X1 hal hne rfl hin ?_
  refine PySem.ESX.callWith_bound (x := e) ?_
  refine spliced_more (Constant_str (spliced_none ?_))
  have kk2 : ∀ b o, h.get? b = some o → (h1.push (PySem.ESX.bw e)).get? b = some o := fun b o z => Heap.get?_push_of_some _ (kk1 b o z)
  refine ⟨Heap.get?_push_at rfl rfl, ?_⟩
  refine PySem.ESX.call_bw (kk2 _ _ hC) (kk2 _ _ he) (Heap.get?_push_at rfl rfl) (by show 1 ≤ sizeLine; rw [sizeLine_eq]; omega) (fun h' t1 kk3 e3 => ?_)
  exact hq h' _ t1 (fun b o hb z => kk3 b o hb (kk2 b o z)) e3
end
end DL
end
section
set_option Elab.async false
set_option linter.all false
set_option maxRecDepth 100000
set_option maxHeartbeats 4000000
namespace DL
open PySem PySem.Spec PyProof.Rows L2
abbrev XFs := List (Str × D)
abbrev DXQ := Addr → XFs → GH → Prop
/-- an error: its class, its attributes -/
def XRep (K : PySem.W.Frag) (F H : Hp) (G : GH) (cls : Value) (d : Option Addr) (C : Addr) (fs : XFs) : Prop :=
  cls = .ref C ∧ ((d = none ∧ fs = []) ∨ ∃ dx vs, d = some dx ∧ H dx = some (.xd vs) ∧ G dx = none ∧ fs ≠ [] ∧ vs.map (·.1) = fs.map (·.1) ∧ Reps K F (vs.map (·.2)) (fs.map (·.2)))
def KpX (K : PySem.W.Frag) (F H : Hp) (G : GH) (σ : L2.St) (E' : DXQ) (W : WX) : Prop := ∀ F' H' G' cls d C fs, Go F H G F' H' G' → Gok K F' H' G' → XRep K F' H' G' cls d C fs → E' C fs G' → W cls d σ H'
def KpXS (K : PySem.W.Frag) (F H : Hp) (G : GH) (E' : DS → DXQ) (W : WX) : Prop := ∀ F' H' σ S G' cls d C fs, Go F H G F' H' G' → Ok K F' H' σ S G' → XRep K F' H' G' cls d C fs → E' S C fs G' → W cls d σ H'
def KpXE (K : PySem.W.Frag) (F H : Hp) (G : GH) (E' : DXQ) (E : XK) : Prop := ∀ F' H' G' cls d C fs, Go F H G F' H' G' → Gok K F' H' G' → XRep K F' H' G' cls d C fs → E' C fs G' → E cls d H'
section
variable {K : PySem.W.Frag} {F H F1 H1 : Hp} {G G1 : GH}
theorem XRep.sub {cls : Value} {d : Option Addr} {C : Addr} {fs : XFs} {G0 : GH} (s : Sub G0 G) (h : XRep K F H G cls d C fs) : XRep K F H G0 cls d C fs := by
  refine ⟨h.1, h.2.imp id ?_⟩
  rintro ⟨dx, vs, h1, h2, h3, h4⟩
  refine ⟨dx, vs, h1, h2, ?_, h4⟩
  cases q : G0 dx with
  | none => rfl
  | some o => rw [s.le dx o q] at h3; cases h3
theorem KpX.mono {σ : L2.St} {E' : DXQ} {W : WX} (e : Go F H G F1 H1 G1) (h : KpX K F H G σ E' W) : KpX K F1 H1 G1 σ E' W := fun F' H' G' cls d C fs a b c q => h F' H' G' cls d C fs (e.trans a) b c q
theorem KpXS.mono {E' : DS → DXQ} {W : WX} (e : Go F H G F1 H1 G1) (h : KpXS K F H G E' W) : KpXS K F1 H1 G1 E' W := fun F' H' σ S G' cls d C fs a b c q => h F' H' σ S G' cls d C fs (e.trans a) b c q
theorem KpXS.at_ {σ : L2.St} {S : DS} {E' : DS → DXQ} {W : WX} (s : Slots K F σ S) (h : KpXS K F H G E' W) : KpX K F H G σ (E' S) W := fun F' H' G' cls d C fs a b c q => h F' H' σ S G' cls d C fs a ⟨b, s.mono a.ex⟩ c q
end
abbrev DTEX := DS → GH → DQ → DXQ → Prop
abbrev DTSX := DEnds → (DS → DXQ) → DS → GH → Prop
structure DEX (X : Cx) (e : Expr) (t' : DTEX) : Prop where
  ex : ∀ W, Takes X W → ∃ t, PE X e t ∧ ∀ F H σ S G, Ok X.K F H σ S G → ∀ Q' E', t' S G Q' E' → ∀ Q, KpE X.K F H G Q' Q → KpX X.K F H G σ E' W → t σ H Q
structure DPX (X : Cx) (st : Stmt) (t' : DTSX) : Prop where
  ex : ∀ W, Takes X W → ∃ t, PS X st t ∧ ∀ F H σ S G, Ok X.K F H σ S G → ∀ D' E', t' D' E' S G → ∀ D0, KpS X.K F H G D' D0 → KpXS X.K F H G E' W → t D0 σ H
structure DPsX (X : Cx) (st : List Stmt) (t' : DTSX) : Prop where
  ex : ∀ W, Takes X W → ∃ t, PSs X st t ∧ ∀ F H σ S G, Ok X.K F H σ S G → ∀ D' E', t' D' E' S G → ∀ D0, KpS X.K F H G D' D0 → KpXS X.K F H G E' W → t D0 σ H
def xE (t : DTE) : DTEX := fun S G Q _ => t S G Q
def xS (t : DTS) : DTSX := fun D' _ S G => t D' S G
section
variable {X : Cx} {pos : Pos}
theorem dpsx_of {st : List Stmt} {t : DTS} (h : DPs X st t) : DPsX X st (xS t) := ⟨fun W _ => by
  obtain ⟨t1, p1, r1⟩ := h.ex
  exact ⟨t1, p1, fun F H σ S G o D' E' h D0 k _ => r1 F H σ S G o D' h D0 k⟩⟩
def dSeqX (t u : DTSX) : DTSX := fun D' E' S G => t { D' with nx := u D' E' } E' S G
theorem dpsx_cons {st : Stmt} {rest : List Stmt} {t u : DTSX} (h1 : DPX X st t) (h2 : DPsX X rest u) : DPsX X (st :: rest) (dSeqX t u) := ⟨fun W tk => by
  obtain ⟨t1, p1, r1⟩ := h1.ex W tk
  obtain ⟨t2, p2, r2⟩ := h2.ex W tk
  refine ⟨_, pss_cons p1 p2, fun F H σ S G o D' E' h D0 k kx => ?_⟩
  exact r1 F H σ S G o _ E' h _ ⟨fun F1 H1 σ1 S1 G1 e1 o1 h1 => r2 F1 H1 σ1 S1 G1 o1 _ E' h1 _ (k.mono e1) (kx.mono e1), k.rt, k.bk, k.ct⟩ kx⟩
theorem dpsx_one {st : Stmt} {t : DTSX} (h1 : DPX X st t) : DPsX X [st] t := ⟨fun W tk => by
  obtain ⟨t1, p1, r1⟩ := h1.ex W tk
  exact ⟨_, pss_one p1, r1⟩⟩
theorem dpx_asg {tg e : Expr} {te : DTEX} {g : DTG} (he : DEX X e te) (hg : DG X tg g) (hs : swapsWithSole [tg] e pos.line X.env = pure false := by rfl) (hw : swappedStores [tg] e X.env = pure none := by rfl)
    (h1 : (assignEach [tg] X.env).map (·.2) = [assign tg X.env] := by rfl) : DPX X (.Assign [tg] e pos) (fun D' E' S G => te S G (fun d G1 => g d S G1 D'.nx) (E' S)) := ⟨fun W tk => by
  obtain ⟨t1, p1, r1⟩ := he.ex W tk
  obtain ⟨t2, p2, r2⟩ := hg.ex
  refine ⟨_, ps_asg p1 p2 hs hw h1, fun F H σ S G o D' E' h D0 k kx => ?_⟩
  refine r1 F H σ S G o _ _ h _ (fun F1 H1 v d G1 e1 g1 q1 h1 => ?_) (kx.at_ o.s)
  exact r2 F1 H1 σ S G1 v d (o.go e1 g1) q1 _ h1 _ (k.nx.mono e1)⟩
theorem dpx_if {c : Expr} {a b : List Stmt} {tc : DTT} {t u : DTSX} (hc : DT X c tc) (ha : DPsX X a t) (hb : DPsX X b u) : DPX X (.If c a b pos) (fun D' E' S G => tc S G fun b G1 => if b = true then t D' E' S G1 else u D' E' S G1) := ⟨fun W tk => by
  obtain ⟨t0, p0, r0⟩ := hc.ex
  obtain ⟨t1, p1, r1⟩ := ha.ex W tk
  obtain ⟨t2, p2, r2⟩ := hb.ex W tk
  refine ⟨_, ps_if p0 p1 p2, fun F H σ S G o D' E' h D0 k kx => ?_⟩
  refine r0 F H σ S G o _ h _ fun F1 H1 b G1 e1 g1 h1 => ?_
  cases b with
  | true =>
    rw [if_pos rfl] at h1 ⊢
    exact r1 F1 H1 σ S G1 (o.go e1 g1) D' E' h1 D0 (k.mono e1) (kx.mono e1)
  | false =>
    rw [if_neg Bool.false_ne_true] at h1 ⊢
    exact r2 F1 H1 σ S G1 (o.go e1 g1) D' E' h1 D0 (k.mono e1) (kx.mono e1)⟩
abbrev SpX := List D → GH → DQ → DXQ → Prop
def SpOfX (K : PySem.W.Frag) (sp : SpX) : Sp := fun vs H Q E => ∃ F G ds Q' E', Gok K F H G ∧ Reps K F vs ds ∧ sp ds G Q' E' ∧ KpE K F H G Q' Q ∧ KpXE K F H G E' E
def finX (E' : DXQ) : DS → DXQ := fun _ C fs G => ∃ G0, Sub G0 G ∧ E' C fs G0
theorem fnX_mk {P : Program} {w : World} {K : PySem.W.Frag} {mg : Str → Option Value} {base : Heap} {x qual : Str} {st : Stmt} {f : Addr} {fd : FuncData} {N ps : List Str} {k : Nat} {sp : SpX} (Fu : Fun K x qual st f fd) (sc : FnScope N ps (defScope st))
    (len : ∀ ds G Q E, sp ds G Q E → ds.length = ps.length)
    (hb : ∀ (cdv : Value) (A : Around) (outer : List Env) (s : Shared) (H : Hp) (E : XK), A.guards = some [] → Room k (A.deeper (envOfC qual (defScope st) s.heap.objs.size f cdv)) →
      ∃ t', DPsX (cxOf (L2.CX P w) P w K mg base N qual (defScope st) f cdv A outer s H E) (defBody st) t' ∧ ∀ ds G Q E', sp ds G Q E' → t' (fin Q) (finX E') (dstart N ds) G) : FnG P w K mg base (L2.CX P w) (k + 1) f fd ps (SpOfX K sp) := by
  obtain ⟨oc, od, kV, doc, pm, an, cdv, ct, osl, rfl, lk, hcd⟩ := Fu.ex
  refine fng_of lk hcd sc (fun vs H Q E h => ?_) (fun A outer s H vs Q E hg hr h => ?_)
  · obtain ⟨F, G, ds, Q', E', g, r, h, _⟩ := h
    rw [r.length]
    exact len ds G Q' E' h
  · obtain ⟨F, G, ds, Q', E', g, r, h, kk, kx⟩ := h
    obtain ⟨t', d, rd⟩ := hb cdv A outer s H E hg hr
    obtain ⟨t, p, rf⟩ := d.ex (fun cls d _ H' => E cls d H') (takes_of rfl rfl rfl rfl)
    refine ⟨t, p, rf F H _ _ G ⟨g, r.start⟩ _ _ (rd ds G Q' E' h) _ ⟨fun F1 H1 σ1 S1 G1 e1 o1 h1 => ?_, fun F1 H1 v d G1 e1 g1 r1 h1 => ?_, fun _ _ _ _ _ _ _ z => z.elim, fun _ _ _ _ _ _ _ z => z.elim⟩ ?_⟩
    · obtain ⟨G0, sb, h1⟩ := h1
      exact kk F1 H1 _ _ G0 (e1.sub sb) (o1.g.sub sb) .non h1
    · obtain ⟨G0, sb, h1⟩ := h1
      exact kk F1 H1 v d G0 (e1.sub sb) (g1.sub sb) r1 h1
    · intro F1 H1 σ1 S1 G1 cls d C fs e1 o1 xr h1
      obtain ⟨G0, sb, h1⟩ := h1
      exact kx F1 H1 G0 cls d C fs (e1.sub sb) (o1.g.sub sb) (xr.sub sb) h1
end
end DL
namespace DL
open PySem PySem.Spec PyProof.Rows L2
end DL
end
section
set_option Elab.async false
set_option linter.all false
set_option maxRecDepth 100000
set_option maxHeartbeats 4000000
namespace DL
open PySem PySem.Spec PyProof.Rows L2
/-- in a suite: what is known of the error stands beside the state -/
structure DEE (X : Cx) (xr : Hp → Hp → GH → Prop) (e : Expr) (t' : DTE) : Prop where
  ex : ∃ t, PE X e t ∧ ∀ F H σ S G, Ok X.K F H σ S G → xr F H G → ∀ Q', t' S G Q' → ∀ Q, KpE X.K F H G Q' Q → t σ H Q
structure DAE (X : Cx) (xr : Hp → Hp → GH → Prop) (es : List Expr) (t' : DTA) : Prop where
  ex : ∃ t, PA X es t ∧ ∀ F H σ S G, Ok X.K F H σ S G → xr F H G → ∀ Q', t' S G Q' → ∀ Q, KpA X.K F H G Q' Q → t σ H Q
structure DPsE (X : Cx) (xr : Hp → Hp → GH → Prop) (st : List Stmt) (t' : DTS) : Prop where
  ex : ∃ t, PSs X st t ∧ ∀ F H σ S G, Ok X.K F H σ S G → xr F H G → ∀ D', t' D' S G → ∀ D0, KpS X.K F H G D' D0 → t D0 σ H
def Keeps (xr : Hp → Hp → GH → Prop) : Prop := ∀ F H G F' H' G', Go F H G F' H' G' → xr F H G → xr F' H' G'
theorem xrep_keeps {K : PySem.W.Frag} {cls : Value} {d : Option Addr} {C : Addr} {fs : XFs} : Keeps (fun F H G => XRep K F H G cls d C fs) := fun F H G F' H' G' e h => by
  refine ⟨h.1, h.2.imp id ?_⟩
  rintro ⟨dx, vs, h1, h2, h3, h0, h4, h5⟩
  obtain ⟨a, b⟩ := e.fr dx _ h2 h3
  exact ⟨dx, vs, h1, a, b, h0, h4, h5.mono e.ex⟩
section
variable {X : Cx} {xr : Hp → Hp → GH → Prop} {pos : Pos}
theorem dee_of {e : Expr} {t : DTE} (h : DE X e t) : DEE X xr e t := by
  obtain ⟨t1, p1, r1⟩ := h.ex
  exact ⟨t1, p1, fun F H σ S G o _ Q' h Q k => r1 F H σ S G o Q' h Q k⟩
theorem dae_nil : DAE X xr [] dNil := ⟨_, pa_nil, fun F H σ S G o _ Q' h Q k => k F H [] [] G Go.refl o.g .nil h⟩
theorem dae_cons {e : Expr} {es : List Expr} {ta : DTE} {tr : DTA} (kp : Keeps xr) (ha : DEE X xr e ta) (hr : DAE X xr es tr) (hs : starEach (e :: es) X.env = (false, eval e X.env) :: starEach es X.env := by rfl) : DAE X xr (e :: es) (dCons ta tr) := by
  obtain ⟨t1, p1, r1⟩ := ha.ex
  obtain ⟨t2, p2, r2⟩ := hr.ex
  refine ⟨_, pa_cons p1 p2 hs, fun F H σ S G o x Q' h Q k => ?_⟩
  refine r1 F H σ S G o x _ h _ fun F1 H1 v d G1 e1 g1 q1 h1 => ?_
  refine r2 F1 H1 σ S G1 (o.go e1 g1) (kp _ _ _ _ _ _ e1 x) _ h1 _ fun F2 H2 vs ds G2 e2 g2 q2 h2 => ?_
  exact k F2 H2 _ _ G2 (e1.trans e2) g2 (.cons (q1.mono e2.ex) q2) h2
theorem dee_lst {es : List Expr} {ta : DTA} (h : DAE X xr es ta) : DEE X xr (.List es pos) (dLst ta) := by
  obtain ⟨t, p, r⟩ := h.ex
  refine ⟨_, pe_lst p, fun F H σ S G o x Q' h Q k => ?_⟩
  refine r F H σ S G o x _ h _ fun F1 H1 vs ds G1 e1 g1 q1 h1 => ?_
  refine ⟨q1.length ▸ h1.1, fun p hp => ?_⟩
  have gr : Gr F1 H1 (upd F1 p (.lst vs)) (upd H1 p (.lst vs)) := Gr.new g1.ex hp
  exact k _ _ _ _ G1 (e1.trans gr.go) (g1.grow gr) (.lst upd_same (q1.mono gr.ff)) h1.2
theorem dpse_asg {tg e : Expr} {te : DTE} {g : DTG} (he : DEE X xr e te) (hg : DG X tg g) (hs : swapsWithSole [tg] e pos.line X.env = pure false := by rfl) (hw : swappedStores [tg] e X.env = pure none := by rfl)
    (h1 : (assignEach [tg] X.env).map (·.2) = [assign tg X.env] := by rfl) : DPsE X xr [.Assign [tg] e pos] (dAsg te g) := by
  obtain ⟨t1, p1, r1⟩ := he.ex
  obtain ⟨t2, p2, r2⟩ := hg.ex
  refine ⟨_, pss_one (ps_asg p1 p2 hs hw h1), fun F H σ S G o x D' h D0 k => ?_⟩
  refine r1 F H σ S G o x _ h _ fun F1 H1 v d G1 e1 g1 q1 h1 => ?_
  exact r2 F1 H1 σ S G1 v d (o.go e1 g1) q1 _ h1 _ (k.nx.mono e1)
def dTryAs (K : PySem.W.Frag) (C : Addr) (i : Nat) (tb : DTSX) (ts : Addr → XFs → Addr → DTS) : DTS := fun D' S G => tb D' (fun S1 C1 fs G1 => PySem.W.exmOne K (.ref C1) (.ref C) = some true ∧
  ∀ a, ts C1 fs a { nx := fun S2 G2 => D'.nx (S2.set i none) G2, rt := D'.rt, bk := fun S2 G2 => D'.bk (S2.set i none) G2, ct := fun S2 G2 => D'.ct (S2.set i none) G2 } (S1.set i (some (.rf a))) G1) S G
theorem dp_try_as {x n : Str} {C : Addr} {i : Nat} {body suite : List Stmt} {b₀ : Stmt} {np pos' : Pos} {tb : DTSX} {ts : Addr → XFs → Addr → DTS} (hx : ∀ e s, X.xe e s ↔ False) (hs : X.stack = X.env :: X.outer) (hf : X.env.frame = some X.env.locals) (hN : X.N.Nodup) (hi : X.N[i]? = some n) (hln : X.env.kindOf n = some .local)
    (hg : Gl X x) (hm : X.mg x = some (.ref C)) (hdb : (x == ("__debug__" : Str)) = false)
    (hb : ∀ (pn : List (Addr × Obj)) (xe : Value → Shared → Prop), DPsX (X.tr pn xe) body tb)
    (hsu : ∀ (a : Addr) (oe : Obj) (d : Option Addr) (pn : List (Addr × Obj)) (C1 : Addr) (fs : XFs), Zc (.ref C1) d oe → (∃ vs, oe.data = .fields vs) → DPsE (X.suite a ((a, oe) :: pn)) (fun F H G => XRep X.K F H G (.ref C1) d C1 fs) (b₀ :: suite) (ts C1 fs a)) :
    DP X (.Try body [.ExceptHandler (some (.Name x np)) (some n) (b₀ :: suite) pos'] [] [] pos) (dTryAs X.K C i tb ts) := by
  have tk : Takes X (fun _ _ _ _ => False) := fun u s' ⟨_, _, _, _, _, _, _, _, _, _, _, _, _, _, _, _, z⟩ => z.elim
  refine ⟨_, ps_try_as (c := .ref C) (i := i) (tb := fun W D σ H => ∀ pn xe, Takes (X.tr pn xe) W → PassesOwn (model X.prog X.w) X.A X.env xe → ∃ t, PSs (X.tr pn xe) body t ∧ t D σ H)
    (ts := fun a cls d D σ H => ∀ oe pn, Zc cls d oe → (∃ vs, oe.data = .fields vs) → ∃ t, PSs (X.suite a ((a, oe) :: pn)) (b₀ :: suite) t ∧ t D σ H) (Wout := fun _ _ _ _ => False) hs hf hN hi hln ⟨hg, hdb, .inl hm⟩ tk
    (fun W pn xe tkw pw => ⟨fun pins s σ H D I h => ?_⟩) (fun a oe cls d pn hz hv => ⟨fun pins s σ H D I h => ?_⟩), fun F H σ S G o D' h D0 k => ?_⟩
  · obtain ⟨t, p, q⟩ := h pn xe tkw pw
    exact p.run pins s σ H D I q
  · obtain ⟨t, p, q⟩ := h oe pn hz hv
    exact p.run pins s σ H D I q
  · intro pn xe tkw pw
    obtain ⟨t, p, r⟩ := (hb pn xe).ex _ tkw
    refine ⟨t, p, r F H σ S G o D' _ h D0 k ?_⟩
    intro F1 H1 σ1 S1 G1 cls d C1 fs e1 o1 xr hE
    obtain ⟨hb1, hE⟩ := hE
    have hc := xr.1
    subst hc
    refine ⟨true, hb1, fun _ a na => ?_, fun z => by cases z⟩
    intro oe pn2 hz hv
    obtain ⟨t2, p2, r2⟩ := (hsu a oe d pn2 C1 fs hz hv).ex
    refine ⟨t2, p2, r2 F1 H1 _ (S1.set i (some (.rf a))) G1 ⟨o1.g, o1.s.set (.rf a) i⟩ xr _ (hE a) _ ⟨?_, k.rt.mono e1, ?_, ?_⟩⟩
    · exact fun F2 H2 σ2 S2 G2 e2 o2 h2 => k.nx F2 H2 _ _ G2 (e1.trans e2) ⟨o2.g, o2.s.setN none i⟩ h2
    · exact fun F2 H2 σ2 S2 G2 e2 o2 h2 => k.bk F2 H2 _ _ G2 (e1.trans e2) ⟨o2.g, o2.s.setN none i⟩ h2
    · exact fun F2 H2 σ2 S2 G2 e2 o2 h2 => k.ct F2 H2 _ _ G2 (e1.trans e2) ⟨o2.g, o2.s.setN none i⟩ h2
end
end DL
end
section
set_option Elab.async false
set_option linter.all false
set_option maxRecDepth 100000
set_option maxHeartbeats 4000000
namespace DL
open PySem PySem.Spec PyProof.Rows L2
abbrev FnX : Type := Option (Str × Str × Arguments × FuncBody × Scope × Addr × List Str × Addr)
def fnXo (K : PySem.W.Frag) (a : Addr) : FnX := match K.lookup a with
  | some ⟨_, _, .func fd, _⟩ => some (fd.name, fd.qualname, fd.params, fd.body, fd.scope, fd.globals, fd.closure.map (·.1), fd.builtins)
  | _ => none
/-- the __init__ of an own error -/
structure ErrD where
  cls : Str
  qual : Str
  params : Arguments
  body : List Stmt
  scope : Scope
def ErrD.val (d : ErrD) : FnX := some ("__init__", d.qual, d.params, .stmts d.body, d.scope, mainGlobals, ["__class__"], builtinsNs)
def eI (K : PySem.W.Frag) (x : Str) : Addr := He.ma K (He.ga K x) "__init__"
def okC (K : PySem.W.Frag) (fl : Str) (C : Addr) (fI : Addr) : Bool := match K.lookup fI with
  | some ⟨_, _, .func fd, _⟩ => (match fd.closure, fd.code, fd.defaults with
    | [(_, cc)], .ref cda, .none => (match K.lookup cc with
        | some ⟨_, _, .cell (some (.ref C')), _⟩ => decide (C' = C)
        | _ => false) && ((match K.lookup cda with
        | some ⟨_, _, .fields vs, _⟩ => (match (vs[2]? : Option Value) with
          | some (Value.str file _) => fl == file
          | _ => false)
        | _ => false) && PySem.W.codeIn K (.ref cda) fd.qualname)
    | _, _, _ => false)
  | _ => false
def errB (K : PySem.W.Frag) (fl x : Str) : Bool :=
  PySem.W.excInitIn K (He.ga K x) exTl "Exception.__new__" && (PySem.W.keepIn K (.ref (He.ga K x)) && (He.eqO (PySem.W.findIn K (.ref (He.ga K x)) "__init__") (some (some (.ref (eI K x)))) && (okC K fl (He.ga K x) (eI K x) &&
  (decide (PySem.W.typeIn K (.ref (eI K x)) = some (.type "function")) && (decide (PySem.W.subIn K (.ref (He.ga K x)) (.type "BaseException") = some true) && (decide (PySem.W.typeIn K (.ref (He.ga K x)) = some (.type "type")) &&
  (decide (PySem.W.subIn K (.ref (He.ga K x)) (.type "Exception") = some true) && (decide (PySem.W.mroIn K (He.ga K x) (.ref (He.ga K x)) = some true) && (He.eqO (PySem.W.nsIn K mainGlobals "super") (some none) &&
  (He.eqO (PySem.W.nsIn K cStatics "thirdparty.any") (some none) && He.eqO (PySem.W.ks_superIn K (He.ga K x) (He.ga K x) "__init__") (some (some (.builtin "Exception.__init__")))))))))))))
theorem err_ok {K : PySem.W.Frag} {fl : Str} {d : ErrD} (hb : errB K fl d.cls = true) (hv : fnXo K (eI K d.cls) = d.val) : ∃ cc cda kV doc pm ct an, XCls K fl (He.ga K d.cls) d.qual d.params d.body d.scope (eI K d.cls) cc cda .none kV doc pm ct an := by
  unfold errB at hb
  simp only [Bool.and_eq_true, decide_eq_true_eq] at hb
  obtain ⟨h1, h2, h3, h4, h5, h6, h7, h8, h9, h10, h11, h12⟩ := hb
  unfold okC at h4
  unfold fnXo at hv
  cases q : K.lookup (eI K d.cls) with
  | none => rw [q] at hv; cases hv
  | some o =>
    obtain ⟨oc, od, dt, osl⟩ := o
    rw [q] at h4 hv
    cases dt with
    | func fd =>
      obtain ⟨n1, n2, n3, n4, n5, n6, n7, n8, n9, n10, n11, n12, n13, n14, n15⟩ := fd
      have e2 : (some (n1, n2, n3, n4, n5, n6, n7.map (·.1), n15) : FnX) = (some ("__init__", d.qual, d.params, FuncBody.stmts d.body, d.scope, mainGlobals, ["__class__"], builtinsNs) : FnX) := hv
      simp only [Option.some.injEq, Prod.mk.injEq] at e2
      obtain ⟨z1, z2, z3, z4, z5, z6, z7, z8⟩ := e2
      subst z1 z2 z3 z4 z5 z6 z8
      dsimp only at h4
      split at h4
      · rename_i c0 cc cda
        have z7' : c0 = "__class__" := by simpa using z7
        subst z7'
        simp only [Bool.and_eq_true] at h4
        obtain ⟨k1, k2, k3⟩ := h4
        refine ⟨cc, cda, n9, n10, n11, n14, n12, ⟨h1, h2, He.eqO_ok h3, ⟨_, _, _, q⟩, h5, ?_, ?_, k3, h6, h7, h8, h9, He.eqO_ok h10, He.eqO_ok h11, He.eqO_ok h12⟩⟩
        · split at k1
          · rename_i C' e
            simp only [decide_eq_true_eq] at k1
            subst k1
            exact ⟨_, _, _, e⟩
          · cases k1
        · split at k2
          · rename_i vs e
            split at k2
            · rename_i file tf e5
              exact ⟨_, _, _, _, _, _, e, e5, k2⟩
            · cases k2
          · cases k2
      · cases h4
    | _ => cases hv
/-- an own error as the parts know it -/
structure ErrC (P : Program) (K : PySem.W.Frag) (mg : Str → Option Value) (C : Addr) (x qual : Str) (st : Stmt) : Prop where
  ex : ∃ fI cc cda kV doc pm ct an, XCls K P.main.file C qual (defArgs st) (defBody st) (defScope st) fI cc cda .none kV doc pm ct an
  mg_ : mg x = some (.ref C)
  su : mg "super" = none
  top : (P.main.scope.names.lookup ("super" : Str)).isSome = false
def excCB (K : PySem.W.Frag) (C : Addr) : Bool := He.eqO (PySem.W.findIn K (.ref C) "__getattribute__") (some (some (.builtin "BaseException.__getattribute__"))) && (He.eqO (PySem.W.findIn K (.ref C) "__getattr__") (some none) &&
  (decide (PySem.W.subIn K (.ref C) (.type "BaseException") = some true) && (PySem.W.hasDictIn K C && (He.eqO (PySem.W.findIn K (.ref C) "__class__") (some (some (.builtin "object.__class__"))) &&
  (He.eqO (PySem.W.specialIn K (.builtin "object.__class__") "__get__") (some (some (.builtin "getset_descriptor.__get__"))) && (decide (PySem.W.takesIn K (.builtin "object.__class__") = some true) && decide (PySem.W.mroIn K C (.type "object") = some true)))))))
theorem excCB_ok {K : PySem.W.Frag} {C : Addr} (h : excCB K C = true) : ExcC K C := by
  unfold excCB at h
  simp only [Bool.and_eq_true, decide_eq_true_eq] at h
  obtain ⟨h1, h2, h3, h4, h5, h6, h7, h8⟩ := h
  exact ⟨He.eqO_ok h1, He.eqO_ok h2, h3, h4, He.eqO_ok h5, He.eqO_ok h6, h7, h8⟩
/-- the error at C, and CE above it -/
structure IsE (K : PySem.W.Frag) (C CE : Addr) : Prop where
  c : ExcC K C
  k : PySem.W.kitOne K (.ref C) (.ref CE) = some true
  m : PySem.W.exmOne K (.ref C) (.ref C) = some true
def isEB (K : PySem.W.Frag) (C CE : Addr) : Bool := excCB K C && (decide (PySem.W.kitOne K (.ref C) (.ref CE) = some true) && decide (PySem.W.exmOne K (.ref C) (.ref C) = some true))
theorem isEB_ok {K : PySem.W.Frag} {C CE : Addr} (h : isEB K C CE = true) : IsE K C CE := by
  unfold isEB at h
  simp only [Bool.and_eq_true, decide_eq_true_eq] at h
  exact ⟨excCB_ok h.1, h.2.1, h.2.2⟩
abbrev AlX : Type := AlE × List FnX
abbrev YsX : Type := List ((PySem.W.Frag → Addr) × FnX)
def obsX (fa : List He.Fa) (fn : List He.DefD) (ex : PySem.W.Frag → Bool) (ys : YsX) (K : PySem.W.Frag) : AlX := (obsE fa fn ex K, ys.map fun p => fnXo K (p.1 K))
theorem ysX {K : PySem.W.Frag} {ys : YsX} (h : (ys.map fun p => fnXo K (p.1 K)) = ys.map Prod.snd) (i : Nat) {p : (PySem.W.Frag → Addr) × FnX} (e : ys[i]? = some p) : fnXo K (p.1 K) = p.2 := by
  have e2 : (ys.map fun p => fnXo K (p.1 K))[i]? = (ys.map Prod.snd)[i]? := by rw [h]
  rw [List.getElem?_map, List.getElem?_map, e] at e2
  exact Option.some.inj e2
end DL
end
section
set_option Elab.async false
set_option linter.all false
set_option maxRecDepth 100000
set_option maxHeartbeats 4000000
namespace DL
open PySem PySem.Spec PyProof.Rows L2 PySem.Calls
/-- own classes, then Exception's own line -/
def refsX : List Value → Bool
  | .ref _ :: r => refsX r
  | l => l == exTl
theorem refsX_cases : ∀ l : List Value, refsX l = true → (∃ c r, l = .ref c :: r ∧ refsX r = true) ∨ l = exTl
  | [], e => .inr (beq_iff_eq.mp e)
  | .ref c :: r, e => .inl ⟨c, r, rfl, e⟩
  | .none :: _, e => .inr (beq_iff_eq.mp e)
  | .ellipsis :: _, e => .inr (beq_iff_eq.mp e)
  | .notImplemented :: _, e => .inr (beq_iff_eq.mp e)
  | .bool _ :: _, e => .inr (beq_iff_eq.mp e)
  | .int _ _ :: _, e => .inr (beq_iff_eq.mp e)
  | .float _ _ :: _, e => .inr (beq_iff_eq.mp e)
  | .str _ _ :: _, e => .inr (beq_iff_eq.mp e)
  | .bytes _ _ :: _, e => .inr (beq_iff_eq.mp e)
  | .type _ :: _, e => .inr (beq_iff_eq.mp e)
  | .builtin _ :: _, e => .inr (beq_iff_eq.mp e)
section
open Builtin Builtin.ObjectAttr
theorem refsX_pass (self : Value) : ∀ l : List Value, refsX l = true → refuseLoop self "__setattr__" l = pure () := by
  intro l
  induction l with
  | nil => intro e; exact absurd e (by decide)
  | cons a r ih =>
    intro e
    rcases refsX_cases (a :: r) e with ⟨c, r', q, h⟩ | q
    · obtain ⟨rfl, rfl⟩ := List.cons.inj q
      rw [refuseLoop_ref]; exact ih h
    · rw [q]; exact F.store_Exception.passes self
end
theorem refsX_contains (X : String) : ∀ l : List Value, refsX l = true → l.contains (.type X) = exTl.contains (.type X) := by
  intro l
  induction l with
  | nil => intro e; exact absurd e (by decide)
  | cons a r ih =>
    intro e
    rcases refsX_cases (a :: r) e with ⟨c, r', q, h⟩ | q
    · obtain ⟨rfl, rfl⟩ := List.cons.inj q
      rw [List.contains_cons, ih h]; rfl
    · rw [q]
theorem refsX_ne {l : List Value} (e : refsX l = true) : l.isEmpty = false := by
  cases l with
  | nil => exact absurd e (by decide)
  | cons _ _ => rfl
/-- what is asked of the class for its attribute f to be stored -/
structure XAtt (K : PySem.W.Frag) (C : Addr) (f : Str) : Prop where
  cd : ∃ cd, PySem.W.clsIn K C = some cd ∧ refsX cd.mro = true ∧ cd.hasDict = true
  sa : PySem.W.findIn K (.ref C) "__setattr__" = some (some (.builtin "object.__setattr__"))
  no : PySem.W.findIn K (.ref C) f = some none
def xattB (K : PySem.W.Frag) (C : Addr) (f : Str) : Bool := (match PySem.W.clsIn K C with
  | some cd => refsX cd.mro && cd.hasDict
  | none => false) && (He.eqO (PySem.W.findIn K (.ref C) "__setattr__") (some (some (.builtin "object.__setattr__"))) && He.eqO (PySem.W.findIn K (.ref C) f) (some none))
theorem xattB_ok {K : PySem.W.Frag} {C : Addr} {f : Str} (h : xattB K C f = true) : XAtt K C f := by
  unfold xattB at h
  simp only [Bool.and_eq_true] at h
  obtain ⟨h1, h2, h3⟩ := h
  refine ⟨?_, He.eqO_ok h2, He.eqO_ok h3⟩
  split at h1
  · rename_i cd e
    simp only [Bool.and_eq_true] at h1
    exact ⟨cd, e, h1.1, h1.2⟩
  · cases h1
section
open Builtin Builtin.ObjectAttr
variable {prog : Program} {w : World} {A : Around} {E : Value → Shared → Prop} {R : Result → Shared → Prop} {hp : Heap} {g : Array GenState} {d : Drawn} {t : Nat} {os : OsState}
theorem osaX {K : PySem.W.Frag} {name : Str} {tk : Tok} {v : Value} {x C : Addr} {fv : Array Value} {cd : ClassData}
    (X : K.In hp) (hx : hp.get? x = some { cls := .ref C, data := .fields fv }) (hcd : PySem.W.clsIn K C = some cd) (hm : refsX cd.mro = true) (hh : cd.hasDict = true) (ha : PySem.W.findIn K (.ref C) name = some none)
    (hq : ∀ h' tk' dx, (∀ b o, b ≠ x → hp.get? b = some o → h'.get? b = some o) → hp.objs.size ≤ dx → dx ≠ x → h'.get? x = some { cls := .ref C, dict := some dx, data := .fields fv } →
      h'.Ns1 dx (fun y => if y = name then some v else none) → R (.ok (.ret .none)) ⟨h', g, d, tk', os⟩) :
    codeAny (model prog w) A (.call (.builtin "object.__setattr__") ⟨[.ref x, .str name tk, v], []⟩) R ⟨hp, g, d, t, os⟩ := by
  have I : PySem.W.InstAt hp x { cls := .ref C, data := .fields fv } C none := ⟨hx, rfl, rfl, trivial⟩
  have SF := F.store_object
  have ne := refsX_ne hm
  have hob : cd.mro.contains (.type "object") = true := (refsX_contains "object" _ hm).trans (by decide +kernel)
  have hxs : x ≠ hp.objs.size := Nat.ne_of_lt (Heap.lt_size hx)
  have sub : PySem.W.Looks (model prog w) hp (isInstance (.ref x) (.type "object")) true := I.type.andThen (PySem.W.looks_mroIn X (by unfold PySem.W.mroIn; rw [hcd, Option.bind_some, if_neg (by rw [ne]; decide), hob]))
  refine codeAny_call_builtin SF.slot.plain SF.entry (@PySem.W.check_slot (model prog w) _ _ ⟨hp, g, d, t, os⟩ "object.__setattr__" "object" "__setattr__" (.ref x) [.str name tk, v] [] _ SF.kind SF.split sub (SF.args (.ref x) (.str name tk) v) ?_)
  have hmr : PySem.W.Looks (model prog w) hp (mroOf (.ref C)) cd.mro := (PySem.W.looks_clsIn X hcd).andThen .now
  have L3 : PySem.W.Looks (model prog w) hp (storeTaker? none) none := .now
  have hcls : PySem.W.Looks (model prog w) hp (classData C) cd := PySem.W.looks_clsIn X hcd
  rw [PySem.W.osa_eq, refuse_eq]
  refine wpAny_bind (wpAny_bind (I.type.at (wpAny_bind (hmr.at ?_))))
  rw [refsX_pass _ _ hm]
  refine wpAny_pure (wpAny_bind (I.type.at (wpAny_bind ((PySem.W.looks_findIn X ha).at (wpAny_bind (L3.at ?_))))))
  show wpAny _ _ (storeInOwnDict (.ref x) (.ref C) (.str name tk) name v false) _ _ _
  obtain ⟨nm, bs, mro, ns, qn, hd, sn, sb, ab, col, del⟩ := cd
  dsimp only at hh
  subst hh
  unfold storeInOwnDict ownDictForStores
  repeat (first | with_reducible refine HandSPX.store_in_new ?_ ?_ | with_reducible refine wpAny_loadPart_at hx ?_ | with_reducible refine hcls.at ?_ | wp_step)
  · exact ⟨_, #[], _, (Heap.get?_update_ne _ _ _ _ hxs.symm).trans (Heap.get?_push_at rfl rfl), rfl, fun e he => absurd he (by simp), fun _ => rfl⟩
  · intro h' tk' hn' hs
    have hx₁ : (hp.push { cls := .type "dict", data := .dict #[] }).get? x = some { cls := .ref C, data := .fields fv } := Heap.get?_push_of_some _ hx
    refine hq h' tk' hp.objs.size (fun b o hb ho => ?_) (Nat.le_refl _) hxs.symm ?_ hn'
    · exact (hs.2 b (Nat.ne_of_lt (Heap.lt_size ho))).trans ((Heap.get?_update_ne _ _ _ _ hb).trans (Heap.get?_push_of_some _ ho))
    · exact (hs.2 x hxs).trans (Heap.get?_update_self _ hx₁ rfl)
end
section
variable {P : Program} {w : World} {K : PySem.W.Frag} {fl : Str} {C : Addr} {qual : Str} {params : Arguments} {body : List Stmt} {scope : Scope} {fI cc cda : Addr} {dV kV doc pm ct : Value} {an : Option Addr}
/-- such an __init__ with one store: self.f = x -/
theorem init_runs1 {A : Around} {R : Result → Shared → Prop} {h base : Heap} {g : Array GenState} {d : Drawn} {t : Nat} {os : OsState} {mg : Str → Option Value} {e t0 : Addr} {ar : Arg} {msg f x : Str} {j : Nat} {p0 p1 p2 p3 p4 p5 q0 q1 q2 q3 : Pos} {us : List Value} {u : Value} {binds : List (Str × Value)}
    (T : XCls K fl C qual params body scope fI cc cda dV kV doc pm ct an) (TA : XAtt K C f)
    (hbody : body = [.Expr (.Call (.Attribute (.Call (.Name "super" p0) [] [] p1) "__init__" p2) [.Constant (.str msg) j p3] [] p4) p5, .Assign [.Attribute (.Name ar.arg q0) f q1] (.Name x q2) q3]) (X : K.In h) (M : Mod K mg base) (kb : ∀ b o, base.get? b = some o → h.get? b = some o) (hmg : mg "super" = none)
    (he : h.get? e = some (HandSPX.excO C t0)) (hKe : K.lookup e = none) (hd : A.depth < recursionLimit)
    (hb : ∀ (s : Shared) (oc : Value), BindsTo s (PySem.W.fnX "__init__" qual params body scope [("__class__", cc)] dV kV doc pm an (.ref cda) ct) ⟨.ref e :: us, []⟩ binds) (hloc : ∀ y ∈ binds, scope.names.lookup y.1 = some .local) (hself : binds.reverse.lookup ar.arg = some (.ref e)) (hx : binds.reverse.lookup x = some u)
    (hp : (params.posonlyargs ++ params.args).head? = some ar) (hk : scope.kind = .function) (hks : scope.names.lookup ("super" : Str) = some .globalImplicit) (hkc : scope.names.lookup ("__class__" : Str) = some .free) (hka : scope.names.lookup ar.arg = some .local) (hkx : scope.names.lookup x = some .local)
    (hda : (ar.arg == ("__debug__" : Str)) = false) (hdx : (x == ("__debug__" : Str)) = false)
    (hcell : ∀ x ∈ scope.names, x.2 ≠ .cell) (hco : scope.isCoroutine = false) (hgen : scope.isGenerator = false)
    (ht : SupT msg j p0 p1 p2 p3 p4) (hfile : P.main.file = fl) (htop : (P.main.scope.names.lookup ("super" : Str)).isSome = false)
    (hq : ∀ h' t' t1 dx, (∀ b o, b ≠ e → h.get? b = some o → h'.get? b = some o) → h.objs.size ≤ dx → dx ≠ e → h'.get? e = some { cls := .ref C, dict := some dx, data := .fields #[.ref t1, .none, .none, .none, .bool false, .none] } → h'.Ns1 dx (fun y => if y = f then some u else none) → R (.ok (.ret .none)) ⟨h', g, d, t', os⟩) :
    codeAny (model P w) A (.call (.ref fI) ⟨.ref e :: us, []⟩) R ⟨h, g, d, t, os⟩ := by
  obtain ⟨oc, od, osl, lk⟩ := T.fn
  obtain ⟨cdC, c1, c2, c3⟩ := TA.cd
  have nl : h.NoLimit := M.nolimit.keeps kb
  refine PySem.ks_codeAny_call_defAt (fd := PySem.W.fnX "__init__" qual params body scope [("__class__", cc)] dV kV doc pm an (.ref cda) ct) (body := body) (binds := binds) hd (X _ _ lk) rfl nl (PySem.W.codeRec_of X T.cd) rfl (hb _ .none) hcell hloc (fun h1 hns kk => ?_) hco hgen hk
  show PySem.wpAt _ _ _ (execs body (PySem.W.ksEnv qual scope h.objs.size fI (.ref cda) cc)) _ _ _
  have hLe : h.objs.size ≠ e := Ne.symm (Nat.ne_of_lt (Heap.lt_size he))
  rw [hbody]
  refine super_step T (X.keeps kk) M (fun b o z => kk b o (kb b o z)) hmg hns hself (kk _ _ he) hp hk hks hkc hka ht hfile htop fun h' t' t1 k2 e2 => ?_
  have hns2 : h'.Ns h.objs.size _ := Heap.Ns.at hns fun o z => k2 _ o hLe z
  have X2 : K.In h' := fun b o z => k2 b o (fun y => by rw [y, hKe] at z; cases z) (kk b o (X b o z))
  refine PySem.ks_wpAt_execs_cons (wpAt_of_wpAny (plainObj_wpAny_Assign_Attribute (wpAny_Name (wpAny_loadName_local hk hkx hns2 hx ?_) hdx) ?_))
  · refine wpAny_Name (wpAny_loadName_local hk hka hns2 hself ?_) hda
    refine PySem.W.set_plain X2 (ox := HandSPX.excO C t1) (od := none) ⟨e2, rfl, rfl, trivial⟩ TA.sa ?_
    refine osaX X2 e2 c1 c2 c3 TA.no fun h3 tk3 dx k3 sz3 ne3 he3 hn3 => ?_
    refine wpAt_of_wpAny (wpAny_execs_nil ?_)
    refine hq h3 tk3 t1 dx (fun b o hne z => k3 b o hne (k2 b o hne (kk b o z))) (Nat.le_trans ?_ sz3) ne3 he3 hn3
    obtain ⟨o, _, _, z, _⟩ := hns2
    exact Nat.le_of_lt (Heap.lt_size z)
  · rfl
/-- where E(a) is made -/
theorem pmk_sup1 {X : Cx} {fl : Str} {C : Addr} {qual x f y : Str} {params : Arguments} {body : List Stmt} {scope : Scope} {fI cc cda : Addr} {dV kV doc pm ct : Value} {an : Option Addr} {ar : Arg} {msg : Str} {j k : Nat} {p p0 p1 p2 p3 p4 p5 q0 q1 q2 q3 pos : Pos} {e1 : Expr} {ta : TA}
    (T : XCls X.K fl C qual params body scope fI cc cda dV kV doc pm ct an) (TA : XAtt X.K C f)
    (hbody : body = [.Expr (.Call (.Attribute (.Call (.Name "super" p0) [] [] p1) "__init__" p2) [.Constant (.str msg) j p3] [] p4) p5, .Assign [.Attribute (.Name ar.arg q0) f q1] (.Name y q2) q3])
    (hb : ∀ (s : Shared) (oc : Value) (e u : Value), BindsTo s (PySem.W.fnX "__init__" qual params body scope [("__class__", cc)] dV kV doc pm an (.ref cda) ct) ⟨[e, u], []⟩ [(ar.arg, e), (y, u)])
    (hay : (ar.arg == y) = false)
    (hp : (params.posonlyargs ++ params.args).head? = some ar) (hk : scope.kind = .function) (hks : scope.names.lookup ("super" : Str) = some .globalImplicit) (hkc : scope.names.lookup ("__class__" : Str) = some .free) (hka : scope.names.lookup ar.arg = some .local) (hkx : scope.names.lookup y = some .local)
    (hda : (ar.arg == ("__debug__" : Str)) = false) (hdy : (y == ("__debug__" : Str)) = false)
    (hcell : ∀ x ∈ scope.names, x.2 ≠ .cell) (hco : scope.isCoroutine = false) (hgen : scope.isGenerator = false)
    (ht : SupT msg j p0 p1 p2 p3 p4) (hfile : X.prog.main.file = fl) (htop : (X.prog.main.scope.names.lookup ("super" : Str)).isSome = false)
    (hr : Room (k + 1) X.A) (hg : Gl X x) (hm : X.mg x = some (.ref C)) (hmg : X.mg "super" = none) (hdb : (x == ("__debug__" : Str)) = false) (ha : PA X [e1] ta)
    (he : starEach [e1] X.env = [(false, eval e1 X.env)] := by rfl) :
    PMk X (.Call (.Name x p) [e1] [] pos) (fun σ H Q => ta σ H fun vs H1 => ∃ v, vs = [v] ∧ ∀ dx, H1 dx = none → Q (.ref C) (some dx) (upd H1 dx (.xd [(f, v)]))) := by
  intro pins s σ H Q I h
  refine wpAny_Call_Name_kw (ld_glob I hg hm ?_ hdb)
  refine PySem.W.callWith_K (h₀ := X.base) I.ok.mod.kin T.kC (thn (ha.run pos pins s σ H _ I h) fun us s1 ⟨vs, H1, I1, r1, q1⟩ => ⟨I1.kIn, ?_⟩) he rfl
  show wpAny _ _ (call (.ref C) us) _ _ _
  obtain ⟨v, rfl, q1⟩ := q1
  obtain ⟨u, rfl, ru⟩ : ∃ u, us = [u] ∧ RelV v u := by
    cases r1 with
    | cons a b => cases b; exact ⟨_, rfl, a⟩
  obtain ⟨hp0, g, dr, tk, os⟩ := s1
  obtain ⟨nm, N, qn, bs, bm, hdct, sn, sub, ab, col, dd, k0, k1, k2, k3, k5, hC, hT⟩ := PySem.W.excInit_of I1.kIn T.q
  have hsz : hp0.objs.size ≤ hp0.objs.size + 1 := Nat.le_succ _
  have hn : H1 (hp0.objs.size + 1) = none := I1.hok.fresh hsz
  have kk : ∀ b o, hp0.get? b = some o → ((hp0.push (PySem.W.kdv_tup [u])).push (PySem.HandSPX.excO C hp0.objs.size)).get? b = some o := fun b o e => Heap.get?_push_of_some _ (Heap.get?_push_of_some _ e)
  have hget : ((hp0.push (PySem.W.kdv_tup [u])).push (PySem.HandSPX.excO C hp0.objs.size)).get? (hp0.objs.size + 1) = some (PySem.HandSPX.excO C hp0.objs.size) := by heap_get
  have na : ∀ {b : Addr} {o : Obj}, hp0.get? b = some o → b ≠ hp0.objs.size + 1 := fun {b o} z => Nat.ne_of_lt (Nat.lt_of_lt_of_le (Heap.lt_size z) hsz)
  have hKe : X.K.lookup (hp0.objs.size + 1) = none := by
    cases z : X.K.lookup (hp0.objs.size + 1) with
    | none => rfl
    | some o => exact absurd rfl (na (I1.kIn _ _ z))
  refine wpAny_call (PySem.HandSPX.call_own F.excBase_Exception hT hC (PySem.W.looks_findIn I1.kIn T.iI) (fun self => PySem.W.bind_fn I1.kIn self T.tI) (by show 1 ≤ sizeLine; rw [sizeLine_eq]; omega)
    (init_runs1 (us := [u]) (u := u) (binds := [(ar.arg, .ref (hp0.objs.size + 1)), (y, u)]) T TA hbody (I1.kIn.keeps kk) I1.ok.mod (fun b o z => kk b o (I1.bk b o z)) hmg hget hKe (hr.make C [u] []).depth (fun s oc => hb s oc _ _) (fun z hz => ?_) ?_ ?_ hp hk hks hkc hka hkx hda hdy hcell hco hgen ht hfile htop fun h' t' t1 dx k3 sz3 ne3 e3 n3 => ?_))
  · simp only [List.mem_cons, List.not_mem_nil, or_false] at hz
    rcases hz with rfl | rfl
    · exact hka
    · exact hkx
  · show List.lookup ar.arg [(y, u), (ar.arg, _)] = _
    rw [List.lookup_cons, hay, List.lookup_cons]
    simp
  · show List.lookup y [(y, u), (ar.arg, _)] = _
    rw [List.lookup_cons]
    simp
  · refine ⟨rfl, ?_⟩
    have up : ∀ b o, hp0.get? b = some o → h'.get? b = some o := fun b o z => k3 b o (na z) (kk b o z)
    obtain ⟨G, g1, g2⟩ := restrict h' fun b => decide (b ≠ hp0.objs.size + 1)
    have gk : ∀ b, b ≠ hp0.objs.size + 1 → G.get? b = h'.get? b := fun b hb => g1 b (decide_eq_true hb)
    have ge : G.get? (hp0.objs.size + 1) = none := g2 _ (by simp)
    have szd : hp0.objs.size ≤ dx := Nat.le_trans (by simp [Heap.push]; omega) sz3
    have nd : H1 dx = none := I1.hok.fresh szd
    have J : Inv X pins σ (upd H1 dx (.xd [(f, v)])) ⟨G, g, dr, t', os⟩ := I1.laid (t' := t') (a := dx) (o := .xd [(f, v)]) (h' := G) (fun b o z => (gk b (na z)).trans (up b o z)) szd
      ⟨_, n3.at fun o z => (gk dx ne3).trans z, relO_put (fs := []) ru fun g => True.intro⟩
    refine ⟨hp0.objs.size + 1, _, _, ⟨G, g, dr, t', os⟩, _, .ref C, some dx, rfl, J, fun b o z => ?_, ge, e3, ⟨rfl, rfl⟩, rfl, rfl, ?_, rfl, I1.bare, raises_own T.xB T.xT, q1 dx nd⟩
    · by_cases hb : b = hp0.objs.size + 1
      · rw [hb] at z
        rw [show (Shared.heap ⟨G, g, dr, t', os⟩).get? (hp0.objs.size + 1) = none from ge] at z
        cases z
      · exact (gk b hb).symm.trans z
    · rw [upd_ne (Ne.symm ne3)]
      exact hn
end
section
variable {X : Cx} {pos : Pos}
/-- raise E(a) -/
theorem dpx_raise1 {p p0 p1 p2 p3 p4 p5 q0 q1 q2 q3 pos' : Pos} {x qual f y : Str} {C : Addr} {st : Stmt} {ar : Arg} {msg : Str} {j k : Nat} {e1 : Expr} {ta : DTA} (hc : X.calm = true) (c : ErrC X.prog X.K X.mg C x qual st) (TA : XAtt X.K C f) (hr : Room (k + 1) X.A) (ha : DA X [e1] ta)
    (hp : ((defArgs st).posonlyargs ++ (defArgs st).args).head? = some ar) (hbody : defBody st = [.Expr (.Call (.Attribute (.Call (.Name "super" p0) [] [] p1) "__init__" p2) [.Constant (.str msg) j p3] [] p4) p5, .Assign [.Attribute (.Name ar.arg q0) f q1] (.Name y q2) q3])
    (hb : ∀ (kV doc pm : Value) (an : Option Addr) (cdv ct : Value) (cl : List (Str × Addr)) (e u : Value), bindArgs (PySem.W.fnX "__init__" qual (defArgs st) (defBody st) (defScope st) cl .none kV doc pm an cdv ct) ⟨[e, u], []⟩ = pure [(ar.arg, e), (y, u)])
    (hay : (ar.arg == y) = false) (hk : (defScope st).kind = .function) (hks : (defScope st).names.lookup ("super" : Str) = some .globalImplicit) (hkc : (defScope st).names.lookup ("__class__" : Str) = some .free) (hka : (defScope st).names.lookup ar.arg = some .local) (hkx : (defScope st).names.lookup y = some .local)
    (hda : (ar.arg == ("__debug__" : Str)) = false) (hdy : (y == ("__debug__" : Str)) = false)
    (hcell : ∀ x ∈ (defScope st).names, x.2 ≠ .cell) (hco : (defScope st).isCoroutine = false) (hgen : (defScope st).isGenerator = false) (ht : SupT msg j p0 p1 p2 p3 p4)
    (hg : Gl X x := by rfl) (hdb : (x == ("__debug__" : Str)) = false := by decide) (he : starEach [e1] X.env = [(false, eval e1 X.env)] := by rfl) :
    DPX X (.Raise (some (.Call (.Name x p) [e1] [] pos)) none pos') (fun _ E' S G => ta S G fun ds G1 => ∃ d, ds = [d] ∧ E' S C [(f, d)] G1) := ⟨fun W tk => by
  obtain ⟨fI, cc, cda, kV, doc, pm, ct, an, T⟩ := c.ex
  obtain ⟨t1, pa, r1⟩ := ha.ex
  refine ⟨_, ps_raise hc tk (pmk_sup1 T TA hbody (fun s oc e u => BindsTo.of_eq (hb kV doc pm an (.ref cda) ct [("__class__", cc)] e u)) hay hp hk hks hkc hka hkx hda hdy hcell hco hgen ht rfl c.top hr hg c.mg_ c.su hdb pa he), fun F H σ S G o D' E' h D0 kn kx => ?_⟩
  refine r1 F H σ S G o _ h _ fun F1 H1 vs ds G1 e1 g1 q1 h1 => ?_
  obtain ⟨d, rfl, h1⟩ := h1
  cases q1 with
  | cons rv b =>
    cases b
    rename_i v
    refine ⟨v, rfl, fun dx hd => ?_⟩
    have gr := Gr.only (u := .xd [(f, v)]) g1.ex hd
    exact kx F1 _ σ S G1 _ _ C [(f, d)] (e1.trans gr.go) ⟨g1.grow gr, o.s.mono e1.ex⟩ ⟨rfl, .inr ⟨dx, [(f, v)], rfl, upd_same, g1.free hd, by simp, rfl, .one rv⟩⟩ h1⟩
def rIsE1 (K : PySem.W.Frag) (D a : Addr) (d : Option Addr) : List V → Hp → VK → Prop := fun xs H Q => ∃ (c : V) (cv : Value) (b : Bool) (dd : Addr) (fs : List (Str × V)), xs = [.ref a, c] ∧ (∀ u, RelV c u → u = cv) ∧ PySem.W.kitOne K (.ref D) cv = some b ∧ d = some dd ∧ H dd = some (.xd fs) ∧ Q (.bl b) H
theorem call_isE1 {a D : Addr} {oe : Obj} {d : Option Addr} {pn : List (Addr × Obj)} (C : ExcC X.K D) (hz : Zc (.ref D) d oe) (hf : ∃ vs, oe.data = .fields vs) : CallR (X.suite a ((a, oe) :: pn)) (.builtin "isinstance") (rIsE1 X.K D a d) := by
  intro pins s σ H xs us Q I r h
  obtain ⟨c, cv, b, dd, fs, rfl, hcv, e, ed, ea, q⟩ := h
  cases r with
  | cons rx rr =>
    cases rr with
    | cons rt rr =>
      cases rr
      cases rx
      have ec := hcv _ rt
      subst ec
      subst ed
      obtain ⟨hget, _⟩ := I.pin (a, oe) (List.mem_append.mpr (.inl List.mem_cons_self))
      obtain ⟨vs, hv⟩ := hf
      have hx : ObjOk X.prog X.w H s.heap dd (.xd fs) := I.hok dd _ ea
      obtain ⟨mA, hns, hr⟩ := hx
      obtain ⟨od, ho, hl⟩ := lookIn_ns hns
      have J : PySem.W.InstAt s.heap a oe D (some od) := ⟨hget, hz.1, by unfold PySem.W.notCls; rw [hv] <;> rfl, by rw [hz.2]; exact ho⟩
      have hcl : (PySem.W.clsIn X.K D).isSome = true := by
        obtain ⟨cdD, hcD, _⟩ := PySem.W.any_some C.hd
        rw [hcD]; rfl
      exact PySem.W.kia_one (PySem.W.kitx_exc hcl C.hg C.hk C.hs C.ha C.hn C.ht C.hm) I.kIn J e (fun z => nomatch z) fun tk => ⟨.bl b, H, I.kept (t' := tk) fun _ _ z => z, rfl, q⟩
def dIsE1 (C1 D a CE : Addr) (fs : XFs) (b : Bool) (ta : DTA) : DTE := fun S G Q => ta S G fun ds G1 => ds = [.rf a, .rf CE] ∧ C1 = D ∧ fs ≠ [] ∧ Q (.bl b) G1
theorem dee_isE1 {a D CE : Addr} {oe : Obj} {d : Option Addr} {pn : List (Addr × Obj)} {C1 : Addr} {fs : XFs} {b : Bool} {p : Pos} {e : Expr} {es : List Expr} {ta : DTA} (T : ExcC X.K D) (hk : PySem.W.kitOne X.K (.ref D) (.ref CE) = some b) (hz : Zc (.ref C1) d oe) (hf : ∃ vs, oe.data = .fields vs)
    (hg : Gl X "isinstance") (hm : X.mg "isinstance" = none) (ha : DA (X.suite a ((a, oe) :: pn)) (e :: es) ta)
    (he : starEach (e :: es) X.env = (false, eval e X.env) :: starEach es X.env := by rfl) (hpl : (backTo pos (starEach es X.env)).any (·.1) = false := by rfl) :
    DEE (X.suite a ((a, oe) :: pn)) (fun F H G => XRep X.K F H G (.ref C1) d C1 fs) (.Call (.Name "isinstance" p) (e :: es) [] pos) (dIsE1 C1 D a CE fs b ta) := by
  obtain ⟨t1, p1, r1⟩ := ha.ex
  by_cases hD : C1 = D
  · subst hD
    refine ⟨_, pe_callB (call_isE1 T hz hf) hg hm Boot.«isinstance» p1 (by decide) (by decide) he hpl, fun F H σ S G o x Q' h Q k => ?_⟩
    refine r1 F H σ S G o _ h _ fun F1 H1 vs ds G1 e1 g1 q1 h1 => ?_
    obtain ⟨rfl, _, hne, h1⟩ := h1
    rcases (xrep_keeps F H G F1 H1 G1 e1 x).2 with ⟨_, z⟩ | ⟨dx, ws, ed, hH, _⟩
    · exact absurd z hne
    cases q1 with
    | cons qa qr =>
      cases qr with
      | cons qb qn =>
        cases qn
        cases qa
        cases qb
        exact ⟨.ref CE, .ref CE, b, dx, ws, rfl, fun u hu => hu, hk, ed, hH, k F1 H1 _ _ G1 e1 g1 (.bl b) h1⟩
  · refine ⟨_, pe_callB (r := fun _ _ _ => False) (fun _ _ _ _ _ _ _ _ _ z => z.elim) hg hm Boot.«isinstance» p1 (by decide) (by decide) he hpl, fun F H σ S G o x Q' h Q k => ?_⟩
    refine r1 F H σ S G o _ h _ fun F1 H1 vs ds G1 e1 g1 q1 h1 => ?_
    exact absurd h1.2.1 hD
/-- e.x -/
def dXf (C1 D a : Addr) (f : Str) (fs : XFs) (te : DTE) : DTE := fun S G Q => te S G fun d G1 => d = .rf a ∧ C1 = D ∧ (match fs.lookup f with
  | some v => Q v G1
  | none => False)
theorem dee_xf {a D : Addr} {oe : Obj} {d : Option Addr} {pn : List (Addr × Obj)} {C1 : Addr} {fs : XFs} {f : Str} {e : Expr} {te : DTE} (T : XfC X.K D) (TA : XAtt X.K D f) (hz : Zc (.ref C1) d oe) (hf : ∃ vs, oe.data = .fields vs) (he : DE (X.suite a ((a, oe) :: pn)) e te)
    (hb : attributeBase e f X.env (eval e X.env) = eval e X.env := by rfl) :
    DEE (X.suite a ((a, oe) :: pn)) (fun F H G => XRep X.K F H G (.ref C1) d C1 fs) (.Attribute e f pos) (dXf C1 D a f fs te) := by
  obtain ⟨t1, p1, r1⟩ := he.ex
  refine ⟨_, pe_xf T TA.no hz hf p1 hb, fun F H σ S G o x Q' h Q k => ?_⟩
  refine r1 F H σ S G o _ h _ fun F1 H1 v dd G1 e1 g1 q1 h1 => ?_
  obtain ⟨rfl, rfl, h1⟩ := h1
  cases q1
  split at h1
  · rename_i dv el
    rcases (xrep_keeps F H G F1 H1 G1 e1 x).2 with ⟨_, z⟩ | ⟨dx, ws, ed, hH, _, _, hks, hrs⟩
    · rw [z] at el; cases el
    · have kr : KR X.K F1 ws fs := ⟨hks, hrs⟩
      obtain ⟨wv, hl, rv⟩ := kr.look.1 dv el
      exact ⟨rfl, rfl, dx, ws, wv, ed, hH, hl, k F1 H1 _ _ G1 e1 g1 rv h1⟩
  · exact h1.elim
end
end DL
end
section
set_option Elab.async false
set_option linter.all false
set_option maxRecDepth 100000
set_option maxHeartbeats 4000000
namespace DL
open PySem PySem.Spec PyProof.Rows L2
end DL
end
section
set_option Elab.async false
set_option linter.all false
set_option maxRecDepth 100000
set_option maxHeartbeats 4000000
namespace DL
open PySem PySem.Spec PyProof.Rows L2
def flatTys : List String := ["NoneType", "bool", "int", "str", "list", "tuple", "dict"]
structure InsV (K : PySem.W.Frag) (C : Addr) : Prop where
  i : C8.InsC K C
  tyC : ∀ T ∈ flatTys, PySem.W.kitOne K (.type T) (.ref C) = some false
  Cty : ∀ T ∈ flatTys, PySem.W.kitOne K (.ref C) (.type T) = some false
  nf : ∀ T ∈ flatTys, PySem.W.notFirst K C (.type T) = true
def insVB (K : PySem.W.Frag) (C : Addr) : Bool := flatTys.all fun T => decide (PySem.W.kitOne K (.type T) (.ref C) = some false) && (decide (PySem.W.kitOne K (.ref C) (.type T) = some false) && PySem.W.notFirst K C (.type T))
theorem insVB_ok {K : PySem.W.Frag} {C : Addr} (c : C8.InsC K C) (h : insVB K C = true) : InsV K C := by
  unfold insVB at h
  rw [List.all_eq_true] at h
  refine ⟨c, fun T hT => ?_, fun T hT => ?_, fun T hT => ?_⟩ <;> (have := h T hT; simp only [Bool.and_eq_true, decide_eq_true_eq] at this)
  · exact this.1
  · exact this.2.1
  · exact this.2.2
theorem tyN_flat {d : D} {n : String} (h : d.tyN = some n) : n ∈ flatTys := by
  cases d <;> simp only [D.tyN] at h <;> first | (cases h; decide) | cases h
section
variable {X : Cx}
/-- isinstance(x, C), C own, x of it or of any plain kind -/
def rIsV (C : Addr) (ds : List D) (G : GH) (Q : DQ) : Prop := match ds with
  | [d, .rf C'] => C' = C ∧ (match d.cur G with
    | .obj C1 _ => C1 = C ∧ Q (.bl true) G
    | e => e.tyN.isSome = true ∧ Q (.bl false) G)
  | _ => False
theorem rIsV_no {C : Addr} {d : D} {G : GH} {Q : DQ} (h : ∀ C1 fs, d.cur G ≠ .obj C1 fs) (ht : (d.cur G).tyN.isSome = true) (q : Q (.bl false) G) : rIsV C [d, .rf C] G Q := by
  unfold rIsV
  refine ⟨rfl, ?_⟩
  cases e : d.cur G with
  | obj C1 fs => exact absurd e (h C1 fs)
  | _ => rw [e] at ht; exact ⟨ht, q⟩
theorem cd_isV {C : Addr} (c : InsV X.K C) : CallD X (.builtin "isinstance") (rIsV C) := by
  refine ⟨_, (C8.call_isC c.i).or call_isi, fun F H G vs ds g rs Q' h Q k => ?_⟩
  unfold rIsV at h
  split at h
  · rename_i d C'
    obtain ⟨rfl, h⟩ := h
    cases rs with
    | cons r1 rt =>
      cases rt with
      | cons r2 rt2 =>
        cases rt2
        cases r2
        split at h
        · rename_i C1 fs e1
          obtain ⟨rfl, h⟩ := h
          obtain ⟨a, dx, kvs, rfl, ha, _⟩ := cur_obj g r1 e1
          exact .inl ⟨a, dx, kvs, rfl, ha, k F H _ _ G Go.refl g (.bl _) h⟩
        · obtain ⟨hn, h⟩ := h
          obtain ⟨n, hn⟩ := Option.isSome_iff_exists.mp hn
          exact .inr ⟨_, _, .type n, .ref C', false, rfl, .own C', .base (tyN_of g r1 hn), c.tyC n (tyN_flat hn), k F H _ _ G Go.refl g (.bl _) h⟩
  · exact h.elim
/-- x == y, x of the own class C, y any -/
def rEqV (C : Addr) (sp : SpD) : DR2 := fun x y G Q => (match x.cur G with
  | .obj C1 _ => C1 = C
  | _ => False) ∧ (match y.cur G with
  | .obj C2 _ => C2 = C
  | e => e.tyN.isSome = true) ∧ sp [x, y] G fun d G' => match d with
    | .bl b => Q (.bl b) G'
    | _ => False
def vEqV (X : Cx) (C : Addr) (sp : SpD) : R2 := fun x y H Q => ∃ a dx fs, x = .ref a ∧ H a = some (.ins C dx fs) ∧ ((∃ b dy gs, y = .ref b ∧ H b = some (.ins C dy gs)) ∨ ∃ n ∈ flatTys, TyOf X.K H y (.type n)) ∧ SpOf X.K sp [.ref a, y] H (fun v H' => (∃ b, v = .bl b) ∧ Q v H') (fun _ _ _ => False)
theorem op_eqV {C : Addr} {k : Nat} {ps : List Str} {sp : SpD} (n : InsV X.K C) (c : CalM X.prog X.w X.K X.mg X.base C "__eq__" k ps sp) (hA : X.A.guards = some []) (hr : Room k X.A) : OpR X (compareOp .Eq) (vEqV X C sp) := by
  obtain ⟨f, fd, M, Fn, hb⟩ := c.ex
  intro pins s σ H x y v u Q I rx ry hq
  obtain ⟨a, dx, fs, rfl, ha, hy, q⟩ := hq
  cases rx
  show wpAny (model X.prog X.w) X.A (richCompare .Eq (.ref a) u) (EP X pins σ Q) X.xe s
  obtain ⟨mA, J, _⟩ := ins_get I.hok ha
  obtain ⟨od, J, _⟩ := J.look
  obtain ⟨m, hF⟩ := I.fr
  obtain ⟨tb, hl, hnf⟩ : ∃ tb, PySem.W.Looks (model X.prog X.w) s.heap (typeOf u) tb ∧ PySem.W.notFirst X.K C tb = true := by
    rcases hy with ⟨b, dy, gs, rfl, hb'⟩ | ⟨T, hT, ty⟩
    · cases ry
      obtain ⟨mB, J', _⟩ := ins_get I.hok hb'
      obtain ⟨od', J', _⟩ := J'.look
      exact ⟨.ref C, J'.type, by simp [PySem.W.notFirst]⟩
    · obtain ⟨P0, kx, hp, _⟩ := kit_of I ry (.base ty)
      exact ⟨_, kx.ty _ _ I.kIn hp, n.nf T hT⟩
  refine PySem.W.cmp_K (op := .Eq) (tb := tb) hr.units0 hF I.ok.mod.kin J hl hnf M.at_ M.fn ?_
  have r2 : Vals [V.ref a, y] [Value.ref a, u] := .cons rfl (.cons ry .nil)
  refine wpAny_mono (goes_fn (us := [.ref a, u]) Fn hA hr [] (fun s2 i l => by simpa using hb s2 [.ref a, u] i (by simpa using l)) pass0 I r2 q) (fun w s' z => ?_) fun _ _ z => z
  obtain ⟨v', H', I', rv, ⟨b0, rfl⟩, q'⟩ := z
  cases rv
  exact ⟨.bl b0, H', I', rfl, q'⟩
theorem od_eqV {C : Addr} {k : Nat} {ps : List Str} {sp : SpD} (n : InsV X.K C) (c : CalM X.prog X.w X.K X.mg X.base C "__eq__" k ps sp) (hA : X.A.guards = some []) (hr : Room k X.A) : OpD X (compareOp .Eq) (rEqV C sp) := by
  refine ⟨_, op_eqV n c hA hr, fun F H G x y dx dy g rx ry Q' h Q k => ?_⟩
  obtain ⟨h1, h2, h3⟩ := h
  split at h1
  · rename_i C1 fs1 e1
    subst h1
    obtain ⟨a, d1, k1, rfl, ha, _⟩ := cur_obj g rx e1
    refine ⟨a, d1, k1, rfl, ha, ?_, F, G, [dx, dy], _, g, .cons rx (.cons ry .nil), h3, ?_⟩
    · split at h2
      · rename_i C2 fs2 e2
        subst h2
        obtain ⟨b, d2, k2, rfl, hb, _⟩ := cur_obj g ry e2
        exact .inl ⟨b, d2, k2, rfl, hb⟩
      · obtain ⟨T, hT⟩ := Option.isSome_iff_exists.mp h2
        exact .inr ⟨T, tyN_flat hT, tyN_of g ry hT⟩
    · intro F' H' v d G' e1 g1 r1 h1
      split at h1
      · cases r1
        exact ⟨⟨_, rfl⟩, k F' H' _ _ G' e1 g1 (.bl _) h1⟩
      · exact h1.elim
  · exact h1.elim
end
end DL
end
section
set_option Elab.async false
set_option linter.all false
set_option maxRecDepth 100000
set_option maxHeartbeats 4000000
namespace DL
open PySem PySem.Spec PyProof.Rows L2
end DL
end
section
set_option Elab.async false
set_option linter.all false
set_option maxRecDepth 100000
set_option maxHeartbeats 4000000
namespace DL
open PySem PySem.Spec PyProof.Rows L2
section
variable {X : Cx} {CX : CXT} {k : Nat} {f C : Addr} {fd : FuncData} {ps ks : List Str} {sp0 : Sp} {E : XK} {W : WX} {x : Str} {p pos : Pos} {e : Expr} {es : List Expr} {t : TA} {kws : List Keyword}
theorem goes_makeS {pins : List (Addr × Obj)} {σ : L2.St} {H : Hp} {s : Shared} {Q : VK} {us : List Value} {vs : List V} (M : Mk X.K C f) (F : FnG X.prog X.w X.K X.mg X.base (L2.CX X.prog X.w) k f fd ps sp0) (hA : X.A.guards = some []) (hr : Room (k + 1) X.A) (hb : Binds X.K fd ps [])
    (tk : Takes X W) (I : Inv X pins σ H s) (r : Vals vs us)
    (h : ∀ y dy, H y = none → H dy = none → dy ≠ y → sp0 (.ref y :: vs) (upd (upd H dy (.own y)) y (.ins C dy [])) (fun v H2 => v = .non ∧ Q (.ref y) H2) (WE W σ)) :
    wpAny (model X.prog X.w) X.A (call (.ref C) us) (EP X pins σ Q) X.xe s := by
  have nw : H (s.heap.objs.size + 1) = none := I.hok.fresh (Nat.le_succ _)
  have nd : H s.heap.objs.size = none := I.hok.fresh (Nat.le_refl _)
  have q0 := h (s.heap.objs.size + 1) s.heap.objs.size nw nd (Nat.ne_of_lt (Nat.lt_succ_self _))
  have J := Inv.made (C := C) I
  have r2 : Vals (V.ref (s.heap.objs.size + 1) :: vs) (Value.ref (s.heap.objs.size + 1) :: us) := Paired.cons rfl r
  have lg : (Value.ref (s.heap.objs.size + 1) :: us).length = ps.length := by
    have z := r2.length
    rw [F.many _ _ _ _ q0] at z
    exact z.symm
  refine wpAny_call (make_map (f := f) I.kIn M.makes M.init (beq_iff_eq.mp M.fn) (codeAny_mono (F.goes _ X.stack _ _ ⟨Value.ref (s.heap.objs.size + 1) :: us, []⟩ (Value.ref (s.heap.objs.size + 1) :: us) _ _ (WE W σ) (under_guards hA) (hr.make C us [])
    (J.env0.make C us []) (by simpa using hb _ (Value.ref (s.heap.objs.size + 1) :: us) J.kIn (by simpa using lg)) r2 q0) ?_))
  intro res s' z
  match res, z with
  | .error er, z => exact passAt tk σ pins _ _ er s' J z
  | .ok (.ret u), z =>
    obtain ⟨v, H', J', rv, ev, q3⟩ := J.after z
    subst ev
    exact ⟨rv, ⟨V.ref (s.heap.objs.size + 1), H', J', rfl, q3⟩⟩
  | .ok .next, z => exact z.elim
  | .ok .brk, z => exact z.elim
  | .ok .cont, z => exact z.elim
end
/-- a class whose __init__ may raise -/
structure MakX (P : Program) (w : World) (K : PySem.W.Frag) (mg : Str → Option Value) (base : Heap) (x : Str) (C : Addr) (k : Nat) (ps : List Str) (sp : SpX) : Prop where
  ex : ∃ f fd, Mk K C f ∧ FnG P w K mg base (L2.CX P w) k f fd ps (SpOfX K sp) ∧ mg x = some (.ref C) ∧ Binds K fd ps []
section
variable {X : Cx} {pos : Pos}
/-- C(e, ..), which may raise -/
theorem dex_mak {x : Str} {C : Addr} {k : Nat} {ps : List Str} {sp : SpX} {p : Pos} {e : Expr} {es : List Expr} {ta : DTA} (c : MakX X.prog X.w X.K X.mg X.base x C k ps sp) (hA : X.A.guards = some []) (hr : Room (k + 1) X.A) (ha : DA X (e :: es) ta) (hg : Gl X x := by rfl) (hdb : (x == ("__debug__" : Str)) = false := by decide)
    (he : starEach (e :: es) X.env = (false, eval e X.env) :: starEach es X.env := by rfl) (hpl : (backTo pos (starEach es X.env)).any (·.1) = false := by rfl) : DEX X (.Call (.Name x p) (e :: es) [] pos) (fun S G Q E => ta S G fun ds G1 => ∀ y, G1 y = none → sp (.rf y :: ds) (gput G1 y (.ins C [])) (fun d G2 => match d with
      | .non => Q (.rf y) G2
      | _ => False) E) := ⟨fun W tk => by
  obtain ⟨f, fd, M, Fn, hm, hb⟩ := c.ex
  obtain ⟨t2, p2, r2⟩ := ha.ex
  refine ⟨fun σ H Q => t2 σ H fun vs H1 => ∀ y dy, H1 y = none → H1 dy = none → dy ≠ y → SpOfX X.K sp (.ref y :: vs) (upd (upd H1 dy (.own y)) y (.ins C dy [])) (fun v H2 => v = .non ∧ Q (.ref y) H2) (WE W σ),
    ⟨fun pins s σ H Q I h => ?_⟩, fun F H σ S G o Q' E' h Q k kx => ?_⟩
  · apply wpAny_Call_Name_kw
    refine ld_glob I hg hm ?_ hdb
    refine PySem.W.callWith_K (h₀ := X.base) I.ok.mod.kin M.kp (thn (p2.run pos pins s σ H _ I h) ?_) he hpl
    rintro us s1 ⟨vs, H1, I1, r, q⟩
    exact ⟨I1.kIn, goes_makeS M Fn hA hr hb tk I1 r q⟩
  · refine r2 F H σ S G o _ h _ fun F1 H1 vs ds G1 e1 g1 q1 h1 => ?_
    intro y dy ny ndy ne
    have gr := Gr.only (u := .own y) g1.ex ndy
    have g2 := g1.grow gr
    have ny2 : upd H1 dy (.own y) y = none := by rw [upd_ne (fun z => ne z.symm)]; exact ny
    have g3 := g2.alloc (u := .ins C dy []) (o := .ins C []) ny2 rfl ⟨dy, [], upd_same, rfl, .nil⟩
    have go3 : Go F1 H1 G1 F1 _ (gput G1 y (.ins C [])) := (gr.go (G := G1)).trans (Go.alloc (u := .ins C dy []) (o := .ins C []) ny2)
    refine ⟨F1, _, .rf y :: ds, _, E', g3, .cons (.rf y) q1, h1 y (g1.free ny), ?_, fun F' H' G' cls d C fs a b c q => kx F' H' G' cls d C fs ((e1.trans go3).trans a) b c q⟩
    intro F4 H4 v d G4 e4 g4 q4 h4
    split at h4
    · cases q4
      exact ⟨rfl, k F4 H4 _ _ G4 ((e1.trans go3).trans e4) g4 (.rf y) h4⟩
    · exact h4.elim⟩
end
end DL
end
section
set_option Elab.async false
set_option linter.all false
set_option maxRecDepth 100000
set_option maxHeartbeats 4000000
namespace DL
open PySem PySem.Spec PyProof.Rows L2
end DL
end
section
set_option Elab.async false
set_option linter.all false
set_option maxRecDepth 100000
set_option maxHeartbeats 4000000
namespace Pace
open PySem PySem.Spec PyProof.Rows L2 DL
def top (i : Nat) : Stmt := PySem.Challenge.pw_pacehouse_k01_rules_of_any_values.main.body.getD i (.Pass ⟨0, 0, 0, 0⟩)
abbrev s__wall : Stmt := top 0
abbrev s_BadRules_u__init_u_ : Stmt := inClass (top 3) 0
abbrev s_are_letters : Stmt := top 16
abbrev s_number_in : Stmt := top 17
abbrev s_text_of : Stmt := top 18
abbrev s_first_line : Stmt := top 19
abbrev s_move_line : Stmt := top 20
abbrev s_parts_in : Stmt := top 21
abbrev s_is_integer : Stmt := top 26
abbrev s_is_letter_of : Stmt := top 27
abbrev s_is_move : Stmt := top 28
abbrev s_is_row : Stmt := top 29
abbrev s_steps_of : Stmt := top 30
abbrev s_states_met : Stmt := top 31
abbrev s_classes_of : Stmt := top 32
abbrev s_least_rows : Stmt := top 33
abbrev s_step_at : Stmt := top 34
abbrev s_paired_steps : Stmt := top 35
abbrev s_one_keys : Stmt := top 36
abbrev s_check_letters : Stmt := top 37
abbrev s_Rules_u__init_u_ : Stmt := inClass (top 38) 0
abbrev s_Rules_u__str_u_ : Stmt := inClass (top 38) 2
abbrev s_Rules_u__len_u_ : Stmt := inClass (top 38) 3
abbrev s_Rules_u__eq_u_ : Stmt := inClass (top 38) 4
abbrev s__law_deck : Stmt := top 40
abbrev s__law_draw : Stmt := top 41
abbrev s__law_pick : Stmt := top 42
abbrev s__law_is_whole : Stmt := top 43
abbrev s__law_signs : Stmt := top 44
abbrev s__law_world : Stmt := top 45
abbrev s__law_bent : Stmt := top 46
abbrev s__law_are_signs : Stmt := top 47
abbrev s__law_is_line : Stmt := top 48
abbrev s__law_fault : Stmt := top 49
abbrev s__law_heard : Stmt := top 50
abbrev s__law_is_told : Stmt := top 51
abbrev s_law : Stmt := top 52
structure Txt (K : PySem.W.Frag) (mg : Str → Option Value) (C : Addr) : Prop where
  f_Exception : mg "Exception" = none
  f_classmethod : mg "classmethod" = none
  f_all : mg "all" = none
  f_enumerate : mg "enumerate" = none
  f_dict : mg "dict" = none
  f_tuple : mg "tuple" = none
  f_range : mg "range" = none
  f_isinstance : mg "isinstance" = none
  f_str : mg "str" = none
  f_int : mg "int" = none
  f_len : mg "len" = none
  f_sorted : mg "sorted" = none
  f_list : mg "list" = none
  f_repr : mg "repr" = none
  f_bool : mg "bool" = none
  f_set : mg "set" = none
  f_super : mg "super" = none
  f_zip : mg "zip" = none
  c_RULES_WORD : ∃ t, mg "RULES_WORD" = some (.str "rules" t)
  c_MOVE_WORD : ∃ t, mg "MOVE_WORD" = some (.str "move" t)
  c_BREAK : ∃ t, mg "BREAK" = some (.str "\n" t)
  c_BLANK : ∃ t, mg "BLANK" = some (.str " " t)
  c_DIGITS : ∃ t, mg "DIGITS" = some (.str "0123456789" t)
  c_MOST_DIGITS : ∃ t, mg "MOST_DIGITS" = some (.int (3) t)
  c_FIRST_PARTS : ∃ t, mg "FIRST_PARTS" = some (.int (4) t)
  c_MOVE_PARTS_ruletexts : ∃ t, mg "MOVE_PARTS_ruletexts" = some (.int (5) t)
  c_LETTERS : ∃ t, mg "LETTERS" = some (.str "abcdefghijklmnopqrstuvwxyz" t)
  c_MOST_STATES : ∃ t, mg "MOST_STATES" = some (.int (999) t)
  c_MOVE_PARTS_rules : ∃ t, mg "MOVE_PARTS_rules" = some (.int (3) t)
  c_NOWHERE : ∃ t, mg "NOWHERE" = some (.int (-1) t)
  clR : Cls K C
  mgR : mg "Rules" = some (.ref C)
  insR : C8.InsC K C
  neR : NeO K C
  no_heard : NoAttr K C "heard"
  no_written : NoAttr K C "written"
  no_rows : NoAttr K C "rows"
  no_steps : NoAttr K C "steps"
  ne_Rules : NeO K (He.ga K "Rules")
  iv_Rules : InsV K C
  sysM : SysM K
structure ErT (P : Program) (K : PySem.W.Frag) (mg : Str → Option Value) : Prop where
  mg_CaptionError : mg "CaptionError" = some (.ref (He.ga K "CaptionError"))
  e_BadRules : ErrC P K mg (He.ga K "BadRules") "BadRules" "BadRules.__init__" s_BadRules_u__init_u_
  i_BadRules : IsE K (He.ga K "BadRules") (He.ga K "CaptionError")
  a_BadRules : XAtt K (He.ga K "BadRules") "part"
  f_BadRules : XfC K (He.ga K "BadRules")
end Pace
end
section
set_option Elab.async false
set_option linter.all false
set_option maxRecDepth 100000
set_option maxHeartbeats 4000000
namespace DL
open PySem PySem.Spec PyProof.Rows L2
def hyPut {α : Type} (a : Addr) (m : Nat) (acc : List Addr) (k : Nat → List Addr → α) : α := HandSHeadRun.frNat a fun a => match Nat.beq (Nat.land (Nat.shiftRight m a) 1) 0 with
  | true => HandSHeadRun.frNat (Nat.lor m (Nat.shiftLeft 1 a)) fun m => k m (a :: acc)
  | false => k m acc
def hyPuts {α : Type} : List Addr → Nat → List Addr → (Nat → List Addr → α) → α
  | [], m, acc, k => k m acc
  | a :: r, m, acc, k => hyPut a m acc fun m acc => hyPuts r m acc k
def hyRow {α : Type} (g : Addr → Option Obj) : List Addr → Nat → List Addr → (Nat → List Addr → α) → α
  | [], m, acc, k => k m acc
  | a :: r, m, acc, k => match g a with
    | some o => hyPuts (He.refsD o) m acc fun m acc => hyRow g r m acc k
    | none => hyRow g r m acc k
def hyGo (g : Addr → Option Obj) : Nat → List Addr → Nat → List Addr → List Addr
  | 0, _, _, all => all
  | n + 1, fr, m, all => hyRow g fr m [] fun m new => hyGo g n new m (all ++ new)
def asY (g : Addr → Option Obj) (n : Nat) : List Addr := hyPut mainGlobals 0 [] fun m fr => hyGo g n fr m fr
def obsYG (n : Nat) (fa : List He.Fa) (fn : List He.DefD) (ex : PySem.W.Frag → Bool) (ys : YsX) (g : Addr → Option Obj) : AlX := obsX fa fn ex ys (He.frG g (cStatics :: sysModules :: asY g n))
def hookY (n : Nat) (fa : List He.Fa) (fn : List He.DefD) (ex : PySem.W.Frag → Bool) (ys : YsX) : PySem.W.Hook where
  α := AlX
  obs := fun s => obsYG n fa fn ex ys s.heap.get?
  val := fun _ => (((He.valD fn, true), ys.map Prod.snd) : AlX)
  says := fun _ h => ∃ K : PySem.W.Frag, K.In h ∧ He.SaysD fa fn K ∧ ex K = true ∧ (ys.map fun p => fnXo K (p.1 K)) = ys.map Prod.snd
  of := fun _ _ e => ⟨_, He.frG_in, congrArg (fun z : AlX => z.1.1) e, congrArg (fun z : AlX => z.1.2) e, congrArg Prod.snd e⟩
  keeps := fun _ _ _ ⟨K, hK, c⟩ k => ⟨K, PySem.W.Frag.In.keeps hK k, c⟩
theorem obsYG_eq {n : Nat} {fa : List He.Fa} {fn : List He.DefD} {ex : PySem.W.Frag → Bool} {ys : YsX} {g : Addr → Option Obj} {s : Shared} (h : ∀ a, g a = s.heap.get? a) : obsYG n fa fn ex ys g = (hookY n fa fn ex ys).obs s := by
  have e : g = s.heap.get? := funext h
  rw [e] <;> rfl
end DL
end
section
set_option Elab.async false
set_option linter.all false
set_option maxRecDepth 100000
set_option maxHeartbeats 0
namespace Pace
open PySem PySem.Spec PyProof.Rows L2 DL
def d__wall : He.DefD := ⟨("_wall", none), "_wall", "_wall", defArgs s__wall, defBody s__wall, defScope s__wall, [], []⟩
def d_are_letters : He.DefD := ⟨("are_letters", none), "are_letters", "are_letters", defArgs s_are_letters, defBody s_are_letters, defScope s_are_letters, [], []⟩
def d_number_in : He.DefD := ⟨("number_in", none), "number_in", "number_in", defArgs s_number_in, defBody s_number_in, defScope s_number_in, [], []⟩
def d_text_of : He.DefD := ⟨("text_of", none), "text_of", "text_of", defArgs s_text_of, defBody s_text_of, defScope s_text_of, [], []⟩
def d_first_line : He.DefD := ⟨("first_line", none), "first_line", "first_line", defArgs s_first_line, defBody s_first_line, defScope s_first_line, [], []⟩
def d_move_line : He.DefD := ⟨("move_line", none), "move_line", "move_line", defArgs s_move_line, defBody s_move_line, defScope s_move_line, [], []⟩
def d_parts_in : He.DefD := ⟨("parts_in", none), "parts_in", "parts_in", defArgs s_parts_in, defBody s_parts_in, defScope s_parts_in, [], []⟩
def d_is_integer : He.DefD := ⟨("is_integer", none), "is_integer", "is_integer", defArgs s_is_integer, defBody s_is_integer, defScope s_is_integer, [], []⟩
def d_is_letter_of : He.DefD := ⟨("is_letter_of", none), "is_letter_of", "is_letter_of", defArgs s_is_letter_of, defBody s_is_letter_of, defScope s_is_letter_of, [], []⟩
def d_is_move : He.DefD := ⟨("is_move", none), "is_move", "is_move", defArgs s_is_move, defBody s_is_move, defScope s_is_move, [], []⟩
def d_is_row : He.DefD := ⟨("is_row", none), "is_row", "is_row", defArgs s_is_row, defBody s_is_row, defScope s_is_row, [], []⟩
def d_steps_of : He.DefD := ⟨("steps_of", none), "steps_of", "steps_of", defArgs s_steps_of, defBody s_steps_of, defScope s_steps_of, [], []⟩
def d_states_met : He.DefD := ⟨("states_met", none), "states_met", "states_met", defArgs s_states_met, defBody s_states_met, defScope s_states_met, [], []⟩
def d_classes_of : He.DefD := ⟨("classes_of", none), "classes_of", "classes_of", defArgs s_classes_of, defBody s_classes_of, defScope s_classes_of, [], []⟩
def d_least_rows : He.DefD := ⟨("least_rows", none), "least_rows", "least_rows", defArgs s_least_rows, defBody s_least_rows, defScope s_least_rows, [], []⟩
def d_step_at : He.DefD := ⟨("step_at", none), "step_at", "step_at", defArgs s_step_at, defBody s_step_at, defScope s_step_at, [], []⟩
def d_paired_steps : He.DefD := ⟨("paired_steps", none), "paired_steps", "paired_steps", defArgs s_paired_steps, defBody s_paired_steps, defScope s_paired_steps, [], []⟩
def d_one_keys : He.DefD := ⟨("one_keys", none), "one_keys", "one_keys", defArgs s_one_keys, defBody s_one_keys, defScope s_one_keys, [], []⟩
def d_check_letters : He.DefD := ⟨("check_letters", none), "check_letters", "check_letters", defArgs s_check_letters, defBody s_check_letters, defScope s_check_letters, [], []⟩
def d__law_deck : He.DefD := ⟨("_law_deck", none), "_law_deck", "_law_deck", defArgs s__law_deck, defBody s__law_deck, defScope s__law_deck, [], []⟩
def d__law_draw : He.DefD := ⟨("_law_draw", none), "_law_draw", "_law_draw", defArgs s__law_draw, defBody s__law_draw, defScope s__law_draw, [], []⟩
def d__law_pick : He.DefD := ⟨("_law_pick", none), "_law_pick", "_law_pick", defArgs s__law_pick, defBody s__law_pick, defScope s__law_pick, [], []⟩
def d__law_is_whole : He.DefD := ⟨("_law_is_whole", none), "_law_is_whole", "_law_is_whole", defArgs s__law_is_whole, defBody s__law_is_whole, defScope s__law_is_whole, [], []⟩
def d__law_signs : He.DefD := ⟨("_law_signs", none), "_law_signs", "_law_signs", defArgs s__law_signs, defBody s__law_signs, defScope s__law_signs, [], []⟩
def d__law_world : He.DefD := ⟨("_law_world", none), "_law_world", "_law_world", defArgs s__law_world, defBody s__law_world, defScope s__law_world, [], []⟩
def d__law_bent : He.DefD := ⟨("_law_bent", none), "_law_bent", "_law_bent", defArgs s__law_bent, defBody s__law_bent, defScope s__law_bent, [], []⟩
def d__law_are_signs : He.DefD := ⟨("_law_are_signs", none), "_law_are_signs", "_law_are_signs", defArgs s__law_are_signs, defBody s__law_are_signs, defScope s__law_are_signs, [], []⟩
def d__law_is_line : He.DefD := ⟨("_law_is_line", none), "_law_is_line", "_law_is_line", defArgs s__law_is_line, defBody s__law_is_line, defScope s__law_is_line, [], []⟩
def d__law_fault : He.DefD := ⟨("_law_fault", none), "_law_fault", "_law_fault", defArgs s__law_fault, defBody s__law_fault, defScope s__law_fault, [], []⟩
def d__law_heard : He.DefD := ⟨("_law_heard", none), "_law_heard", "_law_heard", defArgs s__law_heard, defBody s__law_heard, defScope s__law_heard, [], []⟩
def d__law_is_told : He.DefD := ⟨("_law_is_told", none), "_law_is_told", "_law_is_told", defArgs s__law_is_told, defBody s__law_is_told, defScope s__law_is_told, [], []⟩
def d_law : He.DefD := ⟨("law", none), "law", "law", defArgs s_law, defBody s_law, defScope s_law, [], []⟩
def d_RI : He.DefD := ⟨("Rules", some "__init__"), "__init__", "Rules.__init__", defArgs s_Rules_u__init_u_, defBody s_Rules_u__init_u_, defScope s_Rules_u__init_u_, [], []⟩
def d_Rules_u__eq_u_ : He.DefD := ⟨("Rules", some "__eq__"), "__eq__", "Rules.__eq__", defArgs s_Rules_u__eq_u_, defBody s_Rules_u__eq_u_, defScope s_Rules_u__eq_u_, [], []⟩
def d_Rules_u__len_u_ : He.DefD := ⟨("Rules", some "__len__"), "__len__", "Rules.__len__", defArgs s_Rules_u__len_u_, defBody s_Rules_u__len_u_, defScope s_Rules_u__len_u_, [], []⟩
def d_Rules_u__str_u_ : He.DefD := ⟨("Rules", some "__str__"), "__str__", "Rules.__str__", defArgs s_Rules_u__str_u_, defBody s_Rules_u__str_u_, defScope s_Rules_u__str_u_, [], []⟩
def hfn0 : List He.DefD := [d__wall, d_are_letters, d_number_in, d_text_of, d_first_line, d_move_line, d_parts_in, d_is_integer, d_is_letter_of, d_is_move, d_is_row, d_steps_of, d_states_met, d_classes_of, d_least_rows, d_step_at, d_paired_steps, d_one_keys, d_check_letters, d__law_deck]
def hfn1 : List He.DefD := [d__law_draw, d__law_pick, d__law_is_whole, d__law_signs, d__law_world, d__law_bent, d__law_are_signs, d__law_is_line, d__law_fault, d__law_heard, d__law_is_told, d_law, d_RI, d_Rules_u__eq_u_, d_Rules_u__len_u_, d_Rules_u__str_u_]
def hfn : List He.DefD := hfn0 ++ hfn1
def hfa0 : List He.Fa := [.glo "_wall", .glo "are_letters", .glo "number_in", .glo "text_of", .glo "first_line", .glo "move_line", .glo "parts_in", .glo "is_integer", .glo "is_letter_of", .glo "is_move", .glo "is_row", .glo "steps_of", .glo "states_met", .glo "classes_of", .glo "least_rows", .glo "step_at", .glo "paired_steps", .glo "one_keys", .glo "check_letters", .glo "_law_deck"]
def hfa1 : List He.Fa := [.glo "_law_draw", .glo "_law_pick", .glo "_law_is_whole", .glo "_law_signs", .glo "_law_world", .glo "_law_bent", .glo "_law_are_signs", .glo "_law_is_line", .glo "_law_fault", .glo "_law_heard", .glo "_law_is_told", .glo "law", .free "Exception", .free "classmethod", .free "all", .free "enumerate", .free "dict", .free "tuple", .free "range", .free "isinstance"]
def hfa2 : List He.Fa := [.free "str", .free "int", .free "len", .free "sorted", .free "list", .free "repr", .free "bool", .free "set", .free "super", .free "zip", .str "RULES_WORD" "rules", .str "MOVE_WORD" "move", .str "BREAK" "\n", .str "BLANK" " ", .str "DIGITS" "0123456789", .int "MOST_DIGITS" (3), .int "FIRST_PARTS" (4), .int "MOVE_PARTS_ruletexts" (5), .str "LETTERS" "abcdefghijklmnopqrstuvwxyz", .int "MOST_STATES" (999)]
def hfa3 : List He.Fa := [.int "MOVE_PARTS_rules" (3), .int "NOWHERE" (-1), .glo "Rules", .cls "Rules", .mkr "Rules", .noat "Rules" "heard", .noat "Rules" "written", .noat "Rules" "rows", .noat "Rules" "steps", .meth "Rules" "__eq__", .meth "Rules" "__len__", .meth "Rules" "__str__", .glo "CaptionError", .glo "BadRules"]
def hfa : List He.Fa := hfa0 ++ hfa1 ++ hfa2 ++ hfa3
def hnm0 : List PySem.Str := ["_wall", "CaptionError", "BadRules", "BadText", "OtherLetters", "RULES_WORD", "MOVE_WORD", "BREAK", "BLANK", "DIGITS", "MOST_DIGITS", "FIRST_PARTS", "MOVE_PARTS_ruletexts", "LETTERS", "are_letters", "number_in", "text_of", "first_line", "move_line", "parts_in"]
def hnm1 : List PySem.Str := ["MOST_STATES", "MOVE_PARTS_rules", "NOWHERE", "is_integer", "is_letter_of", "is_move", "is_row", "steps_of", "states_met", "classes_of", "least_rows", "step_at", "paired_steps", "one_keys", "check_letters", "Rules", "_law_deck", "_law_draw", "_law_pick", "_law_is_whole"]
def hnm2 : List PySem.Str := ["_law_signs", "_law_world", "_law_bent", "_law_are_signs", "_law_is_line", "_law_fault", "_law_heard", "_law_is_told"]
def hnm : List PySem.Str := hnm0 ++ hnm1 ++ hnm2
def dE_BadRules : ErrD := ⟨"BadRules", "BadRules.__init__", defArgs s_BadRules_u__init_u_, defBody s_BadRules_u__init_u_, defScope s_BadRules_u__init_u_⟩
def hys : YsX := [((fun K => eI K "BadRules"), dE_BadRules.val)]
abbrev hR : PySem.W.OpenRow := PySem.W.OpenLaw.row PySem.Challenge.rw_pacehouse_k01_rules_of_any_values
abbrev hfl : Str := hR.prog.main.file
def hkup (K : PySem.W.Frag) : Bool := true
def hex0 (K : PySem.W.Frag) : Bool := (insB K (He.ga K "Rules") && neB K (He.ga K "Rules")) && ((sysB K && (insB K (He.ga K "Rules") && (insVB K (He.ga K "Rules") && neB K (He.ga K "Rules")))) && (errB K hfl "BadRules" && (isEB K (He.ga K "BadRules") (He.ga K "CaptionError") && (xattB K (He.ga K "BadRules") "part" && xfB K (He.ga K "BadRules")))))
def hex (K : PySem.W.Frag) : Bool := hex0 K && hkup K
abbrev hhk : PySem.W.Hook := hookY 7 hfa hfn hex hys
def hob (s : PySem.W.SharedT) : AlX := obsYG 7 hfa hfn hex hys (HandSHeadRun.getT s)
theorem hob_eq (s : PySem.W.SharedT) : hob s = hhk.obs s.abs := obsYG_eq (HandSHeadRun.getT_eq s)
theorem hrun (w : World) : HandSHeadRun.RunEq hR (PySem.W.view hR.prog [52]) hhk hob 20000 hnm w := by
  intro os
  kernel_rfl
end Pace
end
section
set_option Elab.async false
set_option linter.all false
set_option maxRecDepth 100000
set_option maxHeartbeats 4000000
namespace Pace
open PySem PySem.Spec PyProof.Rows L2 DL
/-- a move: heard letter, written letter (codes), state -/
structure Mv where
  h : Nat
  c : Nat
  t : Nat
  deriving DecidableEq
def Mv.d (m : Mv) : D := .tup [.str (sgn m.h), .str (sgn m.c), .int (m.t : Int)]
def rowD (r : List Mv) : D := .tup (r.map Mv.d)
def rowsD (rs : List (List Mv)) : D := .tup (rs.map rowD)
structure Rul where
  heard : Str
  written : Str
  rows : List (List Mv)
def stepsD (rs : List (List Mv)) : D := .lst (rs.map fun r => .dT (r.map fun m => ([.inr (sgn m.h), .inr (sgn m.c)], .int (m.t : Int))))
def rulF (R : Rul) : List (Str × D) := [("heard", .str R.heard), ("written", .str R.written), ("rows", rowsD R.rows), ("steps", stepsD R.rows)]
def rulD (C : Addr) (R : Rul) : D := .obj C (rulF R)
theorem rulF_heard (R : Rul) : (rulF R).lookup ("heard" : Str) = some (.str R.heard) := rfl
theorem rulF_written (R : Rul) : (rulF R).lookup ("written" : Str) = some (.str R.written) := rfl
theorem rulF_rows (R : Rul) : (rulF R).lookup ("rows" : Str) = some (rowsD R.rows) := rfl
/-- what Python's rules ask, as far as the walk needs it -/
structure Rul.Ok (R : Rul) : Prop where
  few : R.rows.length ≤ 1000
  at_ : ∀ r ∈ R.rows, r.length ≤ 1000 ∧ ∀ m ∈ r, m.t < R.rows.length
def hits (rs : List (List Mv)) (s c : Nat) : List Nat := ((rs.getD s []).filter fun m => m.h == c).map (·.t)
def nins (a : Nat) : List Nat → List Nat
  | [] => [a]
  | b :: l => if a ≤ b then a :: b :: l else b :: nins a l
def nsort : List Nat → List Nat
  | [] => []
  | a :: l => nins a (nsort l)
theorem nins_perm (a : Nat) : ∀ l : List Nat, (nins a l).Perm (a :: l)
  | [] => .refl _
  | b :: l => by
    unfold nins
    split
    · exact .refl _
    · exact ((nins_perm a l).cons b).trans (.swap a b l)
theorem nsort_perm : ∀ l : List Nat, (nsort l).Perm l
  | [] => .refl _
  | a :: l => (nins_perm a (nsort l)).trans ((nsort_perm l).cons a)
/-- the states behind a letter -/
def behind (rs : List (List Mv)) (ss : List Nat) (c : Nat) : List Nat := nsort (firstsF (ss.flatMap fun s => hits rs s c))
/-- the pairs of the dict -/
def kds (ks : List Nat) : List (Key × D) := ks.map fun (t : Nat) => (.inl (t : Int), .bl true)
theorem nodup_lt_len {n : Nat} {ks : List Nat} (h : ks.Nodup) (hl : ∀ k ∈ ks, k < n) : ks.length ≤ n := by
  have := List.Nodup.length_le_of_subset h (l₂ := List.range n) (fun k hk => List.mem_range.mpr (hl k hk))
  simpa using this
theorem sgn_inj {a b : Nat} (h : sgn a = sgn b) : a = b := by
  have : (sgn a).cps.toList = (sgn b).cps.toList := by rw [h]
  simpa [sgn] using this
theorem sgn_beq (a b : Nat) : (sgn a == sgn b) = (a == b) := by
  rw [Bool.eq_iff_iff]
  simp only [beq_iff_eq]
  exact ⟨sgn_inj, fun h => by rw [h]⟩
theorem hu100 {k : Nat} {A : Around} (hr : Room k A) : A.units + 100 < cLine := by have := hr.un; omega
end Pace
end
section
set_option Elab.async false
set_option linter.all false
set_option maxRecDepth 100000
set_option maxHeartbeats 4000000
namespace Pace
open PySem PySem.Spec PyProof.Rows L2 DL
theorem sz {n : Nat} (h : n ≤ 5000) : n ≤ sizeLine := by rw [sizeLine_eq]; omega
theorem szl {n : Nat} (h : n ≤ 5000) : n < sizeLine := by rw [sizeLine_eq]; omega
/-- what is reached by a speech -/
def run (rs : List (List Mv)) (ss : List Nat) (cs : List Nat) : List Nat := cs.foldl (behind rs) ss
/-- the sets of numbers below n -/
def subs : Nat → List (List Nat)
  | 0 => [[]]
  | n + 1 => subs n ++ (subs n).map (· ++ [n])
theorem subs_len : ∀ n, (subs n).length = 2 ^ n
  | 0 => rfl
  | n + 1 => by simp [subs, subs_len n]; omega
theorem subs_mem : ∀ (n : Nat) (l : List Nat), l.Pairwise (· < ·) → (∀ k ∈ l, k < n) → l ∈ subs n
  | 0, l, _, h => by
    cases l with
    | nil => simp [subs]
    | cons a l => exact absurd (h a (by simp)) (by omega)
  | n + 1, l, hp, h => by
    rcases List.eq_nil_or_concat l with rfl | ⟨l', a, rfl⟩
    · exact List.mem_append.mpr (.inl (subs_mem n [] .nil (by simp)))
    · rw [List.concat_eq_append] at *
      rw [List.pairwise_append] at hp
      obtain ⟨h1, _, h3⟩ := hp
      have ha := h a (by simp)
      by_cases e : a = n
      · subst e
        refine List.mem_append.mpr (.inr (List.mem_map.mpr ⟨l', subs_mem a l' h1 fun k hk => h3 k hk a (by simp), rfl⟩))
      · refine List.mem_append.mpr (.inl (subs_mem n _ (List.pairwise_append.mpr ⟨h1, by simp, h3⟩) fun k hk => ?_))
        rcases List.mem_append.mp hk with hk | hk
        · have := h3 k hk a (by simp); omega
        · simp at hk; omega
theorem sets_len {ls : List (List Nat)} {n : Nat} (nd : ls.Nodup) (h : ∀ l ∈ ls, l.Pairwise (· < ·) ∧ ∀ k ∈ l, k < n) : ls.length ≤ 2 ^ n := by
  rw [← subs_len n]
  exact List.Nodup.length_le_of_subset nd fun l hl => subs_mem n l (h l hl).1 (h l hl).2
/-- sets met, each with its speech -/
abbrev Ord := List (List Nat × List Nat)
structure OrdOk (rs : List (List Mv)) (hs : List Nat) (ord : Ord) : Prop where
  nd : (ord.map (·.1)).Nodup
  st : ∀ x ∈ ord, x.1.Pairwise (· < ·) ∧ ∀ k ∈ x.1, k < rs.length
  ln : ∀ (i : Nat) (x : List Nat × List Nat), ord[i]? = some x → x.2.length ≤ i
  rn : ∀ x ∈ ord, run rs [0] x.2 = x.1 ∧ x.1 ≠ [] ∧ ∀ c ∈ x.2, c ∈ hs
theorem OrdOk.len {rs : List (List Mv)} {hs : List Nat} {ord : Ord} (h : OrdOk rs hs ord) : ord.length ≤ 2 ^ rs.length := by
  have := sets_len (ls := ord.map (·.1)) (n := rs.length) h.nd fun l hl => by
    obtain ⟨x, hx, rfl⟩ := List.mem_map.mp hl
    exact h.st x hx
  simpa using this
theorem OrdOk.start {rs : List (List Mv)} {hs : List Nat} (h : 0 < rs.length) : OrdOk rs hs [([0], [])] where
  nd := by simp
  st := fun x hx => by simp at hx; subst hx; exact ⟨by simp, by simpa using h⟩
  ln := fun i x hx => by
    cases i with
    | zero => simp at hx; subst hx; simp
    | succ i => simp at hx
  rn := fun x hx => by simp at hx; subst hx; exact ⟨rfl, by simp, by simp⟩
/-- a text of codes -/
def strOf (cs : List Nat) : Str := ⟨cs.toArray⟩
theorem strOf_app (a b : List Nat) : strOf a ++ strOf b = strOf (a ++ b) := by
  show (⟨a.toArray ++ b.toArray⟩ : Str) = ⟨(a ++ b).toArray⟩
  simp
theorem strOf_len (a : List Nat) : (strOf a).length = a.length := by
  show a.toArray.size = _
  simp
theorem strOf_inj {a b : List Nat} (h : strOf a = strOf b) : a = b := by
  have : (strOf a).cps.toList = (strOf b).cps.toList := by rw [h]
  simpa [strOf] using this
theorem signs_get {cs : List Nat} {i : Nat} {d : D} (h : (DL.signs (strOf cs))[i]? = some d) : ∃ c, cs[i]? = some c ∧ d = .str (sgn c) := by
  unfold DL.signs strOf at h
  rw [List.getElem?_map] at h
  simp only at h
  cases e : cs[i]? with
  | none => rw [e] at h; cases h
  | some c => rw [e] at h; cases h; exact ⟨c, rfl, rfl⟩
theorem signs_len (cs : List Nat) : (DL.signs (strOf cs)).length = cs.length := by simp [DL.signs, strOf]
theorem put_new {κ : Type} [DecidableEq κ] {kds : List (κ × D)} {k : κ} {d : D} (h : valD kds k = none) : putD kds k d = kds ++ [(k, d)] := by
  unfold putD
  rw [if_neg]
  intro z
  unfold valD at h
  rw [Option.map_eq_none_iff, List.find?_eq_none] at h
  rw [List.any_eq_true] at z
  obtain ⟨x, hx, e⟩ := z
  exact h x hx e
end Pace
end
section
set_option Elab.async false
set_option linter.all false
set_option maxRecDepth 100000
set_option maxHeartbeats 4000000
namespace Pace
open PySem PySem.Spec PyProof.Rows L2 DL
theorem strIn_sgn (c : Nat) (a : List Nat) : strIn (sgn c) (strOf a) = decide (c ∈ a) := by
  exact (StrLaws.found_one (strOf a) c).trans (decide_eq_decide.mpr (by simp [strOf]))
theorem cut_last {α : Type} (xs : List α) : DL.cutD xs none (some (-1)) = xs.dropLast := by
  unfold DL.cutD
  rw [HT.sIx_none, List.drop_zero, Nat.sub_zero, List.dropLast_eq_take]
  congr 1
  show (if (-1 : Int) < 0 then ((-1 : Int) + (xs.length : Int)).toNat else min (-1 : Int).toNat xs.length) = _
  rw [if_pos (by decide)]
  omega
theorem cut_tail {α : Type} (xs : List α) : DL.cutD xs (some 1) none = xs.tail := by
  unfold DL.cutD
  have e : HT.sIx xs.length 0 (some 1) = min 1 xs.length := HT.sIx_nat xs.length 0 1
  rw [HT.sIx_none, e]
  cases xs with
  | nil => rfl
  | cons x xs =>
    have : min 1 (x :: xs).length = 1 := by simp
    rw [this]
    simp
theorem cutS_strOf (cs : List Nat) (lo hi : Option Int) : cutS (strOf cs) lo hi = strOf (DL.cutD cs lo hi) := by
  unfold cutS DL.cutD
  rw [strOf_len]
  simp [strOf]
def abc : List Nat := [97, 98, 99, 100, 101, 102, 103, 104, 105, 106, 107, 108, 109, 110, 111, 112, 113, 114, 115, 116, 117, 118, 119, 120, 121, 122]
theorem abc_str : (Str.ofString "abcdefghijklmnopqrstuvwxyz") = strOf abc := by decide +kernel
/-- neighbours -/
def nbr {α : Type} (r : α → α → Bool) (l : List α) : Bool := (List.zipWith r l.dropLast l.tail).all id
def lettersB (cs : List Nat) : Bool := !cs.isEmpty && cs.all (fun c => decide (c ∈ abc)) && nbr (fun a b => decide (a < b)) cs
def mvB (hs ws : List Nat) (n : Nat) (m : Mv) : Bool := decide (m.h ∈ hs) && decide (m.c ∈ ws) && decide (m.t < n)
def mvLt (a b : Mv) : Bool := decide (a.h < b.h ∨ (a.h = b.h ∧ a.c < b.c))
def rowB (hs ws : List Nat) (n : Nat) (r : List Mv) : Bool := r.all (mvB hs ws n) && nbr mvLt r
theorem sgn_lt (a b : Nat) : D.lt (.str (sgn a)) (.str (sgn b)) = decide (a < b) := by
  rw [DL.lt_str]
  refine decide_eq_decide.mpr ?_
  simp [sgn, List.cons_lt_cons_iff]
theorem mv_lt (a b : Mv) : D.lt (.tup [.str (sgn a.h), .str (sgn a.c)]) (.tup [.str (sgn b.h), .str (sgn b.c)]) = mvLt a b := by
  have e : D.lt (.tup [.str (sgn a.h), .str (sgn a.c)]) (.tup [.str (sgn b.h), .str (sgn b.c)]) = PySem.W.dataLt (.tuple [.str (sgn a.h), .str (sgn a.c)]) (.tuple [.str (sgn b.h), .str (sgn b.c)]) := rfl
  rw [e, PySem.W.dataLt_pair rfl rfl]
  have e1 : ∀ x y : Nat, PyData.eqv (.str (sgn x)) (.str (sgn y)) = (x == y) := fun x y => by
    have := eqv_str (sgn x) (sgn y)
    rw [sgn_beq] at this
    exact this
  have e2 : ∀ x y : Nat, PySem.W.dataLt (.str (sgn x)) (.str (sgn y)) = decide (x < y) := fun x y => sgn_lt x y
  rw [e1, e1, e2, e2]
  unfold mvLt
  by_cases h : a.h = b.h
  · rw [if_pos (by simp [h])]
    by_cases h2 : a.c = b.c
    · rw [if_pos (by simp [h2])]; simp [h, h2]
    · rw [if_neg (by simp [h2])]; simp [h]
  · rw [if_neg (by simp [h])]; simp [h]
theorem mv_okL (a b : Mv) : okL (.tup [.str (sgn a.h), .str (sgn a.c)]) (.tup [.str (sgn b.h), .str (sgn b.c)]) = true := rfl
theorem str_nil : Str.ofString "" = strOf [] := by decide +kernel
theorem mv_cut (m : Mv) : DL.cutD [.str (sgn m.h), .str (sgn m.c), .int (m.t : Int)] none (some 2) = [D.str (sgn m.h), .str (sgn m.c)] := rfl
theorem nbr_cons {α : Type} (r : α → α → Bool) (a b : α) (l : List α) : nbr r (a :: b :: l) = (r a b && nbr r (b :: l)) := by
  unfold nbr
  simp [List.dropLast]
theorem nbr_pair {α : Type} {r : α → α → Bool} (tr : ∀ a b c, r a b = true → r b c = true → r a c = true) : ∀ l : List α, nbr r l = true → l.Pairwise fun a b => r a b = true
  | [], _ => .nil
  | [a], _ => by simp
  | a :: b :: l, h => by
    rw [nbr_cons, Bool.and_eq_true] at h
    have ih := nbr_pair tr (b :: l) h.2
    refine List.pairwise_cons.mpr ⟨fun c hc => ?_, ih⟩
    rcases List.mem_cons.mp hc with rfl | hc
    · exact h.1
    · exact tr a b c h.1 ((List.pairwise_cons.mp ih).1 c hc)
theorem mvLt_tr (a b c : Mv) (h1 : mvLt a b = true) (h2 : mvLt b c = true) : mvLt a c = true := by
  unfold mvLt at *
  simp only [decide_eq_true_eq] at *
  omega
/-- a row's keys -/
def mvK (m : Mv) : List Key × D := ([.inr (sgn m.h), .inr (sgn m.c)], .int (m.t : Int))
theorem mvK_ne {a b : Mv} (h : mvLt a b = true) : (mvK a).1 ≠ (mvK b).1 := by
  intro e
  simp only [mvK, List.cons.injEq, Sum.inr.injEq, and_true] at e
  have h1 := sgn_inj e.1
  have h2 := sgn_inj e.2
  unfold mvLt at h
  simp only [decide_eq_true_eq] at h
  omega
theorem merge_row : ∀ (r : List Mv) (acc : List (List Key × D)), (∀ m ∈ r, ∀ x ∈ acc, x.1 ≠ (mvK m).1) → r.Pairwise (fun a b => mvLt a b = true) → mergeDT acc (r.map mvK) = acc ++ r.map mvK
  | [], acc, _, _ => by simp [mergeDT]
  | m :: r, acc, h, hp => by
    rw [List.pairwise_cons] at hp
    have hv : valD acc (mvK m).1 = none := by
      unfold valD
      rw [Option.map_eq_none_iff, List.find?_eq_none]
      intro x hx
      simpa using h m (by simp) x hx
    show mergeDT (putD acc (mvK m).1 (mvK m).2) (r.map mvK) = _
    rw [put_new hv, merge_row r _ (fun m' hm' x hx => ?_) hp.2]
    · simp
    · rcases List.mem_append.mp hx with hx | hx
      · exact h m' (by simp [hm']) x hx
      · simp at hx; subst hx
        exact mvK_ne (hp.1 m' hm')
theorem merge_rowB {hs ws : List Nat} {n : Nat} {r : List Mv} (h : rowB hs ws n r = true) : mergeDT [] (r.map mvK) = r.map mvK := by
  unfold rowB at h
  rw [Bool.and_eq_true] at h
  have := merge_row r [] (fun _ _ x hx => by simp at hx) (nbr_pair mvLt_tr r h.2)
  simpa using this
theorem prsT_row : ∀ r : List Mv, prsT (r.map fun m => .tup [.tup [.str (sgn m.h), .str (sgn m.c)], .int (m.t : Int)]) = some (r.map mvK)
  | [] => rfl
  | m :: r => by
    simp only [List.map_cons, prsT, D.keys, D.key, prsT_row r]
    rfl
/-- rules that Rules takes -/
structure RulV (hs ws : List Nat) (rs : List (List Mv)) : Prop where
  lh : lettersB hs = true
  lw : lettersB ws = true
  sh : hs.length ≤ 1000
  sw : ws.length ≤ 1000
  n1 : 1 ≤ rs.length
  n2 : rs.length ≤ 999
  row : ∀ r ∈ rs, rowB hs ws rs.length r = true ∧ r.length ≤ 1000
def mkR (hs ws : List Nat) (rs : List (List Mv)) : Rul := ⟨strOf hs, strOf ws, rs⟩
theorem RulV.ok {hs ws : List Nat} {rs : List (List Mv)} (h : RulV hs ws rs) : (mkR hs ws rs).Ok where
  few := by have := h.n2; show rs.length ≤ 1000; omega
  at_ := fun r hr => by
    obtain ⟨a, b⟩ := h.row r hr
    refine ⟨b, fun m hm => ?_⟩
    unfold rowB at a
    rw [Bool.and_eq_true, List.all_eq_true] at a
    have := a.1 m hm
    unfold mvB at this
    simp only [Bool.and_eq_true, decide_eq_true_eq] at this
    exact this.2
theorem pf1 (a : D) : putFD "heard" a [] = [(("heard" : Str), a)] := rfl
theorem pf2 (a b : D) : putFD "written" b [(("heard" : Str), a)] = [(("heard" : Str), a), (("written" : Str), b)] := rfl
theorem pf3 (a b c : D) : putFD "rows" c [(("heard" : Str), a), (("written" : Str), b)] = [(("heard" : Str), a), (("written" : Str), b), (("rows" : Str), c)] := rfl
theorem pf4 (a b c d : D) : putFD "steps" d [(("heard" : Str), a), (("written" : Str), b), (("rows" : Str), c)] = [(("heard" : Str), a), (("written" : Str), b), (("rows" : Str), c), (("steps" : Str), d)] := rfl
end Pace
end
section
set_option Elab.async false
set_option linter.all false
set_option maxRecDepth 100000
set_option maxHeartbeats 4000000
namespace Pace
open PySem PySem.Spec PyProof.Rows L2 DL
abbrev Rows := List (List Mv)
def rowS (A : Rows) (s : Nat) : List Mv := A.getD s []
/-- two rows with the same letters, and targets that go with each other -/
def rowsLike (P : Nat → Nat → Bool) : List Mv → List Mv → Bool
  | [], [] => true
  | m :: r, m' :: r' => (m.h == m'.h && m.c == m'.c && P m.t m'.t) && rowsLike P r r'
  | _, _ => false
/-- the same for k rounds -/
def sim : Nat → Rows → Nat → Rows → Nat → Bool
  | 0, _, _, _, _ => true
  | k + 1, A, s, B, t => rowsLike (fun x y => sim k A x B y) (rowS A s) (rowS B t)
def bis (A : Rows) (s : Nat) (B : Rows) (t : Nat) : Prop := ∀ k, sim k A s B t = true
theorem sim_refl (A : Rows) : ∀ k s, sim k A s A s = true := by
  intro k
  induction k with
  | zero => intro s; rfl
  | succ k ih =>
    intro s
    show rowsLike _ (rowS A s) (rowS A s) = true
    generalize rowS A s = r
    induction r with
    | nil => rfl
    | cons m r ihr => simp only [rowsLike, ih, ihr, beq_self_eq_true, Bool.and_self]
theorem sim_symm {A B : Rows} : ∀ {k s t}, sim k A s B t = true → sim k B t A s = true := by
  intro k
  induction k with
  | zero => intro s t _; rfl
  | succ k ih =>
    intro s t h
    show rowsLike _ (rowS B t) (rowS A s) = true
    have h : rowsLike _ (rowS A s) (rowS B t) = true := h
    generalize rowS A s = r at h
    generalize rowS B t = r' at h
    induction r generalizing r' with
    | nil => cases r' with
      | nil => rfl
      | cons _ _ => cases h
    | cons m r ihr => cases r' with
      | nil => cases h
      | cons m' r' =>
        simp only [rowsLike, Bool.and_eq_true, beq_iff_eq] at h ⊢
        exact ⟨⟨⟨h.1.1.1.symm, h.1.1.2.symm⟩, ih h.1.2⟩, ihr r' h.2⟩
theorem sim_trans {A B D : Rows} : ∀ {k s t u}, sim k A s B t = true → sim k B t D u = true → sim k A s D u = true := by
  intro k
  induction k with
  | zero => intro s t u _ _; rfl
  | succ k ih =>
    intro s t u h1 h2
    show rowsLike _ (rowS A s) (rowS D u) = true
    have h1 : rowsLike _ (rowS A s) (rowS B t) = true := h1
    have h2 : rowsLike _ (rowS B t) (rowS D u) = true := h2
    generalize rowS A s = r at h1
    generalize rowS B t = r' at h1 h2
    generalize rowS D u = r'' at h2
    induction r generalizing r' r'' with
    | nil => cases r' with
      | nil => cases r'' with
        | nil => rfl
        | cons _ _ => cases h2
      | cons _ _ => cases h1
    | cons m r ihr => cases r' with
      | nil => cases h1
      | cons m' r' => cases r'' with
        | nil => cases h2
        | cons m'' r'' =>
          simp only [rowsLike, Bool.and_eq_true, beq_iff_eq] at h1 h2 ⊢
          exact ⟨⟨⟨h1.1.1.1.trans h2.1.1.1, h1.1.1.2.trans h2.1.1.2⟩, ih h1.1.2 h2.1.2⟩, ihr r' h1.2 r'' h2.2⟩
theorem bis.refl (A : Rows) (s : Nat) : bis A s A s := fun k => sim_refl A k s
theorem bis.symm {A B : Rows} {s t : Nat} (h : bis A s B t) : bis B t A s := fun k => sim_symm (h k)
theorem bis.trans {A B D : Rows} {s t u : Nat} (h : bis A s B t) (g : bis B t D u) : bis A s D u := fun k => sim_trans (h k) (g k)
/-- what a bisimulation says of two rows -/
inductive Like (R : Nat → Nat → Prop) : List Mv → List Mv → Prop
  | nil : Like R [] []
  | cons {m m' : Mv} {r r' : List Mv} : m.h = m'.h → m.c = m'.c → R m.t m'.t → Like R r r' → Like R (m :: r) (m' :: r')
theorem bis.row {A B : Rows} {s t : Nat} (h : bis A s B t) : Like (fun x y => bis A x B y) (rowS A s) (rowS B t) := by
  have h : ∀ k, rowsLike (fun x y => sim k A x B y) (rowS A s) (rowS B t) = true := fun k => h (k + 1)
  generalize rowS A s = r at h
  generalize rowS B t = r' at h
  induction r generalizing r' with
  | nil => cases r' with
    | nil => exact .nil
    | cons _ _ => cases h 0
  | cons m r ih => cases r' with
    | nil => cases h 0
    | cons m' r' =>
      simp only [rowsLike, Bool.and_eq_true, beq_iff_eq] at h
      exact .cons (h 0).1.1.1 (h 0).1.1.2 (fun k => (h k).1.2) (ih r' fun k => (h k).2)
/-- a bisimulation: all pairs of it are the same -/
theorem bis_of {A B : Rows} {R : Nat → Nat → Prop} (h : ∀ s t, R s t → Like R (rowS A s) (rowS B t)) {s t : Nat} (r : R s t) : bis A s B t := by
  intro k
  induction k generalizing s t with
  | zero => rfl
  | succ k ih =>
    show rowsLike _ (rowS A s) (rowS B t) = true
    have l := h s t r
    generalize rowS A s = a at l
    generalize rowS B t = b at l
    clear r
    induction l with
    | nil => rfl
    | cons e1 e2 e3 _ ihl => simp only [rowsLike, e1, e2, ih e3, ihl, beq_self_eq_true, Bool.and_self]
theorem Like.imp {R R' : Nat → Nat → Prop} (f : ∀ x y, R x y → R' x y) {r r' : List Mv} (l : Like R r r') : Like R' r r' := by
  induction l with
  | nil => exact .nil
  | cons e1 e2 e3 _ ih => exact .cons e1 e2 (f _ _ e3) ih
inductive All2 (R : Nat → Nat → Prop) : List Nat → List Nat → Prop
  | nil : All2 R [] []
  | cons {x y : Nat} {l l' : List Nat} : R x y → All2 R l l' → All2 R (x :: l) (y :: l')
theorem All2.len {R : Nat → Nat → Prop} {l l' : List Nat} (h : All2 R l l') : l.length = l'.length := by
  induction h with
  | nil => rfl
  | cons _ _ ih => rw [List.length_cons, List.length_cons, ih]
theorem All2.snoc {R : Nat → Nat → Prop} {l l' : List Nat} {x y : Nat} (h : All2 R l l') (r : R x y) : All2 R (l ++ [x]) (l' ++ [y]) := by
  induction h with
  | nil => exact .cons r .nil
  | cons r' _ ih => exact .cons r' ih
theorem All2.get {R : Nat → Nat → Prop} {l l' : List Nat} (h : All2 R l l') : ∀ {i : Nat} {x : Nat}, l[i]? = some x → ∃ y, l'[i]? = some y ∧ R x y := by
  induction h with
  | nil => intro i x e; simp at e
  | cons r _ ih =>
    intro i x e
    cases i with
    | zero => simp at e; subst e; exact ⟨_, rfl, r⟩
    | succ i => simpa using ih (by simpa using e)
end Pace
end
section
set_option Elab.async false
set_option linter.all false
set_option maxRecDepth 100000
set_option maxHeartbeats 4000000
namespace Pace
open PySem PySem.Spec PyProof.Rows L2 DL
/-- few enough for the set of what is reached -/
structure Few (rs : List (List Mv)) : Prop where
  few : ∃ B, (∀ r ∈ rs, r.length ≤ B) ∧ rs.length * B < 64
theorem flat_len {α β : Type} (f : α → List β) (B : Nat) : ∀ l : List α, (∀ a ∈ l, (f a).length ≤ B) → (l.flatMap f).length ≤ l.length * B
  | [], _ => by simp
  | a :: l, h => by
    have h1 := h a (by simp)
    have h2 := flat_len f B l fun b hb => h b (by simp [hb])
    simp only [List.flatMap_cons, List.length_append, List.length_cons]
    rw [Nat.add_mul]
    omega
theorem hits_len {rs : List (List Mv)} {B : Nat} (h : ∀ r ∈ rs, r.length ≤ B) (s c : Nat) : (hits rs s c).length ≤ B := by
  unfold hits
  rw [List.length_map]
  refine Nat.le_trans (List.length_filter_le _ _) ?_
  cases e : rs[s]? with
  | none => simp [List.getD, e]
  | some r => simpa [List.getD, e] using h r (List.mem_of_getElem? e)
theorem Few.len {rs : List (List Mv)} (h : Few rs) {ss : List Nat} (nd : ss.Nodup) (hl : ∀ s ∈ ss, s < rs.length) (c : Nat) : (ss.flatMap fun s => hits rs s c).length < 64 := by
  obtain ⟨B, h1, h2⟩ := h.few
  have h3 := flat_len (fun s => hits rs s c) B ss fun s _ => hits_len h1 s c
  have h4 := nodup_lt_len nd hl
  have h5 := Nat.mul_le_mul_right B h4
  omega
end Pace
end
section
set_option Elab.async false
set_option linter.all false
set_option maxRecDepth 100000
set_option maxHeartbeats 4000000
namespace Pace
open PySem PySem.Spec PyProof.Rows L2 DL
/-- targets lie within -/
def Closed (A : Rows) : Prop := 1 ≤ A.length ∧ ∀ r ∈ A, ∀ m ∈ r, m.t < A.length
theorem rowS_mem {A : Rows} {s : Nat} {m : Mv} (h : m ∈ rowS A s) : ∃ r ∈ A, m ∈ r := by
  unfold rowS at h
  rw [List.getD_eq_getElem?_getD] at h
  cases e : A[s]? with
  | none => rw [e] at h; simp at h
  | some r => rw [e] at h; exact ⟨r, List.mem_of_getElem? e, h⟩
theorem Closed.t {A : Rows} (c : Closed A) {s : Nat} {m : Mv} (h : m ∈ rowS A s) : m.t < A.length := by
  obtain ⟨r, hr, hm⟩ := rowS_mem h
  exact c.2 r hr m hm
theorem Like.mem {R : Nat → Nat → Prop} {r r' : List Mv} (l : Like R r r') : ∀ m ∈ r, ∃ t, R m.t t := by
  induction l with
  | nil => intro m hm; cases hm
  | cons e1 e2 e3 _ ih =>
    intro x hx
    rcases List.mem_cons.mp hx with rfl | hx
    · exact ⟨_, e3⟩
    · exact ih x hx
end Pace
end
section
set_option Elab.async false
set_option linter.all false
set_option maxRecDepth 100000
set_option maxHeartbeats 4000000
namespace Pace
open PySem PySem.Spec PyProof.Rows L2 DL
/-- a lot: states, moves -/
abbrev Lot := List (Nat × Mv)
def lt3 (a b : Mv) : Bool := if a.h == b.h then (if a.c == b.c then decide (a.t < b.t) else decide (a.c < b.c)) else decide (a.h < b.h)
def le3 (a b : Mv) : Bool := !lt3 b a
theorem lt3_iff (a b : Mv) : lt3 a b = true ↔ a.h < b.h ∨ (a.h = b.h ∧ (a.c < b.c ∨ (a.c = b.c ∧ a.t < b.t))) := by
  unfold lt3
  by_cases h : a.h = b.h
  · rw [if_pos (by simp [h])]
    by_cases h2 : a.c = b.c
    · rw [if_pos (by simp [h2])]; simp [h, h2]
    · rw [if_neg (by simp [h2])]; simp [h, h2]
  · rw [if_neg (by simp [h])]; simp [h]
theorem le3_tr (a b c : Mv) (h1 : le3 a b = true) (h2 : le3 b c = true) : le3 a c = true := by
  unfold le3 at *
  simp only [Bool.not_eq_true', Bool.eq_false_iff, ne_eq, lt3_iff] at *
  omega
theorem le3_tot (a b : Mv) : (le3 a b || le3 b a) = true := by
  unfold le3
  rw [Bool.or_eq_true, Bool.not_eq_true', Bool.not_eq_true', Bool.eq_false_iff, Bool.eq_false_iff, ne_eq, ne_eq, lt3_iff, lt3_iff]
  omega
def rowOf (lot : Lot) (s : Nat) : List Mv := ((lot.filter fun x => x.1 == s).map (·.2)).mergeSort le3
def rowsOf (lot : Lot) (n : Nat) : List (List Mv) := (List.range n).map (rowOf lot)
theorem rowOf_mem {lot : Lot} {s : Nat} {m : Mv} : m ∈ rowOf lot s ↔ (s, m) ∈ lot := by
  unfold rowOf
  rw [(List.mergeSort_perm _ _).mem_iff, List.mem_map]
  constructor
  · rintro ⟨x, hx, rfl⟩
    rw [List.mem_filter] at hx
    have : x.1 = s := by simpa using hx.2
    rw [← this]
    exact hx.1
  · exact fun h => ⟨(s, m), List.mem_filter.mpr ⟨h, by simp⟩, rfl⟩
/-- keys are met once -/
def LotNd (lot : Lot) : Prop := (lot.map fun x => (x.1, x.2.h, x.2.c)).Nodup
theorem nbr_of_pair {α : Type} {r : α → α → Bool} : ∀ {l : List α}, l.Pairwise (fun a b => r a b = true) → nbr r l = true
  | [], _ => rfl
  | [a], _ => rfl
  | a :: b :: l, h => by
    rw [nbr_cons, Bool.and_eq_true]
    rw [List.pairwise_cons] at h
    exact ⟨h.1 b (by simp), nbr_of_pair h.2⟩
theorem rowOf_lt {lot : Lot} (nd : LotNd lot) (s : Nat) : (rowOf lot s).Pairwise fun a b => mvLt a b = true := by
  have h1 : (rowOf lot s).Pairwise fun a b => le3 a b = true := List.pairwise_mergeSort (le := le3) le3_tr le3_tot _
  have h2 : (rowOf lot s).Pairwise fun a b => (a.h, a.c) ≠ (b.h, b.c) := by
    have pm : (rowOf lot s).Perm ((lot.filter fun x => x.1 == s).map (·.2)) := List.mergeSort_perm _ _
    refine (pm.pairwise_iff fun h => fun e => h e.symm).mpr ?_
    rw [List.pairwise_map]
    have h3 : lot.Pairwise fun x y => (x.1, x.2.h, x.2.c) ≠ (y.1, y.2.h, y.2.c) := by
      unfold LotNd at nd
      rw [List.nodup_iff_pairwise_ne, List.pairwise_map] at nd
      exact nd
    have h4 := h3.sublist (List.filter_sublist (p := fun x => x.1 == s))
    refine h4.imp_of_mem fun {x y} hx hy h e => h ?_
    rw [List.mem_filter] at hx hy
    have e1 : x.1 = s := by simpa using hx.2
    have e2 : y.1 = s := by simpa using hy.2
    simp only [Prod.mk.injEq] at e
    rw [e1, e2, e.1, e.2]
  refine (h1.and h2).imp fun {a b} h => ?_
  obtain ⟨h, n⟩ := h
  unfold le3 at h
  rw [Bool.not_eq_true', Bool.eq_false_iff, ne_eq, lt3_iff] at h
  unfold mvLt
  simp only [decide_eq_true_eq]
  simp only [ne_eq, Prod.mk.injEq] at n
  omega
theorem intL_si (ns : List Int) : D.sis (ns.map D.int) = true := by
  rw [sis_all]
  intro x hx
  obtain ⟨n, _, rfl⟩ := List.mem_map.mp hx
  rfl
theorem intL_ok (ns : List Int) : okE (.lst (ns.map D.int)) (.lst []) = true := by
  refine okE_si (x := .lst (ns.map D.int)) (y := .lst []) (intL_si ns) rfl ?_
  have : D.dps (ns.map D.int) ≤ 0 := dps_le fun x hx => by
    obtain ⟨n, _, rfl⟩ := List.mem_map.mp hx
    simp [D.dp]
  simp only [D.dp]
  omega
theorem intL_eqv (ns : List Int) : D.eqv (.lst (ns.map D.int)) (.lst []) = decide (ns = []) := by
  rw [Bool.eq_iff_iff, eqv_si (x := .lst (ns.map D.int)) (y := .lst []) (intL_si ns) rfl]
  simp
theorem pop_last (ns : List Int) (a : Int) : ((ns ++ [a]).map D.int)[((ns ++ [a]).map D.int).length - 1]? = some (.int a) := by simp
theorem pop_rest (ns : List Int) (a : Int) : ((ns ++ [a]).map D.int).dropLast = ns.map D.int := by simp
end Pace
end
section
set_option Elab.async false
set_option linter.all false
set_option maxRecDepth 100000
set_option maxHeartbeats 4000000
namespace DL
open PySem PySem.Spec PyProof.Rows L2
end DL
end
section
set_option Elab.async false
set_option linter.all false
set_option maxRecDepth 100000
set_option maxHeartbeats 4000000
namespace Pace
open PySem PySem.Spec PyProof.Rows L2 DL
def keyM (m : Mv) : D := .tup [.str (sgn m.h), .str (sgn m.c)]
theorem okS_keys (r : List Mv) : okS (r.map keyM) = true := by
  unfold okS
  have h1 : D.pls (r.map keyM) = true := by
    rw [D.pls_all, List.all_eq_true]
    intro x hx
    obtain ⟨m, _, rfl⟩ := List.mem_map.mp hx
    rfl
  rw [h1]
  simp only [Bool.true_and, Bool.and_eq_true, Bool.or_eq_true, List.all_eq_true, decide_eq_true_eq]
  refine ⟨⟨fun x hx y hy => ?_, fun x hx => ?_⟩, .inl fun x hx => ?_⟩
  · obtain ⟨m, _, rfl⟩ := List.mem_map.mp hx
    obtain ⟨m', _, rfl⟩ := List.mem_map.mp hy
    rfl
  · obtain ⟨m, _, rfl⟩ := List.mem_map.mp hx
    show PyData.depth (.tuple [.str (sgn m.h), .str (sgn m.c)]) ≤ 60
    simp [PyData.depth, PyData.depthAll]
  · obtain ⟨m, _, rfl⟩ := List.mem_map.mp hx
    rfl
theorem keyM_le (a b : Mv) : D.le (keyM a) (keyM b) = !mvLt b a := by
  have := mv_lt b a
  rw [← this]
  rfl
/-- rows as the walks need them -/
structure Steps (A : Rows) : Prop where
  cl : Closed A
  n : A.length ≤ 999
  pw : ∀ r ∈ A, r.Pairwise fun a b => mvLt a b = true
  l : ∀ r ∈ A, r.length ≤ 1000
theorem RulV.steps {hs ws : List Nat} {rs : List (List Mv)} (v : RulV hs ws rs) : Steps rs where
  cl := ⟨v.n1, fun r hr m hm => (v.ok.at_ r hr).2 m hm⟩
  n := v.n2
  pw := fun r hr => by
    have := (v.row r hr).1
    unfold rowB at this
    rw [Bool.and_eq_true] at this
    exact nbr_pair (r := mvLt) mvLt_tr _ this.2
  l := fun r hr => (v.row r hr).2
theorem Steps.row {A : Rows} (h : Steps A) (s : Nat) : (rowS A s).Pairwise (fun a b => mvLt a b = true) ∧ (rowS A s).length ≤ 1000 := by
  unfold rowS
  rw [List.getD_eq_getElem?_getD]
  cases e : A[s]? with
  | none => exact ⟨.nil, Nat.zero_le _⟩
  | some r => exact ⟨h.pw r (List.mem_of_getElem? e), h.l r (List.mem_of_getElem? e)⟩
end Pace
end
section
set_option Elab.async false
set_option linter.all false
set_option maxRecDepth 100000
set_option maxHeartbeats 4000000
namespace Pace
open PySem PySem.Spec PyProof.Rows L2 DL
theorem _root_.DL.Sub.no {G G' : GH} (s : Sub G G') {p : Addr} (h : G' p = none) : G p = none := by
  cases q : G p with
  | none => rfl
  | some o => rw [s.le p o q] at h; cases h
end Pace
end
section
set_option Elab.async false
set_option linter.all false
set_option maxRecDepth 100000
set_option maxHeartbeats 4000000
namespace Pace
open PySem PySem.Spec PyProof.Rows L2 DL
theorem s_a : Str.ofString "a" = sgn 97 := by decide +kernel
theorem s_b : Str.ofString "b" = sgn 98 := by decide +kernel
theorem s_ab : Str.ofString "ab" = strOf [97, 98] := by decide +kernel
theorem s_abc : Str.ofString "abc" = strOf [97, 98, 99] := by decide +kernel
theorem texts_sgn : ∀ cs : List Nat, texts (cs.map fun c => .str (sgn c)) = some (cs.map sgn)
  | [] => rfl
  | c :: cs => by simp [texts, texts_sgn cs]
theorem join_sgn : ∀ cs : List Nat, Txt.join (Str.ofString "") (cs.map sgn) = strOf cs := by
  have hn : ∀ x : Str, Str.ofString "" ++ x = x := fun x => by
    rw [str_nil]
    show (⟨#[] ++ x.cps⟩ : Str) = x
    simp
  intro cs
  rw [TL.join_eq]
  induction cs with
  | nil => rw [← str_nil]; rfl
  | cons c cs ih =>
    cases cs with
    | nil => rfl
    | cons d cs =>
      show sgn c ++ Str.ofString "" ++ Str.join (Str.ofString "") ((d :: cs).map sgn) = _
      rw [ih]
      have : sgn c ++ Str.ofString "" = sgn c := by
        rw [str_nil]
        show (⟨#[c] ++ #[]⟩ : Str) = _
        rfl
      rw [this]
      exact strOf_app [c] (d :: cs)
theorem sgn_sum (cs : List Nat) : ((cs.map sgn).map (·.length)).sum = cs.length := by
  induction cs with
  | nil => rfl
  | cons c cs ih =>
    simp only [List.map_cons, List.sum_cons, ih, List.length_cons]
    have : (sgn c).length = 1 := rfl
    omega
end Pace
end
section
set_option Elab.async false
set_option linter.all false
set_option maxRecDepth 100000
set_option maxHeartbeats 4000000
namespace Pace
open PySem PySem.Spec PyProof.Rows L2 DL
def key3 (x : Nat × Mv) : Nat × Nat × Nat := (x.1, x.2.h, x.2.c)
def lotPut (lot : Lot) (x : Nat × Mv) : Lot := if lot.any (fun y => decide (key3 y = key3 x)) then lot.map (fun y => if key3 y = key3 x then x else y) else lot ++ [x]
structure LotOk (sz : Nat) (hs ws : List Nat) (lot : Lot) : Prop where
  nd : LotNd lot
  at_ : ∀ x ∈ lot, x.1 < sz ∧ x.2.h ∈ hs ∧ x.2.c ∈ ws ∧ x.2.t < sz
theorem lotPut_keys (lot : Lot) (x : Nat × Mv) : (lotPut lot x).map key3 = if lot.any (fun y => decide (key3 y = key3 x)) then lot.map key3 else lot.map key3 ++ [key3 x] := by
  unfold lotPut
  split
  · rw [List.map_map]
    refine List.map_congr_left fun y _ => ?_
    simp only [Function.comp]
    split
    · rename_i h; exact h.symm
    · rfl
  · simp
theorem lotPut_mem {lot : Lot} {x y : Nat × Mv} (h : y ∈ lotPut lot x) : y ∈ lot ∨ y = x := by
  unfold lotPut at h
  split at h
  · obtain ⟨z, hz, rfl⟩ := List.mem_map.mp h
    split
    · exact .inr rfl
    · exact .inl hz
  · rcases List.mem_append.mp h with h | h
    · exact .inl h
    · simp at h; exact .inr h
theorem LotOk.put {sz : Nat} {hs ws : List Nat} {lot : Lot} (h : LotOk sz hs ws lot) {x : Nat × Mv} (hx : x.1 < sz ∧ x.2.h ∈ hs ∧ x.2.c ∈ ws ∧ x.2.t < sz) : LotOk sz hs ws (lotPut lot x) where
  nd := by
    have e := lotPut_keys lot x
    have n0 : (lot.map key3).Nodup := h.nd
    show ((lotPut lot x).map key3).Nodup
    rw [e]
    split
    · exact n0
    · rename_i hn
      rw [List.nodup_append]
      refine ⟨n0, by simp, fun a ha b hb => ?_⟩
      simp at hb
      subst hb
      intro e
      subst e
      obtain ⟨y, hy, e2⟩ := List.mem_map.mp ha
      exact hn (List.any_eq_true.mpr ⟨y, hy, by simpa using e2⟩)
  at_ := fun y hy => by
    rcases lotPut_mem hy with hy | rfl
    · exact h.at_ y hy
    · exact hx
theorem prod_len (a b : List Nat) : (a.flatMap fun x => b.map fun y => (x, y)).length = a.length * b.length := by
  induction a with
  | nil => simp
  | cons x a ih => simp only [List.flatMap_cons, List.length_append, List.length_map, ih, List.length_cons, Nat.add_mul]; omega
theorem row_few {sz : Nat} {hs ws : List Nat} {lot : Lot} (h : LotOk sz hs ws lot) (s : Nat) : (rowOf lot s).length ≤ hs.length * ws.length := by
  have hp := rowOf_lt h.nd s
  have nd : ((rowOf lot s).map fun m => (m.h, m.c)).Nodup := by
    rw [List.nodup_iff_pairwise_ne, List.pairwise_map]
    refine hp.imp fun {a b} hab e => ?_
    unfold mvLt at hab
    simp only [decide_eq_true_eq] at hab
    simp only [Prod.mk.injEq] at e
    omega
  have := List.Nodup.length_le_of_subset nd (l₂ := hs.flatMap fun x => ws.map fun y => (x, y)) fun p hp => by
    obtain ⟨m, hm, rfl⟩ := List.mem_map.mp hp
    obtain ⟨_, h2, h3, _⟩ := h.at_ _ (rowOf_mem.mp hm)
    exact List.mem_flatMap.mpr ⟨m.h, h2, List.mem_map.mpr ⟨m.c, h3, rfl⟩⟩
  rw [List.length_map, prod_len] at this
  exact this
theorem lot_few {sz : Nat} {hs ws : List Nat} {lot : Lot} (h : LotOk sz hs ws lot) : lot.length ≤ sz * (hs.length * ws.length) := by
  have nd : (lot.map key3).Nodup := h.nd
  have := List.Nodup.length_le_of_subset nd (l₂ := (List.range sz).flatMap fun s => (hs.flatMap fun x => ws.map fun y => (x, y)).map fun p => (s, p)) fun p hp => by
    obtain ⟨x, hx, rfl⟩ := List.mem_map.mp hp
    obtain ⟨h1, h2, h3, _⟩ := h.at_ _ hx
    exact List.mem_flatMap.mpr ⟨x.1, List.mem_range.mpr h1, List.mem_map.mpr ⟨(x.2.h, x.2.c), List.mem_flatMap.mpr ⟨x.2.h, h2, List.mem_map.mpr ⟨x.2.c, h3, rfl⟩⟩, rfl⟩⟩
  have e : ((List.range sz).flatMap fun s => (hs.flatMap fun x => ws.map fun y => (x, y)).map fun p => (s, p)).length ≤ sz * (hs.length * ws.length) := by
    have := flat_len (fun s => (hs.flatMap fun x => ws.map fun y => (x, y)).map fun p => (s, p)) (hs.length * ws.length) (List.range sz) fun s _ => by rw [List.length_map, prod_len]; exact Nat.le_refl _
    simpa using this
  rw [List.length_map] at this
  omega
theorem rowsOf_len (lot : Lot) (n : Nat) : (rowsOf lot n).length = n := by simp [rowsOf]
end Pace
end
section
set_option Elab.async false
set_option linter.all false
set_option maxRecDepth 100000
set_option maxHeartbeats 4000000
namespace Pace
open PySem PySem.Spec PyProof.Rows L2 DL
theorem snoc_ind {α : Type} {P : List α → Prop} (nil : P []) (snoc : ∀ l a, P l → P (l ++ [a])) (l : List α) : P l := by
  rw [← List.reverse_reverse l]
  induction l.reverse with
  | nil => exact nil
  | cons a l ih => rw [List.reverse_cons]; exact snoc _ _ ih
theorem szB {n : Nat} (h : n ≤ 1000000) : n ≤ sizeLine := by rw [sizeLine_eq]; omega
theorem map_get {α : Type} {f : α → D} {l : List α} {i : Nat} {d : D} (h : (l.map f)[i]? = some d) : ∃ a, l[i]? = some a ∧ d = f a := by
  rw [List.getElem?_map] at h
  cases e : l[i]? with
  | none => rw [e] at h; cases h
  | some a => rw [e] at h; cases h; exact ⟨a, rfl, rfl⟩
theorem take_snoc {α : Type} {l : List α} {i : Nat} {a : α} (h : l[i]? = some a) : l.take (i + 1) = l.take i ++ [a] := by rw [List.take_add_one, h]; rfl
theorem range_get {n : Nat} {i : Nat} {d : D} (h : ((List.range (n : Int).toNat).map fun (i : Nat) => D.int (i : Nat))[i]? = some d) : i < n ∧ d = .int (i : Int) := by
  obtain ⟨a, ha, rfl⟩ := map_get h
  obtain ⟨h1, h2⟩ := List.getElem?_eq_some_iff.mp ha
  rw [List.length_range, Int.toNat_natCast] at h1
  rw [List.getElem_range] at h2
  subst h2
  exact ⟨h1, rfl⟩
theorem range_len (n : Nat) : ((List.range (n : Int).toNat).map fun (i : Nat) => D.int (i : Nat)).length = n := by simp
theorem mvd_si (m : Mv) : (Mv.d m).si = true := rfl
theorem rowD_si (r : List Mv) : (rowD r).si = true := sis_all.mpr fun x hx => by obtain ⟨m, _, rfl⟩ := List.mem_map.mp hx; exact mvd_si m
theorem rowsD_si (rs : List (List Mv)) : (rowsD rs).si = true := sis_all.mpr fun x hx => by obtain ⟨m, _, rfl⟩ := List.mem_map.mp hx; exact rowD_si m
theorem rowD_dp (r : List Mv) : (rowD r).dp ≤ 2 := by
  have : D.dps (r.map Mv.d) ≤ 1 := dps_le fun x hx => by obtain ⟨m, _, rfl⟩ := List.mem_map.mp hx; exact Nat.le_refl _
  simp only [rowD, D.dp]; omega
theorem rowsD_dp (rs : List (List Mv)) : (rowsD rs).dp ≤ 3 := by
  have : D.dps (rs.map rowD) ≤ 2 := dps_le fun x hx => by obtain ⟨m, _, rfl⟩ := List.mem_map.mp hx; exact rowD_dp m
  simp only [rowsD, D.dp]; omega
theorem mvd_inj {a b : Mv} (h : Mv.d a = Mv.d b) : a = b := by
  obtain ⟨h1, c1, t1⟩ := a
  obtain ⟨h2, c2, t2⟩ := b
  simp only [Mv.d, D.tup.injEq, List.cons.injEq, D.str.injEq, D.int.injEq, and_true] at h
  obtain ⟨e1, e2, e3⟩ := h
  have i1 := sgn_inj e1
  have i2 := sgn_inj e2
  have i3 : t1 = t2 := by omega
  subst i1; subst i2; subst i3; rfl
theorem map_inj {α β : Type} {f : α → β} (hf : ∀ a b, f a = f b → a = b) : ∀ {l m : List α}, l.map f = m.map f → l = m
  | [], [], _ => rfl
  | [], _ :: _, h => by simp at h
  | _ :: _, [], h => by simp at h
  | a :: l, b :: m, h => by
    simp only [List.map_cons, List.cons.injEq] at h
    rw [hf a b h.1, map_inj hf h.2]
theorem rowD_inj {a b : List Mv} (h : rowD a = rowD b) : a = b := map_inj (fun _ _ => mvd_inj) (by simpa [rowD] using h)
theorem rowsD_inj {a b : List (List Mv)} (h : rowsD a = rowsD b) : a = b := map_inj (fun _ _ => rowD_inj) (by simpa [rowsD] using h)
def uD (hs ws : List Nat) (rs : List (List Mv)) : D := .dK [(.inr "hs", .str (strOf hs)), (.inr "cs", .str (strOf ws)), (.inr "lines", rowsD rs)]
theorem uD_hs (hs ws : List Nat) (rs : List (List Mv)) : D.item (uD hs ws rs) (.str "hs") = some (.str (strOf hs)) := rfl
theorem uD_cs (hs ws : List Nat) (rs : List (List Mv)) : D.item (uD hs ws rs) (.str "cs") = some (.str (strOf ws)) := rfl
theorem uD_lines (hs ws : List Nat) (rs : List (List Mv)) : D.item (uD hs ws rs) (.str "lines") = some (rowsD rs) := rfl
theorem signs_map (hs : List Nat) : DL.signs (strOf hs) = hs.map fun c => .str (sgn c) := by
  simp [DL.signs, strOf]
  intro a _
  rfl
theorem cut_take {α : Type} (xs : List α) (k : Nat) : DL.cutD xs none (some (k : Int)) = xs.take k := by
  unfold DL.cutD
  rw [HT.sIx_none, HT.sIx_nat]
  simp only [List.drop_zero, Nat.sub_zero]
  by_cases h : k ≤ xs.length
  · rw [Nat.min_eq_left h]
  · rw [Nat.min_eq_right (by omega), List.take_length, List.take_of_length_le (by omega)]
theorem cut_drop {α : Type} (xs : List α) (k : Nat) : DL.cutD xs (some (k : Int)) none = xs.drop k := by
  unfold DL.cutD
  rw [HT.sIx_none, HT.sIx_nat]
  by_cases h : k ≤ xs.length
  · rw [Nat.min_eq_left h, List.take_of_length_le (by simp)]
  · rw [Nat.min_eq_right (by omega), List.drop_of_length_le (by omega), List.drop_of_length_le (by omega)]
    simp
theorem unsgn : ∀ {ys : List Str}, (∀ y ∈ ys, ∃ c, y = sgn c) → ∃ es : List Nat, ys = es.map sgn
  | [], _ => ⟨[], rfl⟩
  | y :: ys, h => by
    obtain ⟨c, rfl⟩ := h y (by simp)
    obtain ⟨es, rfl⟩ := unsgn fun z hz => h z (List.mem_cons_of_mem _ hz)
    exact ⟨c :: es, rfl⟩
theorem rising_sgn : ∀ (es : List Nat) (a : Nat), risingS (sgn a) (es.map sgn) = true → (a :: es).Nodup → nbr (fun a b => decide (a < b)) (a :: es) = true
  | [], a, _, _ => by simp [nbr]
  | b :: es, a, h, nd => by
    rw [nbr_cons]
    simp only [List.map_cons, risingS, Bool.and_eq_true] at h
    have ih := rising_sgn es b h.2 (List.nodup_cons.mp nd).2
    rw [ih, Bool.and_true]
    have h1 := h.1
    have hne : a ≠ b := fun e => by subst e; simp at nd
    have : ¬ b < a := by
      intro hlt
      have e : ltCps (sgn b).cps.toList (sgn a).cps.toList = true := by
        show ltCps [b] [a] = true
        simp [ltCps, hlt]
      rw [e] at h1
      cases h1
    simpa using (by omega : a < b)
theorem letters_of {cs es : List Nat} {ys : List Str} (hc : ∀ c ∈ cs, c ∈ abc) (h0 : 0 < cs.length) (e : ys = es.map sgn) (pm : ys.Perm (firstsF (cs.map sgn))) (so : sortedS ys = true) : lettersB es = true ∧ es.length ≤ cs.length := by
  subst e
  have nd : (es.map sgn).Nodup := pm.nodup_iff.mpr (firstsF_nodup _)
  have nde : es.Nodup := by
    rw [List.Nodup, List.pairwise_map] at nd
    exact nd.imp fun h z => h (by rw [z])
  have hl : es.length ≤ cs.length := by
    have h1 := pm.length_eq
    have h2 := firstsF_len (cs.map sgn)
    simp only [List.length_map] at h1 h2
    omega
  have hm : ∀ x ∈ es, x ∈ cs := fun x hx => by
    have h1 : sgn x ∈ cs.map sgn := firstsF_mem.mp (pm.mem_iff.mp (List.mem_map.mpr ⟨x, hx, rfl⟩))
    obtain ⟨y, hy, he⟩ := List.mem_map.mp h1
    rw [← sgn_inj he]; exact hy
  refine ⟨?_, hl⟩
  unfold lettersB
  simp only [Bool.and_eq_true]
  refine ⟨⟨?_, ?_⟩, ?_⟩
  · cases es with
    | nil =>
      exfalso
      cases cs with
      | nil => cases h0
      | cons c cs =>
        have : sgn c ∈ firstsF ((c :: cs).map sgn) := firstsF_mem.mpr (by simp)
        rw [← pm.mem_iff] at this
        cases this
    | cons a l => rfl
  · rw [List.all_eq_true]
    intro x hx
    simpa using hc x (hm x hx)
  · cases es with
    | nil => simp [nbr]
    | cons a l => exact rising_sgn l a so nde
def capsStep (rs : List (List Mv)) (l : List (List Nat × Nat)) (c : Nat) : List (List Nat × Nat) := l.flatMap fun x => ((rs.getD x.2 []).filter fun m => m.h == c).map fun m => (x.1 ++ [m.c], m.t)
def caps (rs : List (List Mv)) (s : Nat) (cs : List Nat) : List (List Nat × Nat) := cs.foldl (capsStep rs) [([], s)]
/-- drawn rules -/
structure Wor (top : Nat) (tot : Bool) (hs ws : List Nat) (rs : List (List Mv)) : Prop where
  val : RulV hs ws rs
  n : rs.length ≤ top
  hs3 : hs.length ≤ 3
  ws3 : ws.length ≤ 3
  row : ∀ r ∈ rs, r.length ≤ 9
  full : tot = true → ∀ r ∈ rs, ∀ h ∈ hs, ∃ m ∈ r, m.h = h
/-- a row as far as its first letters -/
structure RowP (hs ws : List Nat) (n : Nat) (tot : Bool) (j : Nat) (row : List Mv) : Prop where
  mv : ∀ m ∈ row, mvB hs ws n m = true
  lt : row.Pairwise fun a b => mvLt a b = true
  le : ∀ m ∈ row, m.h ∈ hs.take j
  len : row.length ≤ 3 * j
  full : tot = true → ∀ h ∈ hs.take j, ∃ m ∈ row, m.h = h
theorem RowP.start {hs ws : List Nat} {n : Nat} {tot : Bool} : RowP hs ws n tot 0 [] := ⟨by simp, by simp, by simp, by simp, by simp⟩
theorem letters_lt {cs : List Nat} (h : lettersB cs = true) : cs.Pairwise (· < ·) := by
  unfold lettersB at h
  simp only [Bool.and_eq_true] at h
  exact (nbr_pair (r := fun a b => decide (a < b)) (fun a b c h1 h2 => by simp at h1 h2 ⊢; omega) cs h.2).imp fun h => by simpa using h
theorem letters_pos {cs : List Nat} (h : lettersB cs = true) : 1 ≤ cs.length := by
  cases cs with
  | nil => simp [lettersB] at h
  | cons a l => simp
theorem take_lt {hs : List Nat} (h : hs.Pairwise (· < ·)) {j : Nat} {c : Nat} (hc : hs[j]? = some c) : ∀ x ∈ hs.take j, x < c := by
  intro x hx
  obtain ⟨h1, h2⟩ := List.getElem?_eq_some_iff.mp hc
  obtain ⟨i, hi, e⟩ := List.mem_iff_getElem.mp hx
  rw [List.length_take] at hi
  rw [List.getElem_take] at e
  rw [← e, ← h2]
  exact List.pairwise_iff_getElem.mp h i j (by omega) h1 (by omega)
theorem RowP.step {hs ws : List Nat} {n : Nat} {tot : Bool} {j : Nat} {row ts : List Mv} {cs : List Nat} {h : Nat} (rp : RowP hs ws n tot j row) (lh : hs.Pairwise (· < ·)) (lw : ws.Pairwise (· < ·)) (w3 : ws.length ≤ 3) (hh : hs[j]? = some h) (sl : cs.Sublist ws) (ne : tot = true → cs ≠ []) (ec : ts.map (·.c) = cs)
    (ht : ∀ t ∈ ts, t.h = h ∧ t.t < n) : RowP hs ws n tot (j + 1) (row ++ ts) where
  mv := fun m hm => by
    rcases List.mem_append.mp hm with hm | hm
    · exact rp.mv m hm
    · obtain ⟨h1, h2⟩ := ht m hm
      have h3 : m.c ∈ ws := sl.subset (by rw [← ec]; exact List.mem_map.mpr ⟨m, hm, rfl⟩)
      have h4 := List.mem_of_getElem? hh
      simp [mvB, h1, h2, h3, h4]
  lt := by
    rw [List.pairwise_append]
    refine ⟨rp.lt, ?_, fun a ha b hb => ?_⟩
    · have h1 : (ts.map (·.c)).Pairwise (· < ·) := by rw [ec]; exact lw.sublist sl
      rw [List.pairwise_map] at h1
      refine h1.imp_of_mem fun {a b} ha hb hab => ?_
      have := (ht a ha).1; have := (ht b hb).1
      simp only [mvLt, decide_eq_true_eq]
      right
      omega
    · have h1 := take_lt lh hh a.h (rp.le a ha)
      have h2 := (ht b hb).1
      simp only [mvLt, decide_eq_true_eq]
      left
      omega
  le := fun m hm => by
    rw [take_snoc hh]
    rcases List.mem_append.mp hm with hm | hm
    · exact List.mem_append_left _ (rp.le m hm)
    · rw [(ht m hm).1]; simp
  len := by
    have h1 := rp.len
    have h2 : ts.length = cs.length := by rw [← ec, List.length_map]
    have h3 := sl.length_le
    rw [List.length_append]
    omega
  full := fun ht0 x hx => by
    rw [take_snoc hh] at hx
    rcases List.mem_append.mp hx with hx | hx
    · obtain ⟨m, hm, e⟩ := rp.full ht0 x hx
      exact ⟨m, List.mem_append_left _ hm, e⟩
    · rw [List.mem_singleton] at hx
      subst hx
      have := ne ht0
      cases ts with
      | nil => rw [← ec] at this; simp at this
      | cons t l => exact ⟨t, by simp, (ht t (by simp)).1⟩
theorem RowP.row {hs ws : List Nat} {n : Nat} {tot : Bool} {row : List Mv} (rp : RowP hs ws n tot hs.length row) : rowB hs ws n row = true := by
  unfold rowB
  rw [Bool.and_eq_true, List.all_eq_true]
  exact ⟨rp.mv, nbr_of_pair rp.lt⟩
theorem Wor.few {top : Nat} {tot : Bool} {hs ws : List Nat} {rs : List (List Mv)} (w : Wor top tot hs ws rs) (h5 : top ≤ 5 := by decide) : Few rs := ⟨9, w.row, by have := w.n; omega⟩
end Pace
end
section
set_option Elab.async false
set_option linter.all false
set_option maxRecDepth 100000
set_option maxHeartbeats 4000000
namespace Pace
open PySem PySem.Spec PyProof.Rows L2 DL
def sl (p q : List Nat) : Prop := p.length < q.length ∨ (p.length = q.length ∧ p < q)
def sle (p q : List Nat) : Prop := p = q ∨ sl p q
theorem lt_app : ∀ {p q : List Nat} (x y : List Nat), p.length = q.length → p < q → p ++ x < q ++ y
  | [], [], x, y, _, h => absurd h (List.not_lt_nil _)
  | [], _ :: _, x, y, h, _ => by simp at h
  | _ :: _, [], x, y, h, _ => by simp at h
  | a :: p, b :: q, x, y, h, hl => by
    rw [List.cons_append, List.cons_append, List.cons_lt_cons_iff]
    rw [List.cons_lt_cons_iff] at hl
    rcases hl with hl | ⟨e, hl⟩
    · exact .inl hl
    · exact .inr ⟨e, lt_app x y (by simpa using h) hl⟩
theorem sl.snoc {p q : List Nat} (c d : Nat) (h : sl p q) : sl (p ++ [c]) (q ++ [d]) := by
  rcases h with h | ⟨h, hl⟩
  · left; simpa using h
  · right; exact ⟨by simpa using h, lt_app _ _ h hl⟩
theorem sl.last {p : List Nat} {c d : Nat} (h : c < d) : sl (p ++ [c]) (p ++ [d]) := by
  right
  refine ⟨by simp, ?_⟩
  induction p with
  | nil => simpa [List.cons_lt_cons_iff] using h
  | cons a p ih => rw [List.cons_append, List.cons_append, List.cons_lt_cons_iff]; exact .inr ⟨rfl, ih⟩
theorem sl.trans {p q r : List Nat} (h1 : sl p q) (h2 : sl q r) : sl p r := by
  rcases h1 with h1 | ⟨e1, h1⟩ <;> rcases h2 with h2 | ⟨e2, h2⟩
  · left; omega
  · left; omega
  · left; omega
  · right; exact ⟨by omega, List.lt_trans h1 h2⟩
theorem sle.trans {p q r : List Nat} (h1 : sle p q) (h2 : sle q r) : sle p r := by
  rcases h1 with rfl | h1
  · exact h2
  · rcases h2 with rfl | h2
    · exact .inr h1
    · exact .inr (h1.trans h2)
theorem sle.snoc {p q : List Nat} (c : Nat) (h : sle p q) : sle (p ++ [c]) (q ++ [c]) := by
  rcases h with rfl | h
  · exact .inl rfl
  · exact .inr (h.snoc c c)
def Done (rs : List (List Mv)) (ord : Ord) (y : List Nat × List Nat) (c : Nat) : Prop := behind rs y.1 c ≠ [] ∧ ∃ z ∈ ord, z.1 = behind rs y.1 c ∧ sle z.2 (y.2 ++ [c])
theorem Done.mono {rs : List (List Mv)} {ord more : Ord} {y : List Nat × List Nat} {c : Nat} (h : Done rs ord y c) : Done rs (ord ++ more) y c := by
  obtain ⟨h1, z, hz, h2⟩ := h
  exact ⟨h1, z, List.mem_append_left _ hz, h2⟩
/-- what holds ahead of the entry at i -/
structure BI (rs : List (List Mv)) (hs : List Nat) (i : Nat) (pre : List Nat) (ord : Ord) : Prop where
  ok : OrdOk rs hs ord
  st : ([0], []) ∈ ord
  inc : (ord.map (·.2)).Pairwise sl
  frm : ∀ x ∈ ord, x.2 = [] ∨ ∃ (j : Nat) (y : List Nat × List Nat) (c : Nat), ord[j]? = some y ∧ x.2 = y.2 ++ [c] ∧ (j < i ∨ (j = i ∧ c ∈ pre))
  dn : ∀ (j : Nat) (y : List Nat × List Nat), j < i → ord[j]? = some y → ∀ c ∈ hs, Done rs ord y c
  dh : ∀ (y : List Nat × List Nat), ord[i]? = some y → ∀ c ∈ pre, Done rs ord y c
theorem BI.next {rs : List (List Mv)} {hs : List Nat} {i : Nat} {ord : Ord} (h : BI rs hs i hs ord) : BI rs hs (i + 1) [] ord where
  ok := h.ok
  st := h.st
  inc := h.inc
  frm := fun x hx => by
    rcases h.frm x hx with e | ⟨j, y, c, h1, h2, h3⟩
    · exact .inl e
    · exact .inr ⟨j, y, c, h1, h2, .inl (by omega)⟩
  dn := fun j y hj hy c hc => by
    by_cases e : j < i
    · exact h.dn j y e hy c hc
    · have : j = i := by omega
      subst this
      exact h.dh y hy c hc
  dh := fun _ _ _ hc => by cases hc
theorem sl_of_lt {p q : List Nat} (h : D.lt (.tup [.int (p.length : Nat), .str (strOf p)]) (.tup [.int (q.length : Nat), .str (strOf q)]) = true) : sl p q := by
  have e : D.lt (.tup [.int (p.length : Nat), .str (strOf p)]) (.tup [.int (q.length : Nat), .str (strOf q)]) = PySem.W.dataLt (.tuple [.int (p.length : Nat), .str (strOf p)]) (.tuple [.int (q.length : Nat), .str (strOf q)]) := rfl
  rw [e, PySem.W.dataLt_pair rfl rfl] at h
  have e1 : PyData.eqv (.int (p.length : Nat)) (.int (q.length : Nat)) = ((p.length : Int) == (q.length : Int)) := eqv_int _ _
  have e2 : PySem.W.dataLt (.int (p.length : Nat)) (.int (q.length : Nat)) = decide ((p.length : Int) < (q.length : Int)) := DL.lt_int _ _
  have e3 : PySem.W.dataLt (.str (strOf p)) (.str (strOf q)) = decide (p < q) := by
    have := DL.lt_str (strOf p) (strOf q)
    exact this
  have e4 : PyData.eqv (.str (strOf p)) (.str (strOf q)) = (strOf p == strOf q) := eqv_str _ _
  rw [e1, e2, e3, e4] at h
  by_cases hl : p.length = q.length
  · rw [if_pos (by simp [hl])] at h
    by_cases h2 : p = q
    · rw [if_pos (by simp [h2])] at h; cases h
    · rw [if_neg (by simpa using fun z => h2 (strOf_inj z))] at h
      right
      exact ⟨hl, by simpa using h⟩
  · rw [if_neg (by simp; omega)] at h
    left
    simpa using h
end Pace
end
section
set_option Elab.async false
set_option linter.all false
set_option maxRecDepth 100000
set_option maxHeartbeats 4000000
namespace Pace
open PySem PySem.Spec PyProof.Rows L2 DL
def step1 (rs : List (List Mv)) (s h c : Nat) : Option Nat := ((rs.getD s []).find? fun m => m.h == h && m.c == c).map (·.t)
def ledN (rs : List (List Mv)) (s : Nat) (ks : List (Nat × Nat)) : Option Nat := ks.foldl (fun o k => o.bind fun s => step1 rs s k.1 k.2) (some s)
theorem ledN_snoc {rs : List (List Mv)} {s : Nat} {ks : List (Nat × Nat)} {k : Nat × Nat} : ledN rs s (ks ++ [k]) = (ledN rs s ks).bind fun s => step1 rs s k.1 k.2 := by simp [ledN]
theorem foldl_none {rs : List (List Mv)} : ∀ ks : List (Nat × Nat), ks.foldl (fun o k => o.bind fun s => step1 rs s k.1 k.2) none = none
  | [] => rfl
  | _ :: ks => foldl_none ks
theorem step1_lt {rs : List (List Mv)} (tl : ∀ r ∈ rs, ∀ m ∈ r, m.t < rs.length) {s h c t : Nat} (e : step1 rs s h c = some t) : t < rs.length := by
  unfold step1 at e
  obtain ⟨m, hm, rfl⟩ := Option.map_eq_some_iff.mp e
  have h1 := List.mem_of_find?_eq_some hm
  cases er : rs[s]? with
  | none => simp [List.getD, er] at h1
  | some r =>
    simp only [List.getD, er, Option.getD_some] at h1
    exact tl r (List.mem_of_getElem? er) m h1
theorem ledN_lt {rs : List (List Mv)} (tl : ∀ r ∈ rs, ∀ m ∈ r, m.t < rs.length) {s : Nat} (hs : s < rs.length) (ks : List (Nat × Nat)) : ∀ {t : Nat}, ledN rs s ks = some t → t < rs.length := by
  induction ks using snoc_ind with
  | nil => intro t h; simp [ledN] at h; omega
  | snoc ks k ih =>
    intro t h
    rw [ledN_snoc] at h
    obtain ⟨u, hu, h⟩ := Option.bind_eq_some_iff.mp h
    exact step1_lt tl h
theorem val_mvK (h c : Nat) : ∀ r : List Mv, valD (r.map mvK) [.inr (sgn h), .inr (sgn c)] = (r.find? fun m => m.h == h && m.c == c).map fun m => D.int (m.t : Int)
  | [] => rfl
  | m :: r => by
    have ih := val_mvK h c r
    by_cases e : m.h = h ∧ m.c = c
    · obtain ⟨rfl, rfl⟩ := e
      simp [valD, mvK]
    · have hne : (mvK m).1 ≠ [.inr (sgn h), .inr (sgn c)] := fun z => by
        simp only [mvK, List.cons.injEq, Sum.inr.injEq, and_true] at z
        exact e ⟨sgn_inj z.1, sgn_inj z.2⟩
      have hb : (m.h == h && m.c == c) = false := by
        rw [Bool.eq_false_iff]
        intro z
        simp only [Bool.and_eq_true, beq_iff_eq] at z
        exact e z
      rw [List.find?_cons, hb]
      rw [← ih]
      simp only [valD, List.map_cons, List.find?_cons]
      rw [decide_eq_false hne]
/-- values of any kind -/
inductive AnyV : D → Prop
  | non : AnyV .non
  | bl (b : Bool) : AnyV (.bl b)
  | int (i : Int) : AnyV (.int i)
  | tup (xs : List D) : AnyV (.tup xs)
  | lst (xs : List D) : AnyV (.lst xs)
  | dK (kds : List (Key × D)) : AnyV (.dK kds)
  | str (cs : List Nat) (h : cs.length ≤ 1000) : AnyV (.str (strOf cs))
theorem mv_in {hs ws : List Nat} {rs : List (List Mv)} (v : RulV hs ws rs) {r : List Mv} (hr : r ∈ rs) {m : Mv} (hm : m ∈ r) : m.h ∈ hs ∧ m.c ∈ ws ∧ m.t < rs.length := by
  have h := (v.row r hr).1
  unfold rowB at h
  rw [Bool.and_eq_true, List.all_eq_true] at h
  have := h.1 m hm
  simp only [mvB, Bool.and_eq_true, decide_eq_true_eq] at this
  exact ⟨this.1.1, this.1.2, this.2⟩
theorem rows_len_ (rs : List (List Mv)) : rLenD [rowsD rs] = fun G Q => Q (.int (rs.length : Nat)) G := by
  funext G Q
  show Q (.int ((rs.map rowD).length : Nat)) G = _
  rw [List.length_map]
theorem letters_abc {cs : List Nat} (h : lettersB cs = true) : ∀ c ∈ cs, 97 ≤ c ∧ c ≤ 122 := fun c hc => by
  unfold lettersB at h
  simp only [Bool.and_eq_true, List.all_eq_true, decide_eq_true_eq] at h
  have := h.1.2 c hc
  simp only [abc, List.mem_cons, List.not_mem_nil, or_false] at this
  omega
end Pace
end
section
set_option Elab.async false
set_option linter.all false
set_option maxRecDepth 100000
set_option maxHeartbeats 4000000
namespace DL
open PySem PySem.Spec PyProof.Rows L2
def revS (x : Str) : Str := ⟨x.cps.toList.reverse.toArray⟩
theorem rev_txt (x : Str) (u : Tok) : Txt.sliceBy x none none (-1, u) = revS x := by
  have h := step_rev_list x u
  have e : (Txt.sliceBy x none none (-1, u)).cps.toList = x.cps.toList.reverse := by
    rw [h]
    refine List.ext_getElem (by simp [Str.length]) fun i h1 h2 => ?_
    simp only [List.length_map, List.length_range] at h1
    have hx : i < x.cps.size := h1
    simp only [List.getElem_map, List.getElem_range, List.getElem_reverse, Array.getElem_toList, Array.length_toList]
    have : x.length - 1 - i < x.cps.size := by show x.cps.size - 1 - i < _; omega
    simp [Array.getD, this]
    rfl
  have e2 : (Txt.sliceBy x none none (-1, u)).cps = x.cps.toList.reverse.toArray := by rw [← e]
  cases hh : Txt.sliceBy x none none (-1, u) with
  | mk c => rw [hh] at e2; simp only at e2; rw [e2]; rfl
section
variable {X : Cx} {pos : Pos}
def tRevS (te : TE) : TE := fun σ H Q => te σ H fun x H1 => ∃ z, x = .str z ∧ z.length ≤ sizeLine ∧ Q (.str (revS z)) H1
theorem pe_revS {e : Expr} {te : TE} {k : Nat} {p1 p2 p3 pos : Pos} (he : PE X e te) (ht : ∀ (z : Str) (t : Tok) r, letTemporaryGo e (.str z t) r = pure () := by intro _ _ _; with_unfolding_all rfl) : PE X (.Subscript e (.Slice none none (some (.UnaryOp .USub (.Constant (.int 1) k p1) p2)) p3) pos) (tRevS te) := by
  refine ⟨fun pins s σ H Q I h => ?_⟩
  refine Subscript_ (thn (he.run pins s σ H _ I h) fun v s1 ⟨x, H1, I1, r1, q1⟩ => ?_)
  obtain ⟨z, ex, hz, q⟩ := q1
  subst ex
  obtain ⟨t, rfl⟩ := r1
  have hst : PO X (some (.UnaryOp .USub (.Constant (.int 1) k p1) p2)) (tPart (tUn (rU fun i => .int (-i)) (tC (.int 1)))) := po_some (pe_un un_neg pe_int)
  refine wpAny_Slice (thn (po_none.run pins s1 σ H1 (fun o H2 => o = none ∧ H2 = H1) I1 ⟨rfl, rfl⟩) fun vl s2 ⟨l, H2, I2, pl, el, e2⟩ => ?_)
  subst el e2
  refine thn (po_none.run pins s2 σ H2 (fun o H3 => o = none ∧ H3 = H2) I2 ⟨rfl, rfl⟩) fun vu s3 ⟨u, H3, I3, pu, eu, e3⟩ => ?_
  subst eu e3
  refine thn (hst.run pins s3 σ H3 (fun o H4 => o = some (-1) ∧ H4 = H3) I3 ⟨1, rfl, -1, rfl, rfl, rfl⟩) fun vs s4 ⟨o, H4, I4, ps, eo, e4⟩ => ?_
  subst eo e4
  have I5 : Inv X pins σ H4 { s4 with heap := s4.heap.push { cls := .type "slice", data := .fields #[vl, vu, vs] } } := I4.kept (t' := s4.toks) fun b ob q => Heap.get?_push_of_some _ q
  show wpAny (model X.prog X.w) X.A (subscriptTail e (.Slice none none (some (.UnaryOp .USub (.Constant (.int 1) k p1) p2)) p3) (.str z t) (.ref s4.heap.objs.size)) (EP X pins σ Q) X.xe { s4 with heap := s4.heap.push { cls := .type "slice", data := .fields #[vl, vu, vs] } }
  cases pl
  cases pu
  cases ps with
  | int _ uk =>
    refine tail_of_ItemOn ⟨"str", _, F.slot_str_getitem.lookup, typeIs_str _ _ _, wpAny_getItem_str_slice (l := none) (u := none) (st := some (-1, uk)) ⟨_, Heap.get?_push_size _ rfl, rfl, rfl⟩ (by rfl)
      (post_val_or_str ⟨Nat.le_trans (Txt.sliceBy_le z _ _ (-1, uk) (show (-1 : Int) ≠ 0 by decide)) hz, fun t' c => ?_⟩)⟩ (by with_unfolding_all rfl) (ht z t)
    have er := rev_txt z uk
    unfold Txt.sliceBy at er
    rw [er]
    exact ⟨.str _, H4, I5.tok _, ⟨_, rfl⟩, q⟩
def dRevS (te : DTE) : DTE := fun S G Q => te S G fun d G1 => match d with
  | .str z => z.length ≤ sizeLine ∧ Q (.str (revS z)) G1
  | _ => False
theorem de_revS {e : Expr} {te : DTE} {k : Nat} {p1 p2 p3 : Pos} (he : DE X e te) (ht : ∀ (z : Str) (t : Tok) r, letTemporaryGo e (.str z t) r = pure () := by intro _ _ _; with_unfolding_all rfl) : DE X (.Subscript e (.Slice none none (some (.UnaryOp .USub (.Constant (.int 1) k p1) p2)) p3) pos) (dRevS te) := by
  obtain ⟨t, p, r⟩ := he.ex
  refine ⟨_, pe_revS p ht, fun F H σ S G o Q' h Q kk => ?_⟩
  refine r F H σ S G o _ h _ fun F1 H1 v d G1 e1 g1 q1 h1 => ?_
  dsimp only at h1
  split at h1
  · cases q1
    exact ⟨_, rfl, h1.1, kk F1 H1 _ _ G1 e1 g1 (.str _) h1.2⟩
  · exact h1.elim
end
end DL
end
section
set_option Elab.async false
set_option linter.all false
set_option maxRecDepth 100000
set_option maxHeartbeats 4000000
namespace Pace
open PySem PySem.Spec PyProof.Rows L2 DL
theorem sorted_ext : ∀ {a b : List Nat}, a.Pairwise (· < ·) → b.Pairwise (· < ·) → (∀ k, k ∈ a ↔ k ∈ b) → a = b
  | [], [], _, _, _ => rfl
  | [], y :: b, _, _, h => absurd ((h y).mpr (by simp)) (by simp)
  | x :: a, [], _, _, h => absurd ((h x).mp (by simp)) (by simp)
  | x :: a, y :: b, ha, hb, h => by
    rw [List.pairwise_cons] at ha hb
    have e : x = y := by
      rcases List.mem_cons.mp ((h x).mp (by simp)) with e | e
      · exact e
      · rcases List.mem_cons.mp ((h y).mpr (by simp)) with e2 | e2
        · exact e2.symm
        · have := ha.1 y e2
          have := hb.1 x e
          omega
    subst e
    rw [sorted_ext ha.2 hb.2 fun k => ?_]
    constructor
    · intro hk
      rcases List.mem_cons.mp ((h k).mp (List.mem_cons_of_mem _ hk)) with e | e
      · have := ha.1 k hk; omega
      · exact e
    · intro hk
      rcases List.mem_cons.mp ((h k).mpr (List.mem_cons_of_mem _ hk)) with e | e
      · have := hb.1 k hk; omega
      · exact e
end Pace
end
section
set_option Elab.async false
set_option linter.all false
set_option maxRecDepth 100000
set_option maxHeartbeats 4000000
namespace Pace
open PySem PySem.Spec PyProof.Rows L2 DL
mutual
def leafD (m : Nat) : D → Bool
  | .int i => decide (i.natAbs ≤ 10 ^ 39 + m)
  | .str x => x.cps.toList.all fun c => decide (c < 128)
  | .tup xs | .lst xs => leafsD m xs
  | .kup _ => false
  | _ => true
def leafsD (m : Nat) : List D → Bool
  | [] => true
  | x :: xs => leafD m x && leafsD m xs
end
def bkD (x : D) : Nat := x.pyR.bulk
def bksD (xs : List D) : Nat := (xs.map fun x => bkD x + 1).sum
structure One (m n : Nat) (d : D) : Prop where
  pl : d.plR = true
  lf : leafD m d = true
  dp : d.pyR.depth ≤ n
structure Odd (m n w : Nat) (d : D) : Prop where
  one : One m n d
  bk : bkD d ≤ w
theorem plsR_all : ∀ xs : List D, D.plsR xs = true ↔ ∀ x ∈ xs, x.plR = true
  | [] => by simp [D.plsR]
  | x :: xs => by simp [D.plsR, plsR_all xs]
theorem leafsD_all (m : Nat) : ∀ xs : List D, leafsD m xs = true ↔ ∀ x ∈ xs, leafD m x = true
  | [] => by simp [leafsD]
  | x :: xs => by simp [leafsD, leafsD_all m xs]
theorem depthsR (n : Nat) : ∀ xs : List D, PyData.depthAll (D.pysR xs) ≤ n ↔ ∀ x ∈ xs, x.pyR.depth ≤ n
  | [] => by simp [D.pysR, PyData.depthAll]
  | x :: xs => by
    have := depthsR n xs
    simp only [D.pysR, PyData.depthAll, List.forall_mem_cons, ← this]
    exact Nat.max_le
theorem bulksR : ∀ xs : List D, PyData.bulkAll (D.pysR xs) = bksD xs
  | [] => rfl
  | x :: xs => by
    have := bulksR xs
    simp only [D.pysR, PyData.bulkAll, this, bksD, bkD, List.map_cons, List.sum_cons]
theorem One.mono {m n m' n' : Nat} {d : D} (h : One m n d) (h1 : m ≤ m') (h2 : n ≤ n') : One m' n' d := by
  have aux : ∀ k : Nat, (∀ d : D, sizeOf d ≤ k → leafD m d = true → leafD m' d = true) ∧ (∀ ds : List D, sizeOf ds ≤ k → leafsD m ds = true → leafsD m' ds = true) := by
    intro k
    induction k with
    | zero =>
      refine ⟨fun d hd => ?_, fun ds hd => ?_⟩
      · cases d <;> simp at hd
      · cases ds <;> simp at hd
    | succ k ih =>
      refine ⟨fun d hd hl => ?_, fun ds hd hl => ?_⟩
      · cases d with
        | int i => simp only [leafD, decide_eq_true_eq] at hl ⊢; omega
        | tup xs => exact ih.2 xs (by simp at hd; omega) hl
        | lst xs => exact ih.2 xs (by simp at hd; omega) hl
        | str x => exact hl
        | kup xs => cases hl
        | _ => rfl
      · cases ds with
        | nil => rfl
        | cons x xs =>
          have l' : leafD m x = true ∧ leafsD m xs = true := by simpa [leafsD] using hl
          show (leafD m' x && leafsD m' xs) = true
          rw [ih.1 x (by simp at hd; omega) l'.1, ih.2 xs (by simp at hd; omega) l'.2]; rfl
  exact ⟨h.pl, (aux (sizeOf d)).1 d (Nat.le_refl _) h.lf, Nat.le_trans h.dp h2⟩
theorem one_tup {m n : Nat} {xs : List D} : One m (n + 1) (.tup xs) ↔ ∀ x ∈ xs, One m n x := by
  constructor
  · intro h x hx
    exact ⟨(plsR_all xs).mp h.pl x hx, (leafsD_all m xs).mp h.lf x hx, (depthsR n xs).mp (Nat.le_of_succ_le_succ h.dp) x hx⟩
  · intro h
    exact ⟨(plsR_all xs).mpr fun x hx => (h x hx).pl, (leafsD_all m xs).mpr fun x hx => (h x hx).lf, Nat.succ_le_succ ((depthsR n xs).mpr fun x hx => (h x hx).dp)⟩
theorem one_lst {m n : Nat} {xs : List D} : One m (n + 1) (.lst xs) ↔ ∀ x ∈ xs, One m n x := by
  constructor
  · intro h x hx
    exact ⟨(plsR_all xs).mp h.pl x hx, (leafsD_all m xs).mp h.lf x hx, (depthsR n xs).mp (Nat.le_of_succ_le_succ h.dp) x hx⟩
  · intro h
    exact ⟨(plsR_all xs).mpr fun x hx => (h x hx).pl, (leafsD_all m xs).mpr fun x hx => (h x hx).lf, Nat.succ_le_succ ((depthsR n xs).mpr fun x hx => (h x hx).dp)⟩
theorem bk_tup (xs : List D) : bkD (.tup xs) = bksD xs := bulksR xs
theorem bk_lst (xs : List D) : bkD (.lst xs) = bksD xs := bulksR xs
theorem Odd.mono {m n w m' n' w' : Nat} {d : D} (h : Odd m n w d) (h1 : m ≤ m') (h2 : n ≤ n') (h3 : w ≤ w') : Odd m' n' w' d := ⟨h.one.mono h1 h2, Nat.le_trans h.bk h3⟩
theorem bks_app (xs ys : List D) : bksD (xs ++ ys) = bksD xs + bksD ys := by simp [bksD]
theorem bks_cons (x : D) (xs : List D) : bksD (x :: xs) = bkD x + 1 + bksD xs := by simp [bksD]
theorem bks_nil : bksD [] = 0 := rfl
theorem bks_len : ∀ xs : List D, xs.length ≤ bksD xs
  | [] => Nat.le_refl _
  | x :: xs => by have := bks_len xs; rw [bks_cons, List.length_cons]; omega
theorem bks_mem : ∀ {xs : List D} {x : D}, x ∈ xs → bkD x + 1 ≤ bksD xs
  | y :: xs, x, h => by
    rw [bks_cons]
    rcases List.mem_cons.mp h with rfl | h
    · omega
    · have := bks_mem h; omega
theorem bks_split (xs : List D) (k : Nat) : bksD (xs.take k) + bksD (xs.drop k) = bksD xs := by
  rw [← bks_app, List.take_append_drop]
theorem bks_at {xs : List D} {k : Nat} {x : D} (h : xs[k]? = some x) : bksD (xs.take k) + (bkD x + 1 + bksD (xs.drop (k + 1))) = bksD xs := by
  obtain ⟨hk, rfl⟩ := List.getElem?_eq_some_iff.mp h
  rw [← bks_cons, ← List.drop_eq_getElem_cons hk, bks_split]
theorem bks_rev (xs : List D) : bksD xs.reverse = bksD xs := by simp [bksD, List.map_reverse, List.sum_reverse]
theorem oddP_bl {m n w : Nat} {b : Bool} : Odd m n w (.bl b) := ⟨⟨rfl, rfl, Nat.zero_le _⟩, Nat.zero_le _⟩
theorem oddP_int {m n w : Nat} {i : Int} (h : i.natAbs ≤ 10 ^ 39 + m) : Odd m n w (.int i) := ⟨⟨rfl, by simp only [leafD, decide_eq_true_eq]; exact h, Nat.zero_le _⟩, Nat.zero_le _⟩
theorem oddP_str {m n w : Nat} {cs : List Nat} (h : ∀ c ∈ cs, c < 128) (hl : cs.length ≤ w) : Odd m n w (.str (strOf cs)) :=
  ⟨⟨rfl, by simp [leafD, strOf]; exact h, Nat.zero_le _⟩, by simp only [bkD, D.pyR, PyData.bulk, strOf, List.size_toArray]; exact hl⟩
theorem oddP_tup {m n w : Nat} {xs : List D} (h : ∀ x ∈ xs, One m n x) (hb : bksD xs ≤ w) : Odd m (n + 1) w (.tup xs) := ⟨one_tup.mpr h, by rw [bk_tup]; exact hb⟩
theorem oddP_lst {m n w : Nat} {xs : List D} (h : ∀ x ∈ xs, One m n x) (hb : bksD xs ≤ w) : Odd m (n + 1) w (.lst xs) := ⟨one_lst.mpr h, by rw [bk_lst]; exact hb⟩
theorem strOf_cps (x : Str) : x = strOf x.cps.toList := by cases x; simp [strOf]
theorem Odd.anyV {m n w : Nat} {x : D} (h : Odd m n w x) (hw : w ≤ 1000) : AnyV x := by
  cases x with
  | non => exact .non
  | bl b => exact .bl b
  | int i => exact .int i
  | tup xs => exact .tup xs
  | lst xs => exact .lst xs
  | dK kds => exact .dK kds
  | str y =>
    rw [strOf_cps y]
    refine .str _ ?_
    have := h.bk
    simp only [bkD, D.pyR, PyData.bulk] at this
    simp only [Array.length_toList]
    omega
  | ty n => cases h.one.pl
  | dT k => cases h.one.pl
  | obj C f => cases h.one.pl
  | rf a => cases h.one.pl
  | scr ns => cases h.one.pl
  | kup xs => cases h.one.lf
theorem Odd.each {m n w : Nat} {xs : List D} (h : Odd m n w (.tup xs)) : ∃ k, n = k + 1 ∧ (∀ x ∈ xs, One m k x) ∧ bksD xs ≤ w := by
  cases n with
  | zero => have := h.one.dp; simp only [D.pyR, PyData.depth] at this; omega
  | succ k => exact ⟨k, rfl, one_tup.mp h.one, by have := h.bk; rw [bk_tup] at this; exact this⟩
theorem leaf_short : ∀ (m : Nat), m ≤ 1000 → ∀ d : D, d.plR = true → leafD m d = true → d.pyR.showable = true ∧ d.pyR.leavesShort 45 = true := by
  intro m hm
  have aux : ∀ k : Nat, (∀ d : D, sizeOf d ≤ k → d.plR = true → leafD m d = true → d.pyR.showable = true ∧ d.pyR.leavesShort 45 = true) ∧ (∀ ds : List D, sizeOf ds ≤ k → D.plsR ds = true → leafsD m ds = true → PyData.showableAll (D.pysR ds) = true ∧ PyData.leavesShortAll 45 (D.pysR ds) = true) := by
    intro k
    induction k with
    | zero =>
      refine ⟨fun d hd => ?_, fun ds hd => ?_⟩
      · cases d <;> simp at hd
      · cases ds <;> simp at hd
    | succ k ih =>
      refine ⟨fun d hd hp hl => ?_, fun ds hd hp hl => ?_⟩
      · cases d with
        | non => exact ⟨rfl, rfl⟩
        | bl b => exact ⟨rfl, rfl⟩
        | int i =>
          have hi : i.natAbs ≤ 10 ^ 39 + m := by simpa [leafD] using hl
          have h40 : i.natAbs < 10 ^ 40 := by
            have : (10 : Nat) ^ 39 + m < 10 ^ 40 := by
              have e : (10 : Nat) ^ 40 = 10 * 10 ^ 39 := by decide
              have e2 : (1000 : Nat) ≤ 10 ^ 39 := by decide
              omega
            omega
          constructor
          · show decide (i.natAbs.log2 < 1920) = true
            rw [decide_eq_true_eq]
            by_cases h0 : i.natAbs = 0
            · rw [h0]; decide
            · have : i.natAbs.log2 < 140 := (Nat.log2_lt h0).mpr (Nat.lt_trans h40 (by decide))
              omega
          · show decide ((PyData.shown (.int i)).length ≤ 45) = true
            rw [decide_eq_true_eq]
            have e := int_text_length_le10 (k := 40) (by decide) h40
            show (Str.ofString (toString i)).length ≤ 45
            rw [PySem.ofString_length]; omega
        | str x =>
          refine ⟨rfl, ?_⟩
          show (x.cps.toList.all fun c => decide (c < 16 ^ 8)) = true
          rw [List.all_eq_true]
          intro c hc
          have : (x.cps.toList.all fun c => decide (c < 128)) = true := hl
          have := List.all_eq_true.mp this c hc
          simp only [decide_eq_true_eq] at this ⊢
          omega
        | tup xs => exact ih.2 xs (by simp at hd; omega) hp hl
        | lst xs => exact ih.2 xs (by simp at hd; omega) hp hl
        | dK kds => exact ⟨rfl, rfl⟩
        | ty n => cases hp
        | dT k => cases hp
        | obj C f => cases hp
        | rf a => cases hp
        | scr ns => cases hp
        | kup xs => cases hl
      · cases ds with
        | nil => exact ⟨rfl, rfl⟩
        | cons x xs =>
          have p' : x.plR = true ∧ D.plsR xs = true := by simpa [D.plsR] using hp
          have l' : leafD m x = true ∧ leafsD m xs = true := by simpa [leafsD] using hl
          have a := ih.1 x (by simp at hd; omega) p'.1 l'.1
          have b := ih.2 xs (by simp at hd; omega) p'.2 l'.2
          constructor
          · show (x.pyR.showable && PyData.showableAll (D.pysR xs)) = true
            rw [a.1, b.1]; rfl
          · show (x.pyR.leavesShort 45 && PyData.leavesShortAll 45 (D.pysR xs)) = true
            rw [a.2, b.2]; rfl
  exact fun d => (aux (sizeOf d)).1 d (Nat.le_refl _)
theorem Odd.repr {m n w : Nat} {d : D} (h : Odd m n w d) (hm : m ≤ 1000) (hn : n ≤ 60) (hw : w ≤ 100000) {G : GH} {Q : DQ} (q : Q (.str d.pyR.shown) G) : rReprG [d] G Q := by
  obtain ⟨h1, h2⟩ := leaf_short m hm d h.one.pl h.one.lf
  refine ⟨h.one.pl, h1, Nat.le_trans h.one.dp hn, ?_, q⟩
  have := PyData.shown_le_bulk 45 (by decide) d.pyR h2
  have hb : d.pyR.bulk ≤ w := h.bk
  have : (45 + 2) * d.pyR.bulk ≤ 47 * 100000 := Nat.mul_le_mul (by omega) (by omega)
  rw [sizeLine_eq]
  omega
def upB (c : Nat) : Bool := match Unicode.upperOf c with | [u] => decide (u < 128) | _ => false
theorem up_all : (List.range 128).all upB = true := by decide +kernel
theorem up_one {c : Nat} (h : c < 128) : ∃ u, u < 128 ∧ Unicode.upperOf c = [u] := by
  have := List.all_eq_true.mp up_all c (List.mem_range.mpr h)
  unfold upB at this
  split at this
  · rename_i u e
    exact ⟨u, by simpa using this, e⟩
  · cases this
theorem up_list : ∀ {cs : List Nat}, (∀ c ∈ cs, c < 128) → (cs.flatMap Unicode.upperOf).length = cs.length ∧ ∀ c ∈ cs.flatMap Unicode.upperOf, c < 128
  | [], _ => by simp
  | c :: cs, h => by
    obtain ⟨h1, h2⟩ := up_list (cs := cs) fun x hx => h x (List.mem_cons_of_mem _ hx)
    obtain ⟨u, hu, e⟩ := up_one (h c List.mem_cons_self)
    rw [List.flatMap_cons, e]
    refine ⟨by simp [h1], fun x hx => ?_⟩
    rcases List.mem_append.mp hx with hx | hx
    · rw [List.mem_singleton.mp hx]; exact hu
    · exact h2 x hx
theorem upper_strOf (cs : List Nat) : Txt.upper (strOf cs) = strOf (cs.flatMap Unicode.upperOf) := by
  have e : ((strOf cs).cps.mapIdx fun _ c => (Unicode.upperOf c).toArray).flatten = (cs.flatMap Unicode.upperOf).toArray := by
    apply Array.ext'
    have e2 : ∀ l : List Nat, (List.map Array.toList (List.mapIdx (fun _ c => (Unicode.upperOf c).toArray) l)).flatten = (List.map Unicode.upperOf l).flatten := by
      intro l
      congr 1
      refine List.ext_getElem? fun i => ?_
      simp only [List.getElem?_map, List.getElem?_mapIdx]
      cases l[i]? <;> rfl
    simp [strOf, List.flatMap, Array.toList_flatten, Function.comp_def, e2]
  show (⟨_⟩ : Str) = _
  unfold strOf at e ⊢
  exact congrArg Str.mk e
theorem oddP_upper {m n w : Nat} {cs : List Nat} (h : ∀ c ∈ cs, c < 128) (hl : cs.length ≤ w) : Odd m n w (.str (Txt.upper (strOf cs))) := by
  rw [upper_strOf]
  exact oddP_str (up_list h).2 (by rw [(up_list h).1]; exact hl)
theorem oddP_toString {m n w : Nat} {i : Int} (h : i.natAbs ≤ 10 ^ 39 + m) (hm : m ≤ 1000) : Odd m n (w + 41) (.str (toString i)) := by
  have h40 : i.natAbs < 10 ^ 40 := by
    have : (10 : Nat) ^ 39 + m < 10 ^ 40 := by
      have e : (10 : Nat) ^ 40 = 10 * 10 ^ 39 := by decide
      have e2 : (1000 : Nat) ≤ 10 ^ 39 := by decide
      omega
    omega
  have e := int_text_length_le10 (k := 40) (by decide) h40
  have e2 : ((toString i : String) : Str) = strOf ((toString i).toList.map Char.toNat) := Str.ofString_eq_toList _
  show Odd m n (w + 41) (.str (Str.ofString (toString i)))
  rw [show Str.ofString (toString i) = strOf ((toString i).toList.map Char.toNat) from e2]
  refine oddP_str (fun c hc => ?_) ?_
  · obtain ⟨x, hx, rfl⟩ := List.mem_map.mp hc
    exact int_ascii i x hx
  · rw [List.length_map, String.length_toList]
    omega
end Pace
end
section
set_option Elab.async false
set_option linter.all false
set_option maxRecDepth 100000
set_option maxHeartbeats 4000000
namespace Pace
open PySem PySem.Spec PyProof.Rows L2 DL
def joinC (c : Nat) : List (List Nat) → List Nat
  | [] => []
  | [x] => x
  | x :: y :: r => x ++ c :: joinC c (y :: r)
theorem join_strOf (c : Nat) : ∀ xs : List (List Nat), Txt.join (strOf [c]) (xs.map strOf) = strOf (joinC c xs) := by
  intro xs
  rw [TL.join_eq]
  induction xs with
  | nil => rfl
  | cons x xs ih =>
    cases xs with
    | nil => rfl
    | cons y r =>
      show strOf x ++ strOf [c] ++ Str.join (strOf [c]) ((y :: r).map strOf) = _
      rw [ih, strOf_app, strOf_app]
      simp [joinC]
theorem joinC_len (c : Nat) : ∀ xs : List (List Nat), (joinC c xs).length ≤ (xs.map fun x => x.length + 1).sum
  | [] => Nat.le_refl _
  | [x] => by simp [joinC]
  | x :: y :: r => by
    have := joinC_len c (y :: r)
    simp only [joinC, List.length_append, List.length_cons, List.map_cons, List.sum_cons] at this ⊢
    omega
def numS (n : Nat) : List Nat := (Nat.toDigits 10 n).map Char.toNat
theorem str_num (n : Nat) : Str.ofString (toString (n : Int)) = strOf (numS n) := by
  rw [Str.ofString_eq_toList]
  have : (toString (n : Int)).toList = Nat.toDigits 10 n := by
    rw [Int.toString_eq_repr, Int.repr_eq_if]
    simp [Nat.toList_repr]
  rw [this]
  rfl
/-- read sign by sign -/
def valS (l : List Nat) : Nat := l.foldl (fun a c => a * 10 + (c - 48)) 0
def numB (n : Nat) : Bool := (numS n).all (fun c => decide (48 ≤ c) && decide (c ≤ 57)) && decide (1 ≤ (numS n).length) && decide ((numS n).length ≤ 3) && decide (valS (numS n) = n) && (decide ((numS n).head? ≠ some 48) || decide (numS n = [48]))
theorem num_all : (List.range 1000).all numB = true := by decide +kernel
structure Num (n : Nat) : Prop where
  dig : ∀ c ∈ numS n, 48 ≤ c ∧ c ≤ 57
  l1 : 1 ≤ (numS n).length
  l3 : (numS n).length ≤ 3
  val : valS (numS n) = n
  head : (numS n).head? ≠ some 48 ∨ numS n = [48]
theorem num_ok {n : Nat} (h : n < 1000) : Num n := by
  have := List.all_eq_true.mp num_all n (List.mem_range.mpr h)
  unfold numB at this
  simp only [Bool.and_eq_true, List.all_eq_true, decide_eq_true_eq, Bool.or_eq_true] at this
  exact ⟨this.1.1.1.1, this.1.1.1.2, this.1.1.2, this.1.2, this.2⟩
def wRules : List Nat := [114, 117, 108, 101, 115]
def wMove : List Nat := [109, 111, 118, 101]
theorem s_rules : Str.ofString "rules" = strOf wRules := by decide +kernel
theorem s_move : Str.ofString "move" = strOf wMove := by decide +kernel
theorem s_blank : Str.ofString " " = strOf [32] := by decide +kernel
theorem s_break : Str.ofString "\n" = strOf [10] := by decide +kernel
def headW (hs ws : List Nat) (n : Nat) : List (List Nat) := [wRules, hs, ws, numS n]
def moveW (x : Nat × Mv) : List (List Nat) := [wMove, numS x.1, [x.2.h], [x.2.c], numS x.2.t]
/-- all moves, one behind the other -/
def flatM (rs : List (List Mv)) : List (Nat × Mv) := (List.range rs.length).flatMap fun s => (rs.getD s []).map fun m => (s, m)
def linesOf (hs ws : List Nat) (rs : List (List Mv)) : List (List Nat) := joinC 32 (headW hs ws rs.length) :: (flatM rs).map fun x => joinC 32 (moveW x)
def textOf (hs ws : List Nat) (rs : List (List Mv)) : List Nat := joinC 10 (linesOf hs ws rs)
/-- rules that can be written -/
structure Wri (hs ws : List Nat) (rs : List (List Mv)) : Prop where
  val : RulV hs ws rs
  few : (flatM rs).length ≤ 5000
theorem flat_mem {rs : List (List Mv)} {x : Nat × Mv} (h : x ∈ flatM rs) : x.1 < rs.length ∧ ∃ r ∈ rs, x.2 ∈ r := by
  obtain ⟨s, hs, hx⟩ := List.mem_flatMap.mp h
  obtain ⟨m, hm, rfl⟩ := List.mem_map.mp hx
  have hs := List.mem_range.mp hs
  refine ⟨hs, rs[s], List.getElem_mem hs, ?_⟩
  rwa [List.getD_eq_getElem?_getD, List.getElem?_eq_getElem hs] at hm
structure MvP (hs ws : List Nat) (n : Nat) (x : Nat × Mv) : Prop where
  s : x.1 < n
  h : x.2.h ∈ hs
  c : x.2.c ∈ ws
  t : x.2.t < n
theorem Wri.mv {hs ws : List Nat} {rs : List (List Mv)} (w : Wri hs ws rs) : ∀ x ∈ flatM rs, MvP hs ws rs.length x := fun x hx => by
  obtain ⟨h1, r, hr, hm⟩ := flat_mem hx
  have := (w.val.row r hr).1
  unfold rowB at this
  simp only [Bool.and_eq_true, List.all_eq_true] at this
  have := this.1 _ hm
  unfold mvB at this
  simp only [Bool.and_eq_true, decide_eq_true_eq] at this
  exact ⟨h1, this.1.1, this.1.2, this.2⟩
theorem move_len {hs ws : List Nat} {n : Nat} {x : Nat × Mv} (hn : n ≤ 999) (hx : MvP hs ws n x) : (joinC 32 (moveW x)).length ≤ 20 := by
  have b1 := hx.s
  have b2 := hx.t
  have := (num_ok (show x.1 < 1000 by omega)).l3
  have := (num_ok (show x.2.t < 1000 by omega)).l3
  have := joinC_len 32 (moveW x)
  simp only [moveW, wMove, List.map_cons, List.map_nil, List.sum_cons, List.sum_nil, List.length_cons, List.length_nil] at this
  simp only [moveW, wMove]
  omega
theorem head_len {hs ws : List Nat} {n : Nat} (h1 : hs.length ≤ 1000) (h2 : ws.length ≤ 1000) (hn : n < 1000) : (joinC 32 (headW hs ws n)).length ≤ 2015 := by
  have := (num_ok hn).l3
  have := joinC_len 32 (headW hs ws n)
  simp only [headW, wRules, List.map_cons, List.map_nil, List.sum_cons, List.sum_nil, List.length_cons, List.length_nil] at this
  simp only [headW, wRules]
  omega
theorem sum_le {α : Type} {B : Nat} (f : α → Nat) : ∀ {l : List α}, (∀ x ∈ l, f x ≤ B) → (l.map f).sum ≤ l.length * B
  | [], _ => by simp
  | x :: l, h => by
    have := sum_le f (l := l) fun y hy => h y (List.mem_cons_of_mem _ hy)
    have := h x List.mem_cons_self
    simp only [List.map_cons, List.sum_cons, List.length_cons, Nat.add_mul]
    omega
theorem lines_sum {hs ws : List Nat} {rs : List (List Mv)} (w : Wri hs ws rs) : ((linesOf hs ws rs).map fun l => l.length + 1).sum ≤ 2016 + 5000 * 21 := by
  have n2 := w.val.n2
  have h1 := head_len w.val.sh w.val.sw (show rs.length < 1000 by omega)
  have h2 : (((flatM rs).map fun x => joinC 32 (moveW x)).map fun l => l.length + 1).sum ≤ (flatM rs).length * 21 := by
    rw [List.map_map]
    refine sum_le _ fun x hx => ?_
    have := move_len n2 (w.mv x hx)
    show (joinC 32 (moveW x)).length + 1 ≤ 21
    omega
  have := w.few
  have h3 : (flatM rs).length * 21 ≤ 5000 * 21 := Nat.mul_le_mul_right _ this
  simp only [linesOf, List.map_cons, List.sum_cons]
  omega
end Pace
end
section
set_option Elab.async false
set_option linter.all false
set_option maxRecDepth 100000
set_option maxHeartbeats 4000000
namespace Pace
open PySem PySem.Spec PyProof.Rows L2 DL
/-- the same rows, each in any order -/
structure RP (B A : Rows) : Prop where
  len : B.length = A.length
  pm : ∀ s, (rowS B s).Perm (rowS A s)
theorem RP.refl (A : Rows) : RP A A := ⟨rfl, fun _ => .refl _⟩
theorem RP.lt {B A : Rows} (h : RP B A) {s : Nat} (hs : s < A.length) : s < B.length := by rw [h.len]; exact hs
theorem mv_key_inj {r : List Mv} (pw : r.Pairwise fun a b => mvLt a b = true) {a b : Mv} (ha : a ∈ r) (hb : b ∈ r) (h : a.h = b.h) (c : a.c = b.c) : a = b := by
  have irr : ∀ x y : Mv, x.h = y.h → x.c = y.c → ¬ mvLt x y = true := fun x y e1 e2 z => by
    unfold mvLt at z
    rw [decide_eq_true_eq] at z
    omega
  induction r with
  | nil => cases ha
  | cons x r ih =>
    rw [List.pairwise_cons] at pw
    rcases List.mem_cons.mp ha with e1 | h1
    · rcases List.mem_cons.mp hb with e2 | h2
      · rw [e1, e2]
      · rw [e1] at h c
        exact absurd (pw.1 b h2) (irr _ _ h c)
    · rcases List.mem_cons.mp hb with e2 | h2
      · rw [e2] at h c
        exact absurd (pw.1 a h1) (irr _ _ h.symm c.symm)
      · exact ih pw.2 h1 h2
end Pace
end
section
set_option Elab.async false
set_option linter.all false
set_option maxRecDepth 100000
set_option maxHeartbeats 4000000
namespace Pace
open PySem PySem.Spec PyProof.Rows L2 DL
abbrev Ky := Nat × Nat
def kyD (k : Ky) : D := .tup [.str (sgn k.1), .str (sgn k.2)]
def kyK (k : Ky) : List Key := [.inr (sgn k.1), .inr (sgn k.2)]
def kLt (a b : Ky) : Bool := decide (a.1 < b.1 ∨ (a.1 = b.1 ∧ a.2 < b.2))
def kM (k : Ky) : Mv := ⟨k.1, k.2, 0⟩
theorem kyK_inj {a b : Ky} (h : kyK a = kyK b) : a = b := by
  unfold kyK at h
  simp only [List.cons.injEq, and_true] at h
  exact Prod.ext (sgn_inj (Sum.inr.inj h.1)) (sgn_inj (Sum.inr.inj h.2))
theorem step1_some {A : Rows} {s : Nat} {k : Ky} : (step1 A s k.1 k.2).isSome = true ↔ k ∈ (rowS A s).map fun m => (m.h, m.c) := by
  show (((rowS A s).find? fun m => m.h == k.1 && m.c == k.2).map (·.t)).isSome = true ↔ _
  rw [Option.isSome_map, List.find?_isSome, List.mem_map]
  simp only [Bool.and_eq_true, beq_iff_eq]
  exact ⟨fun ⟨m, hm, h1, h2⟩ => ⟨m, hm, Prod.ext h1 h2⟩, fun ⟨m, hm, e⟩ => ⟨m, hm, by rw [← e], by rw [← e]⟩⟩
theorem ky_sort {ls : List Ky} (nd : ls.Nodup) : ∃ ks : List Ky, ks.Perm ls ∧ (ks.Pairwise fun a b => kLt a b = true) ∧ sortD (ls.map kyD) = ks.map kyD := by
  have tr : ∀ a b c : Ky, (!kLt b a) = true → (!kLt c b) = true → (!kLt c a) = true := fun a b c h1 h2 => by
    simp only [Bool.not_eq_true', kLt, decide_eq_false_iff_not] at h1 h2 ⊢
    omega
  have tot : ∀ a b : Ky, ((!kLt b a) || (!kLt a b)) = true := fun a b => by
    cases h : kLt b a
    · rfl
    · simp only [kLt, decide_eq_true_eq] at h
      simp only [Bool.not_true, Bool.false_or, Bool.not_eq_true', kLt, decide_eq_false_iff_not]
      omega
  refine ⟨ls.mergeSort fun a b => !kLt b a, List.mergeSort_perm _ _, ?_, ?_⟩
  · have p := List.pairwise_mergeSort tr tot ls
    have n := (List.mergeSort_perm ls fun a b => !kLt b a).nodup_iff.mpr nd
    refine (p.and n).imp fun {a b} h => ?_
    obtain ⟨h1, h2⟩ := h
    simp only [Bool.not_eq_true', kLt, decide_eq_false_iff_not] at h1
    rw [kLt, decide_eq_true_eq]
    have : ¬ (a.1 = b.1 ∧ a.2 = b.2) := fun e => h2 (Prod.ext e.1 e.2)
    omega
  · unfold sortD
    rw [PySem.W.sort_maps (r := fun a b => !kLt b a) (s := D.le) kyD (l := ls) fun a _ b _ => (keyM_le (kM a) (kM b)).symm]
theorem okS_ky (ls : List Ky) : okS (ls.map kyD) = true := by
  have := okS_keys (ls.map kM)
  rw [List.map_map] at this
  exact this
theorem ky_list : ∀ {zs : List (List Key)}, (∀ k ∈ zs, ∃ y, k = kyK y) → ∃ ls : List Ky, zs = ls.map kyK
  | [], _ => ⟨[], rfl⟩
  | k :: zs, h => by
    obtain ⟨y, rfl⟩ := h k (by simp)
    obtain ⟨ls, rfl⟩ := ky_list (zs := zs) fun x hx => h x (by simp [hx])
    exact ⟨y :: ls, rfl⟩
abbrev Trail := (Nat × Nat) × List Ky
structure TrOk (A B : Rows) (L : List Trail) : Prop where
  nd : (L.map (·.1)).Nodup
  zero : ((0, 0), []) ∈ L
  led : ∀ x ∈ L, ledN A 0 x.2 = some x.1.1 ∧ ledN B 0 x.2 = some x.1.2
  cl : ∀ x ∈ L, ∀ (k : Ky) (s t : Nat), step1 A x.1.1 k.1 k.2 = some s → step1 B x.1.2 k.1 k.2 = some t → (s, t) ∈ L.map (·.1)
  ln : ∀ x ∈ L, x.2.length < L.length
/-- as far as the search has come -/
structure TrI (A B : Rows) (L : List Trail) (n : Nat) : Prop where
  nd : (L.map (·.1)).Nodup
  zero : L[0]? = some ((0, 0), [])
  led : ∀ x ∈ L, ledN A 0 x.2 = some x.1.1 ∧ ledN B 0 x.2 = some x.1.2
  cl : ∀ (i : Nat) x, i < n → L[i]? = some x → ∀ (k : Ky) (s t : Nat), step1 A x.1.1 k.1 k.2 = some s → step1 B x.1.2 k.1 k.2 = some t → (s, t) ∈ L.map (·.1)
  le : n ≤ L.length
  ln : ∀ (i : Nat) x, L[i]? = some x → x.2.length ≤ i
theorem TrI.lt {A B : Rows} {L : List Trail} {n : Nat} (h : TrI A B L n) (sa : Steps A) (sb : Steps B) {x : Trail} (hx : x ∈ L) : x.1.1 < A.length ∧ x.1.2 < B.length := by
  obtain ⟨h1, h2⟩ := h.led x hx
  exact ⟨ledN_lt sa.cl.2 sa.cl.1 _ h1, ledN_lt sb.cl.2 sb.cl.1 _ h2⟩
theorem TrI.few {A B : Rows} {L : List Trail} {n : Nat} (h : TrI A B L n) (sa : Steps A) (sb : Steps B) : L.length ≤ A.length * B.length := by
  have := List.Nodup.length_le_of_subset h.nd (l₂ := (List.range A.length).flatMap fun x => (List.range B.length).map fun y => (x, y)) fun p hp => by
    obtain ⟨x, hx, rfl⟩ := List.mem_map.mp hp
    obtain ⟨h1, h2⟩ := h.lt sa sb hx
    exact List.mem_flatMap.mpr ⟨x.1.1, List.mem_range.mpr h1, List.mem_map.mpr ⟨x.1.2, List.mem_range.mpr h2, rfl⟩⟩
  rw [List.length_map, prod_len, List.length_range, List.length_range] at this
  exact this
theorem TrI.done {A B : Rows} {L : List Trail} (h : TrI A B L L.length) : TrOk A B L where
  nd := h.nd
  zero := List.mem_of_getElem? h.zero
  led := h.led
  cl := fun x hx => by
    obtain ⟨i, hi⟩ := List.mem_iff_getElem?.mp hx
    exact h.cl i x (List.getElem?_eq_some_iff.mp hi).1 hi
  ln := fun x hx => by
    obtain ⟨i, hi⟩ := List.mem_iff_getElem?.mp hx
    have := h.ln i x hi
    have := (List.getElem?_eq_some_iff.mp hi).1
    omega
end Pace
end
section
set_option Elab.async false
set_option linter.all false
set_option maxRecDepth 100000
set_option maxHeartbeats 4000000
namespace DL
open PySem PySem.Spec PyProof.Rows L2
/-- the signs of a text, one by one -/
def sgs (x : Str) : List Str := x.cps.toList.map sgn
theorem sgs_len (x : Str) : (sgs x).length = x.cps.size := by simp [sgs]
theorem strs_sgs {x : Str} {acc : Array Value} (h : ItemsOf (SignAt x) acc x.cps.size) : StrsAre acc.toList (sgs x) := by
  have all : ∀ v ∈ acc.toList, ∃ k tk, v = Value.str k tk := fun v hv => by
    obtain ⟨j, hj⟩ := List.mem_iff_getElem?.mp hv
    obtain ⟨c, u, _, rfl⟩ := h.2 j v (by rw [← Array.getElem?_toList]; exact hj)
    exact ⟨_, _, rfl⟩
  have s := strs_of acc.toList all
  have e : (acc.toList.map fun v => tkey (0, v)) = sgs x := by
    refine List.ext_getElem? fun j => ?_
    unfold sgs
    rw [List.getElem?_map, List.getElem?_map, Array.getElem?_toList, Array.getElem?_toList]
    cases ev : acc[j]? with
    | some v =>
      obtain ⟨c, u, hc, rfl⟩ := h.2 j v ev
      rw [hc]
      rfl
    | none =>
      have hj : ¬ j < acc.size := fun z => by rw [Array.getElem?_eq_getElem z] at ev; cases ev
      rw [Array.getElem?_eq_none (by have := h.1; omega)]
      rfl
  rw [e] at s
  exact s
end DL
end
section
set_option Elab.async false
set_option linter.all false
set_option maxRecDepth 100000
set_option maxHeartbeats 4000000
namespace Pace
open PySem PySem.Spec PyProof.Rows L2 DL
theorem keys_nd {r : List Mv} (pw : r.Pairwise fun a b => mvLt a b = true) : (r.map fun m => (m.h, m.c)).Nodup := by
  refine List.pairwise_map.mpr (pw.imp fun {a b} h e => ?_)
  unfold mvLt at h
  rw [decide_eq_true_eq] at h
  have e1 := congrArg Prod.fst e
  have e2 := congrArg Prod.snd e
  simp only at e1 e2
  omega
/-- a move, by its letters -/
theorem step1_iff {A : Rows} (st : Steps A) {s h c t : Nat} : step1 A s h c = some t ↔ ⟨h, c, t⟩ ∈ rowS A s := by
  show ((rowS A s).find? fun m => m.h == h && m.c == c).map (·.t) = some t ↔ _
  have pw := (st.row s).1
  constructor
  · intro e
    obtain ⟨m, hm, rfl⟩ := Option.map_eq_some_iff.mp e
    have h1 := List.find?_some hm
    have h2 := List.mem_of_find?_eq_some hm
    simp only [Bool.and_eq_true, beq_iff_eq] at h1
    obtain ⟨rfl, rfl⟩ := h1
    exact h2
  · intro hm
    cases e : (rowS A s).find? fun m => m.h == h && m.c == c with
    | none =>
      have := List.find?_eq_none.mp e _ hm
      simp at this
    | some m =>
      have h1 := List.find?_some e
      have h2 := List.mem_of_find?_eq_some e
      simp only [Bool.and_eq_true, beq_iff_eq] at h1
      have := mv_key_inj pw h2 hm h1.1 h1.2
      subst this
      rfl
/-- words, letter by letter -/
theorem ledN_step {A : Rows} {s : Nat} (k : Ky) (w : List Ky) : ledN A s (k :: w) = (step1 A s k.1 k.2).bind fun x => ledN A x w := by
  show List.foldl _ ((some s).bind fun s => step1 A s k.1 k.2) w = _
  rw [Option.bind_some]
  cases step1 A s k.1 k.2 with
  | none => exact foldl_none w
  | some x => rfl
end Pace
end
section
set_option Elab.async false
set_option linter.all false
set_option maxRecDepth 100000
set_option maxHeartbeats 4000000
namespace Pace
open PySem PySem.Spec PyProof.Rows L2 DL
theorem like_keys {R : Nat → Nat → Prop} : ∀ {r q : List Mv}, r.map (fun m => (m.h, m.c)) = q.map (fun m => (m.h, m.c)) → (∀ m ∈ r, ∀ m' ∈ q, m.h = m'.h → m.c = m'.c → R m.t m'.t) → Like R r q
  | [], [], _, _ => .nil
  | [], _ :: _, e, _ => by cases e
  | _ :: _, [], e, _ => by cases e
  | m :: r, m' :: q, e, h => by
    rw [List.map_cons, List.map_cons] at e
    injection e with e1 e2
    injection e1 with a b
    exact .cons a b (h m (by simp) m' (by simp) a b) (like_keys e2 fun x hx y hy => h x (by simp [hx]) y (by simp [hy]))
theorem bis_words {A B : Rows} (sa : Steps A) (sb : Steps B) {s t : Nat} (h : ∀ w : List Ky, (ledN A s w).isSome = (ledN B t w).isSome) : bis A s B t := by
  refine bis_of (R := fun s t => ∀ w : List Ky, (ledN A s w).isSome = (ledN B t w).isSome) (fun s t h => ?_) h
  have one : ∀ k : Ky, (step1 A s k.1 k.2).isSome = (step1 B t k.1 k.2).isSome := fun k => by
    have := h [k]
    rw [ledN_step, ledN_step] at this
    have e : ∀ o : Option Nat, ∀ C : Rows, (o.bind fun x => ledN C x []).isSome = o.isSome := fun o C => by cases o <;> rfl
    rw [e, e] at this
    exact this
  have pa := (sa.row s).1
  have pb := (sb.row t).1
  have kk : ∀ k : Ky, k ∈ (rowS A s).map (fun m => (m.h, m.c)) ↔ k ∈ (rowS B t).map (fun m => (m.h, m.c)) := fun k => by
    rw [← step1_some, ← step1_some, one k]
  have lt : ∀ {r : List Mv}, (r.Pairwise fun a b => mvLt a b = true) → (r.map fun m => (m.h, m.c)).Pairwise fun a b => kLt a b = true := fun {r} p => List.pairwise_map.mpr (p.imp fun h => h)
  have ke : (rowS A s).map (fun m => (m.h, m.c)) = (rowS B t).map (fun m => (m.h, m.c)) := by
    refine List.Perm.eq_of_pairwise (le := fun a b => kLt a b = true) (fun a b _ _ h1 h2 => ?_) (lt pa) (lt pb) ((List.perm_ext_iff_of_nodup (keys_nd pa) (keys_nd pb)).mpr kk)
    unfold kLt at h1 h2
    rw [decide_eq_true_eq] at h1 h2
    omega
  refine like_keys ke fun m hm m' hm' e1 e2 w => ?_
  have := h ((m.h, m.c) :: w)
  rw [ledN_step, ledN_step] at this
  have s1 : step1 A s m.h m.c = some m.t := (step1_iff sa).mpr hm
  have s2 : step1 B t m.h m.c = some m'.t := by rw [e1, e2]; exact (step1_iff sb).mpr hm'
  simp only [s1, s2, Option.bind_some] at this
  exact this
end Pace
end
section
set_option Elab.async false
set_option linter.all false
set_option maxRecDepth 100000
set_option maxHeartbeats 4000000
namespace DL
open PySem PySem.Spec PyProof.Rows L2
end DL
end
section
set_option Elab.async false
set_option linter.all false
set_option maxRecDepth 100000
set_option maxHeartbeats 4000000
namespace Pace
open PySem PySem.Spec PyProof.Rows L2 DL
theorem isN_f {α : Type} {o : Option α} : o.isNone = false ↔ o.isSome = true := by cases o <;> simp
theorem isN_n {α : Type} {o : Option α} : (¬ o.isNone = true) ↔ o.isSome = true := by cases o <;> simp
def ledS (A : Rows) (ss : List Nat) (k : Ky) : List Nat := nsort (firstsF (ss.flatMap fun s => ((rowS A s).filter fun m => m.h == k.1 && m.c == k.2).map (·.t)))
theorem ledS_mem {A : Rows} (st : Steps A) {ss : List Nat} {k : Ky} {t : Nat} : t ∈ ledS A ss k ↔ ∃ s ∈ ss, step1 A s k.1 k.2 = some t := by
  unfold ledS
  rw [(nsort_perm _).mem_iff, firstsF_mem, List.mem_flatMap]
  constructor
  · rintro ⟨s, hs, h⟩
    obtain ⟨m, hm, rfl⟩ := List.mem_map.mp h
    rw [List.mem_filter] at hm
    obtain ⟨h1, h2⟩ := hm
    simp only [Bool.and_eq_true, beq_iff_eq] at h2
    refine ⟨s, hs, (step1_iff st).mpr ?_⟩
    rw [← h2.1, ← h2.2]
    exact h1
  · rintro ⟨s, hs, h⟩
    exact ⟨s, hs, List.mem_map.mpr ⟨_, List.mem_filter.mpr ⟨(step1_iff st).mp h, by simp⟩, rfl⟩⟩
def ledW (A : Rows) (ss : List Nat) (w : List Ky) : List Nat := w.foldl (ledS A) ss
theorem ledW_snoc (A : Rows) (ss : List Nat) (w : List Ky) (k : Ky) : ledW A ss (w ++ [k]) = ledS A (ledW A ss w) k := by simp [ledW]
theorem ledW_mem {A : Rows} (st : Steps A) {ss : List Nat} (w : List Ky) : ∀ {t : Nat}, t ∈ ledW A ss w ↔ ∃ s ∈ ss, ledN A s w = some t := by
  induction w using snoc_ind with
  | nil => intro t; simp [ledW, ledN]
  | snoc w k ih =>
    intro t
    rw [ledW_snoc, ledS_mem st]
    constructor
    · rintro ⟨u, hu, h⟩
      obtain ⟨s, hs, h2⟩ := ih.mp hu
      exact ⟨s, hs, by rw [ledN_snoc, h2]; exact h⟩
    · rintro ⟨s, hs, h⟩
      rw [ledN_snoc] at h
      obtain ⟨u, hu, h⟩ := Option.bind_eq_some_iff.mp h
      exact ⟨u, ih.mpr ⟨s, hs, hu⟩, h⟩
theorem ledW_nil {A : Rows} (st : Steps A) {ss : List Nat} (w : List Ky) : ledW A ss w = [] ↔ ∀ s ∈ ss, ledN A s w = none := by
  rw [List.eq_nil_iff_forall_not_mem]
  constructor
  · intro h s hs
    cases e : ledN A s w with
    | none => rfl
    | some t => exact absurd ((ledW_mem st w).mpr ⟨s, hs, e⟩) (h t)
  · intro h t ht
    obtain ⟨s, hs, e⟩ := (ledW_mem st w).mp ht
    rw [h s hs] at e
    cases e
inductive Reach (A : Rows) : Nat → Prop
  | one {m : Mv} : m ∈ rowS A 0 → Reach A m.t
  | more {s : Nat} {m : Mv} : Reach A s → m ∈ rowS A s → Reach A m.t
structure Inn (A : Rows) (l : List Nat) : Prop where
  so : l.Pairwise (· < ·)
  mem : ∀ t, t ∈ l ↔ Reach A t
theorem Reach.lt {A : Rows} (st : Steps A) {t : Nat} (h : Reach A t) : t < A.length := by
  cases h with
  | one h => exact st.cl.t h
  | more _ h => exact st.cl.t h
theorem Inn.lt {A : Rows} (st : Steps A) {l : List Nat} (h : Inn A l) : ∀ t ∈ l, t < A.length := fun t ht => ((h.mem t).mp ht).lt st
theorem Inn.nd {A : Rows} {l : List Nat} (h : Inn A l) : l.Nodup := h.so.imp fun h => by omega
/-- the window that ends at k is not led -/
def bad (A : Rows) (inn : List Nat) (n : Nat) (ps : List Ky) (k : Nat) : Bool :=
  if k ≤ n then (ledN A 0 (ps.take k)).isNone else inn.all fun s => (ledN A s ((ps.take k).drop (k - n))).isNone
theorem bad_zero {A : Rows} {inn : List Nat} {n : Nat} {ps : List Ky} : bad A inn n ps 0 = false := by simp [bad, ledN]
end Pace
end
section
set_option Elab.async false
set_option linter.all false
set_option maxRecDepth 100000
set_option maxHeartbeats 4000000
namespace DL
open PySem PySem.Spec PyProof.Rows L2
end DL
end
section
set_option Elab.async false
set_option linter.all false
set_option maxRecDepth 100000
set_option maxHeartbeats 4000000
namespace Pace
open PySem PySem.Spec PyProof.Rows L2 DL
structure GoOk (hs ws : List Nat) (n : Nat) (lot : Lot) : Prop where
  ok : LotOk n hs ws lot
  lh : lettersB hs = true
  lw : lettersB ws = true
  h3 : hs.length ≤ 3
  w3 : ws.length ≤ 3
  n1 : 1 ≤ n
  n6 : n ≤ 6
theorem GoOk.v {hs ws : List Nat} {n : Nat} {lot : Lot} (g : GoOk hs ws n lot) : RulV hs ws (rowsOf lot n) where
  lh := g.lh
  lw := g.lw
  sh := by have := g.h3; omega
  sw := by have := g.w3; omega
  n1 := by rw [rowsOf_len]; exact g.n1
  n2 := by have := g.n6; rw [rowsOf_len]; omega
  row := fun r hr => by
    obtain ⟨s, _, rfl⟩ := List.mem_map.mp hr
    have h6 := row_few g.ok s
    have h7 : hs.length * ws.length ≤ 3 * 3 := Nat.mul_le_mul g.h3 g.w3
    refine ⟨?_, by omega⟩
    rw [rowsOf_len]
    unfold rowB
    rw [Bool.and_eq_true, List.all_eq_true]
    refine ⟨fun m hm => ?_, nbr_of_pair (rowOf_lt g.ok.nd s)⟩
    obtain ⟨_, a, b, c⟩ := g.ok.at_ _ (rowOf_mem.mp hm)
    unfold mvB
    simp [a, b, c]
theorem GoOk.st {hs ws : List Nat} {n : Nat} {lot : Lot} (g : GoOk hs ws n lot) : Steps (rowsOf lot n) := g.v.steps
theorem GoOk.few {hs ws : List Nat} {n : Nat} {lot : Lot} (g : GoOk hs ws n lot) : lot.length ≤ 54 := by
  have h9 := lot_few g.ok
  have h7 : hs.length * ws.length ≤ 3 * 3 := Nat.mul_le_mul g.h3 g.w3
  have h8 : n * (hs.length * ws.length) ≤ 6 * (3 * 3) := Nat.mul_le_mul g.n6 h7
  omega
def knSets (A : Rows) (inn : List Nat) (n : Nat) (ps : List Ky) : List (List Nat) := (List.range (min ps.length (n - 1))).map fun j => ledW A inn (ps.drop (ps.length - (j + 1)))
def knLots (A : Rows) (inn : List Nat) (n : Nat) (ps : List Ky) : List (List Nat) := (List.range (min ps.length (n - 1) + 1)).map fun j => ledW A inn (ps.drop (ps.length - j))
theorem knLots_eq (A : Rows) (inn : List Nat) (n : Nat) (ps : List Ky) : inn :: knSets A inn n ps = knLots A inn n ps := by
  unfold knLots knSets
  rw [List.range_succ_eq_map, List.map_cons, List.map_map]
  congr 1
  simp [ledW]
theorem knLots_led (A : Rows) (inn : List Nat) (n : Nat) (ps : List Ky) (k : Ky) : ((knLots A inn n ps).map fun l => ledS A l k) = (List.range (min ps.length (n - 1) + 1)).map fun j => ledW A inn ((ps ++ [k]).drop (ps.length - j)) := by
  unfold knLots
  rw [List.map_map]
  refine List.map_congr_left fun j _ => ?_
  simp only [Function.comp]
  rw [← ledW_snoc, List.drop_append_of_le_length (by omega)]
theorem knLots_next {A : Rows} {inn : List Nat} {n : Nat} (ps : List Ky) (k : Ky) : ((knLots A inn n ps).map fun l => ledS A l k).take (n - 1) = knSets A inn n (ps ++ [k]) := by
  rw [knLots_led, ← List.map_take, List.take_range]
  unfold knSets
  have e : min (n - 1) (min ps.length (n - 1) + 1) = min (ps ++ [k]).length (n - 1) := by simp; omega
  rw [e]
  refine List.map_congr_left fun j _ => ?_
  have : (ps ++ [k]).length - (j + 1) = ps.length - j := by simp
  rw [this]
theorem knLots_last {A : Rows} {inn : List Nat} {n : Nat} (hn : 1 ≤ n) (ps : List Ky) (k : Ky) (h : n ≤ ps.length) : ((knLots A inn n ps).map fun l => ledS A l k)[(knLots A inn n ps).length - 1]? = some (ledW A inn ((ps ++ [k]).drop (ps.length + 1 - n))) := by
  have el : (knLots A inn n ps).length - 1 = n - 1 := by unfold knLots; simp; omega
  rw [el, knLots_led, List.getElem?_map, List.getElem?_range (by omega)]
  have : ps.length - (n - 1) = ps.length + 1 - n := by omega
  simp only [Option.map_some, this]
end Pace
end
section
set_option Elab.async false
set_option linter.all false
set_option maxRecDepth 100000
set_option maxHeartbeats 4000000
namespace Pace
open PySem PySem.Spec PyProof.Rows L2 DL
theorem cut_mid {α : Type} (xs : List α) (a b : Nat) : DL.cutD xs (some (a : Int)) (some (b : Int)) = (xs.take b).drop a := by
  unfold DL.cutD
  rw [HT.sIx_nat, HT.sIx_nat, List.drop_take]
  by_cases h : a ≤ xs.length
  · rw [Nat.min_eq_left h]
    by_cases h2 : b ≤ xs.length
    · rw [Nat.min_eq_left h2]
    · rw [Nat.min_eq_right (by omega), List.take_of_length_le (by simp), List.take_of_length_le (by simp; omega)]
  · have e1 : min a xs.length = xs.length := Nat.min_eq_right (by omega)
    rw [e1, List.drop_of_length_le (l := xs) (i := a) (by omega), List.drop_of_length_le (l := xs) (i := xs.length) (Nat.le_refl _)]
    simp
theorem bad_pre {A : Rows} {inn : List Nat} {n k : Nat} {ps : List Ky} (h : k ≤ n) : bad A inn n ps k = (ledN A 0 (ps.take k)).isNone := by
  unfold bad
  rw [if_pos h]
end Pace
end
section
set_option Elab.async false
set_option linter.all false
set_option maxRecDepth 100000
set_option maxHeartbeats 4000000
namespace Pace
open PySem PySem.Spec PyProof.Rows L2 DL
structure KS where
  many : Nat
  st : Option Nat
  sets : List (List Nat)
  deriving DecidableEq
def ksOf (A : Rows) (inn : List Nat) (n : Nat) (ps : List Ky) : KS := ⟨min ps.length n, if ps.length < n then ledN A 0 ps else none, knSets A inn n ps⟩
/-- no window has been bad -/
def okW (A : Rows) (inn : List Nat) (n : Nat) (w : List Ky) : Prop := ∀ j, j ≤ w.length → bad A inn n w j = false
theorem bad_cut {A : Rows} {inn : List Nat} {n j : Nat} {w v : List Ky} (h : j ≤ w.length) : bad A inn n (w ++ v) j = bad A inn n w j := by
  unfold bad
  rw [List.take_append_of_le_length h]
theorem okW_snoc {A : Rows} {inn : List Nat} {n : Nat} {w : List Ky} {k : Ky} : okW A inn n (w ++ [k]) ↔ okW A inn n w ∧ bad A inn n (w ++ [k]) (w.length + 1) = false := by
  constructor
  · intro h
    exact ⟨fun j hj => by rw [← bad_cut (v := [k]) hj]; exact h j (by simp; omega), h _ (by simp)⟩
  · rintro ⟨h1, h2⟩ j hj
    simp only [List.length_append, List.length_cons, List.length_nil] at hj
    by_cases e : j ≤ w.length
    · rw [bad_cut e]; exact h1 j e
    · have : j = w.length + 1 := by omega
      rw [this]; exact h2
theorem okW_nil {A : Rows} {inn : List Nat} {n : Nat} : okW A inn n [] := fun j hj => by rw [Nat.le_zero.mp hj]; exact bad_zero
def nextK (A : Rows) (inn : List Nat) (n : Nat) (x : KS) (k : Ky) : Option KS :=
  if x.many < n then (x.st.bind fun s => step1 A s k.1 k.2).map fun t => ⟨x.many + 1, if x.many + 1 < n then some t else none, ((inn :: x.sets).map fun l => ledS A l k).take (n - 1)⟩
  else if (((inn :: x.sets).map fun l => ledS A l k)[(inn :: x.sets).length - 1]?).getD [] = [] then none else some ⟨x.many, none, ((inn :: x.sets).map fun l => ledS A l k).take (n - 1)⟩
theorem next_eq {A : Rows} (st : Steps A) {inn : List Nat} {n : Nat} (hn : 1 ≤ n) {w : List Ky} (k : Ky) (hw : okW A inn n w) : nextK A inn n (ksOf A inn n w) k = if bad A inn n (w ++ [k]) (w.length + 1) = true then none else some (ksOf A inn n (w ++ [k])) := by
  have epl : (w ++ [k]).take (w.length + 1) = w ++ [k] := List.take_of_length_le (by simp)
  have es : inn :: (ksOf A inn n w).sets = knLots A inn n w := knLots_eq A inn n w
  unfold nextK
  rw [es, knLots_next]
  have el : (w ++ [k]).length = w.length + 1 := by simp
  by_cases h : w.length < n
  · have em : (ksOf A inn n w).many = w.length := by show min _ _ = _; omega
    have e2 : (ksOf A inn n w).st = ledN A 0 w := by show (if _ then _ else _) = _; rw [if_pos h]
    have eb : bad A inn n (w ++ [k]) (w.length + 1) = (ledN A 0 (w ++ [k])).isNone := by rw [bad_pre (by omega), epl]
    rw [em, if_pos h, e2, eb, ledN_snoc]
    cases e : (ledN A 0 w).bind fun s => step1 A s k.1 k.2 with
    | none => rfl
    | some t =>
      rw [if_neg (by simp)]
      simp only [Option.map_some, Option.some.injEq]
      unfold ksOf
      rw [el, ledN_snoc, e]
      have : min (w.length + 1) n = w.length + 1 := by omega
      rw [this]
  · have em : (ksOf A inn n w).many = n := by show min _ _ = _; omega
    rw [em, if_neg (by omega), knLots_last hn w k (by omega)]
    have eb : bad A inn n (w ++ [k]) (w.length + 1) = decide (ledW A inn ((w ++ [k]).drop (w.length + 1 - n)) = []) := by
      unfold bad
      rw [if_neg (by omega), epl, Bool.eq_iff_iff, List.all_eq_true, decide_eq_true_eq, ledW_nil st]
      simp only [Option.isNone_iff_eq_none]
    rw [eb]
    simp only [Option.getD_some, decide_eq_true_eq]
    split
    · rfl
    · unfold ksOf
      rw [el]
      have : min (w.length + 1) n = n := by omega
      rw [this, if_neg (by omega)]
theorem next_some {A : Rows} (st : Steps A) {inn : List Nat} {n : Nat} (hn : 1 ≤ n) {w v : List Ky} (k : Ky) (hw : okW A inn n w) (hv : okW A inn n v) (e : ksOf A inn n w = ksOf A inn n v) : (okW A inn n (w ++ [k]) ↔ okW A inn n (v ++ [k])) ∧ (okW A inn n (w ++ [k]) → ksOf A inn n (w ++ [k]) = ksOf A inn n (v ++ [k])) := by
  have h1 := next_eq st hn k hw
  have h2 := next_eq st hn k hv
  rw [e, h2] at h1
  rw [okW_snoc, okW_snoc]
  generalize bad A inn n (w ++ [k]) (w.length + 1) = bw at h1 ⊢
  generalize bad A inn n (v ++ [k]) (v.length + 1) = bv at h1 ⊢
  cases bw with
  | true =>
    cases bv with
    | true => exact ⟨⟨fun z => (nomatch z.2), fun z => (nomatch z.2)⟩, fun z => nomatch z.2⟩
    | false => simp at h1
  | false =>
    cases bv with
    | true => simp at h1
    | false =>
      simp only [Bool.false_eq_true, if_false, Option.some.injEq] at h1
      exact ⟨⟨fun z => ⟨hv, rfl⟩, fun z => ⟨hw, rfl⟩⟩, fun _ => h1.symm⟩
def wordsN (K : List Ky) : Nat → List (List Ky)
  | 0 => [[]]
  | m + 1 => (wordsN K m).flatMap fun w => K.map fun k => k :: w
theorem wordsN_mem {K : List Ky} : ∀ {m : Nat} {w : List Ky}, w.length = m → (∀ k ∈ w, k ∈ K) → w ∈ wordsN K m
  | 0, w, h, _ => by
    have : w = [] := List.length_eq_zero_iff.mp h
    subst this
    simp [wordsN]
  | m + 1, [], h, _ => by simp at h
  | m + 1, k :: w, h, hk => by
    unfold wordsN
    refine List.mem_flatMap.mpr ⟨w, wordsN_mem (by simpa using h) fun x hx => hk x (by simp [hx]), List.mem_map.mpr ⟨k, hk k (by simp), rfl⟩⟩
theorem wordsN_len (K : List Ky) : ∀ m, (wordsN K m).length = K.length ^ m
  | 0 => rfl
  | m + 1 => by
    have ih := wordsN_len K m
    unfold wordsN
    rw [List.length_flatMap]
    simp only [List.length_map]
    have : ∀ l : List (List Ky), (l.map fun _ => K.length).sum = l.length * K.length := fun l => by
      induction l with
      | nil => simp
      | cons a l ih => rw [List.map_cons, List.sum_cons, ih, List.length_cons, Nat.add_mul]; omega
    rw [this, ih, Nat.pow_succ]
/-- what a state is told by -/
def canon (n : Nat) (w : List Ky) : Bool × List Ky := if w.length < n then (false, w) else (true, w.drop (w.length - (n - 1)))
theorem canon_ks {A : Rows} {inn : List Nat} {n : Nat} (hn : 1 ≤ n) {v w : List Ky} (h : canon n v = canon n w) : ksOf A inn n v = ksOf A inn n w := by
  unfold canon at h
  by_cases h1 : v.length < n
  · rw [if_pos h1] at h
    by_cases h2 : w.length < n
    · rw [if_pos h2] at h
      have : v = w := (Prod.mk.inj h).2
      rw [this]
    · rw [if_neg h2] at h
      exact absurd (Prod.mk.inj h).1 (by simp)
  · rw [if_neg h1] at h
    by_cases h2 : w.length < n
    · rw [if_pos h2] at h
      exact absurd (Prod.mk.inj h).1 (by simp)
    · rw [if_neg h2] at h
      have e := (Prod.mk.inj h).2
      unfold ksOf
      have m1 : min v.length n = n := by omega
      have m2 : min w.length n = n := by omega
      rw [m1, m2, if_neg h1, if_neg h2]
      congr 1
      unfold knSets
      have r1 : min v.length (n - 1) = n - 1 := by omega
      have r2 : min w.length (n - 1) = n - 1 := by omega
      rw [r1, r2]
      refine List.map_congr_left fun j hj => ?_
      have hj := List.mem_range.mp hj
      have dd : ∀ u : List Ky, ¬ u.length < n → u.drop (u.length - (j + 1)) = (u.drop (u.length - (n - 1))).drop (n - 1 - (j + 1)) := fun u hu => by
        rw [List.drop_drop]
        congr 1
        omega
      rw [dd v h1, dd w h2, e]
def many (m n : Nat) : Nat := ((List.range n).map fun k => m ^ k).sum + m ^ (n - 1)
theorem few_states {A : Rows} {inn : List Nat} {n : Nat} (hn : 1 ≤ n) {K : List Ky} {ws : List (List Ky)} (hk : ∀ w ∈ ws, ∀ k ∈ w, k ∈ K) (nd : (ws.map (ksOf A inn n)).Nodup) : ws.length ≤ many K.length n := by
  have nd2 : (ws.map (canon n)).Nodup := by
    rw [List.nodup_iff_pairwise_ne, List.pairwise_map] at nd ⊢
    exact nd.imp fun h e => h (canon_ks hn e)
  have sub := List.Nodup.length_le_of_subset nd2 (l₂ := (((List.range n).flatMap (wordsN K)).map fun w => (false, w)) ++ (wordsN K (n - 1)).map fun w => (true, w)) fun p hp => by
    obtain ⟨w, hw, rfl⟩ := List.mem_map.mp hp
    unfold canon
    by_cases h : w.length < n
    · rw [if_pos h]
      exact List.mem_append_left _ (List.mem_map.mpr ⟨w, List.mem_flatMap.mpr ⟨w.length, List.mem_range.mpr h, wordsN_mem rfl (hk w hw)⟩, rfl⟩)
    · rw [if_neg h]
      refine List.mem_append_right _ (List.mem_map.mpr ⟨_, wordsN_mem (by simp; omega) fun k hk' => hk w hw k (List.mem_of_mem_drop hk'), rfl⟩)
  rw [List.length_map, List.length_append, List.length_map, List.length_map, wordsN_len, List.length_flatMap] at sub
  unfold many
  have e : ((List.range n).map fun k => (wordsN K k).length) = (List.range n).map fun k => K.length ^ k := List.map_congr_left fun k _ => wordsN_len K k
  rw [e] at sub
  exact sub
end Pace
end
section
set_option Elab.async false
set_option linter.all false
set_option maxRecDepth 100000
set_option maxHeartbeats 4000000
namespace Pace
open PySem PySem.Spec PyProof.Rows L2 DL
def keysL (hs ws : List Nat) : List Ky := hs.flatMap fun h => ws.map fun c => (h, c)
theorem keysL_mem {hs ws : List Nat} {k : Ky} : k ∈ keysL hs ws ↔ k.1 ∈ hs ∧ k.2 ∈ ws := by
  unfold keysL
  rw [List.mem_flatMap]
  constructor
  · rintro ⟨h, hh, hk⟩
    obtain ⟨c, hc, rfl⟩ := List.mem_map.mp hk
    exact ⟨hh, hc⟩
  · rintro ⟨h1, h2⟩
    exact ⟨k.1, h1, List.mem_map.mpr ⟨k.2, h2, rfl⟩⟩
theorem keysL_len (hs ws : List Nat) : (keysL hs ws).length = hs.length * ws.length := by
  unfold keysL
  induction hs with
  | nil => simp
  | cons a hs ih => rw [List.flatMap_cons, List.length_append, ih, List.length_map, List.length_cons, Nat.add_mul]; omega
def kyLt (a b : Ky) : Prop := a.1 < b.1 ∨ (a.1 = b.1 ∧ a.2 < b.2)
theorem keysL_lt {hs ws : List Nat} (lh : hs.Pairwise (· < ·)) (lw : ws.Pairwise (· < ·)) : (keysL hs ws).Pairwise kyLt := by
  unfold keysL
  induction hs with
  | nil => simp
  | cons a hs ih =>
    rw [List.pairwise_cons] at lh
    rw [List.flatMap_cons, List.pairwise_append]
    refine ⟨?_, ih lh.2, fun x hx y hy => ?_⟩
    · rw [List.pairwise_map]
      exact lw.imp fun h => .inr ⟨rfl, h⟩
    · obtain ⟨c, _, rfl⟩ := List.mem_map.mp hx
      obtain ⟨h, hh, hy⟩ := List.mem_flatMap.mp hy
      obtain ⟨d, _, rfl⟩ := List.mem_map.mp hy
      exact .inl (lh.1 h hh)
def mkey (m : Mv) : Ky := (m.h, m.c)
theorem row_sub {hs ws : List Nat} (lh : hs.Pairwise (· < ·)) (lw : ws.Pairwise (· < ·)) {r : List Mv} (h : (r.map mkey).Sublist (keysL hs ws)) : r.Pairwise fun a b => mvLt a b = true := by
  have := (keysL_lt lh lw).sublist h
  rw [List.pairwise_map] at this
  refine this.imp fun {a b} h => ?_
  unfold mvLt
  rw [decide_eq_true_eq]
  unfold kyLt mkey at h
  simp only at h
  omega
/-- a state that stands there -/
def At (A : Rows) (inn : List Nat) (n : Nat) (ws : List (List Ky)) (t : Nat) (w : List Ky) : Prop := ∃ w', ws[t]? = some w' ∧ ksOf A inn n w' = ksOf A inn n w
structure RowAt (A : Rows) (inn : List Nat) (n : Nat) (ws : List (List Ky)) (K : List Ky) (w : List Ky) (r : List Mv) : Prop where
  sub : (r.map mkey).Sublist K
  at_ : ∀ m ∈ r, okW A inn n (w ++ [mkey m]) ∧ At A inn n ws m.t (w ++ [mkey m])
  all : ∀ k ∈ K, okW A inn n (w ++ [k]) → ∃ m ∈ r, mkey m = k
structure Sts (A : Rows) (inn : List Nat) (n : Nat) (K : List Ky) (ws : List (List Ky)) : Prop where
  zero : ws[0]? = some []
  ok : ∀ w ∈ ws, okW A inn n w
  nd : (ws.map (ksOf A inn n)).Nodup
  ky : ∀ w ∈ ws, ∀ k ∈ w, k ∈ K
theorem At.grow {A : Rows} {inn : List Nat} {n : Nat} {ws : List (List Ky)} {t : Nat} {w : List Ky} (h : At A inn n ws t w) (ext : List (List Ky)) : At A inn n (ws ++ ext) t w := by
  obtain ⟨w', h1, h2⟩ := h
  exact ⟨w', by rw [List.getElem?_append_left (List.getElem?_eq_some_iff.mp h1).1]; exact h1, h2⟩
theorem At.lt {A : Rows} {inn : List Nat} {n : Nat} {ws : List (List Ky)} {t : Nat} {w : List Ky} (h : At A inn n ws t w) : t < ws.length := by
  obtain ⟨w', h1, _⟩ := h
  exact (List.getElem?_eq_some_iff.mp h1).1
theorem RowAt.grow {A : Rows} {inn : List Nat} {n : Nat} {ws : List (List Ky)} {K : List Ky} {w : List Ky} {r : List Mv} (h : RowAt A inn n ws K w r) (ext : List (List Ky)) : RowAt A inn n (ws ++ ext) K w r :=
  ⟨h.sub, fun m hm => ⟨(h.at_ m hm).1, (h.at_ m hm).2.grow ext⟩, h.all⟩
/-- the whole -/
structure Aut (A : Rows) (inn : List Nat) (n : Nat) (hs ws : List Nat) (L : List (List Ky)) (rs : Rows) : Prop where
  sts : Sts A inn n (keysL hs ws) L
  len : rs.length = L.length
  row : ∀ (j : Nat) (r : List Mv) (w : List Ky), rs[j]? = some r → L[j]? = some w → RowAt A inn n L (keysL hs ws) w r
theorem Aut.val {A : Rows} {inn : List Nat} {n : Nat} {hs ws : List Nat} {L : List (List Ky)} {rs : Rows} (a : Aut A inn n hs ws L rs) (lh : lettersB hs = true) (lw : lettersB ws = true) (h3 : hs.length ≤ 3) (w3 : ws.length ≤ 3) (l9 : L.length ≤ 999) : RulV hs ws rs where
  lh := lh
  lw := lw
  sh := by omega
  sw := by omega
  n1 := by rw [a.len]; have := (List.getElem?_eq_some_iff.mp a.sts.zero).1; omega
  n2 := by rw [a.len]; exact l9
  row := fun r hr => by
    obtain ⟨j, hj⟩ := List.mem_iff_getElem?.mp hr
    obtain ⟨w, hw⟩ : ∃ w, L[j]? = some w := ⟨_, List.getElem?_eq_getElem (by rw [← a.len]; exact (List.getElem?_eq_some_iff.mp hj).1)⟩
    have ra := a.row j r w hj hw
    have hl := ra.sub.length_le
    rw [List.length_map, keysL_len] at hl
    have h9 : hs.length * ws.length ≤ 3 * 3 := Nat.mul_le_mul h3 w3
    refine ⟨?_, by omega⟩
    unfold rowB
    rw [Bool.and_eq_true, List.all_eq_true]
    refine ⟨fun m hm => ?_, nbr_of_pair (row_sub (letters_lt lh) (letters_lt lw) ra.sub)⟩
    have mk := keysL_mem.mp (ra.sub.subset (List.mem_map.mpr ⟨m, hm, rfl⟩))
    have mt := (ra.at_ m hm).2.lt
    rw [← a.len] at mt
    unfold mvB
    have m1 : m.h ∈ hs := mk.1
    have m2 : m.c ∈ ws := mk.2
    simp [m1, m2, mt]
theorem Aut.few {A : Rows} {inn : List Nat} {n : Nat} {hs ws : List Nat} {L : List (List Ky)} {rs : Rows} (a : Aut A inn n hs ws L rs) (hn : 1 ≤ n) : L.length ≤ many (hs.length * ws.length) n := by
  have := few_states hn (K := keysL hs ws) a.sts.ky a.sts.nd
  rwa [keysL_len] at this
theorem Aut.led {A : Rows} (st : Steps A) {inn : List Nat} {n : Nat} (hn : 1 ≤ n) {hs ws : List Nat} {L : List (List Ky)} {rs : Rows} (a : Aut A inn n hs ws L rs) (sr : Steps rs) (hK : ∀ s (k : Ky) t, step1 A s k.1 k.2 = some t → k ∈ keysL hs ws) (w : List Ky) :
    (∀ j, ledN rs 0 w = some j → okW A inn n w ∧ At A inn n L j w) ∧ (okW A inn n w → (ledN rs 0 w).isSome = true) := by
  induction w using snoc_ind with
  | nil =>
    refine ⟨fun j hj => ?_, fun _ => rfl⟩
    simp [ledN] at hj
    subst hj
    exact ⟨okW_nil, [], a.sts.zero, rfl⟩
  | snoc w k ih =>
    obtain ⟨ih1, ih2⟩ := ih
    have stepJ : ∀ j, ledN rs 0 w = some j → ∃ r w', rs[j]? = some r ∧ L[j]? = some w' ∧ ksOf A inn n w' = ksOf A inn n w ∧ okW A inn n w' ∧ okW A inn n w ∧ RowAt A inn n L (keysL hs ws) w' r ∧ rowS rs j = r := fun j hj => by
      obtain ⟨o1, w', h1, h2⟩ := ih1 j hj
      obtain ⟨r, hr⟩ : ∃ r, rs[j]? = some r := ⟨_, List.getElem?_eq_getElem (by rw [a.len]; exact (List.getElem?_eq_some_iff.mp h1).1)⟩
      exact ⟨r, w', hr, h1, h2, a.sts.ok w' (List.mem_of_getElem? h1), o1, a.row j r w' hr h1, by simp [rowS, List.getD, hr]⟩
    constructor
    · intro t ht
      rw [ledN_snoc] at ht
      obtain ⟨j, hj, ht⟩ := Option.bind_eq_some_iff.mp ht
      obtain ⟨r, w', hr, h1, h2, o', o, ra, er⟩ := stepJ j hj
      have hm := (step1_iff sr).mp ht
      rw [er] at hm
      obtain ⟨q1, w2, q2, q3⟩ := ra.at_ _ hm
      have ns := next_some st hn k o' o h2
      have q1 : okW A inn n (w' ++ [k]) := q1
      have q3 : ksOf A inn n w2 = ksOf A inn n (w' ++ [k]) := q3
      exact ⟨ns.1.mp q1, w2, q2, q3.trans (ns.2 q1)⟩
    · intro ho
      have ow := (okW_snoc.mp ho).1
      obtain ⟨j, hj⟩ := Option.isSome_iff_exists.mp (ih2 ow)
      obtain ⟨r, w', hr, h1, h2, o', o, ra, er⟩ := stepJ j hj
      have ns := next_some st hn k o' o h2
      have kk : k ∈ keysL hs ws := by
        have hb := (okW_snoc.mp ho).2
        have epl : (w ++ [k]).take (w.length + 1) = w ++ [k] := List.take_of_length_le (by simp)
        unfold bad at hb
        split at hb
        · rw [epl] at hb
          obtain ⟨t, ht⟩ := Option.isSome_iff_exists.mp (isN_f.mp hb)
          rw [ledN_snoc] at ht
          obtain ⟨s, _, ht⟩ := Option.bind_eq_some_iff.mp ht
          exact hK s k t ht
        · rename_i hl
          rw [List.all_eq_false] at hb
          obtain ⟨s, _, hb⟩ := hb
          rw [epl] at hb
          have hd : (w ++ [k]).drop (w.length + 1 - n) = w.drop (w.length + 1 - n) ++ [k] := List.drop_append_of_le_length (by omega)
          rw [hd] at hb
          obtain ⟨t, ht⟩ := Option.isSome_iff_exists.mp (isN_n.mp hb)
          rw [ledN_snoc] at ht
          obtain ⟨s, _, ht⟩ := Option.bind_eq_some_iff.mp ht
          exact hK s k t ht
      obtain ⟨m, hm, rfl⟩ := ra.all k kk (ns.1.mpr ho)
      rw [ledN_snoc, hj]
      have : step1 rs j (mkey m).1 (mkey m).2 = some m.t := (step1_iff sr).mpr (by rw [er]; exact hm)
      show (step1 rs j (mkey m).1 (mkey m).2).isSome = true
      rw [this]
      rfl
end Pace
end
section
set_option Elab.async false
set_option linter.all false
set_option maxRecDepth 100000
set_option maxHeartbeats 4000000
namespace Pace
open PySem PySem.Spec PyProof.Rows L2 DL
structure UnI (A : Rows) (n : Nat) (K : List (Nat × Nat)) : Prop where
  nd : K.Nodup
  lt : ∀ x ∈ K, x.1 < n ∧ x.2 < n
  un : ∀ x ∈ K, ¬ bis A x.1 A x.2
theorem UnI.nil (A : Rows) (n : Nat) : UnI A n [] := ⟨List.nodup_nil, by simp, by simp⟩
theorem UnI.few {A : Rows} {n : Nat} {K : List (Nat × Nat)} (h : UnI A n K) : K.length ≤ n * n := by
  have := List.Nodup.length_le_of_subset h.nd (l₂ := (List.range n).flatMap fun x => (List.range n).map fun y => (x, y)) fun p hp => by
    obtain ⟨h1, h2⟩ := h.lt p hp
    exact List.mem_flatMap.mpr ⟨p.1, List.mem_range.mpr h1, List.mem_map.mpr ⟨p.2, List.mem_range.mpr h2, rfl⟩⟩
  rwa [prod_len, List.length_range] at this
end Pace
end
section
set_option Elab.async false
set_option linter.all false
set_option maxRecDepth 100000
set_option maxHeartbeats 4000000
namespace DL
open PySem PySem.Spec PyProof.Rows L2
end DL
end
section
set_option Elab.async false
set_option linter.all false
set_option maxRecDepth 100000
set_option maxHeartbeats 4000000
namespace Pace
open PySem PySem.Spec PyProof.Rows L2 DL
def lexB : List Ky → List Ky → Bool
  | [], [] => false
  | [], _ :: _ => true
  | _ :: _, [] => false
  | a :: as, b :: bs => kLt a b || (decide (a = b) && lexB as bs)
theorem kLt_irr (a : Ky) : kLt a a = false := by unfold kLt; simp
theorem kLt_tr {a b c : Ky} (h : kLt a b = true) (g : kLt b c = true) : kLt a c = true := by
  unfold kLt at *
  rw [decide_eq_true_eq] at *
  omega
theorem kLt_tot {a b : Ky} (h : a ≠ b) : kLt a b = true ∨ kLt b a = true := by
  unfold kLt
  rw [decide_eq_true_eq, decide_eq_true_eq]
  by_cases e : a.1 = b.1
  · have : a.2 ≠ b.2 := fun z => h (Prod.ext e z)
    omega
  · omega
theorem lexB_irr : ∀ a : List Ky, lexB a a = false
  | [] => rfl
  | x :: a => by simp [lexB, kLt_irr, lexB_irr a]
theorem lexB_tr : ∀ {a b c : List Ky}, lexB a b = true → lexB b c = true → lexB a c = true
  | [], [], _, h, _ => by simp [lexB] at h
  | [], _ :: _, [], _, g => by simp [lexB] at g
  | [], _ :: _, _ :: _, _, _ => rfl
  | _ :: _, [], _, h, _ => by simp [lexB] at h
  | _ :: _, _ :: _, [], _, g => by simp [lexB] at g
  | x :: a, y :: b, z :: c, h, g => by
    simp only [lexB, Bool.or_eq_true, Bool.and_eq_true, decide_eq_true_eq] at h g ⊢
    rcases h with h | ⟨rfl, h⟩
    · rcases g with g | ⟨rfl, g⟩
      · exact .inl (kLt_tr h g)
      · exact .inl h
    · rcases g with g | ⟨rfl, g⟩
      · exact .inl g
      · exact .inr ⟨rfl, lexB_tr h g⟩
theorem lexB_tot : ∀ {a b : List Ky}, a.length = b.length → a ≠ b → lexB a b = true ∨ lexB b a = true
  | [], [], _, h => absurd rfl h
  | [], _ :: _, l, _ => by simp at l
  | _ :: _, [], l, _ => by simp at l
  | x :: a, y :: b, l, h => by
    simp only [lexB, Bool.or_eq_true, Bool.and_eq_true, decide_eq_true_eq]
    by_cases e : x = y
    · subst e
      have := lexB_tot (a := a) (b := b) (by simpa using l) fun z => h (by rw [z])
      rcases this with z | z
      · exact .inl (.inr ⟨rfl, z⟩)
      · exact .inr (.inr ⟨rfl, z⟩)
    · rcases kLt_tot e with z | z
      · exact .inl (.inl z)
      · exact .inr (.inl z)
theorem lexB_app : ∀ {a b : List Ky} (x y : List Ky), a.length = b.length → lexB a b = true → lexB (a ++ x) (b ++ y) = true
  | [], [], _, _, _, h => by simp [lexB] at h
  | [], _ :: _, _, _, l, _ => by simp at l
  | _ :: _, [], _, _, l, _ => by simp at l
  | p :: a, q :: b, x, y, l, h => by
    simp only [List.cons_append, lexB, Bool.or_eq_true, Bool.and_eq_true, decide_eq_true_eq] at h ⊢
    rcases h with h | ⟨rfl, h⟩
    · exact .inl h
    · exact .inr ⟨rfl, lexB_app x y (by simpa using l) h⟩
/-- not behind: shorter, or as long and not behind by its signs -/
def sLe (a b : List Ky) : Prop := a.length < b.length ∨ (a.length = b.length ∧ lexB b a = false)
theorem sLe_refl (a : List Ky) : sLe a a := .inr ⟨rfl, lexB_irr a⟩
theorem lex_le_tr {a b c : List Ky} (l1 : a.length = b.length) (l2 : b.length = c.length) (h : lexB b a = false) (g : lexB c b = false) : lexB c a = false := by
  rw [Bool.eq_false_iff]
  intro z
  by_cases e : a = b
  · subst e; rw [z] at g; cases g
  · rcases lexB_tot l1 e with q | q
    · rw [lexB_tr z q] at g; cases g
    · rw [q] at h; cases h
theorem sLe_tr {a b c : List Ky} (h : sLe a b) (g : sLe b c) : sLe a c := by
  rcases h with h | ⟨l1, h⟩
  · rcases g with g | ⟨l2, _⟩
    · exact .inl (by omega)
    · exact .inl (by omega)
  · rcases g with g | ⟨l2, g⟩
    · exact .inl (by omega)
    · exact .inr ⟨by omega, lex_le_tr l1 l2 h g⟩
theorem lex_snoc {a b : List Ky} (k : Ky) (l : a.length = b.length) (h : lexB b a = false) : lexB (b ++ [k]) (a ++ [k]) = false := by
  rw [Bool.eq_false_iff]
  intro z
  by_cases e : a = b
  · subst e; rw [lexB_irr] at z; cases z
  · rcases lexB_tot l e with q | q
    · have := lexB_tr z (lexB_app [k] [k] l q)
      rw [lexB_irr] at this; cases this
    · rw [q] at h; cases h
end Pace
end
section
set_option Elab.async false
set_option linter.all false
set_option maxRecDepth 100000
set_option maxHeartbeats 4000000
namespace Pace
open PySem PySem.Spec PyProof.Rows L2 DL
/-- both are led so far, to unlike states -/
def Far (A : Rows) (n p q : Nat) : Prop := ∃ v : List Ky, v.length = n ∧ ∃ p' q', ledN A p v = some p' ∧ ledN A q v = some q' ∧ ¬ bis A p' A q'
theorem Far.symm {A : Rows} {n p q : Nat} (h : Far A n p q) : Far A n q p := by
  obtain ⟨v, hv, p', q', h1, h2, h3⟩ := h
  exact ⟨v, hv, q', p', h2, h1, fun b => h3 b.symm⟩
def HasR (A : Rows) (p q r : Nat) : Prop := Far A r p q ∧ ¬ Far A (r + 1) p q
theorem HasR.symm {A : Rows} {p q r : Nat} (h : HasR A p q r) : HasR A q p r := ⟨h.1.symm, fun z => h.2 z.symm⟩
abbrev Pr := Nat × Nat
def lkL (A : Rows) (f : Nat → Nat) (x : Pr) : List (Ky × Pr) := (rowS A x.1).filterMap fun m => (step1 A x.2 m.h m.c).bind fun t => if f m.t ≠ f t then some ((m.h, m.c), (m.t, t)) else none
theorem lkL_mem {A : Rows} (st : Steps A) {f : Nat → Nat} {x : Pr} {z : Ky × Pr} : z ∈ lkL A f x ↔ step1 A x.1 z.1.1 z.1.2 = some z.2.1 ∧ step1 A x.2 z.1.1 z.1.2 = some z.2.2 ∧ f z.2.1 ≠ f z.2.2 := by
  unfold lkL
  rw [List.mem_filterMap]
  constructor
  · rintro ⟨m, hm, e⟩
    cases e2 : step1 A x.2 m.h m.c with
    | none => rw [e2] at e; cases e
    | some t =>
      rw [e2] at e
      simp only [Option.bind_some] at e
      split at e
      · rename_i hf
        cases e
        exact ⟨(step1_iff st).mpr hm, e2, hf⟩
      · cases e
  · rintro ⟨h1, h2, h3⟩
    refine ⟨⟨z.1.1, z.1.2, z.2.1⟩, (step1_iff st).mp h1, ?_⟩
    simp only [h2, Option.bind_some]
    rw [if_pos h3]
def ascP (x : Pr) : Pr := (min x.1 x.2, max x.1 x.2)
abbrev Rk := Pr × Nat
structure RkI (A : Rows) (P : List Pr) (K : List Rk) : Prop where
  nd : (K.map (·.1)).Nodup
  at_ : ∀ z ∈ K, z.1 ∈ P ∧ HasR A z.1.1 z.1.2 z.2
theorem RkI.nil (A : Rows) (P : List Pr) : RkI A P [] := ⟨by simp, by simp⟩
end Pace
end
section
set_option Elab.async false
set_option linter.all false
set_option maxRecDepth 100000
set_option maxHeartbeats 4000000
namespace Pace
open PySem PySem.Spec PyProof.Rows L2 DL
abbrev Wk := Nat × KS
def wk (A : Rows) (inn : List Nat) (n : Nat) (w : List Ky) : Wk := ((ledN A 0 w).getD 0, ksOf A inn n w)
def Led (A : Rows) (w : List Ky) : Prop := (ledN A 0 w).isSome = true
def Wr (A : Rows) (inn : List Nat) (n : Nat) (w : List Ky) : Prop := okW A inn n w ∧ ledN A 0 w = none
section
variable {A : Rows} {inn : List Nat} {n : Nat}
/-- as far as the search has come -/
structure Lv (A : Rows) (inn : List Nat) (n L : Nat) (sw lv : List (List Ky)) : Prop where
  led : ∀ w ∈ lv, w.length = L ∧ Led A w
  nd : ((sw ++ lv).map (wk A inn n)).Nodup
  all : ∀ u, u.length = L → Led A u → wk A inn n u ∈ sw.map (wk A inn n) ∨ ∃ w ∈ lv, wk A inn n w = wk A inn n u ∧ lexB u w = false
  sn : ∀ w ∈ sw, w.length < L ∧ Led A w
  al : ∀ u, u.length < L → Led A u → wk A inn n u ∈ sw.map (wk A inn n)
  nw : ∀ u k, u.length < L → Led A u → ¬ Wr A inn n (u ++ [k])
theorem Lv.zero (A : Rows) (inn : List Nat) (n : Nat) : Lv A inn n 0 [] [[]] where
  led := fun w hw => by rw [List.mem_singleton] at hw; subst hw; exact ⟨rfl, rfl⟩
  nd := by simp
  all := fun u hu _ => by
    have : u = [] := List.length_eq_zero_iff.mp hu
    subst this
    exact .inr ⟨[], by simp, rfl, rfl⟩
  sn := by simp
  al := fun u hu => by omega
  nw := fun u k hu => by omega
theorem Lv.at_ {L : Nat} {sw lv : List (List Ky)} (h : Lv A inn n L sw lv) {u : List Ky} (hu : u.length = L) (hl : Led A u) (hn : wk A inn n u ∉ sw.map (wk A inn n)) : ∃ w ∈ lv, wk A inn n w = wk A inn n u ∧ lexB u w = false := (h.all u hu hl).resolve_left hn
end
/-- a word put in its key's place -/
def setW (A : Rows) (inn : List Nat) (n : Nat) (ws : List (List Ky)) (w : List Ky) : List (List Ky) := if ws.any (fun v => decide (wk A inn n v = wk A inn n w)) then ws.map (fun v => if wk A inn n v = wk A inn n w then w else v) else ws ++ [w]
theorem setW_keys {A : Rows} {inn : List Nat} {n : Nat} {ws : List (List Ky)} {w : List Ky} (nd : (ws.map (wk A inn n)).Nodup) : ((setW A inn n ws w).map (wk A inn n)).Nodup := by
  unfold setW
  split
  · have : (ws.map fun v => if wk A inn n v = wk A inn n w then w else v).map (wk A inn n) = ws.map (wk A inn n) := by
      rw [List.map_map]
      refine List.map_congr_left fun v _ => ?_
      simp only [Function.comp]
      split
      · rename_i z; exact z.symm
      · rfl
    rw [this]; exact nd
  · rename_i h
    rw [List.map_append, List.nodup_append]
    refine ⟨nd, by simp, fun a ha b hb e => ?_⟩
    simp at hb
    subst hb
    obtain ⟨v, hv, e2⟩ := List.mem_map.mp ha
    exact h (List.any_eq_true.mpr ⟨v, hv, decide_eq_true (e2.trans e)⟩)
theorem setW_mem {A : Rows} {inn : List Nat} {n : Nat} {ws : List (List Ky)} {w x : List Ky} (h : x ∈ setW A inn n ws w) : x = w ∨ (x ∈ ws ∧ wk A inn n x ≠ wk A inn n w) := by
  unfold setW at h
  split at h
  · obtain ⟨v, hv, rfl⟩ := List.mem_map.mp h
    by_cases e : wk A inn n v = wk A inn n w
    · rw [if_pos e]; exact .inl rfl
    · rw [if_neg e]; exact .inr ⟨hv, e⟩
  · rename_i hno
    rcases List.mem_append.mp h with h | h
    · exact .inr ⟨h, fun e => hno (List.any_eq_true.mpr ⟨x, h, decide_eq_true e⟩)⟩
    · rw [List.mem_singleton] at h
      exact .inl h
theorem setW_in {A : Rows} {inn : List Nat} {n : Nat} {ws : List (List Ky)} {w : List Ky} : w ∈ setW A inn n ws w ∧ ∀ v ∈ ws, wk A inn n v ≠ wk A inn n w → v ∈ setW A inn n ws w := by
  unfold setW
  split
  · rename_i h
    obtain ⟨v, hv, e⟩ := List.any_eq_true.mp h
    refine ⟨List.mem_map.mpr ⟨v, hv, by rw [if_pos (of_decide_eq_true e)]⟩, fun v hv e => List.mem_map.mpr ⟨v, hv, by rw [if_neg e]⟩⟩
  · exact ⟨by simp, fun v hv _ => List.mem_append_left _ hv⟩
end Pace
end
section
set_option Elab.async false
set_option linter.all false
set_option maxRecDepth 100000
set_option maxHeartbeats 4000000
namespace Pace
open PySem PySem.Spec PyProof.Rows L2 DL
def sLt (a b : List Ky) : Prop := sLe a b ∧ a ≠ b
theorem sLe_snoc {a b : List Ky} (k : Ky) (h : sLe a b) : sLe (a ++ [k]) (b ++ [k]) := by
  rcases h with h | ⟨l, h⟩
  · exact .inl (by simp; omega)
  · exact .inr ⟨by simp; omega, lex_snoc k l h⟩
/-- the order of the search -/
structure TrO (A B : Rows) (L : List Trail) (n : Nat) : Prop where
  so : L.Pairwise fun x y => sLt x.2 y.2
  par : ∀ y ∈ L, y.2 = [] ∨ ∃ (i : Nat) (x : Trail) (k : Ky), i < n ∧ L[i]? = some x ∧ y.2 = x.2 ++ [k]
  cl : ∀ (i : Nat) x, i < n → L[i]? = some x → ∀ (k : Ky) (s t : Nat), step1 A x.1.1 k.1 k.2 = some s → step1 B x.1.2 k.1 k.2 = some t → ∃ y ∈ L, y.1 = (s, t) ∧ sLe y.2 (x.2 ++ [k])
theorem TrO.zero (A B : Rows) : TrO A B [((0, 0), [])] 0 := ⟨by simp, fun y hy => by simp at hy; subst hy; exact .inl rfl, fun i x hi => by omega⟩
/-- within a turn: x is at n, its keys ls have been looked at -/
structure TrJ (A B : Rows) (L : List Trail) (n : Nat) (x : Trail) (ls : List Ky) : Prop where
  so : L.Pairwise fun x y => sLt x.2 y.2
  at_ : L[n]? = some x
  par : ∀ y ∈ L, y.2 = [] ∨ (∃ (i : Nat) (z : Trail) (k : Ky), i < n ∧ L[i]? = some z ∧ y.2 = z.2 ++ [k]) ∨ ∃ k ∈ ls, y.2 = x.2 ++ [k]
  cl : ∀ (i : Nat) z, i < n → L[i]? = some z → ∀ (k : Ky) (s t : Nat), step1 A z.1.1 k.1 k.2 = some s → step1 B z.1.2 k.1 k.2 = some t → ∃ y ∈ L, y.1 = (s, t) ∧ sLe y.2 (z.2 ++ [k])
  here : ∀ k ∈ ls, ∀ (s t : Nat), step1 A x.1.1 k.1 k.2 = some s → step1 B x.1.2 k.1 k.2 = some t → ∃ y ∈ L, y.1 = (s, t) ∧ sLe y.2 (x.2 ++ [k])
theorem TrJ.done {A B : Rows} {L : List Trail} {n : Nat} {x : Trail} {ls : List Ky} (h : TrJ A B L n x ls) (all : ∀ (k : Ky), (step1 A x.1.1 k.1 k.2).isSome = true → k ∈ ls) : TrO A B L (n + 1) := by
  refine ⟨h.so, fun y hy => ?_, fun i z hi hz k s t h1 h2 => ?_⟩
  · rcases h.par y hy with e | ⟨i, z, k, h1, h2, h3⟩ | ⟨k, _, e⟩
    · exact .inl e
    · exact .inr ⟨i, z, k, by omega, h2, h3⟩
    · exact .inr ⟨n, x, k, by omega, h.at_, e⟩
  · by_cases e : i = n
    · subst e
      rw [h.at_] at hz
      cases hz
      exact h.here k (all k (by rw [h1]; rfl)) s t h1 h2
    · exact h.cl i z (by omega) hz k s t h1 h2
structure TrF (A B : Rows) (L : List Trail) : Prop where
  so : L.Pairwise fun x y => sLt x.2 y.2
  low : ∀ (w : List Ky) (s t : Nat), ledN A 0 w = some s → ledN B 0 w = some t → ∃ y ∈ L, y.1 = (s, t) ∧ sLe y.2 w
theorem TrO.done {A B : Rows} {L : List Trail} (h : TrO A B L L.length) (ok : TrOk A B L) : TrF A B L := by
  refine ⟨h.so, fun w => ?_⟩
  induction w using snoc_ind with
  | nil =>
    intro s t h1 h2
    simp [ledN] at h1 h2
    subst h1 h2
    exact ⟨_, ok.zero, rfl, sLe_refl _⟩
  | snoc u k ih =>
    intro s t h1 h2
    rw [ledN_snoc] at h1 h2
    cases ea : ledN A 0 u with
    | none => rw [ea] at h1; cases h1
    | some s' =>
      cases eb : ledN B 0 u with
      | none => rw [eb] at h2; cases h2
      | some t' =>
        rw [ea] at h1
        rw [eb] at h2
        obtain ⟨y, hy, e, le⟩ := ih s' t' ea eb
        obtain ⟨i, hi⟩ := List.mem_iff_getElem?.mp hy
        have h1 : step1 A y.1.1 k.1 k.2 = some s := by rw [e]; exact h1
        have h2 : step1 B y.1.2 k.1 k.2 = some t := by rw [e]; exact h2
        obtain ⟨z, hz, ez, lz⟩ := h.cl i y (List.getElem?_eq_some_iff.mp hi).1 hi k s t h1 h2
        exact ⟨z, hz, ez, sLe_tr lz (sLe_snoc k le)⟩
end Pace
end
section
set_option Elab.async false
set_option linter.all false
set_option maxRecDepth 100000
set_option maxHeartbeats 4000000
namespace Pace
open PySem PySem.Spec PyProof.Rows L2 DL
/-- as far as a turn has come: D tells which words and signs were looked at -/
structure FwT (A : Rows) (inn : List Nat) (n L : Nat) (sw lv wr lt : List (List Ky)) (D : List Ky → Ky → Prop) : Prop where
  w1 : ∀ x ∈ wr, ∃ w ∈ lv, ∃ k, x = w ++ [k] ∧ Wr A inn n x
  w2 : ∀ w k, D w k → Wr A inn n (w ++ [k]) → w ++ [k] ∈ wr
  l1 : ∀ x ∈ lt, ∃ w ∈ lv, ∃ k, x = w ++ [k] ∧ Led A x ∧ wk A inn n x ∉ (sw ++ lv).map (wk A inn n)
  nd : (lt.map (wk A inn n)).Nodup
  l2 : ∀ w k, D w k → Led A (w ++ [k]) → wk A inn n (w ++ [k]) ∈ (sw ++ lv).map (wk A inn n) ∨ ∃ y ∈ lt, wk A inn n y = wk A inn n (w ++ [k]) ∧ lexB (w ++ [k]) y = false
section
variable {A : Rows} {inn : List Nat} {n L : Nat} {sw lv wr lt : List (List Ky)} {D D' : List Ky → Ky → Prop}
theorem FwT.zero : FwT A inn n L sw lv [] [] fun _ _ => False := ⟨by simp, fun _ _ h => h.elim, by simp, by simp, fun _ _ h => h.elim⟩
theorem FwT.put (h : FwT A inn n L sw lv wr lt D) (hL : ∀ w ∈ lv, w.length = L) {w : List Ky} {k : Ky} (hw : w ∈ lv) (hl : Led A (w ++ [k])) (hm : wk A inn n (w ++ [k]) ∉ (sw ++ lv).map (wk A inn n)) (hD : ∀ w k, D w k → w ∈ lv) {m : List Ky}
    (h1 : m = w ++ [k] ∨ (m ∈ lt ∧ wk A inn n m = wk A inn n (w ++ [k]))) (h2 : lexB (w ++ [k]) m = false) (h3 : ∀ y ∈ lt, wk A inn n y = wk A inn n (w ++ [k]) → lexB y m = false) : FwT A inn n L sw lv wr (setW A inn n lt m) fun w' k' => D w' k' ∨ (w' = w ∧ k' = k) where
  w1 := h.w1
  w2 := fun w' k' d hx => by
    rcases d with d | ⟨rfl, rfl⟩
    · exact h.w2 w' k' d hx
    · unfold Led at hl
      rw [hx.2] at hl; cases hl
  l1 := fun x hx => by
    rcases setW_mem hx with rfl | ⟨hx, _⟩
    · rcases h1 with rfl | ⟨h1, _⟩
      · exact ⟨w, hw, k, rfl, hl, hm⟩
      · exact h.l1 _ h1
    · exact h.l1 x hx
  nd := setW_keys h.nd
  l2 := fun w' k' d hx => by
    have ek : wk A inn n m = wk A inn n (w ++ [k]) := by
      rcases h1 with rfl | ⟨_, h1⟩
      · rfl
      · exact h1
    have len : ∀ y ∈ lt, y.length = L + 1 := fun y hy => by
      obtain ⟨v, hv, l, rfl, _⟩ := h.l1 y hy
      simp [hL v hv]
    have lm : m.length = L + 1 := by
      rcases h1 with rfl | ⟨h1, _⟩
      · simp [hL w hw]
      · exact len m h1
    rcases d with d | ⟨rfl, rfl⟩
    · rcases h.l2 w' k' d hx with z | ⟨y, hy, e, le⟩
      · exact .inl z
      · by_cases e2 : wk A inn n y = wk A inn n m
        · refine .inr ⟨m, setW_in.1, e2.symm.trans e, ?_⟩
          exact lex_le_tr (by rw [lm, len y hy]) (by rw [len y hy]; simp [hL w' (hD _ _ d)]) (h3 y hy (e2.trans ek)) le
        · exact .inr ⟨y, setW_in.2 y hy e2, e, le⟩
    · exact .inr ⟨m, setW_in.1, ek, h2⟩
end
end Pace
end
section
set_option Elab.async false
set_option linter.all false
set_option maxRecDepth 100000
set_option maxHeartbeats 4000000
namespace Pace
open PySem PySem.Spec PyProof.Rows L2 DL
section
variable {A : Rows} {inn : List Nat} {n : Nat} {β : Type} {κ : List Ky → β}
/-- as far as the search has come -/
structure LvK {β : Type} (κ : List Ky → β) (A : Rows) (inn : List Nat) (n L : Nat) (sw lv : List (List Ky)) : Prop where
  led : ∀ w ∈ lv, w.length = L ∧ Led A w
  nd : ((sw ++ lv).map κ).Nodup
  all : ∀ u, u.length = L → Led A u → κ u ∈ sw.map κ ∨ ∃ w ∈ lv, κ w = κ u ∧ lexB u w = false
  sn : ∀ w ∈ sw, w.length < L ∧ Led A w
  al : ∀ u, u.length < L → Led A u → κ u ∈ sw.map κ
  nw : ∀ u k, u.length < L → Led A u → ¬ Wr A inn n (u ++ [k])
theorem LvK.zero (A : Rows) (inn : List Nat) (n : Nat) : LvK κ A inn n 0 [] [[]] where
  led := fun w hw => by rw [List.mem_singleton] at hw; subst hw; exact ⟨rfl, rfl⟩
  nd := by simp
  all := fun u hu _ => by
    have : u = [] := List.length_eq_zero_iff.mp hu
    subst this
    exact .inr ⟨[], by simp, rfl, rfl⟩
  sn := by simp
  al := fun u hu => by omega
  nw := fun u k hu => by omega
theorem LvK.at_ {L : Nat} {sw lv : List (List Ky)} (h : LvK κ A inn n L sw lv) {u : List Ky} (hu : u.length = L) (hl : Led A u) (hn : κ u ∉ sw.map κ) : ∃ w ∈ lv, κ w = κ u ∧ lexB u w = false := (h.all u hu hl).resolve_left hn
end
end Pace
end
section
set_option Elab.async false
set_option linter.all false
set_option maxRecDepth 100000
set_option maxHeartbeats 4000000
namespace Pace
open PySem PySem.Spec PyProof.Rows L2 DL
def SoL (lv : List (List Ky)) : Prop := lv.Pairwise fun a b => lexB a b = true
section
variable {A : Rows} {inn : List Nat} {n : Nat} {β : Type} {κ : List Ky → β}
/-- how far it has come within a layer: P was looked at -/
structure Srch {β : Type} (κ : List Ky → β) (A : Rows) (inn : List Nat) (n : Nat) (bs P lt : List (List Ky)) : Prop where
  on : ∀ x ∈ lt, x ∈ P ∧ Led A x ∧ κ x ∉ bs.map κ
  nd : (lt.map κ).Nodup
  so : SoL lt
  ok : ∀ x ∈ P, ¬ Wr A inn n x ∧ (Led A x → κ x ∈ bs.map κ ∨ ∃ y ∈ lt, κ y = κ x ∧ lexB x y = false)
theorem Srch.nil (κ : List Ky → β) (A : Rows) (inn : List Nat) (n : Nat) (bs : List (List Ky)) : Srch κ A inn n bs [] [] := ⟨by simp, by simp, by simp [SoL], by simp⟩
theorem Srch.keep {bs P lt : List (List Ky)} (h : Srch κ A inn n bs P lt) {x : List Ky} (hp : ∀ p ∈ P, lexB p x = true) (hw : ¬ Wr A inn n x) (hx : Led A x → κ x ∈ (bs ++ lt).map κ) : Srch κ A inn n bs (P ++ [x]) lt := by
  refine ⟨fun y hy => ⟨List.mem_append_left _ (h.on y hy).1, (h.on y hy).2⟩, h.nd, h.so, fun y hy => ?_⟩
  rcases List.mem_append.mp hy with hy | hy
  · exact h.ok y hy
  · rw [List.mem_singleton] at hy
    subst hy
    refine ⟨hw, fun l => ?_⟩
    have := hx l
    rw [List.map_append, List.mem_append] at this
    rcases this with z | z
    · exact .inl z
    · obtain ⟨v, hv, e⟩ := List.mem_map.mp z
      refine .inr ⟨v, hv, e, ?_⟩
      rw [Bool.eq_false_iff]
      intro q
      have := lexB_tr q (hp v (h.on v hv).1)
      rw [lexB_irr] at this; cases this
end
end Pace
end
section
set_option Elab.async false
set_option linter.all false
set_option maxRecDepth 100000
set_option maxHeartbeats 4000000
namespace Pace
open PySem PySem.Spec PyProof.Rows L2 DL
theorem ledN_cat {A : Rows} {s : Nat} {a b : List Ky} : ledN A s (a ++ b) = (ledN A s a).bind fun t => ledN A t b := by
  induction b using snoc_ind with
  | nil =>
    rw [List.append_nil]
    cases ledN A s a with
    | none => rfl
    | some t => rfl
  | snoc b k ih =>
    rw [← List.append_assoc, ledN_snoc, ih]
    cases ledN A s a with
    | none => rfl
    | some t =>
      show ((ledN A t b).bind fun s => step1 A s k.1 k.2) = ledN A t (b ++ [k])
      rw [ledN_snoc]
/-- pairs that are not ranked -/
structure NoRk (A : Rows) (inn : List Nat) (f : Nat → Nat) (K : List Rk) (x : Pr) : Prop where
  a : x.1 ∈ inn
  b : x.2 ∈ inn
  ne : f x.1 ≠ f x.2
  no : ascP x ∉ K.map (·.1)
theorem nork_next {A : Rows} (st : Steps A) {inn : List Nat} (hi : Inn A inn) {f : Nat → Nat} {K : List Rk} {x : Pr} (h : NoRk A inn f K x) {z : Ky × Pr} (hz : z ∈ lkL A f x) (hn : ascP z.2 ∉ K.map (·.1)) : NoRk A inn f K z.2 := by
  obtain ⟨e1, e2, e3⟩ := (lkL_mem st).mp hz
  exact ⟨(hi.mem _).mpr (.more ((hi.mem _).mp h.a) ((step1_iff st).mp e1)), (hi.mem _).mpr (.more ((hi.mem _).mp h.b) ((step1_iff st).mp e2)), e3, hn⟩
structure WR (A : Rows) (inn : List Nat) (f : Nat → Nat) (K : List Rk) (ps : List Pr) (w : List Ky) (x : Pr) : Prop where
  nd : ps.Nodup
  on : ∀ p ∈ ps, NoRk A inn f K p
  len : ps.length = w.length + 1
  last : ps[w.length]? = some x
  led : ∀ i p, ps[i]? = some p → ledN A p.1 (w.drop i) = some x.1 ∧ ledN A p.2 (w.drop i) = some x.2
theorem WR.zero {A : Rows} {inn : List Nat} {f : Nat → Nat} {K : List Rk} {x : Pr} (h : NoRk A inn f K x) : WR A inn f K [x] [] x where
  nd := by simp
  on := fun p hp => by rw [List.mem_singleton] at hp; subst hp; exact h
  len := rfl
  last := rfl
  led := fun i p hp => by
    cases i with
    | zero => cases hp; exact ⟨rfl, rfl⟩
    | succ i => simp at hp
theorem WR.step {A : Rows} (st : Steps A) {inn : List Nat} (hi : Inn A inn) {f : Nat → Nat} {K : List Rk} {ps : List Pr} {w : List Ky} {x : Pr} (h : WR A inn f K ps w x) {k : Ky} {y : Pr} (hz : (k, y) ∈ lkL A f x) (hn : ascP y ∉ K.map (·.1)) :
    NoRk A inn f K y ∧ (∀ i p, ps[i]? = some p → ledN A p.1 ((w ++ [k]).drop i) = some y.1 ∧ ledN A p.2 ((w ++ [k]).drop i) = some y.2) ∧ (y ∉ ps → WR A inn f K (ps ++ [y]) (w ++ [k]) y) := by
  have hx := h.on x (List.mem_of_getElem? h.last)
  have ny := nork_next st hi hx hz hn
  obtain ⟨e1, e2, _⟩ := (lkL_mem st).mp hz
  have ld : ∀ i p, ps[i]? = some p → ledN A p.1 ((w ++ [k]).drop i) = some y.1 ∧ ledN A p.2 ((w ++ [k]).drop i) = some y.2 := fun i p hp => by
    have il := (List.getElem?_eq_some_iff.mp hp).1
    have hl := h.len
    obtain ⟨l1, l2⟩ := h.led i p hp
    rw [List.drop_append_of_le_length (by omega), ledN_snoc, ledN_snoc, l1, l2]
    exact ⟨e1, e2⟩
  refine ⟨ny, ld, fun hy => ⟨?_, fun p hp => ?_, ?_, ?_, fun i p hp => ?_⟩⟩
  · rw [List.nodup_append]
    exact ⟨h.nd, by simp, fun a ha b hb e => by rw [List.mem_singleton] at hb; subst hb; exact hy (e ▸ ha)⟩
  · rcases List.mem_append.mp hp with hp | hp
    · exact h.on p hp
    · rw [List.mem_singleton] at hp
      subst hp
      exact ny
  · simp [h.len]
  · have hl := h.len
    rw [List.getElem?_append_right (by simp; omega)]
    simp [hl]
  · by_cases il : i < ps.length
    · rw [List.getElem?_append_left il] at hp
      exact ld i p hp
    · have hl := h.len
      have i2 := (List.getElem?_eq_some_iff.mp hp).1
      simp at i2
      have ei : i = ps.length := by omega
      subst ei
      rw [List.getElem?_append_right (Nat.le_refl _), Nat.sub_self] at hp
      cases hp
      rw [List.drop_of_length_le (by simp; omega)]
      exact ⟨rfl, rfl⟩
theorem WR.few {A : Rows} {inn : List Nat} {f : Nat → Nat} {K : List Rk} {ps : List Pr} {w : List Ky} {x : Pr} (h : WR A inn f K ps w x) : ps.length ≤ inn.length * inn.length := by
  have := List.Nodup.length_le_of_subset h.nd (l₂ := inn.flatMap fun x => inn.map fun y => (x, y)) fun p hp => by
    have := h.on p hp
    exact List.mem_flatMap.mpr ⟨p.1, this.a, List.mem_map.mpr ⟨p.2, this.b, rfl⟩⟩
  rwa [prod_len] at this
structure TB (A : Rows) (x : Pr) (L : List Trail) (n : Nat) : Prop where
  nd : (L.map (·.1)).Nodup
  zero : L[0]? = some (x, [])
  led : ∀ y ∈ L, ledN A x.1 y.2 = some y.1.1 ∧ ledN A x.2 y.2 = some y.1.2
  cl : ∀ (i : Nat) y, i < n → L[i]? = some y → ∀ k : Ky, (step1 A y.1.1 k.1 k.2).isSome = (step1 A y.1.2 k.1 k.2).isSome ∧ ∀ s t, step1 A y.1.1 k.1 k.2 = some s → step1 A y.1.2 k.1 k.2 = some t → (s, t) ∈ L.map (·.1)
  le : n ≤ L.length
  ln : ∀ (i : Nat) y, L[i]? = some y → y.2.length ≤ i
theorem TB.start (A : Rows) (x : Pr) : TB A x [(x, [])] 0 where
  nd := by simp
  zero := rfl
  led := fun y hy => by rw [List.mem_singleton] at hy; subst hy; exact ⟨rfl, rfl⟩
  cl := fun i y h => by omega
  le := by simp
  ln := fun i y h => by
    cases i with
    | zero => cases h; simp
    | succ i => simp at h
theorem TB.few {A : Rows} (st : Steps A) {x : Pr} (h1 : x.1 < A.length) (h2 : x.2 < A.length) {L : List Trail} {n : Nat} (h : TB A x L n) : L.length ≤ A.length * A.length ∧ ∀ y ∈ L, y.1.1 < A.length ∧ y.1.2 < A.length := by
  have lt : ∀ y ∈ L, y.1.1 < A.length ∧ y.1.2 < A.length := fun y hy => by
    obtain ⟨e1, e2⟩ := h.led y hy
    exact ⟨ledN_lt st.cl.2 h1 _ e1, ledN_lt st.cl.2 h2 _ e2⟩
  have := List.Nodup.length_le_of_subset h.nd (l₂ := (List.range A.length).flatMap fun x => (List.range A.length).map fun y => (x, y)) fun p hp => by
    obtain ⟨y, hy, rfl⟩ := List.mem_map.mp hp
    obtain ⟨h1, h2⟩ := lt y hy
    exact List.mem_flatMap.mpr ⟨y.1.1, List.mem_range.mpr h1, List.mem_map.mpr ⟨y.1.2, List.mem_range.mpr h2, rfl⟩⟩
  rw [prod_len] at this
  exact ⟨by simpa using this, lt⟩
theorem TB.more {A : Rows} (st : Steps A) {x : Pr} (hb : ¬ bis A x.1 A x.2) {L : List Trail} {n : Nat} (h : TB A x L n) : n < L.length := by
  refine Classical.byContradiction fun hn => hb (bis_words st st fun w => ?_)
  have e : n = L.length := by have := h.le; omega
  subst e
  have key : ∀ w : List Ky, (ledN A x.1 w = none ∧ ledN A x.2 w = none) ∨ ∃ s t, ledN A x.1 w = some s ∧ ledN A x.2 w = some t ∧ (s, t) ∈ L.map (·.1) := fun w => by
    induction w using snoc_ind with
    | nil => exact .inr ⟨x.1, x.2, rfl, rfl, List.mem_map.mpr ⟨_, List.mem_of_getElem? h.zero, rfl⟩⟩
    | snoc w k ih =>
      rw [ledN_snoc, ledN_snoc]
      rcases ih with ⟨e1, e2⟩ | ⟨s, t, e1, e2, hm⟩
      · rw [e1, e2]; exact .inl ⟨rfl, rfl⟩
      · rw [e1, e2]
        obtain ⟨y, hy, e⟩ := List.mem_map.mp hm
        obtain ⟨i, hi⟩ := List.mem_iff_getElem?.mp hy
        obtain ⟨c1, c2⟩ := h.cl i y (List.getElem?_eq_some_iff.mp hi).1 hi k
        rw [e] at c1 c2
        simp only at c1 c2
        show (step1 A s k.1 k.2 = none ∧ step1 A t k.1 k.2 = none) ∨ _
        cases ea : step1 A s k.1 k.2 with
        | none =>
          cases eb : step1 A t k.1 k.2 with
          | none => exact .inl ⟨rfl, rfl⟩
          | some v => rw [ea, eb] at c1; cases c1
        | some u =>
          cases eb : step1 A t k.1 k.2 with
          | none => rw [ea, eb] at c1; cases c1
          | some v => exact .inr ⟨u, v, ea, eb, c2 u v ea eb⟩
  rcases key w with ⟨e1, e2⟩ | ⟨s, t, e1, e2, _⟩
  · rw [e1, e2]
  · rw [e1, e2]; rfl
abbrev Way := Nat × List Ky
structure WT (A : Rows) (L : List Way) (n : Nat) : Prop where
  nd : (L.map (·.1)).Nodup
  led : ∀ y ∈ L, y.2 ≠ [] ∧ ledN A 0 y.2 = some y.1
  c0 : ∀ m ∈ rowS A 0, m.t ∈ L.map (·.1)
  cl : ∀ (i : Nat) y, i < n → L[i]? = some y → ∀ m ∈ rowS A y.1, m.t ∈ L.map (·.1)
  le : n ≤ L.length
  ln : ∀ (i : Nat) y, L[i]? = some y → y.2.length ≤ i + 1
theorem WT.few {A : Rows} (st : Steps A) {L : List Way} {n : Nat} (h : WT A L n) : L.length ≤ A.length ∧ ∀ y ∈ L, y.1 < A.length := by
  have lt : ∀ y ∈ L, y.1 < A.length := fun y hy => ledN_lt st.cl.2 st.cl.1 _ (h.led y hy).2
  have := nodup_lt_len h.nd (n := A.length) fun p hp => by
    obtain ⟨y, hy, rfl⟩ := List.mem_map.mp hp
    exact lt y hy
  exact ⟨by simpa using this, lt⟩
theorem WT.more {A : Rows} {L : List Way} {n : Nat} (h : WT A L n) {g : Nat} (hg : Reach A g) (hn : g ∉ L.map (·.1)) : n < L.length := by
  refine Classical.byContradiction fun hl => hn ?_
  have e : n = L.length := by have := h.le; omega
  subst e
  induction hg with
  | one hm => exact h.c0 _ hm
  | @more s m _ hm ih =>
    have hs : s ∈ L.map (·.1) := Classical.byContradiction fun hs => hs (ih hs)
    obtain ⟨y, hy, rfl⟩ := List.mem_map.mp hs
    obtain ⟨i, hi⟩ := List.mem_iff_getElem?.mp hy
    exact h.cl i y (List.getElem?_eq_some_iff.mp hi).1 hi m hm
def repW (m : Nat) (l : List Ky) : List Ky := (List.replicate m l).flatten
structure NeverP (A : Rows) (inn : List Nat) (w1 w2 l u : List Ky) (k : Ky) : Prop where
  n1 : w1 ≠ []
  n2 : w2 ≠ []
  nl : l ≠ []
  ex : ∃ s t a b, ledN A 0 w1 = some s ∧ ledN A 0 w2 = some t ∧ ledN A s l = some s ∧ ledN A t l = some t ∧ ledN A s u = some a ∧ ledN A t u = some b ∧ (step1 A a k.1 k.2).isSome = true ∧ step1 A b k.1 k.2 = none
  ln : w1.length ≤ A.length ∧ w2.length ≤ A.length ∧ l.length ≤ inn.length * inn.length ∧ u.length ≤ A.length * A.length
theorem led_rep {A : Rows} {s : Nat} {l : List Ky} (h : ledN A s l = some s) : ∀ m, ledN A s (repW m l) = some s
  | 0 => rfl
  | m + 1 => by
    unfold repW
    rw [List.replicate_succ, List.flatten_cons, ledN_cat, h]
    exact led_rep h m
section
variable {A : Rows} {inn : List Nat} {w1 w2 l u : List Ky} {k : Ky}
theorem NeverP.odd (h : NeverP A inn w1 w2 l u k) (m : Nat) : ledN A 0 (w2 ++ repW m l ++ (u ++ [k])) = none ∧ (ledN A 0 (w2 ++ repW m l ++ u)).isSome = true := by
  obtain ⟨s, t, a, b, e1, e2, e3, e4, e5, e6, e7, e8⟩ := h.ex
  have e : ledN A 0 (w2 ++ repW m l ++ u) = some b := by
    rw [ledN_cat, ledN_cat, e2]
    show ((ledN A t (repW m l)).bind fun t => ledN A t u) = some b
    rw [led_rep e4]
    exact e6
  refine ⟨?_, by rw [e]; rfl⟩
  rw [← List.append_assoc, ledN_snoc, e]
  exact e8
end
end Pace
end
section
set_option Elab.async false
set_option linter.all false
set_option maxRecDepth 100000
set_option maxHeartbeats 4000000
namespace Pace
open PySem PySem.Spec PyProof.Rows L2 DL
structure WB (A : Rows) (L : List Way) : Prop where
  nd : (L.map (·.1)).Nodup
  led : ∀ y ∈ L, y.2 ≠ [] ∧ ledN A 0 y.2 = some y.1
  ln : ∀ (i : Nat) y, L[i]? = some y → y.2.length ≤ i + 1
theorem WB.nil (A : Rows) : WB A [] := ⟨by simp, by simp, by simp⟩
theorem WB.few {A : Rows} (st : Steps A) {L : List Way} (h : WB A L) : L.length ≤ A.length := by
  have := nodup_lt_len h.nd (n := A.length) fun p hp => by
    obtain ⟨y, hy, rfl⟩ := List.mem_map.mp hp
    exact ledN_lt st.cl.2 st.cl.1 _ (h.led y hy).2
  simpa using this
structure TBj (A : Rows) (x : Pr) (L : List Trail) (n : Nat) (y : Trail) (ks : List Ky) : Prop where
  nd : (L.map (·.1)).Nodup
  zero : L[0]? = some (x, [])
  led : ∀ y ∈ L, ledN A x.1 y.2 = some y.1.1 ∧ ledN A x.2 y.2 = some y.1.2
  cl : ∀ (i : Nat) y, i < n → L[i]? = some y → ∀ k : Ky, (step1 A y.1.1 k.1 k.2).isSome = (step1 A y.1.2 k.1 k.2).isSome ∧ ∀ s t, step1 A y.1.1 k.1 k.2 = some s → step1 A y.1.2 k.1 k.2 = some t → (s, t) ∈ L.map (·.1)
  at_ : L[n]? = some y
  ln : ∀ (i : Nat) y, L[i]? = some y → y.2.length ≤ i
  here : ∀ k ∈ ks, (step1 A y.1.1 k.1 k.2).isSome = (step1 A y.1.2 k.1 k.2).isSome ∧ ∀ s t, step1 A y.1.1 k.1 k.2 = some s → step1 A y.1.2 k.1 k.2 = some t → (s, t) ∈ L.map (·.1)
theorem TBj.done {A : Rows} {x : Pr} {L : List Trail} {n : Nat} {y : Trail} {ks : List Ky} (h : TBj A x L n y ks) (all : ∀ k : Ky, (step1 A y.1.1 k.1 k.2).isSome = true ∨ (step1 A y.1.2 k.1 k.2).isSome = true → k ∈ ks) : TB A x L (n + 1) where
  nd := h.nd
  zero := h.zero
  led := h.led
  le := (List.getElem?_eq_some_iff.mp h.at_).1
  ln := h.ln
  cl := fun i z hi hz k => by
    by_cases e : i = n
    · subst e
      rw [h.at_] at hz
      cases hz
      by_cases hk : k ∈ ks
      · exact h.here k hk
      · have h1 : (step1 A y.1.1 k.1 k.2).isSome = false := by
          rw [Bool.eq_false_iff]; exact fun z => hk (all k (.inl z))
        have h2 : (step1 A y.1.2 k.1 k.2).isSome = false := by
          rw [Bool.eq_false_iff]; exact fun z => hk (all k (.inr z))
        refine ⟨by rw [h1, h2], fun s t e1 _ => ?_⟩
        rw [e1] at h1; cases h1
    · exact h.cl i z (by omega) hz k
end Pace
end
section
set_option Elab.async false
set_option linter.all false
set_option maxRecDepth 100000
set_option maxHeartbeats 4000000
namespace Pace
open PySem PySem.Spec PyProof.Rows L2 DL
def stI : Option Nat → Int
  | none => -1
  | some n => (n : Int)
def stepZ (A : Rows) (s : Int) (k : Ky) : Int := if s = -1 then -1 else stI (step1 A s.toNat k.1 k.2)
def InZ (A : Rows) (s : Int) : Prop := s = -1 ∨ ∃ n : Nat, s = (n : Int) ∧ n < A.length
def ledZ (A : Rows) (w : List Ky) : Int := stI (ledN A 0 w)
theorem stepZ_stI (A : Rows) (o : Option Nat) (k : Ky) : stepZ A (stI o) k = stI (o.bind fun s => step1 A s k.1 k.2) := by
  cases o with
  | none => rfl
  | some s =>
    unfold stepZ
    rw [if_neg (by simp only [stI]; omega)]
    rfl
theorem ledZ_snoc (A : Rows) (w : List Ky) (k : Ky) : ledZ A (w ++ [k]) = stepZ A (ledZ A w) k := by
  unfold ledZ
  rw [stepZ_stI, ledN_snoc]
theorem stI_some (o : Option Nat) : stI o ≠ -1 ↔ o.isSome = true := by
  cases o with
  | none => simp [stI]
  | some n => simp only [stI, Option.isSome_some, iff_true]; omega
theorem stepZ_in {A : Rows} (st : Steps A) (s : Int) (k : Ky) : InZ A (stepZ A s k) := by
  unfold stepZ
  split
  · exact .inl rfl
  · cases e : step1 A s.toNat k.1 k.2 with
    | none => exact .inl rfl
    | some t => exact .inr ⟨t, rfl, step1_lt st.cl.2 e⟩
structure KeysW (A B : Rows) (s t : Int) (ks : List Ky) : Prop where
  pw : ks.Pairwise fun a b => kLt a b = true
  mem : ∀ k, k ∈ ks ↔ stepZ A s k ≠ -1 ∨ stepZ B t k ≠ -1
  len : ks.length ≤ 62
abbrev ZP := Int × Int
def Live (e : Bool) (p : ZP) : Prop := p ≠ (-1, -1) ∧ (e = true ∨ (p.1 ≠ -1 ∧ p.2 ≠ -1))
instance (e : Bool) (p : ZP) : Decidable (Live e p) := by unfold Live; infer_instance
def toZ (A B : Rows) (p : ZP) (k : Ky) : ZP := (stepZ A p.1 k, stepZ B p.2 k)
structure RowJ (A B : Rows) (e : Bool) (L : List ZP) (p : ZP) (P : Ky → Prop) (r : List Mv) : Prop where
  pw : r.Pairwise fun a b => mvLt a b = true
  to : ∀ m ∈ r, P (m.h, m.c) ∧ Live e (toZ A B p (m.h, m.c)) ∧ L[m.t]? = some (toZ A B p (m.h, m.c))
  all : ∀ k, P k → Live e (toZ A B p k) → ∃ m ∈ r, m.h = k.1 ∧ m.c = k.2
  len : r.length ≤ 62
structure JoinI (A B : Rows) (e : Bool) (L : List ZP) (F : Rows) : Prop where
  nd : L.Nodup
  zero : L[0]? = some (0, 0)
  rng : ∀ p ∈ L, InZ A p.1 ∧ InZ B p.2 ∧ Live e p
  le : F.length ≤ L.length
  row : ∀ (i : Nat) p r, L[i]? = some p → F[i]? = some r → RowJ A B e L p (fun _ => True) r
theorem RowJ.mono {A B : Rows} {e : Bool} {L : List ZP} {p : ZP} {P : Ky → Prop} {r : List Mv} (h : RowJ A B e L p P r) (q : ZP) : RowJ A B e (L ++ [q]) p P r :=
  ⟨h.pw, fun m hm => by
    obtain ⟨h1, h2, h3⟩ := h.to m hm
    exact ⟨h1, h2, by rw [List.getElem?_append_left (List.getElem?_eq_some_iff.mp h3).1]; exact h3⟩, h.all, h.len⟩
theorem JoinI.grow {A B : Rows} {e : Bool} {L : List ZP} {F : Rows} (h : JoinI A B e L F) (sa : Steps A) (sb : Steps B) {p : ZP} {k : Ky} (hl : Live e (toZ A B p k)) (hn : toZ A B p k ∉ L) : JoinI A B e (L ++ [toZ A B p k]) F where
  nd := by rw [List.nodup_append]; exact ⟨h.nd, by simp, fun a h1 b h2 e => hn (by rw [List.mem_singleton.mp h2] at e; exact e ▸ h1)⟩
  zero := by rw [List.getElem?_append_left (List.getElem?_eq_some_iff.mp h.zero).1]; exact h.zero
  rng := fun q hq => by
    rcases List.mem_append.mp hq with hq | hq
    · exact h.rng q hq
    · rw [List.mem_singleton.mp hq]
      exact ⟨stepZ_in sa _ _, stepZ_in sb _ _, hl⟩
  le := by rw [List.length_append]; exact Nat.le_trans h.le (Nat.le_add_right _ _)
  row := fun i q r hq hr => by
    have := h.le
    have hi := (List.getElem?_eq_some_iff.mp hr).1
    rw [List.getElem?_append_left (by omega)] at hq
    exact (h.row i q r hq hr).mono _
theorem JoinI.few {A B : Rows} {e : Bool} {L : List ZP} {F : Rows} (h : JoinI A B e L F) : L.length ≤ (A.length + 1) * (B.length + 1) := by
  have sub : L ⊆ (List.range (A.length + 1)).flatMap fun i : Nat => (List.range (B.length + 1)).map fun j : Nat => (((i : Int) - 1, (j : Int) - 1) : ZP) := fun p hp => by
    obtain ⟨h1, h2, _⟩ := h.rng p hp
    have one : ∀ (A : Rows) (s : Int), InZ A s → ∃ i, i ∈ List.range (A.length + 1) ∧ (i : Int) - 1 = s := fun A s hs => by
      rcases hs with rfl | ⟨n, rfl, hn⟩
      · exact ⟨0, by simp, rfl⟩
      · exact ⟨n + 1, by rw [List.mem_range]; omega, by omega⟩
    obtain ⟨i, hi, ei⟩ := one A p.1 h1
    obtain ⟨j, hj, ej⟩ := one B p.2 h2
    exact List.mem_flatMap.mpr ⟨i, hi, List.mem_map.mpr ⟨j, hj, Prod.ext ei ej⟩⟩
  have := List.Nodup.length_le_of_subset h.nd sub
  have e2 : ((List.range (A.length + 1)).flatMap fun i : Nat => (List.range (B.length + 1)).map fun j : Nat => (((i : Int) - 1, (j : Int) - 1) : ZP)).length = (A.length + 1) * (B.length + 1) := by
    have g : ∀ l : List Nat, (l.map fun _ => B.length + 1).sum = l.length * (B.length + 1) := fun l => by
      induction l with
      | nil => simp
      | cons a l ih => rw [List.map_cons, List.sum_cons, ih, List.length_cons, Nat.succ_mul, Nat.add_comm]
    rw [List.length_flatMap]
    simp only [List.length_map, List.length_range]
    rw [g, List.length_range]
  omega
theorem JoinI.push {A B : Rows} {e : Bool} {L : List ZP} {F : Rows} (h : JoinI A B e L F) {p : ZP} (hp : L[F.length]? = some p) {r : List Mv} (hr : RowJ A B e L p (fun _ => True) r) : JoinI A B e L (F ++ [r]) where
  nd := h.nd
  zero := h.zero
  rng := h.rng
  le := by rw [List.length_append]; exact (List.getElem?_eq_some_iff.mp hp).1
  row := fun i q r' hq hr' => by
    by_cases hi : i < F.length
    · rw [List.getElem?_append_left hi] at hr'
      exact h.row i q r' hq hr'
    · have hl := (List.getElem?_eq_some_iff.mp hr').1
      rw [List.length_append, List.length_singleton] at hl
      have : i = F.length := by omega
      subst this
      rw [hp] at hq
      rw [List.getElem?_append_right (Nat.le_refl _), Nat.sub_self] at hr'
      cases hq; cases hr'
      exact hr
theorem RowJ.nil {A B : Rows} {e : Bool} {L : List ZP} {p : ZP} {P : Ky → Prop} (hP : ∀ k, ¬ P k) : RowJ A B e L p P [] :=
  ⟨.nil, fun m hm => (by cases hm), fun k hk => absurd hk (hP k), Nat.zero_le _⟩
theorem RowJ.put {A B : Rows} {e : Bool} {L : List ZP} {p : ZP} {ls : List Ky} {r : List Mv} (h : RowJ A B e L p (· ∈ ls) r) {k : Ky} (hk : ∀ l ∈ ls, kLt l k = true) (hl : Live e (toZ A B p k)) {j : Nat} (hj : L[j]? = some (toZ A B p k)) (hr : r.length ≤ ls.length) (hls : ls.length < 62) :
    RowJ A B e L p (· ∈ ls ++ [k]) (r ++ [⟨k.1, k.2, j⟩]) where
  pw := by
    rw [List.pairwise_append]
    refine ⟨h.pw, List.pairwise_singleton _ _, fun a ha b hb => ?_⟩
    rw [List.mem_singleton.mp hb]
    have := hk _ (h.to a ha).1
    unfold kLt at this
    unfold mvLt
    exact this
  to := fun m hm => by
    rcases List.mem_append.mp hm with hm | hm
    · exact ⟨List.mem_append_left _ (h.to m hm).1, (h.to m hm).2⟩
    · rw [List.mem_singleton.mp hm]
      exact ⟨by simp, hl, hj⟩
  all := fun k' hk' z => by
    rcases List.mem_append.mp hk' with hk' | hk'
    · obtain ⟨m, hm, h1⟩ := h.all k' hk' z
      exact ⟨m, List.mem_append_left _ hm, h1⟩
    · rw [List.mem_singleton.mp hk']
      exact ⟨⟨k.1, k.2, j⟩, by simp, rfl, rfl⟩
  len := by rw [List.length_append, List.length_singleton]; omega
theorem RowJ.full {A B : Rows} {e : Bool} {L : List ZP} {p : ZP} {ks : List Ky} {r : List Mv} (h : RowJ A B e L p (· ∈ ks) r) (ku : KeysW A B p.1 p.2 ks) : RowJ A B e L p (fun _ => True) r :=
  ⟨h.pw, fun m hm => ⟨trivial, (h.to m hm).2⟩, fun k _ z => by
    refine h.all k ((ku.mem k).mpr ?_) z
    by_cases h1 : stepZ A p.1 k = -1
    · by_cases h2 : stepZ B p.2 k = -1
      · exact absurd (Prod.ext h1 h2) z.1
      · exact .inr h2
    · exact .inl h1, h.len⟩
theorem row_step {A B : Rows} {e : Bool} {L : List ZP} {F : Rows} (h : JoinI A B e L F) {i : Nat} {p : ZP} (hp : L[i]? = some p) (hi : i < F.length) (k : Ky) :
    (∀ j, step1 F i k.1 k.2 = some j → Live e (toZ A B p k) ∧ L[j]? = some (toZ A B p k)) ∧ (step1 F i k.1 k.2 = none → ¬ Live e (toZ A B p k)) := by
  have rj := h.row i p _ hp (List.getElem?_eq_getElem hi)
  have er : rowS F i = F[i] := by
    unfold rowS
    rw [List.getD_eq_getElem?_getD, List.getElem?_eq_getElem hi]
    rfl
  refine ⟨fun j hj => ?_, fun hn hl => ?_⟩
  · change ((rowS F i).find? fun m => m.h == k.1 && m.c == k.2).map (·.t) = some j at hj
    rw [er, Option.map_eq_some_iff] at hj
    obtain ⟨m, hm, rfl⟩ := hj
    have h1 := List.find?_some hm
    simp only [Bool.and_eq_true, beq_iff_eq] at h1
    have h2 := rj.to m (List.mem_of_find?_eq_some hm)
    rw [show ((m.h, m.c) : Ky) = k from Prod.ext h1.1 h1.2] at h2
    exact h2.2
  · obtain ⟨m, hm, h1, h2⟩ := rj.all k trivial hl
    have : (step1 F i k.1 k.2).isSome = true := step1_some.mpr (by rw [er]; exact List.mem_map.mpr ⟨m, hm, Prod.ext h1 h2⟩)
    rw [hn] at this
    cases this
theorem JoinI.led {A B : Rows} {e : Bool} {L : List ZP} {F : Rows} (h : JoinI A B e L F) (done : F.length = L.length) (w : List Ky) :
    (∀ j, ledN F 0 w = some j → L[j]? = some (ledZ A w, ledZ B w)) ∧ (ledN F 0 w = none → ¬ Live e (ledZ A w, ledZ B w)) := by
  induction w using snoc_ind with
  | nil =>
    refine ⟨fun j hj => ?_, fun hn => by cases hn⟩
    cases hj
    exact h.zero
  | snoc w k ih =>
    have e1 : (ledZ A (w ++ [k]), ledZ B (w ++ [k])) = toZ A B (ledZ A w, ledZ B w) k := by rw [ledZ_snoc, ledZ_snoc]; rfl
    rw [e1, ledN_snoc]
    cases hw : ledN F 0 w with
    | some i =>
      have hp := ih.1 i hw
      have hi := (List.getElem?_eq_some_iff.mp hp).1
      obtain ⟨g1, g2⟩ := row_step h hp (by omega) k
      exact ⟨fun j hj => (g1 j hj).2, fun hn => g2 hn⟩
    | none =>
      refine ⟨fun j hj => (by cases hj), fun _ z => ih.2 hw ?_⟩
      have s1 : ∀ (A : Rows) (s : Int), stepZ A s k ≠ -1 → s ≠ -1 := fun A s h e => h (by unfold stepZ; rw [if_pos e])
      refine ⟨fun e2 => z.1 ?_, ?_⟩
      · have e3 : ledZ A w = -1 ∧ ledZ B w = -1 := ⟨congrArg Prod.fst e2, congrArg Prod.snd e2⟩
        unfold toZ
        rw [e3.1, e3.2]
        rfl
      · rcases z.2 with z | z
        · exact .inl z
        · exact .inr ⟨s1 _ _ z.1, s1 _ _ z.2⟩
/-- what the rules of both, or of either, are -/
structure JoinP (A B : Rows) (e : Bool) (J : Rows) : Prop where
  st : Steps J
  ks : ∀ r ∈ J, ∀ m ∈ r, (∃ s, (step1 A s m.h m.c).isSome = true) ∨ ∃ s, (step1 B s m.h m.c).isSome = true
  lang : ∀ w, (ledN J 0 w).isSome = if e then (ledN A 0 w).isSome || (ledN B 0 w).isSome else (ledN A 0 w).isSome && (ledN B 0 w).isSome
  len : J.length ≤ (A.length + 1) * (B.length + 1)
  rl : ∀ r ∈ J, r.length ≤ 62
theorem live_led {A B : Rows} {e : Bool} {w : List Ky} : Live e (ledZ A w, ledZ B w) ↔ (if e then (ledN A 0 w).isSome || (ledN B 0 w).isSome else (ledN A 0 w).isSome && (ledN B 0 w).isSome) = true := by
  have h1 := stI_some (ledN A 0 w)
  have h2 := stI_some (ledN B 0 w)
  unfold Live ledZ
  simp only [ne_eq, Prod.mk.injEq] at h1 h2 ⊢
  cases e
  · simp only [Bool.false_eq_true, if_false, Bool.and_eq_true, false_or]
    rw [← h1, ← h2]
    exact ⟨fun h => h.2, fun h => ⟨fun z => h.1 z.1, h⟩⟩
  · simp only [if_true, Bool.or_eq_true, true_or, and_true]
    rw [← h1, ← h2, Classical.not_and_iff_not_or_not]
theorem JoinI.done {A B : Rows} {e : Bool} {L : List ZP} {F : Rows} (h : JoinI A B e L F) (done : F.length = L.length) (n : (A.length + 1) * (B.length + 1) ≤ 999) : JoinP A B e F := by
  have fw := h.few
  have at_ : ∀ r ∈ F, ∃ (i : Nat) (p : ZP), L[i]? = some p ∧ RowJ A B e L p (fun _ => True) r := fun r hr => by
    obtain ⟨i, hi⟩ := List.mem_iff_getElem?.mp hr
    have hl := (List.getElem?_eq_some_iff.mp hi).1
    obtain ⟨p, hp⟩ : ∃ p, L[i]? = some p := ⟨_, List.getElem?_eq_getElem (by omega)⟩
    exact ⟨i, p, hp, h.row i p r hp hi⟩
  have l0 := (List.getElem?_eq_some_iff.mp h.zero).1
  refine ⟨⟨⟨by omega, fun r hr m hm => ?_⟩, by omega, fun r hr => ?_, fun r hr => ?_⟩, fun r hr m hm => ?_, fun w => ?_, by omega, fun r hr => ?_⟩
  · obtain ⟨i, p, hp, rj⟩ := at_ r hr
    have := (List.getElem?_eq_some_iff.mp (rj.to m hm).2.2).1
    omega
  · obtain ⟨i, p, hp, rj⟩ := at_ r hr
    exact rj.pw
  · obtain ⟨i, p, hp, rj⟩ := at_ r hr
    exact Nat.le_trans rj.len (by decide)
  · obtain ⟨i, p, hp, rj⟩ := at_ r hr
    have hl := (rj.to m hm).2.1
    have one : ∀ (A : Rows) (s : Int), stepZ A s (m.h, m.c) ≠ -1 → ∃ s, (step1 A s m.h m.c).isSome = true := fun A s z => by
      unfold stepZ at z
      split at z
      · exact absurd rfl z
      · exact ⟨_, (stI_some _).mp z⟩
    by_cases h1 : stepZ A p.1 (m.h, m.c) = -1
    · exact .inr (one B p.2 fun h2 => hl.1 (Prod.ext h1 h2))
    · exact .inl (one A p.1 h1)
  · obtain ⟨g1, g2⟩ := h.led done w
    rw [Bool.eq_iff_iff, ← live_led]
    cases hw : ledN F 0 w with
    | none => simp only [Option.isSome_none, Bool.false_eq_true, false_iff]; exact g2 hw
    | some j =>
      simp only [Option.isSome_some, true_iff]
      exact (h.rng _ (List.mem_of_getElem? (g1 j hw))).2.2
  · obtain ⟨i, p, hp, rj⟩ := at_ r hr
    exact rj.len
end Pace
namespace Pace
open PySem PySem.Spec PyProof.Rows L2 DL
theorem RowJ.new {A B : Rows} {e : Bool} {L : List ZP} {p : ZP} {ls : List Ky} {r : List Mv} (h : RowJ A B e L p (· ∈ ls) r) {k : Ky} (hk : ∀ l ∈ ls, kLt l k = true) (j : Nat) :
    putD (r.map mvK) (kyK k) (.int (j : Int)) = (r ++ [(⟨k.1, k.2, j⟩ : Mv)]).map mvK := by
  have : valD (r.map mvK) (kyK k) = none := by
    show valD (r.map mvK) [.inr (sgn k.1), .inr (sgn k.2)] = none
    rw [val_mvK, Option.map_eq_none_iff, List.find?_eq_none]
    intro m hm e
    simp only [Bool.and_eq_true, beq_iff_eq] at e
    have h1 := (h.to m hm).1
    have e3 : ((m.h, m.c) : Ky) = k := Prod.ext e.1 e.2
    rw [e3] at h1
    have := hk k h1
    unfold kLt at this
    rw [decide_eq_true_eq] at this
    omega
  rw [put_new this, List.map_append]
  rfl
end Pace
namespace Pace
open PySem PySem.Spec PyProof.Rows L2 DL
theorem JoinP.val {hs ws : List Nat} {rs rs' : Rows} (v : RulV hs ws rs) (v' : RulV hs ws rs') {e : Bool} {J : Rows} (j : JoinP rs rs' e J) : RulV hs ws J := by
  have key : ∀ {A : Rows} (v : RulV hs ws A) {s h c : Nat}, (step1 A s h c).isSome = true → h ∈ hs ∧ c ∈ ws := fun {A} v {s h c} z => by
    obtain ⟨t, ht⟩ := Option.isSome_iff_exists.mp z
    have := (step1_iff v.steps).mp ht
    unfold rowS at this
    rw [List.getD_eq_getElem?_getD] at this
    cases er : A[s]? with
    | none => rw [er] at this; cases this
    | some r =>
      rw [er] at this
      have := mv_in v (List.mem_of_getElem? er) this
      exact ⟨this.1, this.2.1⟩
  refine ⟨v.lh, v.lw, v.sh, v.sw, j.st.cl.1, j.st.n, fun r hr => ⟨?_, j.st.l r hr⟩⟩
  unfold rowB
  rw [Bool.and_eq_true, List.all_eq_true]
  refine ⟨fun m hm => ?_, nbr_of_pair (j.st.pw r hr)⟩
  have hk : m.h ∈ hs ∧ m.c ∈ ws := by
    rcases j.ks r hr m hm with ⟨s, z⟩ | ⟨s, z⟩
    · exact key v z
    · exact key v' z
  unfold mvB
  rw [Bool.and_eq_true, Bool.and_eq_true, decide_eq_true_eq, decide_eq_true_eq, decide_eq_true_eq]
  exact ⟨hk, j.st.cl.2 r hr m hm⟩
end Pace
end
section
set_option Elab.async false
set_option linter.all false
set_option maxRecDepth 100000
set_option maxHeartbeats 4000000
namespace Pace
open PySem PySem.Spec PyProof.Rows L2 DL
abbrev Wd := List Nat
def wd (x : Wd) : D := .str (strOf x)
def putsC (rs : Rows) (cs : Wd) : List Wd := (caps rs 0 cs).map (·.1)
end Pace
end
section
set_option Elab.async false
set_option linter.all false
set_option maxRecDepth 100000
set_option maxHeartbeats 4000000
namespace Pace
open PySem PySem.Spec PyProof.Rows L2 DL
structure MuP (A : Rows) (hs : List Nat) (o : Option Wd) : Prop where
  has : ∀ d, o = some d → (∀ c ∈ d, c ∈ hs) ∧ putsC A d = []
  first : ∀ p : Wd, (∀ c ∈ p, c ∈ hs) → putsC A p = [] → ∃ d, o = some d ∧ ¬ sl p d
def muKey : Option Wd → D
  | none => .non
  | some d => .tup [.int (d.length : Nat), wd d]
theorem MuP.le {A B : Rows} {hs : List Nat} {a b : Option Wd} (ma : MuP A hs a) (mb : MuP B hs b) (sub : ∀ p, putsC A p = [] → putsC B p = []) {d : Wd} (h : a = some d) : ∃ e, b = some e ∧ D.lt (muKey a) (muKey b) = false := by
  subst h
  obtain ⟨h1, h2⟩ := ma.has d rfl
  obtain ⟨e, he, hn⟩ := mb.first d h1 (sub d h2)
  subst he
  refine ⟨e, rfl, ?_⟩
  cases z : D.lt (muKey (some d)) (muKey (some e)) with
  | false => rfl
  | true => exact absurd (sl_of_lt z) hn
end Pace
end
section
set_option Elab.async false
set_option linter.all false
set_option maxRecDepth 100000
set_option maxHeartbeats 4000000
namespace Pace
open PySem PySem.Spec PyProof.Rows L2 DL
theorem take_step {α : Type} {l : List α} {i : Nat} {k : α} (h : l[i]? = some k) : l.take (i + 1) = l.take i ++ [k] := by rw [List.take_add_one, h]; rfl
end Pace
end
section
set_option Elab.async false
set_option linter.all false
set_option maxRecDepth 100000
set_option maxHeartbeats 4000000
namespace DL
open PySem PySem.Spec PyProof.Rows L2 PySem.W
end DL
end
section
set_option Elab.async false
set_option linter.all false
set_option maxRecDepth 100000
set_option maxHeartbeats 4000000
namespace Pace
open PySem PySem.Spec PyProof.Rows L2 DL
def AnyW (d : D) : Prop := ∃ m n, Odd m n 1000 d
theorem AnyW.any {d : D} (h : AnyW d) : AnyV d := by
  obtain ⟨m, n, h⟩ := h
  exact h.anyV (Nat.le_refl _)
theorem AnyW.item {xs : List D} (h : AnyW (.tup xs)) {x : D} (hx : x ∈ xs) : AnyW x := by
  obtain ⟨m, n, h⟩ := h
  obtain ⟨k, _, on, hb⟩ := h.each
  exact ⟨m, k, on x hx, by have := bks_mem hx; omega⟩
theorem AnyW.len {xs : List D} (h : AnyW (.tup xs)) : xs.length ≤ 1000 := by
  obtain ⟨m, n, h⟩ := h
  obtain ⟨k, _, on, hb⟩ := h.each
  have := bks_len xs
  omega
def wholeB : D → Bool
  | .int _ => true
  | _ => false
end Pace
end
section
set_option Elab.async false
set_option linter.all false
set_option maxRecDepth 100000
set_option maxHeartbeats 4000000
namespace Pace
open PySem PySem.Spec PyProof.Rows L2 DL
def lettB : D → Bool
  | .str z => lettersB z.cps.toList
  | _ => false
def lofB (ls : List Nat) : D → Bool
  | .str z => match z.cps.toList with
    | [c] => decide (c ∈ ls)
    | _ => false
  | _ => false
def moveB01 (hs ws : List Nat) (n : Nat) : D → Bool
  | .tup [a, b, .int i] => lofB hs a && lofB ws b && (decide (0 ≤ i) && decide (i < (n : Int)))
  | _ => false
def hdZ : D → Nat
  | .str z => z.cps.toList.headD 0
  | _ => 0
def mvOf : D → Mv
  | .tup [a, b, .int i] => ⟨hdZ a, hdZ b, i.toNat⟩
  | _ => ⟨0, 0, 0⟩
theorem lof_sgn {ls : List Nat} {d : D} (h : lofB ls d = true) : d = .str (sgn (hdZ d)) ∧ hdZ d ∈ ls := by
  cases d with
  | str z =>
    have ez := strOf_cps z
    unfold lofB at h
    simp only at h
    split at h
    · rename_i c e
      rw [e] at ez
      have e2 : hdZ (.str z) = c := by show z.cps.toList.headD 0 = c; rw [e]; rfl
      rw [e2]
      refine ⟨?_, of_decide_eq_true h⟩
      congr 1
    · cases h
  | _ => cases h
theorem move_mv {hs ws : List Nat} {n : Nat} {d : D} (h : moveB01 hs ws n d = true) : d = Mv.d (mvOf d) ∧ mvB hs ws n (mvOf d) = true := by
  unfold moveB01 at h
  split at h
  · rename_i a b i
    simp only [Bool.and_eq_true, decide_eq_true_eq] at h
    obtain ⟨⟨h1, h2⟩, h3, h4⟩ := h
    obtain ⟨e1, m1⟩ := lof_sgn h1
    obtain ⟨e2, m2⟩ := lof_sgn h2
    have et : ((i.toNat : Nat) : Int) = i := Int.toNat_of_nonneg h3
    refine ⟨?_, ?_⟩
    · show D.tup [a, b, .int i] = .tup [.str (sgn (hdZ a)), .str (sgn (hdZ b)), .int ((i.toNat : Nat) : Int)]
      rw [et, ← e1, ← e2]
    · unfold mvB
      show (decide (hdZ a ∈ hs) && decide (hdZ b ∈ ws) && decide (i.toNat < n)) = true
      rw [decide_eq_true m1, decide_eq_true m2, decide_eq_true (by omega)]
      rfl
  · cases h
def rowAB (hs ws : List Nat) (n : Nat) : D → Bool
  | .tup xs => xs.all (moveB01 hs ws n) && nbr mvLt (xs.map mvOf)
  | _ => false
theorem rowA_row {hs ws : List Nat} {n : Nat} {xs : List D} (h : ∀ x ∈ xs, moveB01 hs ws n x = true) : xs = (xs.map mvOf).map Mv.d ∧ (xs.map mvOf).all (mvB hs ws n) = true := by
  refine ⟨?_, ?_⟩
  · rw [List.map_map]
    symm
    exact (List.map_congr_left fun x hx => (move_mv (h x hx)).1.symm).trans (List.map_id' _)
  · rw [List.all_map, List.all_eq_true]
    exact fun x hx => (move_mv (h x hx)).2
/-- what is told of three values: none if they are parts of rules -/
def faultR (h c L : D) : Option D :=
  if lettB h = false then some (.str (Str.ofString "heard")) else
  if lettB c = false then some (.str (Str.ofString "written")) else
  match h, c, L with
  | .str hz, .str cz, .tup rows => if rows.length = 0 ∨ 999 < rows.length then some (.str (Str.ofString "rows")) else
    (rows.findIdx? fun r => !rowAB hz.cps.toList cz.cps.toList rows.length r).map fun (i : Nat) => D.int (i : Int)
  | _, _, _ => some (.str (Str.ofString "rows"))
theorem fault_h {h c L : D} (h1 : lettB h = false) : faultR h c L = some (.str (Str.ofString "heard")) := by
  unfold faultR; rw [if_pos h1]
theorem fault_w {h c L : D} (h1 : lettB h = true) (h2 : lettB c = false) : faultR h c L = some (.str (Str.ofString "written")) := by
  unfold faultR; rw [if_neg (by rw [h1]; decide), if_pos h2]
theorem fault_tup {hs ws : List Nat} {rows : List D} (h1 : lettersB hs = true) (h2 : lettersB ws = true) : faultR (.str (strOf hs)) (.str (strOf ws)) (.tup rows) = if rows.length = 0 ∨ 999 < rows.length then some (.str (Str.ofString "rows")) else
    (rows.findIdx? fun r => !rowAB hs ws rows.length r).map fun (i : Nat) => D.int (i : Int) := by
  have e1 : lettB (.str (strOf hs)) = true := h1
  have e2 : lettB (.str (strOf ws)) = true := h2
  unfold faultR
  rw [if_neg (by rw [e1]; decide), if_neg (by rw [e2]; decide)]
  rfl
theorem fault_at {hs ws : List Nat} {rows : List D} (h1 : lettersB hs = true) (h2 : lettersB ws = true) (n1 : rows.length ≠ 0) (n2 : rows.length ≤ 999) {i : Nat} {r : D} (hr : rows[i]? = some r) (no : rowAB hs ws rows.length r = false) (all : ∀ x ∈ rows.take i, rowAB hs ws rows.length x = true) : faultR (.str (strOf hs)) (.str (strOf ws)) (.tup rows) = some (.int (i : Int)) := by
  rw [fault_tup h1 h2, if_neg (by omega)]
  obtain ⟨hi, er⟩ := List.getElem?_eq_some_iff.mp hr
  have e : (rows.findIdx? fun r => !rowAB hs ws rows.length r) = some i := by
    rw [List.findIdx?_eq_some_iff_getElem]
    refine ⟨hi, by rw [er, no]; rfl, fun j hj => ?_⟩
    have := all rows[j] (by rw [List.mem_take_iff_getElem]; exact ⟨j, by omega, rfl⟩)
    rw [this]; decide
  rw [e]; rfl
theorem fault_no {hs ws : List Nat} {rows : List D} (h1 : lettersB hs = true) (h2 : lettersB ws = true) (n1 : rows.length ≠ 0) (n2 : rows.length ≤ 999) (all : ∀ x ∈ rows, rowAB hs ws rows.length x = true) : faultR (.str (strOf hs)) (.str (strOf ws)) (.tup rows) = none := by
  rw [fault_tup h1 h2, if_neg (by omega)]
  have e : (rows.findIdx? fun r => !rowAB hs ws rows.length r) = none := by
    rw [List.findIdx?_eq_none_iff]
    intro x hx
    rw [all x hx]; rfl
  rw [e]; rfl
def rowOf01 : D → List Mv
  | .tup xs => xs.map mvOf
  | _ => []
theorem rows_all {hs ws : List Nat} {n : Nat} {rows : List D} (all : ∀ x ∈ rows, rowAB hs ws n x = true) : rows = (rows.map rowOf01).map rowD ∧ ∀ r ∈ rows, rowB hs ws n (rowOf01 r) = true ∧ ∃ xs, r = .tup xs ∧ (rowOf01 r).length = xs.length := by
  have one : ∀ r ∈ rows, rowD (rowOf01 r) = r ∧ rowB hs ws n (rowOf01 r) = true ∧ ∃ xs, r = .tup xs ∧ (rowOf01 r).length = xs.length := by
    intro r hr
    have h := all r hr
    cases r with
    | tup xs =>
      unfold rowAB at h
      rw [Bool.and_eq_true, List.all_eq_true] at h
      obtain ⟨e, v⟩ := rowA_row h.1
      refine ⟨?_, ?_, xs, rfl, ?_⟩
      · show D.tup ((xs.map mvOf).map Mv.d) = .tup xs
        rw [← e]
      · show ((xs.map mvOf).all (mvB hs ws n) && nbr mvLt (xs.map mvOf)) = true
        rw [v, h.2]; rfl
      · show (xs.map mvOf).length = _
        rw [List.length_map]
    | _ => cases h
  refine ⟨?_, fun r hr => (one r hr).2⟩
  rw [List.map_map]
  symm
  exact (List.map_congr_left fun x hx => (one x hx).1).trans (List.map_id' _)
theorem fault_rul {h c L : D} (ah : AnyW h) (ac : AnyW c) (aL : AnyW L) (no : faultR h c L = none) : ∃ hs ws rs, RulV hs ws rs ∧ h = .str (strOf hs) ∧ c = .str (strOf ws) ∧ L = rowsD rs := by
  cases h1 : lettB h with
  | false => rw [fault_h h1] at no; cases no
  | true =>
    cases h2 : lettB c with
    | false => rw [fault_w h1 h2] at no; cases no
    | true =>
      have ahv := ah.any
      have acv := ac.any
      have aLv := aL.any
      cases ahv with
      | str hs hl =>
        cases acv with
        | str ws wl =>
          have e1 : lettersB hs = true := h1
          have e2 : lettersB ws = true := h2
          cases aLv with
          | tup rows =>
            rw [fault_tup e1 e2] at no
            by_cases hn : rows.length = 0 ∨ 999 < rows.length
            · rw [if_pos hn] at no; cases no
            · rw [if_neg hn, Option.map_eq_none_iff, List.findIdx?_eq_none_iff] at no
              have all : ∀ x ∈ rows, rowAB hs ws rows.length x = true := fun x hx => by
                have := no x hx
                cases e : rowAB hs ws rows.length x with
                | true => rfl
                | false => rw [e] at this; cases this
              obtain ⟨e, v⟩ := rows_all all
              refine ⟨hs, ws, rows.map rowOf01, ⟨e1, e2, hl, wl, ?_, ?_, ?_⟩, rfl, rfl, ?_⟩
              · rw [List.length_map]; omega
              · rw [List.length_map]; omega
              · intro r hr
                obtain ⟨d, hd, rfl⟩ := List.mem_map.mp hr
                obtain ⟨v1, xs, ex, el⟩ := v d hd
                rw [List.length_map]
                refine ⟨v1, ?_⟩
                rw [el]
                have := aL.item hd
                rw [ex] at this
                exact this.len
              · show D.tup rows = .tup ((rows.map rowOf01).map rowD)
                rw [← e]
          | _ =>
            unfold faultR at no
            rw [if_neg (by rw [h1]; decide), if_neg (by rw [h2]; decide)] at no
            cases no
        | _ => cases h2
      | _ => cases h1
end Pace
end
section
set_option Elab.async false
set_option linter.all false
set_option maxRecDepth 100000
set_option maxHeartbeats 4000000
namespace Pace
open PySem PySem.Spec PyProof.Rows L2 DL
/-- no tuple at any depth has more than k things -/
inductive Thin (k : Nat) : D → Prop
  | tup (xs : List D) : xs.length ≤ k → (∀ x ∈ xs, Thin k x) → Thin k (.tup xs)
  | non : Thin k .non
  | bl (b : Bool) : Thin k (.bl b)
  | int (i : Int) : Thin k (.int i)
  | str (x : Str) : Thin k (.str x)
  | lst (xs : List D) : Thin k (.lst xs)
  | dK (x : List (Key × D)) : Thin k (.dK x)
theorem Thin.mono {k l : Nat} (h : k ≤ l) : ∀ {d : D}, Thin k d → Thin l d := fun {d} t => by
  induction t with
  | tup xs hl _ ih => exact .tup xs (by omega) ih
  | non => exact .non
  | bl b => exact .bl b
  | int i => exact .int i
  | str x => exact .str x
  | lst xs => exact .lst xs
  | dK x => exact .dK x
theorem Thin.len {k : Nat} {xs : List D} (h : Thin k (.tup xs)) : xs.length ≤ k := by cases h; assumption
theorem Thin.item {k : Nat} {xs : List D} (h : Thin k (.tup xs)) {x : D} (hx : x ∈ xs) : Thin k x := by
  cases h with
  | tup _ _ a => exact a x hx
def oddB01 (m n w : Nat) (d : D) : Bool := d.plR && leafD m d && decide (d.pyR.depth ≤ n) && decide (bkD d ≤ w)
theorem oddB01_ok {m n w : Nat} {d : D} (h : oddB01 m n w d = true) : Odd m n w d := by
  unfold oddB01 at h
  simp only [Bool.and_eq_true, decide_eq_true_eq] at h
  exact ⟨⟨h.1.1.1, h.1.1.2, h.1.2⟩, h.2⟩
/-- what a bent value may be -/
structure Bt (m n w t : Nat) (y : D) : Prop where
  od : Odd (m + 7) (n + 4) (max (2 * w) (w + 50)) y
  th : Thin (t + 1) y
def someL01 : List D := [.non, .bl true, .bl false, .int 0, .int 1, .int (-1), .int (10 ^ 39), .str (Str.ofString ""), .str (Str.ofString "a"), .str (Str.ofString "ab"), .str (Str.ofString "A"), .str (Str.ofString "-"), .tup [], .tup [.int 0], .tup [.str (Str.ofString "a"), .str (Str.ofString "a"), .int 0], .lst [], .dK []]
theorem someL01_all : someL01.all (oddB01 0 4 50) = true := by decide +kernel
theorem some_bt {m n w t : Nat} (ht : 3 ≤ t) {y : D} (h : y ∈ someL01) : Bt m n w t y := by
  refine ⟨(oddB01_ok (List.all_eq_true.mp someL01_all y h)).mono (by omega) (by omega) (by omega), ?_⟩
  unfold someL01 at h
  simp only [List.mem_cons, List.not_mem_nil, or_false] at h
  rcases h with rfl | rfl | rfl | rfl | rfl | rfl | rfl | rfl | rfl | rfl | rfl | rfl | rfl | rfl | rfl | rfl | rfl
  all_goals first
    | exact .non
    | exact .bl _
    | exact .int _
    | exact .str _
    | exact .lst _
    | exact .dK _
    | skip
  · exact .tup _ (by simp) fun x hx => by simp at hx
  · exact .tup _ (by simp) fun x hx => by rw [List.mem_singleton.mp hx]; exact .int _
  · refine .tup _ (by simp; omega) fun x hx => ?_
    simp only [List.mem_cons, List.not_mem_nil, or_false] at hx
    rcases hx with rfl | rfl | rfl
    · exact .str _
    · exact .str _
    · exact .int _
theorem bent_tup01 {m n w t : Nat} {xs : List D} (h : ∀ x ∈ xs, One m n x) (hb : bksD xs ≤ w) (tl : xs.length ≤ t) (th : ∀ x ∈ xs, Thin t x) (r : Nat) :
    Bt m (n + 1) w t (.tup (xs.take r ++ xs.drop (r + 1))) ∧ Bt m (n + 1) w t (.tup (xs.take (r + 1) ++ xs.drop r)) ∧
    Bt m (n + 1) w t (.tup (xs.take r ++ ((xs.drop r).take 2).reverse ++ xs.drop (r + 2))) ∧ Bt m (n + 1) w t (.lst xs) ∧ Bt m (n + 1) w t (.tup (xs ++ xs.take 1)) ∧
    ∀ x y, xs[r]? = some x → Bt m n (bkD x) t y → Bt m (n + 1) w t (.tup (xs.take r ++ [y] ++ xs.drop (r + 1))) := by
  have h' : ∀ x ∈ xs, One (m + 7) (n + 4) x := fun x hx => (h x hx).mono (by omega) (by omega)
  have th' : ∀ x ∈ xs, Thin (t + 1) x := fun x hx => (th x hx).mono (by omega)
  have e0 := bks_split xs 1
  have e1 := bks_split xs r
  have e2 := bks_split xs (r + 1)
  have e3 := bks_split (xs.drop r) 2
  rw [List.drop_drop] at e3
  have ht : ∀ k, ∀ x ∈ xs.take k, One (m + 7) (n + 4) x := fun k x hx => h' x (List.mem_of_mem_take hx)
  have hd : ∀ k, ∀ x ∈ xs.drop k, One (m + 7) (n + 4) x := fun k x hx => h' x (List.mem_of_mem_drop hx)
  have ap : ∀ {P : D → Prop} {a b : List D}, (∀ x ∈ a, P x) → (∀ x ∈ b, P x) → ∀ x ∈ a ++ b, P x := fun ha hb x hx => by
    rcases List.mem_append.mp hx with hx | hx
    · exact ha x hx
    · exact hb x hx
  have tt : ∀ k, ∀ x ∈ xs.take k, Thin (t + 1) x := fun k x hx => th' x (List.mem_of_mem_take hx)
  have td : ∀ k, ∀ x ∈ xs.drop k, Thin (t + 1) x := fun k x hx => th' x (List.mem_of_mem_drop hx)
  have mr : ∀ x ∈ ((xs.drop r).take 2).reverse, x ∈ xs := fun x hx => List.mem_of_mem_drop (List.mem_of_mem_take (List.mem_reverse.mp hx))
  have en : n + 1 + 4 = (n + 4) + 1 := by omega
  refine ⟨⟨?_, ?_⟩, ⟨?_, ?_⟩, ⟨?_, ?_⟩, ⟨?_, ?_⟩, ⟨?_, ?_⟩, fun x y hx o => ⟨?_, ?_⟩⟩
  · rw [en]; exact oddP_tup (ap (ht _) (hd _)) (by rw [bks_app]; omega)
  · exact .tup _ (by simp; omega) (ap (tt _) (td _))
  · rw [en]; exact oddP_tup (ap (ht _) (hd _)) (by rw [bks_app]; omega)
  · exact .tup _ (by simp; omega) (ap (tt _) (td _))
  · rw [en]
    exact oddP_tup (ap (ap (ht _) fun x hx => h' x (mr x hx)) (hd _)) (by rw [bks_app, bks_app, bks_rev]; omega)
  · exact .tup _ (by simp; omega) (ap (ap (tt _) fun x hx => th' x (mr x hx)) (td _))
  · rw [en]; exact oddP_lst h' (by omega)
  · exact .lst _
  · rw [en]; exact oddP_tup (ap h' (ht _)) (by rw [bks_app]; omega)
  · exact .tup _ (by simp; omega) (ap th' (tt _))
  · have e3 := bks_at hx
    rw [en]
    refine oddP_tup (ap (ap (ht _) fun z hz => by rw [List.mem_singleton.mp hz]; exact o.od.one) (hd _)) ?_
    have := o.od.bk
    rw [bks_app, bks_app, bks_cons, bks_nil]
    omega
  · refine .tup _ ?_ (ap (ap (tt _) fun z hz => by rw [List.mem_singleton.mp hz]; exact o.th) (td _))
    have hr := (List.getElem?_eq_some_iff.mp hx).1
    simp; omega
theorem revS_strOf01 (cs : List Nat) : revS (strOf cs) = strOf cs.reverse := rfl
theorem bent_str01 {m n w t : Nat} {cs : List Nat} (ht : 3 ≤ t) (h : ∀ c ∈ cs, c < 128) (hl : cs.length ≤ w) (r : Nat) : ∀ y ∈ [D.str (strOf (cs.take r ++ cs.drop (r + 1))), .str (strOf (cs.take r ++ [98] ++ cs.drop r)), .str (strOf cs.reverse), .str (strOf (cs ++ cs.take 1)), .str (Txt.upper (strOf cs)), .tup [.str (strOf cs)]], Bt m n w t y := by
  have hd : ∀ k, ∀ c ∈ cs.drop k, c < 128 := fun k c hc => h c (List.mem_of_mem_drop hc)
  have ht' : ∀ k, ∀ c ∈ cs.take k, c < 128 := fun k c hc => h c (List.mem_of_mem_take hc)
  have ap : ∀ {a b : List Nat}, (∀ x ∈ a, x < 128) → (∀ x ∈ b, x < 128) → ∀ x ∈ a ++ b, x < 128 := fun ha hb x hx => by
    rcases List.mem_append.mp hx with hx | hx
    · exact ha x hx
    · exact hb x hx
  intro y hy
  simp only [List.mem_cons, List.not_mem_nil, or_false] at hy
  rcases hy with rfl | rfl | rfl | rfl | rfl | rfl
  · exact ⟨oddP_str (ap (ht' _) (hd _)) (by simp; omega), .str _⟩
  · exact ⟨oddP_str (ap (ap (ht' _) fun c hc => by rw [List.mem_singleton.mp hc]; decide) (hd _)) (by simp; omega), .str _⟩
  · exact ⟨oddP_str (fun c hc => h c (List.mem_reverse.mp hc)) (by simp; omega), .str _⟩
  · exact ⟨oddP_str (ap h (ht' _)) (by simp; omega), .str _⟩
  · exact ⟨oddP_upper h (by omega), .str _⟩
  · have o1 : Odd (m + 7) (n + 3) w (.str (strOf cs)) := oddP_str h hl
    refine ⟨oddP_tup (n := n + 3) (fun x hx => by rw [List.mem_singleton.mp hx]; exact o1.one) ?_, .tup _ (by simp) fun x hx => by rw [List.mem_singleton.mp hx]; exact .str _⟩
    have := o1.bk
    rw [bks_cons, bks_nil]
    omega
theorem bent_int01 {m n w t : Nat} {i : Int} (h : i.natAbs ≤ 10 ^ 39 + m) (hm : m ≤ 900) (b : Bool) : ∀ y ∈ [D.int (i + 1), .int (i - 1), .bl b, .str (toString i), .int (i + 7)], Bt m n w t y := by
  intro y hy
  simp only [List.mem_cons, List.not_mem_nil, or_false] at hy
  rcases hy with rfl | rfl | rfl | rfl | rfl
  · exact ⟨oddP_int (by omega), .int _⟩
  · exact ⟨oddP_int (by omega), .int _⟩
  · exact ⟨oddP_bl, .bl _⟩
  · exact ⟨(oddP_toString (n := n) (w := 0) h (by omega)).mono (by omega) (by omega) (by omega), .str _⟩
  · exact ⟨oddP_int (by omega), .int _⟩
theorem kLt_tr01 : ∀ a b c : Ky, kLt a b = true → kLt b c = true → kLt a c = true := fun a b c h1 h2 => by
  simp only [kLt, decide_eq_true_eq] at h1 h2 ⊢
  omega
theorem kLt_no (a : Ky) : ¬ kLt a a = true := by
  simp only [kLt, decide_eq_true_eq]
  omega
theorem kys_ext : ∀ {a b : List Ky}, (a.Pairwise fun a b => kLt a b = true) → (b.Pairwise fun a b => kLt a b = true) → (∀ k, k ∈ a ↔ k ∈ b) → a = b
  | [], [], _, _, _ => rfl
  | [], y :: b, _, _, h => absurd ((h y).mpr (by simp)) (by simp)
  | x :: a, [], _, _, h => absurd ((h x).mp (by simp)) (by simp)
  | x :: a, y :: b, ha, hb, h => by
    rw [List.pairwise_cons] at ha hb
    have e : x = y := by
      rcases List.mem_cons.mp ((h x).mp (by simp)) with e | e
      · exact e
      · rcases List.mem_cons.mp ((h y).mpr (by simp)) with e2 | e2
        · exact e2.symm
        · exact absurd (kLt_tr01 _ _ _ (ha.1 y e2) (hb.1 x e)) (kLt_no _)
    subst e
    rw [kys_ext ha.2 hb.2 fun k => ?_]
    constructor
    · intro hk
      rcases List.mem_cons.mp ((h k).mp (List.mem_cons_of_mem _ hk)) with e | e
      · exact absurd (e ▸ ha.1 k hk) (kLt_no _)
      · exact e
    · intro hk
      rcases List.mem_cons.mp ((h k).mpr (List.mem_cons_of_mem _ hk)) with e | e
      · exact absurd (e ▸ hb.1 k hk) (kLt_no _)
      · exact e
theorem kys_sorted {ks ls ks' : List Ky} (mem : ∀ k, k ∈ ls ↔ k ∈ ks) (pm : ks'.Perm ls) (pw : ks'.Pairwise fun a b => kLt a b = true) : (ks = ks') ↔ nbr kLt ks = true := by
  constructor
  · rintro rfl
    exact nbr_of_pair pw
  · intro h
    exact kys_ext (nbr_pair kLt_tr01 _ h) pw fun k => by rw [pm.mem_iff, mem]
def kyOf (m : Mv) : Ky := (m.h, m.c)
theorem nbr_kys (ms : List Mv) : nbr kLt (ms.map kyOf) = nbr mvLt ms := by
  unfold nbr
  rw [← List.map_dropLast, ← List.map_tail, List.zipWith_map]
  rfl
theorem kyD_si (k : Ky) : (kyD k).si = true := rfl
theorem kys_si (ks : List Ky) : (D.lst (ks.map kyD)).si = true := sis_all.mpr fun x hx => by obtain ⟨m, _, rfl⟩ := List.mem_map.mp hx; exact kyD_si m
theorem kys_dp (ks : List Ky) : (D.lst (ks.map kyD)).dp ≤ 60 := by
  have : D.dps (ks.map kyD) ≤ 2 := dps_le fun x hx => by
    obtain ⟨m, _, rfl⟩ := List.mem_map.mp hx
    simp [kyD, D.dp, D.dps]
  simp only [D.dp]; omega
theorem kyD_inj {a b : Ky} (h : kyD a = kyD b) : a = b := by
  unfold kyD at h
  simp only [D.tup.injEq, List.cons.injEq, D.str.injEq, and_true] at h
  exact Prod.ext (sgn_inj h.1) (sgn_inj h.2)
theorem kys_inj {a b : List Ky} (h : a.map kyD = b.map kyD) : a = b := map_inj (fun _ _ => kyD_inj) h
end Pace
end
section
set_option Elab.async false
set_option linter.all false
set_option maxRecDepth 100000
set_option maxHeartbeats 4000000
namespace Pace
open PySem PySem.Spec PyProof.Rows L2 DL
theorem moveB_mv (hs ws : List Nat) (n : Nat) (m : Mv) : moveB01 hs ws n (Mv.d m) = mvB hs ws n m := by
  show (decide (m.h ∈ hs) && decide (m.c ∈ ws) && (decide (0 ≤ (m.t : Int)) && decide ((m.t : Int) < (n : Int)))) = (decide (m.h ∈ hs) && decide (m.c ∈ ws) && decide (m.t < n))
  congr 1
  rw [decide_eq_true (by omega : 0 ≤ (m.t : Int)), Bool.true_and]
  exact decide_eq_decide.mpr (by omega)
theorem rowAB_row (hs ws : List Nat) (n : Nat) (r : List Mv) : rowAB hs ws n (rowD r) = rowB hs ws n r := by
  show ((r.map Mv.d).all (moveB01 hs ws n) && nbr mvLt ((r.map Mv.d).map mvOf)) = (r.all (mvB hs ws n) && nbr mvLt r)
  have e : (r.map Mv.d).map mvOf = r := by
    rw [List.map_map]; exact List.map_id'' (fun m => rfl) r
  rw [e, List.all_map]
  congr 2
  funext m
  exact moveB_mv hs ws n m
theorem bk_row01 (r : List Mv) : bkD (rowD r) = 6 * r.length := by
  unfold rowD
  rw [bk_tup]
  induction r with
  | nil => rfl
  | cons m r ih =>
    rw [List.map_cons, bks_cons, ih, List.length_cons]
    have : bkD m.d = 5 := rfl
    omega
theorem bk_rows01 {k : Nat} : ∀ {rs : List (List Mv)}, (∀ r ∈ rs, r.length ≤ k) → bksD (rs.map rowD) ≤ (6 * k + 1) * rs.length
  | [], _ => Nat.zero_le _
  | r :: rs, h => by
    have h1 := h r (by simp)
    have h2 := bk_rows01 (rs := rs) fun x hx => h x (by simp [hx])
    rw [List.map_cons, bks_cons, bk_row01, List.length_cons, Nat.mul_add]
    omega
theorem letters_az01 {cs : List Nat} (h : lettersB cs = true) : ∀ c ∈ cs, c < 128 := fun c hc => by
  have := letters_abc h c hc
  omega
theorem rowD_one {hs ws : List Nat} {n : Nat} {r : List Mv} (lh : lettersB hs = true) (lw : lettersB ws = true) (hn : n ≤ 999) (rb : rowB hs ws n r = true) : One 0 2 (rowD r) := by
  unfold rowD
  refine one_tup.mpr fun y hy => ?_
  obtain ⟨m, hm, rfl⟩ := List.mem_map.mp hy
  unfold rowB at rb
  simp only [Bool.and_eq_true, List.all_eq_true] at rb
  have mb := rb.1 m hm
  unfold mvB at mb
  simp only [Bool.and_eq_true, decide_eq_true_eq] at mb
  have a1 := letters_az01 lh _ mb.1.1
  have a2 := letters_az01 lw _ mb.1.2
  refine one_tup.mpr fun z hz => ?_
  simp only [List.mem_cons, List.not_mem_nil, or_false] at hz
  rcases hz with rfl | rfl | rfl
  · exact (oddP_str (m := 0) (n := 0) (w := 1) (cs := [m.h]) (fun c hc => by rw [List.mem_singleton.mp hc]; omega) (by simp)).one
  · exact (oddP_str (m := 0) (n := 0) (w := 1) (cs := [m.c]) (fun c hc => by rw [List.mem_singleton.mp hc]; omega) (by simp)).one
  · refine (oddP_int (m := 0) (n := 0) (w := 1) ?_).one
    have e : (999 : Nat) ≤ 10 ^ 39 := by decide
    have := mb.2
    omega
theorem rowD_any {hs ws : List Nat} {n : Nat} {r : List Mv} (lh : lettersB hs = true) (lw : lettersB ws = true) (hn : n ≤ 999) (rb : rowB hs ws n r = true) (rl : r.length ≤ 31) : AnyW (rowD r) :=
  ⟨0, 2, rowD_one lh lw hn rb, by rw [bk_row01]; omega⟩
theorem rowsD_odd {hs ws : List Nat} {rs : List (List Mv)} (v : RulV hs ws rs) (few : ∀ r ∈ rs, r.length ≤ 9) (n4 : rs.length ≤ 4) : Odd 0 3 220 (rowsD rs) := by
  unfold rowsD
  refine oddP_tup (fun x hx => ?_) (Nat.le_trans (bk_rows01 few) (by omega))
  obtain ⟨r, hr, rfl⟩ := List.mem_map.mp hx
  exact rowD_one v.lh v.lw v.n2 (v.row r hr).1
theorem mvD_thin {k : Nat} (hk : 3 ≤ k) (m : Mv) : Thin k (Mv.d m) := by
  refine .tup _ (by simp; omega) fun x hx => ?_
  simp only [List.mem_cons, List.not_mem_nil, or_false] at hx
  rcases hx with rfl | rfl | rfl
  · exact .str _
  · exact .str _
  · exact .int _
theorem rowD_thin {k : Nat} (hk : 3 ≤ k) {r : List Mv} (h : r.length ≤ k) : Thin k (rowD r) := by
  refine .tup _ (by simp; omega) fun x hx => ?_
  obtain ⟨m, _, rfl⟩ := List.mem_map.mp hx
  exact mvD_thin hk m
theorem rowsD_thin {rs : List (List Mv)} (few : ∀ r ∈ rs, r.length ≤ 9) (n4 : rs.length ≤ 4) : Thin 9 (rowsD rs) := by
  refine .tup _ (by simp; omega) fun x hx => ?_
  obtain ⟨r, hr, rfl⟩ := List.mem_map.mp hx
  exact rowD_thin (by decide) (few r hr)
theorem str_odd01 {cs : List Nat} (h : lettersB cs = true) {w : Nat} (hl : cs.length ≤ w) : Odd 0 3 w (.str (strOf cs)) := oddP_str (letters_az01 h) hl
/-- the items of a tuple have no more than sixty things -/
def ThinR (L : D) : Prop := ∀ rows, L = .tup rows → ∀ ys, D.tup ys ∈ rows → ys.length ≤ 60
theorem Thin.rows {k : Nat} {L : D} (h : Thin k L) (hk : k ≤ 60) : ThinR L := by
  rintro rows rfl ys hy
  have := (h.item hy).len
  omega
/-- values of which rules are asked -/
structure Three (h c L : D) : Prop where
  ah : AnyW h
  ac : AnyW c
  aL : AnyW L
  thin : ThinR L
def dueF01 (o : Option D) : D := match o with
  | some d => d
  | none => .non
def lenR : D → Nat
  | .tup xs => xs.length
  | _ => 0
def dueH (h c L : D) : D := match faultR h c L with
  | some d => .lst [.str (Str.ofString "bad"), d, .bl true]
  | none => .lst [h, c, L, .int (lenR L : Int)]
theorem lofB_len {ls cs : List Nat} (h : cs.length ≠ 1) : lofB ls (.str (strOf cs)) = false := by
  show (match (strOf cs).cps.toList with
    | [c] => decide (c ∈ ls)
    | _ => false) = false
  have e3 : (strOf cs).cps.toList = cs := by simp [strOf]
  rw [e3]
  match cs, h with
  | [], _ => rfl
  | [_], h => exact (h rfl).elim
  | _ :: _ :: _, _ => rfl
theorem moveB_len {hs ws : List Nat} {n : Nat} {ys : List D} (h : ys.length ≠ 3) : moveB01 hs ws n (.tup ys) = false := by
  match ys, h with
  | [], _ => rfl
  | [_], _ => rfl
  | [_, _], _ => rfl
  | [_, _, _], h => exact (h rfl).elim
  | _ :: _ :: t :: _ :: _, _ => cases t <;> rfl
theorem moveB_whole {hs ws : List Nat} {n : Nat} {a b t : D} (h : wholeB t = false) : moveB01 hs ws n (.tup [a, b, t]) = false := by
  cases t <;> first | rfl | cases h
theorem whole_int {t : D} (h : wholeB t = true) : ∃ i, t = .int i := by
  cases t <;> first | exact ⟨_, rfl⟩ | cases h
theorem moveB_no {hs ws : List Nat} {n : Nat} {a b : D} {i : Int} (h : lofB hs a = false ∨ lofB ws b = false ∨ i < 0 ∨ (n : Int) ≤ i) : moveB01 hs ws n (.tup [a, b, .int i]) = false := by
  show (lofB hs a && lofB ws b && (decide (0 ≤ i) && decide (i < (n : Int)))) = false
  rcases h with h | h | h | h
  · rw [h]; rfl
  · rw [h]; simp
  · rw [decide_eq_false (by omega : ¬ 0 ≤ i)]; simp
  · rw [decide_eq_false (by omega : ¬ i < (n : Int))]; simp
theorem fault_rulV {hs ws : List Nat} {rs : List (List Mv)} (v : RulV hs ws rs) : faultR (.str (strOf hs)) (.str (strOf ws)) (rowsD rs) = none := by
  have n1 := v.n1
  have n2 := v.n2
  refine fault_no v.lh v.lw (by rw [List.length_map]; omega) (by rw [List.length_map]; omega) fun x hx => ?_
  obtain ⟨r, hr, rfl⟩ := List.mem_map.mp hx
  rw [List.length_map, rowAB_row]
  exact (v.row r hr).1
theorem emp_all01 {α β : Type} (f : α → β) (p : α → Bool) : ∀ w : List α, ((w.filter fun c => !p c).map f).isEmpty = w.all p
  | [] => rfl
  | c :: w => by
    have ih := emp_all01 f p w
    by_cases h : p c = true
    · rw [List.filter_cons_of_neg (by simp [h]), ih]; simp [h]
    · rw [List.filter_cons_of_pos (by simp [h])]; simp [h]
theorem firsts_zip (p : D → Bool) : ∀ (l : List D) (k : Nat), ((l.zipIdx k).filter fun x => p x.1).head?.map (·.2) = (l.findIdx? p).map (· + k)
  | [], _ => rfl
  | x :: l, k => by
    rw [List.zipIdx_cons, List.findIdx?_cons]
    by_cases h : p x = true
    · rw [List.filter_cons_of_pos (by simpa using h), if_pos h]
      simp
    · rw [List.filter_cons_of_neg (by simpa using h), if_neg h, firsts_zip p l (k + 1), Option.map_map]
      congr 1
      funext i
      simp only [Function.comp]
      omega
theorem fault_kind {h c L : D} {d : D} (e : faultR h c L = some d) : (∃ z : Str, d = .str z ∧ (z = Str.ofString "heard" ∨ z = Str.ofString "written" ∨ z = Str.ofString "rows")) ∨ ∃ i : Nat, d = .int (i : Int) ∧ i ≤ 999 := by
  unfold faultR at e
  split at e
  · cases e; exact .inl ⟨_, rfl, .inl rfl⟩
  · split at e
    · cases e; exact .inl ⟨_, rfl, .inr (.inl rfl)⟩
    · split at e
      · split at e
        · cases e; exact .inl ⟨_, rfl, .inr (.inr rfl)⟩
        · rename_i h1
          rw [Option.map_eq_some_iff] at e
          obtain ⟨i, hi, rfl⟩ := e
          have := (List.findIdx?_eq_some_iff_getElem.mp hi).1
          exact .inr ⟨i, rfl, by omega⟩
      · cases e; exact .inl ⟨_, rfl, .inr (.inr rfl)⟩
end Pace
end
section
set_option Elab.async false
set_option linter.all false
set_option maxRecDepth 100000
set_option maxHeartbeats 4000000
namespace DL
open PySem PySem.Spec PyProof.Rows L2
section
variable {X : Cx} {CX : CXT} {k : Nat} {f C : Addr} {fd : FuncData} {ps ks : List Str} {sp0 : Sp} {W : WX} {pos : Pos}
theorem goes_makeSK {pins : List (Addr × Obj)} {σ : L2.St} {H : Hp} {s : Shared} {Q : VK} {ws ws' : List Value} {zs : List V} {kw : List (Str × Value)} (M : Mk X.K C f) (F : FnG X.prog X.w X.K X.mg X.base (L2.CX X.prog X.w) k f fd ps sp0) (hA : X.A.guards = some []) (hr : Room (k + 1) X.A)
    (bd : ∀ (s : Shared) (u : Value), BindsTo s fd ⟨[u], kw⟩ (ps.zip (u :: ws'))) (tk : Takes X W) (I : Inv X pins σ H s) (r : Vals zs ws')
    (h : ∀ y dy, H y = none → H dy = none → dy ≠ y → sp0 (.ref y :: zs) (upd (upd H dy (.own y)) y (.ins C dy [])) (fun v H2 => v = .non ∧ Q (.ref y) H2) (WE W σ)) :
    wpAny (model X.prog X.w) X.A (call (.ref C) [] kw) (EP X pins σ Q) X.xe s := by
  have nw : H (s.heap.objs.size + 1) = none := I.hok.fresh (Nat.le_succ _)
  have nd : H s.heap.objs.size = none := I.hok.fresh (Nat.le_refl _)
  have q0 := h (s.heap.objs.size + 1) s.heap.objs.size nw nd (Nat.ne_of_lt (Nat.lt_succ_self _))
  have J := Inv.made (C := C) I
  have r2 : Vals (V.ref (s.heap.objs.size + 1) :: zs) (Value.ref (s.heap.objs.size + 1) :: ws') := Paired.cons rfl r
  refine wpAny_call (make_map (f := f) I.kIn M.makes M.init (beq_iff_eq.mp M.fn) (codeAny_mono (F.goes _ X.stack _ _ ⟨[Value.ref (s.heap.objs.size + 1)], kw⟩ (Value.ref (s.heap.objs.size + 1) :: ws') _ _ (WE W σ) (under_guards hA) (hr.make C [] kw)
    (J.env0.make C [] kw) (bd _ _) r2 q0) ?_))
  intro res s' z
  match res, z with
  | .error er, z => exact passAt tk σ pins _ _ er s' J z
  | .ok (.ret u), z =>
    obtain ⟨v, H', J', rv, ev, q3⟩ := J.after z
    subst ev
    exact ⟨rv, ⟨V.ref (s.heap.objs.size + 1), H', J', rfl, q3⟩⟩
  | .ok .next, z => exact z.elim
  | .ok .brk, z => exact z.elim
  | .ok .cont, z => exact z.elim
/-- a class made by keywords alone, whose __init__ may raise -/
structure MakXK (P : Program) (w : World) (K : PySem.W.Frag) (mg : Str → Option Value) (base : Heap) (x : Str) (C : Addr) (k : Nat) (ps : List Str) (sp : SpX) (ks : List Str) (js : List Nat) : Prop where
  ex : ∃ f fd, Mk K C f ∧ FnG P w K mg base (L2.CX P w) k f fd ps (SpOfX K sp) ∧ mg x = some (.ref C) ∧ PySem.W.keepIn K (.ref C) = true ∧
    ∀ (s : Shared) (u : Value) (ws : List Value), ws.length = ks.length → BindsTo s fd ⟨[u], ks.zip ws⟩ (ps.zip (u :: perm .none js [] ws))
theorem makX_mkK {P : Program} {w : World} {K : PySem.W.Frag} {mg : Str → Option Value} {base : Heap} {x qual : Str} {C : Addr} {st : Stmt} {N ps : List Str} {k : Nat} {sp : SpX} {ks : List Str} {js : List Nat} (d : DefI K C qual st) (hm : mg x = some (.ref C)) (sc : FnScope N ps (defScope st)) (len : ∀ ds G Q E, sp ds G Q E → ds.length = ps.length)
    (bi : ∀ (kV doc pm : Value) (an : Option Addr) (cdv ct : Value) (us : List Value), us.length = ps.length → bindArgs (PySem.W.fnOf "__init__" qual (defArgs st) (defBody st) (defScope st) .none kV doc pm an cdv ct) ⟨us, []⟩ = pure (ps.zip us))
    (bk : ∀ (kV doc pm : Value) (an : Option Addr) (cdv ct : Value) (us ws : List Value), us.length = 1 → ws.length = ks.length → bindArgs (PySem.W.fnOf "__init__" qual (defArgs st) (defBody st) (defScope st) .none kV doc pm an cdv ct) ⟨us, ks.zip ws⟩ = pure (ps.zip (us ++ perm .none js [] ws)))
    (hb : ∀ (f : Addr) (cdv : Value) (A : Around) (outer : List Env) (s : Shared) (H : Hp) (E : XK), A.guards = some [] → Room k (A.deeper (envOfC qual (defScope st) s.heap.objs.size f cdv)) →
      ∃ t', DPsX (cxOf (L2.CX P w) P w K mg base N qual (defScope st) f cdv A outer s H E) (defBody st) t' ∧ ∀ ds G Q E', sp ds G Q E' → t' (fin Q) (finX E') (dstart N ds) G) : MakX P w K mg base x C (k + 1) ps sp ∧ MakXK P w K mg base x C (k + 1) ps sp ks js := by
  obtain ⟨f, fd, Fu, M⟩ := d.ex
  have fn := fnX_mk (P := P) (w := w) (mg := mg) (base := base) Fu sc len (hb f)
  refine ⟨⟨f, fd, M, fn, hm, Fu.binds bi⟩, f, fd, M, fn, hm, M.kp, fun s u ws h2 => ?_⟩
  obtain ⟨oc, od, kV, doc, pm, an, cdv, ct, osl, rfl, lk, hcd⟩ := Fu.ex
  exact .of_eq (bk kV doc pm an cdv ct [u] ws rfl h2)
/-- C(k = v, ..), which may raise -/
theorem dex_makK {x : Str} {C : Addr} {k : Nat} {ps : List Str} {sp : SpX} {ks : List Str} {js : List Nat} {p : Pos} {kws : List Keyword} {tk : DTA} (c : MakXK X.prog X.w X.K X.mg X.base x C k ps sp ks js) (hA : X.A.guards = some []) (hr : Room (k + 1) X.A) (hw : DK X kws tk)
    (hg : Gl X x := by rfl) (hall : (backToKw pos (keywordEach kws X.env)).all (·.1.isSome) = true := by rfl) (hks : (backToKw pos (keywordEach kws X.env)).filterMap (·.1) = ks := by rfl)
    (hdb : (x == ("__debug__" : Str)) = false := by decide)
    (hpl : ((backTo pos (starEach [] X.env)).any (·.1) || (backToKw pos (keywordEach kws X.env)).any (·.1.isNone)) = false := by rfl) : DEX X (.Call (.Name x p) [] kws pos) (fun S G Q E => tk S G fun zs G1 => zs.length = ks.length ∧ ∀ y, G1 y = none → sp (.rf y :: perm .non js [] zs) (gput G1 y (.ins C [])) (fun d G2 => match d with
      | .non => Q (.rf y) G2
      | _ => False) E) := ⟨fun W tkW => by
  obtain ⟨f, fd, M, Fn, hm, hk, hb⟩ := c.ex
  obtain ⟨t2, p2, r2⟩ := hw.ex
  refine ⟨fun σ H Q => t2 σ H fun zs H1 => zs.length = ks.length ∧ ∀ y dy, H1 y = none → H1 dy = none → dy ≠ y → SpOfX X.K sp (.ref y :: perm .non js [] zs) (upd (upd H1 dy (.own y)) y (.ins C dy [])) (fun v H2 => v = .non ∧ Q (.ref y) H2) (WE W σ),
    ⟨fun pins s σ H Q I h => ?_⟩, fun F H σ S G o Q' E' h Q kk kx => ?_⟩
  · apply wpAny_Call_Name_kw
    refine ld_glob I hg hm ?_ hdb
    refine PySem.W.callWith_KW0 (h₀ := X.base) I.ok.mod.kin hk hall (thn (p2.run pos pins s σ H _ I h) ?_) hpl
    rintro ws s2 ⟨zs, H2, I2, rz, l2, q2⟩
    refine ⟨I2.kIn, ?_⟩
    rw [hks]
    exact goes_makeSK (ws := ws) M Fn hA hr (fun s3 u => hb s3 u ws (by rw [← rz.length]; exact l2)) tkW I2 (vals_perm .nil rz js) q2
  · refine r2 F H σ S G o _ h _ fun F1 H1 zs es G1 e1 g1 q1 h1 => ?_
    refine ⟨by rw [q1.length]; exact h1.1, ?_⟩
    intro y dy ny ndy ne
    have gr := Gr.only (u := .own y) g1.ex ndy
    have g2 := g1.grow gr
    have ny2 : upd H1 dy (.own y) y = none := by rw [upd_ne (fun z => ne z.symm)]; exact ny
    have g3 := g2.alloc (u := .ins C dy []) (o := .ins C []) ny2 rfl ⟨dy, [], upd_same, rfl, .nil⟩
    have go3 : Go F1 H1 G1 F1 _ (gput G1 y (.ins C [])) := (gr.go (G := G1)).trans (Go.alloc (u := .ins C dy []) (o := .ins C []) ny2)
    refine ⟨F1, _, .rf y :: perm .non js [] es, _, E', g3, .cons (.rf y) (reps_perm .nil q1 js), h1.2 y (g1.free ny), ?_, fun F' H' G' cls d C fs a b c q => kx F' H' G' cls d C fs ((e1.trans go3).trans a) b c q⟩
    intro F4 H4 v d G4 e4 g4 q4 h4
    split at h4
    · cases q4
      exact ⟨rfl, kk F4 H4 _ _ G4 ((e1.trans go3).trans e4) g4 (.rf y) h4⟩
    · exact h4.elim⟩
end
end DL
end
section
set_option Elab.async false
set_option linter.all false
set_option maxRecDepth 100000
set_option maxHeartbeats 4000000
namespace DL
open PySem PySem.Spec PyProof.Rows L2 ClX
section
variable {X : Cx} {pos : Pos}
def dForX (wi : DTI) (g : DTG) (tb : DTSX) : DTSX := fun D' E' S G => wi S G fun ds gd G1 => ∃ W : Nat → DS → GH → Prop, W 0 S G1 ∧ (∀ i S G, W i S G → gd G) ∧
  (∀ i S G d, W i S G → ds[i]? = some d → g d S G fun S2 G2 => tb { D' with nx := W (i + 1), ct := W (i + 1), bk := D'.nx } E' S2 G2) ∧ (∀ S G, W ds.length S G → D'.nx S G)
theorem dpx_for {tg iter : Expr} {body : List Stmt} {wi : DTI} {g : DTG} {tb : DTSX} (hp : PassesOwn (model X.prog X.w) X.A X.env X.xe) (hc : X.calm = true) (hi : DI X tg iter wi) (hg : DG X tg g) (hb : DPsX X body tb)
    (hs : ∀ x, foldedSetIterable iter X.env x = pure x := by intro _; rfl) : DPX X (.For tg iter body [] pos) (dForX wi g tb) := ⟨fun W0 tk => by
  obtain ⟨t0, p0, r0⟩ := hi.ex
  obtain ⟨t1, p1, r1⟩ := hg.ex
  obtain ⟨t2, p2, r2⟩ := hb.ex W0 tk
  refine ⟨_, ps_for hp hc p0 p1 p2 hs, fun F H σ S G o D' E' h D0 k kx => ?_⟩
  refine r0 F H σ S G o _ h _ fun F1 H1 G1 J ds gd e1 g1 it h1 => ?_
  obtain ⟨W, w0, wg, turn, done⟩ := h1
  refine ⟨fun i m σ2 H2 => i + m = ds.length ∧ ∃ F2 S2 G2, Go F1 H1 G1 F2 H2 G2 ∧ Ok X.K F2 H2 σ2 S2 G2 ∧ W i S2 G2, ⟨ds.length, Nat.zero_add _, F1, S, G1, Go.refl, o.go e1 g1, w0⟩, ?_⟩
  rintro i m σ2 H2 ⟨him, F2, S2, G2, e2, o2, w2⟩
  have gg := wg i S2 G2 w2
  cases m with
  | zero =>
    have hi : i = ds.length := him
    refine .inl ⟨hi ▸ it.stop F2 H2 G2 e2.ex o2.g gg, k.nx F2 H2 σ2 S2 G2 (e1.trans e2) o2 (done S2 G2 (hi ▸ w2))⟩
  | succ m =>
    have hlt : i < ds.length := by omega
    have hd : ds[i]? = some ds[i] := List.getElem?_eq_getElem hlt
    obtain ⟨ig, iy⟩ := it.go F2 H2 G2 i _ e2.ex o2.g gg hd
    refine .inr ⟨ig, fun σ3 H3 => ∃ F3 S3 G3, Go F1 H1 G1 F3 H3 G3 ∧ Ok X.K F3 H3 σ3 S3 G3 ∧ W (i + 1) S3 G3, fun σ3 H3 z => ⟨m, Nat.lt_succ_self m, by omega, z⟩, fun x H3 hy => ?_⟩
    obtain ⟨F3, e3, g3, q3⟩ := iy x H3 hy
    refine r1 F3 H3 σ2 S2 G2 x _ (o2.go e3 g3) q3 _ (turn i S2 G2 _ w2 hd) _ fun F4 H4 σ4 S4 G4 e4 o4 h4 => ?_
    have kk := k.mono (((e1.trans e2).trans e3).trans e4)
    have nn : KpN X.K F4 H4 G4 (W (i + 1)) (fun σ3 H3 => ∃ F3 S3 G3, Go F1 H1 G1 F3 H3 G3 ∧ Ok X.K F3 H3 σ3 S3 G3 ∧ W (i + 1) S3 G3) := fun F5 H5 σ5 S5 G5 e5 o5 w5 => ⟨F5, S5, G5, ((e2.trans e3).trans e4).trans e5, o5, w5⟩
    exact r2 F4 H4 σ4 S4 G4 o4 _ E' h4 _ ⟨nn, kk.rt, kk.nx, nn⟩ (kx.mono (((e1.trans e2).trans e3).trans e4))⟩
def ForXB (ds : List D) (gd : GH → Prop) (g : DTG) (tb : DTSX) (D' : DEnds) (E' : DS → DXQ) (S : DS) (G1 : GH) : Prop := ∃ W : Nat → DS → GH → Prop, W 0 S G1 ∧ (∀ i S G, W i S G → gd G) ∧
  (∀ i S G d, W i S G → ds[i]? = some d → g d S G fun S2 G2 => tb { D' with nx := W (i + 1), ct := W (i + 1), bk := D'.nx } E' S2 G2) ∧ (∀ S G, W ds.length S G → D'.nx S G)
theorem x_forX (wi : DTI) (g : DTG) (tb : DTSX) (D' : DEnds) (E' : DS → DXQ) (S : DS) (G : GH) : dForX wi g tb D' E' S G = wi S G fun ds gd G1 => ForXB ds gd g tb D' E' S G1 := rfl
end
end DL
end
section
set_option Elab.async false
set_option linter.all false
set_option maxRecDepth 100000
set_option maxHeartbeats 4000000
namespace DL
open PySem PySem.Spec PyProof.Rows L2
section
variable {P : Program} {w : World} {A : Around} {E : Value → Shared → Prop} {s : Shared} {a : Addr} {ks : List Str}
theorem call_set_txt (x : Str) (t : Tok) {Q : Value → Shared → Prop} (zh : A.handled = none) (zb : x.cps.size + 1 < scanBound)
    (h : ∀ (h' : Heap) (tk1 : Nat), SetS w h' s.heap.objs.size (firstsF (sgs x)) → (∀ b o, s.heap.get? b = some o → h'.get? b = some o) → Q (.ref s.heap.objs.size) { s with heap := h', toks := tk1 }) : wpAny (model P w) A (call (.type "set") [.str x t]) Q E s := by
  obtain ⟨zc, ztl, zmro⟩ := F.called_set.mro
  have zmade := F.called_set.made
  have zsub := F.called_set.sub
  (refine wpAny_call (codeAny_of_tree ?_))
  (show wpAny _ _ (callAny (.type "set") _) _ _ _)
  (refine wpAny_pure ⟨Code.quiet_builtin _ (by decide +kernel), codeAny_builtin F.entry_type_call ?_⟩)
  (rw [Around.under_plain (weight_type_call_type "set" [.str x t] []) rfl])
  have z1 := F.called_set.notType
  have z2 := F.called_set.canCreate
  have zct := F.typeCall_set_1 (.str x t)
  (repeat (any_goals (first | assumption | wp_step)))
  refine codeAny_mono (code_set_led1 (.str x t) (E := E) (Q₁ := fun ob s1 => ob = .ref s.heap.objs.size ∧ s1 = { s with heap := s.heap.push (eSet w) }) ⟨rfl, rfl⟩) fun r s1 zr => ?_
  cases r with
  | error e => exact zr
  | ok fl1 =>
    cases fl1 with
    | ret ob =>
      obtain ⟨rfl, rfl⟩ := zr
      have zS : (s.heap.push (eSet w)).get? s.heap.objs.size = some (eSet w) := Heap.get?_push_size _ rfl
      have zT : Shared.TypeIs { s with heap := s.heap.push (eSet w) } (.ref s.heap.objs.size) "set" := ⟨_, zS, rfl⟩
      have zli := F.called_set.init.lookup
      have zbi := F.called_set.init.bind (.ref s.heap.objs.size)
      (repeat (any_goals (first | assumption | wp_step)))
      refine codeAny_mono (codeAny_call_builtin (R := wants (fun r s2 => r = .none ∧ ∃ h' tk1, s2 = { s with heap := h', toks := tk1 } ∧ SetS w h' s.heap.objs.size (firstsF (sgs x)) ∧
          (∀ b o, s.heap.get? b = some o → h'.get? b = some o)) E) F.called_set.init.plain F.entry_set_init (check_set_init_1 zT ?_)) fun r2 s2 zr2 => ?_
      · have zs1 := PySem.F.sub_str_set
        have zs2 := PySem.F.sub_str_frozenset
        have zne : (Value.type "str" == Value.type "dict") = false := by decide
        (unfold Builtin.«set.__init__» noKeywords Builtin.Frozenset.updateFrom)
        generalize zPI : pyIter = ZI
        wp_walk
        subst zPI
        refine wpAny_pyIter_str fun o St zW zSt => ?_
        (refine wpAny_bind (wpAny_runValue ?_))
        have zh3 : A.in1.in1.in1.handled = none := by simp [zh]
        have zSf : s.heap.objs.size ∉ [(s.heap.push (eSet w)).objs.size] := by
          (rw [Heap.size_push]; simp only [List.mem_singleton])
          exact Nat.ne_of_lt (Nat.lt_succ_self _)
        have zval : ∀ (i : Nat) (v : Value), SignAt x i v → ∃ k t, (sgs x)[i]? = some k ∧ v = .str k t := fun i v zv => by
          obtain ⟨c, t', h1, h2⟩ := zv
          exact ⟨sgn c, t', by unfold sgs; rw [List.getElem?_map, Array.getElem?_toList, h1]; rfl, h2⟩
        refine sets_loop ((zW _ zh3).toS) s.heap.objs.size
          zSf (sgs x) (sgs_len x).symm (by rw [sgs_len]; exact zb) zval (x.cps.size - 0) 0 _ (by omega) (Nat.zero_le _)
          zSt ?hS0 ?hR
        case hS0 =>
          have zget : ((s.heap.push (eSet w)).push o).get? s.heap.objs.size = some (eSet w) := Heap.get?_push_of_some _ zS
          exact sets_new zget
        case hR =>
          intro s' zm zS'
          obtain ⟨h', q2, q3, q4, q5⟩ := s'
          have y1 : q2 = s.gens := zm.gens
          have y2 : q3 = s.drawn := zm.drawn
          have y3 : q5 = s.os := zm.os
          subst y1; subst y2; subst y3
          show wpAny _ _ _ _ _ _
          refine wpAny_pure ?_
          (show wpAny _ _ (ret Value.none) _ _ _)
          refine wpAny_pure ⟨rfl, h', q4, rfl, zS', fun b o e => ?_⟩
          have y4 : b < s.heap.objs.size := Heap.lt_size e
          have y5 : b ≠ s.heap.objs.size := Nat.ne_of_lt y4
          have y6 : b ≠ (s.heap.push (eSet w)).objs.size := by
            rw [Heap.size_push]; exact Nat.ne_of_lt (Nat.lt_succ_of_lt y4)
          exact zm.heap b _ (by simp only [List.mem_cons, List.mem_singleton, List.not_mem_nil, or_false, not_or]; exact ⟨y5, y6⟩) (Heap.get?_push_of_some _ (Heap.get?_push_of_some _ e))
      · cases r2 with
        | error e => exact zr2
        | ok fl2 =>
          cases fl2 with
          | ret r =>
            obtain ⟨rfl, h', tk1, rfl, zS', zk'⟩ := zr2
            (repeat (any_goals (first | assumption | wp_step)))
            exact h _ _ zS' zk'
          | _ => exact zr2.elim
    | _ => exact zr.elim
end
section
variable {X : Cx} {pos : Pos}
def rSetTxV (w : World) : List V → Hp → VK → Prop := fun vs H Q => ∃ x : Str, vs = [V.str x] ∧ x.cps.size ≤ 4000 ∧ ∀ p, H p = none → Q (.ref p) (upd H p (SetSO w p (firstsF (sgs x))))
theorem cr_setTx (hc : X.calm = true) : CallR X (.type "set") (rSetTxV X.w) := by
  intro pins s σ H vs us Q I r h
  obtain ⟨x, rfl, hl, q⟩ := h
  obtain ⟨u, rfl, t, rfl⟩ := vals1 r
  refine call_set_txt x t (I.ok.hd hc) (by unfold scanBound; omega) fun h' tk R k => ?_
  exact ⟨.ref _, _, I.laid (t' := tk) k (Nat.le_refl _) (setSO_new R), rfl, q _ (I.hok.fresh (Nat.le_refl _))⟩
def dSortSetTx (te : DTE) : DTE := fun S G Q => te S G fun d G1 => match d with
  | .str x => x.cps.size ≤ 4000 ∧ (firstsF (sgs x)).length ≤ 1000 ∧ ∀ ys : List Str, ys.Perm (firstsF (sgs x)) → sortedS ys = true → Q (.lst (ys.map .str)) G1
  | _ => False
theorem de_sortSetTx {e : Expr} {te : DTE} {p q p2 : Pos} (hc : X.calm = true) (hg : Gl X "sorted") (hm : X.mg "sorted" = none) (hg2 : Gl X "set") (hm2 : X.mg "set" = none) (ha : DE X e te)
    (na : starEach [e] X.env = (false, eval e X.env) :: starEach [] X.env := by rfl)
    (nb : starEach [.Call (.Name "set" p2) [e] [] q] X.env = (false, eval (.Call (.Name "set" p2) [e] [] q) X.env) :: starEach [] X.env := by rfl) : DE X (.Call (.Name "sorted" p) [.Call (.Name "set" p2) [e] [] q] [] pos) (dSortSetTx te) := by
  obtain ⟨t, p1, r1⟩ := ha.ex
  have ps := pe_callTy (pos := q) (p := p2) (cr_setTx hc) hg2 hm2 PyProof.Rows.boot_set (pa_cons p1 pa_nil na) (by decide) (by decide) na (by rfl)
  have pp := pe_callB (pos := pos) (p := p) (cr_sortedSS hc) hg hm PyProof.Rows.boot_sorted (pa_cons ps pa_nil nb) (by decide) (by decide) nb (by rfl)
  refine ⟨_, pp, fun F H σ S G o Q' h Q k => ?_⟩
  refine r1 F H σ S G o _ h _ fun F1 H1 v d G1 e1 g1 q1 h1 => ?_
  dsimp only at h1
  split at h1
  · rename_i x
    obtain ⟨h1, h2, h3⟩ := h1
    cases q1
    refine ⟨x, rfl, h1, fun z hz => ?_⟩
    refine ⟨z, _, rfl, upd_same, h2, fun ys z2 hs hk hz2 => ?_⟩
    have gr1 : Gr F1 H1 F1 (upd H1 z (SetSO X.w z (firstsF (sgs x)))) := ⟨Ex.refl _, g1.ex.trans (Ex.new hz), Ex.new hz, fun _ _ _ w => w⟩
    have g2 := g1.grow gr1
    have gr2 := Gr.new (u := .lst (ys.map V.str)) g2.ex hz2
    exact k _ _ _ _ G1 (e1.trans (gr1.go.trans gr2.go)) (g2.grow gr2) (.lst upd_same (Reps.strs _)) (h3 ys hs hk)
  · exact h1.elim
def rListTyV : List V → Hp → VK → Prop := fun vs H Q => ∃ x : Str, vs = [V.str x] ∧ x.length ≤ 5000 ∧ ∀ p : Addr, H p = none → Q (.ref p) (upd H p (.lst ((sgs x).map V.str)))
theorem cr_listTy (hc : X.calm = true) : CallR X (.type "list") rListTyV := by
  intro pins s σ H vs us Q I r q
  obtain ⟨x, rfl, hl, q⟩ := q
  obtain ⟨u, rfl, t, rfl⟩ := vals1 r
  have hx : x.cps.size ≤ sizeLine := by rw [sizeLine_eq]; exact Nat.le_trans hl (by decide)
  refine call_list_str (I.ok.hd hc) x t (fun h' tk acc c hk hS hacc => ?_) hx
  exact ⟨.ref _, _, I.laid (t' := tk) hk (Nat.le_refl _) (show ObjOk X.prog X.w _ _ _ (.lst _) from ⟨by rw [List.length_map, sgs_len]; exact hx, acc.toList, c, vals_of_strs (strs_sgs hacc), by simpa using hS⟩), rfl, q _ (I.hok.fresh (Nat.le_refl _))⟩
def rListTy (ds : List D) (G : GH) (Q : DQ) : Prop := match ds with
  | [.str x] => x.length ≤ 5000 ∧ Q (.lst ((sgs x).map .str)) G
  | _ => False
theorem cd_listTy (hc : X.calm = true) : CallD X (.type "list") rListTy := by
  refine ⟨_, cr_listTy hc, fun F H G vs ds g rs Q' h Q k => ?_⟩
  unfold rListTy at h
  split at h
  · rename_i x
    cases rs with
    | cons r b =>
      cases b
      cases r
      refine ⟨x, rfl, h.1, fun p hp => ?_⟩
      have gr := Gr.new (u := .lst ((sgs x).map V.str)) g.ex hp
      exact k _ _ _ _ G gr.go (g.grow gr) (.lst upd_same (Reps.strs _)) h.2
  · exact h.elim
end
end DL
end
section
set_option Elab.async false
set_option linter.all false
set_option maxRecDepth 100000
set_option maxHeartbeats 4000000
namespace Pace
open PySem PySem.Spec PyProof.Rows L2 DL
section
variable {P : Program} {w : World} {K : PySem.W.Frag} {mg : Str → Option Value} {base : Heap} {C PT cT : Addr}
theorem asc_of01 {es : List Nat} (nd : es.Nodup) (so : sortedS (es.map sgn) = true) : es.Pairwise (· < ·) := by
  cases es with
  | nil => exact .nil
  | cons a l =>
    have h := rising_sgn l a so nd
    have := nbr_pair (fun a b c h1 h2 => by simp only [decide_eq_true_eq] at h1 h2 ⊢; omega) _ h
    exact this.imp fun z => of_decide_eq_true z
def spSigns01 : SpD := fun ds G Q => ∃ d : D, ds = [d] ∧ AnyV d ∧ Q (.bl (lettB d)) G
abbrev N__law_are_signs : List Str := ["_law_it", "_law_c"]
theorem sc__law_are_signs : FnScope N__law_are_signs ["_law_it"] (defScope s__law_are_signs) := ⟨rfl, rfl, rfl, by decide +kernel, rfl, by decide +kernel, by decide +kernel⟩
theorem c__law_are_signs (T : Txt K mg C) (d : Def K mg "_law_are_signs" s__law_are_signs) : Cal P w K mg base "_law_are_signs" 1 ["_law_it"] (spSigns01) := by
  refine cal_mk (N := N__law_are_signs) d sc__law_are_signs (fun ds G Q h => ?_) (fun _ _ _ _ _ _ us hl => match us, hl with | [_], _ => rfl) (fun f cdv A outer s H E hg hr => ?_)
  · obtain ⟨d, rfl, _⟩ := h
    rfl
  · have hu := hu100 hr
    have nd := sc__law_are_signs.nd
    have hA := deeper_guards (env := envOfC "_law_are_signs" (defScope s__law_are_signs) s.heap.objs.size f cdv) hg
    refine ⟨_, (dps_cons (dp_if (DW.dt (dw_or (dt_not (dt_val (de_callB cd_isi rfl T.f_isinstance (by decide +kernel) (da_cons (de_var 0) (da_cons (de_ty (T := "str") rfl T.f_str (by decide +kernel)) da_nil))))) (dw_or (dt_cmp (od_eq hu) (de_var 0) de_str (nomark _)) (dw_or1 (dt_cmp (od_neNil hu) (de_lc (own := [("_law_c", 1)]) (p := (.nm 1)) rfl nd (di_str (de_var 0)) (blkOk_by (by show blkC N__law_are_signs (defScope s__law_are_signs) _ _ = true; decide +kernel)) (by decide) (fun _ _ _ _ _ => pg_name (i := 1) nd rfl (Or.inl rfl)) (fun _ _ _ _ _ => (dts_one (dt_cmp (od_notIn hu) (de_var 1) de_str (by rfl)))) (fun _ _ _ _ _ => (de_var 1))) (de_lst da_nil) (nomark _))))))
  (dps_one (dp_ret de_bl))
  dps_nil)
  (dps_one (dp_ret (de_cmp (od_eq hu) (de_callTy (cd_listTy rfl) rfl T.f_list (by decide +kernel) (da_cons (de_var 0) da_nil)) (de_sortSetTx rfl rfl T.f_sorted rfl T.f_set (de_var 0)) (nomark _))))), fun ds G Q h => ?_⟩
    obtain ⟨d, rfl, av, q⟩ := h
    rw [show dstart N__law_are_signs [d] = [some (d), none] from rfl]
    cases av with
    | str w hl =>
      have q : Q (.bl (lettersB w)) G := q
      have eS : ∀ (G : GH) (x : Str), D.cur G (.str x) = .str x := fun _ _ => rfl
      simp only [dxs, dl, dx3, Bool.not_true, Bool.false_eq_true, if_false]
      refine ⟨okE_str _ _, ?_⟩
      by_cases h0 : w = []
      · subst h0
        rw [if_pos (by rw [str_nil, eqv_str]; simp), if_pos trivial]
        exact ⟨_, Sub.refl _, q⟩
      · have ne0 : (D.str (strOf w)).eqv (D.str (Str.ofString "")) = false := by
          rw [str_nil, eqv_str, beq_eq_false_iff_ne]
          exact fun h => h0 (strOf_inj h)
        rw [if_neg (by rw [ne0]; simp)]
        refine lc_someA w (fun c => .str (sgn c)) (fun c => !decide (c ∈ abc)) (fun c => .str (sgn c)) (signs_map _) (sz (by omega)) trivial (fun c hc => ⟨_, rfl, fun Q z => ?_, fun _ Q z => ?_⟩) ?_
        · simp only [dxs, dl, dwipe, List.map_cons, List.map_nil, abc_str, eS, inn_str, strIn_sgn]
          exact z
        · simp only [dxs, dl, dwipe, List.map_cons, List.map_nil]
          exact z
        · refine ⟨Nat.zero_le _, ?_⟩
          have ecL : ∀ (G : GH) (xs : List D), D.cur G (.lst xs) = .lst xs := fun _ _ => rfl
          simp only [rNil, ecL]
          rw [if_pos trivial, emp_all01]
          by_cases ha : w.all (fun c => decide (c ∈ abc)) = true
          · rw [ha, if_neg (by simp)]
            have hab : ∀ c ∈ w, c ∈ abc := fun c hc => of_decide_eq_true (List.all_eq_true.mp ha c hc)
            have esg : sgs (strOf w) = w.map sgn := by simp [sgs, strOf]
            refine ⟨by rw [strOf_len]; omega, ?_⟩
            simp only [dSortSetTx, dxs, dl]
            rw [esg]
            have lf : (firstsF (w.map sgn)).length ≤ 1000 := by
              have := List.Nodup.length_le_of_subset (firstsF_nodup (w.map sgn)) (l₂ := abc.map sgn) fun x hx => by
                obtain ⟨c, hc, rfl⟩ := List.mem_map.mp (firstsF_mem.mp hx)
                exact List.mem_map.mpr ⟨c, hab c hc, rfl⟩
              have e : (abc.map sgn).length = 26 := by decide +kernel
              omega
            refine ⟨by show (strOf w).length ≤ 4000; rw [strOf_len]; omega, lf, fun ys pm so => ?_⟩
            obtain ⟨es, rfl⟩ := unsgn (ys := ys) fun y hy => by
              obtain ⟨c, _, rfl⟩ := List.mem_map.mp (firstsF_mem.mp (pm.mem_iff.mp hy))
              exact ⟨c, rfl⟩
            have nde : es.Nodup := by
              have nd : (es.map sgn).Nodup := pm.nodup_iff.mpr (firstsF_nodup _)
              rw [List.Nodup, List.pairwise_map] at nd
              exact nd.imp fun h z => h (by rw [z])
            have asc := asc_of01 nde so
            have hmem : ∀ c, c ∈ es ↔ c ∈ w := fun c => by
              constructor
              · intro hc
                obtain ⟨x, hx, e⟩ := List.mem_map.mp (firstsF_mem.mp (pm.mem_iff.mp (List.mem_map.mpr ⟨c, hc, rfl⟩)))
                rw [← sgn_inj e]; exact hx
              · intro hc
                obtain ⟨x, hx, e3⟩ := List.mem_map.mp (pm.mem_iff.mpr (firstsF_mem.mpr (List.mem_map.mpr ⟨c, hc, rfl⟩)))
                rw [← sgn_inj e3]; exact hx
            have si_ : ∀ l : List Nat, (D.lst ((l.map sgn).map D.str)).si = true := fun l => sis_all.mpr fun x hx => by
              obtain ⟨y, hy, rfl⟩ := List.mem_map.mp hx
              rfl
            have dp_ : ∀ l : List Nat, (D.lst ((l.map sgn).map D.str)).dp ≤ 60 := fun l => by
              have : D.dps ((l.map sgn).map D.str) ≤ 1 := dps_le fun x hx => by
                obtain ⟨y, hy, rfl⟩ := List.mem_map.mp hx
                simp [D.dp]
              simp only [D.dp]; omega
            refine ⟨okE_si (si_ w) (si_ es) (dp_ w), _, Sub.refl _, ?_⟩
            have ev : D.eqv (.lst ((w.map sgn).map D.str)) (.lst ((es.map sgn).map D.str)) = lettersB w := by
              rw [Bool.eq_iff_iff, eqv_si (si_ w) (si_ es)]
              constructor
              · intro e
                have e2 : w = es := by
                  simp only [D.lst.injEq] at e
                  have e3 := List.map_inj_right (fun _ _ z => by simpa using z) |>.mp e
                  exact List.map_inj_right (fun _ _ z => sgn_inj z) |>.mp e3
                unfold lettersB
                simp only [Bool.and_eq_true, ha, and_true, Bool.not_eq_true', List.isEmpty_eq_false_iff]
                exact ⟨h0, nbr_of_pair (by rw [e2]; exact asc.imp fun h => decide_eq_true h)⟩
              · intro e
                have := sorted_ext (letters_lt e) asc fun k => (hmem k).symm
                rw [← this]
            rw [ev]
            exact q
          · rw [if_pos (by simpa using ha)]
            have e : lettersB w = false := by
              unfold lettersB
              simp only [Bool.not_eq_true] at ha
              simp [ha]
            rw [e] at q
            exact ⟨_, Sub.refl _, q⟩
    | _ => exact ⟨_, Sub.refl _, q⟩
end
section
variable {P : Program} {w : World} {K : PySem.W.Frag} {mg : Str → Option Value} {base : Heap} {C PT cT : Addr}
def spLIsWhole44 : SpD := fun ds G Q => ∃ x : D, ds = [x] ∧ AnyV x ∧ Q (.bl (wholeB x)) G
abbrev N__law_is_whole : List Str := ["_law_it"]
theorem sc__law_is_whole : FnScope N__law_is_whole ["_law_it"] (defScope s__law_is_whole) := ⟨rfl, rfl, rfl, by decide +kernel, rfl, by decide +kernel, by decide +kernel⟩
theorem c__law_is_whole (T : Txt K mg C) (d : Def K mg "_law_is_whole" s__law_is_whole) : Cal P w K mg base "_law_is_whole" 1 ["_law_it"] (spLIsWhole44) := by
  refine cal_mk (N := N__law_is_whole) d sc__law_is_whole (fun ds G Q h => ?_) (fun _ _ _ _ _ _ us hl => match us, hl with | [_], _ => rfl) (fun f cdv A outer s H E hg hr => ?_)
  · obtain ⟨x, rfl, _⟩ := h
    rfl
  · have hu := hu100 hr
    have nd := sc__law_is_whole.nd
    have hA := deeper_guards (env := envOfC "_law_is_whole" (defScope s__law_is_whole) s.heap.objs.size f cdv) hg
    refine ⟨_, (dps_one (dp_ret (de_and (de_callB cd_isi rfl T.f_isinstance (by decide +kernel) (da_cons (de_var 0) (da_cons (de_ty (T := "int") rfl T.f_int (by decide +kernel)) da_nil))) (de_one (de_not (de_callB cd_isi rfl T.f_isinstance (by decide +kernel) (da_cons (de_var 0) (da_cons (de_ty (T := "bool") rfl T.f_bool (by decide +kernel)) da_nil)))))))), fun ds G Q h => ?_⟩
    obtain ⟨x, rfl, av, q⟩ := h
    rw [show dstart N__law_is_whole [x] = [some (x)] from rfl]
    cases av <;> (simp only [dxs, dl, dx3, Bool.not_false, Bool.not_true, if_true, Bool.false_eq_true, if_false]; exact ⟨_, Sub.refl _, q⟩)
end
end Pace
end
section
set_option Elab.async false
set_option linter.all false
set_option maxRecDepth 100000
set_option maxHeartbeats 4000000
namespace Pace
open PySem PySem.Spec PyProof.Rows L2 DL
section
variable {P : Program} {w : World} {K : PySem.W.Frag} {mg : Str → Option Value} {base : Heap} {C PT cT : Addr}
def spLine01 : SpD := fun ds G Q => ∃ (hs ws : List Nat) (n : Nat) (d : D), ds = [d, .int (n : Int), .str (strOf hs), .str (strOf ws)] ∧ AnyW d ∧ (∀ ys, d = .tup ys → ys.length ≤ 60) ∧ Q (.bl (rowAB hs ws n d)) G
abbrev N__law_is_line : List Str := ["_law_it", "_law_count", "_law_hs", "_law_cs", "_law_move_now", "_law_keys"]
theorem sc__law_is_line : FnScope N__law_is_line ["_law_it", "_law_count", "_law_hs", "_law_cs"] (defScope s__law_is_line) := ⟨rfl, rfl, rfl, by decide +kernel, rfl, by decide +kernel, by decide +kernel⟩
theorem c__law_is_line (T : Txt K mg C) (d : Def K mg "_law_is_line" s__law_is_line) (C__law_is_whole : Cal P w K mg base "_law_is_whole" 1 ["_law_it"] (spLIsWhole44)) : Cal P w K mg base "_law_is_line" 2 ["_law_it", "_law_count", "_law_hs", "_law_cs"] (spLine01) := by
  refine cal_mk (N := N__law_is_line) d sc__law_is_line (fun ds G Q h => ?_) (fun _ _ _ _ _ _ us hl => match us, hl with | [_, _, _, _], _ => rfl) (fun f cdv A outer s H E hg hr => ?_)
  · obtain ⟨hs, ws, n, d, rfl, _⟩ := h
    rfl
  · have hu := hu100 hr
    have nd := sc__law_is_line.nd
    have hA := deeper_guards (env := envOfC "_law_is_line" (defScope s__law_is_line) s.heap.objs.size f cdv) hg
    refine ⟨_, (dps_cons (dp_if (dt_not (dt_val (de_callB cd_isi rfl T.f_isinstance (by decide +kernel) (da_cons (de_var 0) (da_cons (de_ty (T := "tuple") rfl T.f_tuple (by decide +kernel)) da_nil)))))
  (dps_one (dp_ret de_bl))
  dps_nil)
  (dps_cons (dp_for PassesOwn.never rfl (di_tup (de_var 0)) (dg_name 4 nd)
  (dps_cons (dp_if (DW.dt (dw_or (dt_not (dt_val (de_callB cd_isi rfl T.f_isinstance (by decide +kernel) (da_cons (de_var 4) (da_cons (de_ty (T := "tuple") rfl T.f_tuple (by decide +kernel)) da_nil))))) (dw_or (dt_cmp (od_ne hu) (de_callB cd_len rfl T.f_len (by decide +kernel) (da_cons (de_var 4) da_nil)) de_int (nomark _)) (dw_or1 (dt_not (dt_val (de_cal C__law_is_whole hA (hr.mono (by decide)) (da_cons (de_ix hu (de_var 4) de_int) da_nil))))))))
  (dps_one (dp_ret de_bl))
  dps_nil)
  (dps_cons (dp_if (DW.dt (dw_or (dt_not (dt_val (de_callB cd_isi rfl T.f_isinstance (by decide +kernel) (da_cons (de_ix hu (de_var 4) de_int) (da_cons (de_ty (T := "str") rfl T.f_str (by decide +kernel)) da_nil))))) (dw_or (dt_not (dt_val (de_callB cd_isi rfl T.f_isinstance (by decide +kernel) (da_cons (de_ix hu (de_var 4) de_int) (da_cons (de_ty (T := "str") rfl T.f_str (by decide +kernel)) da_nil))))) (dw_or1 (dt_not (dt_chain (od_le hu) (od_lt hu) de_int (de_ix hu (de_var 4) de_int) (de_var 1)))))))
  (dps_one (dp_ret de_bl))
  dps_nil)
  (dps_one (dp_if (DW.dt (dw_or (dt_cmp (od_ne hu) (de_callB cd_len rfl T.f_len (by decide +kernel) (da_cons (de_ix hu (de_var 4) de_int) da_nil)) de_int (nomark _)) (dw_or (dt_cmp (od_ne hu) (de_callB cd_len rfl T.f_len (by decide +kernel) (da_cons (de_ix hu (de_var 4) de_int) da_nil)) de_int (nomark _)) (dw_or (dt_cmp (od_notIn hu) (de_ix hu (de_var 4) de_int) (de_var 2) (by rfl)) (dw_or1 (dt_cmp (od_notIn hu) (de_ix hu (de_var 4) de_int) (de_var 3) (by rfl)))))))
  (dps_one (dp_ret de_bl))
  dps_nil)))))
  (dps_cons (dp_setLc (i := 5) (own := [("_law_move_now", 4)]) (p := (.nm 4)) rfl nd rfl rfl (sw_true rfl rfl rfl (by decide +kernel)) (di_tup (de_var 0)) (blkOk_by (by show blkC N__law_is_line (defScope s__law_is_line) _ _ = true; decide +kernel)) (by decide) (fun _ _ _ _ _ => pg_name (i := 4) nd rfl (Or.inl rfl)) (fun _ _ _ _ _ => dts_nil) (fun _ _ _ _ _ => (de_slice (de_var 4) do_none (do_some de_int))))
  (dps_one (dp_ret (de_cmp (od_eq hu) (de_var 5) (de_sortSetK hu rfl rfl T.f_sorted rfl T.f_set (de_var 5)) (nomark _))))))), fun ds G Q h => ?_⟩
    obtain ⟨hs, ws, n, d, rfl, aw, t60, q⟩ := h
    rw [show dstart N__law_is_line [d, .int (n : Int), .str (strOf hs), .str (strOf ws)] = [some (d), some (.int (n : Int)), some (.str (strOf hs)), some (.str (strOf ws)), none, none] from rfl]
    have av := aw.any
    cases av with
    | tup xs =>
      have xl := t60 xs rfl
      have eI : ∀ (G : GH) (x : Int), D.cur G (.int x) = .int x := fun _ _ => rfl
      have qE : rowAB hs ws n (.tup xs) = (xs.all (moveB01 hs ws n) && nbr mvLt (xs.map mvOf)) := rfl
      simp only [dxs, dl, dx3, Bool.not_true, Bool.false_eq_true, if_false, true_and]
      refine ⟨fun i S' G' => ∃ (x4 x5 : Option D), S' = [some (.tup xs), some (.int (n : Int)), some (.str (strOf hs)), some (.str (strOf ws)), x4, x5] ∧ G = G' ∧ (xs.take i).all (moveB01 hs ws n) = true, ⟨_, _, rfl, rfl, rfl⟩, fun _ _ _ _ => trivial, ?_, ?_⟩
      · rintro i S' _ d ⟨x4, x5, rfl, rfl, ha⟩ hd
        have hm := List.mem_of_getElem? hd
        have good : moveB01 hs ws n d = true → (xs.take (i + 1)).all (moveB01 hs ws n) = true := fun g => by
          rw [take_step hd, List.all_append, ha]
          simp [g]
        have bad : moveB01 hs ws n d = false → (fin Q).rt (.bl false) G := fun g => by
          have : xs.all (moveB01 hs ws n) = false := by
            rw [List.all_eq_false]
            exact ⟨d, hm, by simp [g]⟩
          rw [qE, this, Bool.false_and] at q
          exact ⟨_, Sub.refl _, q⟩
        have ad := aw.item hm
        have adv := ad.any
        simp only [dxs, dl, dx3]
        cases adv with
        | tup ys =>
          simp only [dx3, dxs, dl, Bool.not_true, Bool.false_eq_true, if_false, eI, okE_int, true_and]
          by_cases hy : ys.length = 3
          · obtain ⟨a, b, t, rfl⟩ : ∃ a b t, ys = [a, b, t] := by
              match ys, hy with
              | [a, b, t], _ => exact ⟨_, _, _, rfl⟩
            have i0 : D.item (.tup [a, b, t]) (.int 0) = some a := rfl
            have i1 : D.item (.tup [a, b, t]) (.int 1) = some b := rfl
            have i2 : D.item (.tup [a, b, t]) (.int 2) = some t := rfl
            have e1 : D.eqv (.int (([a, b, t].length : Nat) : Int)) (.int 3) = true := by rw [eqv_int]; rfl
            rw [e1]
            simp only [Bool.not_true, Bool.false_eq_true, if_false, i0, i1, i2]
            have aa := (ad.item (x := a) (by simp)).any
            have ab := (ad.item (x := b) (by simp)).any
            refine ⟨t, rfl, (ad.item (by simp)).any, ?_⟩
            simp only
            cases hw : wholeB t with
            | false =>
              simp only [Bool.not_false, if_true]
              exact bad (moveB_whole hw)
            | true =>
              obtain ⟨i, rfl⟩ := whole_int hw
              simp only [Bool.not_true, Bool.false_eq_true, if_false]
              cases aa with
              | str as al =>
                cases ab with
                | str bs bl =>
                  have la : (strOf as).length ≤ sizeLine := by rw [strOf_len]; exact sz (by omega)
                  have lb : (strOf bs).length ≤ sizeLine := by rw [strOf_len]; exact sz (by omega)
                  simp only [dx3, dxs, dl, eI, okL_int, DL.lt_int, true_and, Bool.not_true, Bool.false_eq_true, if_false, DL.len_str la, DL.len_str lb, strOf_len, okE_int, eqv_int]
                  by_cases r0 : 0 ≤ i
                  · rw [if_pos (by simp; omega)]
                    by_cases rn : i < (n : Int)
                    · rw [if_neg (by simp; omega)]
                      by_cases la1 : as.length = 1
                      · rw [if_neg (by rw [la1]; decide)]
                        obtain ⟨x, rfl⟩ := List.length_eq_one_iff.mp la1
                        by_cases lb1 : bs.length = 1
                        · rw [if_neg (by rw [lb1]; decide)]
                          obtain ⟨y, rfl⟩ := List.length_eq_one_iff.mp lb1
                          have e2 : ∀ x, strOf [x] = sgn x := fun _ => rfl
                          simp only [e2, inn_str, strIn_sgn]
                          by_cases hx : x ∈ hs
                          · rw [decide_eq_true hx]
                            simp only [Bool.not_true, Bool.false_eq_true, if_false]
                            by_cases hy : y ∈ ws
                            · rw [decide_eq_true hy]
                              simp only [Bool.not_true, Bool.false_eq_true, if_false]
                              refine ⟨_, _, rfl, good ?_⟩
                              show (decide (x ∈ hs) && decide (y ∈ ws) && (decide (0 ≤ i) && decide (i < (n : Int)))) = true
                              rw [decide_eq_true hx, decide_eq_true hy, decide_eq_true r0, decide_eq_true rn]
                              rfl
                            · rw [decide_eq_false hy]
                              simp only [Bool.not_false, if_true]
                              refine bad (moveB_no (.inr (.inl ?_)))
                              show decide (y ∈ ws) = false
                              exact decide_eq_false hy
                          · rw [decide_eq_false hx]
                            simp only [Bool.not_false, if_true]
                            refine bad (moveB_no (.inl ?_))
                            show decide (x ∈ hs) = false
                            exact decide_eq_false hx
                        · rw [if_pos (by simpa using fun e => lb1 (by exact_mod_cast e)), if_pos trivial]
                          exact bad (moveB_no (.inr (.inl (lofB_len lb1))))
                      · rw [if_pos (by simpa using fun e => la1 (by exact_mod_cast e)), if_pos trivial]
                        exact bad (moveB_no (.inl (lofB_len la1)))
                    · rw [if_pos (by simp; omega)]
                      exact bad (moveB_no (.inr (.inr (.inr (by omega)))))
                  · rw [if_neg (by simp; omega)]
                    simp only [Bool.not_false, if_true]
                    exact bad (moveB_no (.inr (.inr (.inl (by omega)))))
                | _ => exact bad (moveB_no (.inr (.inl rfl)))
              | _ => exact bad (moveB_no (.inl rfl))
          · have e1 : D.eqv (.int ((ys.length : Nat) : Int)) (.int 3) = false := by rw [eqv_int, beq_eq_false_iff_ne]; omega
            rw [e1]
            simp only [Bool.not_false, if_true]
            exact bad (moveB_len hy)
        | _ => exact bad rfl
      · rintro S' _ ⟨x4, x5, rfl, rfl, ha⟩
        rw [List.take_length] at ha
        rw [qE, ha, Bool.true_and] at q
        simp only [dxs, dl, dx3]
        obtain ⟨ex, _⟩ := rowA_row (List.all_eq_true.mp ha)
        have nk := nbr_kys (xs.map mvOf)
        have ml : (xs.map mvOf).length ≤ 60 := by rw [List.length_map]; exact xl
        generalize xs.map mvOf = ms at ex nk ml q
        refine lc_mapA ms Mv.d (fun m => kyD (kyOf m)) ex (sz (by omega)) trivial (fun m _ => ⟨_, rfl, fun Q z => ?_⟩) ?_
        · simp only [dxs, dl, dwipe, List.map_cons, List.map_nil]
          exact z
        · have em : ms.map (fun m => kyD (kyOf m)) = (ms.map fun m => kyK (kyOf m)).map ktD := by rw [List.map_map]; rfl
          simp only [dSortSetK, dxs, dl]
          have ecL : ∀ (G : GH) (xs : List D), D.cur G (.lst xs) = .lst xs := fun _ _ => rfl
          try simp only [ecL]
          rw [em, keyss_ktD]
          refine ⟨by rw [List.length_map]; omega, fun zs hz => ?_, fun zs nd mem => ?_⟩
          · obtain ⟨ls, rfl⟩ := ky_list (zs := zs) fun k hk => by
              obtain ⟨m, _, rfl⟩ := List.mem_map.mp (hz k hk)
              exact ⟨_, rfl⟩
            rw [List.map_map]
            exact okS_ky ls
          · obtain ⟨ls, rfl⟩ := ky_list (zs := zs) fun k hk => by
              obtain ⟨m, _, rfl⟩ := List.mem_map.mp ((mem k).mp hk)
              exact ⟨_, rfl⟩
            have ndl : ls.Nodup := by
              rw [List.Nodup, List.pairwise_map] at nd
              exact nd.imp fun h z => h (by rw [z])
            have hmem : ∀ k, k ∈ ls ↔ k ∈ ms.map kyOf := fun k => by
              constructor
              · intro hk
                obtain ⟨m, hm, e⟩ := List.mem_map.mp ((mem (kyK k)).mp (List.mem_map.mpr ⟨k, hk, rfl⟩))
                exact List.mem_map.mpr ⟨m, hm, kyK_inj e⟩
              · intro hk
                obtain ⟨m, hm, rfl⟩ := List.mem_map.mp hk
                obtain ⟨k, hk, e⟩ := List.mem_map.mp ((mem (kyK (kyOf m))).mpr (List.mem_map.mpr ⟨m, hm, rfl⟩))
                rw [← kyK_inj e]; exact hk
            obtain ⟨ks', pm, pw, es⟩ := ky_sort ndl
            have e3 : (ls.map kyK).map ktD = ls.map kyD := by rw [List.map_map]; rfl
            rw [e3, es]
            have e4 : (ms.map fun m => kyK (kyOf m)).map ktD = (ms.map kyOf).map kyD := by rw [List.map_map, List.map_map]; rfl
            rw [e4]
            refine ⟨okE_si (kys_si _) (kys_si _) (kys_dp _), _, Sub.refl _, ?_⟩
            have ev : D.eqv (.lst ((ms.map kyOf).map kyD)) (.lst (ks'.map kyD)) = nbr mvLt ms := by
              rw [← nk, Bool.eq_iff_iff, eqv_si (kys_si _) (kys_si _), ← kys_sorted hmem pm pw]
              simp only [D.lst.injEq]
              exact ⟨kys_inj, fun h => by rw [h]⟩
            rw [ev]
            exact q
    | _ => exact ⟨_, Sub.refl _, q⟩
end
end Pace
end
section
set_option Elab.async false
set_option linter.all false
set_option maxRecDepth 100000
set_option maxHeartbeats 4000000
namespace Pace
open PySem PySem.Spec PyProof.Rows L2 DL
section
variable {P : Program} {w : World} {K : PySem.W.Frag} {mg : Str → Option Value} {base : Heap} {C PT cT : Addr}
def spFault01 : SpD := fun ds G Q => ∃ h c L : D, ds = [.tup [h, c, L]] ∧ Three h c L ∧ Q (dueF01 (faultR h c L)) G
abbrev N__law_fault : List Str := ["_law_parts", "_law_hs", "_law_cs", "_law_lines", "_law_bad", "_law_s", "_law_line"]
theorem sc__law_fault : FnScope N__law_fault ["_law_parts"] (defScope s__law_fault) := ⟨rfl, rfl, rfl, by decide +kernel, rfl, by decide +kernel, by decide +kernel⟩
theorem c__law_fault (T : Txt K mg C) (d : Def K mg "_law_fault" s__law_fault) (C__law_are_signs : Cal P w K mg base "_law_are_signs" 1 ["_law_it"] (spSigns01)) (C__law_is_line : Cal P w K mg base "_law_is_line" 2 ["_law_it", "_law_count", "_law_hs", "_law_cs"] (spLine01)) : Cal P w K mg base "_law_fault" 4 ["_law_parts"] (spFault01) := by
  refine cal_mk (N := N__law_fault) d sc__law_fault (fun ds G Q h => ?_) (fun _ _ _ _ _ _ us hl => match us, hl with | [_], _ => rfl) (fun f cdv A outer s H E hg hr => ?_)
  · obtain ⟨h, c, L, rfl, _⟩ := h
    rfl
  · have hu := hu100 hr
    have nd := sc__law_fault.nd
    have hA := deeper_guards (env := envOfC "_law_fault" (defScope s__law_fault) s.heap.objs.size f cdv) hg
    refine ⟨_, (dps_cons (dp_asg (de_var 0) (dg_tup (n := 3) rfl (dgs_cons (dg_name 1 nd) (dgs_cons (dg_name 2 nd) (dgs_cons (dg_name 3 nd) dgs_nil)))))
  (dps_cons (dp_if (dt_not (dt_val (de_cal C__law_are_signs hA (hr.mono (by decide)) (da_cons (de_var 1) da_nil))))
  (dps_one (dp_ret de_str))
  dps_nil)
  (dps_cons (dp_if (dt_not (dt_val (de_cal C__law_are_signs hA (hr.mono (by decide)) (da_cons (de_var 2) da_nil))))
  (dps_one (dp_ret de_str))
  dps_nil)
  (dps_cons (dp_if (DW.dt (dw_or (dt_not (dt_val (de_callB cd_isi rfl T.f_isinstance (by decide +kernel) (da_cons (de_var 3) (da_cons (de_ty (T := "tuple") rfl T.f_tuple (by decide +kernel)) da_nil))))) (dw_or1 (dt_not (dt_chain (od_le hu) (od_le hu) de_int (de_callB cd_len rfl T.f_len (by decide +kernel) (da_cons (de_var 3) da_nil)) de_int)))))
  (dps_one (dp_ret de_str))
  dps_nil)
  (dps_cons (dp_setLc (i := 4) (own := [("_law_s", 5), ("_law_line", 6)]) (p := (.tp [5, 6])) rfl nd rfl rfl (sw_true rfl rfl rfl (by decide +kernel)) (di_enumT rfl T.f_enumerate (da_cons (de_var 3) da_nil)) (blkOk_by (by show blkC N__law_fault (defScope s__law_fault) _ _ = true; decide +kernel)) (by decide) (fun _ _ _ _ _ => pg_tup rfl (pgs_cons (pg_name (i := 5) nd rfl (Or.inl rfl)) (pgs_cons (pg_name (i := 6) nd rfl (Or.inl rfl)) pgs_nil))) (fun _ _ _ _ _ => (dts_one (dt_not (dt_val (de_cal C__law_is_line hA (hr.mono (by decide)) (da_cons (de_var 6) (da_cons (de_callB cd_len rfl T.f_len (by decide +kernel) (da_cons (de_var 3) da_nil)) (da_cons (de_var 1) (da_cons (de_var 2) da_nil))))))))) (fun _ _ _ _ _ => (de_var 5)))
  (dps_one (dp_ret (de_if (dt_cmp (od_neNil hu) (de_var 4) (de_lst da_nil) (nomark _)) (de_ix hu (de_var 4) de_int) de_non)))))))), fun ds G Q h => ?_⟩
    obtain ⟨h, c, L, rfl, th, q⟩ := h
    rw [show dstart N__law_fault [.tup [h, c, L]] = [some (.tup [h, c, L]), none, none, none, none, none, none] from rfl]
    simp only [dxs, dl, dx3]
    have fe : ∀ d, faultR h c L = some d → (fin Q).rt d G := fun d e => by
      rw [e] at q
      exact ⟨_, Sub.refl _, q⟩
    have fn : faultR h c L = none → (fin Q).rt .non G := fun e => by
      rw [e] at q
      exact ⟨_, Sub.refl _, q⟩
    obtain ⟨ah, ac, aL, tn⟩ := th
    refine ⟨trivial, h, rfl, ah.any, ?_⟩
    simp only
    cases h1 : lettB h with
    | false =>
      simp only [Bool.not_false, if_true]
      exact fe _ (fault_h h1)
    | true =>
      simp only [Bool.not_true, Bool.false_eq_true, if_false]
      refine ⟨c, rfl, ac.any, ?_⟩
      simp only
      cases h2 : lettB c with
      | false =>
        simp only [Bool.not_false, if_true]
        exact fe _ (fault_w h1 h2)
      | true =>
        simp only [Bool.not_true, Bool.false_eq_true, if_false]
        have fr : (∀ rows, L ≠ .tup rows) → faultR h c L = some (.str (Str.ofString "rows")) := by
          intro hn
          unfold faultR
          rw [if_neg (by rw [h1]; decide), if_neg (by rw [h2]; decide)]
          split
          · rename_i rows; exact absurd rfl (hn rows)
          · rfl
        have ahv := ah.any
        have acv := ac.any
        have aLv := aL.any
        cases ahv with
        | str hs hl =>
          cases acv with
          | str ws wl =>
            have lh : lettersB hs = true := h1
            have lw : lettersB ws = true := h2
            cases aLv with
            | tup rows =>
              have rl := aL.len
              have eI : ∀ (G : GH) (x : Int), D.cur G (.int x) = .int x := fun _ _ => rfl
              simp only [dx3, dxs, dl, Bool.not_true, Bool.false_eq_true, if_false, okL_int, DL.lt_int, true_and, eI]
              by_cases r0 : rows.length = 0
              · rw [if_neg (by simp; omega)]
                simp only [Bool.not_false, if_true]
                exact fe _ (by rw [fault_tup lh lw, if_pos (.inl r0)])
              rw [if_pos (by simp; omega)]
              by_cases r9 : 999 < rows.length
              · rw [if_pos (by simp; omega)]
                exact fe _ (by rw [fault_tup lh lw, if_pos (.inr r9)])
              rw [if_neg (by simp; omega)]
              have fz := firsts_zip (fun r => !rowAB hs ws rows.length r) rows 0
              have ft := fault_tup (rows := rows) lh lw
              rw [if_neg (by omega)] at ft
              refine lc_someA rows.zipIdx (fun p => .tup [.int (p.2 : Int), p.1]) (fun p => !rowAB hs ws rows.length p.1) (fun p => .int (p.2 : Int)) (by rw [List.mapIdx_eq_zipIdx_map]) (sz (by rw [List.length_zipIdx]; omega)) trivial (fun p hp => ⟨_, rfl, fun Q z => ?_, fun _ Q z => ?_⟩) ?_
              · have hm : p.1 ∈ rows := List.fst_mem_of_mem_zipIdx hp
                simp only [dxs, dl, dwipe, List.map_cons, List.map_nil]
                exact ⟨hs, ws, rows.length, p.1, rfl, aL.item hm, fun ys e => tn rows rfl ys (by rw [← e]; exact hm), z⟩
              · simp only [dxs, dl, dwipe, List.map_cons, List.map_nil]
                exact z
              have nil0 : ∀ (b : Bool) (xs : List D) (G : GH) (Q : DQ), rNil b (.lst xs) (.lst []) G Q = Q (.bl (if b then !xs.isEmpty else xs.isEmpty)) G := fun _ _ _ _ => rfl
              simp only [nil0, if_true]
              refine ⟨Nat.zero_le _, ?_⟩
              cases ef : rows.zipIdx.filter fun p => !rowAB hs ws rows.length p.1 with
              | nil =>
                rw [ef] at fz
                have e2 : (rows.findIdx? fun r => !rowAB hs ws rows.length r) = none := by
                  cases e3 : rows.findIdx? fun r => !rowAB hs ws rows.length r with
                  | none => rfl
                  | some i => rw [e3] at fz; cases fz
                exact fn (by rw [ft, e2]; rfl)
              | cons x xs =>
                rw [ef] at fz
                have e2 : (rows.findIdx? fun r => !rowAB hs ws rows.length r) = some x.2 := by
                  cases e3 : rows.findIdx? fun r => !rowAB hs ws rows.length r with
                  | none => rw [e3] at fz; cases fz
                  | some i =>
                    rw [e3] at fz
                    simp at fz
                    rw [fz]
                have it : ∀ ys : List D, D.item (.lst (.int (x.2 : Int) :: ys)) (.int 0) = some (.int (x.2 : Int)) := fun ys => (show atI _ (0 : Int) = _ from atI_nat (j := 0) rfl)
                simp only [List.map_cons, List.isEmpty_cons, Bool.not_false, if_true, D.cur, it]
                exact fe (.int (x.2 : Int)) (by rw [ft, e2]; rfl)
            | _ => exact fe _ (fr (fun rows h => by cases h))
          | _ => cases h2
        | _ => cases h1
end
end Pace
end
section
set_option Elab.async false
set_option linter.all false
set_option maxRecDepth 100000
set_option maxHeartbeats 4000000
namespace Pace
open PySem PySem.Spec PyProof.Rows L2 DL
section
variable {P : Program} {w : World} {K : PySem.W.Frag} {mg : Str → Option Value} {base : Heap} {C PT cT : Addr}
def spLetters01 : SpD := fun ds G Q => ∃ d : D, ds = [d] ∧ AnyV d ∧ Q (.bl (lettB d)) G
abbrev N_are_letters : List Str := ["thing", "sign", "one", "other"]
theorem sc_are_letters : FnScope N_are_letters ["thing"] (defScope s_are_letters) := ⟨rfl, rfl, rfl, by decide +kernel, rfl, by decide +kernel, by decide +kernel⟩
theorem c_are_letters (T : Txt K mg C) (d : Def K mg "are_letters" s_are_letters) : Cal P w K mg base "are_letters" 1 ["thing"] (spLetters01) := by
  refine cal_mk (N := N_are_letters) d sc_are_letters (fun ds G Q h => ?_) (fun _ _ _ _ _ _ us hl => match us, hl with | [_], _ => rfl) (fun f cdv A outer s H E hg hr => ?_)
  · obtain ⟨d, rfl, _⟩ := h
    rfl
  · have hu := hu100 hr
    have nd := sc_are_letters.nd
    have hA := deeper_guards (env := envOfC "are_letters" (defScope s_are_letters) s.heap.objs.size f cdv) hg
    refine ⟨_, (dps_cons (dp_if (DW.dt (dw_or (dt_not (dt_val (de_callB cd_isi rfl T.f_isinstance (by decide +kernel) (da_cons (de_var 0) (da_cons (de_ty (T := "str") rfl T.f_str (by decide +kernel)) da_nil))))) (dw_or (dt_cmp (od_eq hu) (de_var 0) de_str (nomark _)) (dw_or1 (dt_not (dt_val (de_callB (cd_all rfl) rfl T.f_all (by decide +kernel) (da_cons (de_lc (own := [("sign", 1)]) (p := (.nm 1)) rfl nd (di_str (de_var 0)) (blkOk_by (by show blkC N_are_letters (defScope s_are_letters) _ _ = true; decide +kernel)) (by decide) (fun _ _ _ _ _ => pg_name (i := 1) nd rfl (Or.inl rfl)) (fun _ _ _ _ _ => dts_nil) (fun _ _ _ _ _ => (de_cmp (od_in hu) (de_var 1) (de_gstr rfl T.c_LETTERS) (by rfl)))) da_nil))))))))
  (dps_one (dp_ret de_bl))
  dps_nil)
  (dps_one (dp_ret (de_callB (cd_all rfl) rfl T.f_all (by decide +kernel) (da_cons (de_lc (own := [("one", 2), ("other", 3)]) (p := (.tp [2, 3])) rfl nd (di_zipS rfl T.f_zip (da_cons (de_slice (de_var 0) do_none (do_some (de_un ud_neg de_int))) (da_cons (de_slice (de_var 0) (do_some de_int) do_none) da_nil))) (blkOk_by (by show blkC N_are_letters (defScope s_are_letters) _ _ = true; decide +kernel)) (by decide) (fun _ _ _ _ _ => pg_tup rfl (pgs_cons (pg_name (i := 2) nd rfl (Or.inl rfl)) (pgs_cons (pg_name (i := 3) nd rfl (Or.inl rfl)) pgs_nil))) (fun _ _ _ _ _ => dts_nil) (fun _ _ _ _ _ => (de_cmp (od_lt hu) (de_var 2) (de_var 3) (nomark _)))) da_nil))))), fun ds G Q h => ?_⟩
    obtain ⟨d, rfl, av, q⟩ := h
    rw [show dstart N_are_letters [d] = [some (d), none, none, none] from rfl]
    cases av with
    | str cs hl =>
      have eq0 : lettB (.str (strOf cs)) = lettersB cs := rfl
      rw [eq0] at q
      simp only [dxs, dl, dx3, Bool.not_true, Bool.false_eq_true, if_false, okE_str, eqv_str, true_and]
      by_cases h0 : cs = []
      · subst h0
        rw [if_pos (by decide +kernel), if_pos trivial]
        exact ⟨_, Sub.refl _, q⟩
      · rw [if_neg (by
          intro z
          have z2 : strOf cs = strOf [] := by rw [← str_nil]; simpa using z
          exact h0 (strOf_inj z2))]
        have hsz : (strOf cs).length ≤ sizeLine := by rw [strOf_len]; exact sz (by omega)
        refine lc_mapA cs (fun c => .str (sgn c)) (fun c => .bl (decide (c ∈ abc))) (by simp [DL.signs, strOf, sgn]) (sz (by omega)) trivial (fun c _ => ⟨_, rfl, fun Q z => ?_⟩) ?_
        · simp only [dxs, dl, dwipe, List.map_cons, List.map_nil, inn_str, abc_str, strIn_sgn]
          exact z
        · rw [all_map]
          simp only
          by_cases ha : cs.all (fun c => decide (c ∈ abc)) = true
          · rw [if_neg (by simp [ha])]
            refine ⟨hsz, hsz, ?_⟩
            rw [cutS_strOf, cutS_strOf, cut_last, cut_tail]
            refine lc_mapA (cs.dropLast.zip cs.tail) (fun p => .tup [.str (sgn p.1), .str (sgn p.2)]) (fun p => .bl (decide (p.1 < p.2))) (by rw [zip_map]; simp [strOf]) (sz (by simp; omega)) trivial (fun p _ => ⟨_, rfl, fun Q z => ?_⟩) ?_
            · simp only [dxs, dl, dwipe, List.map_cons, List.map_nil, okL_str, sgn_lt, true_and]
              exact z
            · rw [all_map]
              refine ⟨_, Sub.refl _, ?_⟩
              have e : lettersB cs = (cs.dropLast.zip cs.tail).all fun p => decide (p.1 < p.2) := by
                unfold lettersB nbr
                rw [ha, zip_map]
                have : cs.isEmpty = false := by simpa using h0
                simp [this, List.all_map]
              rw [← e]
              exact q
          · rw [if_pos (by simpa using ha)]
            have e : lettersB cs = false := by
              unfold lettersB
              simp only [Bool.not_eq_true] at ha
              simp [ha]
            rw [e] at q
            exact ⟨_, Sub.refl _, q⟩
    | _ => exact ⟨_, Sub.refl _, q⟩
end
section
variable {P : Program} {w : World} {K : PySem.W.Frag} {mg : Str → Option Value} {base : Heap} {C PT cT : Addr}
def spIsInt01 : SpD := fun ds G Q => ∃ x : D, ds = [x] ∧ AnyV x ∧ Q (.bl (wholeB x)) G
abbrev N_is_integer : List Str := ["thing"]
theorem sc_is_integer : FnScope N_is_integer ["thing"] (defScope s_is_integer) := ⟨rfl, rfl, rfl, by decide +kernel, rfl, by decide +kernel, by decide +kernel⟩
theorem c_is_integer (T : Txt K mg C) (d : Def K mg "is_integer" s_is_integer) : Cal P w K mg base "is_integer" 1 ["thing"] (spIsInt01) := by
  refine cal_mk (N := N_is_integer) d sc_is_integer (fun ds G Q h => ?_) (fun _ _ _ _ _ _ us hl => match us, hl with | [_], _ => rfl) (fun f cdv A outer s H E hg hr => ?_)
  · obtain ⟨x, rfl, _⟩ := h
    rfl
  · have hu := hu100 hr
    have nd := sc_is_integer.nd
    have hA := deeper_guards (env := envOfC "is_integer" (defScope s_is_integer) s.heap.objs.size f cdv) hg
    refine ⟨_, (dps_one (dp_ret (de_and (de_callB cd_isi rfl T.f_isinstance (by decide +kernel) (da_cons (de_var 0) (da_cons (de_ty (T := "int") rfl T.f_int (by decide +kernel)) da_nil))) (de_one (de_not (de_callB cd_isi rfl T.f_isinstance (by decide +kernel) (da_cons (de_var 0) (da_cons (de_ty (T := "bool") rfl T.f_bool (by decide +kernel)) da_nil)))))))), fun ds G Q h => ?_⟩
    obtain ⟨x, rfl, av, q⟩ := h
    rw [show dstart N_is_integer [x] = [some (x)] from rfl]
    cases av <;> (simp only [dxs, dl, dx3, Bool.not_false, Bool.not_true, if_true, Bool.false_eq_true, if_false]; exact ⟨_, Sub.refl _, q⟩)
end
section
variable {P : Program} {w : World} {K : PySem.W.Frag} {mg : Str → Option Value} {base : Heap} {C PT cT : Addr}
def spLetterOf01 : SpD := fun ds G Q => ∃ (ls : List Nat) (d : D), ds = [.str (strOf ls), d] ∧ AnyV d ∧ Q (.bl (lofB ls d)) G
abbrev N_is_letter_of : List Str := ["letters", "thing"]
theorem sc_is_letter_of : FnScope N_is_letter_of ["letters", "thing"] (defScope s_is_letter_of) := ⟨rfl, rfl, rfl, by decide +kernel, rfl, by decide +kernel, by decide +kernel⟩
theorem c_is_letter_of (T : Txt K mg C) (d : Def K mg "is_letter_of" s_is_letter_of) : Cal P w K mg base "is_letter_of" 1 ["letters", "thing"] (spLetterOf01) := by
  refine cal_mk (N := N_is_letter_of) d sc_is_letter_of (fun ds G Q h => ?_) (fun _ _ _ _ _ _ us hl => match us, hl with | [_, _], _ => rfl) (fun f cdv A outer s H E hg hr => ?_)
  · obtain ⟨ls, d, rfl, _⟩ := h
    rfl
  · have hu := hu100 hr
    have nd := sc_is_letter_of.nd
    have hA := deeper_guards (env := envOfC "is_letter_of" (defScope s_is_letter_of) s.heap.objs.size f cdv) hg
    refine ⟨_, (dps_one (dp_ret (de_and (de_callB cd_isi rfl T.f_isinstance (by decide +kernel) (da_cons (de_var 1) (da_cons (de_ty (T := "str") rfl T.f_str (by decide +kernel)) da_nil))) (de_and (de_cmp (od_eq hu) (de_callB cd_len rfl T.f_len (by decide +kernel) (da_cons (de_var 1) da_nil)) de_int (nomark _)) (de_one (de_cmp (od_in hu) (de_var 1) (de_var 0) (by rfl))))))), fun ds G Q h => ?_⟩
    obtain ⟨ls, d, rfl, av, q⟩ := h
    rw [show dstart N_is_letter_of [.str (strOf ls), d] = [some (.str (strOf ls)), some (d)] from rfl]
    cases av with
    | str cs hl =>
      have hsz : (strOf cs).length ≤ sizeLine := by rw [strOf_len]; exact sz (by omega)
      simp only [dxs, dl, dx3, DL.len_str hsz, strOf_len, okE_int, eqv_int, true_and, if_true]
      by_cases h1 : cs.length = 1
      · obtain ⟨c, rfl⟩ := List.length_eq_one_iff.mp h1
        have eq0 : lofB ls (.str (strOf [c])) = decide (c ∈ ls) := rfl
        rw [eq0] at q
        rw [if_pos (by simp)]
        have e2 : strOf [c] = sgn c := rfl
        rw [e2]
        simp only [inn_str, strIn_sgn]
        exact ⟨_, Sub.refl _, q⟩
      · have eq0 : lofB ls (.str (strOf cs)) = false := by
          show (match (strOf cs).cps.toList with
            | [c] => decide (c ∈ ls)
            | _ => false) = false
          have e3 : (strOf cs).cps.toList = cs := by simp [strOf]
          rw [e3]
          match cs, h1 with
          | [], _ => rfl
          | [_], h => exact (h rfl).elim
          | _ :: _ :: _, _ => rfl
        rw [eq0] at q
        rw [if_neg (by simpa using fun e => h1 (by exact_mod_cast e))]
        exact ⟨_, Sub.refl _, q⟩
    | _ => exact ⟨_, Sub.refl _, q⟩
end
end Pace
end
section
set_option Elab.async false
set_option linter.all false
set_option maxRecDepth 100000
set_option maxHeartbeats 4000000
namespace Pace
open PySem PySem.Spec PyProof.Rows L2 DL
section
variable {P : Program} {w : World} {K : PySem.W.Frag} {mg : Str → Option Value} {base : Heap} {C PT cT : Addr}
theorem move_len01 {hs ws : List Nat} {n : Nat} : ∀ {xs : List D}, xs.length ≠ 3 → moveB01 hs ws n (.tup xs) = false
  | [], _ => rfl
  | [_], _ => rfl
  | [_, _], _ => rfl
  | [_, _, _], h => (h rfl).elim
  | _ :: _ :: c :: _ :: _, _ => by cases c <;> rfl
def spMove01 : SpD := fun ds G Q => ∃ (hs ws : List Nat) (n : Nat) (d : D), ds = [.str (strOf hs), .str (strOf ws), .int (n : Int), d] ∧ AnyW d ∧ Q (.bl (moveB01 hs ws n d)) G
abbrev N_is_move : List Str := ["heard", "written", "many", "thing"]
theorem sc_is_move : FnScope N_is_move ["heard", "written", "many", "thing"] (defScope s_is_move) := ⟨rfl, rfl, rfl, by decide +kernel, rfl, by decide +kernel, by decide +kernel⟩
theorem c_is_move (T : Txt K mg C) (d : Def K mg "is_move" s_is_move) (C_is_letter_of : Cal P w K mg base "is_letter_of" 1 ["letters", "thing"] (spLetterOf01)) (C_is_integer : Cal P w K mg base "is_integer" 1 ["thing"] (spIsInt01)) : Cal P w K mg base "is_move" 2 ["heard", "written", "many", "thing"] (spMove01) := by
  refine cal_mk (N := N_is_move) d sc_is_move (fun ds G Q h => ?_) (fun _ _ _ _ _ _ us hl => match us, hl with | [_, _, _, _], _ => rfl) (fun f cdv A outer s H E hg hr => ?_)
  · obtain ⟨hs, ws, n, d, rfl, _⟩ := h
    rfl
  · have hu := hu100 hr
    have nd := sc_is_move.nd
    have hA := deeper_guards (env := envOfC "is_move" (defScope s_is_move) s.heap.objs.size f cdv) hg
    refine ⟨_, (dps_cons (dp_if (DW.dt (dw_or (dt_not (dt_val (de_callB cd_isi rfl T.f_isinstance (by decide +kernel) (da_cons (de_var 3) (da_cons (de_ty (T := "tuple") rfl T.f_tuple (by decide +kernel)) da_nil))))) (dw_or1 (dt_cmp (od_ne hu) (de_callB cd_len rfl T.f_len (by decide +kernel) (da_cons (de_var 3) da_nil)) (de_gint rfl T.c_MOVE_PARTS_rules) (nomark _)))))
  (dps_one (dp_ret de_bl))
  dps_nil)
  (dps_cons (dp_if (DW.dt (dw_or (dt_not (dt_val (de_cal C_is_letter_of hA (hr.mono (by decide)) (da_cons (de_var 0) (da_cons (de_ix hu (de_var 3) de_int) da_nil))))) (dw_or1 (dt_not (dt_val (de_cal C_is_letter_of hA (hr.mono (by decide)) (da_cons (de_var 1) (da_cons (de_ix hu (de_var 3) de_int) da_nil))))))))
  (dps_one (dp_ret de_bl))
  dps_nil)
  (dps_one (dp_ret (de_and (de_cal C_is_integer hA (hr.mono (by decide)) (da_cons (de_ix hu (de_var 3) de_int) da_nil)) (de_one (de_chain (od_le hu) (od_lt hu) de_int (de_ix hu (de_var 3) de_int) (de_var 2)))))))), fun ds G Q h => ?_⟩
    obtain ⟨hs, ws, n, d, rfl, aw, q⟩ := h
    rw [show dstart N_is_move [.str (strOf hs), .str (strOf ws), .int (n : Int), d] = [some (.str (strOf hs)), some (.str (strOf ws)), some (.int (n : Int)), some (d)] from rfl]
    have av := aw.any
    have eI : ∀ (G : GH) (x : Int), D.cur G (.int x) = .int x := fun _ _ => rfl
    have zf : moveB01 hs ws n d = false → (fin Q).rt (.bl false) G := fun e => ⟨_, Sub.refl _, by rw [e] at q; exact q⟩
    cases av with
    | tup xs =>
      simp only [dxs, dl, dx3, Bool.not_true, Bool.false_eq_true, if_false, okE_int, true_and]
      by_cases hl : xs.length = 3
      case neg =>
        have ne : D.eqv (.int ((xs.length : Nat) : Int)) (.int 3) = false := by
          rw [eqv_int, beq_eq_false_iff_ne]
          omega
        rw [ne]
        simp only [Bool.not_false, if_true]
        exact zf (move_len01 hl)
      obtain ⟨a, b, c, rfl⟩ : ∃ a b c, xs = [a, b, c] := by
        match xs, hl with
        | [a, b, c], _ => exact ⟨a, b, c, rfl⟩
      have i0 : D.item (.tup [a, b, c]) (.int 0) = some a := atI_nat (j := 0) rfl
      have i1 : D.item (.tup [a, b, c]) (.int 1) = some b := atI_nat (j := 1) rfl
      have it2 : D.item (.tup [a, b, c]) (.int 2) = some c := atI_nat (j := 2) rfl
      have ecT : ∀ (G : GH) (xs : List D), D.cur G (.tup xs) = .tup xs := fun _ _ => rfl
      have e33 : D.eqv (.int (([a, b, c].length : Nat) : Int)) (.int 3) = true := by rw [eqv_int]; rfl
      rw [e33]
      simp only [ecT, i0, i1, it2, Bool.not_true, Bool.false_eq_true, if_false]
      have aa := (aw.item (x := a) (by simp)).any
      have ab := (aw.item (x := b) (by simp)).any
      have ac := (aw.item (x := c) (by simp)).any
      have noI : wholeB c = false → moveB01 hs ws n (.tup [a, b, c]) = false := fun h => by cases c <;> first | rfl | cases h
      refine ⟨hs, a, rfl, aa, ?_⟩
      simp only
      cases h1 : lofB hs a with
      | false =>
        simp only [Bool.not_false, if_true]
        exact zf (by cases c <;> first | rfl | (show (lofB hs a && _ && _) = false; rw [h1]; rfl))
      | true =>
        simp only [Bool.not_true, Bool.false_eq_true, if_false]
        refine ⟨ws, b, rfl, ab, ?_⟩
        simp only
        cases h2 : lofB ws b with
        | false =>
          simp only [Bool.not_false, if_true]
          exact zf (by cases c <;> first | rfl | (show (lofB hs a && lofB ws b && _) = false; rw [h1, h2]; rfl))
        | true =>
          simp only [Bool.not_true, Bool.false_eq_true, if_false]
          refine ⟨c, rfl, ac, ?_⟩
          simp only
          cases hc : wholeB c with
          | false =>
            simp only [Bool.false_eq_true, if_false]
            exact zf (noI hc)
          | true =>
            cases c with
            | int i =>
              have mE : moveB01 hs ws n (.tup [a, b, .int i]) = (decide (0 ≤ i) && decide (i < (n : Int))) := by
                show (lofB hs a && lofB ws b && (decide (0 ≤ i) && decide (i < (n : Int)))) = _
                rw [h1, h2]
                rfl
              rw [mE] at q
              simp only [if_true, eI, okL_int, DL.lt_int, true_and]
              by_cases hi : i < 0
              · rw [decide_eq_false (by omega : ¬ (0 : Int) ≤ i)] at q
                rw [if_neg (by rw [decide_eq_true hi]; decide)]
                exact ⟨_, Sub.refl _, q⟩
              · rw [decide_eq_true (by omega : (0 : Int) ≤ i), Bool.true_and] at q
                rw [if_pos (by rw [decide_eq_false hi]; rfl)]
                exact ⟨_, Sub.refl _, q⟩
            | _ => cases hc
    | _ => exact zf rfl
end
end Pace
end
section
set_option Elab.async false
set_option linter.all false
set_option maxRecDepth 100000
set_option maxHeartbeats 4000000
namespace Pace
open PySem PySem.Spec PyProof.Rows L2 DL
section
variable {P : Program} {w : World} {K : PySem.W.Frag} {mg : Str → Option Value} {base : Heap} {C PT cT : Addr}
def spRow01 : SpD := fun ds G Q => ∃ (hs ws : List Nat) (n : Nat) (d : D), ds = [.str (strOf hs), .str (strOf ws), .int (n : Int), d] ∧ AnyW d ∧ Q (.bl (rowAB hs ws n d)) G
abbrev N_is_row : List Str := ["heard", "written", "many", "thing", "move", "one", "other"]
theorem sc_is_row : FnScope N_is_row ["heard", "written", "many", "thing"] (defScope s_is_row) := ⟨rfl, rfl, rfl, by decide +kernel, rfl, by decide +kernel, by decide +kernel⟩
theorem c_is_row (T : Txt K mg C) (d : Def K mg "is_row" s_is_row) (C_is_move : Cal P w K mg base "is_move" 2 ["heard", "written", "many", "thing"] (spMove01)) : Cal P w K mg base "is_row" 3 ["heard", "written", "many", "thing"] (spRow01) := by
  refine cal_mk (N := N_is_row) d sc_is_row (fun ds G Q h => ?_) (fun _ _ _ _ _ _ us hl => match us, hl with | [_, _, _, _], _ => rfl) (fun f cdv A outer s H E hg hr => ?_)
  · obtain ⟨hs, ws, n, d, rfl, _⟩ := h
    rfl
  · have hu := hu100 hr
    have nd := sc_is_row.nd
    have hA := deeper_guards (env := envOfC "is_row" (defScope s_is_row) s.heap.objs.size f cdv) hg
    refine ⟨_, (dps_cons (dp_if (DW.dt (dw_or (dt_not (dt_val (de_callB cd_isi rfl T.f_isinstance (by decide +kernel) (da_cons (de_var 3) (da_cons (de_ty (T := "tuple") rfl T.f_tuple (by decide +kernel)) da_nil))))) (dw_or1 (dt_not (dt_val (de_callB (cd_all rfl) rfl T.f_all (by decide +kernel) (da_cons (de_lc (own := [("move", 4)]) (p := (.nm 4)) rfl nd (di_tup (de_var 3)) (blkOk_by (by show blkC N_is_row (defScope s_is_row) _ _ = true; decide +kernel)) (by decide) (fun _ _ _ _ _ => pg_name (i := 4) nd rfl (Or.inl rfl)) (fun _ _ _ _ _ => dts_nil) (fun _ _ _ _ _ => (de_cal C_is_move hA (hr.mono (by decide)) (da_cons (de_var 0) (da_cons (de_var 1) (da_cons (de_var 2) (da_cons (de_var 4) da_nil))))))) da_nil)))))))
  (dps_one (dp_ret de_bl))
  dps_nil)
  (dps_one (dp_ret (de_callB (cd_all rfl) rfl T.f_all (by decide +kernel) (da_cons (de_lc (own := [("one", 5), ("other", 6)]) (p := (.tp [5, 6])) rfl nd (di_zipT rfl T.f_zip (da_cons (de_slice (de_var 3) do_none (do_some (de_un ud_neg de_int))) (da_cons (de_slice (de_var 3) (do_some de_int) do_none) da_nil))) (blkOk_by (by show blkC N_is_row (defScope s_is_row) _ _ = true; decide +kernel)) (by decide) (fun _ _ _ _ _ => pg_tup rfl (pgs_cons (pg_name (i := 5) nd rfl (Or.inl rfl)) (pgs_cons (pg_name (i := 6) nd rfl (Or.inl rfl)) pgs_nil))) (fun _ _ _ _ _ => dts_nil) (fun _ _ _ _ _ => (de_cmp (od_lt hu) (de_slice (de_var 5) do_none (do_some de_int)) (de_slice (de_var 6) do_none (do_some de_int)) (nomark _)))) da_nil))))), fun ds G Q h => ?_⟩
    obtain ⟨hs, ws, n, d, rfl, aw, q⟩ := h
    rw [show dstart N_is_row [.str (strOf hs), .str (strOf ws), .int (n : Int), d] = [some (.str (strOf hs)), some (.str (strOf ws)), some (.int (n : Int)), some (d), none, none, none] from rfl]
    have av := aw.any
    have zf : rowAB hs ws n d = false → (fin Q).rt (.bl false) G := fun e => ⟨_, Sub.refl _, by rw [e] at q; exact q⟩
    cases av with
    | tup xs =>
      have xl := aw.len
      have rE : rowAB hs ws n (.tup xs) = (xs.all (moveB01 hs ws n) && nbr mvLt (xs.map mvOf)) := rfl
      simp only [dxs, dl, dx3, Bool.not_true, Bool.false_eq_true, if_false, true_and]
      refine lc_mapA xs (fun x => x) (fun x => .bl (moveB01 hs ws n x)) (by simp) (sz (by omega)) trivial (fun x hx => ⟨_, rfl, fun Q z => ?_⟩) ?_
      · simp only [dxs, dl, dwipe, List.map_cons, List.map_nil]
        exact ⟨hs, ws, n, x, rfl, aw.item hx, z⟩
      rw [all_map (fun x : D => moveB01 hs ws n x)]
      simp only
      cases ha : xs.all (fun x => moveB01 hs ws n x) with
      | false =>
        simp only [Bool.not_false, if_true]
        exact zf (by rw [rE, ha]; rfl)
      | true =>
        simp only [Bool.not_true, Bool.false_eq_true, if_false]
        rw [rE, ha, Bool.true_and] at q
        obtain ⟨er, hb⟩ := rowA_row (List.all_eq_true.mp ha)
        generalize xs.map mvOf = r at er hb q
        subst er
        have hl : r.length ≤ 1000 := by simpa using xl
        rw [cut_last, cut_tail]
        refine lc_mapA (r.dropLast.zip r.tail) (fun p => .tup [Mv.d p.1, Mv.d p.2]) (fun p => .bl (mvLt p.1 p.2)) ?_ (sz (by simp; omega)) trivial (fun p _ => ⟨_, rfl, fun Q z => ?_⟩) ?_
        · rw [← List.map_dropLast, ← List.map_tail, List.zipWith_map, zip_map]
        · simp only [dxs, dl, dx3, dwipe, List.map_cons, List.map_nil, Mv.d, mv_cut, mv_okL, mv_lt, true_and]
          exact z
        · rw [all_map]
          refine ⟨_, Sub.refl _, ?_⟩
          have e : nbr mvLt r = (r.dropLast.zip r.tail).all fun p => mvLt p.1 p.2 := by
            unfold nbr
            rw [zip_map]
            simp [List.all_map]
          rw [← e]
          exact q
    | _ => exact zf rfl
end
section
variable {P : Program} {w : World} {K : PySem.W.Frag} {mg : Str → Option Value} {base : Heap} {C PT cT : Addr}
def spSteps : SpD := fun ds G Q => ∃ (r : List Mv), ds = [rowD r] ∧ r.length ≤ 1000 ∧ mergeDT [] (r.map mvK) = r.map mvK ∧ Q (.dT (r.map mvK)) G
abbrev N_steps_of : List Str := ["row", "sign", "letter", "target"]
theorem sc_steps_of : FnScope N_steps_of ["row"] (defScope s_steps_of) := ⟨rfl, rfl, rfl, by decide +kernel, rfl, by decide +kernel, by decide +kernel⟩
theorem c_steps_of (T : Txt K mg C) (d : Def K mg "steps_of" s_steps_of) : Cal P w K mg base "steps_of" 1 ["row"] (spSteps) := by
  refine cal_mk (N := N_steps_of) d sc_steps_of (fun ds G Q h => ?_) (fun _ _ _ _ _ _ us hl => match us, hl with | [_], _ => rfl) (fun f cdv A outer s H E hg hr => ?_)
  · obtain ⟨r, rfl, _⟩ := h
    rfl
  · have hu := hu100 hr
    have nd := sc_steps_of.nd
    have hA := deeper_guards (env := envOfC "steps_of" (defScope s_steps_of) s.heap.objs.size f cdv) hg
    refine ⟨_, (dps_one (dp_ret (de_callTy (cd_dictT rfl hu) rfl T.f_dict (by decide +kernel) (da_cons (de_lc (own := [("sign", 1), ("letter", 2), ("target", 3)]) (p := (.tp [1, 2, 3])) rfl nd (di_tup (de_var 0)) (blkOk_by (by show blkC N_steps_of (defScope s_steps_of) _ _ = true; decide +kernel)) (by decide) (fun _ _ _ _ _ => pg_tup rfl (pgs_cons (pg_name (i := 1) nd rfl (Or.inl rfl)) (pgs_cons (pg_name (i := 2) nd rfl (Or.inl rfl)) (pgs_cons (pg_name (i := 3) nd rfl (Or.inl rfl)) pgs_nil)))) (fun _ _ _ _ _ => dts_nil) (fun _ _ _ _ _ => (de_tup (da_cons (de_tup (da_cons (de_var 1) (da_cons (de_var 2) da_nil))) (da_cons (de_var 3) da_nil))))) da_nil)))), fun ds G Q h => ?_⟩
    obtain ⟨r, rfl, hl, hm, q⟩ := h
    rw [show dstart N_steps_of [rowD r] = [some (rowD r), none, none, none] from rfl]
    simp only [rowD, dxs, dl]
    refine lc_mapA r Mv.d (fun m => .tup [.tup [.str (sgn m.h), .str (sgn m.c)], .int (m.t : Int)]) rfl (sz (by omega)) trivial (fun m _ => ⟨_, rfl, fun Q z => ?_⟩) ?_
    · simp only [dxs, dl, dwipe, List.map_cons, List.map_nil, Mv.d]
      exact ⟨sz (by simp), sz (by simp), z⟩
    · show (match prsT _ with | some ms => _ | none => False)
      rw [prsT_row]
      refine ⟨_, Sub.refl _, ?_⟩
      rw [hm]
      exact q
end
end Pace
end
section
set_option Elab.async false
set_option linter.all false
set_option maxRecDepth 100000
set_option maxHeartbeats 4000000
namespace Pace
open PySem PySem.Spec PyProof.Rows L2 DL
section
variable {P : Program} {w : World} {K : PySem.W.Frag} {mg : Str → Option Value} {base : Heap} {C PT cT : Addr}
def spInit01p (C : Addr) : SpD := fun ds G Q => ∃ (y : Addr) (hs ws : List Nat) (rs : List (List Mv)), ds = [.rf y, .str (strOf hs), .str (strOf ws), rowsD rs] ∧ G y = some (.ins C []) ∧ RulV hs ws rs ∧ (∀ r ∈ rs, r.length ≤ 31) ∧ Q .non (gput G y (.ins C (rulF (mkR hs ws rs))))
abbrev N_Rules_u__init_u_ : List Str := ["self", "heard", "written", "rows", "state", "row"]
theorem sc_Rules_u__init_u_ : FnScope N_Rules_u__init_u_ ["self", "heard", "written", "rows"] (defScope s_Rules_u__init_u_) := ⟨rfl, rfl, rfl, by decide +kernel, rfl, by decide +kernel, by decide +kernel⟩
theorem c_Rules_u__init_u_ (T : Txt K mg C) (d : DefI K C "Rules.__init__" s_Rules_u__init_u_) (C_are_letters : Cal P w K mg base "are_letters" 1 ["thing"] (spLetters01)) (C_is_row : Cal P w K mg base "is_row" 3 ["heard", "written", "many", "thing"] (spRow01)) (C_steps_of : Cal P w K mg base "steps_of" 1 ["row"] (spSteps)) : Mak P w K mg base "Rules" C 5 ["self", "heard", "written", "rows"] (spInit01p C) := by
  refine mak_mk (N := N_Rules_u__init_u_) d T.mgR sc_Rules_u__init_u_ (fun ds G Q h => ?_) (fun _ _ _ _ _ _ us hl => match us, hl with | [_, _, _, _], _ => rfl) (fun f cdv A outer s H E hg hr => ?_)
  · obtain ⟨y, hs, ws, rs, rfl, _⟩ := h
    rfl
  · have hu := hu100 hr
    have nd := sc_Rules_u__init_u_.nd
    have hA := deeper_guards (env := envOfC "Rules.__init__" (defScope s_Rules_u__init_u_) s.heap.objs.size f cdv) hg
    refine ⟨_, (dps_cons (dp_if (dt_not (dt_val (de_cal C_are_letters hA (hr.mono (by decide)) (da_cons (de_var 1) da_nil))))
  (dps_one dp_never)
  dps_nil)
  (dps_cons (dp_if (dt_not (dt_val (de_cal C_are_letters hA (hr.mono (by decide)) (da_cons (de_var 2) da_nil))))
  (dps_one dp_never)
  dps_nil)
  (dps_cons (dp_if (DW.dt (dw_or (dt_not (dt_val (de_callB cd_isi rfl T.f_isinstance (by decide +kernel) (da_cons (de_var 3) (da_cons (de_ty (T := "tuple") rfl T.f_tuple (by decide +kernel)) da_nil))))) (dw_or1 (dt_not (dt_chain (od_le hu) (od_le hu) de_int (de_callB cd_len rfl T.f_len (by decide +kernel) (da_cons (de_var 3) da_nil)) (de_gint rfl T.c_MOST_STATES))))))
  (dps_one dp_never)
  dps_nil)
  (dps_cons (dp_for PassesOwn.never rfl (di_enumT rfl T.f_enumerate (da_cons (de_var 3) da_nil)) (dg_tup (n := 2) rfl (dgs_cons (dg_name 4 nd) (dgs_cons (dg_name 5 nd) dgs_nil)))
  (dps_one (dp_if (dt_not (dt_val (de_cal C_is_row hA (hr.mono (by decide)) (da_cons (de_var 1) (da_cons (de_var 2) (da_cons (de_callB cd_len rfl T.f_len (by decide +kernel) (da_cons (de_var 3) da_nil)) (da_cons (de_var 5) da_nil)))))))
  (dps_one dp_never)
  dps_nil)))
  (dps_cons (dp_setFld T.clR T.no_heard (de_var 0) (de_var 1))
  (dps_cons (dp_setFld T.clR T.no_written (de_var 0) (de_var 2))
  (dps_cons (dp_setFld T.clR T.no_rows (de_var 0) (de_var 3))
  (dps_one (dp_setFld T.clR T.no_steps (de_var 0) (de_lc (own := [("row", 5)]) (p := (.nm 5)) rfl nd (di_tup (de_var 3)) (blkOk_by (by show blkC N_Rules_u__init_u_ (defScope s_Rules_u__init_u_) _ _ = true; decide +kernel)) (by decide) (fun _ _ _ _ _ => pg_name (i := 5) nd rfl (Or.inl rfl)) (fun _ _ _ _ _ => dts_nil) (fun _ _ _ _ _ => (de_cal C_steps_of hA (hr.mono (by decide)) (da_cons (de_var 5) da_nil))))))))))))), fun ds G Q h => ?_⟩
    obtain ⟨y, hs, ws, rs, rfl, hy, v, few, q⟩ := h
    rw [show dstart N_Rules_u__init_u_ [.rf y, .str (strOf hs), .str (strOf ws), rowsD rs] = [some (.rf y), some (.str (strOf hs)), some (.str (strOf ws)), some (rowsD rs), none, none] from rfl]
    simp only [rowsD, dxs, dl, dx3]
    refine ⟨_, rfl, .str hs v.sh, ?_⟩
    rw [show lettB (.str (strOf hs)) = true from v.lh]
    simp only [dxs, dl, dx3, Bool.not_true, Bool.false_eq_true, if_false]
    refine ⟨_, rfl, .str ws v.sw, ?_⟩
    rw [show lettB (.str (strOf ws)) = true from v.lw]
    simp only [dxs, dl, dx3, Bool.not_true, Bool.false_eq_true, if_false, okL_int, DL.lt_int, true_and, List.length_map]
    have n1 := v.n1
    have n2 := v.n2
    rw [if_pos (by simp; omega), if_neg (by simp; omega)]
    refine ⟨fun i S' G' => ∃ x4 x5, S' = [some (.rf y), some (.str (strOf hs)), some (.str (strOf ws)), some (.tup (rs.map rowD)), x4, x5] ∧ G' = G, ⟨none, none, rfl, rfl⟩, fun _ _ _ _ => trivial, ?_, ?_⟩
    · rintro i S' G' dd ⟨x4, x5, rfl, rfl⟩ hd
      rw [List.getElem?_mapIdx, List.getElem?_map] at hd
      cases er : rs[i]? with
      | none => rw [er] at hd; cases hd
      | some r =>
        rw [er] at hd
        cases hd
        obtain ⟨hr1, hr2⟩ := v.row r (List.mem_of_getElem? er)
        simp only [dxs, dl, dx3, true_and, List.length_map]
        refine ⟨hs, ws, rs.length, rowD r, rfl, rowD_any v.lh v.lw n2 hr1 (few r (List.mem_of_getElem? er)), ?_⟩
        rw [rowAB_row, hr1]
        exact ⟨_, _, rfl, rfl⟩
    · rintro S' G' ⟨x4, x5, rfl, rfl⟩
      simp only [dxs, dl, hy, pf1, pf2, pf3]
      refine ⟨trivial, by decide, trivial, by decide, trivial, by decide, ?_⟩
      refine lc_mapA rs rowD (fun r => .dT (r.map mvK)) rfl (sz (by omega)) trivial (fun r hr => ⟨_, rfl, fun Q z => ?_⟩) ?_
      · obtain ⟨hr1, hr2⟩ := v.row r hr
        simp only [dxs, dl, dwipe, List.map_cons, List.map_nil]
        exact ⟨r, rfl, hr2, merge_rowB hr1, z⟩
      · simp only [dxs, dl, gput_gput, pf4]
        exact ⟨trivial, by decide, _, Sub.refl _, q⟩
end
section
variable {P : Program} {w : World} {K : PySem.W.Frag} {mg : Str → Option Value} {base : Heap} {C PT cT : Addr}
def spInit01 (C : Addr) (K : PySem.W.Frag) : SpX := fun ds G Q E => ∃ (y : Addr) (h c L : D), ds = [.rf y, h, c, L] ∧ G y = some (.ins C []) ∧ AnyW h ∧ AnyW c ∧ AnyW L ∧ (∀ d, faultR h c L = some d → E (He.ga K "BadRules") [("part", d)] G) ∧
  (∀ hs ws rs, RulV hs ws rs → h = .str (strOf hs) → c = .str (strOf ws) → L = rowsD rs → Q .non (gput G y (.ins C (rulF (mkR hs ws rs)))))
theorem x_Rules_u__init_u_ (T : Txt K mg C) (d : DefI K C "Rules.__init__" s_Rules_u__init_u_) (Er : ErT P K mg) (C_are_letters : Cal P w K mg base "are_letters" 1 ["thing"] (spLetters01)) (C_is_row : Cal P w K mg base "is_row" 3 ["heard", "written", "many", "thing"] (spRow01)) (C_steps_of : Cal P w K mg base "steps_of" 1 ["row"] (spSteps)) : MakX P w K mg base "Rules" C 5 ["self", "heard", "written", "rows"] (spInit01 C K) ∧ MakXK P w K mg base "Rules" C 5 ["self", "heard", "written", "rows"] (spInit01 C K) ["rows", "written", "heard"] [2, 1, 0] := by
  refine makX_mkK (N := N_Rules_u__init_u_) d T.mgR sc_Rules_u__init_u_ (fun ds G Q E h => ?_) (fun _ _ _ _ _ _ us hl => match us, hl with | [_, _, _, _], _ => rfl) (fun _ _ _ _ _ _ us ws hl hw => match us, ws, hl, hw with | [_], [_, _, _], _, _ => rfl) (fun f cdv A outer s H E hg hr => ?_)
  · obtain ⟨y, h, c, L, rfl, _⟩ := h
    rfl
  · have hu := hu100 hr
    have nd := sc_Rules_u__init_u_.nd
    have hA := deeper_guards (env := envOfC "Rules.__init__" (defScope s_Rules_u__init_u_) s.heap.objs.size f cdv) hg
    refine ⟨_, (dpsx_cons (dpx_if (dt_not (dt_val (de_cal C_are_letters hA (hr.mono (by decide)) (da_cons (de_var 1) da_nil))))
  (dpsx_one (dpx_raise1 (k := 0) (st := s_BadRules_u__init_u_) rfl Er.e_BadRules Er.a_BadRules (hr.mono (by decide)) (da_cons de_str da_nil) (by rfl) (by rfl) (by intros; rfl) (by decide) (by rfl) (by rfl) (by rfl) (by rfl) (by rfl) (by decide) (by decide) (by decide +kernel) (by rfl) (by rfl) (by exact fun env => ⟨_, rfl⟩)))
  (dpsx_of dps_nil))
  (dpsx_cons (dpx_if (dt_not (dt_val (de_cal C_are_letters hA (hr.mono (by decide)) (da_cons (de_var 2) da_nil))))
  (dpsx_one (dpx_raise1 (k := 0) (st := s_BadRules_u__init_u_) rfl Er.e_BadRules Er.a_BadRules (hr.mono (by decide)) (da_cons de_str da_nil) (by rfl) (by rfl) (by intros; rfl) (by decide) (by rfl) (by rfl) (by rfl) (by rfl) (by rfl) (by decide) (by decide) (by decide +kernel) (by rfl) (by rfl) (by exact fun env => ⟨_, rfl⟩)))
  (dpsx_of dps_nil))
  (dpsx_cons (dpx_if (DW.dt (dw_or (dt_not (dt_val (de_callB cd_isi rfl T.f_isinstance (by decide +kernel) (da_cons (de_var 3) (da_cons (de_ty (T := "tuple") rfl T.f_tuple (by decide +kernel)) da_nil))))) (dw_or1 (dt_not (dt_chain (od_le hu) (od_le hu) de_int (de_callB cd_len rfl T.f_len (by decide +kernel) (da_cons (de_var 3) da_nil)) (de_gint rfl T.c_MOST_STATES))))))
  (dpsx_one (dpx_raise1 (k := 0) (st := s_BadRules_u__init_u_) rfl Er.e_BadRules Er.a_BadRules (hr.mono (by decide)) (da_cons de_str da_nil) (by rfl) (by rfl) (by intros; rfl) (by decide) (by rfl) (by rfl) (by rfl) (by rfl) (by rfl) (by decide) (by decide) (by decide +kernel) (by rfl) (by rfl) (by exact fun env => ⟨_, rfl⟩)))
  (dpsx_of dps_nil))
  (dpsx_cons (dpx_for (by passes_own) rfl (di_enumT rfl T.f_enumerate (da_cons (de_var 3) da_nil)) (dg_tup (n := 2) rfl (dgs_cons (dg_name 4 nd) (dgs_cons (dg_name 5 nd) dgs_nil)))
  (dpsx_one (dpx_if (dt_not (dt_val (de_cal C_is_row hA (hr.mono (by decide)) (da_cons (de_var 1) (da_cons (de_var 2) (da_cons (de_callB cd_len rfl T.f_len (by decide +kernel) (da_cons (de_var 3) da_nil)) (da_cons (de_var 5) da_nil)))))))
  (dpsx_one (dpx_raise1 (k := 0) (st := s_BadRules_u__init_u_) rfl Er.e_BadRules Er.a_BadRules (hr.mono (by decide)) (da_cons (de_var 4) da_nil) (by rfl) (by rfl) (by intros; rfl) (by decide) (by rfl) (by rfl) (by rfl) (by rfl) (by rfl) (by decide) (by decide) (by decide +kernel) (by rfl) (by rfl) (by exact fun env => ⟨_, rfl⟩)))
  (dpsx_of dps_nil))))
  (dpsx_of (dps_cons (dp_setFld T.clR T.no_heard (de_var 0) (de_var 1))
  (dps_cons (dp_setFld T.clR T.no_written (de_var 0) (de_var 2))
  (dps_cons (dp_setFld T.clR T.no_rows (de_var 0) (de_var 3))
  (dps_one (dp_setFld T.clR T.no_steps (de_var 0) (de_lc (own := [("row", 5)]) (p := (.nm 5)) rfl nd (di_tup (de_var 3)) (blkOk_by (by show blkC N_Rules_u__init_u_ (defScope s_Rules_u__init_u_) _ _ = true; decide +kernel)) (by decide) (fun _ _ _ _ _ => pg_name (i := 5) nd rfl (Or.inl rfl)) (fun _ _ _ _ _ => dts_nil) (fun _ _ _ _ _ => (de_cal C_steps_of hA (hr.mono (by decide)) (da_cons (de_var 5) da_nil)))))))))))))), fun ds G Q E2 h => ?_⟩
    obtain ⟨y, hh, c, L, rfl, gy, ah, ac, aL, qe, qn⟩ := h
    rw [show dstart N_Rules_u__init_u_ [.rf y, hh, c, L] = [some (.rf y), some (hh), some (c), some (L), none, none] from rfl]
    simp only [dxs, dl, dx3, xS, xE, finX, dSeqX, x_forX]
    have fe : ∀ d, faultR hh c L = some d → ∃ d', [d] = [d'] ∧ ∃ G0, Sub G0 G ∧ E2 (He.ga K (Str.ofString "BadRules")) [(Str.ofString "part", d')] G0 := fun d h => ⟨d, rfl, _, Sub.refl _, qe d h⟩
    refine ⟨hh, rfl, ah.any, ?_⟩
    simp only
    cases h1 : lettB hh with
    | false =>
      simp only [Bool.not_false, if_true]
      exact fe _ (fault_h h1)
    | true =>
      simp only [Bool.not_true, Bool.false_eq_true, if_false]
      refine ⟨c, rfl, ac.any, ?_⟩
      simp only
      cases h2 : lettB c with
      | false =>
        simp only [Bool.not_false, if_true]
        exact fe _ (fault_w h1 h2)
      | true =>
        simp only [Bool.not_true, Bool.false_eq_true, if_false]
        have fr : (∀ rows, L ≠ .tup rows) → faultR hh c L = some (.str (Str.ofString "rows")) := by
          intro hn
          unfold faultR
          rw [if_neg (by rw [h1]; decide), if_neg (by rw [h2]; decide)]
          split
          · rename_i rows; exact absurd rfl (hn rows)
          · rfl
        have ahv := ah.any
        have acv := ac.any
        have aLv := aL.any
        cases ahv with
        | str hs hl =>
          cases acv with
          | str ws wl =>
            have lh : lettersB hs = true := h1
            have lw : lettersB ws = true := h2
            cases aLv with
            | tup rows =>
              have rl := aL.len
              simp only [dx3, dl, dxs, Bool.not_true, Bool.false_eq_true, if_false, okL_int, DL.lt_int, true_and]
              by_cases r0 : rows.length = 0
              · rw [if_neg (by simp; omega)]
                exact fe _ (by rw [fault_tup lh lw, if_pos (.inl r0)])
              rw [if_pos (by simp; omega)]
              by_cases r9 : 999 < rows.length
              · rw [if_pos (by simp; omega)]
                exact fe _ (by rw [fault_tup lh lw, if_pos (.inr r9)])
              rw [if_neg (by simp; omega)]
              refine ⟨fun i S' G' => ∃ x4 x5, S' = [some (.rf y), some (.str (strOf hs)), some (.str (strOf ws)), some (.tup rows), x4, x5] ∧ G' = G ∧ ∀ x ∈ rows.take i, rowAB hs ws rows.length x = true, ⟨none, none, rfl, rfl, fun x hx => by simp at hx⟩, fun _ _ _ _ => trivial, ?_, ?_⟩
              · rintro i S' G' dd ⟨x4, x5, rfl, rfl, al⟩ hd
                rw [List.getElem?_mapIdx] at hd
                cases er : rows[i]? with
                | none => rw [er] at hd; cases hd
                | some r =>
                  rw [er] at hd
                  cases hd
                  simp only [dxs, dl, dx3, true_and, List.length_map, xS, xE, finX, dSeqX]
                  refine ⟨hs, ws, rows.length, r, rfl, aL.item (List.mem_of_getElem? er), ?_⟩
                  simp only
                  cases hb : rowAB hs ws rows.length r with
                  | false =>
                    simp only [Bool.not_false, if_true]
                    exact fe _ (fault_at lh lw r0 (by omega) er hb al)
                  | true =>
                    simp only [Bool.not_true, Bool.false_eq_true, if_false]
                    refine ⟨_, _, rfl, trivial, fun x hx => ?_⟩
                    rw [List.take_add_one, er] at hx
                    rcases List.mem_append.mp hx with hx | hx
                    · exact al x hx
                    · cases List.mem_singleton.mp hx
                      exact hb
              · rintro S' G' ⟨x4, x5, rfl, rfl, al⟩
                rw [List.length_mapIdx, List.take_length] at al
                obtain ⟨hs', ws', rs, v, e1, e2, e3⟩ := fault_rul ah ac aL (fault_no lh lw r0 (by omega) al)
                rw [e1, e2, e3]
                rw [e3] at qn
                have q := qn hs' ws' rs v e1 e2 rfl
                clear qn qe fe fr al r0 r9 rl ah ac aL h1 h2 lh lw hl wl
                simp only [dxs, dl, gy, pf1, pf2, pf3, xS, xE, finX, dSeqX, rowsD]
                have n2 := v.n2
                refine ⟨trivial, by decide, trivial, by decide, trivial, by decide, ?_⟩
                refine lc_mapA rs rowD (fun r => .dT (r.map mvK)) rfl (sz (by omega)) trivial (fun r hr => ⟨_, rfl, fun Q z => ?_⟩) ?_
                · obtain ⟨hr1, hr2⟩ := v.row r hr
                  simp only [dxs, dl, dwipe, List.map_cons, List.map_nil]
                  exact ⟨r, rfl, hr2, merge_rowB hr1, z⟩
                · simp only [dxs, dl, gput_gput, pf4]
                  exact ⟨trivial, by decide, _, Sub.refl _, q⟩
            | _ => exact fe _ (fr (fun rows h => by cases h))
          | _ => cases h2
        | _ => cases h1
end
end Pace
end
section
set_option Elab.async false
set_option linter.all false
set_option maxRecDepth 100000
set_option maxHeartbeats 4000000
namespace Pace
open PySem PySem.Spec PyProof.Rows L2 DL
section
variable {P : Program} {w : World} {K : PySem.W.Frag} {mg : Str → Option Value} {base : Heap} {C PT cT : Addr}
def spREq01 (C : Addr) : SpD := fun ds G Q => (∃ (R1 R2 : Rul), ds = [rulD C R1, rulD C R2] ∧ ∀ b : Bool, (b = true ↔ R1 = R2) → Q (.bl b) G) ∨ ∃ (R1 : Rul) (d : D), ds = [rulD C R1, d] ∧ (∀ C1 fs, d.cur G ≠ .obj C1 fs) ∧ (d.cur G).tyN.isSome = true ∧ Q (.bl false) G
abbrev N_Rules_u__eq_u_ : List Str := ["self", "other"]
theorem sc_Rules_u__eq_u_ : FnScope N_Rules_u__eq_u_ ["self", "other"] (defScope s_Rules_u__eq_u_) := ⟨rfl, rfl, rfl, by decide +kernel, rfl, by decide +kernel, by decide +kernel⟩
theorem c_Rules_u__eq_u_ (T : Txt K mg C) (d : DefM K C "__eq__" "Rules.__eq__" s_Rules_u__eq_u_) : CalM P w K mg base C "__eq__" 1 ["self", "other"] (spREq01 C) := by
  refine calM_mk (N := N_Rules_u__eq_u_) d sc_Rules_u__eq_u_ (fun ds G Q h => ?_) (fun _ _ _ _ _ _ us hl => match us, hl with | [_, _], _ => rfl) (fun f cdv A outer s H E hg hr => ?_)
  · rcases h with ⟨R1, R2, rfl, _⟩ | ⟨R1, d, rfl, _⟩ <;> rfl
  · have hu := hu100 hr
    have nd := sc_Rules_u__eq_u_.nd
    have hA := deeper_guards (env := envOfC "Rules.__eq__" (defScope s_Rules_u__eq_u_) s.heap.objs.size f cdv) hg
    refine ⟨_, (dps_cons (dp_if (dt_not (dt_val (de_callB (cd_isV T.iv_Rules) rfl T.f_isinstance (by decide +kernel) (da_cons (de_var 1) (da_cons (de_cls rfl T.mgR) da_nil)))))
  (dps_one (dp_ret de_bl))
  dps_nil)
  (dps_one (dp_ret (de_cmp (od_eq hu) (de_tup (da_cons (de_fld T.clR T.no_heard (de_var 0)) (da_cons (de_fld T.clR T.no_written (de_var 0)) (da_cons (de_fld T.clR T.no_rows (de_var 0)) da_nil)))) (de_tup (da_cons (de_fld T.clR T.no_heard (de_var 1)) (da_cons (de_fld T.clR T.no_written (de_var 1)) (da_cons (de_fld T.clR T.no_rows (de_var 1)) da_nil)))) (nomark _))))), fun ds G Q h => ?_⟩
    rcases h with ⟨R1, R2, rfl, q⟩ | ⟨R1, d, rfl, hno, hty, q⟩
    · rw [show dstart N_Rules_u__eq_u_ [rulD C R1, rulD C R2] = [some (rulD C R1), some (rulD C R2)] from rfl]
      have e0 : ∀ (R : Rul) (G : GH), D.cur G (.obj C (rulF R)) = .obj C (rulF R) := fun _ _ => rfl
      simp only [dxs, dl, rulD, rIsV, e0, true_and, Bool.not_true, if_false, rulF_heard, rulF_written, rulF_rows, if_true]
      have si : ∀ R : Rul, (D.tup [.str R.heard, .str R.written, rowsD R.rows]).si = true := fun R => by
        have := rowsD_si R.rows
        simp [D.si, D.sis, this]
      have dpp : ∀ R : Rul, (D.tup [.str R.heard, .str R.written, rowsD R.rows]).dp ≤ 60 := fun R => by
        have := rowsD_dp R.rows
        simp only [D.dp, D.dps]; omega
      refine ⟨sz (by simp), sz (by simp), okE_si (si R1) (si R2) (dpp R1), G, Sub.refl _, q _ ?_⟩
      refine (eqv_si (si R1) (si R2)).trans ?_
      obtain ⟨h1, w1, r1⟩ := R1
      obtain ⟨h2, w2, r2⟩ := R2
      simp only [D.tup.injEq, List.cons.injEq, D.str.injEq, and_true, Rul.mk.injEq]
      exact ⟨fun ⟨a, b, c⟩ => ⟨a, b, rowsD_inj c⟩, fun ⟨a, b, c⟩ => ⟨a, b, by rw [c]⟩⟩
    · rw [show dstart N_Rules_u__eq_u_ [rulD C R1, d] = [some (rulD C R1), some (d)] from rfl]
      simp only [dxs, dl, dx3]
      refine rIsV_no hno hty ?_
      simp only [Bool.not_false, if_true]
      exact ⟨_, Sub.refl _, q⟩
end
section
variable {P : Program} {w : World} {K : PySem.W.Frag} {mg : Str → Option Value} {base : Heap} {C PT cT : Addr}
def spRLen01 (C : Addr) : SpD := fun ds G Q => ∃ (y : Addr) (R : Rul), ds = [.rf y] ∧ G y = some (.ins C (rulF R)) ∧ R.Ok ∧ Q (.int (R.rows.length : Nat)) G
abbrev N_Rules_u__len_u_ : List Str := ["self"]
theorem sc_Rules_u__len_u_ : FnScope N_Rules_u__len_u_ ["self"] (defScope s_Rules_u__len_u_) := ⟨rfl, rfl, rfl, by decide +kernel, rfl, by decide +kernel, by decide +kernel⟩
theorem c_Rules_u__len_u_ (T : Txt K mg C) (d : DefM K C "__len__" "Rules.__len__" s_Rules_u__len_u_) : CalM P w K mg base C "__len__" 1 ["self"] (spRLen01 C) := by
  refine calM_mk (N := N_Rules_u__len_u_) d sc_Rules_u__len_u_ (fun ds G Q h => ?_) (fun _ _ _ _ _ _ us hl => match us, hl with | [_], _ => rfl) (fun f cdv A outer s H E hg hr => ?_)
  · obtain ⟨y, R, rfl, _⟩ := h
    rfl
  · have hu := hu100 hr
    have nd := sc_Rules_u__len_u_.nd
    have hA := deeper_guards (env := envOfC "Rules.__len__" (defScope s_Rules_u__len_u_) s.heap.objs.size f cdv) hg
    refine ⟨_, (dps_one (dp_ret (de_callB cd_len rfl T.f_len (by decide +kernel) (da_cons (de_fld T.clR T.no_rows (de_var 0)) da_nil)))), fun ds G Q h => ?_⟩
    obtain ⟨y, R, rfl, gy, ok, q⟩ := h
    rw [show dstart N_Rules_u__len_u_ [.rf y] = [some (.rf y)] from rfl]
    have fewR := ok.few
    simp only [dxs, dl, gy, rulF_rows, rows_len_]
    exact ⟨trivial, G, Sub.refl _, q⟩
end
end Pace
end
section
set_option Elab.async false
set_option linter.all false
set_option maxRecDepth 100000
set_option maxHeartbeats 4000000
namespace Pace
open PySem PySem.Spec PyProof.Rows L2 DL
section
variable {P : Program} {w : World} {K : PySem.W.Frag} {mg : Str → Option Value} {base : Heap} {C PT cT : Addr}
def spHeard01 (C : Addr) : SpD := fun ds G Q => ∃ (h c L : D) (nm : Bool), ds = [.tup [h, c, L], .bl nm] ∧ Three h c L ∧ Q (dueH h c L) G
abbrev N__law_heard : List Str := ["_law_parts", "_law_is_named", "_law_found", "_law_it", "e"]
theorem sc__law_heard : FnScope N__law_heard ["_law_parts", "_law_is_named"] (defScope s__law_heard) := ⟨rfl, rfl, rfl, by decide +kernel, rfl, by decide +kernel, by decide +kernel⟩
theorem c__law_heard (T : Txt K mg C) (d : Def K mg "_law_heard" s__law_heard) (Er : ErT P K mg) (MXK_Rules : MakXK P w K mg base "Rules" C 5 ["self", "heard", "written", "rows"] (spInit01 C K) ["rows", "written", "heard"] [2, 1, 0]) (MX_Rules : MakX P w K mg base "Rules" C 5 ["self", "heard", "written", "rows"] (spInit01 C K)) (Mm__u_len_u_ : CalM P w K mg base C "__len__" 1 ["self"] (spRLen01 C)) : Cal P w K mg base "_law_heard" 7 ["_law_parts", "_law_is_named"] (spHeard01 C) := by
  refine cal_mk (N := N__law_heard) d sc__law_heard (fun ds G Q h => ?_) (fun _ _ _ _ _ _ us hl => match us, hl with | [_, _], _ => rfl) (fun f cdv A outer s H E hg hr => ?_)
  · obtain ⟨h, c, L, nm, rfl, _⟩ := h
    rfl
  · have hu := hu100 hr
    have nd := sc__law_heard.nd
    have hA := deeper_guards (env := envOfC "_law_heard" (defScope s__law_heard) s.heap.objs.size f cdv) hg
    refine ⟨_, (dps_cons (dp_asg de_str (dg_name 2 nd))
  (dps_cons (dp_try_as (x := "BadRules") (n := "e") (i := 4) (fun _ _ => Iff.rfl) rfl rfl nd rfl rfl rfl Er.e_BadRules.mg_ (by decide) (fun pn xe => (dpsx_cons (dpx_if (dt_val (de_var 1))
  (dpsx_one (dpx_asg (dex_makK MXK_Rules hA (hr.mono (by decide)) (dk_cons (de_ix hu (de_var 0) de_int) (dk_cons (de_ix hu (de_var 0) de_int) (dk_cons (de_ix hu (de_var 0) de_int) dk_nil)))) (dg_name 3 nd)))
  (dpsx_one (dpx_asg (dex_mak MX_Rules hA (hr.mono (by decide)) (da_cons (de_ix hu (de_var 0) de_int) (da_cons (de_ix hu (de_var 0) de_int) (da_cons (de_ix hu (de_var 0) de_int) da_nil)))) (dg_name 3 nd))))
  (dpsx_of (dps_one (dp_asg (de_lst (da_cons (de_fld T.clR T.no_heard (de_var 3)) (da_cons (de_fld T.clR T.no_written (de_var 3)) (da_cons (de_fld T.clR T.no_rows (de_var 3)) (da_cons (de_callB (cd_lenO Mm__u_len_u_ hA (hr.mono (by decide))) rfl T.f_len (by decide +kernel) (da_cons (de_var 3) da_nil)) da_nil))))) (dg_name 2 nd)))))) (fun a oe d pn C1 fs hz hf => (dpse_asg (dee_lst (dae_cons xrep_keeps (dee_of de_str) (dae_cons xrep_keeps (dee_xf Er.f_BadRules Er.a_BadRules hz hf (de_var 4)) (dae_cons xrep_keeps (dee_isE1 Er.i_BadRules.c Er.i_BadRules.k hz hf rfl T.f_isinstance (da_cons (de_var 4) (da_cons (de_cls rfl Er.mg_CaptionError) da_nil))) dae_nil)))) (dg_name 2 nd))))
  (dps_one (dp_ret (de_var 2))))), fun ds G Q h => ?_⟩
    obtain ⟨h, c, L, nm, rfl, th, q⟩ := h
    rw [show dstart N__law_heard [.tup [h, c, L], .bl nm] = [some (.tup [h, c, L]), some (.bl nm), none, none, none] from rfl]
    simp only [dxs, dl, dx3, xS, xE, finX, dSeqX, dTryAs, dIsE1, dXf]
    have i0 : D.item (.tup [h, c, L]) (.int 0) = some h := rfl
    have i1 : D.item (.tup [h, c, L]) (.int 1) = some c := rfl
    have i2 : D.item (.tup [h, c, L]) (.int 2) = some L := rfl
    simp only [i0, i1, i2]
    have bad : ∀ (y : Addr), G y = none → ∀ d, faultR h c L = some d → (fin Q).rt (D.lst [D.str (Str.ofString "bad"), d, D.bl true]) (gput G y (MO.ins C [])) := fun y ny d ed => by
      unfold dueH at q
      rw [ed] at q
      exact ⟨G, sub_new ny rfl, q⟩
    have good : ∀ (y : Addr), G y = none → ∀ hs ws rs, RulV hs ws rs → h = .str (strOf hs) → c = .str (strOf ws) → L = rowsD rs → (fin Q).rt (D.lst [.str (strOf hs), .str (strOf ws), rowsD rs, .int (rs.length : Nat)]) (gput G y (MO.ins C (rulF (mkR hs ws rs)))) := fun y ny hs ws rs v e1 e2 e3 => by
      subst e1 e2 e3
      unfold dueH at q
      rw [fault_rulV v] at q
      have el : lenR (rowsD rs) = rs.length := by show (rs.map rowD).length = _; rw [List.length_map]
      rw [el] at q
      exact ⟨G, sub_new ny rfl, q⟩
    have leno : ∀ (y : Addr) (G : GH) (hs ws : List Nat) (rs : List (List Mv)) (Q : DQ), RulV hs ws rs → G y = some (.ins C (rulF (mkR hs ws rs))) → Q (.int (rs.length : Nat)) G → rLenO C (spRLen01 C) [.rf y] G Q := fun y G hs ws rs Q v gy z => by
      unfold rLenO
      simp only [D.cur, gy]
      have n2 := v.n2
      exact ⟨trivial, y, mkR hs ws rs, rfl, gy, v.ok, Int.natCast_nonneg _, by show (rs.length : Int) < 2 ^ 63; omega, z⟩
    refine iteInduction (motive := fun x => x) (fun _ => ?_) fun _ => ?_
    · refine ⟨trivial, fun y ny => ⟨y, h, c, L, rfl, gput_same, th.ah, th.ac, th.aL, fun d ed => ⟨Er.i_BadRules.m, fun _ => ⟨trivial, rfl, trivial, rfl, by simp, sz (by decide), bad y ny d ed⟩⟩, fun hs ws rs v e1 e2 e3 => ?_⟩⟩
      simp only [gput_gput, gput_same, rulF_heard, rulF_written, rulF_rows]
      refine ⟨trivial, trivial, trivial, leno y _ hs ws rs _ v gput_same ⟨sz (by decide), good y ny hs ws rs v e1 e2 e3⟩⟩
    · refine fun y ny => ⟨y, h, c, L, rfl, gput_same, th.ah, th.ac, th.aL, fun d ed => ⟨Er.i_BadRules.m, fun _ => ⟨trivial, rfl, trivial, rfl, by simp, sz (by decide), bad y ny d ed⟩⟩, fun hs ws rs v e1 e2 e3 => ?_⟩
      simp only [gput_gput, gput_same, rulF_heard, rulF_written, rulF_rows]
      refine ⟨trivial, trivial, trivial, leno y _ hs ws rs _ v gput_same ⟨sz (by decide), good y ny hs ws rs v e1 e2 e3⟩⟩
end
end Pace
end
section
set_option Elab.async false
set_option linter.all false
set_option maxRecDepth 100000
set_option maxHeartbeats 4000000
namespace Pace
open PySem PySem.Spec PyProof.Rows L2 DL
section
variable {P : Program} {w : World} {K : PySem.W.Frag} {mg : Str → Option Value} {base : Heap} {C PT cT : Addr}
def spTold01 (C : Addr) : SpD := fun ds G Q => ∃ (h c L : D), ds = [.tup [h, c, L]] ∧ Three h c L ∧ Odd 20 12 1000 h ∧ Odd 20 12 1000 c ∧ Odd 20 12 1000 L ∧ Q (.bl true) G
abbrev N__law_is_told : List Str := ["_law_parts", "_law_was", "_law_due"]
theorem sc__law_is_told : FnScope N__law_is_told ["_law_parts"] (defScope s__law_is_told) := ⟨rfl, rfl, rfl, by decide +kernel, rfl, by decide +kernel, by decide +kernel⟩
theorem c__law_is_told (T : Txt K mg C) (d : Def K mg "_law_is_told" s__law_is_told) (C__law_fault : Cal P w K mg base "_law_fault" 4 ["_law_parts"] (spFault01)) (C__law_heard : Cal P w K mg base "_law_heard" 7 ["_law_parts", "_law_is_named"] (spHeard01 C)) : Cal P w K mg base "_law_is_told" 8 ["_law_parts"] (spTold01 C) := by
  refine cal_mk (N := N__law_is_told) d sc__law_is_told (fun ds G Q h => ?_) (fun _ _ _ _ _ _ us hl => match us, hl with | [_], _ => rfl) (fun f cdv A outer s H E hg hr => ?_)
  · obtain ⟨h, c, L, rfl, _⟩ := h
    rfl
  · have hu := hu100 hr
    have nd := sc__law_is_told.nd
    have hA := deeper_guards (env := envOfC "_law_is_told" (defScope s__law_is_told) s.heap.objs.size f cdv) hg
    refine ⟨_, (dps_cons (dp_par (i := 1) (j := 2) rfl nd (ha := (da_cons (de_callB (cd_reprG hu hA T.sysM) rfl T.f_repr (by decide +kernel) (da_cons (de_var 0) da_nil)) (da_cons (de_cal C__law_fault hA (hr.mono (by decide)) (da_cons (de_var 0) da_nil)) da_nil))))
  (dps_cons (dp_asg (de_if (dt_cmp od_notN (de_var 2) de_non (nomark _)) (de_lst (da_cons de_str (da_cons (de_var 2) (da_cons de_bl da_nil)))) (de_op od_add (de_callTy cd_list rfl T.f_list (by decide +kernel) (da_cons (de_var 0) da_nil)) (de_lst (da_cons (de_callB cd_len rfl T.f_len (by decide +kernel) (da_cons (de_ix hu (de_var 0) de_int) da_nil)) da_nil)))) (dg_name 2 nd))
  (dps_one (dp_ret (de_and (de_cmp (od_eq hu) (de_callB (cd_reprG hu hA T.sysM) rfl T.f_repr (by decide +kernel) (da_cons (de_lst (da_cons (de_cal C__law_heard hA (hr.mono (by decide)) (da_cons (de_var 0) (da_cons de_bl da_nil))) (da_cons (de_cal C__law_heard hA (hr.mono (by decide)) (da_cons (de_var 0) (da_cons de_bl da_nil))) da_nil))) da_nil)) (de_callB (cd_reprG hu hA T.sysM) rfl T.f_repr (by decide +kernel) (da_cons (de_lst (da_cons (de_var 2) (da_cons (de_var 2) da_nil))) da_nil)) (nomark _)) (de_one (de_cmp (od_eq hu) (de_callB (cd_reprG hu hA T.sysM) rfl T.f_repr (by decide +kernel) (da_cons (de_var 0) da_nil)) (de_var 1) (nomark _)))))))), fun ds G Q h => ?_⟩
    obtain ⟨h, c, L, rfl, th, oh, oc, oL, q⟩ := h
    rw [show dstart N__law_is_told [.tup [h, c, L]] = [some (.tup [h, c, L]), none, none] from rfl]
    simp only [dxs, dl, dx3]
    have mem3 : ∀ {P : D → Prop}, P h → P c → P L → ∀ x ∈ [h, c, L], P x := fun a b d x hx => by
      simp only [List.mem_cons, List.not_mem_nil, or_false] at hx
      rcases hx with rfl | rfl | rfl
      · exact a
      · exact b
      · exact d
    have bh := oh.bk
    have bc := oc.bk
    have bL := oL.bk
    have oP : Odd 20 13 3003 (.tup [h, c, L]) := oddP_tup (mem3 oh.one oc.one oL.one) (by rw [bks_cons, bks_cons, bks_cons, bks_nil]; omega)
    have rp : ∀ (G : GH) (Q : DQ), Q (.str (D.pyR (.tup [h, c, L])).shown) G → rReprG [.tup [h, c, L]] G Q := fun G Q z => Odd.repr oP (by decide) (by decide) (by decide) z
    have rr : ∀ (x : D), Odd 20 13 5000 x → ∀ (G : GH) (Q : DQ), Q (.str (D.pyR (.lst [x, x])).shown) G → rReprG [.lst [x, x]] G Q := fun x ox G Q z => by
      have := ox.bk
      refine Odd.repr (m := 20) (n := 14) (w := 10002) (oddP_lst (n := 13) (fun y hy => ?_) ?_) (by decide) (by decide) (by decide) z
      · simp only [List.mem_cons, List.not_mem_nil, or_false] at hy
        rcases hy with rfl | rfl <;> exact ox.one
      · rw [bks_cons, bks_cons, bks_nil]; omega
    have eS : ∀ (G : GH) (x : Str), D.cur G (.str x) = .str x := fun _ _ => rfl
    have ev : ∀ x : Str, (D.str x).eqv (.str x) = true := fun x => by rw [eqv_str]; simp
    refine rp _ _ ⟨h, c, L, rfl, th, ?_⟩
    cases e : faultR h c L with
    | some d =>
      have ed : dueH h c L = .lst [.str (Str.ofString "bad"), d, .bl true] := by unfold dueH; rw [e]
      have hn : d.isNon = false := by
        rcases fault_kind e with ⟨z, rfl, _⟩ | ⟨i, rfl, _⟩ <;> rfl
      have od : Odd 20 12 10 d := by
        rcases fault_kind e with ⟨z, rfl, hz⟩ | ⟨i, rfl, hi⟩
        · rcases hz with rfl | rfl | rfl
          · exact oddP_str (cs := [104, 101, 97, 114, 100]) (by decide) (by decide)
          · exact oddP_str (cs := [119, 114, 105, 116, 116, 101, 110]) (by decide) (by decide)
          · exact oddP_str (cs := [114, 111, 119, 115]) (by decide) (by decide)
        · refine oddP_int ?_
          have e : (999 : Nat) ≤ 10 ^ 39 := by decide
          omega
      have oB : Odd 20 13 5000 (.lst [.str (Str.ofString "bad"), d, .bl true]) := by
        have o1 : Odd 20 12 3 (.str (Str.ofString "bad")) := oddP_str (cs := [98, 97, 100]) (by decide) (by decide)
        refine oddP_lst (n := 12) (fun x hx => ?_) ?_
        · simp only [List.mem_cons, List.not_mem_nil, or_false] at hx
          rcases hx with rfl | rfl | rfl
          · exact o1.one
          · exact od.one
          · exact (oddP_bl (m := 20) (n := 12) (w := 0)).one
        · have b1 := o1.bk
          have b2 := od.bk
          have b3 : bkD (.bl true) = 0 := rfl
          rw [bks_cons, bks_cons, bks_cons, bks_nil, b3]
          omega
      have ef : dueF01 (some d) = d := rfl
      rw [ef, hn]
      simp only [Bool.not_false, if_true]
      refine ⟨sz (by decide), h, c, L, false, rfl, th, ?_⟩
      rw [ed]
      refine ⟨h, c, L, true, rfl, th, ?_⟩
      rw [ed]
      refine ⟨sz (by decide), rr _ oB _ _ ⟨sz (by decide), rr _ oB _ _ ?_⟩⟩
      simp only [eS, okE_str, ev, if_true, true_and]
      refine rp _ _ ?_
      simp only [eS, okE_str, ev, if_true, true_and]
      exact ⟨_, Sub.refl _, q⟩
    | none =>
      have ed : dueH h c L = .lst [h, c, L, .int (lenR L : Int)] := by unfold dueH; rw [e]
      obtain ⟨hs, ws, rs, v, e1, e2, e3⟩ := fault_rul th.ah th.ac th.aL e
      have n2 := v.n2
      have lr : lenR L = rs.length := by rw [e3]; show (rs.map rowD).length = _; rw [List.length_map]
      have oB : Odd 20 13 5000 (.lst [h, c, L, .int (lenR L : Int)]) := by
        have o4 : Odd 20 12 0 (.int (lenR L : Int)) := by
          refine oddP_int ?_
          have e : (999 : Nat) ≤ 10 ^ 39 := by decide
          omega
        refine oddP_lst (n := 12) (fun x hx => ?_) ?_
        · simp only [List.mem_cons, List.not_mem_nil, or_false] at hx
          rcases hx with rfl | rfl | rfl | rfl
          · exact oh.one
          · exact oc.one
          · exact oL.one
          · exact o4.one
        · have b1 := o4.bk
          rw [bks_cons, bks_cons, bks_cons, bks_cons, bks_nil]
          omega
      have lists : ∀ (xs : List D) (G : GH) (Q : DQ), DL.rListD [.tup xs] G Q = Q (.lst xs) G := fun _ _ _ => rfl
      have i2 : D.item (.tup [h, c, L]) (.int 2) = some L := rfl
      have eL : ∀ (G : GH) (Q : DQ), rLenD [L] G Q = Q (.int (lenR L : Int)) G := fun G Q => by rw [e3]; rfl
      have ad : ∀ (G : GH) (K : DQ), rAddD (.lst [h, c, L]) (.lst [.int (lenR L : Int)]) G K = (4 ≤ sizeLine ∧ K (.lst [h, c, L, .int (lenR L : Int)]) G) := fun _ _ => rfl
      simp only [dueF01, D.isNon, Bool.not_true, Bool.false_eq_true, if_false, lists, i2, eL, ad]
      trace_state
      refine ⟨sz (by decide), sz (by decide), h, c, L, false, rfl, th, ?_⟩
      rw [ed]
      refine ⟨h, c, L, true, rfl, th, ?_⟩
      rw [ed]
      refine ⟨sz (by decide), rr _ oB _ _ ⟨sz (by decide), rr _ oB _ _ ?_⟩⟩
      simp only [eS, okE_str, ev, if_true, true_and]
      refine rp _ _ ?_
      simp only [eS, okE_str, ev, if_true, true_and]
      exact ⟨_, Sub.refl _, q⟩
end
end Pace
end
section
set_option Elab.async false
set_option linter.all false
set_option maxRecDepth 100000
set_option maxHeartbeats 4000000
namespace Pace
open PySem PySem.Spec PyProof.Rows L2 DL
section
variable {P : Program} {w : World} {K : PySem.W.Frag} {mg : Str → Option Value} {base : Heap} {C PT cT : Addr}
abbrev dk (n : Nat) : MO := .deck "cells" "ground" "draws" n
def spDraw : SpD := fun ds G Q => ∃ (p : Addr) (n b : Nat), ds = [.rf p, .int (n : Int)] ∧ 1 ≤ n ∧ n ≤ 1000 ∧ G p = some (dk (b + 1)) ∧ ∀ r : Nat, r < n → Q (.int (r : Int)) (gput G p (dk b))
abbrev N__law_draw : List Str := ["_law_deck_here", "_law_below", "_law_turn", "_law_figure", "_law_cell"]
theorem sc__law_draw : FnScope N__law_draw ["_law_deck_here", "_law_below"] (defScope s__law_draw) := ⟨rfl, rfl, rfl, by decide +kernel, rfl, by decide +kernel, by decide +kernel⟩
theorem c__law_draw (T : Txt K mg C) (d : Def K mg "_law_draw" s__law_draw) : Cal P w K mg base "_law_draw" 1 ["_law_deck_here", "_law_below"] (spDraw) := by
  refine cal_mk (N := N__law_draw) d sc__law_draw (fun ds G Q h => ?_) (fun _ _ _ _ _ _ us hl => match us, hl with | [_, _], _ => rfl) (fun f cdv A outer s H E hg hr => ?_)
  · obtain ⟨p, n, b, rfl, _⟩ := h
    rfl
  · have hu := hu100 hr
    have nd := sc__law_draw.nd
    have hA := deeper_guards (env := envOfC "_law_draw" (defScope s__law_draw) s.heap.objs.size f cdv) hg
    refine ⟨_, (dps_out (dps_in (dps_cons (dp_asg (de_op od_add (de_ix hu (de_var 0) de_str) de_int) (dg_sub hu (de_var 0) de_str))
  (dps_cons (dp_par (i := 2) (j := 3) rfl nd (ha := (da_cons (de_ix hu (de_var 0) de_str) (da_cons (de_ix hu (de_var 0) de_str) da_nil))))
  (dps_cons (dp_if (dt_cmp (od_ne hu) (de_ix hu (de_var 0) de_str) (de_lst da_nil) (nomark _))
  (dps_cons (dp_asg (de_bm0 PySem.F.plainAttrs_list PySem.F.slot_list_pop PySem.F.type_list_pop md_pop (de_ix hu (de_var 0) de_str)) (dg_name 4 nd))
  (dps_cons (dp_if (dt_cmp (od_ge hu) (de_var 4) (de_op od_pow de_int de_int) (nomark _))
  (dps_cons (dp_expr (de_bm PySem.F.plainAttrs_list PySem.F.slot_list_append PySem.F.type_list_append md_append (de_ix hu (de_var 0) de_str) (da_cons (de_op od_fdiv (de_var 4) (de_var 1)) da_nil)))
  (dps_one (dp_ret (de_op od_mod (de_callTy cd_int rfl T.f_int (by decide +kernel) (da_cons (de_var 4) da_nil)) (de_var 1)))))
  dps_nil)
  (dps_one (dp_asg (de_op od_add (de_var 3) (de_op od_mod (de_callTy cd_int rfl T.f_int (by decide +kernel) (da_cons (de_var 4) da_nil)) de_int)) (dg_name 3 nd)))))
  dps_nil)
  (dps_cons (dp_asg (de_op od_mod (de_op od_mul (de_callTy cd_int rfl T.f_int (by decide +kernel) (da_cons (de_op od_add (de_op od_add (de_op od_mod (de_var 3) de_int) (de_op od_mul (de_op od_mul de_int (de_var 2)) (de_var 2))) de_int) da_nil)) de_int) de_int) (dg_name 3 nd))
  (dps_cons (dp_asg (de_op od_mod (de_callTy cd_int rfl T.f_int (by decide +kernel) (da_cons (de_op od_add (de_op od_add (de_op od_mul (de_var 3) (de_var 3)) (de_op od_mul de_int (de_var 2))) de_int) da_nil)) de_int) (dg_name 3 nd))
  (dps_one (dp_ret (de_op od_mod (de_op od_fdiv (de_op od_mod (de_callTy cd_int rfl T.f_int (by decide +kernel) (da_cons (de_op od_mul (de_var 3) de_int) da_nil)) de_int) de_int) (de_var 1))))))))))), fun ds G Q h => ?_⟩
    obtain ⟨p, n, b, rfl, n1, n2, gp, q⟩ := h
    rw [show dstart N__law_draw [.rf p, .int (n : Int)] = [some (.rf p), some (.int (n : Int)), none, none, none] from rfl]
    simp only [dx2]
    refine ⟨Deck, _, _, deck_open gp, ?_⟩
    rintro x ⟨ok, gc, ne, nd0⟩
    have fin0 : ∀ (r : Int) (x' : Deck) (G' : GH), x'.c = x.c → G' = openG G p "cells" "ground" "draws" x' → x'.ok b → 0 ≤ r → r < n → (outE (fin Q)).rt (.int r) G' := by
      rintro r x' G' e rfl ok' h0 h1
      refine ⟨_, deck_close gp (by rw [e]; exact gc) (by rw [e]; exact ne) nd0 ok', _, Sub.refl _, ?_⟩
      obtain ⟨k, rfl⟩ := Int.eq_ofNat_of_zero_le h0
      exact q k (by omega)
    obtain ⟨c, g, t, ns⟩ := x
    obtain ⟨o1, o2, o3, o4, o5⟩ := ok
    have hu1 : ∀ G0 o, gput G0 p o c = G0 c := fun _ _ => gput_ne ne
    unfold openG
    simp only at gc ne hu1 o1 o2 o3 o4 o5 ⊢
    have e1 : ∀ u : D, D.item (.dK [(.inr "cells", .rf c), (.inr "ground", .int g), (.inr "draws", u)]) (.str "cells") = some (.rf c) := fun u => rfl
    have e2 : ∀ u : D, D.item (.dK [(.inr "cells", .rf c), (.inr "ground", .int g), (.inr "draws", u)]) (.str "draws") = some u := fun u => rfl
    have e3 : ∀ u : D, putD ([(.inr "cells", .rf c), (.inr "ground", .int g), (.inr "draws", .int t)] : List (Key × D)) (.inr "draws") u = ([(.inr "cells", .rf c), (.inr "ground", .int g), (.inr "draws", u)] : List (Key × D)) := fun u => rfl
    have e4 : ∀ u : D, D.item (.dK [(.inr "cells", .rf c), (.inr "ground", .int g), (.inr "draws", u)]) (.str "ground") = some (.int g) := fun u => rfl
    have hc : G c = some .dcell := gc
    simp only [dxs, dl, e1, e2, e4, hu1, dx3, D.key, e3, gput_gput]
    refine ⟨szl (by decide), Nat.zero_le _, intL_ok ns, ?_⟩
    rw [intL_eqv]
    have cm1 : ∀ i j : Int, (-4294967296 ≤ i ∧ i ≤ 4294967296) ∨ (-4294967296 ≤ j ∧ j ≤ 4294967296) → CMul i j := fun i j h => by
      rcases h with h | h
      · exact .inl (by omega)
      · exact .inr (by omega)
    rcases List.eq_nil_or_concat ns with rfl | ⟨ns', a, rfl⟩
    · rw [if_neg (by simp)]
      refine ⟨by omega, cm1 _ _ (.inl (by omega)), .inr (by omega), cm1 _ _ (.inr (by omega)), by omega, cm1 _ _ (.inl (by omega)), cm1 _ _ (.inl (by omega)), by omega, cm1 _ _ (.inl (by omega)), by omega, ⟨by omega, by omega⟩, by omega, ?_⟩
      refine fin0 _ ⟨c, g, t + 1, []⟩ _ rfl ?_ ⟨by simp only; omega, by simp only; omega, o3, o4, by simp⟩ (Int.emod_nonneg _ (by omega)) (Int.emod_lt_of_pos _ (by omega))
      rfl
    · rw [List.concat_eq_append] at *
      rw [if_pos (by simp)]
      have o6 : ns'.length + 1 ≤ 63 := by simpa using o5
      refine ⟨rfl, ?_⟩
      simp only [rPopD, hu1, dl, pop_last, pop_rest, gput_under ne, dx3, dxs, okL_int, DL.lt_int, true_and, e1, beq_self_eq_true, rAppendD]
      refine ⟨⟨by omega, by omega, by decide⟩, ?_⟩
      by_cases han : a < 10 ^ Int.toNat 18
      · rw [if_neg (by simpa using han)]
        refine ⟨by omega, by omega, cm1 _ _ (.inl (by omega)), .inr (by omega), cm1 _ _ (.inr (by omega)), by omega, cm1 _ _ (.inl (by omega)), cm1 _ _ (.inl (by omega)), by omega, cm1 _ _ (.inl (by omega)), by omega, ⟨by omega, by omega⟩, by omega, ?_⟩
        exact fin0 _ ⟨c, g, t + 1, ns'⟩ _ rfl rfl ⟨by simp only; omega, by simp only; omega, o3, o4, by simp only; omega⟩ (Int.emod_nonneg _ (by omega)) (Int.emod_lt_of_pos _ (by omega))
      · rw [if_pos (by simpa using han)]
        refine ⟨⟨by omega, by omega⟩, szl (by simp; omega), by omega, fin0 _ ⟨c, g, t + 1, ns' ++ [a / (n : Int)]⟩ _ rfl ?_ ⟨by simp only; omega, by simp only; omega, o3, o4, by simp; omega⟩ (Int.emod_nonneg _ (by omega)) (Int.emod_lt_of_pos _ (by omega))⟩
        simp [openG]
end
end Pace
end
section
set_option Elab.async false
set_option linter.all false
set_option maxRecDepth 100000
set_option maxHeartbeats 4000000
namespace Pace
open PySem PySem.Spec PyProof.Rows L2 DL
section
variable {P : Program} {w : World} {K : PySem.W.Frag} {mg : Str → Option Value} {base : Heap} {C PT cT : Addr}
def Src (src : D) (xs : List D) : Prop := src = .lst xs ∨ ∃ cs : List Nat, src = .str (strOf cs) ∧ xs = cs.map fun c => .str (sgn c)
def spPick : SpD := fun ds G Q => ∃ (p : Addr) (b : Nat) (src : D) (xs : List D), ds = [.rf p, src] ∧ Src src xs ∧ 1 ≤ xs.length ∧ xs.length ≤ 1000 ∧ G p = some (dk (b + 1)) ∧ ∀ x ∈ xs, Q x (gput G p (dk b))
abbrev N__law_pick : List Str := ["_law_deck_here", "_law_some"]
theorem sc__law_pick : FnScope N__law_pick ["_law_deck_here", "_law_some"] (defScope s__law_pick) := ⟨rfl, rfl, rfl, by decide +kernel, rfl, by decide +kernel, by decide +kernel⟩
theorem c__law_pick (T : Txt K mg C) (d : Def K mg "_law_pick" s__law_pick) (C__law_draw : Cal P w K mg base "_law_draw" 1 ["_law_deck_here", "_law_below"] (spDraw)) : Cal P w K mg base "_law_pick" 2 ["_law_deck_here", "_law_some"] (spPick) := by
  refine cal_mk (N := N__law_pick) d sc__law_pick (fun ds G Q h => ?_) (fun _ _ _ _ _ _ us hl => match us, hl with | [_, _], _ => rfl) (fun f cdv A outer s H E hg hr => ?_)
  · obtain ⟨p, b, src, xs, rfl, _⟩ := h
    rfl
  · have hu := hu100 hr
    have nd := sc__law_pick.nd
    have hA := deeper_guards (env := envOfC "_law_pick" (defScope s__law_pick) s.heap.objs.size f cdv) hg
    refine ⟨_, (dps_one (dp_ret (de_ix hu (de_var 1) (de_cal C__law_draw hA (hr.mono (by decide)) (da_cons (de_var 0) (da_cons (de_callB cd_len rfl T.f_len (by decide +kernel) (da_cons (de_var 1) da_nil)) da_nil)))))), fun ds G Q h => ?_⟩
    obtain ⟨p, b, src, xs, rfl, hs, n1, n2, gp, q⟩ := h
    rcases hs with rfl | ⟨cs, rfl, rfl⟩
    · rw [show dstart N__law_pick [.rf p, .lst xs] = [some (.rf p), some (.lst xs)] from rfl]
      simp only [dxs, dl, dx3]
      refine ⟨p, xs.length, b, rfl, n1, n2, gp, fun r hr => ?_⟩
      obtain ⟨x, hx⟩ : ∃ x, xs[r]? = some x := ⟨_, List.getElem?_eq_getElem hr⟩
      simp only [dxs, dl, item_lst, atI_nat hx]
      exact ⟨_, Sub.refl _, q x (List.mem_of_getElem? hx)⟩
    · rw [show dstart N__law_pick [.rf p, .str (strOf cs)] = [some (.rf p), some (.str (strOf cs))] from rfl]
      have n1' : 1 ≤ cs.length := by simpa using n1
      have n2' : cs.length ≤ 1000 := by simpa using n2
      have hsz : (strOf cs).length ≤ sizeLine := by rw [strOf_len]; exact sz (by omega)
      simp only [dxs, dl, len_str hsz, strOf_len]
      refine ⟨p, cs.length, b, rfl, n1', n2', gp, fun r hr => ?_⟩
      obtain ⟨x, hx⟩ : ∃ x, cs[r]? = some x := ⟨_, List.getElem?_eq_getElem hr⟩
      have e : D.item (.str (strOf cs)) (.int (r : Int)) = some (.str (sgn x)) := by
        show (if (strOf cs).length ≤ sizeLine then _ else _) = _
        rw [if_pos hsz]
        have : atI (strOf cs).cps.toList (r : Int) = some x := atI_nat (by simpa [strOf] using hx)
        rw [this]
        rfl
      simp only [dxs, dl, e]
      exact ⟨_, Sub.refl _, q _ (List.mem_map.mpr ⟨x, List.mem_of_getElem? hx, rfl⟩)⟩
end
section
variable {P : Program} {w : World} {K : PySem.W.Frag} {mg : Str → Option Value} {base : Heap} {C PT cT : Addr}
def spDeck : SpD := fun ds G Q => ∃ ns : List Int, ds = [.scr ns] ∧ NoDeck G ∧ ∀ p c, G p = none → G c = none → c ≠ p → Q (.rf p) (shutG G p c "cells" "ground" "draws" 1000000)
abbrev N__law_deck : List Str := ["_law_script", "_law_cells", "_law_ground", "_law_cell"]
theorem sc__law_deck : FnScope N__law_deck ["_law_script"] (defScope s__law_deck) := ⟨rfl, rfl, rfl, by decide +kernel, rfl, by decide +kernel, by decide +kernel⟩
theorem c__law_deck (T : Txt K mg C) (d : Def K mg "_law_deck" s__law_deck) : Cal P w K mg base "_law_deck" 1 ["_law_script"] (spDeck) := by
  refine cal_mk (N := N__law_deck) d sc__law_deck (fun ds G Q h => ?_) (fun _ _ _ _ _ _ us hl => match us, hl with | [_], _ => rfl) (fun f cdv A outer s H E hg hr => ?_)
  · obtain ⟨ns, rfl, _⟩ := h
    rfl
  · have hu := hu100 hr
    have nd := sc__law_deck.nd
    have hA := deeper_guards (env := envOfC "_law_deck" (defScope s__law_deck) s.heap.objs.size f cdv) hg
    refine ⟨_, (dps_out (dps_cons (dp_par (i := 1) (j := 2) rfl nd (ha := (da_cons (de_callTy cd_list rfl T.f_list (by decide +kernel) (da_cons (de_slice (de_var 0) do_none (do_some de_int)) da_nil)) (da_cons de_int da_nil))))
  (dps_cons (dp_for PassesOwn.never rfl (di_list (de_var 1)) (dg_name 3 nd)
  (dps_one (dp_asg (de_op od_mod (de_callTy cd_int rfl T.f_int (by decide +kernel) (da_cons (de_op od_add (de_op od_add (de_op od_mul (de_var 2) de_int) (de_op od_mod (de_callTy cd_int rfl T.f_int (by decide +kernel) (da_cons (de_var 3) da_nil)) de_int)) de_int) da_nil)) de_int) (dg_name 2 nd))))
  (dps_one (dp_ret (de_dispM (dpp_cons de_str (de_revLM (de_var 1)) (dpp_cons de_str (de_var 2) (dpp_cons de_str de_int dpp_nil))))))))), fun ds G Q h => ?_⟩
    obtain ⟨ns, rfl, nd0, q⟩ := h
    rw [show dstart N__law_deck [.scr ns] = [some (.scr ns), none, none, none] from rfl]
    have hcut : (DL.cutD ns none (some 63)).length ≤ 63 := by
      unfold DL.cutD
      rw [List.length_take]
      have : HT.sIx ns.length ns.length (some 63) = min 63 ns.length := HT.sIx_nat ns.length ns.length 63
      rw [this]
      omega
    generalize hcs : DL.cutD ns none (some 63) = cells at hcut
    have lst : ∀ (xs : List D) (G : GH) (Q : DQ), rListD [.lst xs] G Q = Q (.lst xs) G := fun _ _ _ => rfl
    simp only [dx2, dxs, dl, dx3, hcs, lst]
    refine ⟨fun i S' G' => ∃ (b : Int) (x2 : Option D), S' = [some (.scr ns), some (.lst (cells.map .int)), some (.int b), x2] ∧ G' = G ∧ 0 ≤ b ∧ b < 2147483587, ⟨_, none, rfl, rfl, by omega, by omega⟩, fun _ _ _ _ => trivial, ?_, ?_⟩
    · rintro i S' G' dd ⟨b, x2, rfl, rfl, h1, h2⟩ hd
      obtain ⟨v, hv, rfl⟩ := map_get hd
      simp only [dxs, dl, dx3]
      refine ⟨.inl (by omega), by omega, by omega, _, _, rfl, trivial, Int.emod_nonneg _ (by omega), Int.emod_lt_of_pos _ (by omega)⟩
    · rintro S' G' ⟨b, x2, rfl, rfl, h1, h2⟩
      simp only [dxs, dl, dx3, hcs]
      intro c hc
      refine ⟨by show (3 : Nat) ≤ 15; decide, fun p hp => ?_⟩
      have hcp : c ≠ p := fun z => by rw [← z, gput_same] at hp; cases hp
      have hp' : G' p = none := by rw [gput_ne (fun z => hcp z.symm)] at hp; exact hp
      have ndG : NoDeck (openG G' p "cells" "ground" "draws" ⟨c, b, 0, cells.reverse⟩) := open_nodeck fun a _ => nd0 a
      refine ⟨_, deck_shut (x := ⟨c, b, 0, cells.reverse⟩) (n := 1000000) (k1 := "cells") (k2 := "ground") (k3 := "draws") (p := p) ?_ ?_ ?_ ⟨by simp only; omega, by simp only; omega, h1, by simp only; omega, by simp; omega⟩, _, Sub.refl _, ?_⟩
      · have e : openG G' p "cells" "ground" "draws" ⟨c, b, 0, cells.reverse⟩ = gput (gput G' c (.lst (cells.map D.int).reverse)) p (.dK [(.inr "cells", .rf c), (.inr "ground", .int b), (.inr "draws", .int 0)]) := by
          unfold openG
          rw [List.map_reverse]
        rw [e] at ndG
        exact ndG
      · exact gput_same
      · rw [gput_ne hcp, gput_same, List.map_reverse]
      · have e : ∀ o1 o2, shutG (gput (gput G' c o1) p o2) p c "cells" "ground" "draws" 1000000 = shutG G' p c "cells" "ground" "draws" 1000000 := fun o1 o2 => by
          funext a
          unfold shutG
          by_cases z1 : a = p
          · subst z1; rw [gput_same, gput_same]
          · rw [gput_ne z1, gput_ne z1]
            by_cases z2 : a = c
            · subst z2; rw [gput_same, gput_same]
            · rw [gput_ne z2, gput_ne z2, gput_ne z1, gput_ne z2]
        show Q _ (shutG (gput (gput G' c _) p _) p c _ _ _ _)
        rw [e]
        exact q p c hp' hc hcp
end
end Pace
end
section
set_option Elab.async false
set_option linter.all false
set_option maxRecDepth 100000
set_option maxHeartbeats 4000000
namespace Pace
open PySem PySem.Spec PyProof.Rows L2 DL
section
variable {P : Program} {w : World} {K : PySem.W.Frag} {mg : Str → Option Value} {base : Heap} {C PT cT : Addr}
def spSigns : SpD := fun ds G Q => ∃ (p : Addr) (many n : Nat), ds = [.rf p, .int (many : Int)] ∧ 1 ≤ many ∧ many ≤ 3 ∧ G p = some (dk (n + 10)) ∧
  ∀ (cs : List Nat) (m : Nat), n ≤ m → lettersB cs = true → cs.length ≤ many → Q (.str (strOf cs)) (gput G p (dk m))
abbrev N__law_signs : List Str := ["_law_deck_here", "_law_many", "_law_alphabet", "_law_go"]
theorem sc__law_signs : FnScope N__law_signs ["_law_deck_here", "_law_many"] (defScope s__law_signs) := ⟨rfl, rfl, rfl, by decide +kernel, rfl, by decide +kernel, by decide +kernel⟩
theorem c__law_signs (T : Txt K mg C) (d : Def K mg "_law_signs" s__law_signs) (C__law_pick : Cal P w K mg base "_law_pick" 2 ["_law_deck_here", "_law_some"] (spPick)) (C__law_draw : Cal P w K mg base "_law_draw" 1 ["_law_deck_here", "_law_below"] (spDraw)) : Cal P w K mg base "_law_signs" 3 ["_law_deck_here", "_law_many"] (spSigns) := by
  refine cal_mk (N := N__law_signs) d sc__law_signs (fun ds G Q h => ?_) (fun _ _ _ _ _ _ us hl => match us, hl with | [_, _], _ => rfl) (fun f cdv A outer s H E hg hr => ?_)
  · obtain ⟨p, many, n, rfl, _⟩ := h
    rfl
  · have hu := hu100 hr
    have nd := sc__law_signs.nd
    have hA := deeper_guards (env := envOfC "_law_signs" (defScope s__law_signs) s.heap.objs.size f cdv) hg
    refine ⟨_, (dps_cons (dp_asg de_str (dg_name 2 nd))
  (dps_cons (dp_if (dt_cmp (od_gt hu) (de_cal C__law_draw hA (hr.mono (by decide)) (da_cons (de_var 0) (da_cons de_int da_nil))) de_int (nomark _))
  (dps_one (dp_ret (de_slice de_str do_none (do_some (de_op od_add de_int (de_cal C__law_draw hA (hr.mono (by decide)) (da_cons (de_var 0) (da_cons (de_var 1) da_nil))))))))
  dps_nil)
  (dps_one (dp_ret (de_bm PySem.F.plainAttrs_str PySem.F.slot_str_join PySem.F.type_str_join md_join de_str (da_cons (de_sortSetS rfl rfl T.f_sorted rfl T.f_set (de_lc (own := [("_law_go", 3)]) (p := (.nm 3)) rfl nd (di_range1 rfl T.f_range (da_cons (de_op od_add de_int (de_cal C__law_draw hA (hr.mono (by decide)) (da_cons (de_var 0) (da_cons (de_var 1) da_nil)))) da_nil)) (blkOk_by (by show blkC N__law_signs (defScope s__law_signs) _ _ = true; decide +kernel)) (by decide) (fun _ _ _ _ _ => pg_name (i := 3) nd rfl (Or.inl rfl)) (fun _ _ _ _ _ => dts_nil) (fun _ _ _ _ _ => (de_cal C__law_pick hA (hr.mono (by decide)) (da_cons (de_var 0) (da_cons (de_var 2) da_nil)))))) da_nil)))))), fun ds G Q h => ?_⟩
    obtain ⟨p, many, n, rfl, m1, m3, gp, q⟩ := h
    rw [show dstart N__law_signs [.rf p, .int (many : Int)] = [some (.rf p), some (.int (many : Int)), none, none] from rfl]
    simp only [dxs, dl]
    refine ⟨p, 3, n + 9, rfl, by decide, by decide, gp, fun r hr => ?_⟩
    simp only [dxs, dl]
    refine ⟨okL_int _ _, ?_⟩
    rw [DL.lt_int]
    by_cases h0 : 0 < r
    · rw [if_pos (by simpa using h0)]
      refine ⟨p, many, n + 8, rfl, m1, by omega, gput_same, fun r2 hr2 => ?_⟩
      have e : ((1 : Int) + (r2 : Int)) = ((1 + r2 : Nat) : Int) := by omega
      simp only [dxs, dl, dx3, s_abc, cutS_strOf, e, cut_take, gput_gput]
      refine ⟨by rw [strOf_len]; exact sz (by simp), _, Sub.refl _, q _ _ (by omega) ?_ (by simp; omega)⟩
      have : r2 = 0 ∨ r2 = 1 ∨ r2 = 2 := by omega
      rcases this with rfl | rfl | rfl <;> decide
    · rw [if_neg (by simpa using h0)]
      refine ⟨rfl, ?_⟩
      simp only [dSortSetS, dxs, dl]
      refine ⟨p, many, n + 8, rfl, m1, by omega, gput_same, fun r2 hr2 => ?_⟩
      have e : ((1 : Int) + (r2 : Int)) = ((1 + r2 : Nat) : Int) := by omega
      simp only [dxs, dl, dx3, e, gput_gput]
      refine ⟨by omega, by omega, ?_⟩
      refine ⟨sz (by simp; omega), fun i acc G' => ∃ cs : List Nat, acc = cs.map (fun c => .str (sgn c)) ∧ cs.length = i ∧ i ≤ 1 + r2 ∧ (∀ c ∈ cs, c ∈ abc) ∧ G' = gput G p (dk (n + 8 - i)), ⟨[], rfl, rfl, Nat.zero_le _, by simp, rfl⟩, fun _ _ _ _ => trivial, ?_, ?_⟩
      · rintro i acc G' d ⟨cs, rfl, hl, hi, hin, rfl⟩ hd
        obtain ⟨hi2, rfl⟩ := range_get hd
        refine ⟨_, rfl, ?_⟩
        simp only [dxs, dl, dwipe, List.map_cons, List.map_nil, if_true, abc_str]
        refine ⟨p, n + 8 - (i + 1), _, _, rfl, .inr ⟨abc, rfl, rfl⟩, by simp [abc], by simp [abc], ?_, fun x hx => ?_⟩
        · rw [gput_same]
          congr 2
          omega
        · obtain ⟨c, hc, rfl⟩ := List.mem_map.mp hx
          refine ⟨cs ++ [c], by simp, by simp [hl], by omega, fun d hd => ?_, ?_⟩
          · rcases List.mem_append.mp hd with hd | hd
            · exact hin d hd
            · rw [List.mem_singleton.mp hd]; exact hc
          · rw [gput_gput]
      · rintro acc G' ⟨cs, rfl, hl, hi, hin, rfl⟩
        rw [range_len] at hl
        simp only [dxs, dl, texts_sgn, List.length_map]
        refine ⟨by omega, fun ys pm so => ?_⟩
        obtain ⟨es, he⟩ := unsgn (ys := ys) fun y hy => by
          obtain ⟨c, _, rfl⟩ := List.mem_map.mp (firstsF_mem.mp (pm.mem_iff.mp hy))
          exact ⟨c, rfl⟩
        obtain ⟨l1, l2⟩ := letters_of hin (by omega) he pm so
        subst he
        have e2 : (es.map sgn).map D.str = es.map fun c => .str (sgn c) := by rw [List.map_map]; rfl
        simp only [rJoinD, e2, dxs, dl, texts_sgn, join_sgn, sgn_sum]
        have hlr : (List.range ((1 + r2 : Nat) : Int).toNat).length = 1 + r2 := by rw [Int.toNat_natCast, List.length_range]
        have h00 : (Str.ofString "").length = 0 := by rw [str_nil]; rfl
        refine ⟨by rw [h00]; simp; omega, _, Sub.refl _, q es _ (by omega) l1 (by omega)⟩
end
end Pace
end
section
set_option Elab.async false
set_option linter.all false
set_option maxRecDepth 100000
set_option maxHeartbeats 4000000
namespace Pace
open PySem PySem.Spec PyProof.Rows L2 DL
section
variable {P : Program} {w : World} {K : PySem.W.Frag} {mg : Str → Option Value} {base : Heap} {C PT cT : Addr}
def spWorld : SpD := fun ds G Q => ∃ (p : Addr) (top n : Nat) (tot : Bool), ds = [.rf p, .int (top : Int), .bl tot] ∧ 1 ≤ top ∧ top ≤ 5 ∧ G p = some (dk (n + 300)) ∧
  ∀ (hs ws : List Nat) (rs : List (List Mv)) (m : Nat), n ≤ m → Wor top tot hs ws rs → Q (uD hs ws rs) (gput G p (dk m))
abbrev N__law_world : List Str := ["_law_deck_here", "_law_top", "_law_is_total", "_law_count", "_law_hs", "_law_cs", "_law_lines", "_law_dense", "_law_s", "_law_row", "_law_h", "_law_some", "_law_c"]
theorem sc__law_world : FnScope N__law_world ["_law_deck_here", "_law_top", "_law_is_total"] (defScope s__law_world) := ⟨rfl, rfl, rfl, by decide +kernel, rfl, by decide +kernel, by decide +kernel⟩
theorem c__law_world (T : Txt K mg C) (d : Def K mg "_law_world" s__law_world) (C__law_signs : Cal P w K mg base "_law_signs" 3 ["_law_deck_here", "_law_many"] (spSigns)) (C__law_pick : Cal P w K mg base "_law_pick" 2 ["_law_deck_here", "_law_some"] (spPick)) (C__law_draw : Cal P w K mg base "_law_draw" 1 ["_law_deck_here", "_law_below"] (spDraw)) : Cal P w K mg base "_law_world" 4 ["_law_deck_here", "_law_top", "_law_is_total"] (spWorld) := by
  refine cal_mk (N := N__law_world) d sc__law_world (fun ds G Q h => ?_) (fun _ _ _ _ _ _ us hl => match us, hl with | [_, _, _], _ => rfl) (fun f cdv A outer s H E hg hr => ?_)
  · obtain ⟨p, top, n, tot, rfl, _⟩ := h
    rfl
  · have hu := hu100 hr
    have nd := sc__law_world.nd
    have hA := deeper_guards (env := envOfC "_law_world" (defScope s__law_world) s.heap.objs.size f cdv) hg
    refine ⟨_, (dps_cons (dp_asg (de_tup (da_cons (de_op od_add de_int (de_cal C__law_draw hA (hr.mono (by decide)) (da_cons (de_var 0) (da_cons (de_var 1) da_nil)))) (da_cons (de_cal C__law_signs hA (hr.mono (by decide)) (da_cons (de_var 0) (da_cons de_int da_nil))) (da_cons (de_cal C__law_signs hA (hr.mono (by decide)) (da_cons (de_var 0) (da_cons de_int da_nil))) da_nil)))) (dg_tup (n := 3) rfl (dgs_cons (dg_name 3 nd) (dgs_cons (dg_name 4 nd) (dgs_cons (dg_name 5 nd) dgs_nil)))))
  (dps_cons (dp_asg (de_tup (da_cons (de_lstM da_nil) (da_cons (de_cal C__law_draw hA (hr.mono (by decide)) (da_cons (de_var 0) (da_cons de_int da_nil))) da_nil))) (dg_tup (n := 2) rfl (dgs_cons (dg_name 6 nd) (dgs_cons (dg_name 7 nd) dgs_nil))))
  (dps_cons (dp_for PassesOwn.never rfl (di_range1 rfl T.f_range (da_cons (de_var 3) da_nil)) (dg_name 8 nd)
  (dps_cons (dp_asg (de_lstM da_nil) (dg_name 9 nd))
  (dps_cons (dp_for PassesOwn.never rfl (di_str (de_var 4)) (dg_name 10 nd)
  (dps_cons (dp_setLc (i := 11) (own := [("_law_c", 12)]) (p := (.nm 12)) rfl nd rfl rfl (sw_true rfl rfl rfl (by decide +kernel)) (di_str (de_var 5)) (blkOk_by (by show blkC N__law_world (defScope s__law_world) _ _ = true; decide +kernel)) (by decide) (fun _ _ _ _ _ => pg_name (i := 12) nd rfl (Or.inl rfl)) (fun _ _ _ _ _ => (dts_one (dt_cmp (od_lt hu) (de_cal C__law_draw hA (hr.mono (by decide)) (da_cons (de_var 0) (da_cons de_int da_nil))) (de_op od_add de_int (de_var 7)) (nomark _)))) (fun _ _ _ _ _ => (de_var 12)))
  (dps_cons (dp_if (DW.dt (dw_and (dt_val (de_var 2)) (dw_and1 (dt_cmp (od_eq hu) (de_var 11) (de_lst da_nil) (nomark _)))))
  (dps_one (dp_asg (de_lst (da_cons (de_cal C__law_pick hA (hr.mono (by decide)) (da_cons (de_var 0) (da_cons (de_var 5) da_nil))) da_nil)) (dg_name 11 nd)))
  dps_nil)
  (dps_one (dp_expr (de_bm PySem.F.plainAttrs_list PySem.F.slot_list_extend PySem.F.type_list_extend md_extend (de_var 9) (da_cons (de_lc (own := [("_law_c", 12)]) (p := (.nm 12)) rfl nd (di_list (de_var 11)) (blkOk_by (by show blkC N__law_world (defScope s__law_world) _ _ = true; decide +kernel)) (by decide) (fun _ _ _ _ _ => pg_name (i := 12) nd rfl (Or.inl rfl)) (fun _ _ _ _ _ => dts_nil) (fun _ _ _ _ _ => (de_tup (da_cons (de_var 10) (da_cons (de_var 12) (da_cons (de_cal C__law_draw hA (hr.mono (by decide)) (da_cons (de_var 0) (da_cons (de_var 3) da_nil))) da_nil)))))) da_nil)))))))
  (dps_one (dp_expr (de_bm PySem.F.plainAttrs_list PySem.F.slot_list_append PySem.F.type_list_append md_append (de_var 6) (da_cons (de_callTy cd_tuple rfl T.f_tuple (by decide +kernel) (da_cons (de_var 9) da_nil)) da_nil)))))))
  (dps_one (dp_ret (de_disp (dpp_cons de_str (de_var 4) (dpp_cons de_str (de_var 5) (dpp_cons de_str (de_callTy cd_tuple rfl T.f_tuple (by decide +kernel) (da_cons (de_var 6) da_nil)) dpp_nil))))))))), fun ds G Q h => ?_⟩
    obtain ⟨p, top, n, tot, rfl, t1, t5, gp, q⟩ := h
    rw [show dstart N__law_world [.rf p, .int (top : Int), .bl tot] = [some (.rf p), some (.int (top : Int)), some (.bl tot), none, none, none, none, none, none, none, none, none, none] from rfl]
    simp only [dxs, dl]
    refine ⟨p, top, n + 299, rfl, by omega, by omega, gp, fun r hr => ?_⟩
    simp only [dxs, dl, dx3]
    refine ⟨p, 3, n + 289, rfl, by decide, by decide, by rw [gput_same], fun hs m1 hm1 lh hs3 => ?_⟩
    obtain ⟨m1, rfl⟩ : ∃ m, m1 = m + 10 := ⟨m1 - 10, by omega⟩
    refine ⟨p, 3, m1, rfl, by decide, by decide, by rw [gput_same], fun ws m2 hm2 lw ws3 => ?_⟩
    simp only [dxs, dl, gput_gput]
    refine ⟨sz (by simp), trivial, Nat.zero_le _, fun z hz => ?_⟩
    have hzp : z ≠ p := fun e => by rw [e, gput_same] at hz; cases hz
    have hpz : p ≠ z := fun e => hzp e.symm
    have hz' : G z = none := by rw [gput_ne hzp] at hz; exact hz
    obtain ⟨m3, rfl⟩ : ∃ m, m2 = m + 1 := ⟨m2 - 1, by omega⟩
    refine ⟨p, 3, m3, rfl, by decide, by decide, by rw [gput_ne hpz, gput_same], fun dn hdn => ?_⟩
    have e1 : ((1 : Int) + (r : Int)) = ((r + 1 : Nat) : Int) := by omega
    rw [gput_under hpz]
    simp only [e1]
    refine ⟨sz (by simp), trivial, by omega, by omega, ?_⟩
    have rd : ∀ {m : Nat} {o2 : MO} {G' : GH}, Sub (gput (gput G p (dk m)) z o2) G' → G' p = some (dk m) ∧ G' z = some o2 := fun sb =>
      ⟨sb.le p _ (by rw [gput_ne hpz, gput_same]), sb.le z _ gput_same⟩
    have wr : ∀ {m m' : Nat} {o2 : MO} {G' : GH}, Sub (gput (gput G p (dk m)) z o2) G' → Sub (gput (gput G p (dk m')) z o2) (gput G' p (dk m')) := fun {m m' o2 G'} sb => by
      have := sb.put p (dk m')
      rw [gput_under hpz] at this
      exact this
    refine ⟨fun i S' G' => ∃ (m : Nat) (rows : List (List Mv)) (x8 x9 x10 x11 x12 : Option D), S' = [some (.rf p), some (.int (top : Int)), some (.bl tot), some (.int ((r + 1 : Nat) : Int)), some (.str (strOf hs)), some (.str (strOf ws)), some (.rf z), some (.int (dn : Int)), x8, x9, x10, x11, x12] ∧
      Sub (gput (gput G p (dk m)) z (.lst (rows.map rowD))) G' ∧ rows.length = i ∧ m3 ≤ m + 30 * i ∧ ∀ r1 ∈ rows, rowB hs ws (r + 1) r1 = true ∧ r1.length ≤ 9 ∧ (tot = true → ∀ h ∈ hs, ∃ m ∈ r1, m.h = h),
      ⟨m3, [], none, none, none, none, none, rfl, Sub.refl _, rfl, by omega, by simp⟩, fun _ _ _ _ => trivial, ?_, ?_⟩
    · rintro i S' G' dd ⟨m, rows, x8, x9, x10, x11, x12, rfl, sb, hrl, hm, hrows⟩ hd
      obtain ⟨hi, rfl⟩ := range_get hd
      obtain ⟨gp1, gz1⟩ := rd sb
      simp only [dxs, dl]
      refine ⟨Nat.zero_le _, fun y hy => ?_⟩
      have hyz : z ≠ y := fun e => by rw [← e, gz1] at hy; cases hy
      have hyp : p ≠ y := fun e => by rw [← e, gp1] at hy; cases hy
      refine ⟨fun j S' G2 => ∃ (m' : Nat) (row : List Mv) (G1 : GH) (x10 x11 x12 : Option D), S' = [some (.rf p), some (.int (top : Int)), some (.bl tot), some (.int ((r + 1 : Nat) : Int)), some (.str (strOf hs)), some (.str (strOf ws)), some (.rf z), some (.int (dn : Int)), some (.int (i : Int)), some (.rf y), x10, x11, x12] ∧
        G2 = gput G1 y (.lst (row.map Mv.d)) ∧ G1 y = none ∧ Sub (gput (gput G p (dk m')) z (.lst (rows.map rowD))) G1 ∧ m ≤ m' + 8 * j ∧ j ≤ hs.length ∧ RowP hs ws (r + 1) tot j row,
        ⟨m, [], G', _, _, _, rfl, rfl, hy, sb, by omega, Nat.zero_le _, RowP.start⟩, fun _ _ _ _ => trivial, ?_, ?_⟩
      · rintro j S' G2 dd ⟨m', row, G1, x10, x11, x12, rfl, rfl, hy1, sb1, hm', hj, rp⟩ hd
        obtain ⟨h, hh, rfl⟩ := signs_get hd
        obtain ⟨gp2, gz2⟩ := rd sb1
        simp only [dxs, dl]
        have hj1 := (List.getElem?_eq_some_iff.mp hh).1
        refine ⟨sz (by rw [signs_len]; omega), fun k acc G3 => ∃ cs : List Nat, acc = cs.map (fun c => .str (sgn c)) ∧ cs.Sublist (ws.take k) ∧ k ≤ ws.length ∧ G3 = gput (gput G1 p (dk (m' - k))) y (.lst (row.map Mv.d)), ⟨[], rfl, by simp, Nat.zero_le _, ?_⟩, fun _ _ _ _ => trivial, ?_, ?_⟩
        · rw [Nat.sub_zero, gput_self gp2]
        · rintro k acc G3 d ⟨cs, rfl, sl, hk, rfl⟩ hd3
          obtain ⟨c, hc, rfl⟩ := signs_get hd3
          have hk1 := (List.getElem?_eq_some_iff.mp hc).1
          refine ⟨_, rfl, ?_⟩
          simp only [dxs, dl, dwipe, List.map_cons, List.map_nil]
          refine ⟨p, 3, m' - (k + 1), rfl, by decide, by decide, ?_, fun r4 hr4 => ?_⟩
          · rw [gput_ne hyp, gput_same]
            congr 2
            omega
          · rw [gput_under hyp]
            simp only [dxs, dl, dx3, okL_int, DL.lt_int, true_and]
            split
            · exact ⟨cs ++ [c], by simp, by rw [take_snoc hc]; exact sl.append (List.Sublist.refl _), hk1, trivial⟩
            · exact ⟨cs, rfl, by rw [take_snoc hc]; exact sl.trans (List.sublist_append_left _ _), hk1, trivial⟩
        · rintro acc G3 ⟨cs, rfl, sl, hk, rfl⟩
          rw [signs_len, List.take_length] at sl
          rw [signs_len]
          have rest : ∀ (cs : List Nat) (k : Nat) (Q2 : DQ), cs.Sublist ws → 3 ≤ k → (∀ (ts : List Mv) (k2 : Nat), k ≤ k2 + 3 → ts.map (·.c) = cs → (∀ t ∈ ts, t.h = h ∧ t.t < r + 1) → Q2 (.lst (ts.map Mv.d)) (gput (gput G1 p (dk k2)) y (.lst (row.map Mv.d)))) →
              LcB (cs.map fun c => .str (sgn c)) dNoGuard (Pat.nm 12) dYes (dTup (dCons (dVar 10) (dCons (dVar 12) (dCons (dCall spDraw (dCons (dVar 0) (dCons (dVar 3) dNil))) dNil)))) (List.map (fun x => x.snd) [(Str.ofString "_law_c", 12)])
                [some (.rf p), some (.int (top : Int)), some (.bl tot), some (.int ((r + 1 : Nat) : Int)), some (.str (strOf hs)), some (.str (strOf ws)), some (.rf z), some (.int (dn : Int)), some (.int (i : Int)), some (.rf y), some (.str (sgn h)), some (.lst (cs.map fun c => .str (sgn c))), x12]
                (gput (gput G1 p (dk k)) y (.lst (row.map Mv.d))) Q2 := by
            intro cs k Q2 sl hk q2
            have hcl := sl.length_le
            refine ⟨sz (by simp; omega), fun i acc G3 => ∃ ts : List Mv, acc = ts.map Mv.d ∧ ts.map (·.c) = cs.take i ∧ i ≤ cs.length ∧ (∀ t ∈ ts, t.h = h ∧ t.t < r + 1) ∧ G3 = gput (gput G1 p (dk (k - i))) y (.lst (row.map Mv.d)), ⟨[], rfl, by simp, Nat.zero_le _, by simp, rfl⟩, fun _ _ _ _ => trivial, ?_, ?_⟩
            · rintro i acc G3 d ⟨ts, rfl, ec, hi, ht, rfl⟩ hd
              obtain ⟨c, hc, rfl⟩ := map_get hd
              have hi1 := (List.getElem?_eq_some_iff.mp hc).1
              refine ⟨_, rfl, ?_⟩
              simp only [dxs, dl, dwipe, List.map_cons, List.map_nil, if_true]
              refine ⟨p, r + 1, k - (i + 1), rfl, by omega, by omega, ?_, fun r4 hr4 => ?_⟩
              · rw [gput_ne hyp, gput_same]
                congr 2
                omega
              · rw [gput_under hyp]
                refine ⟨sz (by simp), ts ++ [⟨h, c, r4⟩], by simp [Mv.d], by rw [take_snoc hc, List.map_append, ec]; rfl, hi1, fun t ht' => ?_, rfl⟩
                rcases List.mem_append.mp ht' with ht' | ht'
                · exact ht t ht'
                · rw [List.mem_singleton.mp ht']; exact ⟨rfl, hr4⟩
            · rintro acc G3 ⟨ts, rfl, ec, hi, ht, rfl⟩
              rw [List.length_map, List.take_length] at ec
              rw [List.length_map]
              exact q2 ts _ (by omega) ec ht
          have sic : ∀ cs : List Nat, (D.lst (cs.map fun c => D.str (sgn c))).si = true := fun cs => sis_all.mpr fun x hx => by obtain ⟨c, _, rfl⟩ := List.mem_map.mp hx; rfl
          have okc : ∀ cs : List Nat, okE (.lst (cs.map fun c => D.str (sgn c))) (.lst []) = true := fun cs => okE_si (sic cs) rfl (by
            have : D.dps (cs.map fun c => D.str (sgn c)) ≤ 0 := dps_le fun x hx => by obtain ⟨c, _, rfl⟩ := List.mem_map.mp hx; exact Nat.le_refl _
            simp only [D.dp]; omega)
          have eqc : ∀ cs : List Nat, D.eqv (.lst (cs.map fun c => D.str (sgn c))) (.lst []) = decide (cs = []) := fun cs => by
            rw [Bool.eq_iff_iff, eqv_si (sic cs) rfl]
            simp
          have fin1 : ∀ (cs : List Nat) (ts : List Mv) (k2 : Nat) (x11' : Option D), cs.Sublist ws → (tot = true → cs ≠ []) → m' ≤ k2 + 7 → ts.map (·.c) = cs → (∀ t ∈ ts, t.h = h ∧ t.t < r + 1) → RowP hs ws (r + 1) tot (j + 1) (row ++ ts) ∧ Sub (gput (gput G p (dk k2)) z (.lst (rows.map rowD))) (gput G1 p (dk k2)) ∧ gput G1 p (dk k2) y = none := fun cs ts k2 _ sl ne hk ec ht =>
            ⟨rp.step (letters_lt lh) (letters_lt lw) ws3 hh sl ne ec ht, wr sb1, by rw [gput_ne (fun e => hyp e.symm)]; exact hy1⟩
          have rl := rp.len
          simp only [dxs, dl, okc, eqc, true_and, Nat.zero_le, beq_self_eq_true]
          cases htot : tot with
          | false =>
            rw [if_neg Bool.false_ne_true, if_neg Bool.false_ne_true]
            rw [htot] at rest fin1
            refine rest cs (m' - ws.length) _ sl (by omega) fun ts k2 hk2 ec ht => ?_
            obtain ⟨f1, f2, f3⟩ := fin1 cs ts k2 none sl (fun z => by cases z) (by omega) ec ht
            have ts3 : ts.length ≤ 3 := by have : ts.length = cs.length := by rw [← ec, List.length_map]
                                           have := sl.length_le; omega
            simp only [rExtendD, dxs, dl, gput_gput, ← List.map_append]
            exact ⟨sz (by simp; omega), k2, row ++ ts, _, _, _, _, rfl, rfl, f3, f2, by omega, hj1, f1⟩
          | true =>
            rw [if_pos rfl]
            rw [htot] at rest fin1
            by_cases hce : cs = []
            · rw [if_pos (by simpa using hce)]
              refine ⟨p, m' - ws.length - 1, _, _, rfl, .inr ⟨ws, rfl, rfl⟩, by simpa using letters_pos lw, by simp; omega, ?_, fun x hx => ?_⟩
              · rw [gput_ne hyp, gput_same]
                congr 2
                omega
              · obtain ⟨c, hc, rfl⟩ := List.mem_map.mp hx
                rw [gput_under hyp]
                simp only [dxs, dl, gput_same]
                have sl1 : [c].Sublist ws := List.singleton_sublist.mpr hc
                refine ⟨sz (by simp), rfl, ?_⟩
                refine rest [c] (m' - ws.length - 1) _ sl1 (by omega) fun ts k2 hk2 ec ht => ?_
                obtain ⟨f1, f2, f3⟩ := fin1 [c] ts k2 none sl1 (fun _ => by simp) (by omega) ec ht
                have ts3 : ts.length ≤ 3 := by have : ts.length = 1 := by rw [← List.length_map (f := (·.c)), ec]; rfl
                                               omega
                simp only [rExtendD, dxs, dl, gput_gput, ← List.map_append]
                exact ⟨sz (by simp; omega), k2, row ++ ts, _, _, _, _, rfl, rfl, f3, f2, by omega, hj1, f1⟩
            · rw [if_neg (by simpa using hce)]
              refine rest cs (m' - ws.length) _ sl (by omega) fun ts k2 hk2 ec ht => ?_
              obtain ⟨f1, f2, f3⟩ := fin1 cs ts k2 none sl (fun _ => hce) (by omega) ec ht
              have ts3 : ts.length ≤ 3 := by have : ts.length = cs.length := by rw [← ec, List.length_map]
                                             have := sl.length_le; omega
              simp only [rExtendD, dxs, dl, gput_gput, ← List.map_append]
              exact ⟨sz (by simp; omega), k2, row ++ ts, _, _, _, _, rfl, rfl, f3, f2, by omega, hj1, f1⟩
      · rintro S' G2 ⟨m', row, G1, x10, x11, x12, rfl, rfl, hy1, sb1, hm', hj, rp⟩
        rw [signs_len] at rp hm'
        have sb2 : Sub (gput (gput G p (dk m')) z (.lst (rows.map rowD))) (gput G1 y (.lst (row.map Mv.d))) := sb1.trans (sub_new hy1 rfl)
        have rl := rp.len
        obtain ⟨gp2, gz2⟩ := rd sb2
        simp only [dxs, dl, rTupleD, gz2, rAppendD, gput_same, beq_self_eq_true, true_and]
        refine ⟨szl (by simp; omega), m', rows ++ [row], _, _, _, _, _, rfl, ?_, by simp [hrl], by omega, fun r1 hr1 => ?_⟩
        · have := sb2.put z (.lst (rows.map rowD ++ [.tup (row.map Mv.d)]))
          rw [gput_gput] at this
          rw [List.map_append]
          exact this
        · rcases List.mem_append.mp hr1 with hr1 | hr1
          · exact hrows r1 hr1
          · rw [List.mem_singleton.mp hr1]
            exact ⟨rp.row, by omega, fun ht x hx => rp.full ht x (by rw [List.take_length]; exact hx)⟩
    · rintro S' G' ⟨m, rows, x8, x9, x10, x11, x12, rfl, sb, hrl, hm, hrows⟩
      rw [range_len] at hrl hm
      obtain ⟨gp1, gz1⟩ := rd sb
      simp only [dxs, dl, rTupleD, gz1]
      refine ⟨by show (3 : Nat) ≤ 15; decide, _, (sub_new (by rw [gput_ne hzp]; exact hz') rfl).trans sb, ?_⟩
      refine q hs ws rows m (by omega) ⟨⟨lh, lw, by omega, by omega, by omega, by omega, fun r1 hr1 => ?_⟩, by omega, hs3, ws3, fun r1 hr1 => (hrows r1 hr1).2.1, fun ht r1 hr1 => (hrows r1 hr1).2.2 ht⟩
      obtain ⟨a, b, _⟩ := hrows r1 hr1
      rw [hrl]
      exact ⟨a, by omega⟩
end
end Pace
end
section
set_option Elab.async false
set_option linter.all false
set_option maxRecDepth 100000
set_option maxHeartbeats 4000000
namespace Pace
open PySem PySem.Spec PyProof.Rows L2 DL
section
variable {P : Program} {w : World} {K : PySem.W.Frag} {mg : Str → Option Value} {base : Heap} {C PT cT : Addr}
def spBent01 : Nat → SpD
  | 0 => fun _ _ _ => False
  | b + 1 => fun ds G Q => ∃ (p : Addr) (x : D) (e m n w t : Nat), ds = [.rf p, x] ∧ Odd m n w x ∧ n ≤ b ∧ w ≤ 600 ∧ m ≤ 900 ∧ 3 ≤ t ∧ Thin t x ∧ G p = some (dk (e + 10 * (b + 1))) ∧ ∀ (y : D) (e' : Nat), e ≤ e' → Bt m n w t y → Q y (gput G p (dk e'))
abbrev N__law_bent : List Str := ["_law_deck_here", "_law_it", "_law_at", "_law_way", "_law_some", "_law_odd"]
theorem sc__law_bent : FnScope N__law_bent ["_law_deck_here", "_law_it"] (defScope s__law_bent) := ⟨rfl, rfl, rfl, by decide +kernel, rfl, by decide +kernel, by decide +kernel⟩
theorem bent_step01 (T : Txt K mg C) (d : Def K mg "_law_bent" s__law_bent) (C__law_draw : Cal P w K mg base "_law_draw" 1 ["_law_deck_here", "_law_below"] (spDraw)) (C__law_pick : Cal P w K mg base "_law_pick" 2 ["_law_deck_here", "_law_some"] (spPick)) (C__law_is_whole : Cal P w K mg base "_law_is_whole" 1 ["_law_it"] (spLIsWhole44)) {b kk : Nat} (hk : 3 ≤ kk) (C__law_bent : Cal P w K mg base "_law_bent" kk ["_law_deck_here", "_law_it"] (spBent01 b)) : Cal P w K mg base "_law_bent" (kk + 1) ["_law_deck_here", "_law_it"] (spBent01 (b + 1)) := by
  refine cal_mk (N := N__law_bent) d sc__law_bent (fun ds G Q h => ?_) (fun _ _ _ _ _ _ us hl => match us, hl with | [_, _], _ => rfl) (fun f cdv A outer s H E hg hr => ?_)
  · obtain ⟨p, x, e, m, n, w, t, rfl, _⟩ := h
    rfl
  · have hu := hu100 hr
    have nd := sc__law_bent.nd
    have hA := deeper_guards (env := envOfC "_law_bent" (defScope s__law_bent) s.heap.objs.size f cdv) hg
    refine ⟨_, (dps_cons (dp_if (DW.dt (dw_and (dt_val (de_callB cd_isi rfl T.f_isinstance (by decide +kernel) (da_cons (de_var 1) (da_cons (de_ty (T := "tuple") rfl T.f_tuple (by decide +kernel)) da_nil)))) (dw_and (dt_cmp (od_neNilT hu) (de_var 1) (de_tup da_nil) (nomark _)) (dw_and1 (dt_cmp (od_gt hu) (de_cal C__law_draw hA (hr.mono (by omega)) (da_cons (de_var 0) (da_cons de_int da_nil))) de_int (nomark _))))))
  (dps_cons (dp_par (i := 2) (j := 3) rfl nd (ha := (da_cons (de_cal C__law_draw hA (hr.mono (by omega)) (da_cons (de_var 0) (da_cons (de_callB cd_len rfl T.f_len (by decide +kernel) (da_cons (de_var 1) da_nil)) da_nil))) (da_cons (de_cal C__law_draw hA (hr.mono (by omega)) (da_cons (de_var 0) (da_cons de_int da_nil))) da_nil))))
  (dps_cons (dp_if (dt_cmp (od_lt hu) (de_var 3) de_int (nomark _))
  (dps_cons (dp_asg (de_lst (da_cons (de_op od_add (de_slice (de_var 1) do_none (do_some (de_var 2))) (de_slice (de_var 1) (do_some (de_op od_add (de_var 2) de_int)) do_none)) (da_cons (de_op od_add (de_slice (de_var 1) do_none (do_some (de_op od_add (de_var 2) de_int))) (de_slice (de_var 1) (do_some (de_var 2)) do_none)) (da_cons (de_op od_add (de_op od_add (de_slice (de_var 1) do_none (do_some (de_var 2))) (de_revT (de_slice (de_var 1) (do_some (de_var 2)) (do_some (de_op od_add (de_var 2) de_int))))) (de_slice (de_var 1) (do_some (de_op od_add (de_var 2) de_int)) do_none)) da_nil)))) (dg_name 4 nd))
  (dps_one (dp_ret (de_ix hu (de_op od_add (de_var 4) (de_lst (da_cons (de_callTy cd_list rfl T.f_list (by decide +kernel) (da_cons (de_var 1) da_nil)) (da_cons (de_op od_add (de_var 1) (de_slice (de_var 1) do_none (do_some de_int))) da_nil)))) (de_var 3)))))
  dps_nil)
  (dps_one (dp_ret (de_op od_add (de_op od_add (de_slice (de_var 1) do_none (do_some (de_var 2))) (de_tup (da_cons (de_cal C__law_bent hA (hr.mono (by omega)) (da_cons (de_var 0) (da_cons (de_ix hu (de_var 1) (de_var 2)) da_nil))) da_nil))) (de_slice (de_var 1) (do_some (de_op od_add (de_var 2) de_int)) do_none))))))
  dps_nil)
  (dps_cons (dp_if (DW.dt (dw_and (dt_val (de_callB cd_isi rfl T.f_isinstance (by decide +kernel) (da_cons (de_var 1) (da_cons (de_ty (T := "str") rfl T.f_str (by decide +kernel)) da_nil)))) (dw_and1 (dt_cmp (od_gt hu) (de_cal C__law_draw hA (hr.mono (by omega)) (da_cons (de_var 0) (da_cons de_int da_nil))) de_int (nomark _)))))
  (dps_cons (dp_asg (de_cal C__law_draw hA (hr.mono (by omega)) (da_cons (de_var 0) (da_cons (de_op od_add (de_callB cd_len rfl T.f_len (by decide +kernel) (da_cons (de_var 1) da_nil)) de_int) da_nil))) (dg_name 2 nd))
  (dps_cons (dp_asg (de_lst (da_cons (de_op od_add (de_slice (de_var 1) do_none (do_some (de_var 2))) (de_slice (de_var 1) (do_some (de_op od_add (de_var 2) de_int)) do_none)) (da_cons (de_op od_add (de_op od_add (de_slice (de_var 1) do_none (do_some (de_var 2))) de_str) (de_slice (de_var 1) (do_some (de_var 2)) do_none)) (da_cons (de_revS (de_var 1)) (da_cons (de_op od_add (de_var 1) (de_slice (de_var 1) do_none (do_some de_int))) (da_cons (de_bm0 PySem.F.plainAttrs_str PySem.F.slot_str_upper PySem.F.type_str_upper md_upper (de_var 1)) (da_cons (de_tup (da_cons (de_var 1) da_nil)) da_nil))))))) (dg_name 4 nd))
  (dps_one (dp_ret (de_cal C__law_pick hA (hr.mono (by omega)) (da_cons (de_var 0) (da_cons (de_var 4) da_nil)))))))
  dps_nil)
  (dps_cons (dp_if (DW.dt (dw_and (dt_val (de_cal C__law_is_whole hA (hr.mono (by omega)) (da_cons (de_var 1) da_nil))) (dw_and1 (dt_cmp (od_gt hu) (de_cal C__law_draw hA (hr.mono (by omega)) (da_cons (de_var 0) (da_cons de_int da_nil))) de_int (nomark _)))))
  (dps_one (dp_ret (de_cal C__law_pick hA (hr.mono (by omega)) (da_cons (de_var 0) (da_cons (de_lst (da_cons (de_op od_add (de_var 1) de_int) (da_cons (de_op od_sub (de_var 1) de_int) (da_cons (de_cmp (od_eq hu) (de_var 1) de_int (nomark _)) (da_cons (de_callTy cd_strI rfl T.f_str (by decide +kernel) (da_cons (de_var 1) da_nil)) (da_cons (de_op od_add (de_var 1) de_int) da_nil)))))) da_nil)))))
  dps_nil)
  (dps_cons (dp_asg (de_lst (da_cons de_non (da_cons de_bl (da_cons de_bl (da_cons de_int (da_cons de_int (da_cons (de_un ud_neg de_int) (da_cons (de_op od_pow de_int de_int) (da_cons de_str (da_cons de_str (da_cons de_str (da_cons de_str (da_cons de_str (da_cons (de_tup da_nil) (da_cons (de_tup (da_cons de_int da_nil)) (da_cons (de_tup (da_cons de_str (da_cons de_str (da_cons de_int da_nil)))) (da_cons (de_lst da_nil) (da_cons (de_cold de_newK) da_nil)))))))))))))))))) (dg_name 5 nd))
  (dps_one (dp_ret (de_cal C__law_pick hA (hr.mono (by omega)) (da_cons (de_var 0) (da_cons (de_var 5) da_nil))))))))), fun ds G Q h => ?_⟩
    obtain ⟨p, x, e, m, n, w, t, rfl, od, nb, hw, hm, ht, th, gp, q⟩ := h
    rw [show dstart N__law_bent [.rf p, x] = [some (.rf p), some (x), none, none, none, none] from rfl]
    have gp1 : G p = some (dk (e + 10 * b + 9 + 1)) := gp
    have tl : ∀ (G1 : GH) (e1 : Nat), e ≤ e1 → G1 p = some (dk (e1 + 1)) → (∀ o, gput G1 p o = gput G p o) → spPick [.rf p, .lst someL01] G1 (fin Q).rt := fun G1 e1 h1 h2 h3 => by
      refine ⟨p, e1, _, someL01, rfl, .inl rfl, by decide, by decide, h2, fun y hy => ?_⟩
      rw [h3]
      exact ⟨_, Sub.refl _, q y _ h1 (some_bt ht hy)⟩
    have szs : ∀ k, k ≤ 5000 → k ≤ sizeLine := fun k h => sz h
    have addI : ∀ (a b : Int) (G : GH) (K : DQ), rAddD (.int a) (.int b) G K = K (.int (a + b)) G := fun _ _ _ _ => rfl
    have eS : ∀ (G : GH) (x : Str), D.cur G (.str x) = .str x := fun _ _ => rfl
    have eI : ∀ (G : GH) (x : Int), D.cur G (.int x) = .int x := fun _ _ => rfl
    cases x with
    | tup xs =>
      have isT : ∀ (G : GH) (Q : DQ), rIsiD [.tup xs, .ty "tuple"] G Q = Q (.bl true) G := fun _ _ => rfl
      have isI : ∀ (G : GH) (Q : DQ), rIsiD [.tup xs, .ty "int"] G Q = Q (.bl false) G := fun _ _ => rfl
      have isB : ∀ (G : GH) (Q : DQ), rIsiD [.tup xs, .ty "bool"] G Q = Q (.bl false) G := fun _ _ => rfl
      have isS : ∀ (G : GH) (Q : DQ), rIsiD [.tup xs, .ty "str"] G Q = Q (.bl false) G := fun _ _ => rfl
      obtain ⟨n', rfl, on, hb⟩ := od.each
      have en : ∀ (G : GH) (Q : DQ), Q (.bl (!xs.isEmpty)) G → rNilT true (.tup xs) (.tup []) G Q := fun _ _ z => z
      simp only [dxs, dl, dx3, isT, isI, isB, isS, if_true]
      refine ⟨szs _ (by decide), en _ _ ?_⟩
      have szt : ∀ k, k ≤ 4000 → k ≤ sizeLine := fun k h => sz (by omega)
      have whole : ∀ (G : GH) (Q : DQ), Q (.bl false) G → spLIsWhole44 [.tup xs] G Q := fun G Q z => ⟨_, rfl, .tup _, z⟩
      have cp : CPow 10 39 := ⟨by decide, by decide, by decide⟩
      cases hx : xs.isEmpty with
      | true =>
        simp only [dxs, dl, dx3, isT, isI, isB, isS, Bool.not_true, Bool.false_eq_true, if_false]
        refine whole _ _ ?_
        simp only [dxs, dl, dx3, isT, isI, isB, isS, sizeLine_eq, Nat.reduceAdd, Nat.reduceLeDiff, true_and, Bool.not_true, Bool.false_eq_true, if_false, Nat.zero_le, MO.cold]
        refine ⟨cp, fun z hz => ?_⟩
        simp only [gdel_gput hz]
        exact tl _ _ (by omega) gp1 (fun _ => rfl)
      | false =>
        simp only [Bool.not_false, if_true]
        refine ⟨p, 6, e + 10 * b + 9, rfl, by decide, by decide, gp1, fun r8 h8 => ⟨okL_int 0 (r8 : Int), ?_⟩⟩
        refine iteInduction (motive := fun x => x) (fun _ => ?_) fun _ => ?_
        · have hlen := bks_len xs
          have h0 : 1 ≤ xs.length := by cases xs with | nil => cases hx | cons a l => simp
          refine ⟨p, xs.length, e + 10 * b + 8, rfl, h0, by omega, gput_same, fun r hr => ?_⟩
          rw [gput_gput]
          refine ⟨p, 9, e + 10 * b + 7, rfl, by decide, by decide, gput_same, fun r9 h9 => ?_⟩
          rw [gput_gput]
          obtain ⟨x, hxr⟩ : ∃ x, xs[r]? = some x := ⟨_, List.getElem?_eq_getElem hr⟩
          obtain ⟨t0, t1, t2, t3, t5, t4⟩ := bent_tup01 on hb th.len (fun x hx => th.item hx) r
          have e1 : ((r : Int) + 1) = ((r + 1 : Nat) : Int) := by omega
          have e2 : ((r : Int) + 2) = ((r + 2 : Nat) : Int) := by omega
          have c1 : DL.cutD xs none (some 1) = xs.take 1 := cut_take xs 1
          have cm : DL.cutD xs (some (r : Int)) (some ((r + 2 : Nat) : Int)) = (xs.drop r).take 2 := by
            rw [cut_mid, List.drop_take]
            congr 1
            omega
          simp only [dxs, dl, dx3, rAddD, e1, e2, cut_take, cut_drop, c1, okE_int, eqv_int, true_and]
          have lt0 : (xs.take r).length ≤ xs.length := by simp; omega
          have lt1 : (xs.take (r + 1)).length ≤ xs.length := by simp; omega
          have lt2 : (xs.take 1).length ≤ xs.length := by simp; omega
          have lt3 : ((xs.drop r).take 2).length ≤ xs.length := by simp; omega
          have ld0 : (xs.drop r).length ≤ xs.length := by simp
          have ld1 : (xs.drop (r + 1)).length ≤ xs.length := by simp
          have ld2 : (xs.drop (r + 2)).length ≤ xs.length := by simp
          refine ⟨okL_int _ _, ?_⟩
          by_cases h5 : r9 < 5
          · rw [if_pos (by rw [DL.lt_int]; simp; omega)]
            refine ⟨szt _ (by omega), szt _ (by omega), ?_⟩
            have lists : ∀ (xs : List D) (G : GH) (Q : DQ), DL.rListD [.tup xs] G Q = Q (.lst xs) G := fun _ _ _ => rfl
            have cm2 : DL.cutD xs (some (r : Int)) (some ((r : Int) + 2)) = (xs.drop r).take 2 := by rw [e2]; exact cm
            simp only [dxs, dl, dx3, dRevT, rAddD, lists, D.cur]
            simp only [cm2]
            refine ⟨szt _ (by rw [List.length_reverse]; omega), szt _ (by rw [List.length_append, List.length_reverse]; omega), szt _ (by decide), szt _ (by omega), szt _ (by decide), szt _ (by decide), ?_⟩
            have : r9 = 0 ∨ r9 = 1 ∨ r9 = 2 ∨ r9 = 3 ∨ r9 = 4 := by omega
            rcases this with rfl | rfl | rfl | rfl | rfl
            · exact ⟨_, Sub.refl _, q _ _ (by omega) t0⟩
            · exact ⟨_, Sub.refl _, q _ _ (by omega) t1⟩
            · exact ⟨_, Sub.refl _, q _ _ (by omega) t2⟩
            · exact ⟨_, Sub.refl _, q _ _ (by omega) t3⟩
            · exact ⟨_, Sub.refl _, q _ _ (by omega) t5⟩
          · rw [if_neg (by rw [DL.lt_int]; simp; omega)]
            have it : D.item (.tup xs) (.int (r : Int)) = some x := atI_nat hxr
            rw [it]
            obtain ⟨b', rfl⟩ : ∃ b', b = b' + 1 := ⟨b - 1, by omega⟩
            have hxm := List.mem_of_getElem? hxr
            have hbx := bks_mem hxm
            refine ⟨p, x, e + 7, m, n', bkD x, t, rfl, ⟨on x hxm, Nat.le_refl _⟩, by omega, by omega, hm, ht, th.item hxm, by rw [gput_same]; congr 2; omega, fun y e' he' oy => ?_⟩
            rw [gput_gput]
            exact ⟨szs _ (by decide), szt _ (by (try simp only [List.length_cons, List.length_nil]); omega), szt _ (by rw [List.length_append]; simp only [List.length_cons, List.length_nil]; omega), _, Sub.refl _, q _ _ (by omega) (t4 x y hxr oy)⟩
        · try simp only [dxs, dl, dx3, isT, isI, isB, isS, Bool.not_true, Bool.false_eq_true, if_false]
          refine whole _ _ ?_
          simp only [dxs, dl, dx3, isT, isI, isB, isS, sizeLine_eq, Nat.reduceAdd, Nat.reduceLeDiff, true_and, Bool.not_true, Bool.false_eq_true, if_false, Nat.zero_le, MO.cold]
          refine ⟨cp, fun z hz => ?_⟩
          simp only [gdel_gput hz]
          exact tl _ _ (by omega) gput_same (fun _ => gput_gput)
    | str z =>
      have isT : ∀ (G : GH) (Q : DQ), rIsiD [.str z, .ty "tuple"] G Q = Q (.bl false) G := fun _ _ => rfl
      have isS : ∀ (G : GH) (Q : DQ), rIsiD [.str z, .ty "str"] G Q = Q (.bl true) G := fun _ _ => rfl
      have ez := strOf_cps z
      generalize z.cps.toList = cs at ez
      subst ez
      simp only [dxs, dl, dx3, isT, isS, if_true, Bool.false_eq_true, if_false]
      have hcs : ∀ c ∈ cs, c < 128 := by
        have := od.one.lf
        simpa [leafD, strOf] using this
      have hl : cs.length ≤ w := by
        have := od.bk
        simpa [bkD, D.pyR, PyData.bulk, strOf] using this
      have whole : ∀ (G : GH) (Q : DQ), Q (.bl false) G → spLIsWhole44 [.str (strOf cs)] G Q := fun G Q z => ⟨_, rfl, .str _ (by omega), z⟩
      have cp : CPow 10 39 := ⟨by decide, by decide, by decide⟩
      have lcs : (strOf cs).length ≤ sizeLine := by rw [strOf_len]; exact sz (by omega)
      refine ⟨p, 4, e + 10 * b + 9, rfl, by decide, by decide, gp1, fun r4 h4 => ⟨okL_int 0 (r4 : Int), ?_⟩⟩
      refine iteInduction (motive := fun x => x) (fun _ => ?_) fun _ => ?_
      · simp only [DL.len_str lcs, strOf_len, addI]
        have e1 : ((cs.length : Int) + 1) = ((cs.length + 1 : Nat) : Int) := by omega
        rw [e1]
        refine ⟨p, cs.length + 1, e + 10 * b + 8, rfl, by omega, by omega, gput_same, fun r hr => ?_⟩
        rw [gput_gput]
        have er : ((r : Int) + 1) = ((r + 1 : Nat) : Int) := by omega
        have c1 : DL.cutD cs none (some 1) = cs.take 1 := cut_take cs 1
        have lb : ∀ u : List Nat, strOf u ++ sgn 98 = strOf (u ++ [98]) := fun u => strOf_app u [98]
        have l98 : (sgn 98).length = 1 := rfl
        simp only [dxs, dl, dx3, rAddD, dRevS, rUpperD, s_b, eS, er, cutS_strOf, cut_take, cut_drop, c1, strOf_app, revS_strOf01, strOf_len, lb, l98]
        have lt0 : (cs.take r).length ≤ cs.length := by simp; omega
        have lt1 : (cs.take 1).length ≤ cs.length := by simp; omega
        have ld0 : (cs.drop r).length ≤ cs.length := by simp
        have ld1 : (cs.drop (r + 1)).length ≤ cs.length := by simp
        refine ⟨szs _ (by omega), szs _ (by omega), szs _ (by omega), szs _ (by omega), szs _ (by omega), szs _ (by omega), szs _ (by rw [List.length_append, List.length_singleton]; omega), szs _ (by omega), szs _ (by omega), szs _ (by omega), rfl, by omega, szs _ (by decide), szs _ (by decide), p, e + 10 * b + 7, _, _, rfl, .inl rfl, by simp, by simp, gput_same, fun y hy => ?_⟩
        rw [gput_gput]
        exact ⟨_, Sub.refl _, q y _ (by omega) (bent_str01 ht hcs hl r y hy)⟩
      · try simp only [dxs, dl, dx3, isT, isS, Bool.not_true, Bool.false_eq_true, if_false]
        refine whole _ _ ?_
        simp only [dxs, dl, dx3, isT, isS, sizeLine_eq, Nat.reduceAdd, Nat.reduceLeDiff, true_and, Bool.not_true, Bool.false_eq_true, if_false, Nat.zero_le, MO.cold]
        refine ⟨cp, fun z hz => ?_⟩
        simp only [gdel_gput hz]
        exact tl _ _ (by omega) gput_same (fun _ => gput_gput)
    | int i =>
      have isT : ∀ (G : GH) (Q : DQ), rIsiD [.int i, .ty "tuple"] G Q = Q (.bl false) G := fun _ _ => rfl
      have isS : ∀ (G : GH) (Q : DQ), rIsiD [.int i, .ty "str"] G Q = Q (.bl false) G := fun _ _ => rfl
      simp only [dxs, dl, dx3, isT, isS, if_true, Bool.false_eq_true, if_false, Bool.not_false]
      have hi : i.natAbs ≤ 10 ^ 39 + m := by
        have := od.one.lf
        simpa [leafD] using this
      have whole : ∀ (G : GH) (Q : DQ), Q (.bl true) G → spLIsWhole44 [.int i] G Q := fun G Q z => ⟨_, rfl, .int _, z⟩
      have cp : CPow 10 39 := ⟨by decide, by decide, by decide⟩
      refine whole _ _ ?_
      simp only [if_true]
      refine ⟨p, 4, e + 10 * b + 9, rfl, by decide, by decide, gp1, fun r4 h4 => ⟨okL_int 0 (r4 : Int), ?_⟩⟩
      refine iteInduction (motive := fun x => x) (fun _ => ?_) fun _ => ?_
      · simp only [dxs, dl, dx3, rAddD, rStrI, okE_int, true_and]
        have hlog : i.natAbs.log2 < 1920 := by
          by_cases h0 : i.natAbs = 0
          · rw [h0]; decide
          · have h41 : i.natAbs < 2 ^ 140 := by
              have e2 : (10 : Nat) ^ 39 + 1000 < 2 ^ 140 := by decide
              omega
            have : i.natAbs.log2 < 140 := (Nat.log2_lt h0).mpr h41
            omega
        refine ⟨hlog, szs _ (by decide), p, e + 10 * b + 8, _, _, rfl, .inl rfl, by simp, by simp, gput_same, fun y hy => ?_⟩
        rw [gput_gput]
        exact ⟨_, Sub.refl _, q y _ (by omega) (bent_int01 hi hm _ y hy)⟩
      · simp only [dxs, dl, dx3, isT, isS, sizeLine_eq, Nat.reduceAdd, Nat.reduceLeDiff, true_and, Bool.not_true, Bool.false_eq_true, if_false, Nat.zero_le, MO.cold]
        refine ⟨cp, fun z hz => ?_⟩
        simp only [gdel_gput hz]
        exact tl _ _ (by omega) gput_same (fun _ => gput_gput)
    | non =>
      have whole : ∀ (G : GH) (Q : DQ), Q (.bl false) G → spLIsWhole44 [.non] G Q := fun G Q z => ⟨_, rfl, .non, z⟩
      have cp : CPow 10 39 := ⟨by decide, by decide, by decide⟩
      have isT : ∀ (G : GH) (Q : DQ), rIsiD [.non, .ty "tuple"] G Q = Q (.bl false) G := fun _ _ => rfl
      have isS : ∀ (G : GH) (Q : DQ), rIsiD [.non, .ty "str"] G Q = Q (.bl false) G := fun _ _ => rfl
      simp only [dxs, dl, dx3, isT, isS, Bool.false_eq_true, if_false]
      refine whole _ _ ?_
      simp only [dxs, dl, dx3, sizeLine_eq, Nat.reduceAdd, Nat.reduceLeDiff, true_and, Bool.not_true, Bool.false_eq_true, if_false, Nat.zero_le, MO.cold]
      refine ⟨cp, fun z hz => ?_⟩
      simp only [gdel_gput hz]
      exact tl _ _ (by omega) gp1 (fun _ => rfl)
    | bl c =>
      have whole : ∀ (G : GH) (Q : DQ), Q (.bl false) G → spLIsWhole44 [.bl c] G Q := fun G Q z => ⟨_, rfl, .bl c, z⟩
      have cp : CPow 10 39 := ⟨by decide, by decide, by decide⟩
      have isT : ∀ (G : GH) (Q : DQ), rIsiD [.bl c, .ty "tuple"] G Q = Q (.bl false) G := fun _ _ => rfl
      have isS : ∀ (G : GH) (Q : DQ), rIsiD [.bl c, .ty "str"] G Q = Q (.bl false) G := fun _ _ => rfl
      simp only [dxs, dl, dx3, isT, isS, Bool.false_eq_true, if_false]
      refine whole _ _ ?_
      simp only [dxs, dl, dx3, sizeLine_eq, Nat.reduceAdd, Nat.reduceLeDiff, true_and, Bool.not_true, Bool.false_eq_true, if_false, Nat.zero_le, MO.cold]
      refine ⟨cp, fun z hz => ?_⟩
      simp only [gdel_gput hz]
      exact tl _ _ (by omega) gp1 (fun _ => rfl)
    | lst xs =>
      have whole : ∀ (G : GH) (Q : DQ), Q (.bl false) G → spLIsWhole44 [.lst xs] G Q := fun G Q z => ⟨_, rfl, .lst xs, z⟩
      have cp : CPow 10 39 := ⟨by decide, by decide, by decide⟩
      have isT : ∀ (G : GH) (Q : DQ), rIsiD [.lst xs, .ty "tuple"] G Q = Q (.bl false) G := fun _ _ => rfl
      have isS : ∀ (G : GH) (Q : DQ), rIsiD [.lst xs, .ty "str"] G Q = Q (.bl false) G := fun _ _ => rfl
      simp only [dxs, dl, dx3, isT, isS, Bool.false_eq_true, if_false]
      refine whole _ _ ?_
      simp only [dxs, dl, dx3, sizeLine_eq, Nat.reduceAdd, Nat.reduceLeDiff, true_and, Bool.not_true, Bool.false_eq_true, if_false, Nat.zero_le, MO.cold]
      refine ⟨cp, fun z hz => ?_⟩
      simp only [gdel_gput hz]
      exact tl _ _ (by omega) gp1 (fun _ => rfl)
    | dK xs =>
      have whole : ∀ (G : GH) (Q : DQ), Q (.bl false) G → spLIsWhole44 [.dK xs] G Q := fun G Q z => ⟨_, rfl, .dK xs, z⟩
      have cp : CPow 10 39 := ⟨by decide, by decide, by decide⟩
      have isT : ∀ (G : GH) (Q : DQ), rIsiD [.dK xs, .ty "tuple"] G Q = Q (.bl false) G := fun _ _ => rfl
      have isS : ∀ (G : GH) (Q : DQ), rIsiD [.dK xs, .ty "str"] G Q = Q (.bl false) G := fun _ _ => rfl
      simp only [dxs, dl, dx3, isT, isS, Bool.false_eq_true, if_false]
      refine whole _ _ ?_
      simp only [dxs, dl, dx3, sizeLine_eq, Nat.reduceAdd, Nat.reduceLeDiff, true_and, Bool.not_true, Bool.false_eq_true, if_false, Nat.zero_le, MO.cold]
      refine ⟨cp, fun z hz => ?_⟩
      simp only [gdel_gput hz]
      exact tl _ _ (by omega) gp1 (fun _ => rfl)
    | ty n => cases od.one.pl
    | dT k => cases od.one.pl
    | obj C f => cases od.one.pl
    | rf a => cases od.one.pl
    | scr ns => cases od.one.pl
    | kup xs => cases od.one.lf
end
section
variable {P : Program} {w : World} {K : PySem.W.Frag} {mg : Str → Option Value} {base : Heap} {C PT cT : Addr}
theorem c__law_bent (T : Txt K mg C) (d : Def K mg "_law_bent" s__law_bent) (C__law_draw : Cal P w K mg base "_law_draw" 1 ["_law_deck_here", "_law_below"] (spDraw)) (C__law_pick : Cal P w K mg base "_law_pick" 2 ["_law_deck_here", "_law_some"] (spPick)) (C__law_is_whole : Cal P w K mg base "_law_is_whole" 1 ["_law_it"] (spLIsWhole44)) : Cal P w K mg base "_law_bent" 11 ["_law_deck_here", "_law_it"] (spBent01 8) :=
  have s := fun {b kk : Nat} (hk : 3 ≤ kk) c => bent_step01 (P := P) (w := w) (base := base) (b := b) (kk := kk) T d C__law_draw C__law_pick C__law_is_whole hk c
  s (by decide) (s (by decide) (s (by decide) (s (by decide) (s (by decide) (s (by decide) (s (by decide) (s (by decide) (cal_never (k := 2) (fun _ _ _ h => h) d sc__law_bent (fun _ _ _ _ _ _ us hl => match us, hl with | [_, _], _ => rfl)))))))))
end
end Pace
end
section
set_option Elab.async false
set_option linter.all false
set_option maxRecDepth 100000
set_option maxHeartbeats 4000000
namespace Pace
open PySem PySem.Spec PyProof.Rows L2 DL
section
variable {P : Program} {w : World} {K : PySem.W.Frag} {mg : Str → Option Value} {base : Heap} {C PT cT : Addr}
def spTextRl : SpD := fun ds G Q => ∃ (hs ws : List Nat) (rs : List (List Mv)), ds = [.str (strOf hs), .str (strOf ws), rowsD rs] ∧ Wri hs ws rs ∧ Q (.str (strOf (textOf hs ws rs))) G
def flatTo (rs : List (List Mv)) (i : Nat) : List (Nat × Mv) := (List.range i).flatMap fun s => (rs.getD s []).map fun m => (s, m)
def lineTo (hs ws : List Nat) (rs : List (List Mv)) (i : Nat) : List (List Nat) := joinC 32 (headW hs ws rs.length) :: (flatTo rs i).map fun x => joinC 32 (moveW x)
theorem lineTo_succ {rs : List (List Mv)} (hs ws : List Nat) {i : Nat} {r : List Mv} (h : rs[i]? = some r) : lineTo hs ws rs (i + 1) = lineTo hs ws rs i ++ r.map fun m => joinC 32 (moveW (i, m)) := by
  have eg : rs.getD i [] = r := by rw [List.getD_eq_getElem?_getD, h]; rfl
  unfold lineTo flatTo
  rw [List.range_succ, List.flatMap_append, List.map_append]
  simp [h, List.map_map, Function.comp_def]
theorem flatTo_le {rs : List (List Mv)} : ∀ {j : Nat}, (i : Nat) → (flatTo rs i).length ≤ (flatTo rs (i + j)).length
  | 0, i => Nat.le_refl _
  | j + 1, i => by
    refine Nat.le_trans (flatTo_le (j := j) i) ?_
    unfold flatTo
    rw [show i + (j + 1) = (i + j) + 1 by omega, List.range_succ, List.flatMap_append, List.length_append]
    omega
theorem lineTo_len {hs ws : List Nat} {rs : List (List Mv)} (w : Wri hs ws rs) {i : Nat} (h : i ≤ rs.length) : (lineTo hs ws rs i).length ≤ 5001 := by
  have := flatTo_le (rs := rs) (j := rs.length - i) i
  rw [show i + (rs.length - i) = rs.length by omega] at this
  have e : (flatTo rs rs.length).length ≤ 5000 := w.few
  simp only [lineTo, List.length_cons, List.length_map]
  omega
theorem linesOf_len {hs ws : List Nat} {rs : List (List Mv)} (w : Wri hs ws rs) : (linesOf hs ws rs).length ≤ 5001 := lineTo_len w (Nat.le_refl _)
theorem flat_at {rs : List (List Mv)} {i : Nat} {r : List Mv} {m : Mv} (h : rs[i]? = some r) (hm : m ∈ r) : (i, m) ∈ flatM rs := by
  have hi := (List.getElem?_eq_some_iff.mp h).1
  refine List.mem_flatMap.mpr ⟨i, List.mem_range.mpr hi, List.mem_map.mpr ⟨m, ?_, rfl⟩⟩
  rw [List.getD_eq_getElem?_getD, h]
  exact hm
theorem texts_map : ∀ l : List (List Nat), texts (l.map fun x => D.str (strOf x)) = some (l.map strOf)
  | [] => rfl
  | x :: l => by simp [texts, texts_map l]
theorem sum_mono {α : Type} {f g : α → Nat} : ∀ {l : List α}, (∀ x ∈ l, f x ≤ g x) → (l.map f).sum ≤ (l.map g).sum
  | [], _ => Nat.le_refl _
  | x :: l, h => by
    have := sum_mono (l := l) fun y hy => h y (List.mem_cons_of_mem _ hy)
    have := h x List.mem_cons_self
    simp only [List.map_cons, List.sum_cons]
    omega
abbrev N_text_of : List Str := ["heard", "written", "rows", "lines", "state", "row", "sign", "letter", "target"]
theorem sc_text_of : FnScope N_text_of ["heard", "written", "rows"] (defScope s_text_of) := ⟨rfl, rfl, rfl, by decide +kernel, rfl, by decide +kernel, by decide +kernel⟩
theorem c_text_of (T : Txt K mg C) (d : Def K mg "text_of" s_text_of) : Cal P w K mg base "text_of" 1 ["heard", "written", "rows"] (spTextRl) := by
  refine cal_mk (N := N_text_of) d sc_text_of (fun ds G Q h => ?_) (fun _ _ _ _ _ _ us hl => match us, hl with | [_, _, _], _ => rfl) (fun f cdv A outer s H E hg hr => ?_)
  · obtain ⟨hs, ws, rs, rfl, _⟩ := h
    rfl
  · have hu := hu100 hr
    have nd := sc_text_of.nd
    have hA := deeper_guards (env := envOfC "text_of" (defScope s_text_of) s.heap.objs.size f cdv) hg
    refine ⟨_, (dps_cons (dp_asg (de_lstM (da_cons (de_joined (dj_cons (de_fmt (de_gstr rfl T.c_RULES_WORD)) (dj_cons de_str (dj_cons (de_fmt (de_var 0)) (dj_cons de_str (dj_cons (de_fmt (de_var 1)) (dj_cons de_str (dj_cons (de_fmt (de_callB cd_len rfl T.f_len (by decide +kernel) (da_cons (de_var 2) da_nil))) dj_nil)))))))) da_nil)) (dg_name 3 nd))
  (dps_cons (dp_for PassesOwn.never rfl (di_enumT rfl T.f_enumerate (da_cons (de_var 2) da_nil)) (dg_tup (n := 2) rfl (dgs_cons (dg_name 4 nd) (dgs_cons (dg_name 5 nd) dgs_nil)))
  (dps_one (dp_expr (de_bm PySem.F.plainAttrs_list PySem.F.slot_list_extend PySem.F.type_list_extend md_extend (de_var 3) (da_cons (de_lc (own := [("sign", 6), ("letter", 7), ("target", 8)]) (p := (.tp [6, 7, 8])) rfl nd (di_tup (de_var 5)) (blkOk_by (by show blkC N_text_of (defScope s_text_of) _ _ = true; decide +kernel)) (by decide) (fun _ _ _ _ _ => pg_tup rfl (pgs_cons (pg_name (i := 6) nd rfl (Or.inl rfl)) (pgs_cons (pg_name (i := 7) nd rfl (Or.inl rfl)) (pgs_cons (pg_name (i := 8) nd rfl (Or.inl rfl)) pgs_nil)))) (fun _ _ _ _ _ => dts_nil) (fun _ _ _ _ _ => (de_joined (dj_cons (de_fmt (de_gstr rfl T.c_MOVE_WORD)) (dj_cons de_str (dj_cons (de_fmt (de_var 4)) (dj_cons de_str (dj_cons (de_fmt (de_var 6)) (dj_cons de_str (dj_cons (de_fmt (de_var 7)) (dj_cons de_str (dj_cons (de_fmt (de_var 8)) dj_nil)))))))))))) da_nil)))))
  (dps_one (dp_ret (de_bm PySem.F.plainAttrs_str PySem.F.slot_str_join PySem.F.type_str_join md_join (de_gstr rfl T.c_BREAK) (da_cons (de_var 3) da_nil)))))), fun ds G Q h => ?_⟩
    obtain ⟨hs, ws, rs, rfl, wr, q⟩ := h
    rw [show dstart N_text_of [.str (strOf hs), .str (strOf ws), rowsD rs] = [some (.str (strOf hs)), some (.str (strOf ws)), some (rowsD rs), none, none, none, none, none, none] from rfl]
    have n2 := wr.val.n2
    have hn := num_ok (show rs.length < 1000 by omega)
    have el : rLenD [rowsD rs] = fun G Q => Q (.int (rs.length : Nat)) G := by
      funext G Q
      show Q (.int ((rs.map rowD).length : Nat)) G = _
      rw [List.length_map]
    have e0 : Str.empty = strOf [] := rfl
    have szB : ∀ k, k ≤ 200000 → k ≤ sizeLine := fun k h => by rw [sizeLine_eq]; omega
    have lh0 := wr.val.sh
    have lw0 := wr.val.sw
    have hl3 := hn.l3
    have hlog : ∀ k : Nat, k < 1000 → ((k : Int)).natAbs.log2 < 1920 := fun k hk => by
      rw [Int.natAbs_natCast]
      by_cases h0 : k = 0
      · rw [h0]; decide
      · have : k.log2 < 10 := (Nat.log2_lt h0).mpr (by omega)
        omega
    have lwr : wRules.length = 5 := rfl
    have lwm : wMove.length = 4 := rfl
    simp only [dxs, dl, dx3, dJoined, djCons, djNil, dFmt, el, e0, s_rules, s_blank, str_num, strOf_app, strOf_len, List.length_append, List.length_cons, List.length_nil, lwr]
    refine ⟨szB _ (by omega), szB _ (by omega), szB _ (by omega), szB _ (by omega), szB _ (by omega), szB _ (by omega), szB _ (by omega), szB _ (by omega), szB _ (by omega), hlog _ (by omega), szB _ (by omega), szB _ (by decide), fun p hp => ?_⟩
    have eh : [] ++ wRules ++ [32] ++ hs ++ [32] ++ ws ++ [32] ++ numS rs.length = joinC 32 (headW hs ws rs.length) := by simp [joinC, headW]
    rw [eh]
    show ForB (List.mapIdx (fun i x => D.tup [D.int ↑i, x]) (rs.map rowD)) _ _ _ _ _ _
    refine ⟨fun i S' G' => ∃ (x4 x5 x6 x7 x8 : Option D), S' = [some (D.str (strOf hs)), some (D.str (strOf ws)), some (rowsD rs), some (D.rf p), x4, x5, x6, x7, x8] ∧ G' = gput G p (.lst ((lineTo hs ws rs i).map fun l => .str (strOf l))) ∧ i ≤ rs.length,
      ⟨none, none, none, none, none, rfl, rfl, Nat.zero_le _⟩, fun _ _ _ _ => trivial, ?_, ?_⟩
    · rintro i S' G' dd ⟨x4, x5, x6, x7, x8, rfl, rfl, hi⟩ hd
      rw [List.getElem?_mapIdx, List.getElem?_map] at hd
      cases er : rs[i]? with
      | none => rw [er] at hd; cases hd
      | some r =>
        rw [er] at hd
        cases hd
        have hi2 : i < rs.length := (List.getElem?_eq_some_iff.mp er).1
        have hrl := (wr.val.row r (List.mem_of_getElem? er)).2
        have eg : rs.getD i [] = r := by rw [List.getD_eq_getElem?_getD, er]; rfl
        have nxt := lineTo_succ hs ws er
        simp only [dxs, dl, rowD, beq_self_eq_true, true_and]
        refine lc_mapA r Mv.d (fun m => .str (strOf (joinC 32 (moveW (i, m))))) rfl (sz (by omega)) trivial (fun m hm => ⟨_, rfl, fun Q z => ?_⟩) ?_
        · have mp := wr.mv (i, m) (flat_at er hm)
          have mt : m.t < rs.length := mp.t
          have nt := num_ok (show m.t < 1000 by omega)
          have ni := num_ok (show i < 1000 by omega)
          have k1 := nt.l3
          have k2 := ni.l3
          have et : [] ++ wMove ++ [32] ++ numS i ++ [32] ++ [m.h] ++ [32] ++ [m.c] ++ [32] ++ numS m.t = joinC 32 (moveW (i, m)) := by simp [joinC, moveW]
          have g1 : ∀ c, sgn c = strOf [c] := fun _ => rfl
          simp only [dxs, dl, dwipe, List.map_cons, List.map_nil, Mv.d, dJoined, djCons, djNil, dFmt, e0, s_move, s_blank, str_num, g1, strOf_app, strOf_len, List.length_append, List.length_cons, List.length_nil, lwm, et]
          refine ⟨szB _ (by omega), szB _ (by omega), szB _ (by omega), hlog _ (by omega), szB _ (by omega), szB _ (by omega), szB _ (by omega), szB _ (by omega), szB _ (by omega), szB _ (by omega), szB _ (by omega), szB _ (by omega), hlog _ (by omega), szB _ (by have := move_len n2 mp; omega), z⟩
        · have hb := lineTo_len wr (show i + 1 ≤ rs.length by omega)
          rw [nxt] at hb
          simp only [List.length_append, List.length_map] at hb
          simp only [rExtendD, dxs, dl, gput_gput]
          refine ⟨szB _ (by simp only [List.length_map]; omega), _, _, _, _, _, rfl, ?_, by omega⟩
          rw [nxt, List.map_append, List.map_map]
          rfl
    · rintro S' G' ⟨x4, x5, x6, x7, x8, rfl, rfl, hi⟩
      have hlm : (List.mapIdx (fun i x => D.tup [D.int ↑i, x]) (rs.map rowD)).length = rs.length := by simp
      rw [hlm]
      have ell : lineTo hs ws rs rs.length = linesOf hs ws rs := rfl
      rw [ell]
      have et : texts ((linesOf hs ws rs).map fun l => D.str (strOf l)) = some ((linesOf hs ws rs).map strOf) := texts_map _
      have hs1 : (((linesOf hs ws rs).map strOf).map (·.length)).sum ≤ 200000 := by
        rw [List.map_map]
        have h1 := lines_sum wr
        have h2 : ((linesOf hs ws rs).map fun l => l.length).sum ≤ ((linesOf hs ws rs).map fun l => l.length + 1).sum := sum_mono fun x _ => Nat.le_succ _
        have h3 : ((linesOf hs ws rs).map ((fun x : Str => x.length) ∘ strOf)) = (linesOf hs ws rs).map fun l => l.length := by
          refine List.map_congr_left fun l _ => strOf_len l
        rw [h3]
        omega
      have hs2 := linesOf_len wr
      simp only [rJoinD, dxs, dl, et, s_break, join_strOf, List.length_map, strOf_len, List.length_cons, List.length_nil]
      refine ⟨rfl, by omega, G, sub_new hp rfl, q⟩
end
section
variable {P : Program} {w : World} {K : PySem.W.Frag} {mg : Str → Option Value} {base : Heap} {C PT cT : Addr}
def spRStr (C : Addr) : SpD := fun ds G Q => ∃ (hs ws : List Nat) (rs : List (List Mv)), ds = [rulD C (mkR hs ws rs)] ∧ Wri hs ws rs ∧ Q (.str (strOf (textOf hs ws rs))) G
abbrev N_Rules_u__str_u_ : List Str := ["self"]
theorem sc_Rules_u__str_u_ : FnScope N_Rules_u__str_u_ ["self"] (defScope s_Rules_u__str_u_) := ⟨rfl, rfl, rfl, by decide +kernel, rfl, by decide +kernel, by decide +kernel⟩
theorem c_Rules_u__str_u_ (T : Txt K mg C) (d : DefM K C "__str__" "Rules.__str__" s_Rules_u__str_u_) (C_text_of : Cal P w K mg base "text_of" 1 ["heard", "written", "rows"] (spTextRl)) : CalM P w K mg base C "__str__" 2 ["self"] (spRStr C) := by
  refine calM_mk (N := N_Rules_u__str_u_) d sc_Rules_u__str_u_ (fun ds G Q h => ?_) (fun _ _ _ _ _ _ us hl => match us, hl with | [_], _ => rfl) (fun f cdv A outer s H E hg hr => ?_)
  · obtain ⟨hs, ws, rs, rfl, _⟩ := h
    rfl
  · have hu := hu100 hr
    have nd := sc_Rules_u__str_u_.nd
    have hA := deeper_guards (env := envOfC "Rules.__str__" (defScope s_Rules_u__str_u_) s.heap.objs.size f cdv) hg
    refine ⟨_, (dps_one (dp_ret (de_callTy cd_strS rfl T.f_str (by decide +kernel) (da_cons (de_cal C_text_of hA (hr.mono (by decide)) (da_cons (de_fld T.clR T.no_heard (de_var 0)) (da_cons (de_fld T.clR T.no_written (de_var 0)) (da_cons (de_fld T.clR T.no_rows (de_var 0)) da_nil)))) da_nil)))), fun ds G Q h => ?_⟩
    obtain ⟨hs, ws, rs, rfl, wr, q⟩ := h
    rw [show dstart N_Rules_u__str_u_ [rulD C (mkR hs ws rs)] = [some (rulD C (mkR hs ws rs))] from rfl]
    have e0 : ∀ (G : GH) (R : Rul), D.cur G (.obj C (rulF R)) = .obj C (rulF R) := fun _ _ => rfl
    simp only [dxs, dl, rulD, e0, rulF_heard, rulF_written, rulF_rows, true_and]
    refine ⟨hs, ws, rs, rfl, wr, ?_⟩
    exact ⟨_, Sub.refl _, q⟩
end
end Pace
end
section
set_option Elab.async false
set_option linter.all false
set_option maxRecDepth 100000
set_option maxHeartbeats 4000000
namespace DL
open PySem PySem.Spec PyProof.Rows L2
def spLaw (n : Nat) : SpD := fun ds G Q => ∃ ns : List Int, ds = [.scr ns] ∧ ns.length ≤ n ∧ (G = fun _ => none) ∧ ∀ G', Q (.bl true) G'
section
variable {P : Program} {w : World} {K : PySem.W.Frag} {mg mb : Str → Option Value} {k : Nat} {fa a : Addr} {fd : FuncData} {x : Str} {s₁ : Shared} {vs : List Value} {ns : List Int} {n : Nat}
theorem last_core (inn : K.In s₁.heap) (hns : s₁.heap.Ns mainGlobals mg) (hb : s₁.heap.Ns builtinsNs mb) (hbb : ∀ x : Str, x ≠ "__name__" → mb x = bootBuiltins x) (hlim : s₁.heap.NoLimit) (hg : s₁.gens = #[])
    (ha : s₁.heap.get? a = some { cls := .type "list", data := .seq vs.toArray }) (hl : ns.length ≤ n) (hr : Room k callerA)
    (Fn : ∀ base : Heap, K.In base → base.Ns mainGlobals mg → FnG P w K mg base CX0 k fa fd [x] (SpOf K (spLaw n))) (bd : ∀ (s : Shared) (u : Value), BindsTo s fd ⟨[u], []⟩ [(x, u)])
    (H : Hp) (hO : Only H) (hS : SqL K H a (ns.map V.int)) (hok : HOk P w H s₁.heap) (hA : ∀ b, H b ≠ none → b = a) (hK : H a ≠ none → K.lookup a = none) :
    codeAny (model P w) callerA (.call (.ref fa) ⟨[.ref a], []⟩) (fun r s' => r = .ok (.ret (.bool true)) ∧ OldK s₁.heap s'.heap ∧ s'.os = s₁.os ∧ AllBare s'.gens) s₁ := by
  have put : ∀ {b : Addr} {o : Obj}, s₁.heap.get? b = some o → H b = none → (hidT s₁.heap H).get? b = some o := by
    intro b o z y
    exact hidT_get z y
  have nod : ∀ {b : Addr} {o : Obj} {es : Array DictEntry} {ep : Nat}, s₁.heap.get? b = some o → o.data = .dict es ep → H b = none := by
    intro b o es ep z y
    cases q : H b with
    | none => rfl
    | some u =>
      obtain rfl : b = a := hA b (by rw [q]; simp)
      rw [ha] at z
      cases z
      exact absurd y (by intro c; cases c)
  have ns2 : ∀ {b : Addr} {m : Str → Option Value}, s₁.heap.Ns b m → (hidT s₁.heap H).Ns b m := by
    rintro b m ⟨o, es, ep, z, y, r⟩
    exact ⟨o, es, ep, put z (nod z y), y, r⟩
  have in2 : K.In (hidT s₁.heap H) := by
    intro b o z
    refine put (inn b o z) ?_
    cases q : H b with
    | none => rfl
    | some u =>
      have y : b = a := hA b (by rw [q]; simp)
      subst y
      have c := hK (by rw [q]; simp)
      rw [c] at z; cases z
  have md : Mod K mg (hidT s₁.heap H) := by
    obtain ⟨mc, l1, l2⟩ := hlim
    exact ⟨in2, ns2 hns, ⟨mb, ns2 hb, hbb⟩, ⟨mc, ns2 l1, l2⟩⟩
  have e0 : Env0 P w K mg (hidT s₁.heap H) callerA [] s₁ H := by
    refine ⟨rfl, md, fun b o z => of_hidT z, Nat.le_of_eq (hidT_size _ _), trivial, ?_, hok, .of_eq hg⟩
    intro b hb
    cases hb
  have sp0 : SpOf K (spLaw n) [.ref a] H (fun v _ => v = .bl true) (fun _ _ _ => False) := by
    refine ⟨H, fun _ => none, [.scr ns], fun d _ => d = .bl true, ⟨Ex.refl H, fun _ _ z => (nomatch z), fun _ _ _ _ _ _ _ _ _ _ z => (nomatch z)⟩, .one (.scr hS), ⟨ns, rfl, hl, rfl, fun _ => rfl⟩, ?_⟩
    intro F' H' v d G' _ _ r z
    subst z
    cases r
    rfl
  refine codeAny_mono ((Fn _ in2 (ns2 hns)).goes callerA [] s₁ H ⟨[.ref a], []⟩ [.ref a] [.ref a] _ _ rfl hr e0 (bd s₁ (.ref a)) (.cons rfl .nil) sp0) ?_
  intro r s' z
  match r, z with
  | .error er, z => exact z.elim
  | .ok .next, z => exact z.elim
  | .ok .brk, z => exact z.elim
  | .ok .cont, z => exact z.elim
  | .ok (.ret u), z =>
    obtain ⟨v, H', os, bare, un, hok', r', q⟩ := z
    have q' : v = .bl true := q
    subst q'
    obtain rfl : u = Value.bool true := r'
    refine ⟨rfl, OldK.of_keep ?_, os, bare⟩
    intro b o z
    cases q : H b with
    | none => exact un.keep b o z q (by intro c; cases c) (by simp)
    | some y =>
      rcases hO b with c | ⟨ob, xs, c⟩
      · rw [q] at c; cases c
      · have c2 := un.frzs b ob _ c
        have d1 := (hok b _ c).1
        have d2 := (hok' b _ c2).1
        rw [z] at d1
        cases d1
        exact d2
theorem last_call (inn : K.In s₁.heap) (hns : s₁.heap.Ns mainGlobals mg) (hb : s₁.heap.Ns builtinsNs mb) (hbb : ∀ x : Str, x ≠ "__name__" → mb x = bootBuiltins x) (hlim : s₁.heap.NoLimit) (hg : s₁.gens = #[])
    (ha : s₁.heap.get? a = some { cls := .type "list", data := .seq vs.toArray }) (hi : IntsAre vs ns) (hl : ns.length ≤ n) (hn : n ≤ sizeLine) (hr : Room k callerA)
    (Fn : ∀ base : Heap, K.In base → base.Ns mainGlobals mg → FnG P w K mg base CX0 k fa fd [x] (SpOf K (spLaw n))) (bd : ∀ (s : Shared) (u : Value), BindsTo s fd ⟨[u], []⟩ [(x, u)]) :
    codeAny (model P w) callerA (.call (.ref fa) ⟨[.ref a], []⟩) (fun r s' => r = .ok (.ret (.bool true)) ∧ OldK s₁.heap s'.heap ∧ s'.os = s₁.os ∧ AllBare s'.gens) s₁ := by
  have rv := vals_ints hi
  have lv := hi.length
  have hz : ns.length ≤ sizeLine := Nat.le_trans hl hn
  cases hk : K.lookup a with
  | some o =>
    have z := inn a o hk
    rw [ha] at z
    cases z
    refine last_core inn hns hb hbb hlim hg ha hl hr Fn bd (fun _ => none) (fun _ => .inl rfl) ?_ (fun b u z => (nomatch z)) (fun b z => absurd rfl z) (fun z => absurd rfl z)
    refine .inr ⟨_, vs.toArray, _, hk, rfl, rfl, rfl, ?_, by simpa using rv⟩
    rw [List.size_toArray, lv]
    exact hz
  | none =>
    let H : Hp := fun b => if b = a then some (.frz { cls := .type "list", data := .seq vs.toArray } (.lst (ns.map V.int))) else none
    have hy : H a = some (.frz { cls := .type "list", data := .seq vs.toArray } (.lst (ns.map V.int))) := if_pos rfl
    have hno : ∀ b, b ≠ a → H b = none := fun b z => if_neg z
    refine last_core inn hns hb hbb hlim hg ha hl hr Fn bd H (fun b => ?_) (.inl (.inr ⟨_, hy⟩)) (fun b u z => ?_) (fun b z => ?_) (fun _ => hk)
    · by_cases c : b = a
      · subst c; exact .inr ⟨_, _, hy⟩
      · exact .inl (hno b c)
    · by_cases c : b = a
      · subst c
        rw [hy] at z
        cases z
        exact ⟨ha, by rw [List.length_map]; exact hz, vs, _, rv, ha⟩
      · rw [hno b c] at z; cases z
    · by_cases c : b = a
      · exact c
      · exact absurd (hno b c) z
end
theorem walk_G {l : PySem.W.OpenLaw} {n k : Nat} {q : Program} {loose : List Str} {XP : (Str → Option Value) → Heap → Prop} {YP : World → Heap → Prop} {d : DefRec} {x : Str}
    (hn : l.most = some n) (hn2 : n ≤ sizeLine) (hdf : d.params.defaults = []) (hr : Room k callerA)
    (Fn : ∀ (w : World) (mg : Str → Option Value) (fa : Addr) (h : Heap), YP w h → h.Ns mainGlobals mg → mg d.name = some (.ref fa) →
      ∃ (K : PySem.W.Frag) (fd : FuncData), K.In h ∧ (∀ (s : Shared) (u : Value), BindsTo s fd ⟨[u], []⟩ [(x, u)]) ∧
        ∀ base : Heap, K.In base → base.Ns mainGlobals mg → FnG l.prog w K mg base CX0 k fa fd [x] (SpOf K (spLaw n))) :
    PySem.W.WalkO q loose XP YP l.row.toRowW d [] (fun f vs => PySem.call f vs) := by
  refine Att.attach_call hn hdf ?_
  intro w s₀ s₁ mg mb fa o pm cd doc a vs ns G Y ho hd hcd hmg hobj hints hlen hg
  obtain ⟨K, fd, inn, bd, hF⟩ := Fn w mg fa _ Y G.T.g hmg
  exact last_call inn G.T.g G.T.b G.T.builtins G.T.nolimit hg hobj hints hlen hn2 hr hF bd
end DL
end
section
set_option Elab.async false
set_option linter.all false
set_option maxRecDepth 100000
set_option maxHeartbeats 4000000
namespace Pace
open PySem PySem.Spec PyProof.Rows L2 DL
section
variable {P : Program} {w : World} {K : PySem.W.Frag} {mg : Str → Option Value} {base : Heap} {C PT cT : Addr}
theorem flatM_sum01 (rs : List (List Mv)) : (flatM rs).length = (rs.map List.length).sum := by
  unfold flatM
  rw [List.length_flatMap]
  have e : (List.range rs.length).map (fun s => ((rs.getD s []).map fun m => (s, m)).length) = rs.map List.length := by
    refine List.ext_getElem (by simp) fun j h1 h2 => ?_
    simp only [List.length_map] at h2
    simp only [List.getElem_map, List.getElem_range, List.length_map]
    rw [List.getD_eq_getElem?_getD, List.getElem?_eq_getElem h2]
    rfl
  rw [e]
theorem wor_wri01 {top : Nat} {tot : Bool} {hs ws : List Nat} {rs : List (List Mv)} (w : Wor top tot hs ws rs) (h : top ≤ 5) : Wri hs ws rs := by
  refine ⟨w.val, ?_⟩
  have := sum_le (B := 9) List.length (l := rs) w.row
  have hn := w.n
  rw [flatM_sum01]
  have h2 : rs.length * 9 ≤ 5 * 9 := Nat.mul_le_mul_right _ (by omega)
  omega
abbrev Tri01 := List Nat × List Nat × List (List Mv)
def parD (t : Tri01) : D := .tup [.str (strOf t.1), .str (strOf t.2.1), rowsD t.2.2]
def pasD (C : Addr) (t : Tri01) : D := .tup [parD t, rulD C (mkR t.1 t.2.1 t.2.2)]
theorem parD_inj {a b : Tri01} : parD a = parD b ↔ mkR a.1 a.2.1 a.2.2 = mkR b.1 b.2.1 b.2.2 := by
  constructor
  · intro h
    unfold parD at h
    simp only [D.tup.injEq, List.cons.injEq, D.str.injEq, and_true] at h
    obtain ⟨h1, h2, h3⟩ := h
    unfold mkR
    rw [h1, h2, rowsD_inj h3]
  · intro h
    unfold mkR at h
    injection h with h1 h2 h3
    unfold parD
    rw [h1, h2, h3]
theorem parD_si (a : Tri01) : (parD a).si = true := by
  have := rowsD_si a.2.2
  simp [parD, D.si, D.sis, this]
theorem parD_dp (a : Tri01) : (parD a).dp ≤ 60 := by
  have := rowsD_dp a.2.2
  simp only [parD, D.dp, D.dps]; omega
/-- a part as drawn, or bent so many times -/
structure Lvl01 (k : Nat) (x : D) : Prop where
  od : Odd (7 * k) (3 + 4 * k) (220 * 2 ^ k) x
  th : Thin (9 + k) x
theorem Lvl01.next {k : Nat} {y : D} (h : Bt (7 * k) (3 + 4 * k) (220 * 2 ^ k) (9 + k) y) : Lvl01 (k + 1) y := by
  have p : 1 ≤ 2 ^ k := Nat.one_le_two_pow
  refine ⟨h.od.mono (by omega) (by omega) (Nat.max_le.mpr ⟨?_, ?_⟩), h.th.mono (by omega)⟩
  · rw [Nat.pow_succ]; omega
  · rw [Nat.pow_succ]; omega
theorem Lvl01.up {k : Nat} {x : D} (h : Lvl01 k x) : Lvl01 (k + 1) x := by
  have p : 1 ≤ 2 ^ k := Nat.one_le_two_pow
  exact ⟨h.od.mono (by omega) (by omega) (by rw [Nat.pow_succ]; omega), h.th.mono (by omega)⟩
theorem Lvl01.odd {k : Nat} {x : D} (h : Lvl01 k x) (hk : k ≤ 2) : Odd 20 12 1000 x := by
  have : 2 ^ k ≤ 2 ^ 2 := Nat.pow_le_pow_right (by decide) hk
  exact h.od.mono (by omega) (by omega) (by omega)
theorem Lvl01.three {k : Nat} {h c L : D} (a : Lvl01 k h) (b : Lvl01 k c) (d : Lvl01 k L) (hk : k ≤ 2) : Three h c L := ⟨⟨_, _, a.odd hk⟩, ⟨_, _, b.odd hk⟩, ⟨_, _, d.odd hk⟩, d.th.rows (by omega)⟩
theorem lv_rows {hs ws : List Nat} {rs : List (List Mv)} (w : Wor 4 false hs ws rs) : Lvl01 0 (.str (strOf hs)) ∧ Lvl01 0 (.str (strOf ws)) ∧ Lvl01 0 (rowsD rs) := by
  have h3 := w.hs3
  have w3 := w.ws3
  exact ⟨⟨str_odd01 w.val.lh (by omega), .str _⟩, ⟨str_odd01 w.val.lw (by omega), .str _⟩, ⟨rowsD_odd w.val w.row w.n, rowsD_thin w.row w.n⟩⟩
theorem item3 {P : D → Prop} {h c L : D} {r : Nat} (hr : r < 3) (ph : P h) (pc : P c) (pL : P L) : ∃ x, D.item (.tup [h, c, L]) (.int (r : Int)) = some x ∧ P x := by
  have : r = 0 ∨ r = 1 ∨ r = 2 := by omega
  rcases this with rfl | rfl | rfl
  · exact ⟨h, rfl, ph⟩
  · exact ⟨c, rfl, pc⟩
  · exact ⟨L, rfl, pL⟩
theorem put3 {P : D → Prop} {h c L y : D} {r : Nat} (hr : r < 3) (ph : P h) (pc : P c) (pL : P L) (py : P y) : ∃ h' c' L', [h, c, L].take r ++ [y] ++ [h, c, L].drop (r + 1) = [h', c', L'] ∧ P h' ∧ P c' ∧ P L' := by
  have : r = 0 ∨ r = 1 ∨ r = 2 := by omega
  rcases this with rfl | rfl | rfl
  · exact ⟨y, c, L, rfl, py, pc, pL⟩
  · exact ⟨h, y, L, rfl, ph, py, pL⟩
  · exact ⟨h, c, y, rfl, ph, pc, py⟩
theorem near01 {p : Addr} {k r m : Nat} {h c L : D} {G : GH} {K : DQ} (hk : k ≤ 1) (hr : r < 3) (a : Lvl01 k h) (b : Lvl01 k c) (d : Lvl01 k L) (gp : G p = some (dk (m + 80)))
    (z : ∀ h' c' L' m', m ≤ m' → Lvl01 (k + 1) h' → Lvl01 (k + 1) c' → Lvl01 (k + 1) L' → K (.tup [h', c', L']) (gput G p (dk m'))) :
    rSlice (.tup [h, c, L]) none (some (r : Int)) G fun x G1 => match (D.cur G1 (.tup [h, c, L])).item (.int (r : Int)) with
      | some d => spBent01 8 [.rf p, d] G1 fun d G1 => 0 + 1 ≤ sizeLine ∧ rAddD x (.tup [d]) G1 fun x G1 => rAddD (.int (r : Int)) (.int 1) G1 fun d G1 => match d with
        | .int i => rSlice (.tup [h, c, L]) (some i) none G1 fun y G2 => rAddD x y G2 K
        | _ => False
      | none => False := by
  obtain ⟨x, ix, lx⟩ := item3 hr a b d
  have er : ((r : Int) + 1) = ((r + 1 : Nat) : Int) := by omega
  have pk : 2 ^ k ≤ 2 ^ 1 := Nat.pow_le_pow_right (by decide) hk
  have ec : D.cur G (.tup [h, c, L]) = .tup [h, c, L] := rfl
  show (match (D.cur G (.tup [h, c, L])).item (.int (r : Int)) with
      | some d => spBent01 8 [.rf p, d] G fun d G1 => 0 + 1 ≤ sizeLine ∧ rAddD (.tup (DL.cutD [h, c, L] none (some (r : Int)))) (.tup [d]) G1 fun x G1 => rAddD (.int (r : Int)) (.int 1) G1 fun d G1 => match d with
        | .int i => rSlice (.tup [h, c, L]) (some i) none G1 fun y G2 => rAddD x y G2 K
        | _ => False
      | none => False)
  rw [ec, ix]
  refine ⟨p, x, m, _, _, _, _, rfl, lx.od, (show 3 + 4 * k ≤ 7 by omega), (show 220 * 2 ^ k ≤ 600 by omega), (show 7 * k ≤ 900 by omega), (show 3 ≤ 9 + k by omega), lx.th, gp, fun y m' hm' bt => ?_⟩
  obtain ⟨h', c', L', e3, n0, n1, n2⟩ := put3 hr a.up b.up d.up (Lvl01.next bt)
  have s1 : ([h, c, L].take r).length ≤ 3 := by simp; omega
  have s2 : ([h, c, L].drop (r + 1)).length ≤ 3 := by simp; omega
  refine ⟨sz (by decide), ?_⟩
  simp only [rAddD, D.cur, er, cut_take, DL.rSlice, cut_drop]
  refine ⟨sz (by simp; omega), sz (by simp; omega), ?_⟩
  rw [e3]
  exact z _ _ _ _ hm' n0 n1 n2
theorem eqno01 {C : Addr} {R : Rul} {d : D} {G : GH} {Q : DQ} (h1 : ∀ C1 fs, d.cur G ≠ .obj C1 fs) (h2 : (d.cur G).tyN.isSome = true) (q : Q (.bl false) G) : rEqV C (spREq01 C) (rulD C R) d G Q := by
  unfold rEqV
  refine ⟨rfl, ?_, .inr ⟨R, d, rfl, h1, h2, q⟩⟩
  cases e : d.cur G with
  | obj C1 fs => exact absurd e (h1 C1 fs)
  | _ => rw [e] at h2; exact h2
theorem flat1 (n : Nat) (x : D) : (List.replicate n [x]).flatten = List.replicate n x := by
  induction n with
  | zero => rfl
  | succ n ih => rw [List.replicate_succ, List.flatten_cons, ih, List.replicate_succ]; rfl
def S01 (cs : List Nat) : D := .str (strOf cs)
def az01 : List Nat := (List.range 26).map (· + 97)
theorem s_az01 : Str.ofString "abcdefghijklmnopqrstuvwxyz" = strOf az01 := by decide +kernel
theorem s_z01 : Str.ofString "z" = sgn 122 := by decide +kernel
theorem s_ba01 : Str.ofString "ba" = strOf [98, 97] := by decide +kernel
theorem s_aa01 : Str.ofString "aa" = strOf [97, 97] := by decide +kernel
def mv01 (a b : List Nat) (t : D) : D := .tup [S01 a, S01 b, t]
def hand01 : List (D × D × D) := [
  (S01 [97], S01 [98], .tup (List.replicate 999 (.tup []))), (S01 [97], S01 [98], .tup (List.replicate 1000 (.tup []))), (S01 [97], S01 [98], .tup []),
  (S01 az01, S01 az01, .tup [.tup [mv01 [122] [97] (.int 0)]]),
  (S01 [98, 97], S01 [], .tup []), (S01 [97], S01 [97, 97], .tup []), (S01 [], S01 [97], .tup [.tup []]), (S01 [97], S01 [97], .lst [.tup []]),
  (S01 [97], S01 [97], .tup [.tup [], .lst [], .non]),
  (S01 [97], S01 [97, 98], .tup [.tup [mv01 [97] [98] (.int 0), mv01 [97] [97] (.int 0)]]),
  (S01 [97], S01 [97], .tup [.tup [mv01 [97] [97] (.int 0), mv01 [97] [97] (.int 1)], .tup []]),
  (S01 [97], S01 [97], .tup [.tup [mv01 [97] [97] (.bl true)], .tup []]),
  (S01 [97], S01 [97], .tup [.tup [mv01 [97] [97] (.int 1)]]),
  (S01 (az01 ++ [97]), S01 [97], .tup [.tup []])]
def tri01 (t : D × D × D) : D := .tup [t.1, t.2.1, t.2.2]
def thinB01 : D → Bool
  | .tup rows => rows.all fun r => match r with
    | .tup ys => decide (ys.length ≤ 60)
    | _ => true
  | _ => true
theorem thinB01_ok {L : D} (h : thinB01 L = true) : ThinR L := by
  rintro rows rfl ys hy
  have := List.all_eq_true.mp h _ hy
  exact of_decide_eq_true this
theorem hand01_all : hand01.all (fun t => oddB01 20 12 1000 t.1 && oddB01 20 12 1000 t.2.1 && oddB01 20 12 1000 t.2.2 && thinB01 t.2.2) = true := by decide +kernel
theorem hand01_ok : ∀ t ∈ hand01, Three t.1 t.2.1 t.2.2 ∧ Odd 20 12 1000 t.1 ∧ Odd 20 12 1000 t.2.1 ∧ Odd 20 12 1000 t.2.2 := fun t ht => by
  have := List.all_eq_true.mp hand01_all t ht
  simp only [Bool.and_eq_true] at this
  obtain ⟨⟨⟨a, b⟩, c⟩, d⟩ := this
  have a := oddB01_ok a
  have b := oddB01_ok b
  have c := oddB01_ok c
  exact ⟨⟨⟨_, _, a⟩, ⟨_, _, b⟩, ⟨_, _, c⟩, thinB01_ok d⟩, a, b, c⟩
def sec01 (t : D × D × D) : D := match dueH t.1 t.2.1 t.2.2 with
  | .lst (_ :: d :: _) => d
  | _ => .non
theorem sec01_item (t : D × D × D) : D.item (dueH t.1 t.2.1 t.2.2) (.int 1) = some (sec01 t) := by
  unfold sec01 dueH
  cases faultR t.1 t.2.1 t.2.2 <;> rfl
def same01 : D → D → Bool
  | .str a, .str b => decide (a = b)
  | .int i, .int j => decide (i = j)
  | _, _ => false
theorem same01_ok {a b : D} (h : same01 a b = true) : a = b := by
  unfold same01 at h
  split at h
  · rw [of_decide_eq_true h]
  · rw [of_decide_eq_true h]
  · cases h
def sames01 : List D → List D → Bool
  | [], [] => true
  | a :: x, b :: y => same01 a b && sames01 x y
  | _, _ => false
theorem sames01_ok : ∀ {a b : List D}, sames01 a b = true → a = b
  | [], [], _ => rfl
  | a :: x, b :: y, h => by
    have h : (same01 a b && sames01 x y) = true := h
    rw [Bool.and_eq_true] at h
    rw [same01_ok h.1, sames01_ok h.2]
  | [], _ :: _, h => by cases h
  | _ :: _, [], h => by cases h
def hand8 : List (D × D × D) := (hand01.drop 1).take 8
def told8 : List D := [.str (Str.ofString "rows"), .str (Str.ofString "rows"), S01 az01, .str (Str.ofString "heard"), .str (Str.ofString "written"), .str (Str.ofString "heard"), .str (Str.ofString "rows"), .int 1]
theorem told8_is : hand8.map sec01 = told8 := sames01_ok (by decide +kernel)
theorem told8_si : (D.lst told8).si = true := rfl
abbrev N_law : List Str := ["_law_script", "_law_deck_here", "_law_past", "_law_go", "_law_w", "_law_parts", "_law_turn", "_law_at", "_law_near", "_law_far", "_law_it", "_law_mate", "_law_other_parts", "_law_signs_here", "_law_some", "_law_told"]
theorem sc_law : FnScope N_law ["_law_script"] (defScope s_law) := ⟨rfl, rfl, rfl, by decide +kernel, rfl, by decide +kernel, by decide +kernel⟩
theorem c_law {f0 : Addr} {fd0 : FuncData} (T : Txt K mg C) (d : Fun K "law" "law" s_law f0 fd0) (C__law_deck : Cal P w K mg base "_law_deck" 1 ["_law_script"] (spDeck)) (C__law_draw : Cal P w K mg base "_law_draw" 1 ["_law_deck_here", "_law_below"] (spDraw)) (C__law_pick : Cal P w K mg base "_law_pick" 2 ["_law_deck_here", "_law_some"] (spPick)) (C__law_world : Cal P w K mg base "_law_world" 4 ["_law_deck_here", "_law_top", "_law_is_total"] (spWorld)) (C__law_bent : Cal P w K mg base "_law_bent" 11 ["_law_deck_here", "_law_it"] (spBent01 8)) (C__law_is_told : Cal P w K mg base "_law_is_told" 8 ["_law_parts"] (spTold01 C)) (M_Rules : Mak P w K mg base "Rules" C 5 ["self", "heard", "written", "rows"] (spInit01p C)) (Mm__u_eq_u_ : CalM P w K mg base C "__eq__" 1 ["self", "other"] (spREq01 C)) (Mm__u_str_u_ : CalM P w K mg base C "__str__" 2 ["self"] (spRStr C)) (C__law_heard : Cal P w K mg base "_law_heard" 7 ["_law_parts", "_law_is_named"] (spHeard01 C)) : FnG P w K mg base CX0 14 f0 fd0 ["_law_script"] (SpOf K (spLaw 63)) := by
  refine fn_mk (N := N_law) d sc_law (fun ds G Q h => ?_) (fun cdv A outer s H E hg hr => ?_)
  · obtain ⟨ns, rfl, _⟩ := h
    rfl
  · have hu := hu100 hr
    have nd := sc_law.nd
    have hA := deeper_guards (env := envOfC "law" (defScope s_law) s.heap.objs.size f0 cdv) hg
    refine ⟨_, (dps_cons (dp_par (i := 1) (j := 2) rfl nd (ha := (da_cons (de_cal C__law_deck hA (hr.mono (by decide)) (da_cons (de_var 0) da_nil)) (da_cons (de_lstM da_nil) da_nil))))
  (dps_cons (dp_for PassesOwn.never rfl (di_range1 rfl T.f_range (da_cons de_int da_nil)) (dg_name 3 nd)
  (dps_cons (dp_asg (de_cal C__law_world hA (hr.mono (by decide)) (da_cons (de_var 1) (da_cons de_int (da_cons de_bl da_nil)))) (dg_name 4 nd))
  (dps_cons (dp_asg (de_tup (da_cons (de_ix hu (de_var 4) de_str) (da_cons (de_ix hu (de_var 4) de_str) (da_cons (de_ix hu (de_var 4) de_str) da_nil)))) (dg_name 5 nd))
  (dps_cons (dp_if (dt_not (dt_val (de_cal C__law_is_told hA (hr.mono (by decide)) (da_cons (de_var 5) da_nil))))
  (dps_one (dp_ret de_bl))
  dps_nil)
  (dps_cons (dp_for PassesOwn.never rfl (di_range1 rfl T.f_range (da_cons de_int da_nil)) (dg_name 6 nd)
  (dps_cons (dp_asg (de_cal C__law_draw hA (hr.mono (by decide)) (da_cons (de_var 1) (da_cons de_int da_nil))) (dg_name 7 nd))
  (dps_cons (dp_asg (de_op od_add (de_op od_add (de_slice (de_var 5) do_none (do_some (de_var 7))) (de_tup (da_cons (de_cal C__law_bent hA (hr.mono (by decide)) (da_cons (de_var 1) (da_cons (de_ix hu (de_var 5) (de_var 7)) da_nil))) da_nil))) (de_slice (de_var 5) (do_some (de_op od_add (de_var 7) de_int)) do_none)) (dg_name 8 nd))
  (dps_cons (dp_asg (de_cal C__law_pick hA (hr.mono (by decide)) (da_cons (de_var 1) (da_cons (de_lst (da_cons de_int (da_cons de_int (da_cons de_int (da_cons de_int da_nil))))) da_nil))) (dg_name 7 nd))
  (dps_cons (dp_asg (de_op od_add (de_op od_add (de_slice (de_var 8) do_none (do_some (de_var 7))) (de_tup (da_cons (de_cal C__law_bent hA (hr.mono (by decide)) (da_cons (de_var 1) (da_cons (de_ix hu (de_var 8) (de_var 7)) da_nil))) da_nil))) (de_slice (de_var 8) (do_some (de_op od_add (de_var 7) de_int)) do_none)) (dg_name 9 nd))
  (dps_one (dp_if (DW.dt (dw_or (dt_not (dt_val (de_cal C__law_is_told hA (hr.mono (by decide)) (da_cons (de_var 8) da_nil)))) (dw_or1 (dt_not (dt_val (de_cal C__law_is_told hA (hr.mono (by decide)) (da_cons (de_var 9) da_nil)))))))
  (dps_one (dp_ret de_bl))
  dps_nil)))))))
  (dps_cons (dp_asg (de_mak M_Rules hA (hr.mono (by decide)) (da_cons (de_ix hu (de_var 5) de_int) (da_cons (de_ix hu (de_var 5) de_int) (da_cons (de_ix hu (de_var 5) de_int) da_nil)))) (dg_name 10 nd))
  (dps_cons (dp_if (dt_cmp (od_neNil hu) (de_lc (own := [("_law_mate", 11)]) (p := (.nm 11)) rfl nd (di_tup (de_tup (da_cons de_non (da_cons de_int (da_cons (de_var 5) (da_cons (de_callTy (cd_strO Mm__u_str_u_ hA (hr.mono (by decide))) rfl T.f_str (by decide +kernel) (da_cons (de_var 10) da_nil)) (da_cons (de_ix hu (de_var 5) de_int) (da_cons (de_cold de_newK) da_nil)))))))) (blkOk_by (by show blkC N_law (defScope s_law) _ _ = true; decide +kernel)) (by decide) (fun _ _ _ _ _ => pg_name (i := 11) nd rfl (Or.inl rfl)) (fun _ _ _ _ _ => (dts_one (dt_cmp (od_eqV T.iv_Rules Mm__u_eq_u_ hA (hr.mono (by decide))) (de_var 10) (de_var 11) (nomark _)))) (fun _ _ _ _ _ => (de_var 11))) (de_lst da_nil) (nomark _))
  (dps_one (dp_ret de_bl))
  dps_nil)
  (dps_cons (dp_if (dt_cmp (od_neNil hu) (de_lc (own := [("_law_other_parts", 12), ("_law_mate", 11)]) (p := (.tp [12, 11])) rfl nd (di_list (de_var 2)) (blkOk_by (by show blkC N_law (defScope s_law) _ _ = true; decide +kernel)) (by decide) (fun _ _ _ _ _ => pg_tup rfl (pgs_cons (pg_name (i := 12) nd rfl (Or.inl rfl)) (pgs_cons (pg_name (i := 11) nd rfl (Or.inl rfl)) pgs_nil))) (fun _ _ _ _ _ => (dts_one (dt_cmp (od_ne hu) (de_cmp (od_eqV T.iv_Rules Mm__u_eq_u_ hA (hr.mono (by decide))) (de_var 10) (de_var 11) (nomark _)) (de_cmp (od_eq hu) (de_var 5) (de_var 12) (nomark _)) (nomark _)))) (fun _ _ _ _ _ => (de_var 11))) (de_lst da_nil) (nomark _))
  (dps_one (dp_ret de_bl))
  dps_nil)
  (dps_one (dp_expr (de_bm PySem.F.plainAttrs_list PySem.F.slot_list_append PySem.F.type_list_append md_append (de_var 2) (da_cons (de_tup (da_cons (de_var 5) (da_cons (de_var 10) da_nil))) da_nil))))))))))))
  (dps_cons (dp_asg de_str (dg_name 13 nd))
  (dps_cons (dp_asg (de_lst (da_cons (de_tup (da_cons de_str (da_cons de_str (da_cons (de_op od_mulT (de_tup (da_cons (de_tup da_nil) da_nil)) de_int) da_nil)))) (da_cons (de_tup (da_cons de_str (da_cons de_str (da_cons (de_op od_mulT (de_tup (da_cons (de_tup da_nil) da_nil)) de_int) da_nil)))) (da_cons (de_tup (da_cons de_str (da_cons de_str (da_cons (de_tup da_nil) da_nil)))) (da_cons (de_tup (da_cons (de_var 13) (da_cons (de_var 13) (da_cons (de_tup (da_cons (de_tup (da_cons (de_tup (da_cons de_str (da_cons de_str (da_cons de_int da_nil)))) da_nil)) da_nil)) da_nil)))) da_nil))))) (dg_name 14 nd))
  (dps_cons (dp_asg (de_op od_add (de_var 14) (de_lst (da_cons (de_tup (da_cons de_str (da_cons de_str (da_cons (de_tup da_nil) da_nil)))) (da_cons (de_tup (da_cons de_str (da_cons de_str (da_cons (de_tup da_nil) da_nil)))) (da_cons (de_tup (da_cons de_str (da_cons de_str (da_cons (de_tup (da_cons (de_tup da_nil) da_nil)) da_nil)))) (da_cons (de_tup (da_cons de_str (da_cons de_str (da_cons (de_lst (da_cons (de_tup da_nil) da_nil)) da_nil)))) (da_cons (de_tup (da_cons de_str (da_cons de_str (da_cons (de_tup (da_cons (de_tup da_nil) (da_cons (de_lst da_nil) (da_cons de_non da_nil)))) da_nil)))) da_nil))))))) (dg_name 14 nd))
  (dps_cons (dp_asg (de_op od_add (de_var 14) (de_lst (da_cons (de_tup (da_cons de_str (da_cons de_str (da_cons (de_tup (da_cons (de_tup (da_cons (de_tup (da_cons de_str (da_cons de_str (da_cons de_int da_nil)))) (da_cons (de_tup (da_cons de_str (da_cons de_str (da_cons de_int da_nil)))) da_nil))) da_nil)) da_nil)))) (da_cons (de_tup (da_cons de_str (da_cons de_str (da_cons (de_tup (da_cons (de_tup (da_cons (de_tup (da_cons de_str (da_cons de_str (da_cons de_int da_nil)))) (da_cons (de_tup (da_cons de_str (da_cons de_str (da_cons de_int da_nil)))) da_nil))) (da_cons (de_tup da_nil) da_nil))) da_nil)))) da_nil)))) (dg_name 14 nd))
  (dps_cons (dp_asg (de_op od_add (de_var 14) (de_lst (da_cons (de_tup (da_cons de_str (da_cons de_str (da_cons (de_tup (da_cons (de_tup (da_cons (de_tup (da_cons de_str (da_cons de_str (da_cons de_bl da_nil)))) da_nil)) (da_cons (de_tup da_nil) da_nil))) da_nil)))) (da_cons (de_tup (da_cons de_str (da_cons de_str (da_cons (de_tup (da_cons (de_tup (da_cons (de_tup (da_cons de_str (da_cons de_str (da_cons de_int da_nil)))) da_nil)) da_nil)) da_nil)))) (da_cons (de_tup (da_cons (de_op od_add (de_var 13) de_str) (da_cons de_str (da_cons (de_tup (da_cons (de_tup da_nil) da_nil)) da_nil)))) da_nil))))) (dg_name 14 nd))
  (dps_cons (dp_if (dt_cmp (od_neNil hu) (de_lc (own := [("_law_parts", 5)]) (p := (.nm 5)) rfl nd (di_list (de_var 14)) (blkOk_by (by show blkC N_law (defScope s_law) _ _ = true; decide +kernel)) (by decide) (fun _ _ _ _ _ => pg_name (i := 5) nd rfl (Or.inl rfl)) (fun _ _ _ _ _ => (dts_one (dt_not (dt_val (de_cal C__law_is_told hA (hr.mono (by decide)) (da_cons (de_var 5) da_nil)))))) (fun _ _ _ _ _ => (de_var 5))) (de_lst da_nil) (nomark _))
  (dps_one (dp_ret de_bl))
  dps_nil)
  (dps_cons (dp_setLc (i := 15) (own := [("_law_parts", 5)]) (p := (.nm 5)) rfl nd rfl rfl (sw_true rfl rfl rfl (by decide +kernel)) (di_list (de_slice (de_var 14) (do_some de_int) (do_some de_int))) (blkOk_by (by show blkC N_law (defScope s_law) _ _ = true; decide +kernel)) (by decide) (fun _ _ _ _ _ => pg_name (i := 5) nd rfl (Or.inl rfl)) (fun _ _ _ _ _ => dts_nil) (fun _ _ _ _ _ => (de_ix hu (de_cal C__law_heard hA (hr.mono (by decide)) (da_cons (de_var 5) (da_cons de_bl da_nil))) de_int)))
  (dps_one (dp_ret (de_cmp (od_eq hu) (de_var 15) (de_lst (da_cons de_str (da_cons de_str (da_cons (de_var 13) (da_cons de_str (da_cons de_str (da_cons de_str (da_cons de_str (da_cons de_int da_nil))))))))) (nomark _))))))))))))), fun ds G Q h => ?_⟩
    obtain ⟨ns, rfl, hl, rfl, q⟩ := h
    rw [show dstart N_law [.scr ns] = [some (.scr ns), none, none, none, none, none, none, none, none, none, none, none, none, none, none, none] from rfl]
    simp only [dxs, dl]
    refine ⟨ns, rfl, (fun _ _ _ _ _ z => by cases z), fun p c hp hc hcp => ?_⟩
    simp only
    have gp0 : shutG (fun _ => none) p c "cells" "ground" "draws" 1000000 p = some (dk 1000000) := gput_same
    generalize shutG (fun _ => none) p c "cells" "ground" "draws" 1000000 = G0 at gp0
    refine ⟨Nat.zero_le _, fun pp hpp => ⟨by decide, by decide, ?_⟩⟩
    have ppp : p ≠ pp := fun e => by rw [← e, gp0] at hpp; cases hpp
    have szs : ∀ k, k ≤ 5000 → k ≤ sizeLine := fun k h => sz h
    refine ⟨fun i S' G' => ∃ (m : Nat) (L : List Tri01) (x3 x4 x5 x6 x7 x8 x9 x10 x11 x12 : Option D), S' = [some (.scr ns), some (.rf p), some (.rf pp), x3, x4, x5, x6, x7, x8, x9, x10, x11, x12, none, none, none] ∧ G' = gput (gput G0 p (dk m)) pp (.lst (L.map (pasD C))) ∧ 1000000 ≤ m + 2000 * i ∧ L.length ≤ i,
      ⟨1000000, [], none, none, none, none, none, none, none, none, none, none, rfl, by rw [gput_self gp0]; rfl, by omega, by simp⟩, fun _ _ _ _ => trivial, ?_, ?_⟩
    · rintro i S' G' dd ⟨m, L, x3, x4, x5, x6, x7, x8, x9, x10, x11, x12, rfl, rfl, hm, hL⟩ hd
      have hi : i < 5 := by have := (List.getElem?_eq_some_iff.mp hd).1; simpa using this
      simp only [dxs, dl]
      obtain ⟨m0, rfl⟩ : ∃ m0, m = m0 + 300 := ⟨m - 300, by omega⟩
      refine ⟨p, 4, m0, false, rfl, by decide, by decide, by rw [gput_ne ppp, gput_same], fun hs ws rs m1 hm1 wo => ?_⟩
      rw [gput_under ppp]
      have wr := wor_wri01 wo (by decide)
      obtain ⟨l0, l1, l2⟩ := lv_rows wo
      simp only [uD_hs, uD_cs, uD_lines]
      refine ⟨szs _ (by decide), _, _, _, rfl, Lvl01.three l0 l1 l2 (by decide), l0.odd (by decide), l1.odd (by decide), l2.odd (by decide), ?_⟩
      simp only [dxs, dl, dx3, Bool.not_true, Bool.false_eq_true, if_false]
      refine ⟨by decide, by decide, ?_⟩
      refine ⟨fun j S' G' => ∃ (m' : Nat) (y3 y6 y7 y8 y9 : Option D), S' = [some (.scr ns), some (.rf p), some (.rf pp), y3, some (uD hs ws rs), some (parD (hs, ws, rs)), y6, y7, y8, y9, x10, x11, x12, none, none, none] ∧ G' = gput (gput G0 p (dk m')) pp (.lst (L.map (pasD C))) ∧ m1 ≤ m' + 200 * j,
        ⟨m1, _, _, _, _, _, rfl, rfl, by omega⟩, fun _ _ _ _ => trivial, ?_, ?_⟩
      · rintro j S' G' dj ⟨m', y3, y6, y7, y8, y9, rfl, rfl, hm'⟩ hdj
        have hj : j < 5 := by have := (List.getElem?_eq_some_iff.mp hdj).1; simpa using this
        have take3 : ∀ (h c L y : D) (r : Nat), (List.take r [h, c, L]).length ≤ 3 := fun h c L y r => by simp; omega
        have drop3 : ∀ (h c L y : D) (r : Nat), (List.drop r [h, c, L]).length ≤ 3 := fun h c L y r => by simp
        simp only [dxs, dl]
        obtain ⟨m2, rfl⟩ : ∃ m2, m' = m2 + 190 := ⟨m' - 190, by omega⟩
        refine ⟨p, 3, m2 + 189, rfl, by decide, by decide, by rw [gput_ne ppp, gput_same], fun r hr => ?_⟩
        rw [gput_under ppp]
        dsimp only
        refine near01 (m := m2 + 109) (by decide) hr l0 l1 l2 (by rw [gput_ne ppp, gput_same]) fun h' c' L' m3 hm3 n0 n1 n2 => ?_
        rw [gput_under ppp]
        refine ⟨szs _ (by decide), ?_⟩
        obtain ⟨m4, rfl⟩ : ∃ m4, m3 = m4 + 90 := ⟨m3 - 90, by omega⟩
        refine ⟨p, m4 + 89, _, _, rfl, .inl rfl, by simp, by simp, by rw [gput_ne ppp, gput_same], fun y hy => ?_⟩
        rw [gput_under ppp]
        obtain ⟨r2, rfl, hr2⟩ : ∃ r2 : Nat, y = .int (r2 : Int) ∧ r2 < 3 := by
          simp only [List.mem_cons, List.not_mem_nil, or_false] at hy
          rcases hy with rfl | rfl | rfl | rfl
          · exact ⟨2, rfl, by decide⟩
          · exact ⟨2, rfl, by decide⟩
          · exact ⟨0, rfl, by decide⟩
          · exact ⟨1, rfl, by decide⟩
        dsimp only
        refine near01 (m := m4 + 9) (by decide) hr2 n0 n1 n2 (by rw [gput_ne ppp, gput_same]) fun h2 c2 L2 m5 hm5 f0 f1 f2 => ?_
        rw [gput_under ppp]
        refine ⟨h', c', L', rfl, n0.three n1 n2 (by decide), n0.odd (by decide), n1.odd (by decide), n2.odd (by decide), ?_⟩
        simp only [Bool.not_true, Bool.false_eq_true, if_false]
        refine ⟨h2, c2, L2, rfl, f0.three f1 f2 (by decide), f0.odd (by decide), f1.odd (by decide), f2.odd (by decide), ?_⟩
        simp only [Bool.not_true, Bool.false_eq_true, if_false]
        exact ⟨m5, _, _, _, _, _, rfl, rfl, by omega⟩
      · rintro S' G' ⟨m', y3, y6, y7, y8, y9, rfl, rfl, hm'⟩
        have hm5 : m1 ≤ m' + 1000 := by simpa using hm'
        have j0 : D.item (parD (hs, ws, rs)) (.int 0) = some (.str (strOf hs)) := rfl
        have j1 : D.item (parD (hs, ws, rs)) (.int 1) = some (.str (strOf ws)) := rfl
        have j2 : D.item (parD (hs, ws, rs)) (.int 2) = some (rowsD rs) := rfl
        have ecp : ∀ G : GH, D.cur G (parD (hs, ws, rs)) = parD (hs, ws, rs) := fun _ => rfl
        simp only [dxs, dl, ecp, j0, j1, j2]
        intro y ny
        refine ⟨y, hs, ws, rs, rfl, gput_same, wr.val, fun r hr => by have := wo.row r hr; omega, ?_⟩
        simp only [gput_gput, gput_same, MO.cold, gdel_gput ny]
        refine ⟨rfl, hs, ws, rs, rfl, wr, ?_⟩
        dsimp only
        intro z hz
        simp only [MO.cold, gdel_gput hz]
        refine ⟨szs _ (by decide), ?_⟩
        refine lc_someA [D.non, D.int 0, parD (hs, ws, rs), .str (strOf (textOf hs ws rs)), rowsD rs, .dK []] (fun x => x) (fun _ => false) (fun x => x) (by simp) (szs 6 (by decide)) trivial (fun x hx => ⟨_, rfl, fun Q z => ?_, fun h => by cases h⟩) ?_
        · simp only [dxs, dl, dwipe, List.map_cons, List.map_nil]
          simp only [List.mem_cons, List.not_mem_nil, or_false] at hx
          have z2 := z
          rcases hx with rfl | rfl | rfl | rfl | rfl | rfl
          all_goals exact eqno01 (fun C1 fs h => by cases h) rfl z
        have nil1 : ∀ (α : Type) (xs : List α) (f : α → D) (G : GH) (Q : DQ), Q (.bl false) G → rNil true (.lst (List.map f (xs.filter fun _ => false))) (.lst []) G Q := fun α xs f G Q z => by
          have e : (xs.filter fun _ => false) = [] := by simp
          rw [e]
          exact z
        refine ⟨Nat.zero_le _, nil1 _ _ _ _ _ ?_⟩
        simp only [Bool.false_eq_true, if_false, gput_same]
        refine lc_someA L (pasD C) (fun _ => false) (fun t => rulD C (mkR t.1 t.2.1 t.2.2)) rfl (szs _ (by omega)) gput_same (fun t ht => ⟨_, rfl, fun Q z => ?_, fun h => by cases h⟩) ?_
        · simp only [dxs, dl, dwipe, List.map_cons, List.map_nil, pasD]
          refine ⟨rfl, rfl, .inl ⟨mkR hs ws rs, mkR t.1 t.2.1 t.2.2, rfl, fun b hb => ?_⟩⟩
          dsimp only
          refine ⟨okE_si (parD_si _) (parD_si _) (parD_dp _), ?_⟩
          refine ⟨rfl, ?_⟩
          have e : b = D.eqv (parD (hs, ws, rs)) (parD t) := by
            rw [Bool.eq_iff_iff, hb, eqv_si (parD_si _) (parD_si _), parD_inj]
          have e2 : D.eqv (D.bl b) (D.bl (D.eqv (parD (hs, ws, rs)) (parD t))) = true := by rw [← e]; cases b <;> rfl
          show Q (!(D.eqv (D.bl b) (D.bl (D.eqv (parD (hs, ws, rs)) (parD t))))) _
          rw [e2]
          exact z
        refine ⟨Nat.zero_le _, nil1 _ _ _ _ _ ?_⟩
        simp only [Bool.false_eq_true, if_false, gput_same]
        have ra : ∀ (d : D) (Q : DQ), ((List.map (pasD C) L).length < sizeLine ∧ Q .non (gput (gput (gput G0 p (dk m')) pp (.lst (List.map (pasD C) L))) pp (.lst (List.map (pasD C) L ++ [d])))) → rAppendD (.rf pp) [d] (gput (gput G0 p (dk m')) pp (.lst (List.map (pasD C) L))) Q := fun d Q z => by
          unfold rAppendD
          simp only [gput_same]
          exact z
        refine ⟨rfl, szs _ (by decide), ra _ _ ?_⟩
        refine ⟨by rw [List.length_map, sizeLine_eq]; omega, m', L ++ [(hs, ws, rs)], _, _, _, _, _, _, _, _, _, _, rfl, ?_, by omega, by rw [List.length_append]; simp only [List.length_cons, List.length_nil]; omega⟩
        rw [gput_gput, List.map_append]
        rfl
    · rintro S' G' ⟨m, L, x3, x4, x5, x6, x7, x8, x9, x10, x11, x12, rfl, rfl, hm, hL⟩
      generalize gput (gput G0 p (dk m)) pp (.lst (L.map (pasD C))) = G1
      simp (config := { maxSteps := 3000000 }) only [dxs, dl, dx3, sizeLine_eq, Nat.reduceAdd, Nat.reduceLeDiff, true_and, rMulT, rAddD, flat1, s_a, s_b, s_ab, s_az01, s_z01, s_ba01, s_aa01, str_nil]
      refine ⟨by simp, by decide, by decide, by simp, by decide, by decide, by decide, by decide, by decide, ?_⟩
      refine lc_someA hand01 tri01 (fun _ => false) tri01 rfl (by rw [sizeLine_eq]; decide) trivial (fun t ht => ⟨_, rfl, fun Q z => ?_, fun h => by cases h⟩) ?_
      · simp only [dxs, dl, dwipe, List.map_cons, List.map_nil, tri01]
        obtain ⟨h3, o1, o2, o3⟩ := hand01_ok t ht
        exact ⟨t.1, t.2.1, t.2.2, rfl, h3, o1, o2, o3, z⟩
      have ef : (hand01.filter fun _ => false) = [] := by simp
      rw [ef]
      have en : ∀ (G : GH) (Q : DQ), Q (.bl false) G → rNil true (.lst (List.map tri01 [])) (.lst []) G Q := fun _ _ z => z
      refine en _ _ ?_
      simp only [Bool.false_eq_true, if_false, dxs, dl]
      refine lc_mapA hand8 tri01 sec01 rfl (by rw [sizeLine_eq]; decide) trivial (fun t ht => ⟨_, rfl, fun Q z => ?_⟩) ?_
      · simp only [dxs, dl, dwipe, List.map_cons, List.map_nil, tri01]
        obtain ⟨h3, o1, o2, o3⟩ := hand01_ok t (List.mem_of_mem_drop (List.mem_of_mem_take ht))
        refine ⟨t.1, t.2.1, t.2.2, false, rfl, h3, ?_⟩
        have ec : ∀ G : GH, D.cur G (dueH t.1 t.2.1 t.2.2) = dueH t.1 t.2.1 t.2.2 := fun G => by unfold dueH; cases faultR t.1 t.2.1 t.2.2 <;> rfl
        simp only [ec, sec01_item]
        exact z
      rw [told8_is]
      have ecT : ∀ G : GH, D.cur G (.lst told8) = .lst told8 := fun _ => rfl
      have told8_dp : (D.lst told8).dp ≤ 60 := by decide +kernel
      simp only [ecT]
      refine ⟨okE_si told8_si told8_si told8_dp, ?_⟩
      have ev : (D.lst told8).eqv (.lst told8) = true := (eqv_si told8_si told8_si).mpr rfl
      have q8 : ∀ b : Bool, b = true → (fin Q).rt (D.bl b) G1 := fun b hb => by rw [hb]; exact ⟨_, Sub.refl _, q _⟩
      exact q8 _ ev
end
end Pace
end
section
set_option Elab.async false
set_option linter.all false
set_option maxRecDepth 100000
set_option maxHeartbeats 0
namespace Pace
open PySem PySem.Spec PyProof.Rows L2 DL
theorem htxt {K : PySem.W.Frag} {h : Heap} {mg : Str → Option Value} (X : K.In h) (G : h.Ns mainGlobals mg) (c : He.SaysD hfa hfn K) (cx : hex0 K = true) (ck : hkup K = true) : Txt K mg (He.ga K "Rules") where
  f_Exception := He.free_ok X G (c.fact 32 (f := .free "Exception") rfl)
  f_classmethod := He.free_ok X G (c.fact 33 (f := .free "classmethod") rfl)
  f_all := He.free_ok X G (c.fact 34 (f := .free "all") rfl)
  f_enumerate := He.free_ok X G (c.fact 35 (f := .free "enumerate") rfl)
  f_dict := He.free_ok X G (c.fact 36 (f := .free "dict") rfl)
  f_tuple := He.free_ok X G (c.fact 37 (f := .free "tuple") rfl)
  f_range := He.free_ok X G (c.fact 38 (f := .free "range") rfl)
  f_isinstance := He.free_ok X G (c.fact 39 (f := .free "isinstance") rfl)
  f_str := He.free_ok X G (c.fact 40 (f := .free "str") rfl)
  f_int := He.free_ok X G (c.fact 41 (f := .free "int") rfl)
  f_len := He.free_ok X G (c.fact 42 (f := .free "len") rfl)
  f_sorted := He.free_ok X G (c.fact 43 (f := .free "sorted") rfl)
  f_list := He.free_ok X G (c.fact 44 (f := .free "list") rfl)
  f_repr := He.free_ok X G (c.fact 45 (f := .free "repr") rfl)
  f_bool := He.free_ok X G (c.fact 46 (f := .free "bool") rfl)
  f_set := He.free_ok X G (c.fact 47 (f := .free "set") rfl)
  f_super := He.free_ok X G (c.fact 48 (f := .free "super") rfl)
  f_zip := He.free_ok X G (c.fact 49 (f := .free "zip") rfl)
  c_RULES_WORD := He.str_ok X G (c.fact 50 (f := .str "RULES_WORD" "rules") rfl)
  c_MOVE_WORD := He.str_ok X G (c.fact 51 (f := .str "MOVE_WORD" "move") rfl)
  c_BREAK := He.str_ok X G (c.fact 52 (f := .str "BREAK" "\n") rfl)
  c_BLANK := He.str_ok X G (c.fact 53 (f := .str "BLANK" " ") rfl)
  c_DIGITS := He.str_ok X G (c.fact 54 (f := .str "DIGITS" "0123456789") rfl)
  c_MOST_DIGITS := He.int_ok X G (c.fact 55 (f := .int "MOST_DIGITS" (3)) rfl)
  c_FIRST_PARTS := He.int_ok X G (c.fact 56 (f := .int "FIRST_PARTS" (4)) rfl)
  c_MOVE_PARTS_ruletexts := He.int_ok X G (c.fact 57 (f := .int "MOVE_PARTS_ruletexts" (5)) rfl)
  c_LETTERS := He.str_ok X G (c.fact 58 (f := .str "LETTERS" "abcdefghijklmnopqrstuvwxyz") rfl)
  c_MOST_STATES := He.int_ok X G (c.fact 59 (f := .int "MOST_STATES" (999)) rfl)
  c_MOVE_PARTS_rules := He.int_ok X G (c.fact 60 (f := .int "MOVE_PARTS_rules" (3)) rfl)
  c_NOWHERE := He.int_ok X G (c.fact 61 (f := .int "NOWHERE" (-1)) rfl)
  clR := He.cls_ok (c.fact 63 (f := .cls "Rules") rfl)
  mgR := He.glo_ok X G (c.fact 62 (f := .glo "Rules") rfl)
  insR := insB_ok (He.cls_ok (c.fact 63 (f := .cls "Rules") rfl)) (Bool.and_eq_true_iff.mp (Bool.and_eq_true_iff.mp cx).1).1
  neR := neB_ok (Bool.and_eq_true_iff.mp (Bool.and_eq_true_iff.mp cx).1).2
  ne_Rules := neB_ok (Bool.and_eq_true_iff.mp (Bool.and_eq_true_iff.mp (Bool.and_eq_true_iff.mp (Bool.and_eq_true_iff.mp (Bool.and_eq_true_iff.mp cx).2).1).2).2).2
  iv_Rules := insVB_ok (insB_ok (He.cls_ok (c.fact 63 (f := .cls "Rules") rfl)) (Bool.and_eq_true_iff.mp (Bool.and_eq_true_iff.mp (Bool.and_eq_true_iff.mp (Bool.and_eq_true_iff.mp cx).2).1).2).1) (Bool.and_eq_true_iff.mp (Bool.and_eq_true_iff.mp (Bool.and_eq_true_iff.mp (Bool.and_eq_true_iff.mp (Bool.and_eq_true_iff.mp cx).2).1).2).2).1
  sysM := sysB_ok (Bool.and_eq_true_iff.mp (Bool.and_eq_true_iff.mp (Bool.and_eq_true_iff.mp cx).2).1).1
  no_heard := He.noat_ok (c.fact 65 (f := .noat "Rules" "heard") rfl)
  no_written := He.noat_ok (c.fact 66 (f := .noat "Rules" "written") rfl)
  no_rows := He.noat_ok (c.fact 67 (f := .noat "Rules" "rows") rfl)
  no_steps := He.noat_ok (c.fact 68 (f := .noat "Rules" "steps") rfl)
theorem hd_are_letters {K : PySem.W.Frag} {h : Heap} {mg : Str → Option Value} (X : K.In h) (G : h.Ns mainGlobals mg) (c : He.SaysD hfa hfn K) : Def K mg "are_letters" s_are_letters := by
  obtain ⟨fd, F⟩ := c.def_ 1 (d := d_are_letters) rfl
  exact ⟨_, fd, He5.fun_of F, He.glo_ok X G (c.fact 1 (f := .glo "are_letters") rfl)⟩
theorem hd_is_integer {K : PySem.W.Frag} {h : Heap} {mg : Str → Option Value} (X : K.In h) (G : h.Ns mainGlobals mg) (c : He.SaysD hfa hfn K) : Def K mg "is_integer" s_is_integer := by
  obtain ⟨fd, F⟩ := c.def_ 7 (d := d_is_integer) rfl
  exact ⟨_, fd, He5.fun_of F, He.glo_ok X G (c.fact 7 (f := .glo "is_integer") rfl)⟩
theorem hd_is_letter_of {K : PySem.W.Frag} {h : Heap} {mg : Str → Option Value} (X : K.In h) (G : h.Ns mainGlobals mg) (c : He.SaysD hfa hfn K) : Def K mg "is_letter_of" s_is_letter_of := by
  obtain ⟨fd, F⟩ := c.def_ 8 (d := d_is_letter_of) rfl
  exact ⟨_, fd, He5.fun_of F, He.glo_ok X G (c.fact 8 (f := .glo "is_letter_of") rfl)⟩
theorem hd_is_move {K : PySem.W.Frag} {h : Heap} {mg : Str → Option Value} (X : K.In h) (G : h.Ns mainGlobals mg) (c : He.SaysD hfa hfn K) : Def K mg "is_move" s_is_move := by
  obtain ⟨fd, F⟩ := c.def_ 9 (d := d_is_move) rfl
  exact ⟨_, fd, He5.fun_of F, He.glo_ok X G (c.fact 9 (f := .glo "is_move") rfl)⟩
theorem hd_is_row {K : PySem.W.Frag} {h : Heap} {mg : Str → Option Value} (X : K.In h) (G : h.Ns mainGlobals mg) (c : He.SaysD hfa hfn K) : Def K mg "is_row" s_is_row := by
  obtain ⟨fd, F⟩ := c.def_ 10 (d := d_is_row) rfl
  exact ⟨_, fd, He5.fun_of F, He.glo_ok X G (c.fact 10 (f := .glo "is_row") rfl)⟩
theorem hd_steps_of {K : PySem.W.Frag} {h : Heap} {mg : Str → Option Value} (X : K.In h) (G : h.Ns mainGlobals mg) (c : He.SaysD hfa hfn K) : Def K mg "steps_of" s_steps_of := by
  obtain ⟨fd, F⟩ := c.def_ 11 (d := d_steps_of) rfl
  exact ⟨_, fd, He5.fun_of F, He.glo_ok X G (c.fact 11 (f := .glo "steps_of") rfl)⟩
theorem hd_Rules_u__init_u_ {K : PySem.W.Frag} (c : He.SaysD hfa hfn K) : DefI K (He.ga K "Rules") "Rules.__init__" s_Rules_u__init_u_ := by
  obtain ⟨fd, F⟩ := c.def_ 32 (d := d_RI) rfl
  exact ⟨_, fd, He5.fun_of F, He.mkr_ok (c.fact 64 (f := .mkr "Rules") rfl)⟩
theorem hd_Rules_u__eq_u_ {K : PySem.W.Frag} (c : He.SaysD hfa hfn K) : DefM K (He.ga K "Rules") "__eq__" "Rules.__eq__" s_Rules_u__eq_u_ := by
  obtain ⟨fd, F⟩ := c.def_ 33 (d := d_Rules_u__eq_u_) rfl
  exact ⟨_, fd, He5.fun_of F, He.meth_ok (c.fact 69 (f := .meth "Rules" "__eq__") rfl)⟩
theorem hd_Rules_u__len_u_ {K : PySem.W.Frag} (c : He.SaysD hfa hfn K) : DefM K (He.ga K "Rules") "__len__" "Rules.__len__" s_Rules_u__len_u_ := by
  obtain ⟨fd, F⟩ := c.def_ 34 (d := d_Rules_u__len_u_) rfl
  exact ⟨_, fd, He5.fun_of F, He.meth_ok (c.fact 70 (f := .meth "Rules" "__len__") rfl)⟩
theorem hd__law_are_signs {K : PySem.W.Frag} {h : Heap} {mg : Str → Option Value} (X : K.In h) (G : h.Ns mainGlobals mg) (c : He.SaysD hfa hfn K) : Def K mg "_law_are_signs" s__law_are_signs := by
  obtain ⟨fd, F⟩ := c.def_ 26 (d := d__law_are_signs) rfl
  exact ⟨_, fd, He5.fun_of F, He.glo_ok X G (c.fact 26 (f := .glo "_law_are_signs") rfl)⟩
theorem hd__law_is_whole {K : PySem.W.Frag} {h : Heap} {mg : Str → Option Value} (X : K.In h) (G : h.Ns mainGlobals mg) (c : He.SaysD hfa hfn K) : Def K mg "_law_is_whole" s__law_is_whole := by
  obtain ⟨fd, F⟩ := c.def_ 22 (d := d__law_is_whole) rfl
  exact ⟨_, fd, He5.fun_of F, He.glo_ok X G (c.fact 22 (f := .glo "_law_is_whole") rfl)⟩
theorem hd__law_is_line {K : PySem.W.Frag} {h : Heap} {mg : Str → Option Value} (X : K.In h) (G : h.Ns mainGlobals mg) (c : He.SaysD hfa hfn K) : Def K mg "_law_is_line" s__law_is_line := by
  obtain ⟨fd, F⟩ := c.def_ 27 (d := d__law_is_line) rfl
  exact ⟨_, fd, He5.fun_of F, He.glo_ok X G (c.fact 27 (f := .glo "_law_is_line") rfl)⟩
theorem hd__law_fault {K : PySem.W.Frag} {h : Heap} {mg : Str → Option Value} (X : K.In h) (G : h.Ns mainGlobals mg) (c : He.SaysD hfa hfn K) : Def K mg "_law_fault" s__law_fault := by
  obtain ⟨fd, F⟩ := c.def_ 28 (d := d__law_fault) rfl
  exact ⟨_, fd, He5.fun_of F, He.glo_ok X G (c.fact 28 (f := .glo "_law_fault") rfl)⟩
theorem hd__law_heard {K : PySem.W.Frag} {h : Heap} {mg : Str → Option Value} (X : K.In h) (G : h.Ns mainGlobals mg) (c : He.SaysD hfa hfn K) : Def K mg "_law_heard" s__law_heard := by
  obtain ⟨fd, F⟩ := c.def_ 29 (d := d__law_heard) rfl
  exact ⟨_, fd, He5.fun_of F, He.glo_ok X G (c.fact 29 (f := .glo "_law_heard") rfl)⟩
theorem hd__law_draw {K : PySem.W.Frag} {h : Heap} {mg : Str → Option Value} (X : K.In h) (G : h.Ns mainGlobals mg) (c : He.SaysD hfa hfn K) : Def K mg "_law_draw" s__law_draw := by
  obtain ⟨fd, F⟩ := c.def_ 20 (d := d__law_draw) rfl
  exact ⟨_, fd, He5.fun_of F, He.glo_ok X G (c.fact 20 (f := .glo "_law_draw") rfl)⟩
theorem hd__law_pick {K : PySem.W.Frag} {h : Heap} {mg : Str → Option Value} (X : K.In h) (G : h.Ns mainGlobals mg) (c : He.SaysD hfa hfn K) : Def K mg "_law_pick" s__law_pick := by
  obtain ⟨fd, F⟩ := c.def_ 21 (d := d__law_pick) rfl
  exact ⟨_, fd, He5.fun_of F, He.glo_ok X G (c.fact 21 (f := .glo "_law_pick") rfl)⟩
theorem hd__law_deck {K : PySem.W.Frag} {h : Heap} {mg : Str → Option Value} (X : K.In h) (G : h.Ns mainGlobals mg) (c : He.SaysD hfa hfn K) : Def K mg "_law_deck" s__law_deck := by
  obtain ⟨fd, F⟩ := c.def_ 19 (d := d__law_deck) rfl
  exact ⟨_, fd, He5.fun_of F, He.glo_ok X G (c.fact 19 (f := .glo "_law_deck") rfl)⟩
theorem hd__law_signs {K : PySem.W.Frag} {h : Heap} {mg : Str → Option Value} (X : K.In h) (G : h.Ns mainGlobals mg) (c : He.SaysD hfa hfn K) : Def K mg "_law_signs" s__law_signs := by
  obtain ⟨fd, F⟩ := c.def_ 23 (d := d__law_signs) rfl
  exact ⟨_, fd, He5.fun_of F, He.glo_ok X G (c.fact 23 (f := .glo "_law_signs") rfl)⟩
theorem hd__law_world {K : PySem.W.Frag} {h : Heap} {mg : Str → Option Value} (X : K.In h) (G : h.Ns mainGlobals mg) (c : He.SaysD hfa hfn K) : Def K mg "_law_world" s__law_world := by
  obtain ⟨fd, F⟩ := c.def_ 24 (d := d__law_world) rfl
  exact ⟨_, fd, He5.fun_of F, He.glo_ok X G (c.fact 24 (f := .glo "_law_world") rfl)⟩
theorem hd__law_bent {K : PySem.W.Frag} {h : Heap} {mg : Str → Option Value} (X : K.In h) (G : h.Ns mainGlobals mg) (c : He.SaysD hfa hfn K) : Def K mg "_law_bent" s__law_bent := by
  obtain ⟨fd, F⟩ := c.def_ 25 (d := d__law_bent) rfl
  exact ⟨_, fd, He5.fun_of F, He.glo_ok X G (c.fact 25 (f := .glo "_law_bent") rfl)⟩
theorem hd__law_is_told {K : PySem.W.Frag} {h : Heap} {mg : Str → Option Value} (X : K.In h) (G : h.Ns mainGlobals mg) (c : He.SaysD hfa hfn K) : Def K mg "_law_is_told" s__law_is_told := by
  obtain ⟨fd, F⟩ := c.def_ 30 (d := d__law_is_told) rfl
  exact ⟨_, fd, He5.fun_of F, He.glo_ok X G (c.fact 30 (f := .glo "_law_is_told") rfl)⟩
theorem hd_text_of {K : PySem.W.Frag} {h : Heap} {mg : Str → Option Value} (X : K.In h) (G : h.Ns mainGlobals mg) (c : He.SaysD hfa hfn K) : Def K mg "text_of" s_text_of := by
  obtain ⟨fd, F⟩ := c.def_ 3 (d := d_text_of) rfl
  exact ⟨_, fd, He5.fun_of F, He.glo_ok X G (c.fact 3 (f := .glo "text_of") rfl)⟩
theorem hd_Rules_u__str_u_ {K : PySem.W.Frag} (c : He.SaysD hfa hfn K) : DefM K (He.ga K "Rules") "__str__" "Rules.__str__" s_Rules_u__str_u_ := by
  obtain ⟨fd, F⟩ := c.def_ 35 (d := d_Rules_u__str_u_) rfl
  exact ⟨_, fd, He5.fun_of F, He.meth_ok (c.fact 71 (f := .meth "Rules" "__str__") rfl)⟩
theorem hfacts {P : Program} {w : World} {K : PySem.W.Frag} {h : Heap} {mg : Str → Option Value} {f : Addr} (X : K.In h) (G : h.Ns mainGlobals mg) (hfa0 : mg ("law" : Str) = some (.ref f)) (c : He.SaysD hfa hfn K) (cx : hex0 K = true) (ck : hkup K = true) (cy : (hys.map fun p => fnXo K (p.1 K)) = hys.map Prod.snd) (hP : P.main.file = hfl) (hT : (P.main.scope.names.lookup ("super" : Str)).isSome = false) :
    ∃ fd : FuncData, (∀ (s : Shared) (v : Value), BindsTo s fd ⟨[v], []⟩ [("_law_script", v)]) ∧ ∀ base : Heap, K.In base → base.Ns mainGlobals mg → FnG P w K mg base CX0 14 f fd ["_law_script"] (SpOf K (spLaw 63)) := by
  obtain ⟨fd, F⟩ := c.def_ 31 (d := d_law) rfl
  have e := hfa0.symm.trans (He.glo_ok X G (c.fact 31 (f := .glo "law") rfl))
  cases e
  have b := FunD.bindsA (ps := ["_law_script"]) F fun _ _ _ _ _ _ us hl => match us, hl with | [_], _ => rfl
  have T := htxt X G c cx ck
  refine ⟨fd, fun s v => b s [v] rfl, fun base _ _ => ?_⟩
  have hee := (Bool.and_eq_true_iff.mp (Bool.and_eq_true_iff.mp cx).2).2
  simp only [Bool.and_eq_true] at hee
  obtain ⟨hb_BadRules, hi_BadRules, ha_BadRules, hf_BadRules⟩ := hee
  have Er : ErT P K mg := { mg_CaptionError := He.glo_ok X G (c.fact 72 (f := .glo "CaptionError") rfl), e_BadRules := ⟨by
      obtain ⟨cc, cda, kV, doc, pm, ct, an, z⟩ := err_ok (d := dE_BadRules) hb_BadRules (ysX cy 0 (p := ((fun K => eI K "BadRules"), dE_BadRules.val)) rfl)
      exact ⟨_, cc, cda, kV, doc, pm, ct, an, hP ▸ z⟩, He.glo_ok X G (c.fact 73 (f := .glo "BadRules") rfl), T.f_super, hT⟩, i_BadRules := isEB_ok hi_BadRules, a_BadRules := xattB_ok ha_BadRules, f_BadRules := xfB_ok hf_BadRules }
  have q_are_letters := c_are_letters (P := P) (w := w) (base := base) T (hd_are_letters X G c)
  have q_is_integer := c_is_integer (P := P) (w := w) (base := base) T (hd_is_integer X G c)
  have q_is_letter_of := c_is_letter_of (P := P) (w := w) (base := base) T (hd_is_letter_of X G c)
  have q_is_move := c_is_move (P := P) (w := w) (base := base) T (hd_is_move X G c) q_is_letter_of q_is_integer
  have q_is_row := c_is_row (P := P) (w := w) (base := base) T (hd_is_row X G c) q_is_move
  have q_steps_of := c_steps_of (P := P) (w := w) (base := base) T (hd_steps_of X G c)
  have q_Rules_u__init_u_ := c_Rules_u__init_u_ (P := P) (w := w) (base := base) T (hd_Rules_u__init_u_ c) q_are_letters q_is_row q_steps_of
  have qx_Rules_u__init_u_ := x_Rules_u__init_u_ (P := P) (w := w) (base := base) T (hd_Rules_u__init_u_ c) Er q_are_letters q_is_row q_steps_of
  have q_Rules_u__eq_u_ := c_Rules_u__eq_u_ (P := P) (w := w) (base := base) T (hd_Rules_u__eq_u_ c)
  have q_Rules_u__len_u_ := c_Rules_u__len_u_ (P := P) (w := w) (base := base) T (hd_Rules_u__len_u_ c)
  have q__law_are_signs := c__law_are_signs (P := P) (w := w) (base := base) T (hd__law_are_signs X G c)
  have q__law_is_whole := c__law_is_whole (P := P) (w := w) (base := base) T (hd__law_is_whole X G c)
  have q__law_is_line := c__law_is_line (P := P) (w := w) (base := base) T (hd__law_is_line X G c) q__law_is_whole
  have q__law_fault := c__law_fault (P := P) (w := w) (base := base) T (hd__law_fault X G c) q__law_are_signs q__law_is_line
  have q__law_heard := c__law_heard (P := P) (w := w) (base := base) T (hd__law_heard X G c) Er qx_Rules_u__init_u_.2 qx_Rules_u__init_u_.1 q_Rules_u__len_u_
  have q__law_draw := c__law_draw (P := P) (w := w) (base := base) T (hd__law_draw X G c)
  have q__law_pick := c__law_pick (P := P) (w := w) (base := base) T (hd__law_pick X G c) q__law_draw
  have q__law_deck := c__law_deck (P := P) (w := w) (base := base) T (hd__law_deck X G c)
  have q__law_signs := c__law_signs (P := P) (w := w) (base := base) T (hd__law_signs X G c) q__law_pick q__law_draw
  have q__law_world := c__law_world (P := P) (w := w) (base := base) T (hd__law_world X G c) q__law_signs q__law_pick q__law_draw
  have q__law_bent := c__law_bent (P := P) (w := w) (base := base) T (hd__law_bent X G c) q__law_draw q__law_pick q__law_is_whole
  have q__law_is_told := c__law_is_told (P := P) (w := w) (base := base) T (hd__law_is_told X G c) q__law_fault q__law_heard
  have q_text_of := c_text_of (P := P) (w := w) (base := base) T (hd_text_of X G c)
  have q_Rules_u__str_u_ := c_Rules_u__str_u_ (P := P) (w := w) (base := base) T (hd_Rules_u__str_u_ c) q_text_of
  exact c_law (P := P) (w := w) (base := base) T (He5.fun_of F) q__law_deck q__law_draw q__law_pick q__law_world q__law_bent q__law_is_told q_Rules_u__init_u_ q_Rules_u__eq_u_ q_Rules_u__str_u_ q__law_heard
end Pace
open PySem PySem.W PySem.Calls PyProof.Rows
theorem PySem.Challenge.cw_pacehouse_k01_rules_of_any_values_holds : PySem.Challenge.rw_pacehouse_k01_rules_of_any_values.Holds := by
  w_on; o_law
  refine HandSHeadRun.head_any (r := OpenLaw.row PySem.Challenge.rw_pacehouse_k01_rules_of_any_values) (q := view (OpenLaw.row PySem.Challenge.rw_pacehouse_k01_rules_of_any_values).prog [52]) (H := Pace.hhk) (ob := Pace.hob) (M := 20000) (loose := Pace.hnm) (d := HandSHeadRun.topDef (OpenLaw.row PySem.Challenge.rw_pacehouse_k01_rules_of_any_values).prog 52) (kwd := []) Pace.hob_eq
    (by kernel_rfl) (fun s => by kernel_rfl) Pace.hrun (by kernel_rfl) (by kernel_rfl) (by kernel_rfl) (by rfl) (by first | assumption | decide +kernel) (by decide +kernel) ⟨rfl, rfl, rfl, rfl, rfl, by decide +kernel⟩ ?hw ?hc
  case hw => w_witness2
  case hc =>
    refine DL.walk_G (l := PySem.Challenge.rw_pacehouse_k01_rules_of_any_values) (n := 63) (k := 14) (x := "_law_script") rfl (by decide) (by kernel_rfl) ⟨rfl, by decide, by decide⟩ ?F
    intro w mg fa h Y G hmg0
    obtain ⟨K, KX, c, cxx, cy⟩ := Y
    have cx := (Bool.and_eq_true_iff.mp cxx).1
    have ck := (Bool.and_eq_true_iff.mp cxx).2
    have hmg : mg ("law" : PySem.Str) = some (.ref fa) := by
      have e : (HandSHeadRun.topDef (OpenLaw.row PySem.Challenge.rw_pacehouse_k01_rules_of_any_values).prog 52).name = ("law" : PySem.Str) := by kernel_rfl
      rw [← e]
      exact hmg0
    obtain ⟨fd, hb, hF⟩ := Pace.hfacts (P := (PySem.Challenge.rw_pacehouse_k01_rules_of_any_values).prog) (w := w) KX G hmg c cx ck cy rfl (by kernel_rfl)
    exact ⟨K, fd, KX, hb, hF⟩
end
